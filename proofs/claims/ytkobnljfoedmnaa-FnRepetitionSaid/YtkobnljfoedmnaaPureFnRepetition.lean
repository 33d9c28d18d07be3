/- For all bytes: of the cards and answers that are drawn out of them,right answers go on and wrong ones go back,no answer comes too early,and the last box is reached;the program answers as the reference does. No condition. -/
import Derived.Test.YtkobnljfoedmnaaQBEq24
import Derived.Test.YtkobnljfoedmnaaQBImplAnswerCard
import Derived.Test.YtkobnljfoedmnaaQBImplCardOf
import Derived.Test.YtkobnljfoedmnaaQBImplRunAnswers1
import Derived.Test.YtkobnljfoedmnaaQBSlicesCloneImplCard
import Derived.Test.YtkobnljfoedmnaaQBSpecDrawDayOfLast
import Derived.Test.YtkobnljfoedmnaaQBSpecL1CurCardGloss
import Derived.Test.YtkobnljfoedmnaaQImplAllOfImplAnswer
import Derived.Test.YtkobnljfoedmnaaQImplAreCards
import Derived.Test.YtkobnljfoedmnaaQImplCardAnswered
import Derived.Test.YtkobnljfoedmnaaQImplRunAnswers
import Derived.Test.YtkobnljfoedmnaaQLawsFnRepetition
import Derived.Test.YtkobnljfoedmnaaQSlicesIndexFuncImplCard
import Derived.Test.YtkobnljfoedmnaaQSpecDrawRunAnswers
import Derived.Test.YtkobnljfoedmnaaQSpecRpGood
import Derived.Test.YtkobnljfoedmnaaQSpecRunAnswers
import Derived.Test.YtkobnljfoedmnaaQ0
import Derived.Test.YtkobnljfoedmnaaWWords
import Derived.Laws.BitsLemmas
import Derived.Lib.Bytealg
import Derived.Test.YtkobnljfoedmnaaGStr
import Derived.Sort.Walk0
import Derived.Test.YtkobnljfoedmnaaGIdx
set_option linter.unusedVariables false
set_option linter.unusedSimpArgs false
namespace Go.Proofs.Ytkobnljfoedmnaa.Pure
open Go.RowKit Go.Proofs.Ytkobnljfoedmnaa.Q Go.Proofs.YtkobnljfoedmnaaW.PrintLast Go.Proofs.YtkobnljfoedmnaaW.PrintMore Go.Proofs.YtkobnljfoedmnaaW.PrintWords
theorem Ev.succ {α : Type} {g : Nat → Option α} {r : α} (h : Ev (fun k => g (k + 1)) r) : Ev g r := Ev.step (fun _ => rfl) h
theorem Ev.k {α : Type} {g : Nat → Option α} {o : Option α} {r : α} (hg : ∀ k,g k = o) (h : o = some r) : Ev g r := ⟨0,fun k _ => (hg k).trans h⟩
theorem Ev.eq {α : Type} {g : Nat → Option α} {r r' : α} (h : Ev g r) (e : r = r') : Ev g r' := e ▸ h
/-- From round i up to round n. -/
theorem Ev.upto {β : Type} {L : Nat → Nat → Option β} {r : β} {n : Nat} (hend : Ev (fun k => L k n) r)
  (hstep : ∀ j,j < n → Ev (fun k => L k (j + 1)) r → Ev (fun k => L k j) r) : ∀ i,i ≤ n → Ev (fun k => L k i) r := by
 intro i hi
 obtain ⟨d,hd⟩ : ∃ d,n = i + d := ⟨n - i,by omega⟩
 induction d generalizing i with
 | zero => simp at hd;subst hd;exact hend
 | succ d ih => exact hstep i (by omega) (ih (i + 1) (by omega) (by omega))
/-- A loop that ends early where P fails. -/
theorem Ev.all {β : Type} {L : Nat → Nat → Option β} {P : Nat → Bool} {n : Nat} {a b : β} (hend : Ev (fun k => L k n) a)
  (hyes : ∀ j r,j < n → P j = true → Ev (fun k => L k (j + 1)) r → Ev (fun k => L k j) r) (hno : ∀ j,j < n → P j = false → Ev (fun k => L k j) b) :
  ∀ i,i ≤ n → Ev (fun k => L k i) (if (List.range' i (n - i)).all P then a else b) := by
 intro i hi
 obtain ⟨d,hd⟩ : ∃ d,n = i + d := ⟨n - i,by omega⟩
 induction d generalizing i with
 | zero => simp at hd;subst hd;simpa using hend
 | succ d ih =>
  have h1 : n - i = (n - (i + 1)) + 1 := by omega
  rw [h1,List.range'_succ]
  simp only [List.all_cons]
  rcases Bool.eq_false_or_eq_true (P i) with hP | hP
  ·simp only [hP,Bool.true_and]
   exact hyes i _ (by omega) hP (ih (i + 1) (by omega) (by omega))
  ·simpa [hP] using hno i (by omega) hP
theorem Ev.all0 {β : Type} {L : Nat → Nat → Option β} {P : Nat → Bool} {n : Nat} {a b : β} (hend : Ev (fun k => L k n) a)
  (hyes : ∀ j r,j < n → P j = true → Ev (fun k => L k (j + 1)) r → Ev (fun k => L k j) r) (hno : ∀ j,j < n → P j = false → Ev (fun k => L k j) b) :
  Ev (fun k => L k 0) (if (List.range n).all P then a else b) := by
 have := Ev.all hend hyes hno 0 (Nat.zero_le _)
 rwa [Nat.sub_zero,← List.range_eq_range'] at this

theorem wrap_id {x : Int} (h0 : -9223372036854775808 ≤ x) (h1 : x ≤ 9223372036854775807) : wrap64 x = x := by
 unfold wrap64
 omega
theorem wrap_succ {n : Nat} (h : n < 4611686018427387904) : wrap64 ((n : Int) + 1) = ((n + 1 : Nat) : Int) := by
 rw [wrap_id (by omega) (by omega)]
 omega
theorem wrap_pred {n : Nat} (h0 : 0 < n) (h : n < 4611686018427387904) : wrap64 ((n : Int) - 1) = ((n - 1 : Nat) : Int) := by
 rw [wrap_id (by omega) (by omega)]
 omega
theorem nat_nonneg (n : Nat) : (0 ≤ (n : Int)) = True := eq_true (Int.natCast_nonneg n)
/-- What is left of a size, or that it was passed. -/
theorem Ev.sz {L : Nat → Nat → Int → Option Int} {n : Nat}
  (hstep : ∀ (j : Nat) (a : Int),j < n → 0 ≤ a → a ≤ 1048576 → (∃ a',0 ≤ a' ∧ a' ≤ a ∧ ∀ r,Ev (fun k => L k (j + 1) a') r → Ev (fun k => L k j a) r) ∨ Ev (fun k => L k j a) (-1))
  (hend : ∀ a : Int,0 ≤ a → a ≤ 1048576 → Ev (fun k => L k n a) a) :
  ∀ (j : Nat),j ≤ n → ∀ a : Int,0 ≤ a → a ≤ 1048576 → ∃ r,r ≤ a ∧ Ev (fun k => L k j a) r := by
 intro j hj
 obtain ⟨d,hd⟩ : ∃ d,n = j + d := ⟨n - j,by omega⟩
 induction d generalizing j with
 | zero => simp at hd;subst hd;exact fun a h0 h1 => ⟨a,Int.le_refl _,hend a h0 h1⟩
 | succ d ih =>
  intro a h0 h1
  rcases hstep j a (by omega) h0 h1 with ⟨a',h2,h3,h4⟩ | h5
  ·obtain ⟨r,h6,h7⟩ := ih (j + 1) (by omega) (by omega) a' h2 (by omega)
   exact ⟨r,by omega,h4 r h7⟩
  ·exact ⟨-1,by omega,h5⟩
/-- Bytes, and not too many. -/
structure U8 (l : List Int) : Prop where
 b : ∀ y,y ∈ l → (Lit.int .u8 y).wf = true
 n : l.length ≤ 140737488351232
theorem u8_bound {y : Int} (h : (Lit.int .u8 y).wf = true) : 0 ≤ y ∧ y ≤ 255 := by
 simp [Lit.wf,IntKind.min,IntKind.max,IntKind.bits,IntKind.signed] at h
 omega
theorem and255 (x : Int) : 0 ≤ Go.bits .and .u64 x 255 ∧ Go.bits .and .u64 x 255 ≤ 255 := by
 have h : ((BitVec.ofInt 64 x &&& BitVec.ofInt 64 255).toNat : Nat) ≤ 255 := by
  rw [BitVec.toNat_and]
  exact Nat.le_trans Nat.and_le_right (by decide)
 have e : Go.bits .and .u64 x 255 = ((((BitVec.ofInt 64 x &&& BitVec.ofInt 64 255).toNat : Nat) : Int) % 18446744073709551616) := by
  unfold Go.bits IntKind.wrap
  simp only [IntKind.signed,Bool.false_and,Bool.false_eq_true,if_false]
  rfl
 rw [e]
 generalize (BitVec.ofInt 64 x &&& BitVec.ofInt 64 255).toNat = n at h
 omega
/-- The reader at a answers what P says and goes on by no more than n. -/
def Res {α : Type} (f : Option (α × Int × Int)) (a n : Int) (P : α → Prop) : Prop := ∃ r a' s',f = some (r,a',s') ∧ P r ∧ a ≤ a' ∧ a' ≤ a + n
theorem next_ok {l : List Int} (hu : U8 l) {a : Int} (s : Int) (h0 : 0 ≤ a) (h1 : a ≤ 1000000000000) : Res (spec_l1Cur_next.f l a s) a 1 (fun r => 0 ≤ r ∧ r ≤ 255) := by
 have hw : wrap64 (a + 1) = a + 1 := wrap_id (by omega) (by omega)
 unfold spec_l1Cur_next.f
 rw [hw]
 have low : ∀ x : Int,0 ≤ wrap64 (Go.bits .and .u64 x 255) ∧ wrap64 (Go.bits .and .u64 x 255) ≤ 255 := fun x => by
  have := and255 x
  rw [wrap_id (by omega) (by omega)]
  exact this
 by_cases h2 : a < (l.length : Int)
 ·have hr : 0 ≤ rd l a ∧ rd l a ≤ 255 := by
   have hlt : a.toNat < l.length := by omega
   have e : rd l a = l[a.toNat] := by
    show l.getD a.toNat 0 = _
    rw [List.getD_eq_getElem?_getD,List.getElem?_eq_getElem hlt]
    rfl
   rw [e]
   exact u8_bound (hu.b _ (List.getElem_mem _))
  have hwr : wrap64 (rd l a) = rd l a := wrap_id (by omega) (by omega)
  rw [if_pos h2,if_pos h0,hwr]
  by_cases h3 : a + 1 ≤ (l.length : Int)
  ·rw [if_pos h3]
   exact ⟨_,_,_,rfl,hr,by omega,by omega⟩
  ·rw [if_neg h3]
   refine ⟨_,_,_,rfl,?_,by omega,by omega⟩
   exact low _
 ·rw [if_neg h2]
  by_cases h3 : a + 1 ≤ (l.length : Int)
  ·rw [if_pos h3]
   exact ⟨_,_,_,rfl,⟨by decide,by decide⟩,by omega,by omega⟩
  ·rw [if_neg h3]
   exact ⟨_,_,_,rfl,low _,by omega,by omega⟩
theorem pick_ok {l : List Int} (hu : U8 l) {a : Int} (s : Int) (h0 : 0 ≤ a) (h1 : a ≤ 999999999990) (n : Int) (hn : 1 ≤ n) (hm : n ≤ 1000000) : Res (spec_l1Cur_pick.f l a s n) a 2 (fun r => 0 ≤ r ∧ r < n) := by
 unfold spec_l1Cur_pick.f
 by_cases h2 : n ≤ 1
 ·rw [if_pos h2]
  exact ⟨_,_,_,rfl,⟨by omega,by omega⟩,by omega,by omega⟩
 ·rw [if_neg h2]
  obtain ⟨x,a1,s1,e1,⟨x0,x1⟩,p1,p2⟩ := next_ok hu s h0 (by omega)
  rw [e1]
  simp only [Option.bind_some,eq_false (show ¬ n = 0 by omega),if_false]
  by_cases h3 : n > 200
  ·obtain ⟨y,a2,s2,e2,⟨y0,y1⟩,q1,q2⟩ := next_ok hu s1 (a := a1) (by omega) (by omega)
   simp only [eq_true h3,if_true,e2,Option.bind_some]
   refine ⟨_,_,_,rfl,?_,by omega,by omega⟩
   rw [wrap_id (x := x * 256) (by omega) (by omega),wrap_id (by omega) (by omega),Int.tmod_eq_emod_of_nonneg (by omega)]
   exact ⟨Int.emod_nonneg _ (by omega),Int.emod_lt_of_pos _ (by omega)⟩
  ·simp only [eq_false h3,if_false]
   refine ⟨_,_,_,rfl,?_,by omega,by omega⟩
   rw [Int.tmod_eq_emod_of_nonneg (by omega)]
   exact ⟨Int.emod_nonneg _ (by omega),Int.emod_lt_of_pos _ (by omega)⟩
theorem one_ok {l : List Int} (hu : U8 l) {a : Int} (s : Int) (h0 : 0 ≤ a) (h1 : a ≤ 999999999990) (n : Int) (hn : 1 ≤ n) (hm : n ≤ 1000000) : Res (spec_l1Cur_one.f l a s n) a 2 (fun _ => True) := by
 obtain ⟨x,a1,s1,e1,_,p1,p2⟩ := pick_ok hu s h0 h1 n hn hm
 unfold spec_l1Cur_one.f
 rw [e1]
 exact ⟨_,_,_,rfl,trivial,p1,p2⟩
theorem among_ok {l : List Int} (hu : U8 l) {a : Int} (s : Int) (h0 : 0 ≤ a) (h1 : a ≤ 999999999990) (L : List Int) (hn : 0 < L.length) (hm : L.length ≤ 1000000) : Res (spec_l1Cur_among.f l a s L) a 2 (fun r => r ∈ L) := by
 obtain ⟨x,a1,s1,e1,⟨x0,x1⟩,p1,p2⟩ := pick_ok hu s h0 h1 (L.length : Int) (by omega) (by omega)
 unfold spec_l1Cur_among.f
 rw [e1]
 simp only [Option.bind_some,eq_true x0,eq_true x1,if_true]
 refine ⟨_,_,_,rfl,?_,p1,p2⟩
 have hlt : x.toNat < L.length := by omega
 have e : rd L x = L[x.toNat] := by
  show L.getD x.toNat 0 = _
  rw [List.getD_eq_getElem?_getD,List.getElem?_eq_getElem hlt]
  rfl
 rw [e]
 exact List.getElem_mem _
def inB (a b c : Int) : Bool := decide (b ≤ a ∧ a ≤ c)
theorem l1In_eq (a b c : Int) : spec_l1In.f a b c = some (inB a b c) := by
 unfold spec_l1In.f inB
 split <;> simp <;> omega
theorem within_eq (a b c : Int) : impl_within.f a b c = some (inB a b c) := by
 unfold impl_within.f inB
 split <;> simp <;> omega
def capAt (s : ByteArray) (j : Nat) : Bool := decide (65 ≤ bt s j ∧ bt s j ≤ 90)
def glossB (s : ByteArray) : Bool := inB s.size 1 8 && (List.range s.size).all (capAt s)
def caps : ByteArray := ⟨#[65,66,67,68,69,70,71,72,73,74,75,76,77,78,79,80,81,82,83,84,85,86,87,88,89,90]⟩
theorem caps_all : ((List.range 256).all fun n => decide (Lib.indexByte caps.data.toList n.toUInt8 < 0) == !(decide (65 ≤ n ∧ n ≤ 90))) = true := by decide +kernel
theorem caps_index (b : Int) (h0 : 0 ≤ b) (h1 : b ≤ 255) : (Lib.indexByte caps.data.toList b.toNat.toUInt8 < 0) ↔ ¬ (65 ≤ b ∧ b ≤ 90) := by
 have h := List.all_eq_true.1 caps_all b.toNat (List.mem_range.2 (by omega))
 simp only [beq_iff_eq] at h
 by_cases hc : 65 ≤ b ∧ b ≤ 90
 ·have h2 : decide (65 ≤ b.toNat ∧ b.toNat ≤ 90) = true := decide_eq_true (by omega)
  rw [h2] at h
  exact ⟨fun h3 => absurd h3 (of_decide_eq_false h),fun h3 => absurd hc h3⟩
 ·have h2 : decide (65 ≤ b.toNat ∧ b.toNat ≤ 90) = false := decide_eq_false (by omega)
  rw [h2] at h
  exact ⟨fun _ => hc,fun _ => of_decide_eq_true h⟩
theorem hasOnly_ev (s : ByteArray) (hs : s.size < 4611686018427387904) : Ev (fun k => impl_hasOnly.f k s caps) ((List.range s.size).all (capAt s)) := by
 unfold impl_hasOnly.f
 refine Ev.eq (Ev.all0 (L := fun k j => impl_hasOnly.l0 k s caps (s.size : Int) (j : Int)) (P := capAt s) (n := s.size) (a := true) (b := false) ?_ ?_ ?_) (by split <;> simp_all)
 ·refine Ev.succ ?_
  simp only [impl_hasOnly.l0,Int.lt_irrefl,if_false]
  exact Ev.now _
 ·intro j r hj hP h
  refine Ev.succ ?_
  have h1 : ((j : Int) < (s.size : Int)) = True := eq_true (by omega)
  have hb := bt_range s (j : Int)
  have h2 : (Lib.indexByte caps.data.toList (bt s (j : Int)).toNat.toUInt8 < 0) = False := eq_false (fun hc => (caps_index _ hb.1 hb.2).1 hc (of_decide_eq_true hP))
  simp only [impl_hasOnly.l0,strings_IndexByte.f,Option.bind_some,h1,if_true,nat_nonneg,h2,if_false,wrap_succ (show j < 4611686018427387904 by omega)]
  exact h
 ·intro j hj hP
  refine Ev.succ ?_
  have h1 : ((j : Int) < (s.size : Int)) = True := eq_true (by omega)
  have hb := bt_range s (j : Int)
  have h2 : (Lib.indexByte caps.data.toList (bt s (j : Int)).toNat.toUInt8 < 0) = True := eq_true ((caps_index _ hb.1 hb.2).2 (of_decide_eq_false hP))
  simp only [impl_hasOnly.l0,strings_IndexByte.f,Option.bind_some,h1,if_true,nat_nonneg,h2]
  exact Ev.now _
theorem isGloss_ev (s : ByteArray) (hs : s.size < 4611686018427387904) : Ev (fun k => impl_IsGloss.f k s) (glossB s) := by
 unfold impl_IsGloss.f impl_isWordOf.f glossB
 refine Ev.bind (a := inB s.size 1 8 && (List.range s.size).all (capAt s)) ?_ (Ev.now _)
 simp only [within_eq,Option.bind_some]
 rcases Bool.eq_false_or_eq_true (inB s.size 1 8) with h | h
 ·simp only [h,if_true,Bool.true_and]
  exact Ev.bind (hasOnly_ev s hs) (Ev.now _)
 ·simp only [h]
  exact Ev.now _
theorem fsWord_ev (s : ByteArray) (hs : s.size < 4611686018427387904) : Ev (fun k => spec_fsWord.f k s) (glossB s) := by
 unfold spec_fsWord.f
 refine Ev.eq (Ev.all0 (L := fun k j => spec_fsWord.l0 k s (j : Int)) (P := capAt s) (n := s.size) (a := inB s.size 1 8) (b := false) ?_ ?_ ?_) (by unfold glossB;split <;> simp_all)
 ·refine Ev.succ ?_
  simp only [spec_fsWord.l0,Int.lt_irrefl,if_false,l1In_eq,Option.bind_some]
  exact Ev.now _
 ·intro j r hj hP h
  refine Ev.succ ?_
  have h1 : ((j : Int) < (s.size : Int)) = True := eq_true (by omega)
  have hP' := of_decide_eq_true hP
  simp only [spec_fsWord.l0,h1,if_true,nat_nonneg,show (bt s (j : Int) < 65) = False from eq_false (by omega),show (bt s (j : Int) > 90) = False from eq_false (by omega),if_false,wrap_succ (show j < 4611686018427387904 by omega)]
  exact h
 ·intro j hj hP
  refine Ev.succ ?_
  have h1 : ((j : Int) < (s.size : Int)) = True := eq_true (by omega)
  have hP' := of_decide_eq_false hP
  simp only [spec_fsWord.l0,h1,if_true,nat_nonneg]
  by_cases h2 : bt s (j : Int) < 65
  ·simp only [eq_true h2,if_true]
   exact Ev.now _
  ·simp only [eq_false h2,if_false,show (bt s (j : Int) > 90) = True from eq_true (by omega),if_true]
   exact Ev.now _
def cardB (g : ByteArray) (b d : Int) : Bool := glossB g && (inB b 0 5 && inB d 0 99999)
theorem isFrame_eq (d : Int) : impl_isFrame.f d = some (inB d 0 99999) := by
 unfold impl_isFrame.f
 simp only [within_eq,Option.bind_some]
theorem rpDay_eq (d : Int) : spec_rpDay.f d = some (inB d 0 99999) := by
 unfold spec_rpDay.f
 simp only [l1In_eq,Option.bind_some]
theorem isCard_ev (g : ByteArray) (b d : Int) (hs : g.size < 4611686018427387904) : Ev (fun k => impl_isCard.f k g b d) (cardB g b d) := by
 unfold impl_isCard.f cardB
 refine Ev.bind (isGloss_ev g hs) ?_
 simp only [within_eq,isFrame_eq,Option.bind_some]
 rcases Bool.eq_false_or_eq_true (glossB g) with h | h <;> rcases Bool.eq_false_or_eq_true (inB b 0 5) with h2 | h2 <;> simp only [h,h2] <;> exact Ev.now _
theorem rpOne_ev (g : ByteArray) (b d : Int) (hs : g.size < 4611686018427387904) : Ev (fun k => spec_rpOne.f k g b d) (cardB g b d) := by
 unfold spec_rpOne.f cardB
 refine Ev.bind (fsWord_ev g hs) ?_
 simp only [l1In_eq,rpDay_eq,Option.bind_some]
 rcases Bool.eq_false_or_eq_true (glossB g) with h | h <;> rcases Bool.eq_false_or_eq_true (inB b 0 5) with h2 | h2 <;> simp only [h,h2] <;> exact Ev.now _
def cat (l : List S24) (j : Nat) : S24 := l.getD j z24
theorem rdc (l : List S24) (j : Nat) : rd_T24 l (j : Int) = cat l j := by simp [rd_T24,cat]
def cOk (x : S24) : Bool := cardB x.f0 x.f1 x.f2
def cAt (l : List S24) (i : Nat) : Bool := cOk (cat l i) && (decide (i = 0) || Op.bytesLess (cat l (i - 1)).f0.toList (cat l i).f0.toList)
def cgoodB (l : List S24) : Bool := if (List.range l.length).all (cAt l) then decide (l.length ≤ 20) else false
/-- Every text of the cards is short enough. -/
def CSz (l : List S24) : Prop := ∀ i,i < l.length → (cat l i).f0.size ≤ 140737488351232

theorem rpGood_ev (l : List S24) (hl : l.length < 4611686018427387904) (hz : CSz l) : Ev (fun k => spec_rpGood.f k l) (cgoodB l) := by
 unfold spec_rpGood.f cgoodB
 refine Ev.all0 (L := fun k j => spec_rpGood.l0 k l l (l.length : Int) (j : Int)) (P := cAt l) (n := l.length) ?_ ?_ ?_
 ·refine Ev.succ ?_
  simp only [spec_rpGood.l0,Int.lt_irrefl,if_false]
  refine Ev.eq (Ev.now _) ?_
  rw [decide_eq_decide]
  omega
 ·intro j r hj hP h
  refine Ev.succ ?_
  have h1 : ((j : Int) < (l.length : Int)) = True := eq_true (by omega)
  have hsz := hz j hj
  simp only [cAt,Bool.and_eq_true,Bool.or_eq_true,decide_eq_true_eq,cOk] at hP
  simp only [spec_rpGood.l0,h1,if_true,nat_nonneg,rdc,wrap_succ (show j < 4611686018427387904 by omega)]
  refine Ev.bind (Ev.eq (rpOne_ev (cat l j).f0 (cat l j).f1 (cat l j).f2 (by omega)) hP.1) ?_
  by_cases h0 : j = 0
  ·subst h0
   exact h
  ·have h2 : ((j : Int) > 0) = True := eq_true (by omega)
   have h3 : (((j - 1 : Nat) : Int) < (l.length : Int)) = True := eq_true (by omega)
   have h4 := hP.2.resolve_left h0
   simp only [h2,if_true,wrap_pred (show 0 < j by omega) (show j < 4611686018427387904 by omega),nat_nonneg,h3,rdc,h4]
   exact h
 ·intro j hj hP
  refine Ev.succ ?_
  have h1 : ((j : Int) < (l.length : Int)) = True := eq_true (by omega)
  have hsz := hz j hj
  simp only [cAt,cOk] at hP
  simp only [spec_rpGood.l0,h1,if_true,nat_nonneg,rdc,wrap_succ (show j < 4611686018427387904 by omega)]
  refine Ev.bind (rpOne_ev (cat l j).f0 (cat l j).f1 (cat l j).f2 (by omega)) ?_
  rcases Bool.eq_false_or_eq_true (cardB (cat l j).f0 (cat l j).f1 (cat l j).f2) with hk | hk
  ·simp only [hk,if_true]
   simp only [hk,Bool.true_and,Bool.or_eq_false_iff,decide_eq_false_iff_not] at hP
   have h2 : ((j : Int) > 0) = True := eq_true (by omega)
   have h3 : (((j - 1 : Nat) : Int) < (l.length : Int)) = True := eq_true (by omega)
   simp only [h2,if_true,wrap_pred (show 0 < j by omega) (show j < 4611686018427387904 by omega),nat_nonneg,h3,rdc,hP.2]
   exact Ev.now _
  ·simp only [hk]
   exact Ev.now _
theorem areCards_ev (l : List S24) (hl : l.length < 4611686018427387904) (hz : CSz l) : Ev (fun k => impl_AreCards.f k l) (cgoodB l) := by
 unfold impl_AreCards.f cgoodB
 refine Ev.all0 (L := fun k j => impl_AreCards.l0 k l l (l.length : Int) (j : Int)) (P := cAt l) (n := l.length) ?_ ?_ ?_
 ·refine Ev.succ ?_
  simp only [impl_AreCards.l0,Int.lt_irrefl,if_false]
  refine Ev.eq (Ev.now _) ?_
  rw [decide_eq_decide]
  omega
 ·intro j r hj hP h
  refine Ev.succ ?_
  have h1 : ((j : Int) < (l.length : Int)) = True := eq_true (by omega)
  have hsz := hz j hj
  simp only [cAt,Bool.and_eq_true,Bool.or_eq_true,decide_eq_true_eq,cOk] at hP
  simp only [impl_AreCards.l0,h1,if_true,nat_nonneg,rdc,wrap_succ (show j < 4611686018427387904 by omega)]
  refine Ev.bind (Ev.eq (isCard_ev (cat l j).f0 (cat l j).f1 (cat l j).f2 (by omega)) hP.1) ?_
  by_cases h0 : j = 0
  ·subst h0
   exact h
  ·have h2 : ((j : Int) > 0) = True := eq_true (by omega)
   have h3 : (((j - 1 : Nat) : Int) < (l.length : Int)) = True := eq_true (by omega)
   have h4 := hP.2.resolve_left h0
   simp only [h2,if_true,wrap_pred (show 0 < j by omega) (show j < 4611686018427387904 by omega),nat_nonneg,h3,rdc,h4]
   exact h
 ·intro j hj hP
  refine Ev.succ ?_
  have h1 : ((j : Int) < (l.length : Int)) = True := eq_true (by omega)
  have hsz := hz j hj
  simp only [cAt,cOk] at hP
  simp only [impl_AreCards.l0,h1,if_true,nat_nonneg,rdc,wrap_succ (show j < 4611686018427387904 by omega)]
  refine Ev.bind (isCard_ev (cat l j).f0 (cat l j).f1 (cat l j).f2 (by omega)) ?_
  rcases Bool.eq_false_or_eq_true (cardB (cat l j).f0 (cat l j).f1 (cat l j).f2) with hk | hk
  ·simp only [hk,if_true]
   simp only [hk,Bool.true_and,Bool.or_eq_false_iff,decide_eq_false_iff_not] at hP
   have h2 : ((j : Int) > 0) = True := eq_true (by omega)
   have h3 : (((j - 1 : Nat) : Int) < (l.length : Int)) = True := eq_true (by omega)
   simp only [h2,if_true,wrap_pred (show 0 < j by omega) (show j < 4611686018427387904 by omega),nat_nonneg,h3,rdc,hP.2]
   exact Ev.now _
  ·simp only [hk]
   exact Ev.now _
theorem of_ok {l : List Int} (hu : U8 l) {a : Int} (s : Int) (h0 : 0 ≤ a) (h1 : a ≤ 999999999990) (L : List ByteArray) (hn : 0 < L.length) (hm : L.length ≤ 1000000) : Res (spec_l1Cur_of.f l a s L) a 2 (fun r => r ∈ L) := by
 obtain ⟨x,a1,s1,e1,⟨x0,x1⟩,p1,p2⟩ := pick_ok hu s h0 h1 (L.length : Int) (by omega) (by omega)
 unfold spec_l1Cur_of.f
 rw [e1]
 simp only [Option.bind_some,eq_true x0,eq_true x1,if_true]
 refine ⟨_,_,_,rfl,?_,p1,p2⟩
 have hlt : x.toNat < L.length := by omega
 have e : rdOf ByteArray.empty L x = L[x.toNat] := by
  show L.getD x.toNat ByteArray.empty = _
  rw [List.getD_eq_getElem?_getD,List.getElem?_eq_getElem hlt]
  rfl
 rw [e]
 exact List.getElem_mem _
theorem card_ok {l : List Int} (hu : U8 l) {a : Int} (s : Int) (h0 : 0 ≤ a) (h1 : a ≤ 999999999900) (g : ByteArray) : ∃ b d a' s',Ev (fun k => spec_l1Cur_card.f k l a s g) (g,b,d,a',s') ∧ a ≤ a' ∧ a' ≤ a + 12 := by
 obtain ⟨y1,a1,s1,e1,_,p1,q1⟩ := pick_ok hu s h0 (by omega) 6 (by decide) (by decide)
 obtain ⟨y2,a2,s2,e2,_,p2,q2⟩ := pick_ok hu s1 (a := a1) (by omega) (by omega) 30 (by decide) (by decide)
 obtain ⟨y3,a3,s3,e3,_,p3,q3⟩ := among_ok hu s2 (a := a2) (by omega) (by omega) [0,5,10,10,14,y2,99999] (by simp) (by simp)
 obtain ⟨n,a4,s4,e4,_,p4,q4⟩ := pick_ok hu s3 (a := a3) (by omega) (by omega) 60 (by decide) (by decide)
 unfold spec_l1Cur_card.f
 simp only [e1,e2,e3,e4,Option.bind_some]
 by_cases c0 : n = 0
 ·obtain ⟨z,a6,s6,e6,_,p6,q6⟩ := among_ok hu s4 (a := a4) (by omega) (by omega) [(-1),6] (by decide) (by decide)
  refine ⟨z,y3,a6,s6,?_,by omega,by omega⟩
  simp only [eq_true c0,if_true,e6,Option.bind_some]
  exact Ev.succ (by simp only [spec_l1Cur_card.j0];exact Ev.now _)
 ·by_cases c1 : n = 1
  ·obtain ⟨z,a6,s6,e6,_,p6,q6⟩ := among_ok hu s4 (a := a4) (by omega) (by omega) [(-1),100000,(-9223372036854775808)] (by decide) (by decide)
   refine ⟨y1,z,a6,s6,?_,by omega,by omega⟩
   simp only [eq_false c0,if_false,eq_true c1,if_true,e6,Option.bind_some,show ((1 : Int) = 0) = False from eq_false (by decide)]
   exact Ev.succ (by simp only [spec_l1Cur_card.j0];exact Ev.now _)
  ·refine ⟨y1,y3,a4,s4,?_,by omega,by omega⟩
   simp only [eq_false c0,eq_false c1,if_false]
   exact Ev.succ (by simp only [spec_l1Cur_card.j0];exact Ev.now _)
theorem cardDay_ok {l : List Int} (hu : U8 l) {a : Int} (s : Int) (h0 : 0 ≤ a) (h1 : a ≤ 999999999900) : Res (spec_l1Cur_cardDay.f l a s) a 6 (fun _ => True) := by
 obtain ⟨n,a1,s1,e1,_,p1,q1⟩ := pick_ok hu s h0 (by omega) 40 (by decide) (by decide)
 obtain ⟨y2,a2,s2,e2,_,p2,q2⟩ := among_ok hu s1 (a := a1) (by omega) (by omega) [30,(-1),100000] (by decide) (by decide)
 obtain ⟨y3,a3,s3,e3,_,p3,q3⟩ := among_ok hu s2 (a := a2) (by omega) (by omega) [0,5,10,14,20,n,99998,99999,y2] (by simp) (by simp)
 unfold spec_l1Cur_cardDay.f
 simp only [e1,e2,e3,Option.bind_some]
 exact ⟨_,_,_,rfl,trivial,by omega,by omega⟩
def Short (g : ByteArray) : Prop := g.size ≤ 10
theorem short_cons {g : ByteArray} {L : List ByteArray} (h : Short g) (hL : ∀ x,x ∈ L → Short x) : ∀ x,x ∈ g :: L → Short x := fun x hx => by
 rcases List.mem_cons.1 hx with rfl | hx
 ·exact h
 ·exact hL x hx
theorem short_nil : ∀ x : ByteArray,x ∈ ([] : List ByteArray) → Short x := fun _ h => by cases h
theorem short_dec {g : ByteArray} (h : g.size ≤ 10) : Short g := h
theorem cardGloss_ok {l : List Int} (hu : U8 l) {a : Int} (s : Int) (h0 : 0 ≤ a) (h1 : a ≤ 999999999900) : Res (spec_l1Cur_cardGloss.f l a s) a 4 Short := by
 obtain ⟨y2,a2,s2,e2,m2,p2,q2⟩ := of_ok hu s h0 (by omega) [(⟨#[88]⟩ : ByteArray),(⟨#[]⟩ : ByteArray),(⟨#[103,111]⟩ : ByteArray)] (by simp) (by simp)
 obtain ⟨y3,a3,s3,e3,m3,p3,q3⟩ := of_ok hu s2 (a := a2) (by omega) (by omega) [(⟨#[66,79,79,75]⟩ : ByteArray),(⟨#[71,73,86,69]⟩ : ByteArray),(⟨#[71,79]⟩ : ByteArray),(⟨#[72,79,85,83,69]⟩ : ByteArray),(⟨#[73]⟩ : ByteArray),(⟨#[89,79,85]⟩ : ByteArray),(⟨#[78,69,87]⟩ : ByteArray),y2] (by simp) (by simp)
 have h2 : Short y2 := short_cons (short_dec (by decide)) (short_cons (short_dec (by decide)) (short_cons (short_dec (by decide)) short_nil)) _ m2
 have h3 : Short y3 := short_cons (short_dec (by decide)) (short_cons (short_dec (by decide)) (short_cons (short_dec (by decide)) (short_cons (short_dec (by decide)) (short_cons (short_dec (by decide)) (short_cons (short_dec (by decide)) (short_cons (short_dec (by decide)) (short_cons h2 short_nil))))))) _ m3
 unfold spec_l1Cur_cardGloss.f
 simp only [e2,e3,Option.bind_some]
 exact ⟨_,_,_,rfl,h3,by omega,by omega⟩
def CShort (l : List S24) : Prop := ∀ x,x ∈ l → Short x.f0
theorem CShort.csz {l : List S24} (h : CShort l) : CSz l := fun i hi => by
 unfold cat
 rw [List.getD_eq_getElem?_getD,List.getElem?_eq_getElem hi]
 have := h _ (List.getElem_mem hi)
 unfold Short at this
 show (l[i]).f0.size ≤ _
 omega
theorem CShort.snoc {l : List S24} (h : CShort l) {x : S24} (hx : Short x.f0) : CShort (l ++ [x]) := fun y hy => by
 rcases List.mem_append.1 hy with hy | hy
 ·exact h y hy
 ·rw [List.mem_singleton.1 hy];exact hx
def letters : ByteArray := ⟨#[65,66,67,68,69,70,71,72,73,74,75,76,77,78,79,80,81,82,83,84,85]⟩
theorem cards_l1 {l : List Int} {a s : Int} (N : Nat) (hN : N ≤ 21) : ∀ (d : Nat) (x3 : List S24),x3.length + d = N → CShort x3 → ∃ L,Ev (fun k => spec_l1Cur_cards.l1 k x3 (N : Int) l a s) (L,a,s) ∧ L.length ≤ 21 ∧ CShort L := by
 intro d
 induction d with
 | zero =>
  intro x3 hd hs
  refine ⟨x3,Ev.succ ?_,by omega,hs⟩
  simp only [spec_l1Cur_cards.l1,show ((x3.length : Int) < (N : Int)) = False from eq_false (by omega),if_false]
  exact Ev.now _
 | succ d ih =>
  intro x3 hd hs
  have e1 : (letters.extract x3.length (x3.length + 1)).size = 1 := by
   rw [ByteArray.size_extract]
   have : letters.size = 21 := rfl
   omega
  have hw : wrap64 ((x3.length : Int) + 1) = ((x3.length + 1 : Nat) : Int) := wrap_succ (by omega)
  have hlet : (⟨#[65,66,67,68,69,70,71,72,73,74,75,76,77,78,79,80,81,82,83,84,85]⟩ : ByteArray) = letters := rfl
  obtain ⟨L,hE,hL,hS⟩ := ih (x3 ++ [(⟨(⟨#[67]⟩ : ByteArray) ++ letters.extract x3.length (x3.length + 1),(x3.length : Int) % 6,(x3.length : Int)⟩ : S24)]) (by rw [List.length_append,List.length_singleton];omega) (hs.snoc (by
   show (_ ++ _ : ByteArray).size ≤ 10
   rw [ByteArray.size_append,e1]
   decide))
  refine ⟨L,Ev.succ ?_,hL,hS⟩
  simp only [spec_l1Cur_cards.l1,show ((x3.length : Int) < (N : Int)) = True from eq_true (by omega),if_true,nat_nonneg,hw,Int.toNat_natCast,hlet,e1,show ((x3.length : Int) ≤ ((x3.length + 1 : Nat) : Int)) = True from eq_true (by omega),show (((x3.length + 1 : Nat) : Int) ≤ 21) = True from eq_true (by omega),show (1 + 1 ≤ 9223372036854775807) = True from eq_true (by decide),show (x3.length < 4398046511104) = True from eq_true (by omega)]
  exact hE
def names6 : List ByteArray := [(⟨#[66,79,79,75]⟩ : ByteArray),(⟨#[71,73,86,69]⟩ : ByteArray),(⟨#[71,79]⟩ : ByteArray),(⟨#[72,79,85,83,69]⟩ : ByteArray),(⟨#[73]⟩ : ByteArray),(⟨#[89,79,85]⟩ : ByteArray)]
theorem names6_short : ∀ x,x ∈ names6 → Short x := short_cons (short_dec (by decide)) (short_cons (short_dec (by decide)) (short_cons (short_dec (by decide)) (short_cons (short_dec (by decide)) (short_cons (short_dec (by decide)) (short_cons (short_dec (by decide)) short_nil)))))
theorem cards_l0 {l : List Int} (hu : U8 l) : ∀ (d j : Nat) (x3 : List S24) (a s : Int),j + d = 6 → x3.length ≤ j → CShort x3 → 0 ≤ a → a + 20 * d ≤ 999999998000 → ∃ L a' s',Ev (fun k => spec_l1Cur_cards.l0 k x3 names6 6 (j : Int) l a s) (L,a',s') ∧ L.length ≤ 21 ∧ CShort L ∧ a ≤ a' ∧ a' ≤ a + 20 * d + 30 := by
 intro d
 induction d with
 | zero =>
  intro j x3 a s hd hl hs h0 h1
  obtain rfl : j = 6 := by omega
  obtain ⟨n,a1,s1,e1,_,p1,q1⟩ := pick_ok hu s h0 (by omega) 30 (by decide) (by decide)
  by_cases c0 : n = 0
  ·obtain ⟨g,a2,s2,e2,m2,p2,q2⟩ := of_ok hu s1 (a := a1) (by omega) (by omega) [(⟨#[90,90]⟩ : ByteArray),(⟨#[65]⟩ : ByteArray),(⟨#[]⟩ : ByteArray),(⟨#[122,122]⟩ : ByteArray)] (by simp) (by simp)
   have hg : Short g := short_cons (short_dec (by decide)) (short_cons (short_dec (by decide)) (short_cons (short_dec (by decide)) (short_cons (short_dec (by decide)) short_nil))) _ m2
   obtain ⟨b,dd,a3,s3,e3,p3,q3⟩ := card_ok hu s2 (a := a2) (by omega) (by omega) g
   refine ⟨x3 ++ [(⟨g,b,dd⟩ : S24)],a3,s3,Ev.succ ?_,by rw [List.length_append,List.length_singleton];omega,hs.snoc hg,by omega,by omega⟩
   simp only [spec_l1Cur_cards.l0,show (((6 : Nat) : Int) < 6) = False from eq_false (by decide),if_false,e1,Option.bind_some,eq_true c0,if_true,e2]
   refine Ev.bind e3 ?_
   simp only [if_true,show (x3.length < 4398046511104) = True from eq_true (by omega)]
   exact Ev.now _
  ·by_cases c1 : n = 1
   ·obtain ⟨m,a2,s2,e2,⟨m0,m1⟩,p2,q2⟩ := pick_ok hu s1 (a := a1) (by omega) (by omega) 2 (by decide) (by decide)
    obtain ⟨N,hN⟩ : ∃ N : Nat,20 + m = (N : Int) := ⟨(20 + m).toNat,by omega⟩
    obtain ⟨L,hE,hL,hS⟩ := cards_l1 (l := l) (a := a2) (s := s2) N (by omega) N [] (by simp) (fun x hx => by cases hx)
    refine ⟨L,a2,s2,Ev.succ ?_,hL,hS,by omega,by omega⟩
    simp only [spec_l1Cur_cards.l0,show (((6 : Nat) : Int) < 6) = False from eq_false (by decide),if_false,e1,Option.bind_some,eq_false c0,eq_true c1,if_true,e2,show ((1 : Int) = 0) = False from eq_false (by decide)]
    rw [wrap_id (by omega) (by omega),hN]
    exact hE
   ·refine ⟨x3,a1,s1,Ev.succ ?_,by omega,hs,by omega,by omega⟩
    simp only [spec_l1Cur_cards.l0,show (((6 : Nat) : Int) < 6) = False from eq_false (by decide),if_false,e1,Option.bind_some,eq_false c0,eq_false c1]
    exact Ev.now _
 | succ d ih =>
  intro j x3 a s hd hl hs h0 h1
  obtain ⟨b,a1,s1,e1,_,p1,q1⟩ := one_ok hu s h0 (by omega) 2 (by decide) (by decide)
  have hj : ((j : Int) < 6) = True := eq_true (by omega)
  have hn6 : (names6.length : Int) = 6 := rfl
  have hw : wrap64 ((j : Int) + 1) = ((j + 1 : Nat) : Int) := wrap_succ (by omega)
  cases b with
  | true =>
   have hm : rdOf ByteArray.empty names6 (j : Int) ∈ names6 := by
    have hlt : j < names6.length := by show j < 6;omega
    have e : rdOf ByteArray.empty names6 (j : Int) = names6[j] := by
     show names6.getD ((j : Int)).toNat ByteArray.empty = _
     rw [Int.toNat_natCast,List.getD_eq_getElem?_getD,List.getElem?_eq_getElem hlt]
     rfl
    rw [e]
    exact List.getElem_mem _
   obtain ⟨bb,dd,a2,s2,e2,p2,q2⟩ := card_ok hu s1 (a := a1) (by omega) (by omega) (rdOf ByteArray.empty names6 (j : Int))
   obtain ⟨L,a',s',hE,hL,hS,r1,r2⟩ := ih (j + 1) (x3 ++ [(⟨rdOf ByteArray.empty names6 (j : Int),bb,dd⟩ : S24)]) a2 s2 (by omega) (by rw [List.length_append,List.length_singleton];omega) (hs.snoc (names6_short _ hm)) (by omega) (by omega)
   refine ⟨L,a',s',Ev.succ ?_,hL,hS,by omega,by omega⟩
   simp only [spec_l1Cur_cards.l0,hj,if_true,nat_nonneg,hn6,e1,Option.bind_some]
   refine Ev.bind e2 ?_
   simp only [if_true,show (x3.length < 4398046511104) = True from eq_true (by omega),hw]
   exact hE
  | false =>
   obtain ⟨L,a',s',hE,hL,hS,r1,r2⟩ := ih (j + 1) x3 a1 s1 (by omega) (by omega) hs (by omega) (by omega)
   refine ⟨L,a',s',Ev.succ ?_,hL,hS,by omega,by omega⟩
   simp only [spec_l1Cur_cards.l0,hj,if_true,nat_nonneg,hn6,e1,Option.bind_some,Bool.false_eq_true,if_false,hw]
   exact hE
theorem cards_ok {l : List Int} (hu : U8 l) {a : Int} (s : Int) (h0 : 0 ≤ a) (h1 : a ≤ 999999997000) : ∃ L a' s',Ev (fun k => spec_l1Cur_cards.f k l a s) (L,a',s') ∧ L.length ≤ 21 ∧ CShort L ∧ a ≤ a' ∧ a' ≤ a + 200 := by
 obtain ⟨L,a',s',hE,hL,hS,r1,r2⟩ := cards_l0 hu 6 0 [] a s (by omega) (by simp) (fun x hx => by cases hx) h0 (by omega)
 refine ⟨L,a',s',?_,hL,hS,r1,by omega⟩
 unfold spec_l1Cur_cards.f
 exact hE
theorem qInts_ev (l : List Int) (hl : l.length < 4611686018427387904) : Ev (fun k => laws_qInts.f k l l) true := by
 unfold laws_qInts.f
 simp only [if_true]
 exact Ev.upto (L := fun k j => laws_qInts.l0 k l l (l.length : Int) (j : Int)) (r := true) (n := l.length)
  (by
   refine Ev.succ ?_
   simp only [laws_qInts.l0,Int.lt_irrefl,if_false]
   exact Ev.now _)
  (by
   intro j hj h
   refine Ev.succ ?_
   simp only [laws_qInts.l0,show ((j : Int) < (l.length : Int)) = True from eq_true (by omega),if_true,nat_nonneg,wrap_succ (show j < 4611686018427387904 by omega)]
   exact h)
  0 (Nat.zero_le _)
theorem qHas_ev (l : List Int) (hl : l.length < 4611686018427387904) (x : Int) : Ev (fun k => laws_qHas.f k l x) (decide (x ∈ l)) := by
 unfold laws_qHas.f
 have key : ∀ d j,j + d = l.length → Ev (fun k => laws_qHas.l0 k x l (l.length : Int) (j : Int)) (decide (x ∈ l.drop j)) := by
  intro d
  induction d with
  | zero =>
   intro j hj
   refine Ev.succ ?_
   simp only [laws_qHas.l0,show ((j : Int) < (l.length : Int)) = False from eq_false (by omega),if_false]
   rw [List.drop_of_length_le (by omega)]
   exact Ev.now _
  | succ d ih =>
   intro j hj
   have hlt : j < l.length := by omega
   have e : rd l (j : Int) = l[j] := by
    show l.getD ((j : Int)).toNat 0 = _
    rw [Int.toNat_natCast,List.getD_eq_getElem?_getD,List.getElem?_eq_getElem hlt]
    rfl
   refine Ev.succ ?_
   simp only [laws_qHas.l0,show ((j : Int) < (l.length : Int)) = True from eq_true (by omega),if_true,nat_nonneg,e,wrap_succ (show j < 4611686018427387904 by omega)]
   rw [List.drop_eq_getElem_cons hlt]
   by_cases hx : l[j] = x
   ·simp only [eq_true hx,if_true]
    refine Ev.eq (Ev.now _) ?_
    rw [hx]
    simp
   ·simp only [eq_false hx,if_false]
    refine Ev.eq (ih (j + 1) (by omega)) ?_
    rw [decide_eq_decide,List.mem_cons]
    exact ⟨.inr,fun h => h.resolve_left (fun h2 => hx h2.symm)⟩
 exact key l.length 0 (by omega)
theorem qCards_ev (l : List S24) (hl : l.length < 4611686018427387904) : Ev (fun k => laws_qCards.f k l l) true := by
 unfold laws_qCards.f
 simp only [if_true]
 exact Ev.upto (L := fun k j => laws_qCards.l0 k l l (l.length : Int) (j : Int)) (r := true) (n := l.length)
  (by
   refine Ev.succ ?_
   simp only [laws_qCards.l0,Int.lt_irrefl,if_false]
   exact Ev.now _)
  (by
   intro j hj h
   refine Ev.succ ?_
   simp only [laws_qCards.l0,show ((j : Int) < (l.length : Int)) = True from eq_true (by omega),if_true,nat_nonneg,beq_self_eq_true,Bool.not_true,Bool.or_self,Bool.false_eq_true,if_false,wrap_succ (show j < 4611686018427387904 by omega)]
   exact h)
  0 (Nat.zero_le _)
theorem shl1 (b : Int) (h0 : 0 ≤ b) (h1 : b ≤ 5) : shl .i64 1 b = 2 ^ b.toNat ∧ 1 ≤ (2 : Int) ^ b.toNat ∧ (2 : Int) ^ b.toNat ≤ 32 := by
 have h : b = 0 ∨ b = 1 ∨ b = 2 ∨ b = 3 ∨ b = 4 ∨ b = 5 := by omega
 rcases h with rfl | rfl | rfl | rfl | rfl | rfl <;> decide +kernel
theorem u64_id (b : Int) (h0 : 0 ≤ b) (h1 : b ≤ 6) : IntKind.u64.wrap b = b := by
 have h : b = 0 ∨ b = 1 ∨ b = 2 ∨ b = 3 ∨ b = 4 ∨ b = 5 ∨ b = 6 := by omega
 rcases h with rfl | rfl | rfl | rfl | rfl | rfl | rfl <;> decide +kernel
def pw (b : Int) : Int := 2 ^ b.toNat
theorem daysFor_eq (b : Int) (h0 : 0 ≤ b) (h1 : b ≤ 5) : impl_daysFor.f b = some (pw b) := by
 unfold impl_daysFor.f
 rw [if_pos h0,(shl1 b h0 h1).1]
 rfl
theorem pw_bounds (b : Int) (h0 : 0 ≤ b) (h1 : b ≤ 5) : 1 ≤ pw b ∧ pw b ≤ 32 := (shl1 b h0 h1).2
def boxOf (b : Int) (right : Bool) : Int := if right then mn (b + 1) 5 else 0
theorem boxOf_bounds (b : Int) (right : Bool) (h0 : 0 ≤ b) (h1 : b ≤ 5) : 0 ≤ boxOf b right ∧ boxOf b right ≤ 5 := by
 unfold boxOf mn
 split
 ·split <;> omega
 ·omega
/-- The card after an answer; the last is false where it fails. -/
def nextR (g : ByteArray) (b d day : Int) (right : Bool) : ByteArray × Int × Int × Bool :=
 if day < d then (⟨#[]⟩,0,0,false) else if inB (day + pw (boxOf b right)) 0 99999 then (g,boxOf b right,day + pw (boxOf b right),true) else (⟨#[]⟩,0,0,false)
theorem cardB_parts {g : ByteArray} {b d : Int} (h : cardB g b d = true) : glossB g = true ∧ (0 ≤ b ∧ b ≤ 5) ∧ (0 ≤ d ∧ d ≤ 99999) := by
 simp only [cardB,Bool.and_eq_true,inB,decide_eq_true_eq] at h
 exact h
theorem least_eq (b : Int) : spec_l1Least.f 5 b = some (mn b 5) := by
 unfold spec_l1Least.f mn
 split <;> rfl
theorem rpNext_eq (g : ByteArray) (b d day : Int) (right : Bool) (h : cardB g b d = true) (hd : 0 ≤ day ∧ day ≤ 99999) : spec_rpNext.f g b d day right = some (nextR g b d day right) := by
 obtain ⟨_,hb,hdd⟩ := cardB_parts h
 have hx := boxOf_bounds b right hb.1 hb.2
 have hp := pw_bounds _ hx.1 hx.2
 unfold spec_rpNext.f nextR
 by_cases h1 : d > day
 ·rw [if_pos h1,if_pos (show day < d by omega)]
 ·rw [if_neg h1,if_neg (show ¬ day < d by omega)]
  cases right with
  | true =>
   have e : boxOf b true = mn (b + 1) 5 := rfl
   rw [e] at hx hp ⊢
   have hs : shl .i64 1 (mn (b + 1) 5) = pw (mn (b + 1) 5) := (shl1 _ hx.1 hx.2).1
   simp only [if_true,wrap_id (x := b + 1) (by omega) (by omega),least_eq,Option.bind_some,u64_id (mn (b + 1) 5) hx.1 (by omega),show (0 ≤ mn (b + 1) 5) = True from eq_true hx.1,hs,wrap_id (x := day + pw (mn (b + 1) 5)) (by omega) (by omega),rpDay_eq]
   split <;> simp_all
  | false =>
   have e : boxOf b false = 0 := rfl
   have e2 : pw 0 = 1 := by decide +kernel
   rw [e,e2]
   simp only [wrap_id (x := day + 1) (by omega) (by omega),rpDay_eq,Option.bind_some]
   rcases Bool.eq_false_or_eq_true (inB (day + 1) 0 99999) with h2 | h2 <;> simp [h2]
theorem answered_ev (g : ByteArray) (b d day : Int) (right : Bool) (hs : g.size < 4611686018427387904) (h : cardB g b d = true) (hd : 0 ≤ day ∧ day ≤ 99999) : Ev (fun k => impl_Card_answered.f k g b d day right) (nextR g b d day right) := by
 obtain ⟨hg,hb,hdd⟩ := cardB_parts h
 have hx := boxOf_bounds b right hb.1 hb.2
 have hp := pw_bounds _ hx.1 hx.2
 have key : Ev (fun k => impl_Card_answered.j0 k day (boxOf b right) g b d) (nextR g b d day right) := by
  refine Ev.succ ?_
  unfold nextR
  simp only [impl_Card_answered.j0,daysFor_eq _ hx.1 hx.2,Option.bind_some]
  by_cases h1 : day < d
  ·simp only [eq_true h1,if_true]
   exact Ev.now _
  ·simp only [eq_false h1,if_false,wrap_id (x := day + pw (boxOf b right)) (by omega) (by omega)]
   refine Ev.bind (isCard_ev g _ _ hs) ?_
   have e : cardB g (boxOf b right) (day + pw (boxOf b right)) = inB (day + pw (boxOf b right)) 0 99999 := by
    unfold cardB
    rw [hg,show inB (boxOf b right) 0 5 = true from decide_eq_true hx]
    simp
   rw [e]
   rcases Bool.eq_false_or_eq_true (inB (day + pw (boxOf b right)) 0 99999) with h2 | h2 <;> simp only [h2] <;> exact Ev.now _
 unfold impl_Card_answered.f
 cases right with
 | true =>
  have e : boxOf b true = mn (b + 1) 5 := rfl
  rw [e] at key
  simp only [if_true,wrap_id (x := b + 1) (by omega) (by omega)]
  exact key
 | false => exact key
def gk (x : S24) : List UInt8 := x.f0.data.toList
theorem cless (x y : S24) : Op.bytesLess x.f0.toList y.f0.toList = decide (gk x < gk y) := by rw [ByteArray.toList_eq,ByteArray.toList_eq,Go.Proofs.bytesLess_eq];rfl
theorem cat_get (l : List S24) (j : Nat) (h : j < l.length) : cat l j = l[j] := by unfold cat;rw [List.getD_eq_getElem?_getD,List.getElem?_eq_getElem h];rfl
theorem adj_pairwise {α : Type} {R : α → α → Prop} (tr : ∀ a b c,R a b → R b c → R a c) (l : List α) (h : ∀ i (hi : i + 1 < l.length),R (l[i]'(by omega)) l[i + 1]) : l.Pairwise R := by
 rw [List.pairwise_iff_getElem]
 intro i j hi hj hij
 obtain ⟨d,rfl⟩ : ∃ d,j = i + 1 + d := ⟨j - (i + 1),by omega⟩
 clear hij
 induction d with
 | zero => exact h i hj
 | succ d ih => exact tr _ _ _ (ih (by omega)) (h (i + 1 + d) (by omega))
theorem cgood_iff (l : List S24) : cgoodB l = true ↔ (∀ x,x ∈ l → cOk x = true) ∧ l.Pairwise (fun a b => gk a < gk b) ∧ l.length ≤ 20 := by
 have key : (List.range l.length).all (cAt l) = true ↔ ∀ i,i < l.length → cAt l i = true := by simp
 unfold cgoodB
 by_cases h : (List.range l.length).all (cAt l) = true
 ·rw [if_pos h,decide_eq_true_eq]
  rw [key] at h
  refine ⟨fun h2 => ⟨fun x hx => ?_,adj_pairwise (R := fun a b => gk a < gk b) (fun a b c h1 h2 => List.lt_trans h1 h2) l fun i hi => ?_,h2⟩,fun h2 => h2.2.2⟩
  ·obtain ⟨i,hi,rfl⟩ := List.mem_iff_getElem.1 hx
   have := h i hi
   unfold cAt at this
   rw [Bool.and_eq_true,cat_get l i hi] at this
   exact this.1
  ·have := h (i + 1) hi
   unfold cAt at this
   rw [Bool.and_eq_true,Nat.add_sub_cancel,cat_get l _ hi,cat_get l i (by omega),cless] at this
   simpa using this.2
 ·rw [if_neg h]
  refine ⟨fun h2 => by simp at h2,fun ⟨h1,h2,h3⟩ => absurd (key.2 fun i hi => ?_) h⟩
  unfold cAt
  rw [Bool.and_eq_true,cat_get l i hi]
  refine ⟨h1 _ (List.getElem_mem hi),?_⟩
  by_cases h0 : i = 0
  ·simp [h0]
  ·rw [cat_get l (i - 1) (by omega),cless,decide_eq_true (List.pairwise_iff_getElem.1 h2 (i - 1) i (by omega) hi (by omega))]
   simp
theorem csz_iff (l : List S24) : CSz l ↔ ∀ x,x ∈ l → x.f0.size ≤ 140737488351232 := by
 refine ⟨fun h x hx => ?_,fun h i hi => by rw [cat_get l i hi];exact h _ (List.getElem_mem hi)⟩
 obtain ⟨i,hi,rfl⟩ := List.mem_iff_getElem.1 hx
 have := h i hi
 rwa [cat_get l i hi] at this
theorem anyO_ev {α : Type} {p : Nat → α → Option Bool} {f : α → Bool} : ∀ {l : List α},(∀ x,x ∈ l → Ev (fun k => p k x) (f x)) → Ev (fun k => Go.Proofs.YtkobnljfoedmnaaW.GIdx.anyO (p k) l) (l.any f)
 | [],_ => Ev.now _
 | x :: l,h => by
  unfold Go.Proofs.YtkobnljfoedmnaaW.GIdx.anyO
  refine Ev.bind (h x (List.mem_cons_self ..)) ?_
  rw [List.any_cons]
  cases f x with
  | true => exact Ev.now _
  | false => simpa using anyO_ev (l := l) fun y hy => h y (List.mem_cons_of_mem _ hy)
theorem ev_map {α β : Type} {g : Nat → Option α} {r : α} (h : Ev g r) (f : α → β) : Ev (fun k => (g k).map f) (f r) := by
 obtain ⟨K,h⟩ := h
 exact ⟨K,fun k hk => by show (g k).map f = some (f r);rw [h k hk];rfl⟩
theorem any_not {α : Type} (l : List α) (f : α → Bool) : (!l.any fun x => !f x) = l.all f := by
 induction l with
 | nil => rfl
 | cons x l ih => rw [List.any_cons,List.all_cons,← ih,Bool.not_or,Bool.not_not]
theorem allO_ev {α : Type} {p : Nat → α → Option Bool} {f : α → Bool} {l : List α} (h : ∀ x,x ∈ l → Ev (fun k => p k x) (f x)) : Ev (fun k => Go.Proofs.YtkobnljfoedmnaaW.GIdx.allO (p k) l) (l.all f) := by
 unfold Go.Proofs.YtkobnljfoedmnaaW.GIdx.allO
 have h1 := anyO_ev (p := fun k x => (p k x).map (!·)) (f := fun x => !f x) (l := l) (fun x hx => ev_map (h x hx) _)
 have h2 := ev_map h1 (fun b => !b)
 rw [any_not] at h2
 exact h2
def aOk (x : S45) : Bool := inB x.f0 0 99999 && glossB x.f1
def an (l : List S45) (j : Nat) : S45 := l.getD j z45
theorem rdan (l : List S45) (j : Nat) : rd_T45 l (j : Int) = an l j := by simp [rd_T45,an]
theorem an_get (l : List S45) (j : Nat) (h : j < l.length) : an l j = l[j] := by unfold an;rw [List.getD_eq_getElem?_getD,List.getElem?_eq_getElem h];rfl
def ASz (l : List S45) : Prop := ∀ x,x ∈ l → x.f1.size ≤ 140737488351232
def ofG (a : S45) (x : S24) : Bool := decide (x.f0.toList = a.f1.toList)
def nx (x : S24) (a : S45) : ByteArray × Int × Int × Bool := nextR x.f0 x.f1 x.f2 a.f0 a.f2
/-- One answer. -/
def stepR (out : List S24) (a : S45) : List S24 × Bool :=
 match out.findIdx? (ofG a) with
 | none => (out,false)
 | some j => if (nx (cat out j) a).2.2.2 = true then (out.set j ⟨(nx (cat out j) a).1,(nx (cat out j) a).2.1,(nx (cat out j) a).2.2.1⟩,true) else (out,false)
def runR : List S45 → Nat → List S24 → List Int → List S24 × List Int × Bool
 | [],_,out,idle => (out,idle,true)
 | a :: l,i,out,idle => runR l (i + 1) (stepR out a).1 (if (stepR out a).2 = true then idle else idle ++ [(i : Int)])
structure CInv (l : List S24) : Prop where
 ok : ∀ x,x ∈ l → cOk x = true
 up : l.Pairwise fun a b => gk a < gk b
 le : l.length ≤ 20
 sz : ∀ x,x ∈ l → x.f0.size ≤ 140737488351232
theorem nx_facts {x : S24} {a : S45} (hx : cOk x = true) (h : (nx x a).2.2.2 = true) : (nx x a).1 = x.f0 ∧ cOk ⟨(nx x a).1,(nx x a).2.1,(nx x a).2.2.1⟩ = true := by
 obtain ⟨hg,hb,hd⟩ := cardB_parts hx
 have hbox := boxOf_bounds x.f1 a.f2 hb.1 hb.2
 unfold nx nextR at h ⊢
 split at h
 ·cases h
 ·rename_i h1
  split at h
  ·rename_i h2
   rw [if_neg h1,if_pos h2]
   refine ⟨rfl,?_⟩
   unfold cOk cardB
   simp only [hg,h2,Bool.true_and,Bool.and_true]
   exact decide_eq_true hbox
  ·cases h
theorem gk_of {x y : S24} (h : x.f0 = y.f0) : gk x = gk y := by unfold gk;rw [h]
theorem CInv.set {l : List S24} (h : CInv l) {j : Nat} (hj : j < l.length) {y : S24} (hy : y.f0 = l[j].f0) (ho : cOk y = true) : CInv (l.set j y) := by
 have hm : (l.set j y).map gk = l.map gk := by
  rw [List.map_set,gk_of hy]
  refine List.ext_getElem (by simp) fun i h1 h2 => ?_
  rw [List.getElem_set]
  split
  ·rename_i e;subst e;simp
  ·rfl
 refine ⟨fun x hx => ?_,?_,by rw [List.length_set];exact h.le,fun x hx => ?_⟩
 ·rcases List.mem_or_eq_of_mem_set hx with h1 | h1
  ·exact h.ok x h1
  ·rw [h1];exact ho
 ·have h1 := (List.pairwise_map (f := gk) (l := l.set j y) (R := fun a b : List UInt8 => a < b)).1
  exact h1 (by rw [hm];exact List.pairwise_map.2 h.up)
 ·rcases List.mem_or_eq_of_mem_set hx with h1 | h1
  ·exact h.sz x h1
  ·rw [h1,hy];exact h.sz _ (List.getElem_mem hj)
theorem ofG_one {l : List S24} (h : CInv l) {a : S45} {i j : Nat} (hi : i < l.length) (hj : j < l.length) (e1 : ofG a l[i] = true) (e2 : ofG a l[j] = true) : i = j := by
 have h1 : l[i].f0.toList = l[j].f0.toList := (of_decide_eq_true e1).trans (of_decide_eq_true e2).symm
 rw [ByteArray.toList_eq,ByteArray.toList_eq] at h1
 have hp := List.pairwise_iff_getElem.1 h.up
 rcases Nat.lt_trichotomy i j with h2 | h2 | h2
 ·have := hp i j hi hj h2
  unfold gk at this
  rw [h1] at this
  exact (List.lt_irrefl _ this).elim
 ·exact h2
 ·have := hp j i hj hi h2
  unfold gk at this
  rw [h1] at this
  exact (List.lt_irrefl _ this).elim
theorem find_cases {l : List S24} (h : CInv l) (a : S45) : (stepR l a = (l,false) ∧ l.findIdx? (ofG a) = none ∧ ∀ i (hi : i < l.length),ofG a l[i] = false) ∨ ∃ j,∃ hj : j < l.length,l.findIdx? (ofG a) = some j ∧ ofG a l[j] = true ∧ (∀ i (hi : i < l.length),i ≠ j → ofG a l[i] = false) ∧ stepR l a = (if (nx l[j] a).2.2.2 = true then (l.set j ⟨(nx l[j] a).1,(nx l[j] a).2.1,(nx l[j] a).2.2.1⟩,true) else (l,false)) := by
 cases hq : l.findIdx? (ofG a) with
 | none =>
  left
  refine ⟨by unfold stepR;rw [hq],rfl,fun i hi => ?_⟩
  exact List.findIdx?_eq_none_iff.1 hq _ (List.getElem_mem hi)
 | some j =>
  right
  obtain ⟨hj,hp,_⟩ := List.findIdx?_eq_some_iff_getElem.1 hq
  refine ⟨j,hj,rfl,hp,fun i hi hne => ?_,by unfold stepR;rw [hq];simp only [cat_get l j hj]⟩
  cases hb : ofG a l[i] with
  | false => rfl
  | true => exact (hne (ofG_one h hi hj hb hp)).elim
theorem step_inv {l : List S24} (h : CInv l) (a : S45) : CInv (stepR l a).1 ∧ (stepR l a).1.length = l.length := by
 rcases find_cases h a with ⟨e,_⟩ | ⟨j,hj,_,_,_,e⟩
 ·rw [e];exact ⟨h,rfl⟩
 ·rw [e]
  split
  ·rename_i h1
   obtain ⟨f1,f2⟩ := nx_facts (h.ok _ (List.getElem_mem hj)) h1
   exact ⟨h.set hj f1 f2,by simp⟩
  ·exact ⟨h,rfl⟩
theorem runR_facts : ∀ (l : List S45) (i : Nat) (out : List S24) (idle : List Int),CInv out → CInv (runR l i out idle).1 ∧ (runR l i out idle).1.length = out.length ∧ (runR l i out idle).2.1.length ≤ idle.length + l.length ∧ (runR l i out idle).2.2 = true
 | [],_,out,idle,h => ⟨h,rfl,by simp [runR],rfl⟩
 | a :: l,i,out,idle,h => by
  obtain ⟨h1,h2⟩ := step_inv h a
  obtain ⟨g1,g2,g3,g4⟩ := runR_facts l (i + 1) (stepR out a).1 (if (stepR out a).2 = true then idle else idle ++ [(i : Int)]) h1
  refine ⟨g1,g2.trans h2,?_,g4⟩
  unfold runR
  refine Nat.le_trans g3 ?_
  split <;> simp <;> omega
/-! the program -/
theorem cardOf_eq (l : List S24) (a : S45) : impl_cardOf.f l a.f1 = some (match l.findIdx? (ofG a) with | some j => (j : Int) | none => -1) := by
 unfold impl_cardOf.f slices_IndexFunc_impl_Card.f
 show ((Go.Proofs.YtkobnljfoedmnaaW.GIdx.idxO (fun x => some (ofG a x)) l 0).bind fun t102 => some t102) = _
 rw [Go.Proofs.YtkobnljfoedmnaaW.GIdx.idxO_some (f := ofG a) (fun x _ => rfl)]
 simp only [Option.bind_some,Nat.zero_add]
 cases l.findIdx? (ofG a) <;> rfl
theorem implRun_l0 (asw : List S45) (hv : ∀ x,x ∈ asw → aOk x = true) (hl : asw.length ≤ 40) : ∀ d i (out : List S24) (idle : List Int),i + d = asw.length → CInv out → idle.length ≤ i →
  Ev (fun k => impl_RunAnswers.l0 k out idle asw (asw.length : Int) (i : Int)) (runR (asw.drop i) i out idle) := by
 intro d
 induction d with
 | zero =>
  intro i out idle hi h hid
  have e : asw.drop i = [] := List.drop_of_length_le (by omega)
  refine Ev.succ ?_
  simp only [impl_RunAnswers.l0,show ((i : Int) < (asw.length : Int)) = False from eq_false (by omega),if_false,e,runR]
  exact Ev.now _
 | succ d ih =>
  intro i out idle hi h hid
  have hlt : i < asw.length := by omega
  have g1 : ((i : Int) < (asw.length : Int)) = True := eq_true (by omega)
  have e4 : wrap64 ((i : Int) + 1) = ((i + 1 : Nat) : Int) := wrap_succ (by omega)
  have gi : (idle.length < 17592186044416) = True := eq_true (by omega)
  rw [List.drop_eq_getElem_cons hlt]
  unfold runR
  have hday : 0 ≤ asw[i].f0 ∧ asw[i].f0 ≤ 99999 := by
   have := hv _ (List.getElem_mem hlt)
   unfold aOk at this
   rw [Bool.and_eq_true] at this
   exact of_decide_eq_true this.1
  refine Ev.succ ?_
  simp only [impl_RunAnswers.l0,g1,if_true,nat_nonneg,rdan,an_get asw i hlt,cardOf_eq,e4,gi]
  rcases find_cases h asw[i] with ⟨e,eq,_⟩ | ⟨j,hj,eq,hof,_,e⟩
  ·rw [e,eq]
   simp only [Option.bind_some,show ((-1 : Int) < 0) = True from eq_true (by decide),if_true,Bool.false_eq_true,if_false]
   exact ih (i + 1) out _ (by omega) h (by simp;omega)
  ·rw [e,eq]
   have hok := h.ok _ (List.getElem_mem hj)
   have ha := answered_ev out[j].f0 out[j].f1 out[j].f2 asw[i].f0 asw[i].f2 (by have := h.sz _ (List.getElem_mem hj);omega) hok hday
   simp only [Option.bind_some,show ((j : Int) < 0) = False from eq_false (by omega),if_false,nat_nonneg,if_true,show ((j : Int) < (out.length : Int)) = True from eq_true (by omega),rdc,cat_get out j hj,Int.toNat_natCast]
   refine Ev.bind ha ?_
   change Ev (fun k => if (nx out[j] asw[i]).2.2.2 = true then _ else _) _
   cases hq : (nx out[j] asw[i]).2.2.2 with
   | true =>
    obtain ⟨f1,f2⟩ := nx_facts hok hq
    simp only [if_true]
    exact ih (i + 1) _ _ (by omega) (h.set hj f1 f2) (by omega)
   | false =>
    simp only [Bool.false_eq_true,if_false]
    exact ih (i + 1) _ _ (by omega) h (by simp;omega)
/-! the reference -/
theorem specRun_l1 (out : List S24) (a : S45) (idle : List Int) (x9 : Int) (ch : Bool) (x27 : List S45) (x28 x29 : Int) (h : CInv out) (hday : 0 ≤ a.f0 ∧ a.f0 ≤ 99999) (r : List S24 × List Int × Bool) (e : Nat) (he : e ≤ out.length)
  (hr : Ev (fun k => spec_RunAnswers.l1 k out idle x9 ch x27 x28 x29 (out.length : Int) (e : Int) a.f0 a.f1 a.f2) r) : ∀ d m,m + d = e → (∀ i (hi : i < out.length),m ≤ i → i < e → ofG a out[i] = false) → Ev (fun k => spec_RunAnswers.l1 k out idle x9 ch x27 x28 x29 (out.length : Int) (m : Int) a.f0 a.f1 a.f2) r := by
 intro d
 induction d with
 | zero =>
  intro m hm _
  obtain rfl : m = e := by omega
  exact hr
 | succ d ih =>
  intro m hm hno
  have hlt : m < out.length := by omega
  have g1 : ((m : Int) < (out.length : Int)) = True := eq_true (by omega)
  have e4 : wrap64 ((m : Int) + 1) = ((m + 1 : Nat) : Int) := wrap_succ (by have := h.le;omega)
  have hn : (out[m].f0.toList = a.f1.toList) = False := eq_false (of_decide_eq_false (hno m hlt (Nat.le_refl _) (by omega)))
  refine Ev.succ ?_
  simp only [spec_RunAnswers.l1,g1,if_true,nat_nonneg,rdc,cat_get out m hlt,rpNext_eq _ _ _ _ _ (h.ok _ (List.getElem_mem hlt)) hday,Option.bind_some,e4,hn,if_false,ite_self]
  exact ih (m + 1) (by omega) (fun i hi h1 h2 => hno i hi (by omega) h2)
/-- What comes behind the cards' loop. -/
def behindR (asw : List S45) (i : Nat) (idle : List Int) (s : List S24 × Bool) (k : Nat) : Option (List S24 × List Int × Bool) :=
 if s.2 = true then spec_RunAnswers.l0 k s.1 idle asw (asw.length : Int) (wrap64 ((i : Int) + 1)) else (if idle.length < 17592186044416 then spec_RunAnswers.l0 k s.1 (idle ++ [(i : Int)]) asw (asw.length : Int) (wrap64 ((i : Int) + 1)) else none)
theorem specRun_step (out : List S24) (a : S45) (idle : List Int) (asw : List S45) (i : Nat) (h : CInv out) (hday : 0 ≤ a.f0 ∧ a.f0 ≤ 99999) (r : List S24 × List Int × Bool) (hr : Ev (behindR asw i idle (stepR out a)) r) :
  Ev (fun k => spec_RunAnswers.l1 k out idle (i : Int) false asw (asw.length : Int) (i : Int) (out.length : Int) 0 a.f0 a.f1 a.f2) r := by
 have fin : ∀ (o : List S24) (ch : Bool),Ev (behindR asw i idle (o,ch)) r → Ev (fun k => spec_RunAnswers.l1 k o idle (i : Int) ch asw (asw.length : Int) (i : Int) (o.length : Int) (o.length : Int) a.f0 a.f1 a.f2) r := by
  intro o ch hq
  refine Ev.succ ?_
  simp only [spec_RunAnswers.l1,Int.lt_irrefl,if_false]
  exact hq
 rcases find_cases h a with ⟨e,_,hno⟩ | ⟨j,hj,_,hof,hno,e⟩
 ·rw [e] at hr
  exact specRun_l1 out a idle _ false asw _ _ h hday r out.length (Nat.le_refl _) (fin out false hr) out.length 0 (by omega) (fun q hq _ _ => hno q hq)
 ·rw [e] at hr
  refine specRun_l1 out a idle _ false asw _ _ h hday r j (by omega) ?_ j 0 (by omega) (fun q hq _ h2 => hno q hq (by omega))
  have g1 : ((j : Int) < (out.length : Int)) = True := eq_true (by omega)
  have e4 : wrap64 ((j : Int) + 1) = ((j + 1 : Nat) : Int) := wrap_succ (by have := h.le;omega)
  have hn : (out[j].f0.toList = a.f1.toList) = True := eq_true (of_decide_eq_true hof)
  have hok := h.ok _ (List.getElem_mem hj)
  refine Ev.succ ?_
  simp only [spec_RunAnswers.l1,g1,if_true,nat_nonneg,rdc,cat_get out j hj,rpNext_eq _ _ _ _ _ hok hday,Option.bind_some,e4,hn,Int.toNat_natCast]
  change Ev (fun k => if (nx out[j] a).2.2.2 = true then spec_RunAnswers.l1 k (out.set j ⟨(nx out[j] a).1,(nx out[j] a).2.1,(nx out[j] a).2.2.1⟩) _ _ _ _ _ _ _ _ _ _ _ else _) _
  cases hq : (nx out[j] a).2.2.2 with
  | true =>
   rw [hq] at hr
   simp only [if_true] at hr ⊢
   obtain ⟨f1,f2⟩ := nx_facts hok hq
   have h' := h.set hj f1 f2
   have hl : (out.set j (⟨(nx out[j] a).1,(nx out[j] a).2.1,(nx out[j] a).2.2.1⟩ : S24)).length = out.length := by simp
   have hf := fin _ true hr
   rw [← hl]
   refine specRun_l1 _ a idle _ true asw _ _ h' hday r _ (Nat.le_refl _) hf (out.length - (j + 1)) (j + 1) (by rw [hl];omega) (fun q hq2 h1 h2 => ?_)
   rw [List.getElem_set,if_neg (by omega)]
   exact hno q (by rw [hl] at hq2;exact hq2) (by omega)
  | false =>
   rw [hq] at hr
   simp only [Bool.false_eq_true,if_false] at hr ⊢
   exact specRun_l1 out a idle _ false asw _ _ h hday r out.length (Nat.le_refl _) (fin out false hr) (out.length - (j + 1)) (j + 1) (by omega) (fun q hq2 h1 _ => hno q hq2 (by omega))
theorem specRun_l0 (asw : List S45) (hsz : ASz asw) (hl : asw.length ≤ 40) : ∀ d i (out : List S24) (idle : List Int),i + d = asw.length → CInv out → idle.length ≤ i →
  Ev (fun k => spec_RunAnswers.l0 k out idle asw (asw.length : Int) (i : Int)) (if (asw.drop i).all aOk = true then runR (asw.drop i) i out idle else ([],[],false)) := by
 intro d
 induction d with
 | zero =>
  intro i out idle hi h hid
  have e : asw.drop i = [] := List.drop_of_length_le (by omega)
  refine Ev.succ ?_
  simp only [spec_RunAnswers.l0,show ((i : Int) < (asw.length : Int)) = False from eq_false (by omega),if_false,e,runR,List.all_nil,if_true]
  exact Ev.now _
 | succ d ih =>
  intro i out idle hi h hid
  have hlt : i < asw.length := by omega
  have g1 : ((i : Int) < (asw.length : Int)) = True := eq_true (by omega)
  have e4 : wrap64 ((i : Int) + 1) = ((i + 1 : Nat) : Int) := wrap_succ (by omega)
  have gi : (idle.length < 17592186044416) = True := eq_true (by omega)
  rw [List.drop_eq_getElem_cons hlt,List.all_cons]
  have hf := fsWord_ev asw[i].f1 (by have := hsz _ (List.getElem_mem hlt);omega)
  have bad : Ev (fun k => spec_RunAnswers.j2 k out idle (i : Int) asw (asw.length : Int) (i : Int) true asw[i].f0 asw[i].f1 asw[i].f2) ([],[],false) := by
   refine Ev.succ ?_
   simp only [spec_RunAnswers.j2,if_true]
   exact Ev.now _
  refine Ev.succ ?_
  simp only [spec_RunAnswers.l0,g1,if_true,nat_nonneg,rdan,an_get asw i hlt,rpDay_eq,Option.bind_some]
  refine Ev.bind hf ?_
  unfold aOk
  cases hg : glossB asw[i].f1 with
  | false =>
   simp only [Bool.false_eq_true,if_false,Bool.and_false,Bool.false_and]
   exact bad
  | true =>
   cases hd : inB asw[i].f0 0 99999 with
   | false =>
    simp only [Bool.false_eq_true,if_false,if_true,Bool.false_and,Bool.not_false]
    exact bad
   | true =>
    simp only [if_true,Bool.true_and,Bool.not_true]
    refine Ev.succ ?_
    simp only [spec_RunAnswers.j2,Bool.false_eq_true,if_false]
    refine specRun_step out asw[i] idle asw i h (of_decide_eq_true hd) _ ?_
    obtain ⟨h1,h2⟩ := step_inv h asw[i]
    unfold runR behindR
    simp only [e4,gi,if_true]
    change Ev _ (if (List.drop (i + 1) asw).all aOk = true then _ else _)
    cases hs : (stepR out asw[i]).2 with
    | true =>
     simp only [if_true]
     exact ih (i + 1) _ _ (by omega) h1 (by omega)
    | false =>
     simp only [Bool.false_eq_true,if_false]
     exact ih (i + 1) _ _ (by omega) h1 (by simp;omega)
/-! both -/
def runAll (l : List S24) (asw : List S45) : List S24 × List Int × Bool := if cgoodB l && (decide (asw.length ≤ 40) && asw.all aOk) then runR asw 0 l [] else ([],[],false)
theorem cinv_of {l : List S24} (h : cgoodB l = true) (hz : CSz l) : CInv l := by
 obtain ⟨h1,h2,h3⟩ := (cgood_iff l).1 h
 exact ⟨h1,h2,h3,(csz_iff l).1 hz⟩
theorem implRun_ev (l : List S24) (asw : List S45) (hl : l.length ≤ 1048576) (hz : CSz l) (hs : ASz asw) (ha : asw.length ≤ 1048576) : Ev (fun k => impl_RunAnswers.f k l asw) (runAll l asw) := by
 have bad : Ev (fun k => impl_RunAnswers.j0 k l asw true) ([],[],false) := by
  refine Ev.succ ?_
  simp only [impl_RunAnswers.j0,if_true]
  exact Ev.now _
 unfold impl_RunAnswers.f runAll
 refine Ev.bind (areCards_ev l (by omega) hz) ?_
 cases hg : cgoodB l with
 | false =>
  simp only [Bool.false_eq_true,if_false,Bool.false_and]
  exact bad
 | true =>
  simp only [if_true,Bool.true_and]
  by_cases h40 : (asw.length : Int) > 40
  ·simp only [eq_true h40,if_true,show decide (asw.length ≤ 40) = false from decide_eq_false (by omega),Bool.false_and,Bool.false_eq_true,if_false]
   exact bad
  ·simp only [eq_false h40,if_false,show decide (asw.length ≤ 40) = true from decide_eq_true (by omega),Bool.true_and]
   have hall : Ev (fun k => impl_allOf_impl_Answer.f k asw) (asw.all aOk) := by
    unfold impl_allOf_impl_Answer.f
    refine allO_ev fun x hx => ?_
    unfold impl_RunAnswers_1.f aOk
    simp only [isFrame_eq,Option.bind_some]
    cases inB x.f0 0 99999 with
    | false => simp only [Bool.false_eq_true,if_false,Bool.false_and];exact Ev.now _
    | true =>
     simp only [if_true,Bool.true_and]
     exact Ev.bind (isGloss_ev x.f1 (by have := hs x hx;omega)) (Ev.now _)
   refine Ev.bind hall ?_
   cases hq : asw.all aOk with
   | false =>
    simp only [Bool.not_false,Bool.false_eq_true,if_false]
    exact bad
   | true =>
    refine Ev.succ ?_
    have g1 : (([] : List S24).length + l.length < 4398046511104) = True := eq_true (by simp;omega)
    simp only [impl_RunAnswers.j0,Bool.not_true,Bool.false_eq_true,if_false,if_true,slices_Clone_impl_Card.f,Option.bind_some,g1,List.nil_append]
    have := implRun_l0 asw (fun x hx => List.all_eq_true.1 hq x hx) (by omega) asw.length 0 l [] (by omega) (cinv_of hg hz) (by simp)
    rwa [List.drop_zero] at this
theorem specRun_ev (l : List S24) (asw : List S45) (hl : l.length ≤ 1048576) (hz : CSz l) (hs : ASz asw) (ha : asw.length ≤ 1048576) : Ev (fun k => spec_RunAnswers.f k l asw) (runAll l asw) := by
 have bad : Ev (fun k => spec_RunAnswers.j0 k l asw true) ([],[],false) := by
  refine Ev.succ ?_
  simp only [spec_RunAnswers.j0,if_true]
  exact Ev.now _
 unfold spec_RunAnswers.f runAll
 refine Ev.bind (rpGood_ev l (by omega) hz) ?_
 cases hg : cgoodB l with
 | false =>
  simp only [Bool.false_eq_true,if_false,Bool.false_and]
  exact bad
 | true =>
  simp only [if_true,Bool.true_and]
  by_cases h40 : (asw.length : Int) > 40
  ·simp only [show decide ((asw.length : Int) > 40) = true from decide_eq_true h40,show decide (asw.length ≤ 40) = false from decide_eq_false (by omega),Bool.false_and,Bool.false_eq_true,if_false]
   exact bad
  ·simp only [show decide ((asw.length : Int) > 40) = false from decide_eq_false h40,show decide (asw.length ≤ 40) = true from decide_eq_true (by omega),Bool.true_and]
   refine Ev.succ ?_
   have g1 : (([] : List S24).length + l.length < 4398046511104) = True := eq_true (by simp;omega)
   simp only [spec_RunAnswers.j0,Bool.false_eq_true,if_false,Option.bind_some,g1,if_true,List.nil_append]
   have := specRun_l0 asw hs (by omega) asw.length 0 l [] (by omega) (cinv_of hg hz) (by simp)
   rwa [List.drop_zero] at this
theorem runAll_len (l : List S24) (asw : List S45) (hz : CSz l) : (runAll l asw).1.length ≤ 20 ∧ (runAll l asw).2.1.length ≤ 40 := by
 unfold runAll
 split
 ·rename_i h
  rw [Bool.and_eq_true,Bool.and_eq_true,decide_eq_true_eq] at h
  have hi := cinv_of h.1 hz
  obtain ⟨h1,h2,h3,_⟩ := runR_facts asw 0 l [] hi
  have := hi.le
  simp at h3
  omega
 ·simp
def answerR (g : ByteArray) (b d day : Int) (right : Bool) : ByteArray × Int × Int × Bool := if cardB g b d && inB day 0 99999 then nextR g b d day right else (⟨#[]⟩,0,0,false)
theorem implAnswerCard_ev (g : ByteArray) (b d day : Int) (right : Bool) (hs : g.size < 4611686018427387904) : Ev (fun k => impl_AnswerCard.f k g b d day right) (answerR g b d day right) := by
 unfold impl_AnswerCard.f answerR
 refine Ev.bind (isCard_ev g b d hs) ?_
 rcases Bool.eq_false_or_eq_true (cardB g b d) with h | h
 ·simp only [h,if_true,isFrame_eq,Option.bind_some,Bool.true_and]
  rcases Bool.eq_false_or_eq_true (inB day 0 99999) with h2 | h2
  ·simp only [h2,if_true]
   refine Ev.bind (answered_ev g b d day right hs h (of_decide_eq_true h2)) ?_
   exact Ev.now _
  ·simp only [h2]
   exact Ev.now _
 ·simp only [h]
  exact Ev.now _
theorem specAnswerCard_ev (g : ByteArray) (b d day : Int) (right : Bool) (hs : g.size < 4611686018427387904) : Ev (fun k => spec_AnswerCard.f k g b d day right) (answerR g b d day right) := by
 unfold spec_AnswerCard.f answerR
 refine Ev.bind (rpOne_ev g b d hs) ?_
 rcases Bool.eq_false_or_eq_true (cardB g b d) with h | h
 ·simp only [h,if_true,rpDay_eq,Option.bind_some,Bool.true_and]
  rcases Bool.eq_false_or_eq_true (inB day 0 99999) with h2 | h2
  ·simp only [h2,if_true,rpNext_eq g b d day right h (of_decide_eq_true h2),Option.bind_some]
   exact Ev.now _
  ·simp only [h2]
   exact Ev.now _
 ·simp only [h]
  exact Ev.now _
theorem most_eq (a b : Int) : spec_l1Most.f a b = some (mx a b) := by
 unfold spec_l1Most.f mx
 split <;> split <;> simp <;> omega
/-- The day after d more boxes. -/
def dayL : Nat → Int → Int → Int → Int
 | 0,day,_,_ => day
 | d + 1,day,due,box => dayL d (mx day due) (mx day due + pw (box + 1)) (box + 1)
theorem mxf (a b : Int) : a ≤ mx a b ∧ b ≤ mx a b ∧ (mx a b = a ∨ mx a b = b) := by unfold mx;split <;> omega
theorem dayL_ge : ∀ (d : Nat) (day due box : Int),day ≤ dayL d day due box
 | 0,_,_,_ => Int.le_refl _
 | d + 1,day,due,box => by
  have h1 := dayL_ge d (mx day due) (mx day due + pw (box + 1)) (box + 1)
  have h2 := mxf day due
  simp only [dayL]
  omega
def dayR (x : Int) : Int × Bool := if inB x 0 99999 then (x,true) else (0,false)
theorem implDay_ev : ∀ (d : Nat) (day due box : Int),box + d = 5 → 0 ≤ box → 0 ≤ day → day ≤ 100000 + 40 * box → 0 ≤ due → due ≤ 100000 + 40 * box → Ev (fun k => impl_DayOfLast.l0 k day due box) (dayR (dayL d day due box)) := by
 intro d
 induction d with
 | zero =>
  intro day due box h0 h1 h2 h3 h4 h5
  refine Ev.succ ?_
  simp only [impl_DayOfLast.l0,show (box < 5) = False from eq_false (by omega),if_false,isFrame_eq,Option.bind_some,dayL,dayR]
  rcases Bool.eq_false_or_eq_true (inB day 0 99999) with h | h <;> simp only [h] <;> exact Ev.now _
 | succ d ih =>
  intro day due box h0 h1 h2 h3 h4 h5
  refine Ev.succ ?_
  have hp := pw_bounds (box + 1) (by omega) (by omega)
  have hm := mxf day due
  simp only [impl_DayOfLast.l0,show (box < 5) = True from eq_true (by omega),if_true,wrap_id (x := box + 1) (by omega) (by omega),daysFor_eq (box + 1) (by omega) (by omega),Option.bind_some,wrap_id (x := mx day due + pw (box + 1)) (by omega) (by omega),dayL]
  exact ih _ _ _ (by omega) (by omega) (by omega) (by omega) (by omega) (by omega)
theorem specDay_ev (g : ByteArray) : ∀ (d : Nat) (day due box : Int),box + d = 5 → 0 ≤ box → 0 ≤ day → day ≤ 99999 → 0 ≤ due → due ≤ 100000 + 40 * box → Ev (fun k => spec_DayOfLast.l0 k day g box due) (dayR (dayL d day due box)) := by
 intro d
 induction d with
 | zero =>
  intro day due box h0 h1 h2 h3 h4 h5
  refine Ev.succ ?_
  simp only [spec_DayOfLast.l0,show (box < 5) = False from eq_false (by omega),if_false,dayL,dayR,show inB day 0 99999 = true from decide_eq_true (by omega),if_true]
  exact Ev.now _
 | succ d ih =>
  intro day due box h0 h1 h2 h3 h4 h5
  refine Ev.succ ?_
  have hp := pw_bounds (box + 1) (by omega) (by omega)
  have hm := mxf day due
  have hs : shl .i64 1 (box + 1) = pw (box + 1) := (shl1 (box + 1) (by omega) (by omega)).1
  simp only [spec_DayOfLast.l0,show (box < 5) = True from eq_true (by omega),if_true,most_eq,rpDay_eq,Option.bind_some,wrap_id (x := box + 1) (by omega) (by omega),u64_id (box + 1) (by omega) (by omega),show (0 ≤ box + 1) = True from eq_true (by omega),hs,wrap_id (x := mx day due + pw (box + 1)) (by omega) (by omega),dayL]
  by_cases hc : mx day due ≤ 99999
  ·simp only [show inB (mx day due) 0 99999 = true from decide_eq_true (by omega),if_true]
   exact ih _ _ _ (by omega) (by omega) (by omega) (by omega) (by omega) (by omega)
  ·have hg := dayL_ge d (mx day due) (mx day due + pw (box + 1)) (box + 1)
   simp only [show inB (mx day due) 0 99999 = false from decide_eq_false (by omega),dayR,show inB (dayL d (mx day due) (mx day due + pw (box + 1)) (box + 1)) 0 99999 = false from decide_eq_false (by omega)]
   exact Ev.now _
def lastR (g : ByteArray) (b d day : Int) : Int × Bool := if cardB g b d && inB day 0 99999 then dayR (dayL (5 - b).toNat day d b) else (0,false)
theorem cardB_facts {g : ByteArray} {b d : Int} (h : cardB g b d = true) : (0 ≤ b ∧ b ≤ 5) ∧ (0 ≤ d ∧ d ≤ 99999) := by
 simp only [cardB,Bool.and_eq_true,inB,decide_eq_true_eq] at h
 exact h.2
theorem implDayOfLast_ev (g : ByteArray) (b d day : Int) (hs : g.size < 4611686018427387904) : Ev (fun k => impl_DayOfLast.f k g b d day) (lastR g b d day) := by
 unfold impl_DayOfLast.f lastR
 refine Ev.bind (isCard_ev g b d hs) ?_
 rcases Bool.eq_false_or_eq_true (cardB g b d) with h | h
 ·have hf := cardB_facts h
  simp only [h,if_true,isFrame_eq,Option.bind_some,Bool.true_and]
  refine Ev.succ ?_
  rcases Bool.eq_false_or_eq_true (inB day 0 99999) with h2 | h2
  ·have h3 : 0 ≤ day ∧ day ≤ 99999 := of_decide_eq_true h2
   simp only [impl_DayOfLast.j0,h2]
   exact implDay_ev _ day d b (by omega) (by omega) (by omega) (by omega) (by omega) (by omega)
  ·simp only [impl_DayOfLast.j0,h2]
   exact Ev.now _
 ·simp only [h]
  refine Ev.succ ?_
  simp only [impl_DayOfLast.j0]
  exact Ev.now _
theorem specDayOfLast_ev (g : ByteArray) (b d day : Int) (hs : g.size < 4611686018427387904) : Ev (fun k => spec_DayOfLast.f k g b d day) (lastR g b d day) := by
 unfold spec_DayOfLast.f lastR
 refine Ev.bind (rpOne_ev g b d hs) ?_
 rcases Bool.eq_false_or_eq_true (cardB g b d) with h | h
 ·have hf := cardB_facts h
  simp only [h,if_true,rpDay_eq,Option.bind_some,Bool.true_and]
  refine Ev.succ ?_
  rcases Bool.eq_false_or_eq_true (inB day 0 99999) with h2 | h2
  ·have h3 : 0 ≤ day ∧ day ≤ 99999 := of_decide_eq_true h2
   simp only [spec_DayOfLast.j0,h2]
   exact specDay_ev g _ day d b (by omega) (by omega) (by omega) (by omega) (by omega) (by omega)
  ·simp only [spec_DayOfLast.j0,h2]
   exact Ev.now _
 ·simp only [h]
  refine Ev.succ ?_
  simp only [spec_DayOfLast.j0]
  exact Ev.now _
end Go.Proofs.Ytkobnljfoedmnaa.Pure
namespace Go.Proofs.Ytkobnljfoedmnaa.Pure
open Go.RowKit Go.Proofs.Ytkobnljfoedmnaa.Q Go.Proofs.YtkobnljfoedmnaaW.PrintWords Go.Proofs.YtkobnljfoedmnaaW.PrintLast Go.Proofs.YtkobnljfoedmnaaW.PrintMore

/-! ### Draws -/
def goS : ByteArray := ⟨#[71,79]⟩
theorem drawAnswer_ok {l : List Int} (hu : U8 l) : ∃ b d day right,Ev (fun k => spec_DrawAnswerCard.f k l) (goS,b,d,day,right) := by
 obtain ⟨b,d,a1,s1,e1,p1,q1⟩ := card_ok hu (a := 0) 0 (by decide) (by decide) goS
 obtain ⟨y2,a2,s2,e2,_,p2,q2⟩ := cardDay_ok hu s1 (a := a1) (by omega) (by omega)
 obtain ⟨y3,a3,s3,e3,_,p3,q3⟩ := cardDay_ok hu s2 (a := a2) (by omega) (by omega)
 obtain ⟨y4,a4,s4,e4,_,p4,q4⟩ := among_ok hu s3 (a := a3) (by omega) (by omega) [d,d,y2,y3] (by simp) (by simp)
 obtain ⟨y5,a5,s5,e5,_,p5,q5⟩ := one_ok hu s4 (a := a4) (by omega) (by omega) 2 (by decide) (by decide)
 unfold goS at e1
 unfold spec_DrawAnswerCard.f
 refine ⟨b,d,y4,y5,Ev.bind e1 ?_⟩
 simp only [e2,e3,e4,e5,Option.bind_some]
 exact Ev.now _
theorem drawLast_ok {l : List Int} (hu : U8 l) : ∃ b d day,Ev (fun k => spec_DrawDayOfLast.f k l) (goS,b,d,day) := by
 obtain ⟨b,d,a1,s1,e1,p1,q1⟩ := card_ok hu (a := 0) 0 (by decide) (by decide) goS
 obtain ⟨y2,a2,s2,e2,_,p2,q2⟩ := cardDay_ok hu s1 (a := a1) (by omega) (by omega)
 unfold goS at e1
 unfold spec_DrawDayOfLast.f
 refine ⟨b,d,y2,Ev.bind e1 ?_⟩
 simp only [e2,Option.bind_some]
 exact Ev.now _
def AShort (l : List S45) : Prop := ∀ x,x ∈ l → Short x.f1
theorem AShort.snoc {l : List S45} (h : AShort l) {x : S45} (hx : Short x.f1) : AShort (l ++ [x]) := fun y hy => by
 rcases List.mem_append.1 hy with hy | hy
 ·exact h y hy
 ·rw [List.mem_singleton.1 hy];exact hx
theorem run_l0 {l : List Int} (hu : U8 l) (L : List S24) (N : Nat) (hN : N ≤ 41) : ∀ (d : Nat) (x6 : List S45) (x7 a s : Int),x6.length + d = N → AShort x6 → 0 ≤ a → a + 20 * d ≤ 999999998000 → ∃ A,Ev (fun k => spec_DrawRunAnswers.l0 k L x6 x7 (N : Int) l a s) (L,A) ∧ A.length ≤ 41 ∧ AShort A := by
 intro d
 induction d with
 | zero =>
  intro x6 x7 a s hd hs h0 h1
  refine ⟨x6,Ev.succ ?_,by omega,hs⟩
  simp only [spec_DrawRunAnswers.l0,show ((x6.length : Int) < (N : Int)) = False from eq_false (by omega),if_false]
  exact Ev.now _
 | succ d ih =>
  intro x6 x7 a s hd hs h0 h1
  obtain ⟨g,a1,s1,e1,hg,p1,q1⟩ := cardGloss_ok hu s h0 (by omega)
  obtain ⟨b,a2,s2,e2,_,p2,q2⟩ := one_ok hu s1 (a := a1) (by omega) (by omega) 3 (by decide) (by decide)
  have hlt : ((x6.length : Int) < (N : Int)) = True := eq_true (by omega)
  have hsm : (x6.length < 4398046511104) = True := eq_true (by omega)
  have hgz : g.size ≤ 10 := hg
  have hf := fsWord_ev g (by omega)
  cases hw : glossB g with
  | true =>
   rw [hw] at hf
   obtain ⟨y,a3,s3,e3,_,p3,q3⟩ := among_ok hu s2 (a := a2) (by omega) (by omega) [0,1,2,5] (by decide) (by decide)
   obtain ⟨A,hE,hA,hS⟩ := ih (x6 ++ [(⟨x7,g,!b⟩ : S45)]) (wrap64 (x7 + y)) a3 s3 (by rw [List.length_append,List.length_singleton];omega) (hs.snoc hg) (by omega) (by omega)
   refine ⟨A,Ev.succ ?_,hA,hS⟩
   simp only [spec_DrawRunAnswers.l0,hlt,if_true,e1,e2,Option.bind_some]
   refine Ev.bind hf ?_
   simp only [if_true,hsm,e3,Option.bind_some]
   exact hE
  | false =>
   rw [hw] at hf
   obtain ⟨c,a3,s3,e3,_,p3,q3⟩ := one_ok hu s2 (a := a2) (by omega) (by omega) 4 (by decide) (by decide)
   obtain ⟨y,a4,s4,e4,_,p4,q4⟩ := among_ok hu s3 (a := a3) (by omega) (by omega) [0,1,2,5] (by decide) (by decide)
   cases c with
   | true =>
    obtain ⟨A,hE,hA,hS⟩ := ih (x6 ++ [(⟨x7,g,!b⟩ : S45)]) (wrap64 (x7 + y)) a4 s4 (by rw [List.length_append,List.length_singleton];omega) (hs.snoc hg) (by omega) (by omega)
    refine ⟨A,Ev.succ ?_,hA,hS⟩
    simp only [spec_DrawRunAnswers.l0,hlt,if_true,e1,e2,Option.bind_some]
    refine Ev.bind hf ?_
    simp only [Bool.false_eq_true,if_false,e3,Option.bind_some,if_true,hsm,e4]
    exact hE
   | false =>
    obtain ⟨A,hE,hA,hS⟩ := ih (x6 ++ [(⟨x7,goS,!b⟩ : S45)]) (wrap64 (x7 + y)) a4 s4 (by rw [List.length_append,List.length_singleton];omega) (hs.snoc (show Short goS from (show (2 : Nat) ≤ 10 by decide))) (by omega) (by omega)
    refine ⟨A,Ev.succ ?_,hA,hS⟩
    unfold goS at hE
    simp only [spec_DrawRunAnswers.l0,hlt,if_true,e1,e2,Option.bind_some]
    refine Ev.bind hf ?_
    simp only [Bool.false_eq_true,if_false,e3,Option.bind_some,if_true,hsm,e4]
    exact hE
theorem drawRun_ok {l : List Int} (hu : U8 l) : ∃ L A,Ev (fun k => spec_DrawRunAnswers.f k l) (L,A) ∧ L.length ≤ 21 ∧ CShort L ∧ A.length ≤ 41 ∧ AShort A := by
 obtain ⟨L,a1,s1,hL,hl,hS,p1,q1⟩ := cards_ok hu (a := 0) 0 (by decide) (by decide)
 obtain ⟨day,a2,s2,e2,_,p2,q2⟩ := pick_ok hu s1 (a := a1) (by omega) (by omega) 15 (by decide) (by decide)
 obtain ⟨n,a3,s3,e3,⟨n0,n1⟩,p3,q3⟩ := pick_ok hu s2 (a := a2) (by omega) (by omega) 8 (by decide) (by decide)
 obtain ⟨b,a4,s4,e4,_,p4,q4⟩ := one_ok hu s3 (a := a3) (by omega) (by omega) 12 (by decide) (by decide)
 cases b with
 | true =>
  obtain ⟨m,a5,s5,e5,⟨m0,m1⟩,p5,q5⟩ := pick_ok hu s4 (a := a4) (by omega) (by omega) 2 (by decide) (by decide)
  obtain ⟨N,hN⟩ : ∃ N : Nat,40 + m = (N : Int) := ⟨(40 + m).toNat,by omega⟩
  obtain ⟨A,hE,hA,hAS⟩ := run_l0 hu L N (by omega) N [] day a5 s5 (by simp) (fun x hx => by cases hx) (by omega) (by omega)
  refine ⟨L,A,?_,hl,hS,hA,hAS⟩
  unfold spec_DrawRunAnswers.f
  refine Ev.bind hL ?_
  simp only [e2,e3,e4,Option.bind_some,if_true,e5]
  rw [wrap_id (by omega) (by omega),hN]
  refine Ev.succ ?_
  simp only [spec_DrawRunAnswers.j0]
  exact hE
 | false =>
  obtain ⟨N,hN⟩ : ∃ N : Nat,n = (N : Int) := ⟨n.toNat,by omega⟩
  obtain ⟨A,hE,hA,hAS⟩ := run_l0 hu L N (by omega) N [] day a4 s4 (by simp) (fun x hx => by cases hx) (by omega) (by omega)
  refine ⟨L,A,?_,hl,hS,hA,hAS⟩
  unfold spec_DrawRunAnswers.f
  refine Ev.bind hL ?_
  simp only [e2,e3,e4,Option.bind_some,Bool.false_eq_true,if_false]
  rw [hN]
  refine Ev.succ ?_
  simp only [spec_DrawRunAnswers.j0]
  exact hE
/-! ### Answers that change nothing may be left out -/
def usedL : List S45 → Nat → List Int → List S45
 | [],_,_ => []
 | a :: l,i,F => if (i : Int) ∈ F then usedL l (i + 1) F else a :: usedL l (i + 1) F
theorem used_mem : ∀ (l : List S45) (i : Nat) (F : List Int),(usedL l i F).length ≤ l.length ∧ ∀ x,x ∈ usedL l i F → x ∈ l
 | [],_,_ => ⟨Nat.le_refl _,fun _ h => h⟩
 | a :: l,i,F => by
  obtain ⟨h1,h2⟩ := used_mem l (i + 1) F
  rw [usedL]
  split
  ·exact ⟨by rw [List.length_cons];omega,fun x hx => List.mem_cons_of_mem _ (h2 x hx)⟩
  ·refine ⟨by rw [List.length_cons,List.length_cons];omega,fun x hx => ?_⟩
   rcases List.mem_cons.1 hx with rfl | hx
   ·exact List.mem_cons_self ..
   ·exact List.mem_cons_of_mem _ (h2 x hx)
theorem used_snoc : ∀ (l : List S45) (a : S45) (i : Nat) (F : List Int),usedL (l ++ [a]) i F = usedL l i F ++ (if ((i + l.length : Nat) : Int) ∈ F then [] else [a])
 | [],a,i,F => by
  rw [List.nil_append,usedL,usedL,usedL,List.nil_append,List.length_nil,Nat.add_zero]
 | b :: l,a,i,F => by
  have h := used_snoc l a (i + 1) F
  rw [List.cons_append,usedL,usedL,h,List.length_cons,show i + 1 + l.length = i + (l.length + 1) by omega]
  split
  ·rfl
  ·rw [List.cons_append]
theorem run_low : ∀ (l : List S45) (i : Nat) (out : List S24) (idle : List Int) (z : Int),z < i → (z ∈ (runR l i out idle).2.1 ↔ z ∈ idle)
 | [],i,out,idle,z,_ => Iff.rfl
 | a :: l,i,out,idle,z,hz => by
  rw [runR]
  refine (run_low l (i + 1) _ _ z (by omega)).trans ?_
  split
  ·exact Iff.rfl
  ·rw [List.mem_append,List.mem_singleton]
   exact ⟨fun h => h.resolve_right (by omega),.inl⟩
theorem step_false {out : List S24} {a : S45} (h : (stepR out a).2 = false) : (stepR out a).1 = out := by
 unfold stepR at h ⊢
 cases hq : out.findIdx? (ofG a) with
 | none => rfl
 | some j =>
  rw [hq] at h
  have h : (if (nx (cat out j) a).2.2.2 = true then (out.set j (⟨(nx (cat out j) a).1,(nx (cat out j) a).2.1,(nx (cat out j) a).2.2.1⟩ : S24),true) else (out,false)).2 = false := h
  show (if (nx (cat out j) a).2.2.2 = true then (out.set j (⟨(nx (cat out j) a).1,(nx (cat out j) a).2.1,(nx (cat out j) a).2.2.1⟩ : S24),true) else (out,false)).1 = out
  by_cases hn : (nx (cat out j) a).2.2.2 = true
  ·rw [if_pos hn] at h;cases h
  ·rw [if_neg hn]
theorem run_used : ∀ (l : List S45) (i i' : Nat) (out : List S24) (idle : List Int),(∀ z,z ∈ idle → z < i) → runR (usedL l i (runR l i out idle).2.1) i' out [] = ((runR l i out idle).1,[],true)
 | [],i,i',out,idle,_ => rfl
 | a :: l,i,i',out,idle,hlo => by
  rw [runR]
  have hlow := run_low l (i + 1) (stepR out a).1 (if (stepR out a).2 = true then idle else idle ++ [(i : Int)]) i (by omega)
  rcases Bool.eq_false_or_eq_true (stepR out a).2 with h | h
  ·rw [if_pos h] at hlow ⊢
   have hn : ¬ ((i : Int) ∈ (runR l (i + 1) (stepR out a).1 idle).2.1) := fun hm => absurd (hlo _ (hlow.1 hm)) (by omega)
   rw [usedL,if_neg hn,runR,if_pos h]
   exact run_used l (i + 1) (i' + 1) (stepR out a).1 idle (fun z hz => by have := hlo z hz;omega)
  ·have hne : ¬ (stepR out a).2 = true := by rw [h];decide
   rw [if_neg hne] at hlow ⊢
   have hm : (i : Int) ∈ (runR l (i + 1) (stepR out a).1 (idle ++ [(i : Int)])).2.1 := hlow.2 (by simp)
   rw [usedL,if_pos hm]
   have e := step_false h
   rw [e]
   exact run_used l (i + 1) i' out (idle ++ [(i : Int)]) (fun z hz => by
    rcases List.mem_append.1 hz with hz | hz
    ·have := hlo z hz;omega
    ·rw [List.mem_singleton.1 hz];omega)
/-! ### The law's steps: the last box -/
theorem nextR_ok {g : ByteArray} {b d day : Int} {right : Bool} (h : (nextR g b d day right).2.2.2 = true) : d ≤ day ∧ nextR g b d day right = (g,boxOf b right,day + pw (boxOf b right),true) := by
 unfold nextR at h ⊢
 split at h
 ·cases h
 ·rename_i h1
  split at h
  ·rename_i h2
   rw [if_neg h1,if_pos h2]
   exact ⟨by omega,rfl⟩
  ·cases h
theorem go_gloss : True := trivial
theorem rep_l1 {g : ByteArray} (hg : glossB g = true) (hgs : g.size ≤ 10) (last : Int) (hl0 : 0 ≤ last) (hl : last ≤ 99999) : ∀ (n : Nat) (at_ due box : Int),box + n = 5 → 0 ≤ box → 0 ≤ at_ → 0 ≤ due → due ≤ 99999 → dayL n at_ due box = last → Ev (fun k => laws_FnRepetition.l1 k last at_ g box due) true := by
 intro n
 induction n with
 | zero =>
  intro at_ due box h0 h1 h2 h3 h4 h5
  refine Ev.succ ?_
  simp only [laws_FnRepetition.l1,show (box < 5) = False from eq_false (by omega),if_false]
  refine Ev.eq (Ev.now _) ?_
  have e : at_ = last := h5
  rw [e];simp
 | succ n ih =>
  intro at_ due box h0 h1 h2 h3 h4 h5
  have hm := mxf at_ due
  have hge := dayL_ge n (mx at_ due) (mx at_ due + pw (box + 1)) (box + 1)
  have h5' : dayL n (mx at_ due) (mx at_ due + pw (box + 1)) (box + 1) = last := h5
  rw [h5'] at hge
  have hp := pw_bounds (box + 1) (by omega) (by omega)
  have hcb : cardB g box due = true := by
   unfold cardB
   rw [hg,show inB box 0 5 = true from decide_eq_true (by omega),show inB due 0 99999 = true from decide_eq_true (by omega)]
   rfl
  have hbx : boxOf box true = box + 1 := by
   show mn (box + 1) 5 = box + 1
   unfold mn;split <;> omega
  have core : Ev (fun k => laws_FnRepetition.j6 k last (mx at_ due) g box due) true := by
   have ea : answerR g box due (mx at_ due) true = nextR g box due (mx at_ due) true := by
    unfold answerR
    rw [hcb,show inB (mx at_ due) 0 99999 = true from decide_eq_true (by omega)]
    rfl
   refine Ev.succ ?_
   simp only [laws_FnRepetition.j6]
   refine Ev.bind (implAnswerCard_ev g box due (mx at_ due) true (by omega)) ?_
   refine Ev.bind (specAnswerCard_ev g box due (mx at_ due) true (by omega)) ?_
   rw [ea]
   simp only [bne_self_eq_false,Bool.false_eq_true,if_false,beq_self_eq_true,Bool.not_true,Bool.or_self]
   refine Ev.succ ?_
   simp only [laws_FnRepetition.j7,Bool.false_eq_true,if_false]
   have en : nextR g box due (mx at_ due) true = if inB (mx at_ due + pw (box + 1)) 0 99999 then (g,box + 1,mx at_ due + pw (box + 1),true) else (⟨#[]⟩,0,0,false) := by
    unfold nextR
    rw [if_neg (by omega),hbx]
   rw [en]
   by_cases hin : mx at_ due + pw (box + 1) ≤ 99999
   ·have hi : inB (mx at_ due + pw (box + 1)) 0 99999 = true := decide_eq_true ⟨by omega,hin⟩
    rw [if_pos hi]
    simp only [if_true]
    exact ih _ _ _ (by omega) (by omega) (by omega) (by omega) (by omega) h5'
   ·have hi : inB (mx at_ due + pw (box + 1)) 0 99999 = false := decide_eq_false (by omega)
    rw [if_neg (by rw [hi];decide)]
    simp only [Bool.false_eq_true,if_false]
    have hn0 : n = 0 := by
     rcases Nat.eq_zero_or_pos n with h | h
     ·exact h
     ·obtain ⟨m,rfl⟩ : ∃ m,n = m + 1 := ⟨n - 1,by omega⟩
      have h6 : dayL m (mx (mx at_ due) (mx at_ due + pw (box + 1))) (mx (mx at_ due) (mx at_ due + pw (box + 1)) + pw (box + 1 + 1)) (box + 1 + 1) = last := h5'
      have h7 := dayL_ge m (mx (mx at_ due) (mx at_ due + pw (box + 1))) (mx (mx at_ due) (mx at_ due + pw (box + 1)) + pw (box + 1 + 1)) (box + 1 + 1)
      have h8 := mxf (mx at_ due) (mx at_ due + pw (box + 1))
      omega
    subst hn0
    have e4 : box = 4 := by omega
    have e5 : mx at_ due = last := h5'
    simp only [eq_true e4,if_true]
    refine Ev.eq (Ev.now _) ?_
    rw [e5];simp
  refine Ev.succ ?_
  simp only [laws_FnRepetition.l1,show (box < 5) = True from eq_true (by omega),if_true]
  by_cases hc : at_ < due
  ·have e : mx at_ due = due := by unfold mx;split <;> omega
   rw [e] at core
   simp only [eq_true hc,if_true]
   exact core
  ·have e : mx at_ due = at_ := by unfold mx;split <;> omega
   rw [e] at core
   simp only [eq_false hc,if_false]
   exact core
theorem rep_j4 {g : ByteArray} (hgs : g.size ≤ 10) (b d day : Int) : Ev (fun k => laws_FnRepetition.j4 k day (lastR g b d day).2 (lastR g b d day).1 g b d) true := by
 refine Ev.succ ?_
 rcases Bool.eq_false_or_eq_true (lastR g b d day).2 with h | h
 ·simp only [laws_FnRepetition.j4,h,if_true]
  unfold lastR at h ⊢
  split at h
  ·rename_i hc
   rw [if_pos hc]
   have hcc : cardB g b d = true ∧ inB day 0 99999 = true := by simpa using hc
   obtain ⟨hg,hb,hd⟩ := cardB_parts hcc.1
   have hday : 0 ≤ day ∧ day ≤ 99999 := of_decide_eq_true hcc.2
   unfold dayR at h ⊢
   split at h
   ·rename_i hr
    rw [if_pos hr]
    have hlast : 0 ≤ dayL (5 - b).toNat day d b ∧ dayL (5 - b).toNat day d b ≤ 99999 := of_decide_eq_true hr
    exact rep_l1 hg hgs _ hlast.1 hlast.2 (5 - b).toNat day d b (by omega) (by omega) (by omega) (by omega) (by omega) rfl
   ·cases h
  ·cases h
 ·simp only [laws_FnRepetition.j4,h,Bool.false_eq_true,if_false]
  exact Ev.now _
theorem cgood_of_inv {l : List S24} (h : CInv l) : cgoodB l = true := (cgood_iff l).2 ⟨h.ok,h.up,h.le⟩
theorem AShort.asz {l : List S45} (h : AShort l) : ASz l := fun x hx => by
 have := h x hx
 unfold Short at this
 omega
theorem csz_of_inv {l : List S24} (h : CInv l) : CSz l := (csz_iff l).2 h.sz
/-- The loop that gathers the answers that changed something, and what is asked behind it. -/
theorem rep_l0 {L : List S24} {A : List S45} (hL : L.length ≤ 21) (hCS : CShort L) (hA : A.length ≤ 41) (hAS : AShort A) (hone : (runAll L A).2.2 = true) {g : ByteArray} (hgs : g.size ≤ 10) (b d day : Int) : ∀ (dd i : Nat),i + dd = A.length → Ev (fun k => laws_FnRepetition.l0 k L (runAll L A).1 (runAll L A).2.1 day (lastR g b d day).2 (lastR g b d day).1 (usedL (A.take i) 0 (runAll L A).2.1) A (A.length : Int) (i : Int) g b d) true := by
 have hall : cgoodB L = true ∧ A.length ≤ 40 ∧ A.all aOk = true ∧ runAll L A = runR A 0 L [] := by
  unfold runAll at hone ⊢
  split at hone
  ·rename_i hc
   rw [if_pos hc]
   simp only [Bool.and_eq_true,decide_eq_true_eq] at hc
   exact ⟨hc.1,hc.2.1,hc.2.2,rfl⟩
  ·cases hone
 obtain ⟨hg,hA40,haok,eR⟩ := hall
 have hinv := cinv_of hg hCS.csz
 obtain ⟨r1,r2,r3,r4⟩ := runR_facts A 0 L [] hinv
 rw [eR]
 have hidl : (runR A 0 L []).2.1.length ≤ 41 := by simp only [List.length_nil,Nat.zero_add] at r3;omega
 intro dd
 induction dd with
 | zero =>
  intro i hi
  refine Ev.succ ?_
  simp only [laws_FnRepetition.l0,show ((i : Int) < (A.length : Int)) = False from eq_false (by omega),if_false]
  rw [List.take_of_length_le (by omega)]
  obtain ⟨m1,m2⟩ := used_mem A 0 (runR A 0 L []).2.1
  have hruse := run_used A 0 0 L [] (fun z hz => by cases hz)
  have hUS : ASz (usedL A 0 (runR A 0 L []).2.1) := fun x hx => hAS.asz x (m2 x hx)
  have eU : runAll L (usedL A 0 (runR A 0 L []).2.1) = ((runR A 0 L []).1,[],true) := by
   unfold runAll
   rw [if_pos (by
    rw [hg,decide_eq_true (show (usedL A 0 (runR A 0 L []).2.1).length ≤ 40 by omega),Bool.true_and,Bool.true_and]
    exact List.all_eq_true.2 fun x hx => List.all_eq_true.1 haok x (m2 x hx))]
   exact hruse
  refine Ev.bind (implRun_ev L _ (by omega) hCS.csz hUS (by omega)) ?_
  rw [eU]
  simp only [if_true,List.length_nil,show (((0 : Nat) : Int) > 0) = False from eq_false (by decide),if_false]
  refine Ev.bind (qCards_ev _ (by have := r1.le;omega)) ?_
  simp only [if_true]
  exact rep_j4 hgs b d day
 | succ dd ih =>
  intro i hi
  have hlt : i < A.length := by omega
  have key := ih (i + 1) (by omega)
  rw [List.take_succ_eq_append_getElem hlt,used_snoc,List.length_take,Nat.zero_add,Nat.min_eq_left (by omega)] at key
  have hul : (usedL (A.take i) 0 (runR A 0 L []).2.1).length < 4398046511104 := by
   have := (used_mem (A.take i) 0 (runR A 0 L []).2.1).1
   rw [List.length_take] at this
   omega
  have ean : rd_T45 A (i : Int) = A[i] := by rw [rdan,an_get A i hlt]
  refine Ev.succ ?_
  simp only [laws_FnRepetition.l0,show ((i : Int) < (A.length : Int)) = True from eq_true (by omega),if_true,nat_nonneg,wrap_succ (show i < 4611686018427387904 by omega),ean,eq_true hul]
  refine Ev.bind (qHas_ev _ (by omega) (i : Int)) ?_
  by_cases hm : (i : Int) ∈ (runR A 0 L []).2.1
  ·rw [if_pos hm,List.append_nil] at key
   simp only [decide_eq_true hm,if_true]
   exact key
  ·rw [if_neg hm] at key
   simp only [decide_eq_false hm,Bool.false_eq_true,if_false]
   exact key
theorem rep_j1 {L : List S24} {A : List S45} (hL : L.length ≤ 21) (hCS : CShort L) (hA : A.length ≤ 41) (hAS : AShort A) {g : ByteArray} (hgs : g.size ≤ 10) (b d day : Int) : Ev (fun k => laws_FnRepetition.j1 k L A (runAll L A).1 (runAll L A).2.2 (runAll L A).1 (runAll L A).2.1 day (lastR g b d day).2 (lastR g b d day).1 g b d) true := by
 refine Ev.succ ?_
 rcases Bool.eq_false_or_eq_true (runAll L A).2.2 with hone | hone
 ·have hl0 := rep_l0 hL hCS hA hAS hone hgs b d day A.length 0 (by omega)
  have hinv : CInv (runAll L A).1 ∧ (runAll L A).1.length = L.length := by
   unfold runAll at hone ⊢
   split at hone
   ·rename_i hc
    rw [if_pos hc]
    simp only [Bool.and_eq_true] at hc
    obtain ⟨r1,r2,_⟩ := runR_facts A 0 L [] (cinv_of hc.1 hCS.csz)
    exact ⟨r1,r2⟩
   ·cases hone
  have hlen : (((runAll L A).1.length : Int) = (L.length : Int)) = True := eq_true (by rw [hinv.2])
  simp only [laws_FnRepetition.j1,hone,if_true,hlen]
  refine Ev.bind (areCards_ev _ (by rw [hinv.2];omega) (csz_of_inv hinv.1)) ?_
  rw [cgood_of_inv hinv.1]
  refine Ev.succ ?_
  simp only [laws_FnRepetition.j2,Bool.not_true,Bool.false_eq_true,if_false]
  rw [List.take_zero] at hl0
  exact hl0
 ·simp only [laws_FnRepetition.j1,hone,Bool.false_eq_true,if_false]
  exact rep_j4 hgs b d day
theorem rep_j0 {L : List S24} {A : List S45} (hL : L.length ≤ 21) (hCS : CShort L) (hA : A.length ≤ 41) (hAS : AShort A) {g h : ByteArray} (hgs : g.size ≤ 10) (b d day : Int) (hb xb xd xday : Int) (right : Bool) : Ev (fun k => laws_FnRepetition.j0 k xday right (answerR h xb xd xday right).2.2.2 L A (runAll L A).1 (runAll L A).2.2 (runAll L A).1 (runAll L A).2.1 day (lastR g b d day).2 (lastR g b d day).1 false h xb xd (answerR h xb xd xday right).1 (answerR h xb xd xday right).2.1 (answerR h xb xd xday right).2.2.1 g b d) true := by
 have rest := rep_j1 hL hCS hA hAS hgs b d day
 refine Ev.succ ?_
 rcases Bool.eq_false_or_eq_true (answerR h xb xd xday right).2.2.2 with ho | ho
 ·have hall : (cardB h xb xd = true ∧ inB xday 0 99999 = true) ∧ answerR h xb xd xday right = nextR h xb xd xday right := by
   unfold answerR at ho ⊢
   split at ho
   ·rename_i hc
    rw [if_pos hc]
    exact ⟨by simpa using hc,rfl⟩
   ·cases ho
  obtain ⟨⟨hc1,hc2⟩,eN⟩ := hall
  have ho2 := ho
  rw [eN] at ho2
  obtain ⟨hdd,eN2⟩ := nextR_ok ho2
  rw [eN,eN2]
  obtain ⟨_,hbb,hdb⟩ := cardB_parts hc1
  have hday : 0 ≤ xday ∧ xday ≤ 99999 := of_decide_eq_true hc2
  have hx := boxOf_bounds xb right hbb.1 hbb.2
  have hp := pw_bounds _ hx.1 hx.2
  cases right with
  | true =>
   have e : boxOf xb true = mn (xb + 1) 5 := rfl
   rw [e] at hx hp ⊢
   have hw : wrap64 (xb + 1) = xb + 1 := wrap_id (by omega) (by omega)
   by_cases h5 : xb + 1 > 5
   ·have e5 : mn (xb + 1) 5 = 5 := by unfold mn;split <;> omega
    have p5 : pw 5 = 32 := by decide +kernel
    rw [e5,p5]
    have hw2 : wrap64 (xday + 1 * 32) = xday + 32 := (wrap_id (by omega) (by omega)).trans (by omega)
    simp only [laws_FnRepetition.j0,Bool.false_eq_true,if_false,if_true,hw,eq_true h5,hw2,show (xday + 32 ≤ xday) = False from eq_false (by omega),show (xd > xday) = False from eq_false (by omega)]
    exact rest
   ·have e5 : mn (xb + 1) 5 = xb + 1 := by unfold mn;split <;> omega
    rw [e5] at hp ⊢
    have hs : shl .i64 1 (xb + 1) = pw (xb + 1) := (shl1 (xb + 1) (by omega) (by omega)).1
    have hw2 : wrap64 (xday + pw (xb + 1)) = xday + pw (xb + 1) := wrap_id (by omega) (by omega)
    simp only [laws_FnRepetition.j0,Bool.false_eq_true,if_false,if_true,hw,eq_false h5,u64_id (xb + 1) (by omega) (by omega),hs,hw2,show (xday + pw (xb + 1) ≤ xday) = False from eq_false (by omega),show (xd > xday) = False from eq_false (by omega),show (0 ≤ xb + 1) = True from eq_true (by omega)]
    exact rest
  | false =>
   have e : boxOf xb false = 0 := rfl
   have p0 : pw 0 = 1 := by decide +kernel
   rw [e,p0]
   have hw2 : wrap64 (xday + 1) = xday + 1 := wrap_id (by omega) (by omega)
   simp only [laws_FnRepetition.j0,Bool.false_eq_true,if_false,if_true,hw2,show (xday + 1 ≤ xday) = False from eq_false (by omega),show (xd > xday) = False from eq_false (by omega)]
   exact rest
 ·simp only [laws_FnRepetition.j0,ho,Bool.false_eq_true,if_false]
  exact rest
theorem FnRepetition : laws_FnRepetition.Pure := by
 intro l0 l1 h0 hb0 h1 hb1
 have u0 : U8 l0 := ⟨hb0,by omega⟩
 have u1 : U8 l1 := ⟨hb1,by omega⟩
 refine Ev.rounds ?_
 unfold laws_FnRepetition.f
 by_cases hs : wrap64 ((l0.length : Int) + (l1.length : Int)) > 1048576
 ·simp only [eq_true hs,if_true]
  exact Ev.now _
 simp only [eq_false hs,if_false]
 obtain ⟨xb,xd,xday,right,e1⟩ := drawAnswer_ok u0
 obtain ⟨L,A,hR,hL,hCS,hA,hAS⟩ := drawRun_ok u1
 obtain ⟨b,d,day,e2⟩ := drawLast_ok u1
 have hgo : goS.size ≤ 10 := by decide
 refine Ev.bind e1 ?_
 refine Ev.bind (implAnswerCard_ev goS xb xd xday right (by omega)) ?_
 refine Ev.bind (specAnswerCard_ev goS xb xd xday right (by omega)) ?_
 refine Ev.bind hR ?_
 refine Ev.bind (implRun_ev L A (by omega) hCS.csz hAS.asz (by omega)) ?_
 refine Ev.bind (specRun_ev L A (by omega) hCS.csz hAS.asz (by omega)) ?_
 refine Ev.bind e2 ?_
 refine Ev.bind (implDayOfLast_ev goS b d day (by omega)) ?_
 refine Ev.bind (specDayOfLast_ev goS b d day (by omega)) ?_
 obtain ⟨n1,n2⟩ := runAll_len L A hCS.csz
 simp only [bne_self_eq_false,beq_self_eq_true,Bool.not_true,Bool.or_self,Bool.false_eq_true,if_false]
 refine Ev.bind (qCards_ev _ (by omega)) ?_
 simp only [if_true]
 refine Ev.bind (qInts_ev _ (by omega)) ?_
 simp only [if_true]
 exact rep_j0 hL hCS hA hAS hgo b d day 0 xb xd xday right
end Go.Proofs.Ytkobnljfoedmnaa.Pure
