/- For all bytes: of the cards that are drawn out of them,due ones are planned by their boxes,boxes count all,and added cards are due on their day;the program answers as the reference does. No condition but that the library's table stands. -/
import Derived.Test.YtkobnljfoedmnaaDoorQLawsFnCards
import Derived.Laws.BitsLemmas
import Derived.Lib.Bytealg
import Derived.Sort.Walk0
import Derived.Lib.ItoaNum
set_option linter.unusedVariables false
set_option linter.unusedSimpArgs false
namespace Go.Proofs.YtkobnljfoedmnaaDoor.Pure
open Go.RowKit Go.Proofs.YtkobnljfoedmnaaDoor.Q Go.Proofs.YtkobnljfoedmnaaDoorW.PrintLast Go.Proofs.YtkobnljfoedmnaaDoorW.PrintMore Go.Proofs.YtkobnljfoedmnaaDoorW.PrintWords
theorem Ev.succ {α : Type} {g : Nat -> Option α} {r : α} (h : Ev (fun k => g (k + 1)) r) : Ev g r := Ev.step (fun _ => rfl) h
theorem Ev.k {α : Type} {g : Nat -> Option α} {o : Option α} {r : α} (hg : ∀ k,g k = o) (h : o = some r) : Ev g r := ⟨0,fun k _ => (hg k).trans h⟩
theorem Ev.eq {α : Type} {g : Nat -> Option α} {r r' : α} (h : Ev g r) (e : r = r') : Ev g r' := e ▸ h
theorem Ev.upto {β : Type} {L : Nat -> Nat -> Option β} {r : β} {n : Nat} (hend : Ev (fun k => L k n) r)
  (hstep : ∀ j,j < n -> Ev (fun k => L k (j + 1)) r -> Ev (fun k => L k j) r) : ∀ i,i <= n -> Ev (fun k => L k i) r := by
 intro i hi;obtain ⟨d,hd⟩ : ∃ d,n = i + d := ⟨n - i,by omega⟩
 induction d generalizing i with
 | zero => simp at hd;subst hd;exact hend
 | succ d ih => exact hstep i (by omega) (ih (i + 1) (by omega) (by omega))
theorem Ev.all {β : Type} {L : Nat -> Nat -> Option β} {P : Nat -> Bool} {n : Nat} {a b : β} (hend : Ev (fun k => L k n) a)
  (hyes : ∀ j r,j < n -> P j = true -> Ev (fun k => L k (j + 1)) r -> Ev (fun k => L k j) r) (hno : ∀ j,j < n -> P j = false -> Ev (fun k => L k j) b) :
  ∀ i,i <= n -> Ev (fun k => L k i) (if (List.range' i (n - i)).all P then a else b) := by
 intro i hi;obtain ⟨d,hd⟩ : ∃ d,n = i + d := ⟨n - i,by omega⟩
 induction d generalizing i with
 | zero => simp at hd;subst hd;simpa using hend
 | succ d ih =>
  have h1 : n - i = (n - (i + 1)) + 1 := by omega
  rw [h1,List.range'_succ];simp only [List.all_cons];rcases Bool.eq_false_or_eq_true (P i) with hP | hP
  ·simp only [hP,Bool.true_and];exact hyes i _ (by omega) hP (ih (i + 1) (by omega) (by omega))
  ·simpa [hP] using hno i (by omega) hP
theorem Ev.all0 {β : Type} {L : Nat -> Nat -> Option β} {P : Nat -> Bool} {n : Nat} {a b : β} (hend : Ev (fun k => L k n) a)
  (hyes : ∀ j r,j < n -> P j = true -> Ev (fun k => L k (j + 1)) r -> Ev (fun k => L k j) r) (hno : ∀ j,j < n -> P j = false -> Ev (fun k => L k j) b) :
  Ev (fun k => L k 0) (if (List.range n).all P then a else b) := by
 have := Ev.all hend hyes hno 0 (Nat.zero_le _)
 rwa [Nat.sub_zero,<- List.range_eq_range'] at this
theorem Xg {x : Int} (h0 : -9223372036854775808 <= x) (h1 : x <= 9223372036854775807) : wrap64 x = x := by
 unfold wrap64;omega
theorem Xb {n : Nat} (h : n < 4611686018427387904) : wrap64 ((n : Int) + 1) = ((n + 1 : Nat) : Int) := by
 rw [Xg (by omega) (by omega)];omega
theorem X9 {n : Nat} (h0 : 0 < n) (h : n < 4611686018427387904) : wrap64 ((n : Int) - 1) = ((n - 1 : Nat) : Int) := by
 rw [Xg (by omega) (by omega)];omega
theorem Xa (n : Nat) : (0 <= (n : Int)) = True := eq_true (Int.natCast_nonneg n)
structure U8 (l : List Int) : Prop where
 b : ∀ y,y ∈ l -> (Lit.int .u8 y).wf = true
 n : l.length <= 140737488351232
theorem Vx {y : Int} (h : (Lit.int .u8 y).wf = true) : 0 <= y ∧ y <= 255 := by
 simp [Lit.wf,IntKind.min,IntKind.max,IntKind.bits,IntKind.signed] at h;omega
theorem Um (x : Int) : 0 <= Go.bits .and .u64 x 255 ∧ Go.bits .and .u64 x 255 <= 255 := by
 have h : ((BitVec.ofInt 64 x &&& BitVec.ofInt 64 255).toNat : Nat) <= 255 := by
  rw [BitVec.toNat_and];exact Nat.le_trans Nat.and_le_right (by decide)
 have e : Go.bits .and .u64 x 255 = ((((BitVec.ofInt 64 x &&& BitVec.ofInt 64 255).toNat : Nat) : Int) % 18446744073709551616) := by
  unfold Go.bits IntKind.wrap;simp only [IntKind.signed,Bool.false_and,Bool.false_eq_true,if_false];rfl
 rw [e];generalize (BitVec.ofInt 64 x &&& BitVec.ofInt 64 255).toNat = n at h;omega
def Ul {α : Type} (f : Option (α × Int × Int)) (a n : Int) (P : α -> Prop) : Prop := ∃ r a' s',f = some (r,a',s') ∧ P r ∧ a <= a' ∧ a' <= a + n
theorem Vo {l : List Int} (hu : U8 l) {a : Int} (s : Int) (h0 : 0 <= a) (h1 : a <= 1000000000000) : Ul (spec_l1Cur_next.f l a s) a 1 (fun r => 0 <= r ∧ r <= 255) := by
 have hw : wrap64 (a + 1) = a + 1 := Xg (by omega) (by omega);unfold spec_l1Cur_next.f;rw [hw];have low : ∀ x : Int,0 <= wrap64 (Go.bits .and .u64 x 255) ∧ wrap64 (Go.bits .and .u64 x 255) <= 255 := fun x => by
  have := Um x;rw [Xg (by omega) (by omega)];exact this
 by_cases h2 : a < (l.length : Int)
 ·have hr : 0 <= rd l a ∧ rd l a <= 255 := by
   have hlt : a.toNat < l.length := by omega
   have e : rd l a = l[a.toNat] := by
    show l.getD a.toNat 0 = _;rw [List.getD_eq_getElem?_getD,List.getElem?_eq_getElem hlt];rfl
   rw [e];exact Vx (hu.b _ (List.getElem_mem _))
  have hwr : wrap64 (rd l a) = rd l a := Xg (by omega) (by omega);rw [if_pos h2,if_pos h0,hwr];by_cases h3 : a + 1 <= (l.length : Int)
  ·rw [if_pos h3];exact ⟨_,_,_,rfl,hr,by omega,by omega⟩
  ·rw [if_neg h3];refine ⟨_,_,_,rfl,?_,by omega,by omega⟩;exact low _
 ·rw [if_neg h2];by_cases h3 : a + 1 <= (l.length : Int)
  ·rw [if_pos h3];exact ⟨_,_,_,rfl,⟨by decide,by decide⟩,by omega,by omega⟩
  ·rw [if_neg h3];exact ⟨_,_,_,rfl,low _,by omega,by omega⟩
theorem Xs {l : List Int} (hu : U8 l) {a : Int} (s : Int) (h0 : 0 <= a) (h1 : a <= 999999999990) (n : Int) (hn : 1 <= n) (hm : n <= 1000000) : Ul (spec_l1Cur_pick.f l a s n) a 2 (fun r => 0 <= r ∧ r < n) := by
 unfold spec_l1Cur_pick.f;by_cases h2 : n <= 1
 ·rw [if_pos h2];exact ⟨_,_,_,rfl,⟨by omega,by omega⟩,by omega,by omega⟩
 ·rw [if_neg h2];obtain ⟨x,a1,s1,e1,⟨x0,x1⟩,p1,p2⟩ := Vo hu s h0 (by omega);rw [e1];simp only [Option.bind_some,eq_false (show ¬ n = 0 by omega),if_false];by_cases h3 : n > 200
  ·obtain ⟨y,a2,s2,e2,⟨y0,y1⟩,q1,q2⟩ := Vo hu s1 (a := a1) (by omega) (by omega);simp only [eq_true h3,if_true,e2,Option.bind_some];refine ⟨_,_,_,rfl,?_,by omega,by omega⟩;rw [Xg (x := x * 256) (by omega) (by omega),Xg (by omega) (by omega),Int.tmod_eq_emod_of_nonneg (by omega)];exact ⟨Int.emod_nonneg _ (by omega),Int.emod_lt_of_pos _ (by omega)⟩
  ·simp only [eq_false h3,if_false];refine ⟨_,_,_,rfl,?_,by omega,by omega⟩;rw [Int.tmod_eq_emod_of_nonneg (by omega)];exact ⟨Int.emod_nonneg _ (by omega),Int.emod_lt_of_pos _ (by omega)⟩
theorem Uk {l : List Int} (hu : U8 l) {a : Int} (s : Int) (h0 : 0 <= a) (h1 : a <= 999999999990) (n : Int) (hn : 1 <= n) (hm : n <= 1000000) : Ul (spec_l1Cur_one.f l a s n) a 2 (fun _ => True) := by
 obtain ⟨x,a1,s1,e1,_,p1,p2⟩ := Xs hu s h0 h1 n hn hm;unfold spec_l1Cur_one.f;rw [e1];exact ⟨_,_,_,rfl,trivial,p1,p2⟩
theorem Xx {l : List Int} (hu : U8 l) {a : Int} (s : Int) (h0 : 0 <= a) (h1 : a <= 999999999990) (L : List Int) (hn : 0 < L.length) (hm : L.length <= 1000000) : Ul (spec_l1Cur_among.f l a s L) a 2 (fun r => r ∈ L) := by
 obtain ⟨x,a1,s1,e1,⟨x0,x1⟩,p1,p2⟩ := Xs hu s h0 h1 (L.length : Int) (by omega) (by omega);unfold spec_l1Cur_among.f;rw [e1];simp only [Option.bind_some,eq_true x0,eq_true x1,if_true];refine ⟨_,_,_,rfl,?_,p1,p2⟩;have hlt : x.toNat < L.length := by omega
 have e : rd L x = L[x.toNat] := by
  show L.getD x.toNat 0 = _;rw [List.getD_eq_getElem?_getD,List.getElem?_eq_getElem hlt];rfl
 rw [e];exact List.getElem_mem _
def Ya (a b c : Int) : Bool := decide (b <= a ∧ a <= c)
theorem Yw (a b c : Int) : spec_l1In.f a b c = some (Ya a b c) := by
 unfold spec_l1In.f Ya
 split <;> simp <;> omega
theorem X7 (a b c : Int) : impl_within.f a b c = some (Ya a b c) := by
 unfold impl_within.f Ya
 split <;> simp <;> omega
def Zn (s : ByteArray) (j : Nat) : Bool := decide (65 <= bt s j ∧ bt s j <= 90)
def X1 (s : ByteArray) : Bool := Ya s.size 1 8 && (List.range s.size).all (Zn s)
def caps : ByteArray := ⟨#[65,66,67,68,69,70,71,72,73,74,75,76,77,78,79,80,81,82,83,84,85,86,87,88,89,90]⟩
theorem V2 : ((List.range 256).all fun n => decide (Lib.indexByte caps.data.toList n.toUInt8 < 0) == !(decide (65 <= n ∧ n <= 90))) = true := by decide +kernel
theorem Yy (b : Int) (h0 : 0 <= b) (h1 : b <= 255) : (Lib.indexByte caps.data.toList b.toNat.toUInt8 < 0) ↔ ¬ (65 <= b ∧ b <= 90) := by
 have h := List.all_eq_true.1 V2 b.toNat (List.mem_range.2 (by omega));simp only [beq_iff_eq] at h;by_cases hc : 65 <= b ∧ b <= 90
 ·have h2 : decide (65 <= b.toNat ∧ b.toNat <= 90) = true := decide_eq_true (by omega);rw [h2] at h;exact ⟨fun h3 => absurd h3 (of_decide_eq_false h),fun h3 => absurd hc h3⟩
 ·have h2 : decide (65 <= b.toNat ∧ b.toNat <= 90) = false := decide_eq_false (by omega);rw [h2] at h;exact ⟨fun _ => hc,fun _ => of_decide_eq_true h⟩
theorem Z5 (s : ByteArray) (hs : s.size < 4611686018427387904) : Ev (fun k => impl_hasOnly.f k s caps) ((List.range s.size).all (Zn s)) := by
 unfold impl_hasOnly.f;refine Ev.eq (Ev.all0 (L := fun k j => impl_hasOnly.l0 k s caps (s.size : Int) (j : Int)) (P := Zn s) (n := s.size) (a := true) (b := false) ?_ ?_ ?_) (by split <;> simp_all)
 ·refine Ev.succ ?_;simp only [impl_hasOnly.l0,Int.lt_irrefl,if_false];exact Ev.now _
 ·intro j r hj hP h;refine Ev.succ ?_;have h1 : ((j : Int) < (s.size : Int)) = True := eq_true (by omega);have hb := bt_range s (j : Int);have h2 : (Lib.indexByte caps.data.toList (bt s (j : Int)).toNat.toUInt8 < 0) = False := eq_false (fun hc => (Yy _ hb.1 hb.2).1 hc (of_decide_eq_true hP));simp only [impl_hasOnly.l0,strings_IndexByte.f,Option.bind_some,h1,if_true,Xa,h2,if_false,Xb (show j < 4611686018427387904 by omega)];exact h
 ·intro j hj hP;refine Ev.succ ?_;have h1 : ((j : Int) < (s.size : Int)) = True := eq_true (by omega);have hb := bt_range s (j : Int);have h2 : (Lib.indexByte caps.data.toList (bt s (j : Int)).toNat.toUInt8 < 0) = True := eq_true ((Yy _ hb.1 hb.2).2 (of_decide_eq_false hP));simp only [impl_hasOnly.l0,strings_IndexByte.f,Option.bind_some,h1,if_true,Xa,h2];exact Ev.now _
theorem Vc (s : ByteArray) (hs : s.size < 4611686018427387904) : Ev (fun k => impl_IsGloss.f k s) (X1 s) := by
 unfold impl_IsGloss.f impl_isWordOf.f X1;refine Ev.bind (a := Ya s.size 1 8 && (List.range s.size).all (Zn s)) ?_ (Ev.now _);simp only [X7,Option.bind_some];rcases Bool.eq_false_or_eq_true (Ya s.size 1 8) with h | h
 ·simp only [h,if_true,Bool.true_and];exact Ev.bind (Z5 s hs) (Ev.now _)
 ·simp only [h];exact Ev.now _
theorem Y9 (s : ByteArray) (hs : s.size < 4611686018427387904) : Ev (fun k => spec_fsWord.f k s) (X1 s) := by
 unfold spec_fsWord.f;refine Ev.eq (Ev.all0 (L := fun k j => spec_fsWord.l0 k s (j : Int)) (P := Zn s) (n := s.size) (a := Ya s.size 1 8) (b := false) ?_ ?_ ?_) (by unfold X1;split <;> simp_all)
 ·refine Ev.succ ?_;simp only [spec_fsWord.l0,Int.lt_irrefl,if_false,Yw,Option.bind_some];exact Ev.now _
 ·intro j r hj hP h;refine Ev.succ ?_;have h1 : ((j : Int) < (s.size : Int)) = True := eq_true (by omega);have hP' := of_decide_eq_true hP;simp only [spec_fsWord.l0,h1,if_true,Xa,show (bt s (j : Int) < 65) = False from eq_false (by omega),show (bt s (j : Int) > 90) = False from eq_false (by omega),if_false,Xb (show j < 4611686018427387904 by omega)];exact h
 ·intro j hj hP;refine Ev.succ ?_;have h1 : ((j : Int) < (s.size : Int)) = True := eq_true (by omega);have hP' := of_decide_eq_false hP;simp only [spec_fsWord.l0,h1,if_true,Xa];by_cases h2 : bt s (j : Int) < 65
  ·simp only [eq_true h2,if_true];exact Ev.now _
  ·simp only [eq_false h2,if_false,show (bt s (j : Int) > 90) = True from eq_true (by omega),if_true];exact Ev.now _
def Xw (g : ByteArray) (b d : Int) : Bool := X1 g && (Ya b 0 5 && Ya d 0 99999)
theorem Yb (d : Int) : impl_isFrame.f d = some (Ya d 0 99999) := by
 unfold impl_isFrame.f;simp only [X7,Option.bind_some]
theorem Yf (d : Int) : spec_rpDay.f d = some (Ya d 0 99999) := by
 unfold spec_rpDay.f;simp only [Yw,Option.bind_some]
theorem Yl (g : ByteArray) (b d : Int) (hs : g.size < 4611686018427387904) : Ev (fun k => impl_isCard.f k g b d) (Xw g b d) := by
 unfold impl_isCard.f Xw;refine Ev.bind (Vc g hs) ?_;simp only [X7,Yb,Option.bind_some];rcases Bool.eq_false_or_eq_true (X1 g) with h | h <;> rcases Bool.eq_false_or_eq_true (Ya b 0 5) with h2 | h2 <;> simp only [h,h2] <;> exact Ev.now _
theorem Zl (g : ByteArray) (b d : Int) (hs : g.size < 4611686018427387904) : Ev (fun k => spec_rpOne.f k g b d) (Xw g b d) := by
 unfold spec_rpOne.f Xw;refine Ev.bind (Y9 g hs) ?_;simp only [Yw,Yf,Option.bind_some];rcases Bool.eq_false_or_eq_true (X1 g) with h | h <;> rcases Bool.eq_false_or_eq_true (Ya b 0 5) with h2 | h2 <;> simp only [h,h2] <;> exact Ev.now _
def Xj (l : List S94) (j : Nat) : S94 := l.getD j z94
theorem Y6 (l : List S94) (j : Nat) : rd_T94 l (j : Int) = Xj l j := by simp [rd_T94,Xj]
def Z2 (x : S94) : Bool := Xw x.f0 x.f1 x.f2
def Vh (l : List S94) (i : Nat) : Bool := Z2 (Xj l i) && (decide (i = 0) || Op.bytesLess (Xj l (i - 1)).f0.toList (Xj l i).f0.toList)
def Xd (l : List S94) : Bool := if (List.range l.length).all (Vh l) then decide (l.length <= 20) else false
def Zj (l : List S94) : Prop := ∀ i,i < l.length -> (Xj l i).f0.size <= 140737488351232
theorem Xn (l : List S94) (hl : l.length < 4611686018427387904) (hz : Zj l) : Ev (fun k => spec_rpGood.f k l) (Xd l) := by
 unfold spec_rpGood.f Xd;refine Ev.all0 (L := fun k j => spec_rpGood.l0 k l l (l.length : Int) (j : Int)) (P := Vh l) (n := l.length) ?_ ?_ ?_
 ·refine Ev.succ ?_;simp only [spec_rpGood.l0,Int.lt_irrefl,if_false];refine Ev.eq (Ev.now _) ?_;rw [decide_eq_decide];omega
 ·intro j r hj hP h;refine Ev.succ ?_;have h1 : ((j : Int) < (l.length : Int)) = True := eq_true (by omega);have hsz := hz j hj;simp only [Vh,Bool.and_eq_true,Bool.or_eq_true,decide_eq_true_eq,Z2] at hP;simp only [spec_rpGood.l0,h1,if_true,Xa,Y6,Xb (show j < 4611686018427387904 by omega)];refine Ev.bind (Ev.eq (Zl (Xj l j).f0 (Xj l j).f1 (Xj l j).f2 (by omega)) hP.1) ?_;by_cases h0 : j = 0
  ·subst h0;exact h
  ·have h2 : ((j : Int) > 0) = True := eq_true (by omega);have h3 : (((j - 1 : Nat) : Int) < (l.length : Int)) = True := eq_true (by omega);have h4 := hP.2.resolve_left h0;simp only [h2,if_true,X9 (show 0 < j by omega) (show j < 4611686018427387904 by omega),Xa,h3,Y6,h4];exact h
 ·intro j hj hP;refine Ev.succ ?_;have h1 : ((j : Int) < (l.length : Int)) = True := eq_true (by omega);have hsz := hz j hj;simp only [Vh,Z2] at hP;simp only [spec_rpGood.l0,h1,if_true,Xa,Y6,Xb (show j < 4611686018427387904 by omega)];refine Ev.bind (Zl (Xj l j).f0 (Xj l j).f1 (Xj l j).f2 (by omega)) ?_;rcases Bool.eq_false_or_eq_true (Xw (Xj l j).f0 (Xj l j).f1 (Xj l j).f2) with hk | hk
  ·simp only [hk,if_true];simp only [hk,Bool.true_and,Bool.or_eq_false_iff,decide_eq_false_iff_not] at hP;have h2 : ((j : Int) > 0) = True := eq_true (by omega);have h3 : (((j - 1 : Nat) : Int) < (l.length : Int)) = True := eq_true (by omega);simp only [h2,if_true,X9 (show 0 < j by omega) (show j < 4611686018427387904 by omega),Xa,h3,Y6,hP.2];exact Ev.now _
  ·simp only [hk];exact Ev.now _
theorem Xi (l : List S94) (hl : l.length < 4611686018427387904) (hz : Zj l) : Ev (fun k => impl_AreCards.f k l) (Xd l) := by
 unfold impl_AreCards.f Xd;refine Ev.all0 (L := fun k j => impl_AreCards.l0 k l l (l.length : Int) (j : Int)) (P := Vh l) (n := l.length) ?_ ?_ ?_
 ·refine Ev.succ ?_;simp only [impl_AreCards.l0,Int.lt_irrefl,if_false];refine Ev.eq (Ev.now _) ?_;rw [decide_eq_decide];omega
 ·intro j r hj hP h;refine Ev.succ ?_;have h1 : ((j : Int) < (l.length : Int)) = True := eq_true (by omega);have hsz := hz j hj;simp only [Vh,Bool.and_eq_true,Bool.or_eq_true,decide_eq_true_eq,Z2] at hP;simp only [impl_AreCards.l0,h1,if_true,Xa,Y6,Xb (show j < 4611686018427387904 by omega)];refine Ev.bind (Ev.eq (Yl (Xj l j).f0 (Xj l j).f1 (Xj l j).f2 (by omega)) hP.1) ?_;by_cases h0 : j = 0
  ·subst h0;exact h
  ·have h2 : ((j : Int) > 0) = True := eq_true (by omega);have h3 : (((j - 1 : Nat) : Int) < (l.length : Int)) = True := eq_true (by omega);have h4 := hP.2.resolve_left h0;simp only [h2,if_true,X9 (show 0 < j by omega) (show j < 4611686018427387904 by omega),Xa,h3,Y6,h4];exact h
 ·intro j hj hP;refine Ev.succ ?_;have h1 : ((j : Int) < (l.length : Int)) = True := eq_true (by omega);have hsz := hz j hj;simp only [Vh,Z2] at hP;simp only [impl_AreCards.l0,h1,if_true,Xa,Y6,Xb (show j < 4611686018427387904 by omega)];refine Ev.bind (Yl (Xj l j).f0 (Xj l j).f1 (Xj l j).f2 (by omega)) ?_;rcases Bool.eq_false_or_eq_true (Xw (Xj l j).f0 (Xj l j).f1 (Xj l j).f2) with hk | hk
  ·simp only [hk,if_true];simp only [hk,Bool.true_and,Bool.or_eq_false_iff,decide_eq_false_iff_not] at hP;have h2 : ((j : Int) > 0) = True := eq_true (by omega);have h3 : (((j - 1 : Nat) : Int) < (l.length : Int)) = True := eq_true (by omega);simp only [h2,if_true,X9 (show 0 < j by omega) (show j < 4611686018427387904 by omega),Xa,h3,Y6,hP.2];exact Ev.now _
  ·simp only [hk];exact Ev.now _
theorem V1 {l : List Int} (hu : U8 l) {a : Int} (s : Int) (h0 : 0 <= a) (h1 : a <= 999999999990) (L : List ByteArray) (hn : 0 < L.length) (hm : L.length <= 1000000) : Ul (spec_l1Cur_of.f l a s L) a 2 (fun r => r ∈ L) := by
 obtain ⟨x,a1,s1,e1,⟨x0,x1⟩,p1,p2⟩ := Xs hu s h0 h1 (L.length : Int) (by omega) (by omega);unfold spec_l1Cur_of.f;rw [e1];simp only [Option.bind_some,eq_true x0,eq_true x1,if_true];refine ⟨_,_,_,rfl,?_,p1,p2⟩;have hlt : x.toNat < L.length := by omega
 have e : rdOf ByteArray.empty L x = L[x.toNat] := by
  show L.getD x.toNat ByteArray.empty = _;rw [List.getD_eq_getElem?_getD,List.getElem?_eq_getElem hlt];rfl
 rw [e];exact List.getElem_mem _
theorem Vm {l : List Int} (hu : U8 l) {a : Int} (s : Int) (h0 : 0 <= a) (h1 : a <= 999999999900) (g : ByteArray) : ∃ b d a' s',Ev (fun k => spec_l1Cur_card.f k l a s g) (g,b,d,a',s') ∧ a <= a' ∧ a' <= a + 12 := by
 obtain ⟨y1,a1,s1,e1,_,p1,q1⟩ := Xs hu s h0 (by omega) 6 (by decide) (by decide);obtain ⟨y2,a2,s2,e2,_,p2,q2⟩ := Xs hu s1 (a := a1) (by omega) (by omega) 30 (by decide) (by decide);obtain ⟨y3,a3,s3,e3,_,p3,q3⟩ := Xx hu s2 (a := a2) (by omega) (by omega) [0,5,10,10,14,y2,99999] (by simp) (by simp);obtain ⟨n,a4,s4,e4,_,p4,q4⟩ := Xs hu s3 (a := a3) (by omega) (by omega) 60 (by decide) (by decide);unfold spec_l1Cur_card.f;simp only [e1,e2,e3,e4,Option.bind_some];by_cases c0 : n = 0
 ·obtain ⟨z,a6,s6,e6,_,p6,q6⟩ := Xx hu s4 (a := a4) (by omega) (by omega) [(-1),6] (by decide) (by decide);refine ⟨z,y3,a6,s6,?_,by omega,by omega⟩;simp only [eq_true c0,if_true,e6,Option.bind_some];exact Ev.succ (by simp only [spec_l1Cur_card.j0];exact Ev.now _)
 ·by_cases c1 : n = 1
  ·obtain ⟨z,a6,s6,e6,_,p6,q6⟩ := Xx hu s4 (a := a4) (by omega) (by omega) [(-1),100000,(-9223372036854775808)] (by decide) (by decide);refine ⟨y1,z,a6,s6,?_,by omega,by omega⟩;simp only [eq_false c0,if_false,eq_true c1,if_true,e6,Option.bind_some,show ((1 : Int) = 0) = False from eq_false (by decide)];exact Ev.succ (by simp only [spec_l1Cur_card.j0];exact Ev.now _)
  ·refine ⟨y1,y3,a4,s4,?_,by omega,by omega⟩;simp only [eq_false c0,eq_false c1,if_false];exact Ev.succ (by simp only [spec_l1Cur_card.j0];exact Ev.now _)
theorem Yc {l : List Int} (hu : U8 l) {a : Int} (s : Int) (h0 : 0 <= a) (h1 : a <= 999999999900) : Ul (spec_l1Cur_cardDay.f l a s) a 6 (fun _ => True) := by
 obtain ⟨n,a1,s1,e1,_,p1,q1⟩ := Xs hu s h0 (by omega) 40 (by decide) (by decide);obtain ⟨y2,a2,s2,e2,_,p2,q2⟩ := Xx hu s1 (a := a1) (by omega) (by omega) [30,(-1),100000] (by decide) (by decide);obtain ⟨y3,a3,s3,e3,_,p3,q3⟩ := Xx hu s2 (a := a2) (by omega) (by omega) [0,5,10,14,20,n,99998,99999,y2] (by simp) (by simp);unfold spec_l1Cur_cardDay.f;simp only [e1,e2,e3,Option.bind_some];exact ⟨_,_,_,rfl,trivial,by omega,by omega⟩
def Xr (g : ByteArray) : Prop := g.size <= 10
theorem Xc {g : ByteArray} {L : List ByteArray} (h : Xr g) (hL : ∀ x,x ∈ L -> Xr x) : ∀ x,x ∈ g :: L -> Xr x := fun x hx => by
 rcases List.mem_cons.1 hx with rfl | hx
 ·exact h
 ·exact hL x hx
theorem X8 : ∀ x : ByteArray,x ∈ ([] : List ByteArray) -> Xr x := fun _ h => by cases h
theorem Xe {g : ByteArray} (h : g.size <= 10) : Xr g := h
theorem Ze {l : List Int} (hu : U8 l) {a : Int} (s : Int) (h0 : 0 <= a) (h1 : a <= 999999999900) : Ul (spec_l1Cur_cardGloss.f l a s) a 4 Xr := by
 obtain ⟨y2,a2,s2,e2,m2,p2,q2⟩ := V1 hu s h0 (by omega) [(⟨#[88]⟩ : ByteArray),(⟨#[]⟩ : ByteArray),(⟨#[103,111]⟩ : ByteArray)] (by simp) (by simp);obtain ⟨y3,a3,s3,e3,m3,p3,q3⟩ := V1 hu s2 (a := a2) (by omega) (by omega) [(⟨#[66,79,79,75]⟩ : ByteArray),(⟨#[71,73,86,69]⟩ : ByteArray),(⟨#[71,79]⟩ : ByteArray),(⟨#[72,79,85,83,69]⟩ : ByteArray),(⟨#[73]⟩ : ByteArray),(⟨#[89,79,85]⟩ : ByteArray),(⟨#[78,69,87]⟩ : ByteArray),y2] (by simp) (by simp);have h2 : Xr y2 := Xc (Xe (by decide)) (Xc (Xe (by decide)) (Xc (Xe (by decide)) X8)) _ m2;have h3 : Xr y3 := Xc (Xe (by decide)) (Xc (Xe (by decide)) (Xc (Xe (by decide)) (Xc (Xe (by decide)) (Xc (Xe (by decide)) (Xc (Xe (by decide)) (Xc (Xe (by decide)) (Xc h2 X8))))))) _ m3;unfold spec_l1Cur_cardGloss.f;simp only [e2,e3,Option.bind_some];exact ⟨_,_,_,rfl,h3,by omega,by omega⟩
def CShort (l : List S94) : Prop := ∀ x,x ∈ l -> Xr x.f0
theorem CShort.csz {l : List S94} (h : CShort l) : Zj l := fun i hi => by
 unfold Xj;rw [List.getD_eq_getElem?_getD,List.getElem?_eq_getElem hi];have := h _ (List.getElem_mem hi);unfold Xr at this;show (l[i]).f0.size <= _;omega
theorem CShort.snoc {l : List S94} (h : CShort l) {x : S94} (hx : Xr x.f0) : CShort (l ++ [x]) := fun y hy => by
 rcases List.mem_append.1 hy with hy | hy
 ·exact h y hy
 ·rw [List.mem_singleton.1 hy];exact hx
def letters : ByteArray := ⟨#[65,66,67,68,69,70,71,72,73,74,75,76,77,78,79,80,81,82,83,84,85]⟩
theorem V8 {l : List Int} {a s : Int} (N : Nat) (hN : N <= 21) : ∀ (d : Nat) (x3 : List S94),x3.length + d = N -> CShort x3 -> ∃ L,Ev (fun k => spec_l1Cur_cards.l1 k x3 (N : Int) l a s) (L,a,s) ∧ L.length <= 21 ∧ CShort L := by
 intro d
 induction d with
 | zero =>
  intro x3 hd hs;refine ⟨x3,Ev.succ ?_,by omega,hs⟩;simp only [spec_l1Cur_cards.l1,show ((x3.length : Int) < (N : Int)) = False from eq_false (by omega),if_false];exact Ev.now _
 | succ d ih =>
  intro x3 hd hs;have e1 : (letters.extract x3.length (x3.length + 1)).size = 1 := by
   rw [ByteArray.size_extract];have : letters.size = 21 := rfl;omega
  have hw : wrap64 ((x3.length : Int) + 1) = ((x3.length + 1 : Nat) : Int) := Xb (by omega);have hlet : (⟨#[65,66,67,68,69,70,71,72,73,74,75,76,77,78,79,80,81,82,83,84,85]⟩ : ByteArray) = letters := rfl;obtain ⟨L,hE,hL,hS⟩ := ih (x3 ++ [(⟨(⟨#[67]⟩ : ByteArray) ++ letters.extract x3.length (x3.length + 1),(x3.length : Int) % 6,(x3.length : Int)⟩ : S94)]) (by rw [List.length_append,List.length_singleton];omega) (hs.snoc (by
   show (_ ++ _ : ByteArray).size <= 10;rw [ByteArray.size_append,e1]
   decide))
  refine ⟨L,Ev.succ ?_,hL,hS⟩;simp only [spec_l1Cur_cards.l1,show ((x3.length : Int) < (N : Int)) = True from eq_true (by omega),if_true,Xa,hw,Int.toNat_natCast,hlet,e1,show ((x3.length : Int) <= ((x3.length + 1 : Nat) : Int)) = True from eq_true (by omega),show (((x3.length + 1 : Nat) : Int) <= 21) = True from eq_true (by omega),show (1 + 1 <= 9223372036854775807) = True from eq_true (by decide),show (x3.length < 4398046511104) = True from eq_true (by omega)];exact hE
def names6 : List ByteArray := [(⟨#[66,79,79,75]⟩ : ByteArray),(⟨#[71,73,86,69]⟩ : ByteArray),(⟨#[71,79]⟩ : ByteArray),(⟨#[72,79,85,83,69]⟩ : ByteArray),(⟨#[73]⟩ : ByteArray),(⟨#[89,79,85]⟩ : ByteArray)]
theorem Zg : ∀ x,x ∈ names6 -> Xr x := Xc (Xe (by decide)) (Xc (Xe (by decide)) (Xc (Xe (by decide)) (Xc (Xe (by decide)) (Xc (Xe (by decide)) (Xc (Xe (by decide)) X8)))))
theorem V6 {l : List Int} (hu : U8 l) : ∀ (d j : Nat) (x3 : List S94) (a s : Int),j + d = 6 -> x3.length <= j -> CShort x3 -> 0 <= a -> a + 20 * d <= 999999998000 -> ∃ L a' s',Ev (fun k => spec_l1Cur_cards.l0 k x3 names6 6 (j : Int) l a s) (L,a',s') ∧ L.length <= 21 ∧ CShort L ∧ a <= a' ∧ a' <= a + 20 * d + 30 := by
 intro d
 induction d with
 | zero =>
  intro j x3 a s hd hl hs h0 h1;obtain rfl : j = 6 := by omega
  obtain ⟨n,a1,s1,e1,_,p1,q1⟩ := Xs hu s h0 (by omega) 30 (by decide) (by decide);by_cases c0 : n = 0
  ·obtain ⟨g,a2,s2,e2,m2,p2,q2⟩ := V1 hu s1 (a := a1) (by omega) (by omega) [(⟨#[90,90]⟩ : ByteArray),(⟨#[65]⟩ : ByteArray),(⟨#[]⟩ : ByteArray),(⟨#[122,122]⟩ : ByteArray)] (by simp) (by simp);have hg : Xr g := Xc (Xe (by decide)) (Xc (Xe (by decide)) (Xc (Xe (by decide)) (Xc (Xe (by decide)) X8))) _ m2;obtain ⟨b,dd,a3,s3,e3,p3,q3⟩ := Vm hu s2 (a := a2) (by omega) (by omega) g;refine ⟨x3 ++ [(⟨g,b,dd⟩ : S94)],a3,s3,Ev.succ ?_,by rw [List.length_append,List.length_singleton];omega,hs.snoc hg,by omega,by omega⟩;simp only [spec_l1Cur_cards.l0,show (((6 : Nat) : Int) < 6) = False from eq_false (by decide),if_false,e1,Option.bind_some,eq_true c0,if_true,e2];refine Ev.bind e3 ?_;simp only [if_true,show (x3.length < 4398046511104) = True from eq_true (by omega)];exact Ev.now _
  ·by_cases c1 : n = 1
   ·obtain ⟨m,a2,s2,e2,⟨m0,m1⟩,p2,q2⟩ := Xs hu s1 (a := a1) (by omega) (by omega) 2 (by decide) (by decide);obtain ⟨N,hN⟩ : ∃ N : Nat,20 + m = (N : Int) := ⟨(20 + m).toNat,by omega⟩;obtain ⟨L,hE,hL,hS⟩ := V8 (l := l) (a := a2) (s := s2) N (by omega) N [] (by simp) (fun x hx => by cases hx);refine ⟨L,a2,s2,Ev.succ ?_,hL,hS,by omega,by omega⟩;simp only [spec_l1Cur_cards.l0,show (((6 : Nat) : Int) < 6) = False from eq_false (by decide),if_false,e1,Option.bind_some,eq_false c0,eq_true c1,if_true,e2,show ((1 : Int) = 0) = False from eq_false (by decide)];rw [Xg (by omega) (by omega),hN];exact hE
   ·refine ⟨x3,a1,s1,Ev.succ ?_,by omega,hs,by omega,by omega⟩;simp only [spec_l1Cur_cards.l0,show (((6 : Nat) : Int) < 6) = False from eq_false (by decide),if_false,e1,Option.bind_some,eq_false c0,eq_false c1];exact Ev.now _
 | succ d ih =>
  intro j x3 a s hd hl hs h0 h1;obtain ⟨b,a1,s1,e1,_,p1,q1⟩ := Uk hu s h0 (by omega) 2 (by decide) (by decide);have hj : ((j : Int) < 6) = True := eq_true (by omega);have hn6 : (names6.length : Int) = 6 := rfl;have hw : wrap64 ((j : Int) + 1) = ((j + 1 : Nat) : Int) := Xb (by omega);cases b with
  | true =>
   have hm : rdOf ByteArray.empty names6 (j : Int) ∈ names6 := by
    have hlt : j < names6.length := by show j < 6;omega
    have e : rdOf ByteArray.empty names6 (j : Int) = names6[j] := by
     show names6.getD ((j : Int)).toNat ByteArray.empty = _;rw [Int.toNat_natCast,List.getD_eq_getElem?_getD,List.getElem?_eq_getElem hlt];rfl
    rw [e];exact List.getElem_mem _
   obtain ⟨bb,dd,a2,s2,e2,p2,q2⟩ := Vm hu s1 (a := a1) (by omega) (by omega) (rdOf ByteArray.empty names6 (j : Int));obtain ⟨L,a',s',hE,hL,hS,r1,r2⟩ := ih (j + 1) (x3 ++ [(⟨rdOf ByteArray.empty names6 (j : Int),bb,dd⟩ : S94)]) a2 s2 (by omega) (by rw [List.length_append,List.length_singleton];omega) (hs.snoc (Zg _ hm)) (by omega) (by omega);refine ⟨L,a',s',Ev.succ ?_,hL,hS,by omega,by omega⟩;simp only [spec_l1Cur_cards.l0,hj,if_true,Xa,hn6,e1,Option.bind_some];refine Ev.bind e2 ?_;simp only [if_true,show (x3.length < 4398046511104) = True from eq_true (by omega),hw];exact hE
  | false =>
   obtain ⟨L,a',s',hE,hL,hS,r1,r2⟩ := ih (j + 1) x3 a1 s1 (by omega) (by omega) hs (by omega) (by omega);refine ⟨L,a',s',Ev.succ ?_,hL,hS,by omega,by omega⟩;simp only [spec_l1Cur_cards.l0,hj,if_true,Xa,hn6,e1,Option.bind_some,Bool.false_eq_true,if_false,hw];exact hE
theorem Yi {l : List Int} (hu : U8 l) {a : Int} (s : Int) (h0 : 0 <= a) (h1 : a <= 999999997000) : ∃ L a' s',Ev (fun k => spec_l1Cur_cards.f k l a s) (L,a',s') ∧ L.length <= 21 ∧ CShort L ∧ a <= a' ∧ a' <= a + 200 := by
 obtain ⟨L,a',s',hE,hL,hS,r1,r2⟩ := V6 hu 6 0 [] a s (by omega) (by simp) (fun x hx => by cases hx) h0 (by omega);refine ⟨L,a',s',?_,hL,hS,r1,by omega⟩;unfold spec_l1Cur_cards.f;exact hE
theorem V0 (l : List Int) (hl : l.length < 4611686018427387904) : Ev (fun k => laws_qInts.f k l l) true := by
 unfold laws_qInts.f;simp only [if_true];exact Ev.upto (L := fun k j => laws_qInts.l0 k l l (l.length : Int) (j : Int)) (r := true) (n := l.length)
  (by
   refine Ev.succ ?_;simp only [laws_qInts.l0,Int.lt_irrefl,if_false];exact Ev.now _)
  (by
   intro j hj h;refine Ev.succ ?_;simp only [laws_qInts.l0,show ((j : Int) < (l.length : Int)) = True from eq_true (by omega),if_true,Xa,Xb (show j < 4611686018427387904 by omega)];exact h)
  0 (Nat.zero_le _)
theorem Vt (l : List S94) (hl : l.length < 4611686018427387904) : Ev (fun k => laws_qCards.f k l l) true := by
 unfold laws_qCards.f;simp only [if_true];exact Ev.upto (L := fun k j => laws_qCards.l0 k l l (l.length : Int) (j : Int)) (r := true) (n := l.length)
  (by
   refine Ev.succ ?_;simp only [laws_qCards.l0,Int.lt_irrefl,if_false];exact Ev.now _)
  (by
   intro j hj h;refine Ev.succ ?_;simp only [laws_qCards.l0,show ((j : Int) < (l.length : Int)) = True from eq_true (by omega),if_true,Xa,beq_self_eq_true,Bool.not_true,Bool.or_self,Bool.false_eq_true,if_false,Xb (show j < 4611686018427387904 by omega)];exact h)
  0 (Nat.zero_le _)
theorem Yn (l : List ByteArray) (hl : l.length < 4611686018427387904) : Ev (fun k => laws_qTexts.f k l l) true := by
 unfold laws_qTexts.f;simp only [if_true];exact Ev.upto (L := fun k j => laws_qTexts.l0 k l l (l.length : Int) (j : Int)) (r := true) (n := l.length)
  (by
   refine Ev.succ ?_;simp only [laws_qTexts.l0,Int.lt_irrefl,if_false];exact Ev.now _)
  (by
   intro j hj h;refine Ev.succ ?_;simp only [laws_qTexts.l0,show ((j : Int) < (l.length : Int)) = True from eq_true (by omega),if_true,Xa,Xb (show j < 4611686018427387904 by omega)];exact h)
  0 (Nat.zero_le _)
theorem Vj {l : List ByteArray} (hl : l.length < 4611686018427387904) {g : ByteArray} (hg : g ∈ l) : Ev (fun k => laws_qSay.f k l g) true := by
 obtain ⟨i,hi,rfl⟩ := List.mem_iff_getElem.1 hg;unfold laws_qSay.f;have key : ∀ d j,j + d = i -> Ev (fun k => laws_qSay.l0 k l[i] l (l.length : Int) (j : Int)) true := by
  intro d
  induction d with
  | zero =>
   intro j hj;obtain rfl : j = i := by omega
   have e : rdOf ByteArray.empty l (j : Int) = l[j] := by
    show l.getD ((j : Int)).toNat ByteArray.empty = _;rw [Int.toNat_natCast,List.getD_eq_getElem?_getD,List.getElem?_eq_getElem hi];rfl
   refine Ev.succ ?_;simp only [laws_qSay.l0,show ((j : Int) < (l.length : Int)) = True from eq_true (by omega),if_true,Xa,e];exact Ev.now _
  | succ d ih =>
   intro j hj;have key := ih (j + 1) (by omega);refine Ev.succ ?_;simp only [laws_qSay.l0,show ((j : Int) < (l.length : Int)) = True from eq_true (by omega),if_true,Xa,Xb (show j < 4611686018427387904 by omega)];by_cases h : (rdOf ByteArray.empty l (j : Int)).toList = (l[i]).toList
   ·simp only [eq_true h,if_true];exact Ev.now _
   ·simp only [eq_false h,if_false];exact key
 exact key i 0 (by omega)
def gk (x : S94) : List UInt8 := x.f0.data.toList
theorem Vu (x y : S94) : Op.bytesLess x.f0.toList y.f0.toList = decide (gk x < gk y) := by rw [ByteArray.toList_eq,ByteArray.toList_eq,Go.Proofs.bytesLess_eq];rfl
theorem Xh (l : List S94) (j : Nat) (h : j < l.length) : Xj l j = l[j] := by unfold Xj;rw [List.getD_eq_getElem?_getD,List.getElem?_eq_getElem h];rfl
theorem Zb {α : Type} {R : α -> α -> Prop} (tr : ∀ a b c,R a b -> R b c -> R a c) (l : List α) (h : ∀ i (hi : i + 1 < l.length),R (l[i]'(by omega)) l[i + 1]) : l.Pairwise R := by
 rw [List.pairwise_iff_getElem];intro i j hi hj hij;obtain ⟨d,rfl⟩ : ∃ d,j = i + 1 + d := ⟨j - (i + 1),by omega⟩;clear hij
 induction d with
 | zero => exact h i hj
 | succ d ih => exact tr _ _ _ (ih (by omega)) (h (i + 1 + d) (by omega))
theorem Xp (l : List S94) : Xd l = true ↔ (∀ x,x ∈ l -> Z2 x = true) ∧ l.Pairwise (fun a b => gk a < gk b) ∧ l.length <= 20 := by
 have key : (List.range l.length).all (Vh l) = true ↔ ∀ i,i < l.length -> Vh l i = true := by simp
 unfold Xd;by_cases h : (List.range l.length).all (Vh l) = true
 ·rw [if_pos h,decide_eq_true_eq];rw [key] at h;refine ⟨fun h2 => ⟨fun x hx => ?_,Zb (R := fun a b => gk a < gk b) (fun a b c h1 h2 => List.lt_trans h1 h2) l fun i hi => ?_,h2⟩,fun h2 => h2.2.2⟩
  ·obtain ⟨i,hi,rfl⟩ := List.mem_iff_getElem.1 hx;have := h i hi;unfold Vh at this;rw [Bool.and_eq_true,Xh l i hi] at this;exact this.1
  ·have := h (i + 1) hi;unfold Vh at this;rw [Bool.and_eq_true,Nat.add_sub_cancel,Xh l _ hi,Xh l i (by omega),Vu] at this
   simpa using this.2
 ·rw [if_neg h];refine ⟨fun h2 => by simp at h2,fun ⟨h1,h2,h3⟩ => absurd (key.2 fun i hi => ?_) h⟩;unfold Vh;rw [Bool.and_eq_true,Xh l i hi];refine ⟨h1 _ (List.getElem_mem hi),?_⟩;by_cases h0 : i = 0
  ·simp [h0]
  ·rw [Xh l (i - 1) (by omega),Vu,decide_eq_true (List.pairwise_iff_getElem.1 h2 (i - 1) i (by omega) hi (by omega))];simp
theorem Vb {l : List S94} (h : l.Pairwise fun a b => gk a < gk b) {a b : S94} (ha : a ∈ l) (hb : b ∈ l) (e : gk a = gk b) : a = b := by
 obtain ⟨i,hi,rfl⟩ := List.mem_iff_getElem.1 ha;obtain ⟨j,hj,rfl⟩ := List.mem_iff_getElem.1 hb;rw [List.pairwise_iff_getElem] at h;rcases Nat.lt_trichotomy i j with h1 | h1 | h1
 ·have := h i j hi hj h1;rw [e] at this;exact absurd this (List.lt_irrefl _)
 ·subst h1;rfl
 ·have := h j i hj hi h1;rw [e] at this;exact absurd this (List.lt_irrefl _)
theorem Ys {s t : List S94} (hp : s.Perm t) (hs : s.Pairwise fun a b => ¬ gk b < gk a) (ht : t.Pairwise fun a b => gk a < gk b) : s = t := by
 refine List.Perm.eq_of_pairwise (le := fun a b => ¬ gk b < gk a) (fun a b ha hb h1 h2 => ?_) hs (ht.imp fun h => fun h2 => List.lt_irrefl _ (List.lt_trans h h2)) hp;exact Vb ht (hp.mem_iff.1 ha) hb (List.le_antisymm (List.not_lt.1 h1) (List.not_lt.1 h2))
theorem Y1 {l : List S94} (h : l.Pairwise fun a b => gk a < gk b) : l.Pairwise fun a b => ¬ gk b < gk a := h.imp fun h => fun h2 => List.lt_irrefl _ (List.lt_trans h h2)
theorem Yx (l : List S94) : Zj l ↔ ∀ x,x ∈ l -> x.f0.size <= 140737488351232 := by
 refine ⟨fun h x hx => ?_,fun h i hi => by rw [Xh l i hi];exact h _ (List.getElem_mem hi)⟩;obtain ⟨i,hi,rfl⟩ := List.mem_iff_getElem.1 hx;have := h i hi
 rwa [Xh l i hi] at this
def Ui (x y : S94) : Bool := decide (x.f1 < y.f1 ∨ (x.f1 = y.f1 ∧ x.f2 <= y.f2))
def cN (x : S94) : Prop := (0 <= x.f1 ∧ x.f1 <= 5) ∧ (0 <= x.f2 ∧ x.f2 <= 99999)
theorem Uh {x : S94} (h : Z2 x = true) : cN x := by
 unfold Z2 Xw Ya at h;simp only [Bool.and_eq_true,decide_eq_true_eq] at h;exact ⟨h.2.1,h.2.2⟩
def Yh (x : S94) : List S94 -> List S94 -> List S94
 | [],V => x :: V
 | s :: U,V => if Ui s x = true then U.reverse ++ s :: x :: V else Yh x U (s :: V)
def Yu (L : List S94) (x : S94) : List S94 := Yh x L.reverse []
def Xy (F : List S94) : List S94 := F.foldl Yu []
theorem Yt (x : S94) : ∀ U V,(Yh x U V).length = U.length + V.length + 1
 | [],V => by simp [Yh]
 | s :: U,V => by
  unfold Yh
  split
  ·simp only [List.length_append,List.length_reverse,List.length_cons];omega
  ·rw [Yt x U (s :: V),List.length_cons,List.length_cons];omega
theorem Zq (x : S94) {y : S94} : ∀ U V,y ∈ Yh x U V -> y = x ∨ y ∈ U ∨ y ∈ V
 | [],V => fun h => by
  unfold Yh at h;rcases List.mem_cons.1 h with h | h
  ·exact .inl h
  ·exact .inr (.inr h)
 | s :: U,V => fun h => by
  unfold Yh at h
  split at h
  ·rcases List.mem_append.1 h with h | h
   ·exact .inr (.inl (List.mem_cons_of_mem _ (List.mem_reverse.1 h)))
   ·rcases List.mem_cons.1 h with h | h
    ·exact .inr (.inl (List.mem_cons.2 (.inl h)))
    ·rcases List.mem_cons.1 h with h | h
     ·exact .inl h
     ·exact .inr (.inr h)
  ·rcases Zq x U (s :: V) h with h | h | h
   ·exact .inl h
   ·exact .inr (.inl (List.mem_cons_of_mem _ h))
   ·rcases List.mem_cons.1 h with h | h
    ·exact .inr (.inl (List.mem_cons.2 (.inl h)))
    ·exact .inr (.inr h)
theorem X0 (L : List S94) (x : S94) : (Yu L x).length = L.length + 1 := by unfold Yu;rw [Yt,List.length_reverse,List.length_nil]
theorem Z0 {L : List S94} {x y : S94} (h : y ∈ Yu L x) : y = x ∨ y ∈ L := by
 rcases Zq x _ _ h with h | h | h
 ·exact .inl h
 ·exact .inr (List.mem_reverse.1 h)
 ·cases h
theorem Xu : ∀ (F L : List S94),(F.foldl Yu L).length = L.length + F.length
 | [],L => rfl
 | x :: F,L => by rw [List.foldl_cons,Xu F (Yu L x),X0,List.length_cons];omega
theorem Vv {A C : List S94} {x : S94} {j : Nat} (h : j = A.length) : Xj (A ++ x :: C) j = x := by
 subst h;unfold Xj;simp
theorem Up {A C : List S94} {x y : S94} {n : Nat} (h : n = A.length) : (A ++ x :: C).set n y = A ++ y :: C := by
 subst h;rw [List.set_append_right _ _ (Nat.le_refl _),Nat.sub_self,List.set_cons_zero]
theorem V4 {x s : S94} (hx : cN x) (hs : cN s) : (slices_SortStableFunc_impl_Card.cf x.f1 x.f2 s.f1 s.f2 < 0) ↔ ¬ Ui s x = true := by
 obtain ⟨⟨a1,a2⟩,a3,a4⟩ := hx;obtain ⟨⟨b1,b2⟩,b3,b4⟩ := hs;unfold slices_SortStableFunc_impl_Card.cf Ui;rw [Xg (x := x.f1 - s.f1) (by omega) (by omega),Xg (x := x.f2 - s.f2) (by omega) (by omega),decide_eq_true_eq]
 split <;> omega
theorem Zt {u : Nat} (h : u + 1 <= 1048576) : wrap64 (((u + 1 : Nat) : Int) - 1) = (u : Int) := by
 rw [Xg (by omega) (by omega)];omega
theorem V9 (x : S94) (hx : cN x) (C : List S94) (b i : Nat) (hi : i <= 1048576) (r : List S94) : ∀ U V,(∀ s,s ∈ U -> cN s) -> U.length + V.length + C.length + 1 <= 1048576 ->
  Ev (fun k => slices_insertionSortCmpFunc_impl_Card.l0 slices_SortStableFunc_impl_Card.p k (Yh x U V ++ C) 0 (b : Int) ((i + 1 : Nat) : Int)) r ->
  Ev (fun k => slices_insertionSortCmpFunc_impl_Card.l1 slices_SortStableFunc_impl_Card.p k (U.reverse ++ x :: (V ++ C)) 0 (b : Int) (i : Int) (U.length : Int)) r := by
 intro U
 induction U with
 | nil =>
  intro V _ _ h;refine Ev.succ ?_;simp only [slices_insertionSortCmpFunc_impl_Card.l1,List.length_nil,Int.natCast_zero,show ((0 : Int) > 0) = False from eq_false (Int.lt_irrefl _),if_false,Xb (show i < 4611686018427387904 by omega)];exact h
 | cons s U ih =>
  intro V hU hl h;rw [List.length_cons] at hl;have hs := hU s (List.mem_cons_self ..);have q1 : (s :: U).reverse ++ x :: (V ++ C) = U.reverse ++ s :: (x :: (V ++ C)) := by simp
  have q2 : (s :: U).reverse ++ x :: (V ++ C) = (U.reverse ++ [s]) ++ x :: (V ++ C) := by simp
  have lA : U.length = U.reverse.length := List.length_reverse.symm;have lB : U.length + 1 = (U.reverse ++ [s]).length := by rw [List.length_append,<- lA,List.length_singleton]
  have r1 : Xj ((s :: U).reverse ++ x :: (V ++ C)) U.length = s := by rw [q1];exact Vv lA
  have r2 : Xj ((s :: U).reverse ++ x :: (V ++ C)) (U.length + 1) = x := by rw [q2];exact Vv lB
  have s1 : (((s :: U).reverse ++ x :: (V ++ C)).set (U.length + 1) s).set U.length x = U.reverse ++ x :: ((s :: V) ++ C) := by
   rw [q2,Up lB,show (U.reverse ++ [s]) ++ s :: (V ++ C) = U.reverse ++ s :: (s :: (V ++ C)) by simp,Up lA];rfl
  have ll : ((s :: U).reverse ++ x :: (V ++ C)).length = U.length + (V.length + C.length) + 2 := by rw [q1];simp only [List.length_append,List.length_reverse,List.length_cons];omega
  have LL := Aside0.mk ll;clear ll lA lB q1 q2;have hw := Zt (u := U.length) (by omega);have g1 : (((U.length + 1 : Nat) : Int) > 0) = True := eq_true (by omega);have g2 : (((U.length + 1 : Nat) : Int) < ((U.length + (V.length + C.length) + 2 : Nat) : Int)) = True := eq_true (by omega);have g3 : (((U.length : Nat) : Int) < ((U.length + (V.length + C.length) + 2 : Nat) : Int)) = True := eq_true (by omega);refine Ev.succ ?_;rw [List.length_cons];simp only [slices_insertionSortCmpFunc_impl_Card.l1,g1,hw,if_true,Xa,LL.out,g2,g3,Y6,r1,r2,Int.toNat_natCast,slices_SortStableFunc_impl_Card.p,Option.bind_some];by_cases hle : Ui s x = true
  ·simp only [eq_false (fun h => (V4 hx hs).1 h hle),if_false,Xb (show i < 4611686018427387904 by omega)];unfold Yh at h;rw [if_pos hle] at h;rw [show (s :: U).reverse ++ x :: (V ++ C) = U.reverse ++ s :: x :: V ++ C by simp];exact h
  ·simp only [eq_true ((V4 hx hs).2 hle),if_true];unfold Yh at h;rw [if_neg hle] at h;have key := ih (s :: V) (fun y hy => hU y (List.mem_cons_of_mem _ hy)) (by rw [List.length_cons];omega) h;rw [<- s1] at key;exact key
theorem Uf : ∀ (T L : List S94) (n : Nat),n = L.length + T.length -> n <= 20 -> (∀ s,s ∈ L -> cN s) -> (∀ s,s ∈ T -> cN s) ->
  Ev (fun k => slices_insertionSortCmpFunc_impl_Card.l0 slices_SortStableFunc_impl_Card.p k (L ++ T) 0 (n : Int) (L.length : Int)) (T.foldl Yu L) := by
 intro T
 induction T with
 | nil =>
  intro L n hn h20 _ _;refine Ev.succ ?_;simp only [slices_insertionSortCmpFunc_impl_Card.l0,show ((L.length : Int) < (n : Int)) = False from eq_false (by rw [List.length_nil] at hn;omega),if_false,List.append_nil];exact Ev.now _
 | cons x T ih =>
  intro L n hn h20 hL hT;rw [List.length_cons] at hn;have key := ih (Yu L x) n (by rw [X0];omega) h20 (fun s hs => by
   rcases Z0 hs with rfl | h
   ·exact hT _ (List.mem_cons_self ..)
   ·exact hL s h) (fun s hs => hT s (List.mem_cons_of_mem _ hs))
  rw [X0] at key;have k2 := V9 x (hT x (List.mem_cons_self ..)) T n L.length (by omega) _ L.reverse [] (fun s hs => hL s (List.mem_reverse.1 hs)) (by rw [List.length_reverse,List.length_nil];omega) key;rw [List.reverse_reverse,List.length_reverse,List.nil_append] at k2;refine Ev.succ ?_;simp only [slices_insertionSortCmpFunc_impl_Card.l0,show ((L.length : Int) < (n : Int)) = True from eq_true (by omega),if_true];exact k2
theorem Vk (F : List S94) (h20 : F.length <= 20) (hN : ∀ s,s ∈ F -> cN s) (x3 : Int) : Ev (fun k => slices_insertionSortCmpFunc_impl_Card.f slices_SortStableFunc_impl_Card.p k F 0 (F.length : Int) x3) (Xy F) := by
 unfold slices_insertionSortCmpFunc_impl_Card.f;rw [show wrap64 ((0 : Int) + 1) = 1 by rw [Xg (by decide) (by decide)];rfl];cases F with
 | nil =>
  refine Ev.succ ?_;simp only [slices_insertionSortCmpFunc_impl_Card.l0,List.length_nil,Int.natCast_zero,show ((1 : Int) < 0) = False from eq_false (by decide),if_false];exact Ev.now _
 | cons x F =>
  rw [List.length_cons] at h20;have key := Uf F [x] (F.length + 1) (by rw [List.length_singleton];omega) h20 (fun s hs => by rw [List.mem_singleton.1 hs];exact hN x (List.mem_cons_self ..)) (fun s hs => hN s (List.mem_cons_of_mem _ hs));exact key
theorem V7 (F : List S94) (h20 : F.length <= 20) (hN : ∀ s,s ∈ F -> cN s) : Ev (fun k => slices_SortStableFunc_impl_Card.f k F) (Xy F) := by
 unfold slices_SortStableFunc_impl_Card.f slices_SortStableFunc_impl_Card.gf slices_stableCmpFunc_impl_Card.f;have hl : (Xy F).length = F.length := by unfold Xy;rw [Xu,List.length_nil,Nat.zero_add]
 have Vl : Ev (fun k => slices_stableCmpFunc_impl_Card.l1 slices_SortStableFunc_impl_Card.p k (Xy F) (F.length : Int) 0 20) (Xy F) := by
  refine Ev.succ ?_;simp only [slices_stableCmpFunc_impl_Card.l1,show ((20 : Int) < (F.length : Int)) = False from eq_false (by omega),if_false];exact Ev.now _
 refine Ev.bind (a := Xy F) ?_ (Ev.now _);refine Ev.succ ?_;by_cases h : F.length = 20
 ·simp only [slices_stableCmpFunc_impl_Card.l0,show ((20 : Int) <= (F.length : Int)) = True from eq_true (by omega),if_true];have k1 := Vk F h20 hN 0;rw [h] at k1;refine Ev.bind k1 ?_;refine Ev.succ ?_;rw [show wrap64 ((20 : Int) + 20) = 40 by rw [Xg (by decide) (by decide)];rfl];simp only [slices_stableCmpFunc_impl_Card.l0,show ((40 : Int) <= (F.length : Int)) = False from eq_false (by omega),if_false];refine Ev.bind (a := Xy F) ?_ Vl;unfold slices_insertionSortCmpFunc_impl_Card.f;refine Ev.succ ?_;rw [show wrap64 ((20 : Int) + 1) = 21 by rw [Xg (by decide) (by decide)];rfl];simp only [slices_insertionSortCmpFunc_impl_Card.l0,show ((21 : Int) < (F.length : Int)) = False from eq_false (by omega),if_false];exact Ev.now _
 ·simp only [slices_stableCmpFunc_impl_Card.l0,show ((20 : Int) <= (F.length : Int)) = False from eq_false (by omega),if_false];exact Ev.bind (Vk F h20 hN 0) Vl
theorem Vq (s x : S94) : spec_rpBefore.f s.f0 s.f1 s.f2 x.f0 x.f1 x.f2 = some (Ui s x) := by
 unfold spec_rpBefore.f Ui;by_cases h1 : s.f1 < x.f1
 ·rw [if_pos h1];congr 1;exact (decide_eq_true (.inl h1)).symm
 ·rw [if_neg h1];by_cases h2 : s.f1 = x.f1
  ·rw [if_pos h2];congr 1;rw [decide_eq_decide];omega
  ·rw [if_neg h2];congr 1;exact (decide_eq_false (by omega)).symm
theorem Ug (a m : Int) (l : List S94) (n j : Nat) (hj : j <= 1048576) (x : S94) (r : List ByteArray × Bool) : ∀ U V,U.length + V.length + 1 <= 1048576 ->
  Ev (fun k => spec_PlanDay.l0 k a m (Yh x U V) l (n : Int) ((j + 1 : Nat) : Int)) r ->
  Ev (fun k => spec_PlanDay.l1 k a m (U.reverse ++ V) (U.length : Int) l (n : Int) (j : Int) x.f0 x.f1 x.f2) r := by
 intro U
 induction U with
 | nil =>
  intro V hl h;rw [List.length_nil] at hl;refine Ev.succ ?_;simp only [spec_PlanDay.l1,List.length_nil,Int.natCast_zero,show ((0 : Int) > 0) = False from eq_false (Int.lt_irrefl _),if_false,List.reverse_nil,List.nil_append,Option.bind_some,Int.le_refl,if_true,Xa,List.take_zero,Int.toNat_zero,List.drop_zero,List.length_nil,List.length_singleton,Nat.zero_add,
   show (0 + 0 < 4398046511104) = True from eq_true (by decide),show (0 < 4398046511104) = True from eq_true (by decide),show (1 < 4398046511104) = True from eq_true (by decide),show (1 + V.length < 4398046511104) = True from eq_true (by omega),Xb (show j < 4611686018427387904 by omega)]
  exact h
 | cons s U ih =>
  intro V hl h;rw [List.length_cons] at hl;have q1 : (s :: U).reverse ++ V = U.reverse ++ s :: V := by simp
  have lA : U.length = U.reverse.length := List.length_reverse.symm;have r1 : Xj ((s :: U).reverse ++ V) U.length = s := by rw [q1];exact Vv lA
  have ll : ((s :: U).reverse ++ V).length = U.length + V.length + 1 := by rw [q1];simp only [List.length_append,List.length_reverse,List.length_cons];omega
  have t1 : ((s :: U).reverse ++ V).take (U.length + 1) = U.reverse ++ [s] := by rw [show (s :: U).reverse ++ V = (U.reverse ++ [s]) ++ V by simp,List.take_left' (by simp)]
  have t2 : ((s :: U).reverse ++ V).drop (U.length + 1) = V := by rw [show (s :: U).reverse ++ V = (U.reverse ++ [s]) ++ V by simp,List.drop_left' (by simp)]
  have t3 : (U.reverse ++ [s]).length = U.length + 1 := by simp
  have t4 : (U.reverse ++ [s] ++ [x]).length = U.length + 2 := by simp
  have LL := Aside0.mk ll;clear ll q1 lA;have hw := Zt (u := U.length) (by omega);refine Ev.succ ?_;rw [List.length_cons];simp only [spec_PlanDay.l1,show (((U.length + 1 : Nat) : Int) > 0) = True from eq_true (by omega),if_true,hw,Xa,LL.out,show (((U.length : Nat) : Int) < ((U.length + V.length + 1 : Nat) : Int)) = True from eq_true (by omega),Y6,r1];rw [Vq];by_cases hle : Ui s x = true
  ·unfold Yh at h;rw [if_pos hle] at h;simp only [hle,Option.bind_some,if_true,List.nil_append,Int.toNat_natCast,t1,t2,t3,t4,List.length_nil,List.length_singleton,Nat.zero_add,show (((U.length + 1 : Nat) : Int) <= ((U.length + V.length + 1 : Nat) : Int)) = True from eq_true (by omega),
    show (U.length + 1 < 4398046511104) = True from eq_true (by omega),show (U.length + 1 + 1 < 4398046511104) = True from eq_true (by omega),show (U.length + 2 + V.length < 4398046511104) = True from eq_true (by omega),Xb (show j < 4611686018427387904 by omega)]
   rw [show U.reverse ++ [s] ++ [x] ++ V = U.reverse ++ s :: x :: V by simp];exact h
  ·unfold Yh at h;rw [if_neg hle] at h;have key := ih (s :: V) (by rw [List.length_cons];omega) h;simp only [eq_false hle,Option.bind_some,if_false];rw [show (s :: U).reverse ++ V = U.reverse ++ s :: V by simp];exact key
def Xf (L : List S94) (m : Nat) : List ByteArray := (L.take m).map fun x => x.f0
theorem Ue (L : List S94) (m : Nat) (hL : L.length <= 1048576) : ∀ d j,j + d = L.length -> Ev (fun k => spec_PlanDay.l2 k (m : Int) L (Xf L (min j m)) (L.length : Int) (j : Int)) (Xf L m,true) := by
 intro d
 induction d with
 | zero =>
  intro j hj;refine Ev.succ ?_;simp only [spec_PlanDay.l2,show ((j : Int) < (L.length : Int)) = False from eq_false (by omega),if_false];refine Ev.eq (Ev.now _) ?_
  congr 1
  unfold Xf
  congr 1
  by_cases h : j <= m
  ·rw [Nat.min_eq_left h,List.take_of_length_le (by omega),List.take_of_length_le (by omega)]
  ·rw [Nat.min_eq_right (by omega)]
 | succ d ih =>
  intro j hj;refine Ev.succ ?_;have hlt : j < L.length := by omega
  have hf : (Xf L (min j m)).length <= 1048576 := by unfold Xf;rw [List.length_map,List.length_take];omega
  simp only [spec_PlanDay.l2,show ((j : Int) < (L.length : Int)) = True from eq_true (by omega),if_true,Xa,Y6,Xb (show j < 4611686018427387904 by omega),Option.bind_some,List.length_singleton,show ((Xf L (min j m)).length + 1 < 8796093022208) = True from eq_true (by omega)];have key := ih (j + 1) (by omega);by_cases hm : j < m
  ·simp only [show ((j : Int) < (m : Int)) = True from eq_true (by omega),if_true];rw [Nat.min_eq_left (by omega)] at key ⊢;have e : Xf L (j + 1) = Xf L j ++ [(Xj L j).f0] := by
    unfold Xf;rw [List.take_succ_eq_append_getElem hlt,List.map_append,Xh L j hlt];rfl
   rw [e] at key;exact key
  ·simp only [show ((j : Int) < (m : Int)) = False from eq_false (by omega),if_false];rw [Nat.min_eq_right (by omega)] at key ⊢;exact key
def Xo (a : Int) (l : List S94) : List S94 := l.filter fun x => !(decide (x.f2 > a))
theorem Ud (a : Int) (m : Nat) (l : List S94) (hl : l.length <= 1048576) : ∀ d j (L : List S94),j + d = l.length -> L.length <= j -> Ev (fun k => spec_PlanDay.l0 k a (m : Int) L l (l.length : Int) (j : Int)) (Xf ((Xo a (l.drop j)).foldl Yu L) m,true) := by
 intro d
 induction d with
 | zero =>
  intro j L hj hL;refine Ev.succ ?_;simp only [spec_PlanDay.l0,show ((j : Int) < (l.length : Int)) = False from eq_false (by omega),if_false];rw [List.drop_of_length_le (by omega)];have := Ue L m (by omega) L.length 0 (by omega);rw [Nat.zero_min] at this;exact this
 | succ d ih =>
  intro j L hj hL;refine Ev.succ ?_;have hlt : j < l.length := by omega
  have e1 : l.drop j = Xj l j :: l.drop (j + 1) := by rw [Xh l j hlt];exact List.drop_eq_getElem_cons hlt
  simp only [spec_PlanDay.l0,show ((j : Int) < (l.length : Int)) = True from eq_true (by omega),if_true,Xa,Y6,Xb (show j < 4611686018427387904 by omega)];rw [e1];unfold Xo;by_cases hd : (Xj l j).f2 > a
  ·simp only [eq_true hd,if_true];rw [List.filter_cons_of_neg (by simp [hd])];exact ih (j + 1) L (by omega) (by omega)
  ·simp only [eq_false hd,if_false];rw [List.filter_cons_of_pos (by simp [hd]),List.foldl_cons];have key := ih (j + 1) (Yu L (Xj l j)) (by omega) (by rw [X0];omega);have k2 := Ug a m l l.length j (by omega) (Xj l j) _ L.reverse [] (by rw [List.length_reverse,List.length_nil];omega) key;rw [List.reverse_reverse,List.append_nil,List.length_reverse] at k2;exact k2
def Xq (l : List S94) (a m : Int) : List ByteArray × Bool := if Xd l && (Ya a 0 99999 && Ya m 0 20) then (Xf (Xy (Xo a l)) m.toNat,true) else ([],false)
theorem Zw (l : List S94) (a m : Int) (hl : l.length <= 1048576) (hz : Zj l) : Ev (fun k => spec_PlanDay.f k l a m) (Xq l a m) := by
 unfold spec_PlanDay.f Xq;have bad : Ev (fun k => spec_PlanDay.j0 k l a m true) (([],false) : List ByteArray × Bool) := by
  refine Ev.succ ?_;simp only [spec_PlanDay.j0,if_true];exact Ev.now _
 refine Ev.bind (Xn l (by omega) hz) ?_;rcases Bool.eq_false_or_eq_true (Xd l) with hg | hg
 ·simp only [hg,if_true,Bool.true_and,Yf,Option.bind_some];rcases Bool.eq_false_or_eq_true (Ya a 0 99999) with h2 | h2
  ·simp only [h2,if_true,Bool.true_and,Yw,Option.bind_some];rcases Bool.eq_false_or_eq_true (Ya m 0 20) with h3 | h3
   ·simp only [h3,Bool.not_true,if_true];have hm : 0 <= m := by unfold Ya at h3;exact (of_decide_eq_true h3).1
    obtain ⟨n,rfl⟩ : ∃ n : Nat,m = (n : Int) := ⟨m.toNat,by omega⟩;refine Ev.succ ?_;simp only [spec_PlanDay.j0,Bool.false_eq_true,if_false,Int.toNat_natCast];exact Ud a n l hl l.length 0 [] (by omega) (by simp)
   ·simp only [h3,Bool.not_false,Bool.false_eq_true,if_false];exact bad
  ·simp only [h2,Bool.false_and,Bool.false_eq_true,if_false];exact bad
 ·simp only [hg,Bool.false_and,Bool.false_eq_true,if_false];exact bad
theorem Za (l : List S94) (hl : l.length <= 1048576) : slices_Clone_impl_Card.f l = some l := by
 unfold slices_Clone_impl_Card.f;simp only [Option.bind_some,List.length_nil,Nat.zero_add,List.nil_append];rw [if_pos (by omega)]
theorem Uc (S : List S94) (hS : S.length <= 20) (q : Nat) (hq : q <= S.length) : ∀ d j,j + d = q -> Ev (fun k => impl_PlanDay.l0 k S (Xf S j) (q : Int) (j : Int)) (Xf S q,true) := by
 intro d
 induction d with
 | zero =>
  intro j hj;obtain rfl : j = q := by omega
  refine Ev.succ ?_;simp only [impl_PlanDay.l0,Int.lt_irrefl,if_false];exact Ev.now _
 | succ d ih =>
  intro j hj;have hlt : j < S.length := by omega
  have hf : (Xf S j).length <= 20 := by unfold Xf;rw [List.length_map,List.length_take];omega
  refine Ev.succ ?_;simp only [impl_PlanDay.l0,show ((j : Int) < (q : Int)) = True from eq_true (by omega),show ((j : Int) < (S.length : Int)) = True from eq_true (by omega),show ((Xf S j).length < 8796093022208) = True from eq_true (by omega),if_true,Xa,Y6,Xb (show j < 4611686018427387904 by omega)];have e : Xf S (j + 1) = Xf S j ++ [(Xj S j).f0] := by
   unfold Xf;rw [List.take_succ_eq_append_getElem hlt,List.map_append,Xh S j hlt];rfl
  rw [<- e];exact ih (j + 1) (by omega)
theorem Uj (a b : Nat) : mn (a : Int) (b : Int) = ((min a b : Nat) : Int) := by
 unfold mn
 split <;> omega
theorem Vf (S : List S94) (n : Nat) : Xf S (min n S.length) = Xf S n := by
 unfold Xf
 congr 1
 by_cases h : n <= S.length
 ·rw [Nat.min_eq_left h]
 ·rw [Nat.min_eq_right (by omega),List.take_of_length_le (Nat.le_refl _),List.take_of_length_le (by omega)]
theorem Zm (l : List S94) (a m : Int) (hl : l.length <= 1048576) (hz : Zj l) : Ev (fun k => impl_PlanDay.f k l a m) (Xq l a m) := by
 unfold impl_PlanDay.f Xq;have bad : Ev (fun k => impl_PlanDay.j0 k l m true a) (([],false) : List ByteArray × Bool) := by
  refine Ev.succ ?_;simp only [impl_PlanDay.j0,if_true];exact Ev.now _
 refine Ev.bind (Xi l (by omega) hz) ?_;rcases Bool.eq_false_or_eq_true (Xd l) with hg | hg
 ·simp only [hg,if_true,Bool.true_and,Yb,Option.bind_some];rcases Bool.eq_false_or_eq_true (Ya a 0 99999) with h2 | h2
  ·simp only [h2,if_true,Bool.true_and,X7,Option.bind_some];rcases Bool.eq_false_or_eq_true (Ya m 0 20) with h3 | h3
   ·simp only [h3,Bool.not_true,if_true];have hm : 0 <= m := by unfold Ya at h3;exact (of_decide_eq_true h3).1
    obtain ⟨n,rfl⟩ : ∃ n : Nat,m = (n : Int) := ⟨m.toNat,by omega⟩;obtain ⟨g1,g2,g3⟩ := (Xp l).1 hg;have hF : (Xo a l).length <= 20 := Nat.le_trans (List.length_filter_le _ _) g3;have hN : ∀ s,s ∈ Xo a l -> cN s := fun s hs => Uh (g1 s (List.mem_filter.1 hs).1)
    have hS : (Xy (Xo a l)).length = (Xo a l).length := by unfold Xy;rw [Xu,List.length_nil,Nat.zero_add]
    refine Ev.succ ?_;simp only [impl_PlanDay.j0,Bool.false_eq_true,if_false,Int.toNat_natCast,Za l hl,Option.bind_some,slices_DeleteFunc_impl_Card.f];refine Ev.bind (V7 (Xo a l) hF hN) ?_;show Ev (fun k => if 0 <= mn (n : Int) ((Xo a l).length : Int) then (if mn (n : Int) ((Xo a l).length : Int) <= ((Xo a l).length : Int) then impl_PlanDay.l0 k (Xy (Xo a l)) [] (((Xy (Xo a l)).take (mn (n : Int) ((Xo a l).length : Int)).toNat).length : Int) 0 else none) else none) _;rw [Uj];simp only [Xa,if_true,show (((min n (Xo a l).length : Nat) : Int) <= ((Xo a l).length : Int)) = True from eq_true (by omega),Int.toNat_natCast];have e1 : ((Xy (Xo a l)).take (min n (Xo a l).length)).length = min n (Xo a l).length := by rw [List.length_take,hS];omega
    rw [e1];have key := Uc (Xy (Xo a l)) (by omega) (min n (Xo a l).length) (by omega) (min n (Xo a l).length) 0 (by omega);rw [<- hS,Vf] at key;rw [<- hS];exact key
   ·simp only [h3,Bool.not_false,Bool.false_eq_true,if_false];exact bad
  ·simp only [h2,Bool.false_and,Bool.false_eq_true,if_false];exact bad
 ·simp only [hg,Bool.false_and,Bool.false_eq_true,if_false];exact bad
theorem Zi (l : List S94) (a m : Int) : (Xq l a m).1.length <= l.length := by
 unfold Xq
 split
 ·unfold Xf Xy;rw [List.length_map,List.length_take,Xu,List.length_nil,Nat.zero_add];exact Nat.le_trans (Nat.min_le_right _ _) (List.length_filter_le _ _)
 ·simp
theorem Zz (l : List S94) (c : S94) (j : Nat) (hu : l.Pairwise fun a b => gk a < gk b) (h1 : ∀ x,x ∈ l.take j -> gk x < gk c) (h2 : ∀ x,x ∈ l.drop j -> ¬ gk x < gk c) : (l.take j ++ [c] ++ l.drop j).Pairwise fun a b => ¬ gk b < gk a := by
 have hw := Y1 hu;rw [List.pairwise_append,List.pairwise_append];refine ⟨⟨hw.sublist (List.take_sublist _ _),List.pairwise_singleton _ _,fun a ha b hb => by rw [List.mem_singleton.1 hb];exact fun h => List.lt_irrefl _ (List.lt_trans (h1 a ha) h)⟩,hw.sublist (List.drop_sublist _ _),fun a ha b hb => ?_⟩;rcases List.mem_append.1 ha with h | h
 ·exact fun h3 => h2 b hb (List.lt_trans h3 (h1 a h))
 ·rw [List.mem_singleton.1 h];exact h2 b hb
theorem Yj (l : List S94) (c : S94) (j : Nat) : (l.take j ++ [c] ++ l.drop j).Perm (l ++ [c]) := by
 have h : (l.take j ++ [c] ++ l.drop j).Perm (l.take j ++ (l.drop j ++ [c])) := by
  rw [List.append_assoc];exact List.Perm.append_left _ List.perm_append_comm
 rw [<- List.append_assoc,List.take_append_drop] at h;exact h
def Vl (t : List S94) : List S94 × Bool := if Xd t = true then (t,true) else ([],false)
theorem Ve (l : List S94) (g : ByteArray) (d : Int) (hl : l.length <= 20) (hg : g.size <= 140737488351232) (hz : Zj l) (hu : l.Pairwise fun a b => gk a < gk b) : ∀ n j,j + n = l.length -> (∀ x,x ∈ l.take j -> gk x < g.data.toList) ->
  ∃ t,Ev (fun k => spec_AddCard.l0 k l g d (j : Int)) (Vl t) ∧ t.Perm (l ++ [⟨g,0,d⟩]) ∧ t.Pairwise fun a b => ¬ gk b < gk a := by
 have hzt : ∀ j,Zj (l.take j ++ [⟨g,0,d⟩] ++ l.drop j) := fun j => by
  rw [Yx];intro x hx;rw [(Yj l ⟨g,0,d⟩ j).mem_iff,List.mem_append,List.mem_singleton] at hx;rcases hx with hx | rfl
  ·exact (Yx l).1 hz x hx
  ·exact hg
 have hlt : ∀ j,(l.take j ++ [(⟨g,0,d⟩ : S94)] ++ l.drop j).length < 4611686018427387904 := fun j => by
  rw [(Yj l ⟨g,0,d⟩ j).length_eq];simp;omega
 intro n
 induction n with
 | zero =>
  intro j hj h1;have hj' : j = l.length := by omega
  refine ⟨l.take j ++ [⟨g,0,d⟩] ++ l.drop j,Ev.succ ?_,Yj _ _ _,Zz l ⟨g,0,d⟩ j hu h1 (by rw [hj',List.drop_length];intro x hx;cases hx)⟩;have g1 : ((j : Int) < (l.length : Int)) = False := eq_false (by omega);have g2 : ((j : Int) <= (l.length : Int)) = True := eq_true (by omega);have g3 : (([] : List S94).length + (l.take j).length < 4398046511104) = True := eq_true (by simp;omega);have g4 : (([] ++ l.take j).length + [(⟨g,0,d⟩ : S94)].length < 4398046511104) = True := eq_true (by simp;omega);have g5 : (([] ++ l.take j ++ [(⟨g,0,d⟩ : S94)]).length + (l.drop j).length < 4398046511104) = True := eq_true (by simp;omega);simp only [spec_AddCard.l0,g1,g2,if_true,if_false,Xa,Option.bind_some,Int.toNat_natCast,g3,g4,g5];have h2 := Xn _ (hlt j) (hzt j);refine Ev.bind h2 ?_;unfold Vl;simp only [List.nil_append]
  split
  ·exact Ev.now _
  ·exact Ev.now _
 | succ n ih =>
  intro j hj h1;have hlt2 : j < l.length := by omega
  have g1 : ((j : Int) < (l.length : Int)) = True := eq_true (by omega);have hb : Op.bytesLess (Xj l j).f0.toList g.toList = decide (gk l[j] < g.data.toList) := by
   have := Vu (Xj l j) ⟨g,0,d⟩;rw [Xh l j hlt2] at this ⊢;exact this
  by_cases h2 : gk l[j] < g.data.toList
  ·obtain ⟨t,h3,h4⟩ := ih (j + 1) (by omega) (by
    intro x hx;rw [List.take_succ_eq_append_getElem hlt2] at hx;rcases List.mem_append.1 hx with h | h
    ·exact h1 x h
    ·rw [List.mem_singleton.1 h];exact h2)
   refine ⟨t,Ev.succ ?_,h4⟩;simp only [spec_AddCard.l0,g1,if_true,Xa,Y6,hb,decide_eq_true h2,Xb (show j < 4611686018427387904 by omega)];exact h3
  ·refine ⟨l.take j ++ [⟨g,0,d⟩] ++ l.drop j,Ev.succ ?_,Yj _ _ _,Zz l ⟨g,0,d⟩ j hu h1 ?_⟩
   ·have g2 : ((j : Int) <= (l.length : Int)) = True := eq_true (by omega);have g3 : (([] : List S94).length + (l.take j).length < 4398046511104) = True := eq_true (by simp;omega);have g4 : (([] ++ l.take j).length + [(⟨g,0,d⟩ : S94)].length < 4398046511104) = True := eq_true (by simp;omega);have g5 : (([] ++ l.take j ++ [(⟨g,0,d⟩ : S94)]).length + (l.drop j).length < 4398046511104) = True := eq_true (by simp;omega);simp only [spec_AddCard.l0,g1,g2,if_true,Xa,Y6,hb,decide_eq_false h2,Bool.false_eq_true,if_false,Option.bind_some,Int.toNat_natCast,g3,g4,g5];have h2 := Xn _ (hlt j) (hzt j);refine Ev.bind h2 ?_;unfold Vl;simp only [List.nil_append]
    split
    ·exact Ev.now _
    ·exact Ev.now _
   ·intro x hx;have hd : (l.drop j).Pairwise (fun a b => gk a < gk b) := hu.sublist (List.drop_sublist _ _);rw [List.drop_eq_getElem_cons hlt2] at hx hd;rcases List.mem_cons.1 hx with h | h
    ·rw [h];exact h2
    ·exact fun h3 => h2 (List.lt_trans ((List.pairwise_cons.1 hd).1 x h) h3)
noncomputable def Ym (l : List S94) (g : ByteArray) (d : Int) : List S94 := slices_SortFunc_impl_Card.srt (l ++ [⟨g,0,d⟩])
noncomputable def X2 (l : List S94) (g : ByteArray) (d : Int) : List S94 × Bool := if Xd l && Xw g 0 d then Vl (Ym l g d) else ([],false)
theorem Yv (a b : S94) : ltOf slices_SortFunc_impl_Card.cf a b = decide (gk a < gk b) := by
 unfold ltOf slices_SortFunc_impl_Card.cf gk;rw [decide_eq_decide];exact Go.Proofs.YtkobnljfoedmnaaDoorW.GSrt.compareBytes_neg _ _
theorem Ut : Go.Sort.SWO (ltOf slices_SortFunc_impl_Card.cf) :=
 ⟨fun a => by rw [Yv];exact decide_eq_false (List.lt_irrefl _),
  fun a b c h1 h2 => by rw [Yv] at *;exact decide_eq_true (List.lt_trans (of_decide_eq_true h1) (of_decide_eq_true h2)),
  fun a b c h1 h2 => by rw [Yv] at *;exact decide_eq_false (List.not_lt.2 (List.le_trans (List.not_lt.1 (of_decide_eq_false h2)) (List.not_lt.1 (of_decide_eq_false h1))))⟩
theorem X3 (l : List S94) (g : ByteArray) (d : Int) : (Ym l g d).length = l.length + 1 ∧ (Ym l g d).Perm (l ++ [⟨g,0,d⟩]) ∧ (Ym l g d).Pairwise fun a b => ¬ gk b < gk a := by
 obtain ⟨h1,h2,h3⟩ := @Go.Proofs.YtkobnljfoedmnaaDoorW.GSrt.srt_facts _ ⟨z94⟩ slices_SortFunc_impl_Card.cf Ut (l ++ [⟨g,0,d⟩]);refine ⟨by unfold Ym slices_SortFunc_impl_Card.srt;rw [h1];simp,h2,h3.imp fun h => ?_⟩;rw [Yv] at h;exact of_decide_eq_false h
theorem Vw {s t : List S94} (hp : s.Perm t) (hs : s.Pairwise fun a b => ¬ gk b < gk a) (ht : t.Pairwise fun a b => ¬ gk b < gk a) : Vl s = Vl t := by
 by_cases h1 : Xd s = true
 ·rw [Ys hp.symm ht ((Xp s).1 h1).2.1]
 ·by_cases h2 : Xd t = true
  ·rw [Ys hp hs ((Xp t).1 h2).2.1]
  ·unfold Vl;rw [if_neg h1,if_neg h2]
theorem Z6 (t : List S94) : (Vl t).1.length <= t.length := by
 unfold Vl
 split
 ·exact Nat.le_refl _
 ·simp
theorem Y3 (l : List S94) (g : ByteArray) (d : Int) (hl : l.length <= 1048576) (hg : g.size <= 140737488351232) (hz : Zj l) : Ev (fun k => spec_AddCard.f k l g d) (X2 l g d) := by
 unfold spec_AddCard.f X2;refine Ev.bind (Xn l (by omega) hz) ?_;rcases Bool.eq_false_or_eq_true (Xd l) with h | h
 ·simp only [h,if_true,Bool.true_and];refine Ev.bind (Y9 g (by omega)) ?_;have hc : Xw g 0 d = (X1 g && Ya d 0 99999) := by unfold Xw;simp [Ya]
  rw [hc];rcases Bool.eq_false_or_eq_true (X1 g) with h2 | h2
  ·simp only [h2,if_true,Bool.true_and,Yf,Option.bind_some];refine Ev.succ ?_;rcases Bool.eq_false_or_eq_true (Ya d 0 99999) with h3 | h3
   ·simp only [spec_AddCard.j0,h3,Bool.not_true,Bool.false_eq_true,if_false,if_true];obtain ⟨_,hu,h20⟩ := (Xp l).1 h;obtain ⟨t,h4,h5,h6⟩ := Ve l g d h20 hg hz hu l.length 0 (by omega) (by simp);obtain ⟨f1,f2,f3⟩ := X3 l g d;rw [Vw (f2.trans h5.symm) f3 h6];exact h4
   ·simp only [spec_AddCard.j0,h3,Bool.not_false,if_true];exact Ev.now _
  ·simp only [h2,Bool.false_eq_true,if_false,Bool.false_and];refine Ev.succ ?_;simp only [spec_AddCard.j0,if_true];exact Ev.now _
 ·simp only [h,Bool.false_eq_true,if_false,Bool.false_and];refine Ev.succ ?_;simp only [spec_AddCard.j0,if_true];exact Ev.now _
theorem Y0 (l : List S94) (g : ByteArray) (d : Int) (hl : l.length <= 1048576) (hg : g.size <= 140737488351232) (hz : Zj l) : Ev (fun k => impl_AddCard.f k l g d) (X2 l g d) := by
 unfold impl_AddCard.f X2;refine Ev.bind (Xi l (by omega) hz) ?_;rcases Bool.eq_false_or_eq_true (Xd l) with h | h
 ·simp only [h,if_true,Bool.true_and];refine Ev.bind (Yl g 0 d (by omega)) ?_;refine Ev.succ ?_;rcases Bool.eq_false_or_eq_true (Xw g 0 d) with h2 | h2
  ·have g1 : (([] : List S94).length + l.length < 4398046511104) = True := eq_true (by simp;omega);have g2 : (l.length + [(⟨g,0,d⟩ : S94)].length < 4398046511104) = True := eq_true (by simp;omega);have g3 : ((l ++ [(⟨g,0,d⟩ : S94)]).length < 4611686018427387904) = True := eq_true (by simp;omega);simp only [impl_AddCard.j0,h2,Bool.not_true,Bool.false_eq_true,if_false,if_true,slices_Clone_impl_Card.f,Option.bind_some,g1,g2,slices_SortFunc_impl_Card.f,List.nil_append,g3];obtain ⟨f1,f2,f3⟩ := X3 l g d;refine Ev.bind (Xi (Ym l g d) (by omega) ?_) ?_
   ·rw [Yx];intro x hx;rw [f2.mem_iff,List.mem_append,List.mem_singleton] at hx;rcases hx with hx | rfl
    ·exact (Yx l).1 hz x hx
    ·exact hg
   ·unfold Vl
    split
    ·exact Ev.now _
    ·exact Ev.now _
  ·simp only [impl_AddCard.j0,h2,Bool.not_false,if_true];exact Ev.now _
 ·simp only [h,Bool.false_eq_true,if_false,Bool.false_and];refine Ev.succ ?_;simp only [impl_AddCard.j0,if_true];exact Ev.now _
theorem Zk (l : List S94) (g : ByteArray) (d : Int) : (X2 l g d).1.length <= l.length + 1 := by
 unfold X2
 split
 ·have := Z6 (Ym l g d);rw [(X3 l g d).1] at this;exact this
 ·simp
def X5 (l : List S94) : Nat -> Nat -> List Int -> List Int
 | 0,_,c => c
 | d + 1,j,c => X5 l d (j + 1) (c.set (Xj l j).f1.toNat (wrap64 (rd c (Xj l j).f1 + 1)))
theorem Yr (l : List S94) : ∀ d j c,(X5 l d j c).length = c.length := by
 intro d
 induction d with
 | zero => intro j c;rfl
 | succ d ih => intro j c;rw [X5,ih];simp
def Xz (l : List S94) : List Int × Bool := if Xd l then (X5 l l.length 0 (List.replicate 6 0),true) else ([],false)
theorem Ye {l : List S94} (h : Xd l = true) (i : Nat) (hi : i < l.length) : 0 <= (Xj l i).f1 ∧ (Xj l i).f1 <= 5 := by
 unfold Xd at h
 split at h
 ·rename_i ha
  have := List.all_eq_true.1 ha i (List.mem_range.2 hi);simp only [Vh,Z2,Xw,Ya,Bool.and_eq_true,decide_eq_true_eq] at this;exact this.1.2.1
 ·cases h
theorem Z7 {l : List S94} (hl : l.length < 4611686018427387904) (hg : Xd l = true) : ∀ d j c,j + d = l.length -> c.length = 6 -> Ev (fun k => spec_BoxCounts.l0 k c l (l.length : Int) (j : Int)) (X5 l d j c,true) := by
 intro d
 induction d with
 | zero =>
  intro j c hj _;refine Ev.succ ?_;have h1 : ((j : Int) < (l.length : Int)) = False := eq_false (by omega);simp only [spec_BoxCounts.l0,h1,if_false,X5];exact Ev.now _
 | succ d ih =>
  intro j c hj hc;refine Ev.succ ?_;have hb := Ye hg j (by omega);have h1 : ((j : Int) < (l.length : Int)) = True := eq_true (by omega);have h2 : (0 <= (Xj l j).f1) = True := eq_true hb.1;have h3 : ((Xj l j).f1 < (c.length : Int)) = True := eq_true (by omega);simp only [spec_BoxCounts.l0,h1,h2,h3,if_true,Xa,Y6,Xb (show j < 4611686018427387904 by omega),X5];exact ih (j + 1) _ (by omega) (by simpa using hc)
theorem Z3 {l : List S94} (hl : l.length < 4611686018427387904) (hg : Xd l = true) : ∀ d j c,j + d = l.length -> c.length = 6 -> Ev (fun k => impl_BoxCounts.l0 k c l (l.length : Int) (j : Int)) (X5 l d j c,true) := by
 intro d
 induction d with
 | zero =>
  intro j c hj _;refine Ev.succ ?_;have h1 : ((j : Int) < (l.length : Int)) = False := eq_false (by omega);simp only [impl_BoxCounts.l0,h1,if_false,X5];exact Ev.now _
 | succ d ih =>
  intro j c hj hc;refine Ev.succ ?_;have hb := Ye hg j (by omega);have h1 : ((j : Int) < (l.length : Int)) = True := eq_true (by omega);have h2 : (0 <= (Xj l j).f1) = True := eq_true hb.1;have h3 : ((Xj l j).f1 < (c.length : Int)) = True := eq_true (by omega);simp only [impl_BoxCounts.l0,h1,h2,h3,if_true,Xa,Y6,Xb (show j < 4611686018427387904 by omega),X5];exact ih (j + 1) _ (by omega) (by simpa using hc)
theorem Yp (l : List S94) (hl : l.length < 4611686018427387904) (hz : Zj l) : Ev (fun k => spec_BoxCounts.f k l) (Xz l) := by
 unfold spec_BoxCounts.f Xz;refine Ev.bind (Xn l hl hz) ?_;rcases Bool.eq_false_or_eq_true (Xd l) with hg | hg
 ·simp only [hg,if_true,show (6 <= 35184372088832) = True from eq_true (by decide)];exact Z7 hl hg _ 0 _ (by omega) (by simp)
 ·simp only [hg];exact Ev.now _
theorem Yq (l : List S94) (hl : l.length < 4611686018427387904) (hz : Zj l) : Ev (fun k => impl_BoxCounts.f k l) (Xz l) := by
 unfold impl_BoxCounts.f Xz;refine Ev.bind (Xi l hl hz) ?_;rcases Bool.eq_false_or_eq_true (Xd l) with hg | hg
 ·simp only [hg,if_true,show (6 <= 35184372088832) = True from eq_true (by decide)];exact Z3 hl hg _ 0 _ (by omega) (by simp)
 ·simp only [hg];exact Ev.now _
theorem Z1 (l : List S94) : (Xz l).1.length <= 6 := by
 unfold Xz
 split
 ·show (X5 _ _ _ _).length <= 6;rw [Yr];simp
 ·simp
def Xm (l : List S94) : Nat -> Nat -> Int -> Int
 | 0,_,m => m
 | d + 1,j,m => Xm l d (j + 1) (mn m (Xj l j).f2)
def Xk (l : List S94) : Int × Bool := if Xd l && !((l.length : Int) == 0) then (Xm l l.length 0 (Xj l 0).f2,true) else (0,false)
theorem V5 (a b : Int) : spec_l1Least.f a b = some (mn a b) := by
 unfold spec_l1Least.f mn
 split <;> split <;> simp <;> omega
theorem Zc (l : List S94) (hl : l.length < 4611686018427387904) : ∀ d j m,j + d = l.length -> Ev (fun k => spec_NextDay.l0 k m l (l.length : Int) (j : Int)) (Xm l d j m,true) := by
 intro d
 induction d with
 | zero =>
  intro j m hj;refine Ev.succ ?_;have h1 : ((j : Int) < (l.length : Int)) = False := eq_false (by omega);simp only [spec_NextDay.l0,h1,if_false,Xm];exact Ev.now _
 | succ d ih =>
  intro j m hj;refine Ev.succ ?_;have h1 : ((j : Int) < (l.length : Int)) = True := eq_true (by omega);simp only [spec_NextDay.l0,h1,if_true,Xa,Y6,Xb (show j < 4611686018427387904 by omega),V5,Option.bind_some,Xm];exact ih (j + 1) _ (by omega)
theorem Zd (l : List S94) (hl : l.length < 4611686018427387904) : ∀ d j m,j + d = l.length -> Ev (fun k => impl_NextDay.l0 k m l (l.length : Int) (j : Int)) (Xm l d j m,true) := by
 intro d
 induction d with
 | zero =>
  intro j m hj;refine Ev.succ ?_;have h1 : ((j : Int) < (l.length : Int)) = False := eq_false (by omega);simp only [impl_NextDay.l0,h1,if_false,Xm];exact Ev.now _
 | succ d ih =>
  intro j m hj;refine Ev.succ ?_;have h1 : ((j : Int) < (l.length : Int)) = True := eq_true (by omega);simp only [impl_NextDay.l0,h1,if_true,Xa,Y6,Xb (show j < 4611686018427387904 by omega),Xm];exact ih (j + 1) _ (by omega)
theorem Y2 (l : List S94) (hl : l.length < 4611686018427387904) (hz : Zj l) : Ev (fun k => spec_NextDay.f k l) (Xk l) := by
 unfold spec_NextDay.f Xk;refine Ev.bind (Xn l hl hz) ?_;rcases Bool.eq_false_or_eq_true (Xd l) with hg | hg
 ·simp only [hg,if_true,Bool.true_and];refine Ev.succ ?_;rcases Bool.eq_false_or_eq_true ((l.length : Int) == 0) with h | h
  ·simp only [spec_NextDay.j0,h];exact Ev.now _
  ·have h0 : (0 < (l.length : Int)) = True := eq_true (by have := ne_of_beq_false h;omega);simp only [spec_NextDay.j0,h,h0];exact Zc l hl _ 0 _ (by omega)
 ·simp only [hg];refine Ev.succ ?_;simp only [spec_NextDay.j0];exact Ev.now _
theorem Yz (l : List S94) (hl : l.length < 4611686018427387904) (hz : Zj l) : Ev (fun k => impl_NextDay.f k l) (Xk l) := by
 unfold impl_NextDay.f Xk;refine Ev.bind (Xi l hl hz) ?_;rcases Bool.eq_false_or_eq_true (Xd l) with hg | hg
 ·simp only [hg,if_true,Bool.true_and];refine Ev.succ ?_;rcases Bool.eq_false_or_eq_true ((l.length : Int) == 0) with h | h
  ·simp only [impl_NextDay.j0,h];exact Ev.now _
  ·have h0 : (0 < (l.length : Int)) = True := eq_true (by have := ne_of_beq_false h;omega);simp only [impl_NextDay.j0,h,h0];exact Zd l hl _ 0 _ (by omega)
 ·simp only [hg];refine Ev.succ ?_;simp only [impl_NextDay.j0];exact Ev.now _
def Yk (l : List S94) (a : Int) : Nat -> Nat -> List ByteArray -> List ByteArray
 | 0,_,c => c
 | d + 1,j,c => Yk l a d (j + 1) (if (Xj l j).f2 <= a then c ++ [(Xj l j).f0] else c)
theorem Zy (l : List S94) (a : Int) : ∀ d j c,(Yk l a d j c).length <= c.length + d := by
 intro d
 induction d with
 | zero => intro j c;exact Nat.le_refl _
 | succ d ih =>
  intro j c;rw [Yk];by_cases h : (Xj l j).f2 <= a
  ·have := ih (j + 1) (c ++ [(Xj l j).f0]);rw [if_pos h];rw [List.length_append,List.length_singleton] at this;omega
  ·have := ih (j + 1) c;rw [if_neg h];omega
def Zr (l : List S94) (a : Int) : List ByteArray × Bool := if Xd l && Ya a 0 99999 then (Yk l a l.length 0 [],true) else ([],false)
theorem Z8 {l : List S94} (a : Int) (hl : l.length <= 1048576) : ∀ d j c,j + d = l.length -> c.length <= j -> Ev (fun k => spec_DueCards.l0 k a c l (l.length : Int) (j : Int)) (Yk l a d j c,true) := by
 intro d
 induction d with
 | zero =>
  intro j c hj _;refine Ev.succ ?_;have h1 : ((j : Int) < (l.length : Int)) = False := eq_false (by omega);simp only [spec_DueCards.l0,h1,if_false,Yk];exact Ev.now _
 | succ d ih =>
  intro j c hj hc;refine Ev.succ ?_;have h1 : ((j : Int) < (l.length : Int)) = True := eq_true (by omega);have h3 : (c.length < 8796093022208) = True := eq_true (by omega);simp only [spec_DueCards.l0,h1,h3,if_true,Xa,Y6,Xb (show j < 4611686018427387904 by omega),Yk];by_cases h : (Xj l j).f2 <= a
  ·simp only [eq_true h,if_true];exact ih (j + 1) _ (by omega) (by simp;omega)
  ·simp only [eq_false h,if_false];exact ih (j + 1) _ (by omega) (by omega)
theorem Vd {l : List S94} (a : Int) (hl : l.length <= 1048576) : ∀ d j c,j + d = l.length -> c.length <= j -> Ev (fun k => impl_DueCards.l0 k a c l (l.length : Int) (j : Int)) (Yk l a d j c,true) := by
 intro d
 induction d with
 | zero =>
  intro j c hj _;refine Ev.succ ?_;have h1 : ((j : Int) < (l.length : Int)) = False := eq_false (by omega);simp only [impl_DueCards.l0,h1,if_false,Yk];exact Ev.now _
 | succ d ih =>
  intro j c hj hc;refine Ev.succ ?_;have h1 : ((j : Int) < (l.length : Int)) = True := eq_true (by omega);have h3 : (c.length < 8796093022208) = True := eq_true (by omega);simp only [impl_DueCards.l0,h1,h3,if_true,Xa,Y6,Xb (show j < 4611686018427387904 by omega),Yk];by_cases h : (Xj l j).f2 <= a
  ·simp only [eq_true h,if_true];exact ih (j + 1) _ (by omega) (by simp;omega)
  ·simp only [eq_false h,if_false];exact ih (j + 1) _ (by omega) (by omega)
theorem X4 (l : List S94) (a : Int) (hl : l.length <= 1048576) (hz : Zj l) : Ev (fun k => spec_DueCards.f k l a) (Zr l a) := by
 unfold spec_DueCards.f Zr;refine Ev.bind (Xn l (by omega) hz) ?_;rcases Bool.eq_false_or_eq_true (Xd l) with hg | hg
 ·simp only [hg,if_true,Bool.true_and,Yf,Option.bind_some];refine Ev.succ ?_;rcases Bool.eq_false_or_eq_true (Ya a 0 99999) with h2 | h2
  ·simp only [spec_DueCards.j0,h2];exact Z8 a hl _ 0 _ (by omega) (by simp)
  ·simp only [spec_DueCards.j0,h2];exact Ev.now _
 ·simp only [hg];refine Ev.succ ?_;simp only [spec_DueCards.j0];exact Ev.now _
theorem Xl (l : List S94) (a : Int) (hl : l.length <= 1048576) (hz : Zj l) : Ev (fun k => impl_DueCards.f k l a) (Zr l a) := by
 unfold impl_DueCards.f Zr;refine Ev.bind (Xi l (by omega) hz) ?_;rcases Bool.eq_false_or_eq_true (Xd l) with hg | hg
 ·simp only [hg,if_true,Bool.true_and,Yb,Option.bind_some];refine Ev.succ ?_;rcases Bool.eq_false_or_eq_true (Ya a 0 99999) with h2 | h2
  ·simp only [impl_DueCards.j0,h2];exact Vd a hl _ 0 _ (by omega) (by simp)
  ·simp only [impl_DueCards.j0,h2];exact Ev.now _
 ·simp only [hg];refine Ev.succ ?_;simp only [impl_DueCards.j0];exact Ev.now _
theorem Zp (l : List S94) (a : Int) : (Zr l a).1.length <= l.length := by
 unfold Zr
 split
 ·have := Zy l a l.length 0 []
  simpa using this
 ·simp
def Yd (u : Nat) : ByteArray := ⟨(Go.Lib.decDigits u).toArray⟩
theorem Ub (u : Nat) : (Go.Lib.decDigits u).length <= u + 1 := by
 induction u using Nat.strongRecOn with
 | _ u ih =>
  rw [Go.Lib.decDigits]
  split
  ·simp
  ·rename_i h
   have := ih (u / 10) (by omega);rw [List.length_append,List.length_singleton];omega
theorem Xv (u : Nat) : (Yd u).size <= u + 1 := by
 have := Ub u;unfold Yd;show (Go.Lib.decDigits u).toArray.size <= u + 1
 simpa using this
theorem Vn {u : Nat} (h : u < 10) : strOfNums [(wrap64 (48 + (u : Int))) % 256] = ⟨#[UInt8.ofNat (48 + u)]⟩ := by
 have e : (wrap64 (48 + (u : Int))) % 256 = ((48 + u : Nat) : Int) := by
  rw [Xg (by omega) (by omega)];omega
 rw [e];rfl
theorem Zv (u : Nat) (hu : u <= 1099511627776) : Ev (fun k => spec_l1Num.f k (u : Int)) (Yd u) := by
 induction u using Nat.strongRecOn with
 | _ u ih =>
  refine Ev.succ ?_;by_cases h : u < 10
  ·simp only [spec_l1Num.f,show ((u : Int) < 10) = True from eq_true (by omega),if_true];refine Ev.eq (Ev.now _) ?_;rw [Vn h];unfold Yd;rw [Go.Lib.decDigits,dif_pos h]
  ·have e1 : wrap64 (Int.tdiv (u : Int) 10) = ((u / 10 : Nat) : Int) := by
    rw [Int.tdiv_eq_ediv_of_nonneg (by omega),Xg (by omega) (by omega)];omega
   have e2 : Int.tmod (u : Int) 10 = ((u % 10 : Nat) : Int) := by
    rw [Int.tmod_eq_emod_of_nonneg (by omega)];omega
   have h3 : u % 10 < 10 := Nat.mod_lt _ (by decide);simp only [spec_l1Num.f,show ((u : Int) < 10) = False from eq_false (by omega),if_false,e1,e2];refine Ev.bind (ih (u / 10) (by omega) (by omega)) ?_;have hs := Xv (u / 10);simp only [Option.bind_some,Vn h3];have h4 : ((Yd (u / 10)).size + (⟨#[UInt8.ofNat (48 + u % 10)]⟩ : ByteArray).size <= 9223372036854775807) = True := eq_true (by
    show (Yd (u / 10)).size + 1 <= _;omega)
   simp only [h4,if_true];refine Ev.eq (Ev.now _) ?_;unfold Yd;rw [Go.Lib.decDigits.eq_1 u,dif_neg h];apply ByteArray.ext;simp
theorem Zx (u : Nat) (hu : u <= 1099511627776) : strconv_Itoa.f (u : Int) = some (Yd u) := by
 unfold strconv_Itoa.f Yd Go.Lib.itoa;rw [if_pos ⟨by omega,by omega⟩,if_neg (by omega),Int.toNat_natCast]
def Yg (x : S94) : ByteArray := ((((x.f0 ++ (⟨#[47]⟩ : ByteArray)) ++ Yd x.f1.toNat) ++ (⟨#[64]⟩ : ByteArray)) ++ Yd x.f2.toNat) ++ (⟨#[59]⟩ : ByteArray)
def Yo : List S94 -> ByteArray -> ByteArray
 | [],t => t
 | x :: l,t => Yo l (t ++ Yg x)
theorem Zu {x : S94} (h : Z2 x = true) : x.f0.size <= 8 ∧ (∃ b : Nat,x.f1 = (b : Int) ∧ b <= 5) ∧ ∃ u : Nat,x.f2 = (u : Int) ∧ u <= 99999 := by
 unfold Z2 Xw X1 Ya at h;simp only [Bool.and_eq_true,decide_eq_true_eq] at h;obtain ⟨⟨⟨_,h1⟩,_⟩,⟨h2,h3⟩,h4,h5⟩ := h;exact ⟨by omega,⟨x.f1.toNat,by omega,by omega⟩,x.f2.toNat,by omega,by omega⟩
theorem Y4 {x : S94} {b u : Nat} (hz : x.f0.size <= 8) (hb : x.f1 = (b : Int)) (hb5 : b <= 5) (hu : x.f2 = (u : Int)) (hu9 : u <= 99999) : (Yg x).size <= 200000 := by
 have hs1 := Xv b;have hs2 := Xv u;have l1 : (⟨#[47]⟩ : ByteArray).size = 1 := rfl;have l2 : (⟨#[64]⟩ : ByteArray).size = 1 := rfl;have l3 : (⟨#[59]⟩ : ByteArray).size = 1 := rfl;unfold Yg;rw [hb,hu,Int.toNat_natCast,Int.toNat_natCast];simp only [ByteArray.size_append,l1,l2,l3];omega
theorem Y8 (l : List S94) (hl : l.length <= 20) (hg : ∀ x,x ∈ l -> Z2 x = true) : ∀ d j (t : ByteArray),j + d = l.length -> t.size <= j * 200000 -> Ev (fun k => spec_CardsText.l0 k t l (l.length : Int) (j : Int)) (Yo (l.drop j) t,true) := by
 intro d
 induction d with
 | zero =>
  intro j t hj ht;refine Ev.succ ?_;simp only [spec_CardsText.l0,show ((j : Int) < (l.length : Int)) = False from eq_false (by omega),if_false];rw [List.drop_of_length_le (by omega)];exact Ev.now _
 | succ d ih =>
  intro j t hj ht;have hlt : j < l.length := by omega
  have e1 : l.drop j = Xj l j :: l.drop (j + 1) := by rw [Xh l j hlt];exact List.drop_eq_getElem_cons hlt
  have hx : Z2 (Xj l j) = true := by rw [Xh l j hlt];exact hg _ (List.getElem_mem hlt)
  obtain ⟨hz,⟨b,hb,hb5⟩,u,hu,hu9⟩ := Zu hx;have hT := Y4 hz hb hb5 hu hu9;have hs1 := Xv b;have hs2 := Xv u;have key := ih (j + 1) (t ++ Yg (Xj l j)) (by omega) (by rw [ByteArray.size_append];omega);rw [e1];unfold Yo;have hc : Yg (Xj l j) = (((((Xj l j).f0 ++ (⟨#[47]⟩ : ByteArray)) ++ Yd b) ++ (⟨#[64]⟩ : ByteArray)) ++ Yd u) ++ (⟨#[59]⟩ : ByteArray) := by unfold Yg;rw [hb,hu,Int.toNat_natCast,Int.toNat_natCast]
  have l1 : (⟨#[47]⟩ : ByteArray).size = 1 := rfl;have l2 : (⟨#[64]⟩ : ByteArray).size = 1 := rfl;have l3 : (⟨#[59]⟩ : ByteArray).size = 1 := rfl;obtain ⟨g,hgq⟩ : ∃ g,(Xj l j).f0 = g := ⟨_,rfl⟩;rw [hgq] at hz hc;refine Ev.succ ?_;have g1 : (g.size + 1 <= 9223372036854775807) = True := eq_true (by omega);have g2 : ((g ++ (⟨#[47]⟩ : ByteArray)).size + (Yd b).size <= 9223372036854775807) = True := eq_true (by simp only [ByteArray.size_append,l1];omega);have g3 : (((g ++ (⟨#[47]⟩ : ByteArray)) ++ Yd b).size + 1 <= 9223372036854775807) = True := eq_true (by simp only [ByteArray.size_append,l1];omega);have g4 : ((((g ++ (⟨#[47]⟩ : ByteArray)) ++ Yd b) ++ (⟨#[64]⟩ : ByteArray)).size + (Yd u).size <= 9223372036854775807) = True := eq_true (by simp only [ByteArray.size_append,l1,l2];omega);have g5 : (((((g ++ (⟨#[47]⟩ : ByteArray)) ++ Yd b) ++ (⟨#[64]⟩ : ByteArray)) ++ Yd u).size + 1 <= 9223372036854775807) = True := eq_true (by simp only [ByteArray.size_append,l1,l2];omega);have g6 : (t.size + (((((g ++ (⟨#[47]⟩ : ByteArray)) ++ Yd b) ++ (⟨#[64]⟩ : ByteArray)) ++ Yd u) ++ (⟨#[59]⟩ : ByteArray)).size <= 9223372036854775807) = True := eq_true (by simp only [ByteArray.size_append,l1,l2,l3];omega);simp only [spec_CardsText.l0,show ((j : Int) < (l.length : Int)) = True from eq_true (by omega),if_true,Xa,Y6,Xb (show j < 4611686018427387904 by omega),hb,hu,hgq,g1];refine Ev.bind (Zv b (by omega)) ?_;simp only [g2,g3,if_true];refine Ev.bind (Zv u (by omega)) ?_;simp only [g4,g5,g6,if_true];rw [hc] at key ⊢;exact key
theorem Y7 (l : List S94) (hl : l.length <= 20) (hg : ∀ x,x ∈ l -> Z2 x = true) : ∀ d j (t : ByteArray),j + d = l.length -> t.size <= j * 200000 -> Ev (fun k => impl_CardsText.l0 k t l (l.length : Int) (j : Int)) (Yo (l.drop j) t,true) := by
 intro d
 induction d with
 | zero =>
  intro j t hj ht;refine Ev.succ ?_;simp only [impl_CardsText.l0,show ((j : Int) < (l.length : Int)) = False from eq_false (by omega),if_false];rw [List.drop_of_length_le (by omega)];exact Ev.now _
 | succ d ih =>
  intro j t hj ht;have hlt : j < l.length := by omega
  have e1 : l.drop j = Xj l j :: l.drop (j + 1) := by rw [Xh l j hlt];exact List.drop_eq_getElem_cons hlt
  have hx : Z2 (Xj l j) = true := by rw [Xh l j hlt];exact hg _ (List.getElem_mem hlt)
  obtain ⟨hz,⟨b,hb,hb5⟩,u,hu,hu9⟩ := Zu hx;have hT := Y4 hz hb hb5 hu hu9;have hs1 := Xv b;have hs2 := Xv u;have key := ih (j + 1) (t ++ Yg (Xj l j)) (by omega) (by rw [ByteArray.size_append];omega);rw [e1];unfold Yo;have hc : Yg (Xj l j) = (((((Xj l j).f0 ++ (⟨#[47]⟩ : ByteArray)) ++ Yd b) ++ (⟨#[64]⟩ : ByteArray)) ++ Yd u) ++ (⟨#[59]⟩ : ByteArray) := by unfold Yg;rw [hb,hu,Int.toNat_natCast,Int.toNat_natCast]
  have l1 : (⟨#[47]⟩ : ByteArray).size = 1 := rfl;have l2 : (⟨#[64]⟩ : ByteArray).size = 1 := rfl;have l3 : (⟨#[59]⟩ : ByteArray).size = 1 := rfl;obtain ⟨g,hgq⟩ : ∃ g,(Xj l j).f0 = g := ⟨_,rfl⟩;rw [hgq] at hz hc;refine Ev.succ ?_;have g1 : (g.size + 1 <= 9223372036854775807) = True := eq_true (by omega);have g2 : ((g ++ (⟨#[47]⟩ : ByteArray)).size + (Yd b).size <= 9223372036854775807) = True := eq_true (by simp only [ByteArray.size_append,l1];omega);have g3 : (((g ++ (⟨#[47]⟩ : ByteArray)) ++ Yd b).size + 1 <= 9223372036854775807) = True := eq_true (by simp only [ByteArray.size_append,l1];omega);have g4 : ((((g ++ (⟨#[47]⟩ : ByteArray)) ++ Yd b) ++ (⟨#[64]⟩ : ByteArray)).size + (Yd u).size <= 9223372036854775807) = True := eq_true (by simp only [ByteArray.size_append,l1,l2];omega);have g5 : (((((g ++ (⟨#[47]⟩ : ByteArray)) ++ Yd b) ++ (⟨#[64]⟩ : ByteArray)) ++ Yd u).size + 1 <= 9223372036854775807) = True := eq_true (by simp only [ByteArray.size_append,l1,l2];omega);have g6 : (t.size + (((((g ++ (⟨#[47]⟩ : ByteArray)) ++ Yd b) ++ (⟨#[64]⟩ : ByteArray)) ++ Yd u) ++ (⟨#[59]⟩ : ByteArray)).size <= 9223372036854775807) = True := eq_true (by simp only [ByteArray.size_append,l1,l2,l3];omega);simp only [impl_CardsText.l0,show ((j : Int) < (l.length : Int)) = True from eq_true (by omega),if_true,Xa,Y6,Xb (show j < 4611686018427387904 by omega),hb,hu,hgq,g1,Zx b (by omega),Zx u (by omega),Option.bind_some,g2,g3,g4,g5,g6];rw [hc] at key ⊢;exact key
def Un (l : List S94) : ByteArray × Bool := if Xd l then (Yo l (⟨#[]⟩ : ByteArray),true) else ((⟨#[]⟩ : ByteArray),false)
theorem Vr (l : List S94) (hl : l.length <= 1048576) (hz : Zj l) : Ev (fun k => spec_CardsText.f k l) (Un l) := by
 unfold spec_CardsText.f Un;refine Ev.bind (Xn l (by omega) hz) ?_;rcases Bool.eq_false_or_eq_true (Xd l) with hg | hg
 ·simp only [hg,if_true];obtain ⟨g1,_,g3⟩ := (Xp l).1 hg;exact Y8 l g3 g1 l.length 0 _ (by omega) (by simp [ByteArray.size])
 ·simp only [hg,Bool.false_eq_true,if_false];exact Ev.now _
theorem Vp (l : List S94) (hl : l.length <= 1048576) (hz : Zj l) : Ev (fun k => impl_CardsText.f k l) (Un l) := by
 unfold impl_CardsText.f Un;refine Ev.bind (Xi l (by omega) hz) ?_;rcases Bool.eq_false_or_eq_true (Xd l) with hg | hg
 ·simp only [hg,if_true];obtain ⟨g1,_,g3⟩ := (Xp l).1 hg;exact Y7 l g3 g1 l.length 0 _ (by omega) (by simp [ByteArray.size])
 ·simp only [hg,Bool.false_eq_true,if_false];exact Ev.now _
end Go.Proofs.YtkobnljfoedmnaaDoor.Pure
namespace Go.Proofs.YtkobnljfoedmnaaDoor.Pure
open Go.RowKit Go.Proofs.YtkobnljfoedmnaaDoor.Q Go.Proofs.YtkobnljfoedmnaaDoorW.PrintWords Go.Proofs.YtkobnljfoedmnaaDoorW.PrintLast
theorem Zs {l : List Int} (hu : U8 l) : ∃ L d m,Ev (fun k => spec_DrawPlanDay.f k l) (L,d,m) ∧ L.length <= 21 ∧ CShort L := by
 obtain ⟨L,a1,s1,hL,hl,hS,p1,q1⟩ := Yi hu (a := 0) 0 (by decide) (by decide);obtain ⟨d,a2,s2,e2,_,p2,q2⟩ := Yc hu s1 (a := a1) (by omega) (by omega);obtain ⟨y,a3,s3,e3,_,p3,q3⟩ := Xx hu s2 (a := a2) (by omega) (by omega) [3,(-1),21] (by decide) (by decide);obtain ⟨m,a4,s4,e4,_,p4,q4⟩ := Xx hu s3 (a := a3) (by omega) (by omega) [0,1,2,5,20,y] (by simp) (by simp);refine ⟨L,d,m,?_,hl,hS⟩;unfold spec_DrawPlanDay.f;refine Ev.bind hL ?_;simp only [e2,e3,e4,Option.bind_some];exact Ev.now _
theorem Z9 {l : List Int} (hu : U8 l) : ∃ L g d,Ev (fun k => spec_DrawAddCard.f k l) (L,g,d) ∧ L.length <= 21 ∧ CShort L ∧ Xr g := by
 obtain ⟨L,a1,s1,hL,hl,hS,p1,q1⟩ := Yi hu (a := 0) 0 (by decide) (by decide);obtain ⟨g,a2,s2,e2,hg,p2,q2⟩ := Ze hu s1 (a := a1) (by omega) (by omega);obtain ⟨d,a3,s3,e3,_,p3,q3⟩ := Yc hu s2 (a := a2) (by omega) (by omega);refine ⟨L,g,d,?_,hl,hS,hg⟩;unfold spec_DrawAddCard.f;refine Ev.bind hL ?_;simp only [e2,e3,Option.bind_some];exact Ev.now _
theorem Z4 {l : List Int} (hu : U8 l) : ∃ L,Ev (fun k => spec_DrawBoxCounts.f k l) L ∧ L.length <= 21 ∧ CShort L := by
 obtain ⟨L,a1,s1,hL,hl,hS,p1,q1⟩ := Yi hu (a := 0) 0 (by decide) (by decide);refine ⟨L,?_,hl,hS⟩;unfold spec_DrawBoxCounts.f spec_DrawAreCards.f;exact Ev.bind (Ev.bind hL (Ev.now _)) (Ev.now _)
theorem Va {l : List Int} (hu : U8 l) : ∃ L d,Ev (fun k => spec_DrawDueCards.f k l) (L,d) ∧ L.length <= 21 ∧ CShort L := by
 obtain ⟨L,a1,s1,hL,hl,hS,p1,q1⟩ := Yi hu (a := 0) 0 (by decide) (by decide);obtain ⟨d,a2,s2,e2,_,p2,q2⟩ := Yc hu s1 (a := a1) (by omega) (by omega);refine ⟨L,d,?_,hl,hS⟩;unfold spec_DrawDueCards.f;refine Ev.bind hL ?_;simp only [e2,Option.bind_some];exact Ev.now _
def Xt (a : Int) (l : List S94) : List ByteArray := (l.filter fun x => decide (x.f2 <= a)).map fun x => x.f0
theorem Ua (l : List S94) (a : Int) : ∀ d j c,j + d = l.length -> Yk l a d j c = c ++ Xt a (l.drop j) := by
 intro d
 induction d with
 | zero =>
  intro j c hj;rw [Yk,List.drop_of_length_le (by omega)];simp [Xt]
 | succ d ih =>
  intro j c hj;have hlt : j < l.length := by omega
  rw [Yk,ih (j + 1) _ (by omega),List.drop_eq_getElem_cons hlt,Xh l j hlt];unfold Xt;by_cases h : l[j].f2 <= a
  ·rw [if_pos h,List.filter_cons_of_pos (by simpa using h),List.map_cons,List.append_assoc];rfl
  ·rw [if_neg h,List.filter_cons_of_neg (by simpa using h)]
theorem Zh {l : List S94} {a : Int} (hg : Xd l = true) (ha : 0 <= a ∧ a <= 99999) : Zr l a = (Xt a l,true) := by
 unfold Zr;rw [hg,show Ya a 0 99999 = true from decide_eq_true ha,Bool.and_self,if_pos rfl,Ua l a l.length 0 [] (by omega)];rfl
theorem Zf {l : List S94} {a : Int} {x : S94} (hx : x ∈ l) (h : x.f2 <= a) : x.f0 ∈ Xt a l := List.mem_map.2 ⟨x,List.mem_filter.2 ⟨hx,decide_eq_true h⟩,rfl⟩
theorem Vg : ∀ (F L : List S94) (y : S94),y ∈ F.foldl Yu L -> y ∈ F ∨ y ∈ L
 | [],_,_,h => .inr h
 | x :: F,L,y,h => by
  rcases Vg F (Yu L x) y h with h | h
  ·exact .inl (List.mem_cons_of_mem _ h)
  ·rcases Z0 h with h | h
   ·exact .inl (by rw [h];exact List.mem_cons_self ..)
   ·exact .inr h
theorem Vy (a : Int) (l : List S94) : (Xo a l).length = (Xt a l).length := by
 unfold Xo Xt;rw [List.length_map]
 congr 1
 refine List.filter_congr fun x _ => ?_
 rw [<- decide_not];rw [decide_eq_decide];omega
theorem Vz {l : List S94} {a m : Int} (h : (Xq l a m).2 = true) : Xd l = true ∧ (0 <= a ∧ a <= 99999) ∧ ((Xq l a m).1.length : Int) <= m ∧ (Xq l a m).1.length <= (Xt a l).length ∧ (((Xq l a m).1.length : Int) < m -> (Xq l a m).1.length = (Xt a l).length) ∧ ∀ g,g ∈ (Xq l a m).1 -> g ∈ Xt a l := by
 unfold Xq at h ⊢
 split at h
 ·rename_i hc
  rw [if_pos hc];simp only [Bool.and_eq_true] at hc;have ha : 0 <= a ∧ a <= 99999 := of_decide_eq_true hc.2.1;have hm : 0 <= m ∧ m <= 20 := of_decide_eq_true hc.2.2;have hs : (Xy (Xo a l)).length = (Xt a l).length := by
   unfold Xy;rw [Xu,Vy];simp
  have hlen : (Xf (Xy (Xo a l)) m.toNat).length = min m.toNat (Xt a l).length := by
   unfold Xf;rw [List.length_map,List.length_take,hs]
  refine ⟨hc.1,ha,?_,?_,?_,?_⟩
  ·show ((Xf (Xy (Xo a l)) m.toNat).length : Int) <= m;rw [hlen];omega
  ·show (Xf (Xy (Xo a l)) m.toNat).length <= _;rw [hlen];omega
  ·show ((Xf (Xy (Xo a l)) m.toNat).length : Int) < m -> (Xf (Xy (Xo a l)) m.toNat).length = _;rw [hlen];omega
  ·intro g hg;obtain ⟨x,hx,rfl⟩ := List.mem_map.1 hg;have hx2 := List.mem_of_mem_take hx;rcases Vg _ _ _ hx2 with hx3 | hx3
   ·obtain ⟨h1,h2⟩ := List.mem_filter.1 hx3;exact Zf h1 (by simpa using h2)
   ·cases hx3
 ·cases h
theorem Vi : ∀ (c : List Int) (i : Nat) (v : Int) (h : i < c.length),(c.set i v).sum = c.sum + (v - c[i])
 | x :: c,0,v,h => by
  rw [List.set_cons_zero,List.sum_cons,List.sum_cons];show v + c.sum = x + c.sum + (v - x);omega
 | x :: c,i + 1,v,h => by
  have hi : i < c.length := by simpa using h
  have := Vi c i v hi;rw [List.set_cons_succ,List.sum_cons,List.sum_cons,this];show x + (c.sum + (v - c[i]'hi)) = x + c.sum + (v - c[i]'hi);omega
theorem V3 {l : List S94} (hg : Xd l = true) (hl : l.length <= 21) : ∀ (d j : Nat) (c : List Int),j + d = l.length -> c.length = 6 -> (∀ x : Int,x ∈ c -> 0 <= x ∧ x <= (j : Int)) -> (X5 l d j c).sum = c.sum + (d : Int) ∧ ∀ x : Int,x ∈ X5 l d j c -> 0 <= x ∧ x <= (l.length : Int) := by
 intro d
 induction d with
 | zero =>
  intro j c hj hc hb;rw [X5];exact ⟨by simp,fun x hx => by have := hb x hx;omega⟩
 | succ d ih =>
  intro j c hj hc hb;have hbx := Ye hg j (by omega);have hlt : (Xj l j).f1.toNat < c.length := by omega
  have e : rd c (Xj l j).f1 = c[(Xj l j).f1.toNat] := by
   show c.getD (Xj l j).f1.toNat 0 = _;rw [List.getD_eq_getElem?_getD,List.getElem?_eq_getElem hlt];rfl
  have hv := hb _ (List.getElem_mem hlt);have hw : wrap64 (c[(Xj l j).f1.toNat] + 1) = c[(Xj l j).f1.toNat] + 1 := Xg (by omega) (by omega);rw [X5,e,hw];obtain ⟨h1,h2⟩ := ih (j + 1) (c.set (Xj l j).f1.toNat (c[(Xj l j).f1.toNat] + 1)) (by omega) (by rw [List.length_set];exact hc) (fun x hx => by
   rcases List.mem_or_eq_of_mem_set hx with hx | hx
   ·have := hb x hx;omega
   ·omega)
  refine ⟨?_,h2⟩;rw [h1,Vi _ _ _ hlt];omega
theorem Zo (l : List S94) : ∀ d j m,j + d = l.length -> Xm l d j m <= m ∧ (∀ i (hi : i < l.length),j <= i -> Xm l d j m <= l[i].f2) ∧ (Xm l d j m = m ∨ ∃ i,∃ hi : i < l.length,Xm l d j m = l[i].f2) := by
 intro d
 induction d with
 | zero => intro j m hj;exact ⟨Int.le_refl _,fun i hi h => absurd h (by omega),.inl rfl⟩
 | succ d ih =>
  intro j m hj;have hlt : j < l.length := by omega
  rw [Xm,Xh l j hlt];obtain ⟨h1,h2,h3⟩ := ih (j + 1) (mn m l[j].f2) (by omega);have hm : mn m l[j].f2 <= m ∧ mn m l[j].f2 <= l[j].f2 ∧ (mn m l[j].f2 = m ∨ mn m l[j].f2 = l[j].f2) := by unfold mn;split <;> omega
  refine ⟨by omega,fun i hi h => ?_,?_⟩
  ·rcases Nat.lt_or_ge j i with h4 | h4
   ·exact h2 i hi h4
   ·obtain rfl : i = j := by omega
    omega
  ·rcases h3 with h3 | h3
   ·rcases hm.2.2 with h4 | h4
    ·exact .inl (by omega)
    ·exact .inr ⟨j,hlt,by omega⟩
   ·exact .inr h3
theorem Y5 {s t : List S94} (hp : s.Perm t) (h : CShort t) : CShort s := fun x hx => h x (hp.mem_iff.1 hx)
theorem Vs {l : List S94} (h : Xd l = true) {x : S94} (hx : x ∈ l) : 0 <= x.f2 ∧ x.f2 <= 99999 := (Uh (((Xp l).1 h).1 x hx)).2
theorem Ur {V : List S94} (hV : V.length <= 21) (hS : CShort V) : Ev (fun k => laws_FnCards.j6 k V (Xk V).2 (Xk V).1) true := by
 refine Ev.succ ?_;by_cases hc : (Xd V && !((V.length : Int) == 0)) = true
 ·have e : Xk V = (Xm V V.length 0 (Xj V 0).f2,true) := by unfold Xk;rw [if_pos hc]
  have hg : Xd V = true := by simp only [Bool.and_eq_true] at hc;exact hc.1
  have hp : 0 < V.length := by
   simp only [Bool.and_eq_true,Bool.not_eq_true',beq_eq_false_iff_ne] at hc;have := hc.2;omega
  rw [e];obtain ⟨_,h2,h3⟩ := Zo V V.length 0 (Xj V 0).f2 (by omega);have h4 : ∃ i,∃ hi : i < V.length,Xm V V.length 0 (Xj V 0).f2 = V[i].f2 := by
   rcases h3 with h3 | h3
   ·exact ⟨0,hp,by rw [h3,Xh V 0 hp]⟩
   ·exact h3
  obtain ⟨i,hi,hei⟩ := h4;have hb := Vs hg (List.getElem_mem hi);rw [<- hei] at hb;have hmem : V[i].f0 ∈ Xt (Xm V V.length 0 (Xj V 0).f2) V := Zf (List.getElem_mem hi) (by rw [hei];exact Int.le_refl _);generalize Xm V V.length 0 (Xj V 0).f2 = nx at h2 hb hmem hei;have hne : ((Xt nx V).length : Int) ≠ 0 := by
   have := List.length_pos_of_mem hmem;omega
  simp only [laws_FnCards.j6,if_true];refine Ev.bind (Xl V nx (by omega) hS.csz) ?_;rw [Zh hg hb];simp only [if_true,beq_eq_false_iff_ne.2 hne];refine Ev.succ ?_;simp only [laws_FnCards.j7,Bool.false_eq_true,if_false];by_cases h0 : nx > 0
  ·simp only [eq_true h0,if_true];rw [Xg (x := nx - 1) (by omega) (by omega)];refine Ev.bind (Xl V (nx - 1) (by omega) hS.csz) ?_;rw [Zh hg (by omega)];simp only [if_true];have hnil : Xt (nx - 1) V = [] := by
    unfold Xt;rw [List.filter_eq_nil_iff.2 (fun x hx => ?_)]
    ·rfl
    ·obtain ⟨q,hq,rfl⟩ := List.mem_iff_getElem.1 hx;have := h2 q hq (Nat.zero_le _);simp only [decide_eq_true_eq];omega
   rw [hnil];exact Ev.now _
  ·simp only [eq_false h0,if_false];exact Ev.now _
 ·have e : Xk V = (0,false) := by unfold Xk;rw [if_neg hc]
  rw [e];simp only [laws_FnCards.j6,Bool.false_eq_true,if_false];exact Ev.now _
theorem X6 : ∀ (B : List Int) (N : Nat),(∀ x,x ∈ B -> 0 <= x ∧ x <= N) -> 0 <= B.sum ∧ B.sum <= N * B.length
 | [],N,_ => by simp
 | x :: B,N,h => by
  have h1 := h x (List.mem_cons_self ..);have h2 := X6 B N (fun y hy => h y (List.mem_cons_of_mem _ hy));rw [List.sum_cons,List.length_cons,Int.natCast_add,Int.mul_add];omega
theorem Uo {V : List S94} (hV : V.length <= 21) (hS : CShort V) : Ev (fun k => laws_FnCards.j4 k V (Xz V).2 (Xz V).1 (Xk V).2 (Xk V).1) true := by
 have rest := Ur hV hS;refine Ev.succ ?_;rcases Bool.eq_false_or_eq_true (Xd V) with hg | hg
 ·have e : Xz V = (X5 V V.length 0 (List.replicate 6 0),true) := by unfold Xz;rw [if_pos hg]
  obtain ⟨hsum,hbd⟩ := V3 hg hV V.length 0 (List.replicate 6 0) (by omega) (by simp) (fun x hx => by rw [List.eq_of_mem_replicate hx];omega);have hlen : (X5 V V.length 0 (List.replicate 6 0)).length = 6 := by rw [Yr];simp
  rw [e];simp only [laws_FnCards.j4,if_true];generalize X5 V V.length 0 (List.replicate 6 0) = B at hsum hbd hlen;have hs2 : B.sum = (V.length : Int) := by rw [hsum];simp
  have key : ∀ d j,j + d = B.length -> Ev (fun k => laws_FnCards.l1 k V B (Xk V).2 (Xk V).1 (B.take j).sum B (B.length : Int) (j : Int)) true := by
   intro d
   induction d with
   | zero =>
    intro j hj;refine Ev.succ ?_;rw [List.take_of_length_le (by omega)];have hf : ¬ ((j : Int) < (B.length : Int)) := by omega
    simp only [laws_FnCards.l1,if_neg hf];simp only [hs2,if_true,hlen,show (((6 : Nat) : Int) = 6) = True from eq_true rfl];exact rest
   | succ d ih =>
    intro j hj;have hlt : j < B.length := by omega
    have k2 := ih (j + 1) (by omega);have er : rd B (j : Int) = B[j] := by
     show B.getD ((j : Int)).toNat 0 = _;rw [Int.toNat_natCast,List.getD_eq_getElem?_getD,List.getElem?_eq_getElem hlt];rfl
    have es : (B.take (j + 1)).sum = (B.take j).sum + B[j] := by rw [List.take_succ_eq_append_getElem hlt,List.sum_append];simp
    have hb := X6 (B.take (j + 1)) V.length (fun x hx => hbd x (List.mem_of_mem_take hx));have hl6 : (B.take (j + 1)).length <= 6 := by rw [List.length_take];omega
    have hup : (V.length : Int) * ((B.take (j + 1)).length : Int) <= 21 * 6 := Int.mul_le_mul (by omega) (by omega) (by omega) (by omega);have hw : wrap64 ((B.take j).sum + B[j]) = (B.take (j + 1)).sum := by rw [es];rw [es] at hb;exact Xg (by omega) (by omega)
    refine Ev.succ ?_;simp only [laws_FnCards.l1,show ((j : Int) < (B.length : Int)) = True from eq_true (by omega),if_true,Xa,er,hw,Xb (show j < 4611686018427387904 by omega)];exact k2
  have k0 := key B.length 0 (by omega);rw [List.take_zero] at k0;exact k0
 ·have e : Xz V = ([],false) := by unfold Xz;rw [if_neg (by rw [hg];decide)]
  rw [e];simp only [laws_FnCards.j4,Bool.false_eq_true,if_false];exact rest
theorem Uq {U V : List S94} (hU : U.length <= 21) (hUS : CShort U) (hV : V.length <= 21) (hS : CShort V) {g : ByteArray} (hgs : Xr g) (on : Int) : Ev (fun k => laws_FnCards.j3 k U g on (X2 U g on).1 (X2 U g on).2 (X2 U g on).1 V (Xz V).2 (Xz V).1 (Xk V).2 (Xk V).1) true := by
 have rest := Uo hV hS;refine Ev.succ ?_;rcases Bool.eq_false_or_eq_true (X2 U g on).2 with h | h
 ·have hall : Xd (Ym U g on) = true ∧ (0 <= on ∧ on <= 99999) ∧ (X2 U g on).1 = Ym U g on := by
   unfold X2 at h ⊢
   split at h
   ·rename_i hc
    rw [if_pos hc];unfold Vl at h ⊢
    split at h
    ·rename_i hg
     rw [if_pos hg];unfold Xw Ya at hc;simp only [Bool.and_eq_true,decide_eq_true_eq] at hc;exact ⟨hg,hc.2.2.2,rfl⟩
    ·cases h
   ·cases h
  obtain ⟨hg,hon,eA⟩ := hall;obtain ⟨f1,f2,_⟩ := X3 U g on;have hAS : CShort (Ym U g on) := Y5 f2 (hUS.snoc hgs);have hm : (⟨g,0,on⟩ : S94) ∈ Ym U g on := f2.mem_iff.2 (by simp);have hdl : (Xt on (Ym U g on)).length <= 22 := by
   unfold Xt;rw [List.length_map];exact Nat.le_trans (List.length_filter_le _ _) (by rw [f1];omega)
  rw [eA];simp only [laws_FnCards.j3,h,if_true];refine Ev.bind (Xl _ on (by rw [f1];omega) hAS.csz) ?_;rw [Zh hg hon];simp only [if_true];refine Ev.bind (Vj (by omega) (Zf hm (Int.le_refl _))) ?_;have hw : (((Ym U g on).length : Int) = wrap64 ((U.length : Int) + 1)) = True := eq_true (by rw [f1,Xg (by omega) (by omega)];omega);simp only [if_true,hw];refine Ev.bind (Xi _ (by rw [f1];omega) hAS.csz) ?_;rw [hg];simp only [if_true];exact rest
 ·simp only [laws_FnCards.j3,h,Bool.false_eq_true,if_false];exact rest
theorem Us {L U V : List S94} (hL : L.length <= 21) (hLS : CShort L) (hU : U.length <= 21) (hUS : CShort U) (hV : V.length <= 21) (hS : CShort V) {g : ByteArray} (hgs : Xr g) (on a m : Int) : Ev (fun k => laws_FnCards.j0 k L a m (Xq L a m).2 (Xq L a m).1 U g on (X2 U g on).1 (X2 U g on).2 (X2 U g on).1 V (Xz V).2 (Xz V).1 (Xk V).2 (Xk V).1 false) true := by
 have rest := Uq hU hUS hV hS hgs on;refine Ev.succ ?_;rcases Bool.eq_false_or_eq_true (Xq L a m).2 with h | h
 ·obtain ⟨hg,ha,p1,p2,p3,p4⟩ := Vz h;have hdl : (Xt a L).length <= 21 := by
   unfold Xt;rw [List.length_map];exact Nat.le_trans (List.length_filter_le _ _) hL
  simp only [laws_FnCards.j0,Bool.false_eq_true,if_false,h,if_true];refine Ev.bind (Xl L a (by omega) hLS.csz) ?_;refine Ev.bind (X4 L a (by omega) hLS.csz) ?_;rw [Zh hg ha];simp only [if_true];refine Ev.bind (Yn _ (by omega)) ?_;generalize (Xq L a m).1 = P at p1 p2 p3 p4;have key : Ev (fun k => laws_FnCards.j1 k P U g on (X2 U g on).1 (X2 U g on).2 (X2 U g on).1 V (Xz V).2 (Xz V).1 (Xk V).2 (Xk V).1 (Xt a L) false) true := by
   refine Ev.succ ?_;simp only [laws_FnCards.j1,Bool.false_eq_true,if_false];have loop : ∀ d j,j + d = P.length -> Ev (fun k => laws_FnCards.l0 k U g on (X2 U g on).1 (X2 U g on).2 (X2 U g on).1 V (Xz V).2 (Xz V).1 (Xk V).2 (Xk V).1 (Xt a L) P (P.length : Int) (j : Int)) true := by
    intro d
    induction d with
    | zero =>
     intro j hj;refine Ev.succ ?_;simp only [laws_FnCards.l0,show ((j : Int) < (P.length : Int)) = False from eq_false (by omega),if_false];exact rest
    | succ d ih =>
     intro j hj;have hlt : j < P.length := by omega
     have k2 := ih (j + 1) (by omega);have er : rdOf ByteArray.empty P (j : Int) = P[j] := by
      show P.getD ((j : Int)).toNat ByteArray.empty = _;rw [Int.toNat_natCast,List.getD_eq_getElem?_getD,List.getElem?_eq_getElem hlt];rfl
     refine Ev.succ ?_;simp only [laws_FnCards.l0,show ((j : Int) < (P.length : Int)) = True from eq_true (by omega),if_true,Xa,er,Xb (show j < 4611686018427387904 by omega)];refine Ev.bind (Vj (by omega) (p4 _ (List.getElem_mem hlt))) ?_;simp only [if_true];exact k2
   exact loop P.length 0 (by omega)
  simp only [if_true,show ((P.length : Int) > m) = False from eq_false (by omega),show ((P.length : Int) > ((Xt a L).length : Int)) = False from eq_false (by omega),if_false];by_cases hlt : (P.length : Int) < m
  ·have hb : ((P.length : Int) != ((Xt a L).length : Int)) = false := by rw [p3 hlt];simp
   simp only [eq_true hlt,if_true,hb];exact key
  ·simp only [eq_false hlt,if_false];exact key
 ·simp only [laws_FnCards.j0,Bool.false_eq_true,if_false,h];exact rest
theorem FnCards : laws_FnCards.Pure := by
 intro l0 l1 h0 hb0 h1 hb1;have u0 : U8 l0 := ⟨hb0,by omega⟩;have u1 : U8 l1 := ⟨hb1,by omega⟩;refine Ev.rounds ?_;unfold laws_FnCards.f;by_cases hs : wrap64 ((l0.length : Int) + (l1.length : Int)) > 1048576
 ·simp only [eq_true hs,if_true];exact Ev.now _
 simp only [eq_false hs,if_false];obtain ⟨L,a,m,hL,hLn,hLS⟩ := Zs u0;obtain ⟨U,g,on,hU,hUn,hUS,hgs⟩ := Z9 u1;obtain ⟨V,hV,hVn,hVS⟩ := Z4 u1;obtain ⟨W,w,hW,hWn,hWS⟩ := Va u1;have hgz : g.size <= 10 := hgs;have hpl := Zi L a m;have hal := Zk U g on;have hbl := Z1 V;have hdl := Zp W w;refine Ev.bind hL ?_;refine Ev.bind (Zm L a m (by omega) hLS.csz) ?_;refine Ev.bind (Zw L a m (by omega) hLS.csz) ?_;refine Ev.bind hU ?_;refine Ev.bind (Y0 U g on (by omega) (by omega) hUS.csz) ?_;refine Ev.bind (Y3 U g on (by omega) (by omega) hUS.csz) ?_;refine Ev.bind hV ?_;refine Ev.bind (Yq V (by omega) hVS.csz) ?_;refine Ev.bind (Yp V (by omega) hVS.csz) ?_;refine Ev.bind (Yz V (by omega) hVS.csz) ?_;refine Ev.bind (Y2 V (by omega) hVS.csz) ?_;refine Ev.bind (Vp V (by omega) hVS.csz) ?_;refine Ev.bind (Vr V (by omega) hVS.csz) ?_;refine Ev.bind hW ?_;refine Ev.bind (Xl W w (by omega) hWS.csz) ?_;refine Ev.bind (X4 W w (by omega) hWS.csz) ?_;simp only [bne_self_eq_false,Bool.false_eq_true,if_false,if_true];refine Ev.bind (Yn _ (by omega)) ?_;simp only [if_true];refine Ev.bind (Vt _ (by omega)) ?_;simp only [if_true];refine Ev.bind (V0 _ (by omega)) ?_;simp only [if_true];refine Ev.bind (Yn _ (by omega)) ?_;simp only [if_true];refine Ev.bind (Xi V (by omega) hVS.csz) ?_;have b2 : (Xz V).2 = Xd V := by unfold Xz;split <;> simp_all
 have c2 : (Un V).2 = Xd V := by unfold Un;split <;> simp_all
 have key := Us (L := L) hLn hLS hUn hUS hVn hVS hgs on a m;rw [b2] at key ⊢;rw [c2];simp only [bne_self_eq_false,Bool.false_eq_true,if_false];rcases Bool.eq_false_or_eq_true (Xd V) with hg | hg
 ·have e : ((Xk V).2 != decide ((V.length : Int) > 0)) = false := by
   unfold Xk;rw [hg,Bool.true_and];by_cases h0 : (V.length : Int) = 0
   ·rw [h0];rfl
   ·have e1 : ((V.length : Int) == 0) = false := beq_eq_false_iff_ne.2 h0;rw [e1,decide_eq_true (show (V.length : Int) > 0 by omega)];rfl
  simp only [hg,if_true,e] at key ⊢;exact key
 ·have e : ((Xk V).2 != false) = false := by
   unfold Xk;rw [hg];rfl
  simp only [hg,Bool.false_eq_true,if_false,e] at key ⊢;exact key
end Go.Proofs.YtkobnljfoedmnaaDoor.Pure
