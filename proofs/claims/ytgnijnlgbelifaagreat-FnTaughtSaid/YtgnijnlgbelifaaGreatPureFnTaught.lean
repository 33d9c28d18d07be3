/- For all bytes: of the lessons that are drawn out of them,what is needed for a word is in lessons before it,coverage grows up to 100,shares are reached,and swapped words can be swapped back;the program answers as the reference does. No condition. -/
import Derived.Test.YtgnijnlgbelifaaGreatQLawsFnTaught
import Derived.Laws.BitsLemmas
import Derived.Lib.Bytealg
import Derived.Lib.SlicesCompact
set_option linter.unusedVariables false
set_option linter.unusedSimpArgs false
namespace Go.Proofs.YtgnijnlgbelifaaGreat.Pure
open Go.RowKit Go.Proofs.YtgnijnlgbelifaaGreat.Q Go.Proofs.YtgnijnlgbelifaaGreatW.PrintLast Go.Proofs.YtgnijnlgbelifaaGreatW.PrintWords
theorem Ev.succ {α : Type} {g : Nat -> Option α} {r : α} (h : Ev (fun k => g (k + 1)) r) : Ev g r := Ev.step (fun _ => rfl) h
theorem Ev.k {α : Type} {g : Nat -> Option α} {o : Option α} {r : α} (hg : ∀ k,g k = o) (h : o = some r) : Ev g r := ⟨0,fun k _ => (hg k).trans h⟩
theorem Ev.eq {α : Type} {g : Nat -> Option α} {r r' : α} (h : Ev g r) (e : r = r') : Ev g r' := e ▸ h
theorem Ev.upto {β : Type} {L : Nat -> Nat -> Option β} {r : β} {n : Nat} (hend : Ev (fun k => L k n) r)
  (hstep : ∀ j,j < n -> Ev (fun k => L k (j + 1)) r -> Ev (fun k => L k j) r) : ∀ i,i <= n -> Ev (fun k => L k i) r := by
 intro i hi;obtain ⟨d,hd⟩ : ∃ d,n = i + d := ⟨n - i,by omega⟩
 induction d generalizing i with
 | zero => simp at hd;subst hd;exact hend
 | succ d ih => exact hstep i (by omega) (ih (i + 1) (by omega) (by omega))
theorem Ev.all {β : Type} {L : Nat -> Nat -> Option β} {P : Nat -> Bool} {n : Nat} {a b : β} (hend : Ev (fun k => L k n) a)
  (hyes : ∀ j r,j < n -> P j = true -> Ev (fun k => L k (j + 1)) r -> Ev (fun k => L k j) r) (hno : ∀ j,j < n -> P j = false -> Ev (fun k => L k j) b) :
  ∀ i,i <= n -> Ev (fun k => L k i) (if (List.range' i (n - i)).all P then a else b) := by
 intro i hi;obtain ⟨d,hd⟩ : ∃ d,n = i + d := ⟨n - i,by omega⟩
 induction d generalizing i with
 | zero => simp at hd;subst hd;simpa using hend
 | succ d ih =>
  have h1 : n - i = (n - (i + 1)) + 1 := by omega
  rw [h1,List.range'_succ];simp only [List.all_cons];rcases Bool.eq_false_or_eq_true (P i) with hP | hP
  ·simp only [hP,Bool.true_and];exact hyes i _ (by omega) hP (ih (i + 1) (by omega) (by omega))
  ·simpa [hP] using hno i (by omega) hP
theorem Ev.all0 {β : Type} {L : Nat -> Nat -> Option β} {P : Nat -> Bool} {n : Nat} {a b : β} (hend : Ev (fun k => L k n) a)
  (hyes : ∀ j r,j < n -> P j = true -> Ev (fun k => L k (j + 1)) r -> Ev (fun k => L k j) r) (hno : ∀ j,j < n -> P j = false -> Ev (fun k => L k j) b) :
  Ev (fun k => L k 0) (if (List.range n).all P then a else b) := by
 have := Ev.all hend hyes hno 0 (Nat.zero_le _)
 rwa [Nat.sub_zero,<- List.range_eq_range'] at this
theorem Xi {x : Int} (h0 : -9223372036854775808 <= x) (h1 : x <= 9223372036854775807) : wrap64 x = x := by
 unfold wrap64;omega
theorem Xb {n : Nat} (h : n < 4611686018427387904) : wrap64 ((n : Int) + 1) = ((n + 1 : Nat) : Int) := by
 rw [Xi (by omega) (by omega)];omega
theorem Ve {n : Nat} (h0 : 0 < n) (h : n < 4611686018427387904) : wrap64 ((n : Int) - 1) = ((n - 1 : Nat) : Int) := by
 rw [Xi (by omega) (by omega)];omega
theorem Xa (n : Nat) : (0 <= (n : Int)) = True := eq_true (Int.natCast_nonneg n)
structure U8 (l : List Int) : Prop where
 b : ∀ y,y ∈ l -> (Lit.int .u8 y).wf = true
 n : l.length <= 140737488351232
theorem Td {y : Int} (h : (Lit.int .u8 y).wf = true) : 0 <= y ∧ y <= 255 := by
 simp [Lit.wf,IntKind.min,IntKind.max,IntKind.bits,IntKind.signed] at h;omega
theorem T2 (x : Int) : 0 <= Go.bits .and .u64 x 255 ∧ Go.bits .and .u64 x 255 <= 255 := by
 have h : ((BitVec.ofInt 64 x &&& BitVec.ofInt 64 255).toNat : Nat) <= 255 := by
  rw [BitVec.toNat_and];exact Nat.le_trans Nat.and_le_right (by decide)
 have e : Go.bits .and .u64 x 255 = ((((BitVec.ofInt 64 x &&& BitVec.ofInt 64 255).toNat : Nat) : Int) % 18446744073709551616) := by
  unfold Go.bits IntKind.wrap;simp only [IntKind.signed,Bool.false_and,Bool.false_eq_true,if_false];rfl
 rw [e];generalize (BitVec.ofInt 64 x &&& BitVec.ofInt 64 255).toNat = n at h;omega
def T3 {α : Type} (f : Option (α × Int × Int)) (a n : Int) (P : α -> Prop) : Prop := ∃ r a' s',f = some (r,a',s') ∧ P r ∧ a <= a' ∧ a' <= a + n
theorem Jl {l : List Int} (hu : U8 l) {a : Int} (s : Int) (h0 : 0 <= a) (h1 : a <= 1000000000000) : T3 (spec_l1Cur_next.f l a s) a 1 (fun r => 0 <= r ∧ r <= 255) := by
 have hw : wrap64 (a + 1) = a + 1 := Xi (by omega) (by omega);unfold spec_l1Cur_next.f;rw [hw];have low : ∀ x : Int,0 <= wrap64 (Go.bits .and .u64 x 255) ∧ wrap64 (Go.bits .and .u64 x 255) <= 255 := fun x => by
  have := T2 x;rw [Xi (by omega) (by omega)];exact this
 by_cases h2 : a < (l.length : Int)
 ·have hr : 0 <= rd l a ∧ rd l a <= 255 := by
   have hlt : a.toNat < l.length := by omega
   have e : rd l a = l[a.toNat] := by
    show l.getD a.toNat 0 = _;rw [List.getD_eq_getElem?_getD,List.getElem?_eq_getElem hlt];rfl
   rw [e];exact Td (hu.b _ (List.getElem_mem _))
  have hwr : wrap64 (rd l a) = rd l a := Xi (by omega) (by omega);rw [if_pos h2,if_pos h0,hwr];by_cases h3 : a + 1 <= (l.length : Int)
  ·rw [if_pos h3];exact ⟨_,_,_,rfl,hr,by omega,by omega⟩
  ·rw [if_neg h3];refine ⟨_,_,_,rfl,?_,by omega,by omega⟩;exact low _
 ·rw [if_neg h2];by_cases h3 : a + 1 <= (l.length : Int)
  ·rw [if_pos h3];exact ⟨_,_,_,rfl,⟨by decide,by decide⟩,by omega,by omega⟩
  ·rw [if_neg h3];exact ⟨_,_,_,rfl,low _,by omega,by omega⟩
theorem Xw {l : List Int} (hu : U8 l) {a : Int} (s : Int) (h0 : 0 <= a) (h1 : a <= 999999999990) (n : Int) (hn : 1 <= n) (hm : n <= 1000000) : T3 (spec_l1Cur_pick.f l a s n) a 2 (fun r => 0 <= r ∧ r < n) := by
 unfold spec_l1Cur_pick.f;by_cases h2 : n <= 1
 ·rw [if_pos h2];exact ⟨_,_,_,rfl,⟨by omega,by omega⟩,by omega,by omega⟩
 ·rw [if_neg h2];obtain ⟨x,a1,s1,e1,⟨x0,x1⟩,p1,p2⟩ := Jl hu s h0 (by omega);rw [e1];simp only [Option.bind_some,eq_false (show ¬ n = 0 by omega),if_false];by_cases h3 : n > 200
  ·obtain ⟨y,a2,s2,e2,⟨y0,y1⟩,q1,q2⟩ := Jl hu s1 (a := a1) (by omega) (by omega);simp only [eq_true h3,if_true,e2,Option.bind_some];refine ⟨_,_,_,rfl,?_,by omega,by omega⟩;rw [Xi (x := x * 256) (by omega) (by omega),Xi (by omega) (by omega),Int.tmod_eq_emod_of_nonneg (by omega)];exact ⟨Int.emod_nonneg _ (by omega),Int.emod_lt_of_pos _ (by omega)⟩
  ·simp only [eq_false h3,if_false];refine ⟨_,_,_,rfl,?_,by omega,by omega⟩;rw [Int.tmod_eq_emod_of_nonneg (by omega)];exact ⟨Int.emod_nonneg _ (by omega),Int.emod_lt_of_pos _ (by omega)⟩
theorem Tb {l : List Int} (hu : U8 l) {a : Int} (s : Int) (h0 : 0 <= a) (h1 : a <= 999999999990) (n : Int) (hn : 1 <= n) (hm : n <= 1000000) : T3 (spec_l1Cur_one.f l a s n) a 2 (fun _ => True) := by
 obtain ⟨x,a1,s1,e1,_,p1,p2⟩ := Xw hu s h0 h1 n hn hm;unfold spec_l1Cur_one.f;rw [e1];exact ⟨_,_,_,rfl,trivial,p1,p2⟩
theorem Yj {l : List Int} (hu : U8 l) {a : Int} (s : Int) (h0 : 0 <= a) (h1 : a <= 999999999990) (L : List Int) (hn : 0 < L.length) (hm : L.length <= 1000000) : T3 (spec_l1Cur_among.f l a s L) a 2 (fun r => r ∈ L) := by
 obtain ⟨x,a1,s1,e1,⟨x0,x1⟩,p1,p2⟩ := Xw hu s h0 h1 (L.length : Int) (by omega) (by omega);unfold spec_l1Cur_among.f;rw [e1];simp only [Option.bind_some,eq_true x0,eq_true x1,if_true];refine ⟨_,_,_,rfl,?_,p1,p2⟩;have hlt : x.toNat < L.length := by omega
 have e : rd L x = L[x.toNat] := by
  show L.getD x.toNat 0 = _;rw [List.getD_eq_getElem?_getD,List.getElem?_eq_getElem hlt];rfl
 rw [e];exact List.getElem_mem _
def Yu (a b c : Int) : Bool := decide (b <= a ∧ a <= c)
theorem X3 (a b c : Int) : spec_l1In.f a b c = some (Yu a b c) := by
 unfold spec_l1In.f Yu
 split <;> simp <;> omega
theorem X1 (a b c : Int) : impl_within.f a b c = some (Yu a b c) := by
 unfold impl_within.f Yu
 split <;> simp <;> omega
def Ge (s : ByteArray) (j : Nat) : Bool := decide (65 <= bt s j ∧ bt s j <= 90)
def Zb (s : ByteArray) : Bool := Yu s.size 1 8 && (List.range s.size).all (Ge s)
def caps : ByteArray := ⟨#[65,66,67,68,69,70,71,72,73,74,75,76,77,78,79,80,81,82,83,84,85,86,87,88,89,90]⟩
theorem Ta : ((List.range 256).all fun n => decide (Lib.indexByte caps.data.toList n.toUInt8 < 0) == !(decide (65 <= n ∧ n <= 90))) = true := by decide +kernel
theorem Vx (b : Int) (h0 : 0 <= b) (h1 : b <= 255) : (Lib.indexByte caps.data.toList b.toNat.toUInt8 < 0) ↔ ¬ (65 <= b ∧ b <= 90) := by
 have h := List.all_eq_true.1 Ta b.toNat (List.mem_range.2 (by omega));simp only [beq_iff_eq] at h;by_cases hc : 65 <= b ∧ b <= 90
 ·have h2 : decide (65 <= b.toNat ∧ b.toNat <= 90) = true := decide_eq_true (by omega);rw [h2] at h;exact ⟨fun h3 => absurd h3 (of_decide_eq_false h),fun h3 => absurd hc h3⟩
 ·have h2 : decide (65 <= b.toNat ∧ b.toNat <= 90) = false := decide_eq_false (by omega);rw [h2] at h;exact ⟨fun _ => hc,fun _ => of_decide_eq_true h⟩
theorem G5 (s : ByteArray) (hs : s.size < 4611686018427387904) : Ev (fun k => impl_hasOnly.f k s caps) ((List.range s.size).all (Ge s)) := by
 unfold impl_hasOnly.f;refine Ev.eq (Ev.all0 (L := fun k j => impl_hasOnly.l0 k s caps (s.size : Int) (j : Int)) (P := Ge s) (n := s.size) (a := true) (b := false) ?_ ?_ ?_) (by split <;> simp_all)
 ·refine Ev.succ ?_;simp only [impl_hasOnly.l0,Int.lt_irrefl,if_false];exact Ev.now _
 ·intro j r hj hP h;refine Ev.succ ?_;have h1 : ((j : Int) < (s.size : Int)) = True := eq_true (by omega);have hb := bt_range s (j : Int);have h2 : (Lib.indexByte caps.data.toList (bt s (j : Int)).toNat.toUInt8 < 0) = False := eq_false (fun hc => (Vx _ hb.1 hb.2).1 hc (of_decide_eq_true hP));simp only [impl_hasOnly.l0,strings_IndexByte.f,Option.bind_some,h1,if_true,Xa,h2,if_false,Xb (show j < 4611686018427387904 by omega)];exact h
 ·intro j hj hP;refine Ev.succ ?_;have h1 : ((j : Int) < (s.size : Int)) = True := eq_true (by omega);have hb := bt_range s (j : Int);have h2 : (Lib.indexByte caps.data.toList (bt s (j : Int)).toNat.toUInt8 < 0) = True := eq_true ((Vx _ hb.1 hb.2).2 (of_decide_eq_false hP));simp only [impl_hasOnly.l0,strings_IndexByte.f,Option.bind_some,h1,if_true,Xa,h2];exact Ev.now _
theorem Jc (s : ByteArray) (hs : s.size < 4611686018427387904) : Ev (fun k => impl_IsGloss.f k s) (Zb s) := by
 unfold impl_IsGloss.f impl_isWordOf.f Zb;refine Ev.bind (a := Yu s.size 1 8 && (List.range s.size).all (Ge s)) ?_ (Ev.now _);simp only [X1,Option.bind_some];rcases Bool.eq_false_or_eq_true (Yu s.size 1 8) with h | h
 ·simp only [h,if_true,Bool.true_and];exact Ev.bind (G5 s hs) (Ev.now _)
 ·simp only [h];exact Ev.now _
theorem Tz {l : List Int} (hu : U8 l) {a : Int} (s : Int) (h0 : 0 <= a) (h1 : a <= 999999999990) (L : List ByteArray) (hn : 0 < L.length) (hm : L.length <= 1000000) : T3 (spec_l1Cur_of.f l a s L) a 2 (fun r => r ∈ L) := by
 obtain ⟨x,a1,s1,e1,⟨x0,x1⟩,p1,p2⟩ := Xw hu s h0 h1 (L.length : Int) (by omega) (by omega);unfold spec_l1Cur_of.f;rw [e1];simp only [Option.bind_some,eq_true x0,eq_true x1,if_true];refine ⟨_,_,_,rfl,?_,p1,p2⟩;have hlt : x.toNat < L.length := by omega
 have e : rdOf ByteArray.empty L x = L[x.toNat] := by
  show L.getD x.toNat ByteArray.empty = _;rw [List.getD_eq_getElem?_getD,List.getElem?_eq_getElem hlt];rfl
 rw [e];exact List.getElem_mem _
def Yw (g : ByteArray) : Prop := g.size <= 10
theorem Xg {g : ByteArray} {L : List ByteArray} (h : Yw g) (hL : ∀ x,x ∈ L -> Yw x) : ∀ x,x ∈ g :: L -> Yw x := fun x hx => by
 rcases List.mem_cons.1 hx with rfl | hx
 ·exact h
 ·exact hL x hx
theorem Z6 : ∀ x : ByteArray,x ∈ ([] : List ByteArray) -> Yw x := fun _ h => by cases h
theorem Xj {g : ByteArray} (h : g.size <= 10) : Yw g := h
theorem Vd (l : List Int) (j : Nat) : rd l (j : Int) = l.getD j 0 := by simp [rd]
def Vr (l : List Int) (x : Int) : Nat -> Nat -> Int
 | 0,_ => -1
 | d + 1,j => if l.getD j 0 = x then (j : Int) else Vr l x d (j + 1)
theorem U3 (l : List Int) (x : Int) : ∀ d j,(0 <= Vr l x d j) ↔ ∃ i,j <= i ∧ i < j + d ∧ l.getD i 0 = x := by
 intro d
 induction d with
 | zero => intro j;simp only [Vr];constructor <;> intro h <;> omega
 | succ d ih =>
  intro j;rw [Vr];by_cases h : l.getD j 0 = x
  ·rw [if_pos h];exact ⟨fun _ => ⟨j,by omega,by omega,h⟩,fun _ => by omega⟩
  ·rw [if_neg h,ih]
   constructor
   ·rintro ⟨i,h1,h2,h3⟩;exact ⟨i,by omega,by omega,h3⟩
   ·rintro ⟨i,h1,h2,h3⟩;have : i ≠ j := fun e => h (e ▸ h3)
    exact ⟨i,by omega,by omega,h3⟩
theorem Uy (l : List Int) (x : Int) : (∃ i,0 <= i ∧ i < 0 + l.length ∧ l.getD i 0 = x) ↔ x ∈ l := by
 rw [List.mem_iff_getElem]
 constructor
 ·rintro ⟨i,_,h2,h3⟩;refine ⟨i,by omega,?_⟩;rw [<- h3,List.getD_eq_getElem?_getD,List.getElem?_eq_getElem (by omega)];rfl
 ·rintro ⟨i,h2,h3⟩;refine ⟨i,by omega,by omega,?_⟩;rw [List.getD_eq_getElem?_getD,List.getElem?_eq_getElem h2];exact h3
theorem Gj (l : List Int) (x : Int) : decide (Vr l x l.length 0 >= 0) = decide (x ∈ l) := by
 rw [decide_eq_decide];exact (U3 l x l.length 0).trans (Uy l x)
theorem To (l : List Int) (x : Int) (hl : l.length < 4611686018427387904) : ∀ d j,j + d = l.length -> Ev (fun k => slices_Index_int.l0 k l x (l.length : Int) (j : Int)) (Vr l x d j) := by
 intro d
 induction d with
 | zero =>
  intro j hj;refine Ev.succ ?_;have h1 : ((j : Int) < (l.length : Int)) = False := eq_false (by omega);simp only [slices_Index_int.l0,h1,if_false,Vr];exact Ev.now _
 | succ d ih =>
  intro j hj;refine Ev.succ ?_;have h1 : ((j : Int) < (l.length : Int)) = True := eq_true (by omega);simp only [slices_Index_int.l0,h1,if_true,Xa,Vd,Xb (show j < 4611686018427387904 by omega),Vr];by_cases h : l.getD j 0 = x
  ·simp only [eq_true h,eq_true h.symm,if_true];exact Ev.now _
  ·simp only [eq_false h,eq_false (fun e : x = l.getD j 0 => h e.symm),if_false];exact ih (j + 1) (by omega)
theorem J9 (l : List Int) (x : Int) (hl : l.length < 4611686018427387904) : Ev (fun k => slices_Index_int.f k l x) (Vr l x l.length 0) := by
 unfold slices_Index_int.f;exact To l x hl l.length 0 (by omega)
theorem Xq (l : List Int) (x : Int) (hl : l.length < 4611686018427387904) : Ev (fun k => slices_Contains_int.f k l x) (decide (x ∈ l)) := by
 unfold slices_Contains_int.f;refine Ev.bind (J9 l x hl) ?_;rw [Gj];exact Ev.now _
theorem Tf (l : List Int) (x : Int) (hl : l.length < 4611686018427387904) : ∀ d j,j + d = l.length -> Ev (fun k => spec_l1Has.l0 k x l (l.length : Int) (j : Int)) (decide (Vr l x d j >= 0)) := by
 intro d
 induction d with
 | zero =>
  intro j hj;refine Ev.succ ?_;have h1 : ((j : Int) < (l.length : Int)) = False := eq_false (by omega);simp only [spec_l1Has.l0,h1,if_false,Vr];exact Ev.now _
 | succ d ih =>
  intro j hj;refine Ev.succ ?_;have h1 : ((j : Int) < (l.length : Int)) = True := eq_true (by omega);simp only [spec_l1Has.l0,h1,if_true,Xa,Vd,Xb (show j < 4611686018427387904 by omega),Vr];by_cases h : l.getD j 0 = x
  ·simp only [eq_true h,if_true];refine Ev.eq (Ev.now _) ?_;simp
  ·simp only [eq_false h,if_false];exact ih (j + 1) (by omega)
theorem X5 (l : List Int) (x : Int) (hl : l.length < 4611686018427387904) : Ev (fun k => spec_l1Has.f k l x) (decide (x ∈ l)) := by
 unfold spec_l1Has.f;rw [<- Gj];exact Tf l x hl l.length 0 (by omega)
theorem Gd (zs : List Int) (h : ∀ j,0 < j -> (hj : j < zs.length) -> zs[j - 1]'(by omega) < zs[j]) : ∀ (d i : Nat) (hi : i + d + 1 < zs.length),zs[i]'(by omega) < zs[i + d + 1] := by
 intro d
 induction d with
 | zero => intro i hi;exact h (i + 1) (by omega) hi
 | succ d ih =>
  intro i hi;have h1 := ih i (by omega);have h2 := h (i + d + 1 + 1) (by omega) hi;have h3 : zs[i + d + 1 + 1 - 1]'(by omega) = zs[i + d + 1]'(by omega) := by congr 1
  have h4 : zs[i + (d + 1) + 1] = zs[i + d + 1 + 1] := by congr 1
  omega
theorem Vq (zs : List Int) (hs : zs.Pairwise (· <= ·)) : (Lib.compact zs).length = zs.length ↔ zs.Nodup := by
 have e : (Lib.compact zs).length = ((List.range zs.length).filter (Lib.keeps zs.toArray)).length := by simp [Lib.compact,Lib.compactUpTo]
 rw [e];have e2 : ((List.range zs.length).filter (Lib.keeps zs.toArray)).length = zs.length ↔ ∀ j,j < zs.length -> Lib.keeps zs.toArray j = true := by
  constructor
  ·intro h j hj;have h' : ((List.range zs.length).filter (Lib.keeps zs.toArray)).length = (List.range zs.length).length := by rw [h,List.length_range]
   exact List.length_filter_eq_length_iff.1 h' j (List.mem_range.2 hj)
  ·intro h;have := List.length_filter_eq_length_iff.2 (fun j hj => h j (List.mem_range.1 hj));rw [this,List.length_range]
 rw [e2];have hle := List.pairwise_iff_getElem.1 hs
 constructor
 ·intro h;have hlt : ∀ j,0 < j -> (hj : j < zs.length) -> zs[j - 1]'(by omega) < zs[j] := by
   intro j h0 hj;have h1 := hle (j - 1) j (by omega) hj (by omega);have h2 := h j hj;have h3 : zs[j - 1]'(by omega) ≠ zs[j] := by
    intro e3;have := Lib.keeps_neg (d := zs.toArray) h0 (by simp [getElem!_pos,show j < zs.length by omega,show j - 1 < zs.length by omega,e3]);rw [this] at h2;cases h2
   omega
  rw [List.Nodup,List.pairwise_iff_getElem];intro i j hi hj hij;have := Gd zs hlt (j - i - 1) i (by omega);have e4 : zs[i + (j - i - 1) + 1]'(by omega) = zs[j] := by congr 1;omega
  omega
 ·intro h j hj;rw [List.Nodup,List.pairwise_iff_getElem] at h;by_cases h0 : j = 0
  ·subst h0;exact Lib.keeps_lt_one _ 0 (by omega)
  ·refine Lib.keeps_pos ?_;have := h (j - 1) j (by omega) hj (by omega);simp [getElem!_pos,show j < zs.length by omega,show j - 1 < zs.length by omega];exact fun e => this e.symm
theorem Zc (l : List Int) (hl : l.length < 17592186044416) : ∃ r,impl_distinct_int.f l = some r ∧ (r.length = l.length ↔ l.Nodup) := by
 unfold impl_distinct_int.f slices_Clone_int.f;simp only [Option.bind_some,List.length_nil,Nat.zero_add,List.nil_append,eq_true hl,if_true];refine ⟨_,rfl,?_⟩;have hp : (impl_distinct_int.sorted l).Perm l := List.mergeSort_perm _ _;have hs : (impl_distinct_int.sorted l).Pairwise (· <= ·) := by
  have := List.pairwise_mergeSort (le := fun x y : Int => decide (x <= y)) (by intro a b c;simp;omega) (by intro a b;simp;omega) l;exact this.imp (fun h => of_decide_eq_true h)
 rw [<- hp.length_eq,Vq _ hs];exact hp.nodup_iff
theorem G9 (s : ByteArray) (hs : s.size < 4611686018427387904) : Ev (fun k => spec_enGloss.f k s) (Zb s) := by
 unfold spec_enGloss.f;refine Ev.eq (Ev.all0 (L := fun k j => spec_enGloss.l0 k s (j : Int)) (P := Ge s) (n := s.size) (a := Yu s.size 1 8) (b := false) ?_ ?_ ?_) (by unfold Zb;split <;> simp_all)
 ·refine Ev.succ ?_;simp only [spec_enGloss.l0,Int.lt_irrefl,if_false,X3,Option.bind_some];exact Ev.now _
 ·intro j r hj hP h;refine Ev.succ ?_;have h1 : ((j : Int) < (s.size : Int)) = True := eq_true (by omega);have hP' := of_decide_eq_true hP;simp only [spec_enGloss.l0,h1,if_true,Xa,show (bt s (j : Int) < 65) = False from eq_false (by omega),show (bt s (j : Int) > 90) = False from eq_false (by omega),if_false,Xb (show j < 4611686018427387904 by omega)];exact h
 ·intro j hj hP;refine Ev.succ ?_;have h1 : ((j : Int) < (s.size : Int)) = True := eq_true (by omega);have hP' := of_decide_eq_false hP;simp only [spec_enGloss.l0,h1,if_true,Xa];by_cases h2 : bt s (j : Int) < 65
  ·simp only [eq_true h2,if_true];exact Ev.now _
  ·simp only [eq_false h2,if_false,show (bt s (j : Int) > 90) = True from eq_true (by omega),if_true];exact Ev.now _
def Xy (l : List S41) (j : Nat) : S41 := l.getD j z41
theorem T5 (l : List S41) (j : Nat) : rd_T41 l (j : Int) = Xy l j := by simp [rd_T41,Xy]
theorem Uw (l : List S41) (j : Nat) (h : j < l.length) : Xy l j = l[j] := by unfold Xy;rw [List.getD_eq_getElem?_getD,List.getElem?_eq_getElem h];rfl
def Zd (l : List S41) : Prop := ∀ q,q ∈ l -> q.f1.length <= 1048576 ∧ q.f0.size <= 1048576
theorem Uo {l : List S41} (hz : Zd l) {j : Nat} (hj : j < l.length) : (Xy l j).f1.length <= 1048576 ∧ (Xy l j).f0.size <= 1048576 := by rw [Uw l j hj];exact hz _ (List.getElem_mem hj)
def Zt (l : List Int) (a b : Int) (j : Nat) : Bool := Yu (l.getD j 0) a b && (decide (j = 0) || decide (l.getD (j - 1) 0 < l.getD j 0))
def V7 (l : List Int) (a b : Int) : Bool := (List.range l.length).all (Zt l a b)
theorem Gc (l : List Int) (a b : Int) (hl : l.length < 4611686018427387904) : Ev (fun k => spec_l1Rising.f k l a b) (V7 l a b) := by
 unfold spec_l1Rising.f V7;refine Ev.eq (Ev.all0 (L := fun k j => spec_l1Rising.l0 k l a b l (l.length : Int) (j : Int)) (P := Zt l a b) (n := l.length) (a := true) (b := false) ?_ ?_ ?_) (by split <;> simp_all)
 ·refine Ev.succ ?_;simp only [spec_l1Rising.l0,Int.lt_irrefl,if_false];exact Ev.now _
 ·intro j r hj hP h;refine Ev.succ ?_;have h1 : ((j : Int) < (l.length : Int)) = True := eq_true (by omega);unfold Zt at hP;rw [Bool.and_eq_true] at hP;simp only [spec_l1Rising.l0,h1,if_true,Xa,Vd,X3,Option.bind_some,hP.1,Xb (show j < 4611686018427387904 by omega)];by_cases h0 : j = 0
  ·subst h0;simp only [Int.natCast_zero,gt_iff_lt,Int.lt_irrefl,if_false];exact h
  ·have h2 : ((j : Int) > 0) = True := eq_true (by omega);have h3 : (((j - 1 : Nat) : Int) < (l.length : Int)) = True := eq_true (by omega);have h4 := hP.2;simp only [h0,decide_false,Bool.false_or,decide_eq_true_eq] at h4;have h5 : (l.getD (j - 1) 0 >= l.getD j 0) = False := eq_false (by omega);simp only [h2,if_true,Ve (show 0 < j by omega) (show j < 4611686018427387904 by omega),Xa,h3,Vd,h5,if_false];exact h
 ·intro j hj hP;refine Ev.succ ?_;have h1 : ((j : Int) < (l.length : Int)) = True := eq_true (by omega);unfold Zt at hP;simp only [spec_l1Rising.l0,h1,if_true,Xa,Vd,X3,Option.bind_some];rcases Bool.eq_false_or_eq_true (Yu (l.getD j 0) a b) with hb | hb
  ·rw [hb,Bool.true_and,Bool.or_eq_false_iff,decide_eq_false_iff_not,decide_eq_false_iff_not] at hP;have h2 : ((j : Int) > 0) = True := eq_true (by have := hP.1;omega);have h3 : (((j - 1 : Nat) : Int) < (l.length : Int)) = True := eq_true (by omega);have h5 : (l.getD (j - 1) 0 >= l.getD j 0) = True := eq_true (by have := hP.2;omega);simp only [hb,if_true,h2,Ve (show 0 < j by have := hP.1;omega) (show j < 4611686018427387904 by omega),Xa,h3,Vd,h5];exact Ev.now _
  ·simp only [hb,Bool.false_eq_true,if_false];exact Ev.now _
def Y5 (l : List Int) (j : Nat) : Bool := decide (j = 0) || decide (l.getD (j - 1) 0 <= l.getD j 0)
def Z3 (l : List Int) : Bool := (List.range l.length).all (Y5 l)
theorem Tx (a b : Int) : cmp_Less_int.f a b = some (decide (a < b)) := by
 unfold cmp_Less_int.f cmp_isNaN_int.f;simp
theorem Gl (l : List Int) (hl : l.length < 4611686018427387904) : ∀ j,j < l.length -> Ev (fun k => slices_IsSorted_int.l0 k l (j : Int)) ((List.range (j + 1)).all (Y5 l)) := by
 intro j
 induction j with
 | zero =>
  intro _;refine Ev.succ ?_;simp only [slices_IsSorted_int.l0,Int.natCast_zero,gt_iff_lt,Int.lt_irrefl,if_false];refine Ev.eq (Ev.now _) ?_;simp [Y5]
 | succ j ih =>
  intro hj;refine Ev.succ ?_;have h1 : (((j + 1 : Nat) : Int) > 0) = True := eq_true (by omega);have h2 : (((j + 1 : Nat) : Int) < (l.length : Int)) = True := eq_true (by omega);have h3 : ((j : Int) < (l.length : Int)) = True := eq_true (by omega);have h4 : wrap64 (((j + 1 : Nat) : Int) - 1) = (j : Int) := by rw [Xi (by omega) (by omega)];omega
  simp only [slices_IsSorted_int.l0,h1,h2,if_true,Xa,h4,h3,Vd,Tx,Option.bind_some];rw [List.range_succ,List.all_append];by_cases h5 : l.getD (j + 1) 0 < l.getD j 0
  ·simp only [h5,decide_true,if_true];refine Ev.eq (Ev.now _) ?_;have : Y5 l (j + 1) = false := by
    unfold Y5;simp only [Nat.add_sub_cancel,Bool.or_eq_false_iff,decide_eq_false_iff_not];exact ⟨by omega,by omega⟩
   simp [this]
  ·simp only [h5,decide_false,Bool.false_eq_true,if_false];refine Ev.eq (ih (by omega)) ?_;have : Y5 l (j + 1) = true := by
    unfold Y5;simp only [Nat.add_sub_cancel,Bool.or_eq_true,decide_eq_true_eq];exact Or.inr (by omega)
   simp [this]
theorem Ga (l : List Int) (hl : l.length < 4611686018427387904) : Ev (fun k => slices_IsSorted_int.f k l) (Z3 l) := by
 unfold slices_IsSorted_int.f Z3;by_cases h0 : l.length = 0
 ·rw [h0];refine Ev.succ ?_;simp only [slices_IsSorted_int.l0,show (wrap64 (((0 : Nat) : Int) - 1) > 0) = False from eq_false (by unfold wrap64;omega),if_false];exact Ev.now _
 ·rw [Ve (by omega) (by omega)];refine Ev.eq (Gl l hl (l.length - 1) (by omega)) ?_;rw [show l.length - 1 + 1 = l.length by omega]
theorem Uq (l : List Int) (a b : Int) : V7 l a b = (l.all (fun x => decide (a <= x ∧ x <= b)) && (decide l.Nodup && Z3 l)) := by
 have hg : ∀ i (hi : i < l.length),l.getD i 0 = l[i] := fun i hi => by rw [List.getD_eq_getElem?_getD,List.getElem?_eq_getElem hi];rfl
 rw [Bool.eq_iff_iff,Bool.and_eq_true,Bool.and_eq_true,V7,Z3,List.all_eq_true,List.all_eq_true,List.all_eq_true,decide_eq_true_eq]
 constructor
 ·intro h;have hlt : ∀ j,0 < j -> (hj : j < l.length) -> l[j - 1]'(by omega) < l[j] := by
   intro j h0 hj;have h2 := h j (List.mem_range.2 hj);rw [Zt,Bool.and_eq_true,Bool.or_eq_true,decide_eq_true_eq,decide_eq_true_eq,hg j hj,hg (j - 1) (by omega)] at h2;rcases h2.2 with h3 | h3
   ·omega
   ·exact h3
  refine ⟨fun x hx => ?_,?_,fun j hj => ?_⟩
  ·obtain ⟨i,hi,rfl⟩ := List.getElem_of_mem hx;have := h i (List.mem_range.2 hi);rw [Zt,hg i hi,Bool.and_eq_true] at this;exact this.1
  ·rw [List.Nodup,List.pairwise_iff_getElem];intro i j hi hj hij;have := Gd l hlt (j - i - 1) i (by omega);have e4 : l[i + (j - i - 1) + 1]'(by omega) = l[j] := by congr 1;omega
   omega
  ·have hj' := List.mem_range.1 hj;rw [Y5,Bool.or_eq_true,decide_eq_true_eq,decide_eq_true_eq];by_cases h0 : j = 0
   ·exact Or.inl h0
   ·refine Or.inr ?_;rw [hg j hj',hg (j - 1) (by omega)];exact Int.le_of_lt (hlt j (by omega) hj')
 ·rintro ⟨h1,h2,h3⟩ j hj;have hj' := List.mem_range.1 hj;rw [Zt,Bool.and_eq_true,hg j hj'];refine ⟨h1 _ (List.getElem_mem hj'),?_⟩;rw [Bool.or_eq_true,decide_eq_true_eq,decide_eq_true_eq];by_cases h0 : j = 0
  ·exact Or.inl h0
  ·have h4 := h3 j hj;rw [Y5,Bool.or_eq_true,decide_eq_true_eq,decide_eq_true_eq,hg j hj',hg (j - 1) (by omega)] at h4;rw [List.Nodup,List.pairwise_iff_getElem] at h2;have h5 := h2 (j - 1) j (by omega) hj' (by omega);rw [hg (j - 1) (by omega)];rcases h4 with h4 | h4
   ·exact absurd h4 h0
   ·exact Or.inr (by omega)
def Y0 (l : List S41) (s : ByteArray) : Bool := l.any fun x => decide (x.f0.toList = s.toList)
def X7 (l : List S41) : Int := wrap64 ((l.length : Int) - 1)
def Xm (l : List S41) (j : Nat) : Bool := Zb (Xy l j).f0 && (V7 (Xy l j).f1 0 (X7 l) && (!(decide ((j : Int) ∈ (Xy l j).f1)) && (Yu (Xy l j).f2 0 99999 && !(Y0 (l.take j) (Xy l j).f0))))
def Xf (l : List S41) : Bool := (List.range l.length).all (Xm l) && decide (l.length <= 16)
theorem Jv (l y : List S41) (j : Nat) (s : ByteArray) (n : List Int) (u : Int) (r : Bool) (hy : y.length < 4611686018427387904) (hc : Y0 y s = false -> Ev (fun k => spec_leGood.l0 k l l (l.length : Int) (wrap64 ((j : Int) + 1))) r) : ∀ d i,i + d = y.length -> Y0 (y.take i) s = false -> Ev (fun k => spec_leGood.l1 k l l (l.length : Int) (j : Int) y (y.length : Int) (i : Int) s n u) (if Y0 (y.drop i) s then false else r) := by
 intro d
 induction d with
 | zero =>
  intro i hi h0;refine Ev.succ ?_;have h1 : ((i : Int) < (y.length : Int)) = False := eq_false (by omega);rw [List.take_of_length_le (by omega)] at h0;simp only [spec_leGood.l1,h1,if_false];rw [List.drop_of_length_le (by omega)];exact hc h0
 | succ d ih =>
  intro i hi h0;refine Ev.succ ?_;have hlt : i < y.length := by omega
  have h1 : ((i : Int) < (y.length : Int)) = True := eq_true (by omega);simp only [spec_leGood.l1,h1,if_true,Xa,T5,Xb (show i < 4611686018427387904 by omega)];have hdup : Y0 (y.drop i) s = (decide (y[i].f0.toList = s.toList) || Y0 (y.drop (i + 1)) s) := by rw [List.drop_eq_getElem_cons hlt];unfold Y0;rw [List.any_cons]
  rw [hdup,Uw y i hlt];by_cases h2 : y[i].f0.toList = s.toList
  ·simp only [eq_true h2,if_true,decide_true,Bool.true_or];exact Ev.now _
  ·simp only [eq_false h2,if_false,decide_false,Bool.false_or];refine ih (i + 1) (by omega) ?_;rw [List.take_succ_eq_append_getElem hlt];unfold Y0 at h0 ⊢;rw [List.any_append,h0];simp [h2]
theorem Y3 (l : List S41) (j : Nat) (b : Bool) (r : Bool) (s : ByteArray) (n : List Int) (u : Int) (hl : l.length <= 1048576) (hj : j < l.length) (hc : b = false -> Y0 (l.take j) s = false -> Ev (fun k => spec_leGood.l0 k l l (l.length : Int) (wrap64 ((j : Int) + 1))) r) : Ev (fun k => spec_leGood.j1 k l (j : Int) l (l.length : Int) (j : Int) b s n u) (if b || Y0 (l.take j) s then false else r) := by
 refine Ev.succ ?_;cases b with
 | true =>
  simp only [spec_leGood.j1,if_true];exact Ev.now _
 | false =>
  have h2 : ((j : Int) <= (l.length : Int)) = True := eq_true (by omega);simp only [spec_leGood.j1,Bool.false_eq_true,if_false,Xa,h2,if_true,Option.bind_some,Int.toNat_natCast,Bool.false_or];have := Jv l (l.take j) j s n u r (by rw [List.length_take];omega) (hc rfl) (l.take j).length 0 (by omega) (by simp [Y0]);rw [List.drop_zero] at this;exact this
theorem Vi (l : List S41) (j : Nat) (r : Bool) (hl : l.length <= 1048576) (hz : Zd l) (hj : j < l.length) (hc : Xm l j = true -> Ev (fun k => spec_leGood.l0 k l l (l.length : Int) ((j + 1 : Nat) : Int)) r) : Ev (fun k => spec_leGood.l0 k l l (l.length : Int) (j : Int)) (if Xm l j then r else false) := by
 refine Ev.succ ?_;have h1 : ((j : Int) < (l.length : Int)) = True := eq_true (by omega);obtain ⟨z1,z0⟩ := Uo hz hj;rw [<- Xb (show j < 4611686018427387904 by omega)] at hc;simp only [spec_leGood.l0,h1,if_true,Xa,T5];refine Ev.bind (G9 _ (by omega)) ?_;cases hg : Zb (Xy l j).f0 with
 | false =>
  have e : Xm l j = false := by unfold Xm;rw [hg,Bool.false_and]
  rw [e];simp only [Bool.false_eq_true,if_false];exact Ev.eq (Y3 l j true r _ _ _ hl hj (fun h => nomatch h)) rfl
 | true =>
  simp only [if_true];refine Ev.bind (Gc _ _ _ (by omega)) ?_;change Ev (fun k => if V7 (Xy l j).f1 0 (X7 l) = true then _ else _) _;cases hr : V7 (Xy l j).f1 0 (X7 l) with
  | false =>
   have e : Xm l j = false := by unfold Xm;rw [hg,hr,Bool.false_and,Bool.and_false]
   rw [e];simp only [Bool.false_eq_true,if_false];exact Ev.eq (Y3 l j true r _ _ _ hl hj (fun h => nomatch h)) rfl
  | true =>
   simp only [if_true];refine Ev.bind (X5 _ _ (by omega)) ?_;cases hh : decide ((j : Int) ∈ (Xy l j).f1) with
   | true =>
    have e : Xm l j = false := by unfold Xm;rw [hg,hr,hh];rfl
    rw [e];simp only [if_true];exact Ev.eq (Y3 l j true r _ _ _ hl hj (fun h => nomatch h)) rfl
   | false =>
    simp only [Bool.false_eq_true,if_false,X3,Option.bind_some];cases hi : Yu (Xy l j).f2 0 99999 with
    | false =>
     have e : Xm l j = false := by unfold Xm;rw [hg,hr,hh,hi];rfl
     rw [e];exact Ev.eq (Y3 l j true r _ _ _ hl hj (fun h => nomatch h)) rfl
    | true =>
     have e : Xm l j = !(Y0 (l.take j) (Xy l j).f0) := by unfold Xm;rw [hg,hr,hh,hi];rfl
     rw [e] at hc ⊢;refine Ev.eq (Y3 l j false r _ _ _ hl hj (fun _ h => hc (by rw [h];rfl))) ?_;cases Y0 (l.take j) (Xy l j).f0 <;> rfl
theorem X9 (l : List S41) (hl : l.length <= 1048576) (hz : Zd l) : Ev (fun k => spec_leGood.f k l) (Xf l) := by
 unfold spec_leGood.f Xf;refine Ev.eq (Ev.all0 (L := fun k j => spec_leGood.l0 k l l (l.length : Int) (j : Int)) (P := Xm l) (n := l.length) (a := decide (l.length <= 16)) (b := false) ?_ ?_ ?_) (by cases (List.range l.length).all (Xm l) <;> simp)
 ·refine Ev.succ ?_;simp only [spec_leGood.l0,Int.lt_irrefl,if_false];refine Ev.eq (Ev.now _) ?_;rw [decide_eq_decide];omega
 ·intro j r hj hP h;have := Vi l j r hl hz hj (fun _ => h);rw [hP,if_pos rfl] at this;exact this
 ·intro j hj hP;have := Vi l j false hl hz hj (fun h => by rw [hP] at h;cases h);rw [hP] at this;exact this
theorem Vf (l : List S41) (j : Nat) (b : Bool) (r : Bool) (s : ByteArray) (n : List Int) (u : Int) (hj : j < l.length) (hc : b = false -> Y0 (l.take j) s = false -> Ev (fun k => impl_AreWords.l0 k l l (l.length : Int) (wrap64 ((j : Int) + 1))) r) : Ev (fun k => impl_AreWords.j2 k l (j : Int) l (l.length : Int) (j : Int) b s n u) (if b || Y0 (l.take j) s then false else r) := by
 refine Ev.succ ?_;cases b with
 | true =>
  simp only [impl_AreWords.j2,if_true];exact Ev.now _
 | false =>
  have h2 : ((j : Int) <= (l.length : Int)) = True := eq_true (by omega);simp only [impl_AreWords.j2,Bool.false_eq_true,if_false,Xa,h2,if_true,Option.bind_some,Int.toNat_natCast,Bool.false_or,slices_ContainsFunc_impl_Word.f];change Ev (fun k => if Y0 (l.take j) s = true then _ else _) _;cases h3 : Y0 (l.take j) s with
  | true => simp only [if_true];exact Ev.now _
  | false => simp only [Bool.false_eq_true,if_false];exact hc rfl h3
theorem Yv (l : List S41) (j : Nat) (b : Bool) (r : Bool) (s : ByteArray) (n : List Int) (u : Int) (hn : n.length <= 1048576) (hj : j < l.length) (hc : b = false -> (decide n.Nodup && Z3 n) = true -> Y0 (l.take j) s = false -> Ev (fun k => impl_AreWords.l0 k l l (l.length : Int) (wrap64 ((j : Int) + 1))) r) : Ev (fun k => impl_AreWords.j1 k l (j : Int) l (l.length : Int) (j : Int) b s n u) (if b || (!(decide n.Nodup && Z3 n) || Y0 (l.take j) s) then false else r) := by
 refine Ev.succ ?_;cases b with
 | true =>
  simp only [impl_AreWords.j1,if_true];exact Ev.now _
 | false =>
  obtain ⟨t,ht,hd⟩ := Zc n (by omega);simp only [impl_AreWords.j1,Bool.false_eq_true,if_false,ht,Option.bind_some,Bool.false_or];by_cases h3 : n.Nodup
  ·have h4 : ((t.length : Int) = (n.length : Int)) = True := eq_true (by have := hd.2 h3;omega);simp only [h4,if_true];refine Ev.bind (Ga n (by omega)) ?_;refine Ev.eq (Vf l j (!Z3 n) r s n u hj (fun h => hc rfl (by simp [h3];simpa using h))) ?_;simp [h3]
  ·have h4 : ((t.length : Int) = (n.length : Int)) = False := eq_false (fun e => h3 (hd.1 (by omega)));simp only [h4,if_false];refine Ev.eq (Vf l j true r s n u hj (fun h => nomatch h)) ?_;simp [h3]
theorem Zn (l : List S41) (j : Nat) (r : Bool) (hz : Zd l) (hj : j < l.length) (hl : l.length <= 1048576) (hc : Xm l j = true -> Ev (fun k => impl_AreWords.l0 k l l (l.length : Int) ((j + 1 : Nat) : Int)) r) : Ev (fun k => impl_AreWords.l0 k l l (l.length : Int) (j : Int)) (if Xm l j then r else false) := by
 refine Ev.succ ?_;have h1 : ((j : Int) < (l.length : Int)) = True := eq_true (by omega);obtain ⟨z1,z0⟩ := Uo hz hj;rw [<- Xb (show j < 4611686018427387904 by omega)] at hc;simp only [impl_AreWords.l0,h1,if_true,Xa,T5,impl_allWithin.f,X1,Option.bind_some];refine Ev.bind (Jc _ (by omega)) ?_;have hE : Xm l j = (Zb (Xy l j).f0 && (((Xy l j).f1.all (fun x => decide (0 <= x ∧ x <= X7 l)) && (decide (Xy l j).f1.Nodup && Z3 (Xy l j).f1)) && (!(decide ((j : Int) ∈ (Xy l j).f1)) && (Yu (Xy l j).f2 0 99999 && !(Y0 (l.take j) (Xy l j).f0))))) := by unfold Xm;rw [Uq]
 change Ev (fun k => if Zb (Xy l j).f0 = true then (if Yu (Xy l j).f2 0 99999 = true then (if ((Xy l j).f1.all fun x => decide (0 <= x ∧ x <= X7 l)) = true then _ else _) else _) else _) _;cases hg : Zb (Xy l j).f0 with
 | false =>
  have e : Xm l j = false := by rw [hE,hg,Bool.false_and]
  rw [e];simp only [Bool.false_eq_true,if_false];exact Ev.eq (Yv l j true r _ _ _ z1 hj (fun h => nomatch h)) rfl
 | true =>
  simp only [if_true];cases hi : Yu (Xy l j).f2 0 99999 with
  | false =>
   have e : Xm l j = false := by rw [hE,hi,Bool.false_and,Bool.and_false,Bool.and_false,Bool.and_false]
   rw [e];simp only [Bool.false_eq_true,if_false];exact Ev.eq (Yv l j true r _ _ _ z1 hj (fun h => nomatch h)) rfl
  | true =>
   simp only [if_true];cases hw : ((Xy l j).f1.all fun x => decide (0 <= x ∧ x <= X7 l)) with
   | false =>
    have e : Xm l j = false := by rw [hE,hw,Bool.false_and,Bool.false_and,Bool.and_false]
    rw [e];simp only [Bool.false_eq_true,if_false];exact Ev.eq (Yv l j true r _ _ _ z1 hj (fun h => nomatch h)) rfl
   | true =>
    simp only [if_true];refine Ev.bind (Xq _ _ (by omega)) ?_;rw [hE,hg,hi,hw] at hc;rw [hE,hg,hi,hw];refine Ev.eq (Yv l j _ r _ _ _ z1 hj (fun h1 h2 h3 => hc (by rw [h1,h2,h3];rfl))) ?_;cases decide ((j : Int) ∈ (Xy l j).f1) <;> cases (decide (Xy l j).f1.Nodup && Z3 (Xy l j).f1) <;> cases Y0 (l.take j) (Xy l j).f0 <;> rfl
theorem Yl (l : List S41) (hl : l.length <= 1048576) (hz : Zd l) : Ev (fun k => impl_AreWords.f k l) (Xf l) := by
 unfold impl_AreWords.f Xf;refine Ev.eq (Ev.all0 (L := fun k j => impl_AreWords.l0 k l l (l.length : Int) (j : Int)) (P := Xm l) (n := l.length) (a := decide (l.length <= 16)) (b := false) ?_ ?_ ?_) (by cases (List.range l.length).all (Xm l) <;> simp)
 ·refine Ev.succ ?_;simp only [impl_AreWords.l0,Int.lt_irrefl,if_false];refine Ev.eq (Ev.now _) ?_;rw [decide_eq_decide];omega
 ·intro j r hj hP h;have := Zn l j r hz hj hl (fun _ => h);rw [hP,if_pos rfl] at this;exact this
 ·intro j hj hP;have := Zn l j false hz hj hl (fun h => by rw [hP] at h;cases h);rw [hP] at this;exact this
theorem Tv (l : List Int) (x : Int) (hl : l.length <= 4000000) : ∀ d j,j + d = l.length -> ∃ r : List Int,Ev (fun k => spec_l1Put.l0 k l x (j : Int)) r ∧ r.length <= l.length + 1 := by
 intro d
 induction d with
 | zero =>
  intro j hj;refine ⟨l.take j ++ [x] ++ l.drop j,Ev.succ ?_,by simp only [List.length_append,List.length_take,List.length_drop,List.length_singleton];omega⟩;have h1 : ((j : Int) < (l.length : Int)) = False := eq_false (by omega);have h2 : ((j : Int) <= (l.length : Int)) = True := eq_true (by omega);have h3 : (0 + (l.take j).length < 17592186044416) = True := eq_true (by rw [List.length_take];omega);have h4 : ((l.take j).length < 17592186044416) = True := eq_true (by rw [List.length_take];omega);have h5 : ((l.take j ++ [x]).length + (l.drop j).length < 17592186044416) = True := eq_true (by simp only [List.length_append,List.length_take,List.length_drop,List.length_singleton];omega);simp only [spec_l1Put.l0,h1,if_false,Option.bind_some,Xa,if_true,h2,Int.toNat_natCast,List.length_nil,h3,List.nil_append,h4,h5];exact Ev.now _
 | succ d ih =>
  intro j hj;have hlt : j < l.length := by omega
  have h1 : ((j : Int) < (l.length : Int)) = True := eq_true (by omega);have h2 : ((j : Int) <= (l.length : Int)) = True := eq_true (by omega);have hg : l.getD j 0 = l[j] := by rw [List.getD_eq_getElem?_getD,List.getElem?_eq_getElem hlt];rfl
  by_cases h6 : l[j] < x
  ·obtain ⟨r,hr,hn⟩ := ih (j + 1) (by omega);refine ⟨r,Ev.succ ?_,hn⟩;simp only [spec_l1Put.l0,h1,if_true,Xa,Vd,hg,eq_true h6,Xb (show j < 4611686018427387904 by omega)];exact hr
  ·by_cases h7 : l[j] = x
   ·refine ⟨l,Ev.succ ?_,by omega⟩;simp only [spec_l1Put.l0,h1,if_true,Xa,Vd,hg,eq_false h6,if_false,eq_true h7];exact Ev.now _
   ·refine ⟨l.take j ++ [x] ++ l.drop j,Ev.succ ?_,by simp only [List.length_append,List.length_take,List.length_drop,List.length_singleton];omega⟩;have h3 : (0 + (l.take j).length < 17592186044416) = True := eq_true (by rw [List.length_take];omega);have h4 : ((l.take j).length < 17592186044416) = True := eq_true (by rw [List.length_take];omega);have h5 : ((l.take j ++ [x]).length + (l.drop j).length < 17592186044416) = True := eq_true (by simp only [List.length_append,List.length_take,List.length_drop,List.length_singleton];omega);simp only [spec_l1Put.l0,h1,if_true,Xa,Vd,hg,eq_false h6,eq_false h7,if_false,Option.bind_some,h2,Int.toNat_natCast,List.length_nil,h3,List.nil_append,h4,h5];exact Ev.now _
theorem Ty (l : List Int) (x : Int) (hl : l.length <= 4000000) : ∃ r : List Int,Ev (fun k => spec_l1Put.f k l x) r ∧ r.length <= l.length + 1 := by
 unfold spec_l1Put.f;exact Tv l x hl l.length 0 (by omega)
def WSh (n : Nat) (l : List S41) : Prop := ∀ q,q ∈ l -> q.f1.length <= n ∧ Yw q.f0
theorem WSh.wsz {n : Nat} {l : List S41} (h : WSh n l) (hn : n <= 1048576) : Zd l := fun q hq => by
 obtain ⟨h1,h2⟩ := h q hq;unfold Yw at h2;exact ⟨by omega,by omega⟩
theorem WSh.mono {n m : Nat} {l : List S41} (h : WSh n l) (hn : n <= m) : WSh m l := fun q hq => ⟨Nat.le_trans (h q hq).1 hn,(h q hq).2⟩
theorem WSh.snoc {n : Nat} {l : List S41} (h : WSh n l) {x : S41} (h1 : x.f1.length <= n) (h2 : Yw x.f0) : WSh n (l ++ [x]) := fun y hy => by
 rcases List.mem_append.1 hy with hy | hy
 ·exact h y hy
 ·rw [List.mem_singleton.1 hy];exact ⟨h1,h2⟩
theorem WSh.set {n : Nat} {l : List S41} (h : WSh n l) {x : S41} (i : Nat) (h1 : x.f1.length <= n) (h2 : Yw x.f0) : WSh n (l.set i x) := fun y hy => by
 rcases List.mem_or_eq_of_mem_set hy with hy | hy
 ·exact h y hy
 ·rw [hy];exact ⟨h1,h2⟩
theorem WSh.at {n : Nat} {l : List S41} (h : WSh n l) (i : Int) : (rd_T41 l i).f1.length <= n ∧ Yw (rd_T41 l i).f0 := by
 have e : rd_T41 l i = Xy l i.toNat := rfl;rw [e];by_cases hi : i.toNat < l.length
 ·rw [Uw l _ hi];exact h _ (List.getElem_mem hi)
 ·unfold Xy;rw [List.getD_eq_getElem?_getD,List.getElem?_eq_none (by omega)];exact ⟨Nat.zero_le _,Nat.zero_le _⟩
def letters17 : ByteArray := ⟨#[65,66,67,68,69,70,71,72,73,74,75,76,77,78,79,80,81]⟩
theorem J6 {l : List Int} {a s : Int} (N : Nat) (hN : N <= 17) : ∀ (d : Nat) (x3 : List S41),x3.length + d = N -> WSh 10 x3 -> ∃ L,Ev (fun k => spec_l1Cur_words.l2 k x3 (N : Int) l a s) (L,a,s) ∧ L.length <= 17 ∧ WSh 10 L := by
 intro d
 induction d with
 | zero =>
  intro x3 hd hs;refine ⟨x3,Ev.succ ?_,by omega,hs⟩;simp only [spec_l1Cur_words.l2,show ((x3.length : Int) < (N : Int)) = False from eq_false (by omega),if_false];exact Ev.now _
 | succ d ih =>
  intro x3 hd hs;have e1 : (letters17.extract x3.length (x3.length + 1)).size = 1 := by
   rw [ByteArray.size_extract];have : letters17.size = 17 := rfl;omega
  have hw : wrap64 ((x3.length : Int) + 1) = ((x3.length + 1 : Nat) : Int) := Xb (by omega);have hlet : (⟨#[65,66,67,68,69,70,71,72,73,74,75,76,77,78,79,80,81]⟩ : ByteArray) = letters17 := rfl;obtain ⟨L,hE,hL,hS⟩ := ih (x3 ++ [(⟨(⟨#[88]⟩ : ByteArray) ++ letters17.extract x3.length (x3.length + 1),([] : List Int),5⟩ : S41)]) (by rw [List.length_append,List.length_singleton];omega) (hs.snoc (by simp) (by
   show (_ ++ _ : ByteArray).size <= 10;rw [ByteArray.size_append,e1]
   decide))
  refine ⟨L,Ev.succ ?_,hL,hS⟩;simp only [spec_l1Cur_words.l2,show ((x3.length : Int) < (N : Int)) = True from eq_true (by omega),if_true,Xa,hw,hlet,e1,show ((x3.length : Int) <= ((x3.length + 1 : Nat) : Int)) = True from eq_true (by omega),show (((x3.length + 1 : Nat) : Int) <= 17) = True from eq_true (by omega),show (1 + 1 <= 9223372036854775807) = True from eq_true (by decide),show (x3.length < 2932031007402) = True from eq_true (by omega)];exact hE
def names7 : List ByteArray := [(⟨#[83,85,78]⟩ : ByteArray),(⟨#[72,79,85,83,69]⟩ : ByteArray),(⟨#[84,82,69,69]⟩ : ByteArray),(⟨#[82,65,73,78]⟩ : ByteArray),(⟨#[66,79,79,75]⟩ : ByteArray),(⟨#[69,73,71,72,84,76,69,84]⟩ : ByteArray),(⟨#[65]⟩ : ByteArray)]
theorem Uv : ∀ x,x ∈ names7 -> Yw x := Xg (Xj (by decide)) (Xg (Xj (by decide)) (Xg (Xj (by decide)) (Xg (Xj (by decide)) (Xg (Xj (by decide)) (Xg (Xj (by decide)) (Xg (Xj (by decide)) Z6))))))
theorem Gg {l : List Int} (hu : U8 l) {a : Int} (s : Int) (h0 : 0 <= a) (h1 : a <= 999999999900) : T3 (spec_l1Cur_anyGloss.f l a s) a 4 Yw := by
 obtain ⟨y2,a2,s2,e2,m2,p2,q2⟩ := Tz hu s h0 (by omega) [(⟨#[]⟩ : ByteArray),(⟨#[115,117,110]⟩ : ByteArray),(⟨#[78,73,78,69,76,69,84,84,69]⟩ : ByteArray),(⟨#[65,49]⟩ : ByteArray),(⟨#[90,79,79]⟩ : ByteArray),(⟨#[65]⟩ : ByteArray)] (by simp) (by simp);obtain ⟨y3,a3,s3,e3,m3,p3,q3⟩ := Tz hu s2 (a := a2) (by omega) (by omega) [(⟨#[83,85,78]⟩ : ByteArray),(⟨#[72,79,85,83,69]⟩ : ByteArray),(⟨#[84,82,69,69]⟩ : ByteArray),(⟨#[82,65,73,78]⟩ : ByteArray),(⟨#[66,79,79,75]⟩ : ByteArray),(⟨#[83,85,78]⟩ : ByteArray),y2] (by simp) (by simp);have h2 : Yw y2 := Xg (Xj (by decide)) (Xg (Xj (by decide)) (Xg (Xj (by decide)) (Xg (Xj (by decide)) (Xg (Xj (by decide)) (Xg (Xj (by decide)) Z6))))) _ m2;have h3 : Yw y3 := Xg (Xj (by decide)) (Xg (Xj (by decide)) (Xg (Xj (by decide)) (Xg (Xj (by decide)) (Xg (Xj (by decide)) (Xg (Xj (by decide)) (Xg h2 Z6)))))) _ m3;unfold spec_l1Cur_anyGloss.f;simp only [e2,e3,Option.bind_some];exact ⟨_,_,_,rfl,h3,by omega,by omega⟩
theorem Tj {l : List Int} (hu : U8 l) (x3 : List S41) (n : Int) (i : Nat) (g : ByteArray) (us a0 B : Int) (P : List S41 × Int × Int -> Prop) (hx : x3.length <= 100) (hi : i <= 100) (h00 : 0 <= a0) (hB : B <= 999999999000)
  (hc : ∀ (nd : List Int) (a s : Int),nd.length <= i -> a0 <= a -> a <= B -> ∃ r,Ev (fun k => spec_l1Cur_words.l0 k (x3 ++ [(⟨g,nd,us⟩ : S41)]) names7 n ((i + 1 : Nat) : Int) l a s) r ∧ P r) :
  ∀ (d q : Nat) (nd : List Int) (a s : Int),q + d = i -> nd.length <= q -> a0 <= a -> a + 2 * d <= B -> ∃ r,Ev (fun k => spec_l1Cur_words.l1 k x3 names7 n (i : Int) (q : Int) l a s g nd us) r ∧ P r := by
 intro d
 induction d with
 | zero =>
  intro q nd a s hq hn h0 h1;obtain rfl : q = i := by omega
  obtain ⟨r,hE,hP⟩ := hc nd a s hn h0 (by omega);refine ⟨r,Ev.succ ?_,hP⟩;simp only [spec_l1Cur_words.l1,show ((q : Int) < (q : Int)) = False from eq_false (by omega),if_false,show (x3.length < 2932031007402) = True from eq_true (by omega),if_true,Xb (show q < 4611686018427387904 by omega)];exact hE
 | succ d ih =>
  intro q nd a s hq hn h0 h1;obtain ⟨b,a1,s1,e1,_,p1,q1⟩ := Tb hu s (a := a) (by omega) (by omega) 3 (by decide) (by decide);have hw : wrap64 ((q : Int) + 1) = ((q + 1 : Nat) : Int) := Xb (by omega);have hlt : ((q : Int) < (i : Int)) = True := eq_true (by omega);cases b with
  | true =>
   obtain ⟨r,hE,hP⟩ := ih (q + 1) (nd ++ [(q : Int)]) a1 s1 (by omega) (by rw [List.length_append,List.length_singleton];omega) (by omega) (by omega);refine ⟨r,Ev.succ ?_,hP⟩;simp only [spec_l1Cur_words.l1,hlt,if_true,e1,Option.bind_some,show (nd.length < 17592186044416) = True from eq_true (by omega),hw];exact hE
  | false =>
   obtain ⟨r,hE,hP⟩ := ih (q + 1) nd a1 s1 (by omega) (by omega) (by omega) (by omega);refine ⟨r,Ev.succ ?_,hP⟩;simp only [spec_l1Cur_words.l1,hlt,if_true,e1,Option.bind_some,Bool.false_eq_true,if_false,hw];exact hE
theorem Jp {l : List Int} (hu : U8 l) (n : Nat) (hn : n <= 7) (x3 : List S41) (a s : Int) (hx : x3.length = n) (hs : WSh 7 x3) (h0 : 0 <= a) (h1 : a <= 999999998000) :
  ∃ r,Ev (fun k => spec_l1Cur_words.l0 k x3 names7 (n : Int) (n : Int) l a s) r ∧ (r.1.length <= 17 ∧ WSh 10 r.1 ∧ a <= r.2.1 ∧ r.2.1 <= a + 20) := by
 have hs10 := hs.mono (show 7 <= 10 by decide);by_cases hp : (n : Int) > 0
 ·obtain ⟨i,a1,s1,e1,⟨i0,i1⟩,p1,q1⟩ := Xw hu s h0 (by omega) (n : Int) (by omega) (by omega);obtain ⟨m,a2,s2,e2,_,p2,q2⟩ := Xw hu s1 (a := a1) (by omega) (by omega) 16 (by decide) (by decide);have hi : (i < (x3.length : Int)) = True := eq_true (by omega);obtain ⟨w1,w2⟩ := hs.at i;by_cases c0 : m = 0
  ·obtain ⟨y,a3,s3,e3,_,p3,q3⟩ := Xw hu s2 (a := a2) (by omega) (by omega) (n : Int) (by omega) (by omega);obtain ⟨z,hz,hzl⟩ := Ty (rd_T41 x3 i).f1 y (by omega);refine ⟨(x3.set (i : Int).toNat (⟨(rd_T41 x3 i).f0,z,(rd_T41 x3 i).f2⟩ : S41),a3,s3),Ev.succ ?_,?_,hs10.set _ (by show z.length <= 10;omega) w2,by show a <= a3;omega,by show a3 <= a + 20;omega⟩
   ·simp only [spec_l1Cur_words.l0,show ((n : Int) < (n : Int)) = False from eq_false (by omega),if_false,eq_true hp,if_true,e1,e2,Option.bind_some,eq_true c0,eq_true i0,hi,e3];exact Ev.bind hz (Ev.now _)
   ·show (x3.set _ _).length <= 17;rw [List.length_set];omega
  by_cases c1 : m = 1
  ·obtain ⟨y,a3,s3,e3,_,p3,q3⟩ := Yj hu s2 (a := a2) (by omega) (by omega) [(-1),(n : Int),0] (by simp) (by simp);refine ⟨(x3.set (i : Int).toNat (⟨(rd_T41 x3 i).f0,(rd_T41 x3 i).f1 ++ [y],(rd_T41 x3 i).f2⟩ : S41),a3,s3),Ev.succ ?_,?_,hs10.set _ (by show (_ ++ _ : List Int).length <= 10;rw [List.length_append,List.length_singleton];omega) w2,by show a <= a3;omega,by show a3 <= a + 20;omega⟩
   ·simp only [spec_l1Cur_words.l0,show ((n : Int) < (n : Int)) = False from eq_false (by omega),if_false,eq_true hp,if_true,e1,e2,Option.bind_some,eq_false c0,eq_true c1,eq_true i0,hi,e3,eq_false c0,show ((rd_T41 x3 i).f1.length < 17592186044416) = True from eq_true (by omega)];exact Ev.now _
   ·show (x3.set _ _).length <= 17;rw [List.length_set];omega
  by_cases c2 : m = 2
  ·obtain ⟨y,a3,s3,e3,hy,p3,q3⟩ := Gg hu s2 (a := a2) (by omega) (by omega);refine ⟨(x3.set (i : Int).toNat (⟨y,(rd_T41 x3 i).f1,(rd_T41 x3 i).f2⟩ : S41),a3,s3),Ev.succ ?_,?_,hs10.set _ (by show (rd_T41 x3 i).f1.length <= 10;omega) hy,by show a <= a3;omega,by show a3 <= a + 20;omega⟩
   ·simp only [spec_l1Cur_words.l0,show ((n : Int) < (n : Int)) = False from eq_false (by omega),if_false,eq_true hp,if_true,e1,e2,Option.bind_some,eq_true c2,eq_true i0,hi,e3,eq_false c0,eq_false c1];exact Ev.now _
   ·show (x3.set _ _).length <= 17;rw [List.length_set];omega
  by_cases c3 : m = 3
  ·obtain ⟨y,a3,s3,e3,hy,p3,q3⟩ := Yj hu s2 (a := a2) (by omega) (by omega) [(-1),100000] (by simp) (by simp);refine ⟨(x3.set (i : Int).toNat (⟨(rd_T41 x3 i).f0,(rd_T41 x3 i).f1,y⟩ : S41),a3,s3),Ev.succ ?_,?_,hs10.set _ (by show (rd_T41 x3 i).f1.length <= 10;omega) w2,by show a <= a3;omega,by show a3 <= a + 20;omega⟩
   ·simp only [spec_l1Cur_words.l0,show ((n : Int) < (n : Int)) = False from eq_false (by omega),if_false,eq_true hp,if_true,e1,e2,Option.bind_some,eq_true c3,eq_true i0,hi,e3,eq_false c0,eq_false c1,eq_false c2];exact Ev.now _
   ·show (x3.set _ _).length <= 17;rw [List.length_set];omega
  by_cases c4 : m = 4
  ·obtain ⟨y,a3,s3,e3,⟨y0,y1⟩,p3,q3⟩ := Xw hu s2 (a := a2) (by omega) (by omega) 2 (by decide) (by decide);obtain ⟨N,hN⟩ : ∃ N : Nat,16 + y = (N : Int) := ⟨(16 + y).toNat,by omega⟩;obtain ⟨L,hE,hL,hS⟩ := J6 (l := l) (a := a3) (s := s3) N (by omega) N [] (by simp) (fun x hx => by cases hx);refine ⟨(L,a3,s3),Ev.succ ?_,hL,hS,by show a <= a3;omega,by show a3 <= a + 20;omega⟩;simp only [spec_l1Cur_words.l0,show ((n : Int) < (n : Int)) = False from eq_false (by omega),if_false,eq_true hp,if_true,e1,e2,Option.bind_some,eq_true c4,e3,eq_false c0,eq_false c1,eq_false c2,eq_false c3];rw [Xi (by omega) (by omega),hN];exact hE
  ·refine ⟨(x3,a2,s2),Ev.succ ?_,by show x3.length <= 17;omega,hs10,by show a <= a2;omega,by show a2 <= a + 20;omega⟩;simp only [spec_l1Cur_words.l0,show ((n : Int) < (n : Int)) = False from eq_false (by omega),if_false,eq_true hp,if_true,e1,e2,Option.bind_some,eq_false c0,eq_false c1,eq_false c2,eq_false c3,eq_false c4];exact Ev.now _
 ·refine ⟨(x3,a,s),Ev.succ ?_,by show x3.length <= 17;omega,hs10,Int.le_refl _,by show a <= a + 20;omega⟩;simp only [spec_l1Cur_words.l0,show ((n : Int) < (n : Int)) = False from eq_false (by omega),if_false,eq_false hp];exact Ev.now _
theorem J7 {l : List Int} (hu : U8 l) (n : Nat) (hn : n <= 7) : ∀ (d j : Nat) (x3 : List S41) (a s : Int),j + d = n -> x3.length = j -> WSh 7 x3 -> 0 <= a -> a + 20 * d <= 999999998000 -> ∃ r,Ev (fun k => spec_l1Cur_words.l0 k x3 names7 (n : Int) (j : Int) l a s) r ∧ (r.1.length <= 17 ∧ WSh 10 r.1 ∧ a <= r.2.1 ∧ r.2.1 <= a + 20 * d + 20) := by
 intro d
 induction d with
 | zero =>
  intro j x3 a s hd hl hs h0 h1;obtain rfl : j = n := by omega
  obtain ⟨r,hE,h2,h3,h4,h5⟩ := Jp hu j hn x3 a s hl hs h0 (by omega);exact ⟨r,hE,h2,h3,h4,by omega⟩
 | succ d ih =>
  intro j x3 a s hd hl hs h0 h1;obtain ⟨us,a1,s1,e1,_,p1,q1⟩ := Yj hu s h0 (by omega) [0,1,10,10,50,500,99999] (by decide) (by decide);have hj : ((j : Int) < (n : Int)) = True := eq_true (by omega);have hn7 : ((j : Int) < (names7.length : Int)) = True := eq_true (by show (j : Int) < 7;omega);have hm : rdOf ByteArray.empty names7 (j : Int) ∈ names7 := by
   have hlt : j < names7.length := by show j < 7;omega
   have e : rdOf ByteArray.empty names7 (j : Int) = names7[j] := by
    show names7.getD ((j : Int)).toNat ByteArray.empty = _;rw [Int.toNat_natCast,List.getD_eq_getElem?_getD,List.getElem?_eq_getElem hlt];rfl
   rw [e];exact List.getElem_mem _
  obtain ⟨r,hE,hP⟩ := Tj hu x3 (n : Int) j (rdOf ByteArray.empty names7 (j : Int)) us a1 (a1 + 2 * j) (fun r => r.1.length <= 17 ∧ WSh 10 r.1 ∧ a <= r.2.1 ∧ r.2.1 <= a + 20 * ((d + 1 : Nat) : Int) + 20) (by omega) (by omega) (by omega) (by omega)
   (fun nd a2 s2 hnd h2 h3 => by
    obtain ⟨r,hE,g1,g2,g3,g4⟩ := ih (j + 1) (x3 ++ [(⟨rdOf ByteArray.empty names7 (j : Int),nd,us⟩ : S41)]) a2 s2 (by omega) (by rw [List.length_append,List.length_singleton];omega) (hs.snoc (by show nd.length <= 7;omega) (Uv _ hm)) (by omega) (by omega);exact ⟨r,hE,g1,g2,by omega,by omega⟩)
   j 0 [] a1 s1 (by omega) (by simp) (Int.le_refl _) (by omega)
  refine ⟨r,Ev.succ ?_,hP⟩;simp only [spec_l1Cur_words.l0,hj,if_true,Xa,hn7,e1,Option.bind_some];exact hE
theorem Vv {l : List Int} (hu : U8 l) {a : Int} (s : Int) (h0 : 0 <= a) (h1 : a <= 999999997000) : ∃ L a' s',Ev (fun k => spec_l1Cur_words.f k l a s) (L,a',s') ∧ L.length <= 17 ∧ WSh 10 L ∧ a <= a' ∧ a' <= a + 200 := by
 obtain ⟨n,a1,s1,e1,⟨n0,n1⟩,p1,q1⟩ := Xw hu s h0 (by omega) 8 (by decide) (by decide);obtain ⟨m,rfl⟩ : ∃ m : Nat,n = (m : Int) := ⟨n.toNat,by omega⟩;obtain ⟨⟨L,a',s'⟩,hE,g1,g2,g3,g4⟩ := J7 hu m (by omega) m 0 [] a1 s1 (by omega) rfl (fun x hx => by cases hx) (by omega) (by omega);refine ⟨L,a',s',?_,g1,g2,by have : a1 <= a' := g3;omega,by have : a' <= a1 + 20 * (m : Int) + 20 := g4;omega⟩;unfold spec_l1Cur_words.f;have hn7 : ([(⟨#[83,85,78]⟩ : ByteArray),(⟨#[72,79,85,83,69]⟩ : ByteArray),(⟨#[84,82,69,69]⟩ : ByteArray),(⟨#[82,65,73,78]⟩ : ByteArray),(⟨#[66,79,79,75]⟩ : ByteArray),(⟨#[69,73,71,72,84,76,69,84]⟩ : ByteArray),(⟨#[65]⟩ : ByteArray)] : List ByteArray) = names7 := rfl;have e8 : wrap64 ((names7.length : Int) + 1) = 8 := by show wrap64 (((7 : Nat) : Int) + 1) = 8;exact Xi (by decide) (by decide)
 simp only [hn7,Option.bind_some,e8,e1];exact hE
def Z1 (need : Int -> List Int) : List Int -> List Int -> Prop
 | _,[] => True
 | done,x :: t => (∀ k,k ∈ need x -> k ∈ done) ∧ Z1 need (done ++ [x]) t
theorem Y4 {need : Int -> List Int} : ∀ (a b done : List Int),Z1 need done (a ++ b) ↔ Z1 need done a ∧ Z1 need (done ++ a) b
 | [],b,done => by simp [Z1]
 | x :: a,b,done => by
  show (_ ∧ Z1 need (done ++ [x]) (a ++ b)) ↔ (_ ∧ Z1 need (done ++ [x]) a) ∧ _;rw [Y4 a b (done ++ [x]),List.append_assoc,List.singleton_append,and_assoc]
theorem Ys : ∀ (a b : List Int),a.Nodup -> (∀ x,x ∈ a -> x ∈ b) -> a.length <= b.length
 | [],b,_,_ => by simp
 | x :: a,b,hn,hs => by
  obtain ⟨hx,ha⟩ := List.nodup_cons.1 hn;obtain ⟨p,q,rfl⟩ := List.append_of_mem (hs x (List.mem_cons_self ..));have := Ys a (p ++ q) ha (fun y hy => by
   have h1 := hs y (List.mem_cons_of_mem _ hy);simp only [List.mem_append,List.mem_cons] at h1 ⊢;rcases h1 with h1 | rfl | h1
   ·exact Or.inl h1
   ·exact absurd hy hx
   ·exact Or.inr h1)
  simp only [List.length_append,List.length_cons] at this ⊢;omega
theorem Tk {a b : List Int} (ha : a.Nodup) (hb : b.Nodup) (h : ∀ x,x ∈ a ↔ x ∈ b) : a.length = b.length :=
 Nat.le_antisymm (Ys a b ha (fun x => (h x).1)) (Ys b a hb (fun x => (h x).2))
theorem Up (n : Nat) : ∀ x : Int,x ∈ (List.range n).map Int.ofNat ↔ 0 <= x ∧ x < n := by
 intro x;rw [List.mem_map]
 constructor
 ·rintro ⟨i,hi,rfl⟩;have := List.mem_range.1 hi;exact ⟨Int.natCast_nonneg i,by show (i : Int) < n;omega⟩
 ·rintro ⟨h0,h1⟩;exact ⟨x.toNat,List.mem_range.2 (by omega),by show (x.toNat : Int) = x;omega⟩
theorem Xh {n : Nat} {a : List Int} (ha : a.Nodup) (hr : ∀ x,x ∈ a -> 0 <= x ∧ x < n) : a.length <= n := by
 have := Ys a ((List.range n).map Int.ofNat) ha (fun x hx => (Up n x).2 (hr x hx))
 simpa using this
theorem X4 {n : Nat} {a : List Int} (ha : a.Nodup) (hr : ∀ x,x ∈ a -> 0 <= x ∧ x < n) (hl : n <= a.length) : ∀ x : Int,0 <= x -> x < n -> x ∈ a := by
 intro x h0 h1;by_cases h : x ∈ a
 ·exact h
 ·have := Xh (n := n) (a := x :: a) (List.nodup_cons.2 ⟨h,ha⟩) (fun y hy => by
   rcases List.mem_cons.1 hy with rfl | hy
   ·exact ⟨h0,h1⟩
   ·exact hr y hy)
  simp only [List.length_cons] at this;omega
def Yd (us : Int -> Int) (p : Int -> Bool) : Nat -> Nat -> Int -> Int
 | 0,_,b => b
 | d + 1,j,b => Yd us p d (j + 1) (if p (j : Int) && (decide (b < 0) || decide (us (j : Int) > us b)) then (j : Int) else b)
theorem G3 (us : Int -> Int) (p : Int -> Bool) (N : Nat) : ∀ d j (b : Int),j + d = N -> (b = -1 ∧ (∀ i : Nat,i < j -> p i = false) ∨ 0 <= b ∧ b < N ∧ p b = true) ->
  (Yd us p d j b = -1 ∧ (∀ i : Nat,i < N -> p i = false)) ∨ (0 <= Yd us p d j b ∧ Yd us p d j b < N ∧ p (Yd us p d j b) = true) := by
 intro d
 induction d with
 | zero =>
  intro j b hj h;rw [Nat.add_zero] at hj;subst hj;exact h
 | succ d ih =>
  intro j b hj h;unfold Yd;refine ih (j + 1) _ (by omega) ?_;by_cases hp : p (j : Int) = true
  ·by_cases hc : (decide (b < 0) || decide (us (j : Int) > us b)) = true
   ·simp only [hp,hc,Bool.true_and,if_true];exact Or.inr ⟨by omega,by omega,by first|exact hp | trivial⟩
   ·simp only [hp,hc,Bool.true_and,Bool.false_eq_true,if_false];rcases h with ⟨rfl,_⟩ | h
    ·simp at hc
    ·exact Or.inr h
  ·rw [Bool.not_eq_true] at hp;simp only [hp,Bool.false_and,Bool.false_eq_true,if_false];rcases h with ⟨rfl,h⟩ | h
   ·refine Or.inl ⟨rfl,fun i hi => ?_⟩;by_cases e : i = j
    ·subst e;exact hp
    ·exact h i (by omega)
   ·exact Or.inr h
def X0 (us : Int -> Int) (p : Int -> Bool) (N : Nat) : Int := Yd us p N 0 (-1)
theorem Y9 (us : Int -> Int) (p : Int -> Bool) (N : Nat) : (X0 us p N = -1 ∧ ∀ i : Nat,i < N -> p i = false) ∨ (0 <= X0 us p N ∧ X0 us p N < N ∧ p (X0 us p N) = true) :=
 G3 us p N N 0 (-1) (by omega) (Or.inl ⟨rfl,fun i hi => absurd hi (by omega)⟩)
theorem Vo (us : Int -> Int) (p q : Int -> Bool) : ∀ d j (b : Int),(∀ i : Nat,j <= i -> i < j + d -> p i = q i) -> Yd us p d j b = Yd us q d j b
 | 0,_,_,_ => rfl
 | d + 1,j,b,h => by
  unfold Yd;rw [h j (by omega) (by omega)];exact Vo us p q d (j + 1) _ (fun i h1 h2 => h i (by omega) (by omega))
theorem Vt (us : Int -> Int) (p q : Int -> Bool) (N : Nat) (h : ∀ i : Nat,i < N -> p i = q i) : X0 us p N = X0 us q N := Vo us p q N 0 (-1) (fun i _ h2 => h i (by omega))
def Tr (nd : Int -> List Int) (D : List Int) (i : Int) : Bool := (nd i).all fun k => decide (k ∈ D)
theorem Jk (nd : Int -> List Int) (D : List Int) (i : Int) : Tr nd D i = true ↔ ∀ k,k ∈ nd i -> k ∈ D := by
 unfold Tr;rw [List.all_eq_true];simp
def Xl (nd : Int -> List Int) (D L : List Int) (i : Int) : Bool := !(decide (i ∈ D)) && (!(decide (i ∈ L)) && Tr nd D i)
theorem Yr (nd : Int -> List Int) (D L : List Int) (i : Int) : Xl nd D L i = true ↔ i ∉ D ∧ i ∉ L ∧ ∀ k,k ∈ nd i -> k ∈ D := by
 unfold Xl;rw [Bool.and_eq_true,Bool.and_eq_true,Jk];simp
def Xr (us : Int -> Int) (nd : Int -> List Int) (N : Nat) (D : List Int) : Nat -> List Int -> List Int
 | 0,L => L
 | f + 1,L => if X0 us (Xl nd D L) N < 0 then L else Xr us nd N D f (L ++ [X0 us (Xl nd D L) N])
def Yn (us : Int -> Int) (nd : Int -> List Int) (N : Nat) : Nat -> List Int -> List Int
 | 0,D => D
 | f + 1,D => if X0 us (Xl nd D []) N < 0 then D else Yn us nd N f (D ++ [X0 us (Xl nd D []) N])
structure Good (nd : Int -> List Int) (N : Nat) (D : List Int) : Prop where
 nodup : D.Nodup
 range : ∀ x,x ∈ D -> 0 <= x ∧ x < N
 teach : Z1 nd [] D
def U2 (nd : Int -> List Int) (N : Nat) (D : List Int) : Prop := ∀ i : Int,0 <= i ∧ i < N -> i ∉ D -> ∃ k,k ∈ nd i ∧ k ∉ D
theorem Zi (nd : Int -> List Int) (N : Nat) : Good nd N [] := ⟨List.nodup_nil,fun _ h => absurd h (List.not_mem_nil),trivial⟩
theorem Zo {us : Int -> Int} {nd : Int -> List Int} {N : Nat} {D : List Int} (h : X0 us (Xl nd D []) N < 0) : U2 nd N D := by
 rcases Y9 us (Xl nd D []) N with ⟨_,h2⟩ | ⟨h0,_⟩
 ·intro i hi hn;have := h2 i.toNat (by omega);rw [show ((i.toNat : Nat) : Int) = i by omega] at this;have hr : Tr nd D i = false := by
   by_cases hr : Tr nd D i = true
   ·have : Xl nd D [] i = true := (Yr nd D [] i).2 ⟨hn,by simp,(Jk nd D i).1 hr⟩
    simp_all
   ·simpa using hr
  unfold Tr at hr;rw [List.all_eq_false] at hr;obtain ⟨k,hk,hk2⟩ := hr;exact ⟨k,hk,by simpa using hk2⟩
 ·omega
theorem Va {us : Int -> Int} {nd : Int -> List Int} {N : Nat} {D : List Int} (hg : Good nd N D) (h : ¬ X0 us (Xl nd D []) N < 0) : Good nd N (D ++ [X0 us (Xl nd D []) N]) := by
 rcases Y9 us (Xl nd D []) N with ⟨h1,_⟩ | ⟨h0,h1,h2⟩
 ·omega
 ·obtain ⟨a1,_,a3⟩ := (Yr nd D [] _).1 h2;refine ⟨?_,?_,?_⟩
  ·rw [List.nodup_append];refine ⟨hg.nodup,by simp,?_⟩;intro x hx y hy;rw [List.mem_singleton] at hy;subst hy;intro e;subst e;exact a1 hx
  ·intro x hx;rcases List.mem_append.1 hx with hx | hx
   ·exact hg.range x hx
   ·rw [List.mem_singleton] at hx;subst hx;exact ⟨h0,h1⟩
  ·rw [Y4];exact ⟨hg.teach,fun k hk => by simpa using a3 k hk,trivial⟩
theorem Vj (us : Int -> Int) (nd : Int -> List Int) (N : Nat) : ∀ f D,Good nd N D -> N <= D.length + f -> Good nd N (Yn us nd N f D) ∧ U2 nd N (Yn us nd N f D)
 | 0,D,hg,hf => ⟨hg,fun i hi hn => absurd (X4 hg.nodup hg.range (by omega) i hi.1 hi.2) hn⟩
 | f + 1,D,hg,hf => by
  unfold Yn;by_cases h : X0 us (Xl nd D []) N < 0
  ·rw [if_pos h];exact ⟨hg,Zo h⟩
  ·rw [if_neg h];exact Vj us nd N f _ (Va hg h) (by simp;omega)
structure Pick (nd : Int -> List Int) (N : Nat) (D L : List Int) : Prop where
 nodup : L.Nodup
 out : ∀ x,x ∈ L -> x ∉ D
 range : ∀ x,x ∈ L -> 0 <= x ∧ x < N
 ready : ∀ x,x ∈ L -> ∀ k,k ∈ nd x -> k ∈ D
theorem Zh (nd : Int -> List Int) (N : Nat) (D : List Int) : Pick nd N D [] := ⟨List.nodup_nil,fun _ h => absurd h (List.not_mem_nil),fun _ h => absurd h (List.not_mem_nil),fun _ h => absurd h (List.not_mem_nil)⟩
theorem Z9 {us : Int -> Int} {nd : Int -> List Int} {N : Nat} {D L : List Int} (hg : Pick nd N D L) (h : ¬ X0 us (Xl nd D L) N < 0) : Pick nd N D (L ++ [X0 us (Xl nd D L) N]) := by
 rcases Y9 us (Xl nd D L) N with ⟨h1,_⟩ | ⟨h0,h1,h2⟩
 ·omega
 ·obtain ⟨a1,a2,a3⟩ := (Yr nd D L _).1 h2;have hm : ∀ x,x ∈ L ++ [X0 us (Xl nd D L) N] -> x ∈ L ∨ x = X0 us (Xl nd D L) N := fun x hx => by simpa using hx
  refine ⟨?_,fun x hx => ?_,fun x hx => ?_,fun x hx => ?_⟩
  ·rw [List.nodup_append];refine ⟨hg.nodup,by simp,?_⟩;intro x hx y hy;rw [List.mem_singleton] at hy;subst hy;intro e;subst e;exact a2 hx
  ·rcases hm x hx with hx | rfl
   ·exact hg.out x hx
   ·exact a1
  ·rcases hm x hx with hx | rfl
   ·exact hg.range x hx
   ·exact ⟨h0,h1⟩
  ·rcases hm x hx with hx | rfl
   ·exact hg.ready x hx
   ·exact a3
theorem Yx (us : Int -> Int) (nd : Int -> List Int) (N : Nat) (D : List Int) : ∀ f L,Pick nd N D L -> Pick nd N D (Xr us nd N D f L) ∧ (Xr us nd N D f L).length <= L.length + f ∧ L.length <= (Xr us nd N D f L).length
 | 0,L,h => ⟨h,by simp [Xr],by simp [Xr]⟩
 | f + 1,L,h => by
  unfold Xr;by_cases h1 : X0 us (Xl nd D L) N < 0
  ·rw [if_pos h1];exact ⟨h,by omega,by omega⟩
  ·rw [if_neg h1];obtain ⟨a,b,c⟩ := Yx us nd N D f _ (Z9 h h1);simp only [List.length_append,List.length_singleton] at b c;exact ⟨a,by omega,by omega⟩
theorem G4 {us : Int -> Int} {nd : Int -> List Int} {N : Nat} {D : List Int} {f : Nat} (hf : 0 < f) (h : Xr us nd N D f [] = []) : U2 nd N D := by
 obtain ⟨f,rfl⟩ : ∃ g,f = g + 1 := ⟨f - 1,by omega⟩;unfold Xr at h;by_cases h1 : X0 us (Xl nd D []) N < 0
 ·exact Zo h1
 ·rw [if_neg h1] at h;obtain ⟨_,_,c⟩ := Yx us nd N D f _ (Z9 (Zh nd N D) h1);rw [h] at c;simp at c
theorem Jq {us : Int -> Int} {nd : Int -> List Int} {N : Nat} {D : List Int} {f : Nat} (hg : Good nd N D) (h : N <= D.length) : Xr us nd N D f [] = [] := by
 cases f with
 | zero => rfl
 | succ f =>
  unfold Xr;rcases Y9 us (Xl nd D []) N with ⟨h1,_⟩ | ⟨h0,h1,h2⟩
  ·rw [if_pos (by omega)]
  ·exact absurd (X4 hg.nodup hg.range h _ h0 h1) ((Yr nd D [] _).1 h2).1
theorem Vg {nd : Int -> List Int} {N : Nat} {D L : List Int} (hg : Good nd N D) (hp : Pick nd N D L) : Good nd N (D ++ L) := by
 refine ⟨?_,?_,?_⟩
 ·rw [List.nodup_append];exact ⟨hg.nodup,hp.nodup,fun x hx y hy e => hp.out y hy (e ▸ hx)⟩
 ·intro x hx;rcases List.mem_append.1 hx with hx | hx
  ·exact hg.range x hx
  ·exact hp.range x hx
 ·rw [Y4];refine ⟨hg.teach,?_⟩;have : ∀ (t E : List Int),(∀ x,x ∈ t -> ∀ k,k ∈ nd x -> k ∈ E) -> Z1 nd E t := by
   intro t
   induction t with
   | nil => intro E _;trivial
   | cons y t ih => intro E h;exact ⟨h y (List.mem_cons_self ..),ih _ (fun x hx k hk => List.mem_append_left _ (h x (List.mem_cons_of_mem _ hx) k hk))⟩
  exact this L ([] ++ D) (by simpa using hp.ready)
theorem Ug {nd : Int -> List Int} {N : Nat} {D L M : List Int} (hp : Pick nd N D L) (hM : M.Nodup) (h : ∀ x,x ∈ M ↔ x ∈ L) : Pick nd N D M :=
 ⟨hM,fun x hx => hp.out x ((h x).1 hx),fun x hx => hp.range x ((h x).1 hx),fun x hx => hp.ready x ((h x).1 hx)⟩
def Ze (us : Int -> Int) (nd : Int -> List Int) (N s : Nat) (srt : List Int -> List Int) : Nat -> List Int -> List (List Int) × List Int
 | 0,D => ([],D)
 | f + 1,D => if Xr us nd N D s [] = [] then ([],D) else ((srt (Xr us nd N D s []) :: (Ze us nd N s srt f (D ++ srt (Xr us nd N D s []))).1),(Ze us nd N s srt f (D ++ srt (Xr us nd N D s []))).2)
theorem V2 (us : Int -> Int) (nd : Int -> List Int) (N s : Nat) (srt : List Int -> List Int) (hs : 0 < s) (hsr : ∀ L : List Int,L.Nodup -> (srt L).Nodup ∧ (∀ x,x ∈ srt L ↔ x ∈ L) ∧ (srt L).length = L.length) : ∀ f D,Good nd N D -> N <= D.length + f -> Good nd N (Ze us nd N s srt f D).2 ∧ U2 nd N (Ze us nd N s srt f D).2
 | 0,D,hg,hf => ⟨hg,fun i hi hn => absurd (X4 hg.nodup hg.range (by omega) i hi.1 hi.2) hn⟩
 | f + 1,D,hg,hf => by
  unfold Ze;by_cases h : Xr us nd N D s [] = []
  ·rw [if_pos h];exact ⟨hg,G4 hs h⟩
  ·rw [if_neg h];obtain ⟨a,_,_⟩ := Yx us nd N D s [] (Zh nd N D);obtain ⟨b1,b2,b3⟩ := hsr _ a.nodup;have h4 : 0 < (Xr us nd N D s []).length := List.length_pos_iff.2 h;exact V2 us nd N s srt hs hsr f _ (Vg hg (Ug a b1 b2)) (by rw [List.length_append,b3];omega)
theorem Jg {α : Type} {p : Nat -> α -> Option Bool} {f : α -> Bool} : ∀ {l : List α},(∀ x,x ∈ l -> Ev (fun k => p k x) (f x)) -> Ev (fun k => Go.Proofs.YtgnijnlgbelifaaGreatW.GIdx.anyO (p k) l) (l.any f)
 | [],_ => Ev.now _
 | x :: l,h => by
  unfold Go.Proofs.YtgnijnlgbelifaaGreatW.GIdx.anyO;refine Ev.bind (h x (List.mem_cons_self ..)) ?_;rw [List.any_cons];cases f x with
  | true => exact Ev.now _
  | false => simpa using Jg (l := l) fun y hy => h y (List.mem_cons_of_mem _ hy)
theorem Tc {α β : Type} {g : Nat -> Option α} {r : α} (h : Ev g r) (f : α -> β) : Ev (fun k => (g k).map f) (f r) := by
 obtain ⟨K,h⟩ := h;exact ⟨K,fun k hk => by show (g k).map f = some (f r);rw [h k hk];rfl⟩
theorem Tt {α : Type} (l : List α) (f : α -> Bool) : (!l.any fun x => !f x) = l.all f := by
 induction l with
 | nil => rfl
 | cons x l ih => rw [List.any_cons,List.all_cons,<- ih,Bool.not_or,Bool.not_not]
theorem Jd {α : Type} {p : Nat -> α -> Option Bool} {f : α -> Bool} {l : List α} (h : ∀ x,x ∈ l -> Ev (fun k => p k x) (f x)) : Ev (fun k => Go.Proofs.YtgnijnlgbelifaaGreatW.GIdx.allO (p k) l) (l.all f) := by
 unfold Go.Proofs.YtgnijnlgbelifaaGreatW.GIdx.allO;have h1 := Jg (p := fun k x => (p k x).map (!·)) (f := fun x => !f x) (l := l) (fun x hx => Tc (h x hx) _);have h2 := Tc h1 (fun b => !b);rw [Tt] at h2;exact h2
theorem Zl (l : List (List Int)) (j : Nat) : rd_L2 l (j : Int) = l.getD j [] := by simp [rd_L2]
theorem Z5 (l : List (List Int)) (j : Nat) (h : j < l.length) : l.getD j [] = l[j] := by rw [List.getD_eq_getElem?_getD,List.getElem?_eq_getElem h];rfl
theorem Ye {l : List (List Int)} {y : List Int} (h : y ∈ l) : y.length <= l.flatten.length := by
 obtain ⟨a,b,rfl⟩ := List.append_of_mem h;rw [List.flatten_append,List.flatten_cons,List.length_append,List.length_append];omega
theorem Xz (l : List (List Int)) (n : Nat) : (l.take n).flatten.length <= l.flatten.length := by
 have : l.flatten.length = (l.take n).flatten.length + (l.drop n).flatten.length := by
  rw [<- List.length_append,<- List.flatten_append,List.take_append_drop]
 omega
theorem V0 (l : List (List Int)) (n : Nat) (h : n < l.length) : (l.drop n).flatten = l[n] ++ (l.drop (n + 1)).flatten := by rw [List.drop_eq_getElem_cons h,List.flatten_cons]
theorem Xn (l : List (List Int)) (n : Nat) (h : n < l.length) : (l.take (n + 1)).flatten = (l.take n).flatten ++ l[n] := by rw [List.take_succ_eq_append_getElem h,List.flatten_append];simp
theorem Je (l : List S41) (hl : l.length <= 1048576) : X7 l = (l.length : Int) - 1 := by
 unfold X7;rw [Xi (by omega) (by omega)]
theorem J0 (ls : List (List Int)) (hs : ls.flatten.length <= 1048576) (hl : ls.length <= 1048576) : ∀ d n,n + d = ls.length -> Ev (fun k => slices_Concat_int.l1 k (ls.take n).flatten ls (ls.length : Int) (n : Int)) ls.flatten := by
 intro d
 induction d with
 | zero =>
  intro n hn;refine Ev.succ ?_;have h1 : ((n : Int) < (ls.length : Int)) = False := eq_false (by omega);simp only [slices_Concat_int.l1,h1,if_false];rw [List.take_of_length_le (by omega)];exact Ev.now _
 | succ d ih =>
  intro n hn;refine Ev.succ ?_;have hlt : n < ls.length := by omega
  have h1 : ((n : Int) < (ls.length : Int)) = True := eq_true (by omega);have hy := Ye (List.getElem_mem hlt);have ht := Xz ls n;have h2 : ((ls.take n).flatten.length + ls[n].length < 17592186044416) = True := eq_true (by omega);simp only [slices_Concat_int.l1,h1,if_true,Xa,Zl,Z5 ls n hlt,h2,Xb (show n < 4611686018427387904 by omega)];rw [<- Xn ls n hlt];exact ih (n + 1) (by omega)
theorem Jz (ls : List (List Int)) (hs : ls.flatten.length <= 1048576) (hl : ls.length <= 1048576) : ∀ d n,n + d = ls.length -> Ev (fun k => slices_Concat_int.l0 k ls ((ls.take n).flatten.length : Int) ls (ls.length : Int) (n : Int)) ls.flatten := by
 intro d
 induction d with
 | zero =>
  intro n hn;refine Ev.succ ?_;have h1 : ((n : Int) < (ls.length : Int)) = False := eq_false (by omega);have ht := Xz ls n;simp only [slices_Concat_int.l0,h1,if_false,slices_Grow_int.f,Xa,if_true,show (((ls.take n).flatten.length : Int) < 17592186044416) = True from eq_true (by omega),Option.bind_some];exact J0 ls hs hl ls.length 0 (by omega)
 | succ d ih =>
  intro n hn;refine Ev.succ ?_;have hlt : n < ls.length := by omega
  have h1 : ((n : Int) < (ls.length : Int)) = True := eq_true (by omega);have hy := Ye (List.getElem_mem hlt);have ht := Xz ls n;have e : wrap64 (((ls.take n).flatten.length : Int) + (ls[n].length : Int)) = ((ls.take (n + 1)).flatten.length : Int) := by
   rw [Xi (by omega) (by omega),Xn ls n hlt,List.length_append];omega
  have h2 : (((ls.take (n + 1)).flatten.length : Int) < 0) = False := eq_false (by omega);simp only [slices_Concat_int.l0,h1,if_true,Xa,Zl,Z5 ls n hlt,e,h2,if_false,Xb (show n < 4611686018427387904 by omega)];exact ih (n + 1) (by omega)
theorem Y2 (ls : List (List Int)) (hs : ls.flatten.length <= 1048576) (hl : ls.length <= 1048576) : Ev (fun k => slices_Concat_int.f k ls) ls.flatten := by
 unfold slices_Concat_int.f;exact Jz ls hs hl ls.length 0 (by omega)
def Xp (l : List S41) (done : List Int) (i : Int) : Bool := (Xy l i.toNat).f1.all fun x => decide (x ∈ done)
theorem Z7 (l : List S41) (i : Int) : rd_T41 l i = Xy l i.toNat := rfl
theorem J5 (l : List Int) (p : Int -> Bool) : (List.range l.length).all (fun j => p (l.getD j 0)) = l.all p := by
 have hg : ∀ i (hi : i < l.length),l.getD i 0 = l[i] := fun i hi => by rw [List.getD_eq_getElem?_getD,List.getElem?_eq_getElem hi];rfl
 rw [Bool.eq_iff_iff,List.all_eq_true,List.all_eq_true]
 constructor
 ·intro h x hx;obtain ⟨i,hi,rfl⟩ := List.getElem_of_mem hx;have := h i (List.mem_range.2 hi)
  rwa [hg i hi] at this
 ·intro h j hj;rw [hg j (List.mem_range.1 hj)];exact h _ (List.getElem_mem _)
theorem Ua (l : List S41) (done : List Int) (i : Int) (hz : Zd l) (hd : done.length <= 1048576) (h0 : 0 <= i) (h1 : i < l.length) : Ev (fun k => spec_leReady.f k l done i) (Xp l done i) := by
 unfold spec_leReady.f Xp;have hn := (Uo hz (show i.toNat < l.length by omega)).1;simp only [eq_true h0,eq_true h1,if_true,Z7];generalize (Xy l i.toNat).f1 = n at hn;refine Ev.eq (Ev.all0 (L := fun k j => spec_leReady.l0 k done n (n.length : Int) (j : Int)) (P := fun j => decide (n.getD j 0 ∈ done)) (n := n.length) (a := true) (b := false) ?_ ?_ ?_) (by rw [J5 n (fun x => decide (x ∈ done))];cases n.all fun x => decide (x ∈ done) <;> rfl)
 ·refine Ev.succ ?_;simp only [spec_leReady.l0,Int.lt_irrefl,if_false];exact Ev.now _
 ·intro j r hj hP h;refine Ev.succ ?_;have h1 : ((j : Int) < (n.length : Int)) = True := eq_true (by omega);simp only [spec_leReady.l0,h1,if_true,Xa,Vd,Xb (show j < 4611686018427387904 by omega)];refine Ev.bind (X5 _ _ (by omega)) ?_;simp only [hP,if_true];exact h
 ·intro j hj hP;refine Ev.succ ?_;have h1 : ((j : Int) < (n.length : Int)) = True := eq_true (by omega);simp only [spec_leReady.l0,h1,if_true,Xa,Vd];refine Ev.bind (X5 _ _ (by omega)) ?_;simp only [hP,Bool.false_eq_true,if_false];exact Ev.now _
theorem Zg (w : S41) (done : List Int) (hd : done.length <= 1048576) : Ev (fun k => impl_hasNeeds.f k w.f0 w.f1 w.f2 done) (w.f1.all fun x => decide (x ∈ done)) := by
 unfold impl_hasNeeds.f impl_hasNeeds_1.f impl_allOf_int.f;exact Ev.bind (Jd (fun x _ => Xq done x (by omega))) (Ev.now _)
theorem V1 (l : List S41) (y done : List Int) (hd : done.length <= 1048576) (hy : ∀ x,x ∈ y -> 0 <= x ∧ x < l.length) : Ev (fun k => impl_areLessons_1.f k y l done) (y.all (Xp l done)) := by
 unfold impl_areLessons_1.f impl_allOf_int.f;refine Jd (fun x hx => ?_);obtain ⟨h0,h1⟩ := hy x hx;simp only [eq_true h0,eq_true h1,if_true,Z7];exact Zg (Xy l x.toNat) done hd
def Xo (l : List S41) : List Int -> List Int -> Bool
 | _,[] => true
 | acc,x :: t => Yu x 0 (X7 l) && (!(decide (x ∈ acc)) && Xo l (acc ++ [x]) t)
theorem Zm (l : List S41) : ∀ (a b acc : List Int),Xo l acc (a ++ b) = (Xo l acc a && Xo l (acc ++ a) b)
 | [],b,acc => by simp [Xo]
 | x :: a,b,acc => by
  show (Yu x 0 (X7 l) && (!(decide (x ∈ acc)) && Xo l (acc ++ [x]) (a ++ b))) = ((Yu x 0 (X7 l) && (!(decide (x ∈ acc)) && Xo l (acc ++ [x]) a)) && Xo l (acc ++ x :: a) b);rw [Zm l a b (acc ++ [x]),List.append_assoc,List.singleton_append,Bool.and_assoc,Bool.and_assoc]
theorem X8 (l : List S41) : ∀ (t acc : List Int),Xo l acc t = true ↔ (∀ x,x ∈ t -> 0 <= x ∧ x <= X7 l) ∧ t.Nodup ∧ ∀ x,x ∈ t -> x ∉ acc
 | [],acc => by simp [Xo]
 | x :: t,acc => by
  unfold Xo Yu;rw [Bool.and_eq_true,Bool.and_eq_true,X8 l t (acc ++ [x]),decide_eq_true_eq,Bool.not_eq_true',decide_eq_false_iff_not,List.nodup_cons]
  constructor
  ·rintro ⟨h1,h2,h3,h4,h5⟩;refine ⟨fun z hz => ?_,⟨fun hx => ?_,h4⟩,fun z hz => ?_⟩
   ·rcases List.mem_cons.1 hz with rfl | hz
    ·exact h1
    ·exact h3 z hz
   ·exact h5 x hx (by simp)
   ·rcases List.mem_cons.1 hz with rfl | hz
    ·exact h2
    ·exact fun h => h5 z hz (by simp [h])
  ·rintro ⟨h1,⟨h2,h3⟩,h4⟩;refine ⟨h1 x (List.mem_cons_self ..),h4 x (List.mem_cons_self ..),fun z hz => h1 z (List.mem_cons_of_mem _ hz),h3,fun z hz h => ?_⟩;rcases List.mem_append.1 h with h | h
   ·exact h4 z (List.mem_cons_of_mem _ hz) h
   ·rw [List.mem_singleton] at h;subst h;exact h2 hz
theorem Vm (l : List S41) (t : List Int) : Xo l [] t = (t.all (fun x => decide (0 <= x ∧ x <= X7 l)) && decide t.Nodup) := by
 rw [Bool.eq_iff_iff,X8,Bool.and_eq_true,List.all_eq_true,decide_eq_true_eq]
 constructor
 ·rintro ⟨h1,h2,_⟩;exact ⟨fun x hx => decide_eq_true (h1 x hx),h2⟩
 ·rintro ⟨h1,h2⟩;exact ⟨fun x hx => of_decide_eq_true (h1 x hx),h2,fun x _ h => nomatch h⟩
theorem J3 (l : List S41) (ls : List (List Int)) (n : Nat) (y : List Int) (r : Bool) (hy : y.length <= 1048576) : ∀ d i (acc : List Int),i + d = y.length -> acc.length + d <= 1048576 -> Ev (fun k => spec_leFair.l0 k l ls (acc ++ y.drop i) ls (ls.length : Int) (wrap64 ((n : Int) + 1))) r -> Ev (fun k => spec_leFair.l1 k l ls acc ls (ls.length : Int) (n : Int) y (y.length : Int) (i : Int)) (if Xo l acc (y.drop i) then r else false) := by
 intro d
 induction d with
 | zero =>
  intro i acc hi ha hc;refine Ev.succ ?_;have h1 : ((i : Int) < (y.length : Int)) = False := eq_false (by omega);rw [List.drop_of_length_le (by omega),List.append_nil] at hc;rw [List.drop_of_length_le (by omega)];simp only [spec_leFair.l1,h1,if_false,Xo,if_true];exact hc
 | succ d ih =>
  intro i acc hi ha hc;refine Ev.succ ?_;have hlt : i < y.length := by omega
  have h1 : ((i : Int) < (y.length : Int)) = True := eq_true (by omega);have hg : y.getD i 0 = y[i] := by rw [List.getD_eq_getElem?_getD,List.getElem?_eq_getElem hlt];rfl
  have h2 : (acc.length < 17592186044416) = True := eq_true (by omega);have e : Xo l acc (y.drop i) = (Yu y[i] 0 (X7 l) && (!(decide (y[i] ∈ acc)) && Xo l (acc ++ [y[i]]) (y.drop (i + 1)))) := by rw [List.drop_eq_getElem_cons hlt];rfl
  rw [e];simp only [spec_leFair.l1,h1,if_true,Xa,Vd,hg,X3,Option.bind_some,h2,Xb (show i < 4611686018427387904 by omega)];change Ev (fun k => if Yu y[i] 0 (X7 l) = true then _ else _) _;cases Yu y[i] 0 (X7 l) with
  | false =>
   simp only [Bool.false_eq_true,if_false,Bool.false_and];exact Ev.now _
  | true =>
   simp only [if_true,Bool.true_and];refine Ev.bind (X5 _ _ (by omega)) ?_;cases decide (y[i] ∈ acc) with
   | true =>
    simp only [if_true,Bool.not_true,Bool.false_and,Bool.false_eq_true,if_false];exact Ev.now _
   | false =>
    simp only [Bool.false_eq_true,if_false,Bool.not_false,Bool.true_and];refine ih (i + 1) (acc ++ [y[i]]) (by omega) (by rw [List.length_append];simp;omega) ?_;rw [List.append_assoc,List.singleton_append,<- List.drop_eq_getElem_cons hlt];exact hc
theorem Jw (l : List S41) (ls : List (List Int)) (hs : ls.flatten.length <= 1048576) (hl : ls.length <= 1048576) : ∀ d n,n + d = ls.length -> Ev (fun k => spec_leFair.l0 k l ls (ls.take n).flatten ls (ls.length : Int) (n : Int)) (if Xo l (ls.take n).flatten (ls.drop n).flatten then decide (ls.length <= 16) else false) := by
 intro d
 induction d with
 | zero =>
  intro n hn;refine Ev.succ ?_;have h1 : ((n : Int) < (ls.length : Int)) = False := eq_false (by omega);rw [List.drop_of_length_le (by omega)];simp only [spec_leFair.l0,h1,if_false,List.flatten_nil,Xo,if_true];refine Ev.eq (Ev.now _) ?_;rw [decide_eq_decide];omega
 | succ d ih =>
  intro n hn;refine Ev.succ ?_;have hlt : n < ls.length := by omega
  have h1 : ((n : Int) < (ls.length : Int)) = True := eq_true (by omega);have hy := Ye (List.getElem_mem hlt);have ht : (ls.take (n + 1)).flatten.length <= ls.flatten.length := Xz ls (n + 1);rw [Xn ls n hlt,List.length_append] at ht;simp only [spec_leFair.l0,h1,if_true,Xa,Zl,Z5 ls n hlt];have h2 := ih (n + 1) (by omega);rw [Xn ls n hlt] at h2;have h3 := J3 l ls n ls[n] _ (by omega) ls[n].length 0 (ls.take n).flatten (by omega) (by omega) (by rw [List.drop_zero,Xb (show n < 4611686018427387904 by omega)];exact h2);rw [List.drop_zero] at h3;refine Ev.eq h3 ?_;rw [V0 ls n hlt,Zm];cases Xo l (ls.take n).flatten ls[n] <;> simp
def V4 (l : List S41) (ls : List (List Int)) : Bool := Xo l [] ls.flatten && decide (ls.length <= 16)
theorem Uf (l : List S41) (ls : List (List Int)) (hs : ls.flatten.length <= 1048576) (hl : ls.length <= 1048576) : Ev (fun k => spec_leFair.f k l ls) (V4 l ls) := by
 unfold spec_leFair.f V4;have := Jw l ls hs hl ls.length 0 (by omega);refine Ev.eq this ?_;rw [List.take_zero,List.drop_zero,List.flatten_nil];cases Xo l [] ls.flatten <;> simp
def Uz (l : List S41) : List Int -> Nat -> List (List Int) -> Int × Int
 | _,_,[] => (-1,-1)
 | done,n,y :: t => match y.find? (fun x => !Xp l done x) with
  | some x => ((n : Int),x)
  | none => Uz l (done ++ y) (n + 1) t
theorem Uc (l : List S41) (ls : List (List Int)) (done y : List Int) (n : Nat) (r : Int × Int) (hz : Zd l) (hd : done.length + y.length <= 1048576) (hy : ∀ x,x ∈ y -> 0 <= x ∧ x < l.length) (hc : Ev (fun k => spec_leUntaught.l0 k l (done ++ y) ls (ls.length : Int) (wrap64 ((n : Int) + 1))) r) : ∀ d i,i + d = y.length -> Ev (fun k => spec_leUntaught.l1 k l done (n : Int) y ls (ls.length : Int) (n : Int) y (y.length : Int) (i : Int)) (match (y.drop i).find? (fun x => !Xp l done x) with | some x => ((n : Int),x) | none => r) := by
 intro d
 induction d with
 | zero =>
  intro i hi;refine Ev.succ ?_;have h1 : ((i : Int) < (y.length : Int)) = False := eq_false (by omega);have h2 : (done.length + y.length < 17592186044416) = True := eq_true (by omega);rw [List.drop_of_length_le (by omega)];simp only [spec_leUntaught.l1,h1,if_false,h2,if_true,List.find?_nil];exact hc
 | succ d ih =>
  intro i hi;refine Ev.succ ?_;have hlt : i < y.length := by omega
  have h1 : ((i : Int) < (y.length : Int)) = True := eq_true (by omega);have hg : y.getD i 0 = y[i] := by rw [List.getD_eq_getElem?_getD,List.getElem?_eq_getElem hlt];rfl
  have hb := hy y[i] (List.getElem_mem hlt);rw [List.drop_eq_getElem_cons hlt,List.find?_cons];simp only [spec_leUntaught.l1,h1,if_true,Xa,Vd,hg,Xb (show i < 4611686018427387904 by omega)];refine Ev.bind (Ua l done y[i] hz (by omega) hb.1 hb.2) ?_;cases Xp l done y[i] with
  | true =>
   simp only [if_true,Bool.not_true];exact ih (i + 1) (by omega)
  | false =>
   simp only [Bool.false_eq_true,if_false,Bool.not_false];exact Ev.now _
theorem Ub (l : List S41) (ls : List (List Int)) (hz : Zd l) (hs : ls.flatten.length <= 1048576) (hl : ls.length <= 1048576) (hy : ∀ x,x ∈ ls.flatten -> 0 <= x ∧ x < l.length) : ∀ d n,n + d = ls.length -> Ev (fun k => spec_leUntaught.l0 k l (ls.take n).flatten ls (ls.length : Int) (n : Int)) (Uz l (ls.take n).flatten n (ls.drop n)) := by
 intro d
 induction d with
 | zero =>
  intro n hn;refine Ev.succ ?_;have h1 : ((n : Int) < (ls.length : Int)) = False := eq_false (by omega);rw [List.drop_of_length_le (by omega)];simp only [spec_leUntaught.l0,h1,if_false,Uz];exact Ev.now _
 | succ d ih =>
  intro n hn;refine Ev.succ ?_;have hlt : n < ls.length := by omega
  have h1 : ((n : Int) < (ls.length : Int)) = True := eq_true (by omega);have ht : (ls.take (n + 1)).flatten.length <= ls.flatten.length := Xz ls (n + 1);rw [Xn ls n hlt,List.length_append] at ht;simp only [spec_leUntaught.l0,h1,if_true,Xa,Zl,Z5 ls n hlt];have h2 := ih (n + 1) (by omega);rw [Xn ls n hlt] at h2;have h3 := Uc l ls (ls.take n).flatten ls[n] n _ hz (by omega) (fun x hx => hy x (List.mem_flatten.2 ⟨_,List.getElem_mem hlt,hx⟩)) (by rw [Xb (show n < 4611686018427387904 by omega)];exact h2) ls[n].length 0 (by omega);rw [List.drop_zero] at h3;rw [List.drop_eq_getElem_cons hlt];exact h3
theorem Zp (l : List S41) (ls : List (List Int)) (hz : Zd l) (hs : ls.flatten.length <= 1048576) (hl : ls.length <= 1048576) (hy : ∀ x,x ∈ ls.flatten -> 0 <= x ∧ x < l.length) : Ev (fun k => spec_leUntaught.f k l ls) (Uz l [] 0 ls) := by
 unfold spec_leUntaught.f;have := Ub l ls hz hs hl hy ls.length 0 (by omega)
 rwa [List.take_zero,List.drop_zero,List.flatten_nil] at this
def X6 (l : List S41) : List Int -> List (List Int) -> Bool
 | _,[] => true
 | done,y :: t => decide (y.length ≠ 0) && (y.all (Xp l done) && X6 l (done ++ y) t)
theorem Gt (y : List Int) (p : Int -> Bool) : (y.find? (fun x => !p x) = none) ↔ y.all p = true := by
 rw [List.find?_eq_none,List.all_eq_true];simp
theorem U6 (l : List S41) : ∀ (ls : List (List Int)) (done : List Int) (n : Nat),X6 l done ls = (ls.all (fun y => decide (y.length ≠ 0)) && decide ((Uz l done n ls).1 < 0))
 | [],done,n => by simp [X6,Uz]
 | y :: t,done,n => by
  unfold X6 Uz;rw [List.all_cons,U6 l t (done ++ y) (n + 1)];cases hf : y.find? (fun x => !Xp l done x) with
  | none =>
   rw [(Gt y (Xp l done)).1 hf,Bool.true_and,Bool.and_assoc]
  | some x =>
   have : y.all (Xp l done) = false := by
    rw [<- Bool.not_eq_true];intro h;rw [(Gt y (Xp l done)).2 h] at hf;cases hf
   rw [this,Bool.false_and,Bool.and_false];have h2 : ¬ ((n : Int) < 0) := by omega
   simp [h2]
def X2 (l : List S41) (ls : List (List Int)) : Bool := decide (ls.flatten.length = l.length) && (Xo l [] ls.flatten && X6 l [] ls)
theorem Te (l : List S41) (ls : List (List Int)) (hl0 : l.length <= 1048576) (hz : Zd l) (hs : ls.flatten.length <= 1048576) (hl : ls.length <= 1048576) (hy : ∀ x,x ∈ ls.flatten -> 0 <= x ∧ x < l.length) : ∀ d n,n + d = ls.length -> Ev (fun k => spec_leAre.l0 k l ls ((ls.take n).flatten.length : Int) ls (ls.length : Int) (n : Int)) ((ls.drop n).all (fun y => decide (y.length ≠ 0)) && (decide (ls.flatten.length = l.length) && decide ((Uz l [] 0 ls).1 < 0))) := by
 intro d
 induction d with
 | zero =>
  intro n hn;refine Ev.succ ?_;have h1 : ((n : Int) < (ls.length : Int)) = False := eq_false (by omega);rw [List.drop_of_length_le (by omega),List.take_of_length_le (by omega)];simp only [spec_leAre.l0,h1,if_false,List.all_nil,Bool.true_and];refine Ev.bind (Zp l ls hz hs hl hy) ?_;by_cases h2 : ls.flatten.length = l.length
  ·simp only [h2,if_true,decide_true,Bool.true_and];exact Ev.now _
  ·have h3 : ((ls.flatten.length : Int) = (l.length : Int)) = False := eq_false (by omega);simp only [h3,h2,if_false,decide_false,Bool.false_and];exact Ev.now _
 | succ d ih =>
  intro n hn;refine Ev.succ ?_;have hlt : n < ls.length := by omega
  have h1 : ((n : Int) < (ls.length : Int)) = True := eq_true (by omega);have hle := Ye (List.getElem_mem hlt);have ht := Xz ls n;rw [List.drop_eq_getElem_cons hlt,List.all_cons];have e : wrap64 (((ls.take n).flatten.length : Int) + (ls[n].length : Int)) = ((ls.take (n + 1)).flatten.length : Int) := by
   rw [Xi (by omega) (by omega),Xn ls n hlt,List.length_append];omega
  by_cases h2 : ls[n].length = 0
  ·have h3 : ((ls[n].length : Int) = 0) = True := eq_true (by omega);simp only [spec_leAre.l0,h1,if_true,Xa,Zl,Z5 ls n hlt,h3,h2,ne_eq,not_true_eq_false,decide_false,Bool.false_and];exact Ev.now _
  ·have h3 : ((ls[n].length : Int) = 0) = False := eq_false (by omega);simp only [spec_leAre.l0,h1,if_true,Xa,Zl,Z5 ls n hlt,h3,if_false,e,Xb (show n < 4611686018427387904 by omega),ne_eq,h2,not_false_eq_true,decide_true,Bool.true_and];exact ih (n + 1) (by omega)
theorem Zk {l : List S41} {t : List Int} (hl0 : l.length <= 1048576) (h : Xo l [] t = true) : ∀ x,x ∈ t -> 0 <= x ∧ x < l.length := by
 intro x hx;have := ((X8 l t []).1 h).1 x hx;rw [Je l hl0] at this;omega
theorem Zy (l : List S41) (ls : List (List Int)) (hl0 : l.length <= 1048576) (hz : Zd l) (hs : ls.flatten.length <= 1048576) (hl : ls.length <= 1048576) : Ev (fun k => spec_leAre.f k l ls) (decide (ls.length <= 16) && X2 l ls) := by
 unfold spec_leAre.f X2;refine Ev.bind (Uf l ls hs hl) ?_;unfold V4;rw [U6 l ls [] 0];cases h1 : Xo l [] ls.flatten with
 | false =>
  simp only [Bool.false_and,Bool.and_false,Bool.false_eq_true,if_false];exact Ev.now _
 | true =>
  cases decide (ls.length <= 16) with
  | false =>
   simp only [Bool.false_and,Bool.and_false,Bool.false_eq_true,if_false];exact Ev.now _
  | true =>
   simp only [Bool.true_and,if_true];refine Ev.eq (Te l ls hl0 hz hs hl (Zk hl0 h1) ls.length 0 (by omega)) ?_;rw [List.drop_zero];cases ls.all (fun y => decide (y.length ≠ 0)) <;> cases decide (ls.flatten.length = l.length) <;> rfl
theorem Ud (l : List S41) (ls : List (List Int)) (hs : ls.flatten.length <= 1048576) (hl : ls.length <= 1048576) (hy : ∀ x,x ∈ ls.flatten -> 0 <= x ∧ x < l.length) : ∀ d n,n + d = ls.length -> Ev (fun k => impl_areLessons.l0 k ls ls (ls.length : Int) (n : Int) l) (X6 l (ls.take n).flatten (ls.drop n)) := by
 intro d
 induction d with
 | zero =>
  intro n hn;refine Ev.succ ?_;have h1 : ((n : Int) < (ls.length : Int)) = False := eq_false (by omega);rw [List.drop_of_length_le (by omega)];simp only [impl_areLessons.l0,h1,if_false,X6];exact Ev.now _
 | succ d ih =>
  intro n hn;refine Ev.succ ?_;have hlt : n < ls.length := by omega
  have h1 : ((n : Int) < (ls.length : Int)) = True := eq_true (by omega);have h2 : ((n : Int) <= (ls.length : Int)) = True := eq_true (by omega);have ht := Xz ls n;simp only [impl_areLessons.l0,h1,h2,if_true,Xa,Zl,Z5 ls n hlt,Int.toNat_natCast,Xb (show n < 4611686018427387904 by omega)];refine Ev.bind (Y2 (ls.take n) (by omega) (by rw [List.length_take];omega)) ?_;have e : X6 l (ls.take n).flatten (ls.drop n) = (decide (ls[n].length ≠ 0) && (ls[n].all (Xp l (ls.take n).flatten) && X6 l ((ls.take n).flatten ++ ls[n]) (ls.drop (n + 1)))) := by rw [List.drop_eq_getElem_cons hlt];rfl
  rw [e];by_cases h3 : ls[n].length = 0
  ·have h4 : ((ls[n].length : Int) = 0) = True := eq_true (by omega);simp only [h4,if_true,h3,ne_eq,not_true_eq_false,decide_false,Bool.false_and];exact Ev.now _
  ·have h4 : ((ls[n].length : Int) = 0) = False := eq_false (by omega);simp only [h4,if_false,h3,ne_eq,not_false_eq_true,decide_true,Bool.true_and];refine Ev.bind (V1 l ls[n] (ls.take n).flatten (by omega) (fun x hx => hy x (List.mem_flatten.2 ⟨_,List.getElem_mem hlt,hx⟩))) ?_;cases ls[n].all (Xp l (ls.take n).flatten) with
   | true =>
    simp only [if_true,Bool.true_and];rw [<- Xn ls n hlt];exact ih (n + 1) (by omega)
   | false =>
    simp only [Bool.false_eq_true,if_false,Bool.false_and];exact Ev.now _
theorem Y1 (l : List S41) (ls : List (List Int)) (hl0 : l.length <= 1048576) (hs : ls.flatten.length <= 1048576) (hl : ls.length <= 1048576) : Ev (fun k => impl_areLessons.f k l ls) (X2 l ls) := by
 unfold impl_areLessons.f X2;refine Ev.bind (Y2 ls hs hl) ?_;by_cases h1 : ls.flatten.length = l.length
 ·have h2 : ((ls.flatten.length : Int) = (l.length : Int)) = True := eq_true (by omega);simp only [h2,h1,if_true,decide_true,Bool.true_and,impl_allWithin.f,Option.bind_some];have ho := Vm l ls.flatten;change Ev (fun k => if (ls.flatten.all fun x => decide (0 <= x ∧ x <= X7 l)) = true then _ else _) _;cases h3 : (ls.flatten.all fun x => decide (0 <= x ∧ x <= X7 l)) with
  | false =>
   rw [h3,Bool.false_and] at ho;rw [ho];simp only [Bool.false_eq_true,if_false,Bool.false_and];refine Ev.succ ?_;simp only [impl_areLessons.j0,if_true];exact Ev.now _
  | true =>
   rw [h3,Bool.true_and] at ho;simp only [if_true];obtain ⟨t,ht,hd⟩ := Zc ls.flatten (by omega);simp only [ht,Option.bind_some];refine Ev.succ ?_;by_cases h4 : ls.flatten.Nodup
   ·have h5 : (((t.length : Int)) != ((ls.flatten.length : Int))) = false := by have := hd.2 h4;simp [this]
    rw [decide_eq_true h4] at ho;rw [ho];rw [h1] at h5;simp only [impl_areLessons.j0,h5,Bool.false_eq_true,if_false,Bool.true_and];exact Ud l ls hs hl (Zk hl0 ho) ls.length 0 (by omega)
   ·have h5 : (((t.length : Int)) != ((ls.flatten.length : Int))) = true := by
     have : t.length ≠ ls.flatten.length := fun e => h4 (hd.1 e)
     rw [bne_iff_ne];intro e;exact this (by omega)
    rw [decide_eq_false h4] at ho;rw [ho];rw [h1] at h5;simp only [impl_areLessons.j0,h5,if_true,Bool.false_and];exact Ev.now _
 ·have h2 : ((ls.flatten.length : Int) = (l.length : Int)) = False := eq_false (by omega);simp only [h2,h1,if_false,decide_false,Bool.false_and];refine Ev.succ ?_;simp only [impl_areLessons.j0,if_true];exact Ev.now _
def Yh (l : List S41) (i : Int) : Int := (Xy l i.toNat).f2
def Xs (l : List S41) (i : Int) : List Int := (Xy l i.toNat).f1
theorem Jy (l : List S41) (D : List Int) (i : Int) : Xp l D i = Tr (Xs l) D i := rfl
theorem Ym {l : List S41} (h : Xf l = true) : ∀ i : Int,0 <= i -> i < l.length -> ∀ k,k ∈ Xs l i -> 0 <= k ∧ k < l.length := by
 intro i h0 h1 k hk;unfold Xf at h;rw [Bool.and_eq_true,List.all_eq_true,decide_eq_true_eq] at h;have hl := h.2;have hg := h.1 i.toNat (List.mem_range.2 (by omega));unfold Xm at hg;rw [Bool.and_eq_true,Bool.and_eq_true] at hg;have hr := hg.2.1;rw [Uq,Bool.and_eq_true,List.all_eq_true] at hr;have := of_decide_eq_true (hr.1 k hk);rw [Je l (by omega)] at this;omega
theorem Jo (l : List S41) (D L : List Int) (hz : Zd l) (hl : l.length <= 1048576) (hD : D.length <= 1048576) (hL : L.length <= 1048576) : ∀ d j (b : Int),j + d = l.length -> (b = -1 ∨ 0 <= b ∧ b < l.length) -> Ev (fun k => spec_leBest.l0 k l D L b l (l.length : Int) (j : Int)) (Yd (Yh l) (Xl (Xs l) D L) d j b) := by
 intro d
 induction d with
 | zero =>
  intro j b hj hb;refine Ev.succ ?_;have h1 : ((j : Int) < (l.length : Int)) = False := eq_false (by omega);simp only [spec_leBest.l0,h1,if_false,Yd];exact Ev.now _
 | succ d ih =>
  intro j b hj hb;refine Ev.succ ?_;have hlt : j < l.length := by omega
  have h1 : ((j : Int) < (l.length : Int)) = True := eq_true (by omega);have e4 : wrap64 ((j : Int) + 1) = ((j + 1 : Nat) : Int) := Xb (by omega);have hu : Yh l (j : Int) = (Xy l j).f2 := by unfold Yh;rw [Int.toNat_natCast]
  have hp : Xl (Xs l) D L (j : Int) = (!(decide ((j : Int) ∈ D)) && (!(decide ((j : Int) ∈ L)) && Tr (Xs l) D (j : Int))) := rfl;unfold Yd;rw [hp];simp only [spec_leBest.l0,h1,if_true,Xa,e4];refine Ev.bind (X5 D (j : Int) (by omega)) ?_;cases decide ((j : Int) ∈ D) with
  | true =>
   simp only [if_true,Bool.not_true,Bool.false_and,Bool.false_eq_true,if_false];exact ih (j + 1) b (by omega) hb
  | false =>
   simp only [Bool.false_eq_true,if_false,Bool.not_false,Bool.true_and];refine Ev.bind (X5 L (j : Int) (by omega)) ?_;cases decide ((j : Int) ∈ L) with
   | true =>
    simp only [if_true,Bool.not_true,Bool.false_and,Bool.false_eq_true,if_false];exact ih (j + 1) b (by omega) hb
   | false =>
    simp only [Bool.false_eq_true,if_false,Bool.not_false,Bool.true_and];refine Ev.bind (Ua l D (j : Int) hz (by omega) (by omega) (by omega)) ?_;rw [Jy];cases Tr (Xs l) D (j : Int) with
    | false =>
     simp only [Bool.false_eq_true,if_false,Bool.false_and];exact ih (j + 1) b (by omega) hb
    | true =>
     simp only [if_true,Bool.true_and];have key := fun b' (hb' : b' = -1 ∨ 0 <= b' ∧ b' < (l.length : Int)) => ih (j + 1) b' (by omega) hb'
     by_cases h2 : b < 0
     ·simp only [eq_true h2,if_true,decide_true,Bool.true_or];exact key (j : Int) (Or.inr ⟨by omega,by omega⟩)
     ·have hb2 : 0 <= b ∧ b < (l.length : Int) := by omega
      have hub : Yh l b = (Xy l b.toNat).f2 := rfl;simp only [eq_false h2,if_false,decide_false,Bool.false_or,eq_true hb2.1,eq_true hb2.2,if_true,T5,Z7,Int.toNat_natCast,hu,hub];by_cases h3 : (Xy l j).f2 > (Xy l b.toNat).f2
      ·simp only [eq_true h3,if_true,decide_true];exact key (j : Int) (Or.inr ⟨by omega,by omega⟩)
      ·simp only [eq_false h3,if_false,decide_false,Bool.false_eq_true];exact key b hb
theorem Vb (l : List S41) (D L : List Int) (hz : Zd l) (hl : l.length <= 1048576) (hD : D.length <= 1048576) (hL : L.length <= 1048576) : Ev (fun k => spec_leBest.f k l D L) (X0 (Yh l) (Xl (Xs l) D L) l.length) := by
 unfold spec_leBest.f X0;exact Jo l D L hz hl hD hL l.length 0 (-1) (by omega) (Or.inl rfl)
theorem G8 (l : List S41) (hz : Zd l) (hl : l.length <= 1048576) : ∀ f D,Good (Xs l) l.length D -> l.length <= D.length + f -> Ev (fun k => spec_leOrder.l0 k l D) (Yn (Yh l) (Xs l) l.length f D) := by
 intro f
 induction f with
 | zero =>
  intro D hg hf;have hD := Xh hg.nodup hg.range;refine Ev.succ ?_;simp only [spec_leOrder.l0];refine Ev.bind (Vb l D [] hz hl (by omega) (by simp)) ?_;have h1 : X0 (Yh l) (Xl (Xs l) D []) l.length < 0 := by
   rcases Y9 (Yh l) (Xl (Xs l) D []) l.length with ⟨h1,_⟩ | ⟨h0,h1,h2⟩
   ·omega
   ·exact absurd (X4 hg.nodup hg.range (by omega) _ h0 h1) ((Yr _ D [] _).1 h2).1
  simp only [eq_true h1,if_true,Yn];exact Ev.now _
 | succ f ih =>
  intro D hg hf;have hD := Xh hg.nodup hg.range;refine Ev.succ ?_;unfold Yn;simp only [spec_leOrder.l0];refine Ev.bind (Vb l D [] hz hl (by omega) (by simp)) ?_;by_cases h1 : X0 (Yh l) (Xl (Xs l) D []) l.length < 0
  ·simp only [eq_true h1,if_true];exact Ev.now _
  ·simp only [eq_false h1,if_false,eq_true (show D.length < 17592186044416 by omega),if_true];exact ih _ (Va hg h1) (by rw [List.length_append];simp;omega)
def Vu (l : List S41) : List Int := Yn (Yh l) (Xs l) l.length l.length []
theorem Zu (l : List S41) (hz : Zd l) (hl : l.length <= 1048576) : Ev (fun k => spec_leOrder.f k l) (Vu l) := by
 unfold spec_leOrder.f Vu;exact G8 l hz hl l.length [] (Zi _ _) (by simp)
theorem Gw (l : List S41) : Good (Xs l) l.length (Vu l) ∧ U2 (Xs l) l.length (Vu l) := Vj _ _ _ _ [] (Zi _ _) (by simp)
def hd (c : List Int) : Int := c.getD 0 0
theorem Yt {n m : List Int} (hn : n.Pairwise (· < ·)) (hm : m.Pairwise (· < ·)) (h : ∀ x,x ∈ n ↔ x ∈ m) : n = m := by
 have nd : ∀ {l : List Int},l.Pairwise (· < ·) -> l.Nodup := fun {l} hl => List.Pairwise.imp (S := fun a b : Int => a ≠ b) (fun {a b} (hlt : a < b) e => by omega) hl
 have hp := (List.perm_ext_iff_of_nodup (nd hn) (nd hm)).2 h;exact List.Perm.eq_of_pairwise (le := fun a b : Int => a < b) (fun a b _ _ h1 h2 => by omega) hn hm hp
theorem Tw (l : List Int) (x : Int) (hl : l.length <= 4000000) (hu : l.Pairwise (· < ·)) : ∀ d j,j + d = l.length -> (∀ y,y ∈ l.take j -> y < x) -> ∃ r : List Int,Ev (fun k => spec_l1Put.l0 k l x (j : Int)) r ∧ r.Pairwise (· < ·) ∧ (∀ y,y ∈ r ↔ y ∈ l ∨ y = x) ∧ r.length <= l.length + 1 := by
 have ins : ∀ j,j <= l.length -> (∀ y,y ∈ l.take j -> y < x) -> (∀ y,y ∈ l.drop j -> x < y) -> (l.take j ++ [x] ++ l.drop j).Pairwise (· < ·) ∧ (∀ y,y ∈ l.take j ++ [x] ++ l.drop j ↔ y ∈ l ∨ y = x) ∧ (l.take j ++ [x] ++ l.drop j).length <= l.length + 1 := by
  intro j hj hb ha;have e : ∀ y,y ∈ l ↔ y ∈ l.take j ∨ y ∈ l.drop j := fun y => by rw [<- List.mem_append,List.take_append_drop]
  refine ⟨?_,fun y => ?_,?_⟩
  ·rw [List.append_assoc,List.pairwise_append,List.singleton_append,List.pairwise_cons];refine ⟨hu.sublist (List.take_sublist _ _),⟨ha,hu.sublist (List.drop_sublist _ _)⟩,fun a h1 b h2 => ?_⟩;have h3 := hb a h1;rcases List.mem_cons.1 h2 with rfl | h2
   ·exact h3
   ·have := ha b h2;omega
  ·rw [e];simp only [List.mem_append,List.mem_singleton]
   constructor
   ·rintro ((h | h) | h)
    ·exact Or.inl (Or.inl h)
    ·exact Or.inr h
    ·exact Or.inl (Or.inr h)
   ·rintro ((h | h) | h)
    ·exact Or.inl (Or.inl h)
    ·exact Or.inr h
    ·exact Or.inl (Or.inr h)
  ·simp only [List.length_append,List.length_take,List.length_drop,List.length_singleton];omega
 intro d
 induction d with
 | zero =>
  intro j hj hb;obtain ⟨i0,i1,i2⟩ := ins j (by omega) hb (by rw [List.drop_of_length_le (by omega)];intro y hy;cases hy);refine ⟨l.take j ++ [x] ++ l.drop j,Ev.succ ?_,i0,i1,i2⟩;have h1 : ((j : Int) < (l.length : Int)) = False := eq_false (by omega);have h2 : ((j : Int) <= (l.length : Int)) = True := eq_true (by omega);have h3 : (0 + (l.take j).length < 17592186044416) = True := eq_true (by rw [List.length_take];omega);have h4 : ((l.take j).length < 17592186044416) = True := eq_true (by rw [List.length_take];omega);have h5 : ((l.take j ++ [x]).length + (l.drop j).length < 17592186044416) = True := eq_true (by simp only [List.length_append,List.length_take,List.length_drop,List.length_singleton];omega);simp only [spec_l1Put.l0,h1,if_false,Option.bind_some,Xa,if_true,h2,Int.toNat_natCast,List.length_nil,h3,List.nil_append,h4,h5];exact Ev.now _
 | succ d ih =>
  intro j hj hb;have hlt : j < l.length := by omega
  have h1 : ((j : Int) < (l.length : Int)) = True := eq_true (by omega);have h2 : ((j : Int) <= (l.length : Int)) = True := eq_true (by omega);have hg : l.getD j 0 = l[j] := by rw [List.getD_eq_getElem?_getD,List.getElem?_eq_getElem hlt];rfl
  by_cases h6 : l[j] < x
  ·obtain ⟨r,hr,h0,hm,hn⟩ := ih (j + 1) (by omega) (fun y hy => by
    rw [List.take_succ_eq_append_getElem hlt,List.mem_append,List.mem_singleton] at hy;rcases hy with hy | rfl
    ·exact hb y hy
    ·exact h6)
   refine ⟨r,Ev.succ ?_,h0,hm,hn⟩;simp only [spec_l1Put.l0,h1,if_true,Xa,Vd,hg,eq_true h6,Xb (show j < 4611686018427387904 by omega)];exact hr
  ·by_cases h7 : l[j] = x
   ·refine ⟨l,Ev.succ ?_,hu,fun y => ⟨fun h => Or.inl h,fun h => h.elim id (fun e => by rw [e,<- h7];exact List.getElem_mem hlt)⟩,by omega⟩;simp only [spec_l1Put.l0,h1,if_true,Xa,Vd,hg,eq_false h6,if_false,eq_true h7];exact Ev.now _
   ·obtain ⟨i0,i1,i2⟩ := ins j (by omega) hb (fun y hy => by
     rw [List.drop_eq_getElem_cons hlt] at hy;rcases List.mem_cons.1 hy with rfl | hy
     ·omega
     ·have h8 : (l.drop j).Pairwise (· < ·) := hu.sublist (List.drop_sublist _ _);rw [List.drop_eq_getElem_cons hlt,List.pairwise_cons] at h8;have := h8.1 y hy;omega)
    refine ⟨l.take j ++ [x] ++ l.drop j,Ev.succ ?_,i0,i1,i2⟩;have h3 : (0 + (l.take j).length < 17592186044416) = True := eq_true (by rw [List.length_take];omega);have h4 : ((l.take j).length < 17592186044416) = True := eq_true (by rw [List.length_take];omega);have h5 : ((l.take j ++ [x]).length + (l.drop j).length < 17592186044416) = True := eq_true (by simp only [List.length_append,List.length_take,List.length_drop,List.length_singleton];omega);simp only [spec_l1Put.l0,h1,if_true,Xa,Vd,hg,eq_false h6,eq_false h7,if_false,Option.bind_some,h2,Int.toNat_natCast,List.length_nil,h3,List.nil_append,h4,h5];exact Ev.now _
theorem Zz (l : List Int) (x : Int) (hl : l.length <= 4000000) (hu : l.Pairwise (· < ·)) : ∃ r : List Int,Ev (fun k => spec_l1Put.f k l x) r ∧ r.Pairwise (· < ·) ∧ (∀ y,y ∈ r ↔ y ∈ l ∨ y = x) ∧ r.length <= l.length + 1 := by
 unfold spec_l1Put.f;exact Tw l x hl hu l.length 0 (by omega) (by intro y hy;simp at hy)
def Xv (l : List Int) : List Int := l.mergeSort fun x y => decide (x <= y)
theorem Gv (l : List Int) : (Xv l).length = l.length := by simp [Xv]
theorem Xx (l : List Int) : (Xv l).Perm l := List.mergeSort_perm _ _
theorem Zx (l : List Int) (hn : l.Nodup) : (Xv l).Pairwise (· < ·) := by
 have hs : (Xv l).Pairwise (fun x y => decide (x <= y) = true) := List.pairwise_mergeSort (le := fun x y : Int => decide (x <= y)) (by intro a b c;simp;omega) (by intro a b;simp;omega) l;have hn2 : (Xv l).Nodup := (Xx l).nodup_iff.2 hn;have h2 : (Xv l).Pairwise (· ≠ ·) := hn2;refine (hs.and h2).imp ?_;rintro a b ⟨h1,h3⟩;have := of_decide_eq_true h1;omega
theorem Ev.next {α : Type} {g : Nat -> Option α} {r : α} (h : Ev g r) : Ev (fun k => g (k + 1)) r := by
 obtain ⟨K,h⟩ := h;exact ⟨K,fun k hk => h (k + 1) (by omega)⟩
theorem U7 (l : List S41) (hl : l.length <= 1048576) (q : Int -> Bool) : ∀ d (P : Nat -> Int -> Option Bool) (j : Nat) (b : Int),(∀ i : Int,0 <= i -> i < l.length -> Ev (fun k => P k i) (q i)) -> j + d = l.length -> (b = -1 ∨ 0 <= b ∧ b < l.length) -> Ev (fun k => impl_mostUsed.l0 (P k) k l b l (l.length : Int) (j : Int)) (Yd (Yh l) q d j b) := by
 intro d
 induction d with
 | zero =>
  intro P j b hP hj hb;refine Ev.succ ?_;have h1 : ((j : Int) < (l.length : Int)) = False := eq_false (by omega);simp only [impl_mostUsed.l0,h1,if_false,Yd];exact Ev.now _
 | succ d ih =>
  intro P j b hP hj hb;refine Ev.succ ?_;have hlt : j < l.length := by omega
  have h1 : ((j : Int) < (l.length : Int)) = True := eq_true (by omega);have e4 : wrap64 ((j : Int) + 1) = ((j + 1 : Nat) : Int) := Xb (by omega);have hu : Yh l (j : Int) = (Xy l j).f2 := by unfold Yh;rw [Int.toNat_natCast]
  have key := fun b' (hb' : b' = -1 ∨ 0 <= b' ∧ b' < (l.length : Int)) => ih (fun k => P (k + 1)) (j + 1) b' (fun i h0 h1 => Ev.next (hP i h0 h1)) (by omega) hb'
  unfold Yd;simp only [impl_mostUsed.l0,h1,if_true,Xa,e4];refine Ev.bind (Ev.next (hP (j : Int) (by omega) (by omega))) ?_;cases q (j : Int) with
  | false =>
   simp only [Bool.false_eq_true,if_false,Bool.false_and];exact key b hb
  | true =>
   simp only [if_true,Bool.true_and];by_cases h2 : b < 0
   ·simp only [eq_true h2,if_true,decide_true,Bool.true_or];exact key (j : Int) (Or.inr ⟨by omega,by omega⟩)
   ·have hb2 : 0 <= b ∧ b < (l.length : Int) := by omega
    have hub : Yh l b = (Xy l b.toNat).f2 := rfl;simp only [eq_false h2,if_false,decide_false,Bool.false_or,eq_true hb2.1,eq_true hb2.2,if_true,T5,Z7,Int.toNat_natCast,hu,hub];by_cases h3 : (Xy l j).f2 > (Xy l b.toNat).f2
    ·simp only [eq_true h3,if_true,decide_true];exact key (j : Int) (Or.inr ⟨by omega,by omega⟩)
    ·simp only [eq_false h3,if_false,decide_false,Bool.false_eq_true];exact key b hb
theorem Vn (l : List S41) (hl : l.length <= 1048576) (q : Int -> Bool) (P : Nat -> Int -> Option Bool) (hP : ∀ i : Int,0 <= i -> i < l.length -> Ev (fun k => P k i) (q i)) : Ev (fun k => impl_mostUsed.f (P k) k l) (X0 (Yh l) q l.length) := by
 unfold impl_mostUsed.f X0;exact U7 l hl q l.length P 0 (-1) hP (by omega) (Or.inl rfl)
def Zf (l : List S41) (s : Nat) (f : Nat) (D : List Int) : List (List Int) × List Int := Ze (Yh l) (Xs l) l.length s Xv f D
theorem V8 (L : List Int) (h : L.Nodup) : (Xv L).Nodup ∧ (∀ x,x ∈ Xv L ↔ x ∈ L) ∧ (Xv L).length = L.length := ⟨(Xx L).nodup_iff.2 h,fun _ => (Xx L).mem_iff,Gv L⟩
theorem Vl (l : List S41) (s : Nat) (out : List (List Int)) (D : List Int) (r : List (List Int)) (hz : Zd l) (hl : l.length <= 1048576) (hD : D.length <= 1048576) (ho : out.length <= 4000000) :
  ∀ f L now,Pick (Xs l) l.length D L -> L.length + f = s -> now.Pairwise (· < ·) -> (∀ x,x ∈ now ↔ x ∈ L) -> now.length = L.length ->
   (Xr (Yh l) (Xs l) l.length D f L = [] -> r = out) -> (Xr (Yh l) (Xs l) l.length D f L ≠ [] -> Ev (fun k => spec_leLessons.l0 k l (s : Int) (out ++ [Xv (Xr (Yh l) (Xs l) l.length D f L)]) (D ++ Xv (Xr (Yh l) (Xs l) l.length D f L))) r) ->
   Ev (fun k => spec_leLessons.l1 k l (s : Int) out D now) r := by
 intro f;have fin : ∀ (L now : List Int),Pick (Xs l) l.length D L -> now.Pairwise (· < ·) -> (∀ x,x ∈ now ↔ x ∈ L) -> now.length = L.length -> (L = [] -> r = out) -> (L ≠ [] -> Ev (fun k => spec_leLessons.l0 k l (s : Int) (out ++ [Xv L]) (D ++ Xv L)) r) ->
   Ev (fun k => if (now.length : Int) = 0 then some out else if out.length < 5864062014805 then if D.length + now.length < 17592186044416 then spec_leLessons.l0 k l (s : Int) (out ++ [now]) (D ++ now) else none else none) r := by
  intro L now hp hu hm hlen h1 h2;have hL := Xh hp.nodup hp.range;by_cases h3 : L = []
  ·rw [h1 h3];have : now.length = 0 := by rw [hlen,h3];rfl
   simp only [show ((now.length : Int) = 0) = True from eq_true (by omega),if_true];exact Ev.now _
  ·have h4 : 0 < L.length := List.length_pos_iff.2 h3;have e : now = Xv L := Yt hu (Zx L hp.nodup) (fun x => by rw [hm,(Xx L).mem_iff]);simp only [show ((now.length : Int) = 0) = False from eq_false (by omega),if_false,show (out.length < 5864062014805) = True from eq_true (by omega),if_true,show (D.length + now.length < 17592186044416) = True from eq_true (by omega)];rw [e];exact h2 h3
 induction f with
 | zero =>
  intro L now hp hs hu hm hlen h1 h2;refine Ev.succ ?_;simp only [spec_leLessons.l1,show ((now.length : Int) < (s : Int)) = False from eq_false (by omega),if_false];exact fin L now hp hu hm hlen h1 h2
 | succ f ih =>
  intro L now hp hs hu hm hlen h1 h2;refine Ev.succ ?_;have hL := Xh hp.nodup hp.range;have eb : X0 (Yh l) (Xl (Xs l) D now) l.length = X0 (Yh l) (Xl (Xs l) D L) l.length := Vt _ _ _ _ (fun i _ => by
   have : decide ((i : Int) ∈ now) = decide ((i : Int) ∈ L) := decide_eq_decide.2 (hm _);unfold Xl;rw [this])
  unfold Xr at h1 h2;simp only [spec_leLessons.l1,show ((now.length : Int) < (s : Int)) = True from eq_true (by omega),if_true];refine Ev.bind (Vb l D now hz hl hD (by omega)) ?_;rw [eb];by_cases h3 : X0 (Yh l) (Xl (Xs l) D L) l.length < 0
  ·rw [if_pos h3] at h1 h2;simp only [eq_true h3,if_true];exact fin L now hp hu hm hlen h1 h2
  ·rw [if_neg h3] at h1 h2;simp only [eq_false h3,if_false];obtain ⟨y,hy1,hy2,hy3,hy4⟩ := Zz now (X0 (Yh l) (Xl (Xs l) D L) l.length) (by omega) hu;have hp2 := Z9 hp h3;have hm2 : ∀ x,x ∈ y ↔ x ∈ L ++ [X0 (Yh l) (Xl (Xs l) D L) l.length] := fun x => by rw [hy3,List.mem_append,List.mem_singleton,hm]
   have hyn : y.Nodup := List.Pairwise.imp (S := fun a b : Int => a ≠ b) (fun {a b} (hlt : a < b) e => by omega) hy2;refine Ev.bind hy1 ?_;exact ih _ y hp2 (by rw [List.length_append,List.length_singleton];omega) hy2 hm2 (Tk hyn hp2.nodup hm2) h1 h2
theorem Gq (l : List S41) (s : Nat) (hz : Zd l) (hl : l.length <= 1048576) : ∀ f D (out : List (List Int)),Good (Xs l) l.length D -> l.length <= D.length + f -> out.length + f <= 4000000 -> Ev (fun k => spec_leLessons.l0 k l (s : Int) out D) (out ++ (Zf l s f D).1) := by
 intro f
 induction f with
 | zero =>
  intro D out hg hf ho;refine Ev.succ ?_;have hD := Xh hg.nodup hg.range;have e : Zf l s 0 D = ([],D) := rfl;have e2 := Jq (us := Yh l) (f := s) hg (by omega);rw [e];simp only [spec_leLessons.l0];exact Vl l s out D _ hz hl (by omega) (by omega) s [] [] (Zh _ _ _) (by simp) List.Pairwise.nil (by simp) rfl (fun _ => by rw [List.append_nil]) (fun h => absurd e2 h)
 | succ f ih =>
  intro D out hg hf ho;refine Ev.succ ?_;have hD := Xh hg.nodup hg.range;obtain ⟨hp,_,_⟩ := Yx (Yh l) (Xs l) l.length D s [] (Zh _ _ _);simp only [spec_leLessons.l0];refine Vl l s out D _ hz hl (by omega) (by omega) s [] [] (Zh _ _ _) (by simp) List.Pairwise.nil (by simp) rfl ?_ ?_
  ·intro h2;have e : Zf l s (f + 1) D = ([],D) := by unfold Zf Ze;rw [if_pos h2]
   rw [e,List.append_nil]
  ·intro h2;have e : Zf l s (f + 1) D = ((Xv (Xr (Yh l) (Xs l) l.length D s []) :: (Zf l s f (D ++ Xv (Xr (Yh l) (Xs l) l.length D s []))).1),(Zf l s f (D ++ Xv (Xr (Yh l) (Xs l) l.length D s []))).2) := by
    show Ze _ _ _ _ _ _ _ = _;rw [Ze,if_neg h2];rfl
   rw [e];generalize Xr (Yh l) (Xs l) l.length D s [] = P at hp h2;have hP := Xh hp.nodup hp.range;have h3 : 0 < P.length := List.length_pos_iff.2 h2;obtain ⟨b1,b2,b3⟩ := V8 P hp.nodup;have hi := ih (D ++ Xv P) (out ++ [Xv P]) (Vg hg (Ug hp b1 b2)) (by rw [List.length_append,b3];omega) (by rw [List.length_append,List.length_singleton];omega);rw [List.append_assoc] at hi;exact hi
theorem Jt (l : List S41) (s : Nat) : ∀ f D,(Zf l s f D).2 = D ++ (Zf l s f D).1.flatten ∧ (Zf l s f D).1.length <= f := by
 intro f
 induction f with
 | zero => intro D;exact ⟨by show D = D ++ [].flatten;simp,by show ([] : List (List Int)).length <= 0;simp⟩
 | succ f ih =>
  intro D;by_cases h2 : Xr (Yh l) (Xs l) l.length D s [] = []
  ·have e : Zf l s (f + 1) D = ([],D) := by unfold Zf Ze;rw [if_pos h2]
   rw [e];simp
  ·have e : Zf l s (f + 1) D = ((Xv (Xr (Yh l) (Xs l) l.length D s []) :: (Zf l s f (D ++ Xv (Xr (Yh l) (Xs l) l.length D s []))).1),(Zf l s f (D ++ Xv (Xr (Yh l) (Xs l) l.length D s []))).2) := by
    show Ze _ _ _ _ _ _ _ = _;rw [Ze,if_neg h2];rfl
   rw [e];obtain ⟨a,b⟩ := ih (D ++ Xv (Xr (Yh l) (Xs l) l.length D s []));refine ⟨?_,by simp only [List.length_cons];omega⟩;simp only [a,List.flatten_cons,List.append_assoc]
theorem Xd {l : List S41} (h : Xf l = true) : l.length <= 16 ∧ ∀ j,j < l.length -> 0 <= (Xy l j).f2 ∧ (Xy l j).f2 <= 99999 := by
 unfold Xf at h;rw [Bool.and_eq_true,List.all_eq_true,decide_eq_true_eq] at h;refine ⟨h.2,fun j hj => ?_⟩;have := h.1 j (List.mem_range.2 hj);unfold Xm at this;rw [Bool.and_eq_true,Bool.and_eq_true,Bool.and_eq_true,Bool.and_eq_true] at this;exact of_decide_eq_true this.2.2.2.1
def Xe (l : List S41) : List Int -> Int
 | [] => 0
 | i :: r => (Xy l i.toNat).f2 + Xe l r
theorem Za (l : List S41) : ∀ a b : List Int,Xe l (a ++ b) = Xe l a + Xe l b
 | [],b => by simp [Xe]
 | i :: a,b => by
  rw [List.cons_append,Xe,Xe,Za l a b];omega
theorem Yo {l : List S41} (h : Xf l = true) : ∀ a : List Int,(∀ i,i ∈ a -> 0 <= i ∧ i < l.length) -> 0 <= Xe l a ∧ Xe l a <= 99999 * (a.length : Int)
 | [],_ => by simp [Xe]
 | i :: a,hr => by
  obtain ⟨h0,h1⟩ := hr i (List.mem_cons_self ..);obtain ⟨b0,b1⟩ := (Xd h).2 i.toNat (by omega);obtain ⟨c0,c1⟩ := Yo h a (fun j hj => hr j (List.mem_cons_of_mem _ hj));rw [Xe,List.length_cons];omega
def Xk (l : List S41) : Nat -> Nat -> Int
 | 0,_ => 0
 | d + 1,j => (Xy l j).f2 + Xk l d (j + 1)
theorem Yb {l : List S41} (h : Xf l = true) : ∀ d j,j + d = l.length -> 0 <= Xk l d j ∧ Xk l d j <= 99999 * (d : Int)
 | 0,_,_ => by simp [Xk]
 | d + 1,j,hj => by
  obtain ⟨b0,b1⟩ := (Xd h).2 j (by omega);obtain ⟨c0,c1⟩ := Yb h d (j + 1) (by omega);rw [Xk];omega
def LSh (R : List (List Int)) : Prop := R.length <= 19 ∧ ∀ y,y ∈ R -> y.length <= 20
theorem Vy : ∀ R : List (List Int),(∀ y,y ∈ R -> y.length <= 20) -> R.flatten.length <= 20 * R.length
 | [],_ => by simp
 | y :: R,h => by
  have h1 := Vy R (fun z hz => h z (List.mem_cons_of_mem _ hz));have h2 := h y (List.mem_cons_self ..);rw [List.flatten_cons,List.length_append,List.length_cons];omega
theorem LSh.flat {R : List (List Int)} (h : LSh R) : R.flatten.length <= 400 := by
 have := Vy R h.2;have := h.1;omega
theorem LSh.set {R : List (List Int)} (h : LSh R) (i : Nat) {y : List Int} (hy : y.length <= 20) : LSh (R.set i y) :=
 ⟨by rw [List.length_set];exact h.1,fun z hz => by
  rcases List.mem_or_eq_of_mem_set hz with hz | rfl
  ·exact h.2 z hz
  ·exact hy⟩
theorem V6 {n : Nat} {R : List (List Int)} (h : ∀ y,y ∈ R -> y.length <= n) (i : Nat) : (R.getD i []).length <= n := by
 rw [List.getD_eq_getElem?_getD];by_cases hi : i < R.length
 ·rw [List.getElem?_eq_getElem hi];exact h _ (List.getElem_mem hi)
 ·rw [List.getElem?_eq_none (by omega)];exact Nat.zero_le _
theorem J1 {l : List Int} (N : Nat) (hN : N <= 17) (a s : Int) : ∀ (d : Nat) (R : List (List Int)),R.length + d = max N R.length -> LSh R -> ∃ Q,Ev (fun k => spec_l1Cur_lessonsFor.l0 k R (N : Int) l a s) (Q,a,s) ∧ LSh Q := by
 intro d
 induction d with
 | zero =>
  intro R hd hR;refine ⟨R,Ev.succ ?_,hR⟩;simp only [spec_l1Cur_lessonsFor.l0,show ((R.length : Int) < (N : Int)) = False from eq_false (by omega),if_false];exact Ev.now _
 | succ d ih =>
  intro R hd hR;obtain ⟨Q,hQ,hS⟩ := ih (R ++ [[]]) (by rw [List.length_append,List.length_singleton];omega) ⟨by rw [List.length_append,List.length_singleton];omega,fun y hy => by
   rcases List.mem_append.1 hy with hy | hy
   ·exact hR.2 y hy
   ·rw [List.mem_singleton.1 hy];exact Nat.zero_le _⟩
  refine ⟨Q,Ev.succ ?_,hS⟩;have := hR.1;simp only [spec_l1Cur_lessonsFor.l0,show ((R.length : Int) < (N : Int)) = True from eq_true (by omega),if_true,show (R.length < 5864062014805) = True from eq_true (by omega)];exact hQ
theorem Yq {l : List Int} (hu : U8 l) (R : List (List Int)) (hR : LSh R) (a s : Int) (h0 : 0 <= a) (h1 : a <= 999999999900) : ∃ Q a' s',Ev (fun k => spec_l1Cur_lessonsFor.j1 k R l a s) (Q,a',s') ∧ LSh Q ∧ a <= a' ∧ a' <= a + 4 := by
 obtain ⟨b,a1,s1,e1,_,p1,q1⟩ := Tb hu s h0 (by omega) 40 (by decide) (by decide);cases b with
 | false =>
  refine ⟨R,a1,s1,Ev.succ ?_,hR,p1,by omega⟩;simp only [spec_l1Cur_lessonsFor.j1,e1,Option.bind_some,Bool.false_eq_true,if_false];exact Ev.now _
 | true =>
  obtain ⟨y,a2,s2,e2,⟨y0,y1⟩,p2,q2⟩ := Xw hu s1 (a := a1) (by omega) (by omega) 2 (by decide) (by decide);obtain ⟨N,hN⟩ : ∃ N : Nat,16 + y = (N : Int) := ⟨(16 + y).toNat,by omega⟩;obtain ⟨Q,hQ,hS⟩ := J1 (l := l) N (by omega) a2 s2 (max N R.length - R.length) R (by omega) hR;refine ⟨Q,a2,s2,Ev.succ ?_,hS,by omega,by omega⟩;simp only [spec_l1Cur_lessonsFor.j1,e1,Option.bind_some,if_true,e2];rw [Xi (by omega) (by omega),hN];exact hQ
theorem Ue {l : List Int} (hu : U8 l) (L : List S41) (hL : L.length <= 17) (R : List (List Int)) (hR1 : R.length <= 17) (hR2 : ∀ y,y ∈ R -> y.length <= 19) (a s : Int) (h0 : 0 <= a) (h1 : a <= 999999999800) : ∃ Q a' s',Ev (fun k => spec_l1Cur_lessonsFor.j0 k L R l a s) (Q,a',s') ∧ LSh Q ∧ a <= a' ∧ a' <= a + 20 := by
 have hR : LSh R := ⟨by omega,fun y hy => by have := hR2 y hy;omega⟩;by_cases hp : (R.length : Int) > 0
 ·obtain ⟨i,a1,s1,e1,⟨i0,i1⟩,p1,q1⟩ := Xw hu s h0 (by omega) (R.length : Int) (by omega) (by omega);obtain ⟨m,a2,s2,e2,_,p2,q2⟩ := Xw hu s1 (a := a1) (by omega) (by omega) 8 (by decide) (by decide);obtain ⟨n,rfl⟩ : ∃ n : Nat,i = (n : Int) := ⟨i.toNat,by omega⟩;have hrd : rd_L2 R (n : Int) = R.getD n [] := Zl R n;have hrs := V6 hR2 n;have en : wrap64 ((n : Int) + 1) = ((n + 1 : Nat) : Int) := Xb (by omega);by_cases c0 : m = 0
  ·have eL : wrap64 ((L.length : Int) + 1) = ((L.length + 1 : Nat) : Int) := Xb (by omega);obtain ⟨y,a3,s3,e3,_,p3,q3⟩ := Xw hu s2 (a := a2) (by omega) (by omega) ((L.length + 1 : Nat) : Int) (by omega) (by omega);obtain ⟨Q,a4,s4,hQ,hS,p4,q4⟩ := Yq hu (R.set n (R.getD n [] ++ [y])) (hR.set n (by rw [List.length_append,List.length_singleton];omega)) a3 s3 (by omega) (by omega);refine ⟨Q,a4,s4,Ev.succ ?_,hS,by omega,by omega⟩;simp only [spec_l1Cur_lessonsFor.j0,eq_true hp,if_true,e1,e2,Option.bind_some,eq_true c0,Xa,eq_true i1,eL,e3,hrd,show ((R.getD n []).length < 17592186044416) = True from eq_true (by omega),Int.toNat_natCast];exact hQ
  by_cases c1 : m = 1
  ·obtain ⟨Q,a4,s4,hQ,hS,p4,q4⟩ := Yq hu (R.eraseIdx n) ⟨by have := List.length_eraseIdx_le R n;omega,fun y hy => hR.2 y (List.mem_of_mem_eraseIdx hy)⟩ a2 s2 (by omega) (by omega);refine ⟨Q,a4,s4,Ev.succ ?_,hS,by omega,by omega⟩;simp only [spec_l1Cur_lessonsFor.j0,eq_true hp,if_true,e1,e2,Option.bind_some,eq_false c0,if_false,eq_true c1,Xa,en,show ((n : Int) <= (R.length : Int)) = True from eq_true (by omega),show (((n + 1 : Nat) : Int) <= (R.length : Int)) = True from eq_true (by omega),Int.toNat_natCast];exact hQ
  by_cases c2 : m = 2
  ·have hr0 : (rd_L2 R 0).length <= 20 := by rw [show rd_L2 R 0 = R.getD 0 [] from Zl R 0];exact V6 hR.2 0
   obtain ⟨Q,a4,s4,hQ,hS,p4,q4⟩ := Yq hu ((R.set 0 (R.getD n [])).set n (rd_L2 R 0)) ((hR.set 0 (by omega)).set n hr0) a2 s2 (by omega) (by omega);refine ⟨Q,a4,s4,Ev.succ ?_,hS,by omega,by omega⟩;simp only [spec_l1Cur_lessonsFor.j0,eq_true hp,if_true,e1,e2,Option.bind_some,eq_false c0,if_false,eq_false c1,eq_true c2,Xa,eq_true i1,show (0 < (R.length : Int)) = True from eq_true (by omega),hrd,Int.toNat_natCast,Int.toNat_zero];exact hQ
  by_cases c3 : m = 3
  ·obtain ⟨Q,a4,s4,hQ,hS,p4,q4⟩ := Yq hu (R ++ [[]]) ⟨by rw [List.length_append,List.length_singleton];omega,fun y hy => by
    rcases List.mem_append.1 hy with hy | hy
    ·exact hR.2 y hy
    ·rw [List.mem_singleton.1 hy];exact Nat.zero_le _⟩ a2 s2 (by omega) (by omega)
   refine ⟨Q,a4,s4,Ev.succ ?_,hS,by omega,by omega⟩;simp only [spec_l1Cur_lessonsFor.j0,eq_true hp,if_true,e1,e2,Option.bind_some,eq_false c0,if_false,eq_false c1,eq_false c2,eq_true c3,show (R.length < 5864062014805) = True from eq_true (by omega)];exact hQ
  ·obtain ⟨Q,a4,s4,hQ,hS,p4,q4⟩ := Yq hu R hR a2 s2 (by omega) (by omega);refine ⟨Q,a4,s4,Ev.succ ?_,hS,by omega,by omega⟩;simp only [spec_l1Cur_lessonsFor.j0,eq_true hp,if_true,e1,e2,Option.bind_some,eq_false c0,if_false,eq_false c1,eq_false c2,eq_false c3];exact hQ
 ·obtain ⟨Q,a4,s4,hQ,hS,p4,q4⟩ := Yq hu R hR a s (by omega) (by omega);refine ⟨Q,a4,s4,Ev.succ ?_,hS,by omega,by omega⟩;simp only [spec_l1Cur_lessonsFor.j0,eq_false hp,if_false];exact hQ
theorem Jm {l : List Int} (hu : U8 l) (L : List S41) (hL : L.length <= 17) (hz : Zd L) (a s : Int) (h0 : 0 <= a) (h1 : a <= 999999999700) : ∃ R a' s',Ev (fun k => spec_l1Cur_lessonsFor.f k l a s L) (R,a',s') ∧ LSh R ∧ a <= a' ∧ a' <= a + 30 := by
 unfold spec_l1Cur_lessonsFor.f;cases hw : Xf L with
 | false =>
  have hG := X9 L (by omega) hz;rw [hw] at hG;obtain ⟨R,a1,s1,hR,hS,p1,q1⟩ := Ue hu L hL [] (by simp) (fun y hy => by cases hy) a s h0 (by omega);refine ⟨R,a1,s1,Ev.bind hG ?_,hS,p1,by omega⟩;simp only [Bool.false_eq_true,if_false];exact hR
 | true =>
  have hG := X9 L (by omega) hz;rw [hw] at hG;obtain ⟨y,a1,s1,e1,⟨y0,y1⟩,p1,q1⟩ := Xw hu s h0 (by omega) 4 (by decide) (by decide);obtain ⟨N,hN⟩ : ∃ N : Nat,1 + y = (N : Int) := ⟨(1 + y).toNat,by omega⟩;obtain ⟨d1,d2⟩ := Jt L N L.length [];rw [List.nil_append] at d1;have hg := (V2 (Yh L) (Xs L) L.length N Xv (by omega) V8 L.length [] (Zi _ _) (by simp)).1;have hle := Xh hg.nodup hg.range;have hle2 : (Zf L N L.length []).1.flatten.length <= 17 := by
   have : (Zf L N L.length []).2.length <= L.length := hle;rw [d1] at this;omega
  obtain ⟨R,a2,s2,hR,hS,p2,q2⟩ := Ue hu L hL (Zf L N L.length []).1 (by omega) (fun y hy => by have := Ye hy;omega) a1 s1 (by omega) (by omega);refine ⟨R,a2,s2,Ev.bind hG ?_,hS,by omega,by omega⟩;simp only [if_true,e1,Option.bind_some];rw [Xi (by omega) (by omega),hN];have h2 := Gq L N hz (by omega) L.length [] [] (Zi _ _) (by simp) (by simp;omega);rw [List.nil_append] at h2;exact Ev.bind (show Ev (fun k => spec_leLessons.f k L (N : Int)) _ from h2) hR
theorem Vc {l : List Int} (hu : U8 l) (L : List S41) (hL : L.length <= 100) {a : Int} (s : Int) (h0 : 0 <= a) (h1 : a <= 999999999900) : T3 (spec_l1Cur_wordIn.f l a s L) a 8 (fun _ => True) := by
 have eL : wrap64 ((L.length : Int) + 1) = ((L.length + 1 : Nat) : Int) := Xb (by omega);obtain ⟨y1,a1,s1,e1,_,p1,q1⟩ := Xw hu s h0 (by omega) ((L.length + 1 : Nat) : Int) (by omega) (by omega);obtain ⟨y2,a2,s2,e2,_,p2,q2⟩ := Xw hu s1 (a := a1) (by omega) (by omega) ((L.length + 1 : Nat) : Int) (by omega) (by omega);obtain ⟨y3,a3,s3,e3,_,p3,q3⟩ := Yj hu s2 (a := a2) (by omega) (by omega) [0,(L.length : Int),-1] (by simp) (by simp);obtain ⟨y4,a4,s4,e4,_,p4,q4⟩ := Yj hu s3 (a := a3) (by omega) (by omega) [0,y1,y2,wrap64 ((L.length : Int) - 1),y3] (by simp) (by simp);unfold spec_l1Cur_wordIn.f;simp only [eL,e1,e2,e3,e4,Option.bind_some];exact ⟨_,_,_,rfl,trivial,by omega,by omega⟩
theorem Yy (l : List Int) (hl : l.length < 4611686018427387904) : Ev (fun k => laws_sameInts.f k l l) true := by
 unfold laws_sameInts.f;simp only [if_true];exact Ev.upto (L := fun k j => laws_sameInts.l0 k l l (l.length : Int) (j : Int)) (r := true) (n := l.length)
  (by
   refine Ev.succ ?_;simp only [laws_sameInts.l0,Int.lt_irrefl,if_false];exact Ev.now _)
  (by
   intro j hj h;refine Ev.succ ?_;simp only [laws_sameInts.l0,show ((j : Int) < (l.length : Int)) = True from eq_true (by omega),if_true,Xa,Xb (show j < 4611686018427387904 by omega)];exact h)
  0 (Nat.zero_le _)
theorem Z2 (l : List (List Int)) (hl : l.length < 4611686018427387904) (hs : ∀ y,y ∈ l -> y.length < 4611686018427387904) : Ev (fun k => laws_sameLists.f k l l) true := by
 unfold laws_sameLists.f;simp only [if_true];exact Ev.upto (L := fun k j => laws_sameLists.l0 k l l (l.length : Int) (j : Int)) (r := true) (n := l.length)
  (by
   refine Ev.succ ?_;simp only [laws_sameLists.l0,Int.lt_irrefl,if_false];exact Ev.now _)
  (by
   intro j hj h;refine Ev.succ ?_;simp only [laws_sameLists.l0,show ((j : Int) < (l.length : Int)) = True from eq_true (by omega),if_true,Xa,Xb (show j < 4611686018427387904 by omega),Zl,Z5 l j hj];refine Ev.bind (Yy _ (hs _ (List.getElem_mem hj))) ?_;simp only [if_true];exact h)
  0 (Nat.zero_le _)
theorem G7 (l : List Int) (hl : l.length < 4611686018427387904) (x : Int) : Ev (fun k => laws_pIn.f k l x) (decide (x ∈ l)) := by
 unfold laws_pIn.f;have key : ∀ d j,j + d = l.length -> Ev (fun k => laws_pIn.l0 k x l (l.length : Int) (j : Int)) (decide (x ∈ l.drop j)) := by
  intro d
  induction d with
  | zero =>
   intro j hj;refine Ev.succ ?_;simp only [laws_pIn.l0,show ((j : Int) < (l.length : Int)) = False from eq_false (by omega),if_false];rw [List.drop_of_length_le (by omega)];exact Ev.now _
  | succ d ih =>
   intro j hj;have hlt : j < l.length := by omega
   have e : rd l (j : Int) = l[j] := by
    show l.getD ((j : Int)).toNat 0 = _;rw [Int.toNat_natCast,List.getD_eq_getElem?_getD,List.getElem?_eq_getElem hlt];rfl
   refine Ev.succ ?_;simp only [laws_pIn.l0,show ((j : Int) < (l.length : Int)) = True from eq_true (by omega),if_true,Xa,e,Xb (show j < 4611686018427387904 by omega)];rw [List.drop_eq_getElem_cons hlt];by_cases hx : l[j] = x
   ·simp only [eq_true hx,if_true];refine Ev.eq (Ev.now _) ?_;rw [hx];simp
   ·simp only [eq_false hx,if_false];refine Ev.eq (ih (j + 1) (by omega)) ?_;rw [decide_eq_decide,List.mem_cons];exact ⟨.inr,fun h => h.resolve_left (fun h2 => hx h2.symm)⟩
 exact key l.length 0 (by omega)
def Xu (l : List S41) (ls : List (List Int)) : Bool := Xf l && (decide (ls.length <= 16) && X2 l ls)
theorem V5 (l : List S41) (ls : List (List Int)) (hl0 : l.length <= 1048576) (hz : Zd l) (hs : ls.flatten.length <= 1048576) (hl : ls.length <= 1048576) : Ev (fun k => impl_areGood.f k l ls) (Xu l ls) := by
 unfold impl_areGood.f Xu;refine Ev.bind (Yl l hl0 hz) ?_;cases Xf l with
 | false =>
  simp only [Bool.false_eq_true,if_false,Bool.false_and];exact Ev.now _
 | true =>
  simp only [if_true,Bool.true_and];by_cases h : ls.length <= 16
  ·have h2 : ((ls.length : Int) <= 16) = True := eq_true (by omega);simp only [h2,h,if_true,decide_true,Bool.true_and];exact Ev.bind (Y1 l ls hl0 hs hl) (Ev.now _)
  ·have h2 : ((ls.length : Int) <= 16) = False := eq_false (by omega);simp only [h2,h,if_false,decide_false,Bool.false_and];exact Ev.now _
theorem V3 (l : List S41) (a : List Int) (i : Nat) (h : i < a.length) : Xe l (a.drop i) = (Xy l a[i].toNat).f2 + Xe l (a.drop (i + 1)) := by rw [List.drop_eq_getElem_cons h];rfl
theorem Zj (l : List S41) (a : List Int) (h : Xf l = true) (hl : a.length <= 1048576) (hr : ∀ x,x ∈ a -> 0 <= x ∧ x < l.length) : Ev (fun k => impl_usesIn.f k l a) (Xe l a) := by
 unfold impl_usesIn.f;have key : ∀ d i (s : Int),i + d = a.length -> 0 <= s -> s + 99999 * (d : Int) <= 200000000000 -> Ev (fun k => impl_usesIn.l0 k l s a (a.length : Int) (i : Int)) (s + Xe l (a.drop i)) := by
  intro d
  induction d with
  | zero =>
   intro i s hi h0 h1;refine Ev.succ ?_;have g1 : ((i : Int) < (a.length : Int)) = False := eq_false (by omega);simp only [impl_usesIn.l0,g1,if_false];refine Ev.eq (Ev.now _) ?_;rw [List.drop_of_length_le (by omega)];simp [Xe]
  | succ d ih =>
   intro i s hi h0 h1;refine Ev.succ ?_;have hlt : i < a.length := by omega
   have g1 : ((i : Int) < (a.length : Int)) = True := eq_true (by omega);have hg : a.getD i 0 = a[i] := by rw [List.getD_eq_getElem?_getD,List.getElem?_eq_getElem hlt];rfl
   obtain ⟨b0,b1⟩ := hr a[i] (List.getElem_mem hlt);obtain ⟨c0,c1⟩ := (Xd h).2 a[i].toNat (by omega);have e4 : wrap64 ((i : Int) + 1) = ((i + 1 : Nat) : Int) := Xb (by omega);simp only [impl_usesIn.l0,g1,if_true,Xa,Vd,hg,eq_true b0,eq_true b1,Z7,e4,Xi (x := s + (Xy l a[i].toNat).f2) (by omega) (by omega)];refine Ev.eq (ih (i + 1) (s + (Xy l a[i].toNat).f2) (by omega) (by omega) (by omega)) ?_;rw [V3 l a i hlt];omega
 have := key a.length 0 0 (by omega) (by omega) (by omega);rw [List.drop_zero,Int.zero_add] at this;exact this
theorem Z8 (l : List S41) (a : List Int) (h : Xf l = true) (hl : a.length <= 1048576) (hr : ∀ x,x ∈ a -> 0 <= x ∧ x < l.length) : Ev (fun k => spec_leUses.f k l a) (Xe l a) := by
 unfold spec_leUses.f;have key : ∀ d i (s : Int),i + d = a.length -> 0 <= s -> s + 99999 * (d : Int) <= 200000000000 -> Ev (fun k => spec_leUses.l0 k l s a (a.length : Int) (i : Int)) (s + Xe l (a.drop i)) := by
  intro d
  induction d with
  | zero =>
   intro i s hi h0 h1;refine Ev.succ ?_;have g1 : ((i : Int) < (a.length : Int)) = False := eq_false (by omega);simp only [spec_leUses.l0,g1,if_false];refine Ev.eq (Ev.now _) ?_;rw [List.drop_of_length_le (by omega)];simp [Xe]
  | succ d ih =>
   intro i s hi h0 h1;refine Ev.succ ?_;have hlt : i < a.length := by omega
   have g1 : ((i : Int) < (a.length : Int)) = True := eq_true (by omega);have hg : a.getD i 0 = a[i] := by rw [List.getD_eq_getElem?_getD,List.getElem?_eq_getElem hlt];rfl
   obtain ⟨b0,b1⟩ := hr a[i] (List.getElem_mem hlt);obtain ⟨c0,c1⟩ := (Xd h).2 a[i].toNat (by omega);have e4 : wrap64 ((i : Int) + 1) = ((i + 1 : Nat) : Int) := Xb (by omega);simp only [spec_leUses.l0,g1,if_true,Xa,Vd,hg,eq_true b0,eq_true b1,Z7,e4,Xi (x := s + (Xy l a[i].toNat).f2) (by omega) (by omega)];refine Ev.eq (ih (i + 1) (s + (Xy l a[i].toNat).f2) (by omega) (by omega) (by omega)) ?_;rw [V3 l a i hlt];omega
 have := key a.length 0 0 (by omega) (by omega) (by omega);rw [List.drop_zero,Int.zero_add] at this;exact this
theorem T4 (l : List S41) (i : Nat) : (rd_T41 l (i : Int)) = Xy l i := T5 l i
theorem Yf (l : List S41) (h : Xf l = true) : Ev (fun k => impl_allUses.f k l) (Xk l l.length 0) := by
 unfold impl_allUses.f;have hl := (Xd h).1;have key : ∀ d i (s : Int),i + d = l.length -> 0 <= s -> s + 99999 * (d : Int) <= 200000000000 -> Ev (fun k => impl_allUses.l0 k s l (l.length : Int) (i : Int)) (s + Xk l d i) := by
  intro d
  induction d with
  | zero =>
   intro i s hi h0 h1;refine Ev.succ ?_;have g1 : ((i : Int) < (l.length : Int)) = False := eq_false (by omega);simp only [impl_allUses.l0,g1,if_false,Xk,Int.add_zero];exact Ev.now _
  | succ d ih =>
   intro i s hi h0 h1;refine Ev.succ ?_;have hlt : i < l.length := by omega
   have g1 : ((i : Int) < (l.length : Int)) = True := eq_true (by omega);obtain ⟨c0,c1⟩ := (Xd h).2 i hlt;have e4 : wrap64 ((i : Int) + 1) = ((i + 1 : Nat) : Int) := Xb (by omega);simp only [impl_allUses.l0,g1,if_true,Xa,T4,e4,Xi (x := s + (Xy l i).f2) (by omega) (by omega)];refine Ev.eq (ih (i + 1) (s + (Xy l i).f2) (by omega) (by omega) (by omega)) ?_;rw [Xk];omega
 have := key l.length 0 0 (by omega) (by omega) (by omega);rw [Int.zero_add] at this;exact this
theorem Yg (l : List S41) (h : Xf l = true) : Ev (fun k => spec_leTotal.f k l) (Xk l l.length 0) := by
 unfold spec_leTotal.f;have hl := (Xd h).1;have key : ∀ d i (s : Int),i + d = l.length -> 0 <= s -> s + 99999 * (d : Int) <= 200000000000 -> Ev (fun k => spec_leTotal.l0 k s l (l.length : Int) (i : Int)) (s + Xk l d i) := by
  intro d
  induction d with
  | zero =>
   intro i s hi h0 h1;refine Ev.succ ?_;have g1 : ((i : Int) < (l.length : Int)) = False := eq_false (by omega);simp only [spec_leTotal.l0,g1,if_false,Xk,Int.add_zero];exact Ev.now _
  | succ d ih =>
   intro i s hi h0 h1;refine Ev.succ ?_;have hlt : i < l.length := by omega
   have g1 : ((i : Int) < (l.length : Int)) = True := eq_true (by omega);obtain ⟨c0,c1⟩ := (Xd h).2 i hlt;have e4 : wrap64 ((i : Int) + 1) = ((i + 1 : Nat) : Int) := Xb (by omega);simp only [spec_leTotal.l0,g1,if_true,Xa,T4,e4,Xi (x := s + (Xy l i).f2) (by omega) (by omega)];refine Ev.eq (ih (i + 1) (s + (Xy l i).f2) (by omega) (by omega) (by omega)) ?_;rw [Xk];omega
 have := key l.length 0 0 (by omega) (by omega) (by omega);rw [Int.zero_add] at this;exact this
theorem Yk {l : List S41} {ls : List (List Int)} (hl0 : l.length <= 1048576) (h : Xu l ls = true) : Xf l = true ∧ ls.length <= 16 ∧ ls.flatten.length = l.length ∧ (∀ x,x ∈ ls.flatten -> 0 <= x ∧ x < l.length) := by
 unfold Xu X2 at h;rw [Bool.and_eq_true,Bool.and_eq_true,Bool.and_eq_true,Bool.and_eq_true] at h;exact ⟨h.1,of_decide_eq_true h.2.1,of_decide_eq_true h.2.2.1,Zk hl0 h.2.2.2.1⟩
def Y7 (l : List S41) (ls : List (List Int)) (n : Int) : Int × Bool := if Xu l ls && (Yu n 0 ls.length && !(Xk l l.length 0 == 0)) then (Int.tdiv (100 * Xe l (ls.take n.toNat).flatten) (Xk l l.length 0),true) else (0,false)
theorem Jh {a b : Int} (ha : 0 <= a) (ha2 : a <= 1000000000) (hb : 0 <= b) : wrap64 (Int.tdiv a b) = Int.tdiv a b := by
 have h1 : Int.tdiv a b = a / b := Int.tdiv_eq_ediv_of_nonneg ha;have h0 : 0 <= a / b := Int.ediv_nonneg ha hb;have h2 : a / b <= a := Int.ediv_le_self b ha;rw [h1,Xi (by omega) (by omega)]
theorem Ji {ls : List (List Int)} {n : Nat} {x : Int} (hx : x ∈ (ls.take n).flatten) : x ∈ ls.flatten := by
 rw [List.mem_flatten] at hx ⊢;obtain ⟨y,hy,hxy⟩ := hx;exact ⟨y,List.mem_of_mem_take hy,hxy⟩
theorem Zr {l : List S41} {ls : List (List Int)} (n : Nat) (hl0 : l.length <= 1048576) (h : Xu l ls = true) : 0 <= Xe l (ls.take n).flatten ∧ Xe l (ls.take n).flatten <= 1599984 ∧ (ls.take n).flatten.length <= 16 ∧ (∀ x,x ∈ (ls.take n).flatten -> 0 <= x ∧ x < l.length) := by
 obtain ⟨hw,h16,hfl,hr⟩ := Yk hl0 h;have hl := (Xd hw).1;have ht := Xz ls n;have hr2 : ∀ x,x ∈ (ls.take n).flatten -> 0 <= x ∧ x < l.length := fun x hx => hr x (Ji hx)
 obtain ⟨a,b⟩ := Yo hw _ hr2;exact ⟨a,by omega,by omega,hr2⟩
theorem Zv (l : List S41) (ls : List (List Int)) (n : Int) (hl0 : l.length <= 1048576) (hz : Zd l) (hs : ls.flatten.length <= 1048576) (hl : ls.length <= 1048576) : Ev (fun k => impl_CoverageAfter.f k l ls n) (Y7 l ls n) := by
 unfold impl_CoverageAfter.f Y7;have bad : Ev (fun k => impl_CoverageAfter.j0 k l ls n true) (0,false) := by
  refine Ev.succ ?_;simp only [impl_CoverageAfter.j0,if_true];exact Ev.now _
 refine Ev.bind (V5 l ls hl0 hz hs hl) ?_;cases hg : Xu l ls with
 | false =>
  simp only [Bool.false_eq_true,if_false,Bool.false_and];exact bad
 | true =>
  obtain ⟨hw,h16,hfl,hr⟩ := Yk hl0 hg;simp only [if_true,Bool.true_and,X1,Option.bind_some];cases hi : Yu n 0 ls.length with
  | false =>
   simp only [Bool.false_eq_true,if_false,Bool.false_and];exact bad
  | true =>
   simp only [if_true,Bool.true_and];refine Ev.bind (Yf l hw) ?_;cases he : (Xk l l.length 0 == 0) with
   | true =>
    simp only [Bool.not_true,Bool.false_eq_true,if_false];exact bad
   | false =>
    obtain ⟨i0,i1⟩ := of_decide_eq_true hi;obtain ⟨c0,c1,c2,c3⟩ := Zr n.toNat hl0 hg;have ht := Xz ls n.toNat;have hne : (Xk l l.length 0 = 0) = False := eq_false (by simpa using he);obtain ⟨d0,d1⟩ := Yb hw l.length 0 (by omega);simp only [Bool.not_false,if_true];refine Ev.succ ?_;simp only [impl_CoverageAfter.j0,Bool.false_eq_true,if_false,eq_true i0,eq_true i1,if_true];refine Ev.bind (Y2 (ls.take n.toNat) (by omega) (by rw [List.length_take];omega)) ?_;refine Ev.bind (Zj l _ hw (by omega) c3) ?_;refine Ev.bind (Yf l hw) ?_;simp only [hne,if_false];refine Ev.eq (Ev.now _) ?_;rw [Xi (x := 100 * Xe l (ls.take n.toNat).flatten) (by omega) (by omega),Jh (by omega) (by omega) d0]
theorem G6 (l : List S41) (ls : List (List Int)) (hw : Xf l = true) (hfl : ls.flatten.length <= 16) (hr : ∀ x,x ∈ ls.flatten -> 0 <= x ∧ x < l.length) (hne : (Xk l l.length 0 = 0) = False) (hl : ls.length <= 1048576) : ∀ d n,n + d = ls.length -> Ev (fun k => spec_CoverageAfter.l0 k l (Xe l (ls.take n).flatten) ls (ls.length : Int) (n : Int)) (Int.tdiv (100 * Xe l ls.flatten) (Xk l l.length 0),true) := by
 have hb : ∀ n,0 <= Xe l (ls.take n).flatten ∧ Xe l (ls.take n).flatten <= 1599984 := fun n => by
  have ht := Xz ls n;obtain ⟨a,b⟩ := Yo hw (ls.take n).flatten (fun x hx => hr x (Ji hx));exact ⟨a,by omega⟩
 intro d
 induction d with
 | zero =>
  intro n hn;refine Ev.succ ?_;have h1 : ((n : Int) < (ls.length : Int)) = False := eq_false (by omega);obtain ⟨d0,d1⟩ := Yb hw l.length 0 (by omega);have hb0 := hb n;rw [List.take_of_length_le (by omega)] at hb0 ⊢;simp only [spec_CoverageAfter.l0,h1,if_false];refine Ev.bind (Yg l hw) ?_;simp only [hne,if_false];refine Ev.eq (Ev.now _) ?_;rw [Xi (x := 100 * Xe l ls.flatten) (by omega) (by omega),Jh (by omega) (by omega) d0]
 | succ d ih =>
  intro n hn;refine Ev.succ ?_;have hlt : n < ls.length := by omega
  have h1 : ((n : Int) < (ls.length : Int)) = True := eq_true (by omega);have hle := Ye (List.getElem_mem hlt);have h2 : Xe l (ls.take n).flatten + Xe l ls[n] = Xe l (ls.take (n + 1)).flatten := by rw [Xn ls n hlt,Za]
  have h3 := hb (n + 1);simp only [spec_CoverageAfter.l0,h1,if_true,Xa,Zl,Z5 ls n hlt];refine Ev.bind (Z8 l ls[n] hw (by omega) (fun x hx => hr x (List.mem_flatten.2 ⟨_,List.getElem_mem hlt,hx⟩))) ?_;rw [Xi (x := Xe l (ls.take n).flatten + Xe l ls[n]) (by omega) (by omega),h2,Xb (show n < 4611686018427387904 by omega)];exact ih (n + 1) (by omega)
theorem Gy (l : List S41) (ls : List (List Int)) (n : Int) (hl0 : l.length <= 1048576) (hz : Zd l) (hs : ls.flatten.length <= 1048576) (hl : ls.length <= 1048576) : Ev (fun k => spec_CoverageAfter.f k l ls n) (Y7 l ls n) := by
 unfold spec_CoverageAfter.f Y7;have bad : Ev (fun k => spec_CoverageAfter.j0 k l ls n true) (0,false) := by
  refine Ev.succ ?_;simp only [spec_CoverageAfter.j0,if_true];exact Ev.now _
 refine Ev.bind (X9 l hl0 hz) ?_;cases hw : Xf l with
 | false =>
  have hg : Xu l ls = false := by unfold Xu;rw [hw];rfl
  rw [hg];simp only [Bool.false_eq_true,if_false,Bool.false_and];exact bad
 | true =>
  simp only [if_true];refine Ev.bind (Zy l ls hl0 hz hs hl) ?_;have hg : Xu l ls = (decide (ls.length <= 16) && X2 l ls) := by unfold Xu;rw [hw];rfl
  rw [<- hg];cases hg : Xu l ls with
  | false =>
   simp only [Bool.false_eq_true,if_false,Bool.false_and];exact bad
  | true =>
   obtain ⟨_,h16,hfl,hr⟩ := Yk hl0 hg;have hl16 := (Xd hw).1;simp only [if_true,Bool.true_and,X3,Option.bind_some];cases hi : Yu n 0 ls.length with
   | false =>
    simp only [Bool.false_eq_true,if_false,Bool.false_and];exact bad
   | true =>
    simp only [if_true,Bool.true_and];refine Ev.bind (Yg l hw) ?_;cases he : (Xk l l.length 0 == 0) with
    | true =>
     simp only [Bool.not_true,Bool.false_eq_true,if_false];exact bad
    | false =>
     obtain ⟨i0,i1⟩ := of_decide_eq_true hi;obtain ⟨c0,c1,c2,c3⟩ := Zr n.toNat hl0 hg;have hne : (Xk l l.length 0 = 0) = False := eq_false (by simpa using he);simp only [Bool.not_false,if_true];refine Ev.succ ?_;simp only [spec_CoverageAfter.j0,Bool.false_eq_true,if_false,eq_true i0,eq_true i1,if_true,Option.bind_some];have := G6 l (ls.take n.toNat) hw c2 c3 hne (by rw [List.length_take];omega) (ls.take n.toNat).length 0 (by omega);rw [List.take_zero,List.flatten_nil] at this;exact this
def Reach (nd : Int -> List Int) (i x : Int) : Prop := ∀ S : Int -> Prop,(∀ z,z ∈ nd i -> S z) -> (∀ y,S y -> ∀ z,z ∈ nd y -> S z) -> S x
theorem Reach.base {nd : Int -> List Int} {i x : Int} (h : x ∈ nd i) : Reach nd i x := fun _ h0 _ => h0 x h
theorem Reach.step {nd : Int -> List Int} {i y x : Int} (h : Reach nd i y) (hx : x ∈ nd y) : Reach nd i x := fun S h0 h1 => h1 y (h S h0 h1) x hx
theorem Yc {nd : Int -> List Int} {i : Int} {S : Int -> Prop} (h0 : ∀ x,x ∈ nd i -> S x) (h1 : ∀ y,S y -> ∀ x,x ∈ nd y -> S x) : ∀ x,Reach nd i x -> S x := fun _ h => h S h0 h1
theorem Gi {l : List S41} (h : Xf l = true) {i : Int} (h0 : 0 <= i) (h1 : i < l.length) : ∀ x,Reach (Xs l) i x -> 0 <= x ∧ x < l.length :=
 Yc (fun x hx => Ym h i h0 h1 x hx) (fun y hy x hx => Ym h y hy.1 hy.2 x hx)
theorem Z0 {l : List S41} (h : Xf l = true) {i : Int} (h0 : 0 <= i) (h1 : i < l.length) : (Xs l i).Nodup := by
 unfold Xf at h;rw [Bool.and_eq_true,List.all_eq_true,decide_eq_true_eq] at h;have hg := h.1 i.toNat (List.mem_range.2 (by omega));unfold Xm at hg;rw [Bool.and_eq_true,Bool.and_eq_true] at hg;have hr := hg.2.1;rw [Uq,Bool.and_eq_true,Bool.and_eq_true,decide_eq_true_eq] at hr;exact hr.2.1
theorem Yi {l : List Int} (h : l.Pairwise (· < ·)) : l.Nodup := List.Pairwise.imp (S := fun a b : Int => a ≠ b) (fun {a b} (hlt : a < b) e => by omega) h
theorem Js (l : List Int) (hl : l.length < 17592186044416) : slices_Clone_int.f l = some l := by
 unfold slices_Clone_int.f;simp only [Option.bind_some,List.length_nil,List.nil_append,show (0 + l.length < 17592186044416) = True from eq_true (by omega),if_true]
theorem Tu (l : List Int) (hl : l.length < 17592186044416) : spec_l1Own.f l = some l := by
 unfold spec_l1Own.f;simp only [Option.bind_some,List.length_nil,List.nil_append,show (0 + l.length < 17592186044416) = True from eq_true (by omega),if_true]
theorem Gp (l : List S41) (hw : Xf l = true) (i : Int) (P : List Int -> Prop) (out : List Int) (n : Nat) (hn : n < l.length) (y : List Int) (hy : ∀ x,x ∈ y -> (0 <= x ∧ x < l.length) ∧ Reach (Xs l) i x)
  (hc : ∀ E,(out ++ E).Nodup -> (∀ x,x ∈ out ++ E -> (0 <= x ∧ x < l.length) ∧ Reach (Xs l) i x) -> (∀ x,x ∈ y -> x ∈ out ++ E) -> ∃ r,Ev (fun k => impl_neededFor.l0 k l (out ++ E) (wrap64 ((n : Int) + 1))) r ∧ P r) :
  ∀ d j E,j + d = y.length -> y.length <= 1048576 -> (out ++ E).Nodup -> (∀ x,x ∈ out ++ E -> (0 <= x ∧ x < l.length) ∧ Reach (Xs l) i x) -> (∀ x,x ∈ y.take j -> x ∈ out ++ E) -> ∃ r,Ev (fun k => impl_neededFor.l1 k l (out ++ E) (n : Int) y (y.length : Int) (j : Int)) r ∧ P r := by
 intro d
 induction d with
 | zero =>
  intro j E hj hyl hd hr hm;rw [List.take_of_length_le (by omega)] at hm;obtain ⟨r,h1,h2⟩ := hc E hd hr hm;refine ⟨r,Ev.succ ?_,h2⟩;have g1 : ((j : Int) < (y.length : Int)) = False := eq_false (by omega);simp only [impl_neededFor.l1,g1,if_false];exact h1
 | succ d ih =>
  intro j E hj hyl hd hr hm;have hlt : j < y.length := by omega
  have g1 : ((j : Int) < (y.length : Int)) = True := eq_true (by omega);have hg : y.getD j 0 = y[j] := by rw [List.getD_eq_getElem?_getD,List.getElem?_eq_getElem hlt];rfl
  have hL := Xh hd (fun x hx => (hr x hx).1);have h16 := (Xd hw).1;have e4 : wrap64 ((j : Int) + 1) = ((j + 1 : Nat) : Int) := Xb (by omega);have ht : ∀ x,x ∈ y.take (j + 1) -> x ∈ y.take j ∨ x = y[j] := fun x hx => by rw [List.take_succ_eq_append_getElem hlt,List.mem_append,List.mem_singleton] at hx;exact hx
  by_cases h1 : y[j] ∈ out ++ E
  ·obtain ⟨r,h3,h4⟩ := ih (j + 1) E (by omega) hyl hd hr (fun x hx => (ht x hx).elim (hm x) (fun e => e ▸ h1));refine ⟨r,Ev.succ ?_,h4⟩;simp only [impl_neededFor.l1,g1,if_true,Xa,Vd,hg,e4];refine Ev.bind (Xq _ _ (by omega)) ?_;simp only [decide_eq_true h1,if_true];exact h3
  ·have hq := hy _ (List.getElem_mem hlt);have hd2 : (out ++ (E ++ [y[j]])).Nodup := by
    rw [<- List.append_assoc,List.nodup_append];refine ⟨hd,by simp,fun a ha b hb e => ?_⟩;rw [List.mem_singleton] at hb;subst hb;exact h1 (e ▸ ha)
   obtain ⟨r,h3,h4⟩ := ih (j + 1) (E ++ [y[j]]) (by omega) hyl hd2 (fun x hx => by
     rw [<- List.append_assoc,List.mem_append,List.mem_singleton] at hx;rcases hx with hx | rfl
     ·exact hr x hx
     ·exact hq) (fun x hx => by
     rw [<- List.append_assoc,List.mem_append,List.mem_singleton];exact (ht x hx).imp_left (hm x))
   refine ⟨r,Ev.succ ?_,h4⟩;simp only [impl_neededFor.l1,g1,if_true,Xa,Vd,hg,e4];refine Ev.bind (Xq _ _ (by omega)) ?_;rw [<- List.append_assoc] at h3;simp only [decide_eq_false h1,Bool.false_eq_true,if_false,show ((out ++ E).length < 17592186044416) = True from eq_true (by omega),if_true];exact h3
theorem Gr (l : List S41) (hw : Xf l = true) (i : Int) (hi0 : 0 <= i) (hi1 : i < l.length) : ∀ d n (out : List Int),n + d = l.length -> n <= out.length -> out.Nodup -> (∀ x,x ∈ out -> (0 <= x ∧ x < l.length) ∧ Reach (Xs l) i x) -> (∀ x,x ∈ Xs l i -> x ∈ out) -> (∀ y,y ∈ out.take n -> ∀ x,x ∈ Xs l y -> x ∈ out) ->
  ∃ r,Ev (fun k => impl_neededFor.l0 k l out (n : Int)) r ∧ (r.Pairwise (· < ·) ∧ ∀ x,x ∈ r ↔ Reach (Xs l) i x) := by
 have fin : ∀ n (out : List Int),n = out.length -> out.Nodup -> (∀ x,x ∈ out -> (0 <= x ∧ x < l.length) ∧ Reach (Xs l) i x) -> (∀ x,x ∈ Xs l i -> x ∈ out) -> (∀ y,y ∈ out.take n -> ∀ x,x ∈ Xs l y -> x ∈ out) ->
   ∃ r,Ev (fun k => impl_neededFor.l0 k l out (n : Int)) r ∧ (r.Pairwise (· < ·) ∧ ∀ x,x ∈ r ↔ Reach (Xs l) i x) := by
  intro n out hn hd hr h0 h1;have hL := Xh hd (fun x hx => (hr x hx).1);have h16 := (Xd hw).1;rw [List.take_of_length_le (by omega)] at h1;refine ⟨Xv out,Ev.succ ?_,Zx out hd,fun x => ?_⟩
  ·have g1 : ((n : Int) < (out.length : Int)) = False := eq_false (by omega);simp only [impl_neededFor.l0,g1,if_false,slices_Sort_int.f,show (out.length < 4611686018427387904) = True from eq_true (by omega),if_true,Option.bind_some];exact Ev.now _
  ·rw [(Xx out).mem_iff];exact ⟨fun hx => (hr x hx).2,Yc h0 h1 x⟩
 intro d
 induction d with
 | zero =>
  intro n out hn hle hd hr h0 h1;have hL := Xh hd (fun x hx => (hr x hx).1);exact fin n out (by omega) hd hr h0 h1
 | succ d ih =>
  intro n out hn hle hd hr h0 h1;by_cases hq : n = out.length
  ·exact fin n out hq hd hr h0 h1
  ·have hlt : n < out.length := by omega
   have h16 := (Xd hw).1;have hg : out.getD n 0 = out[n] := by rw [List.getD_eq_getElem?_getD,List.getElem?_eq_getElem hlt];rfl
   have hx := hr _ (List.getElem_mem hlt);have hnl := Xh (Z0 hw hx.1.1 hx.1.2) (Ym hw _ hx.1.1 hx.1.2);obtain ⟨r,h3,h4⟩ := Gp l hw i (fun r => r.Pairwise (· < ·) ∧ ∀ x,x ∈ r ↔ Reach (Xs l) i x) out n (by omega) (Xs l out[n]) (fun x hx2 => ⟨Ym hw _ hx.1.1 hx.1.2 x hx2,Reach.step hx.2 hx2⟩)
    (fun E hd2 hr2 hm2 => by
     rw [Xb (show n < 4611686018427387904 by omega)];refine ih (n + 1) (out ++ E) (by omega) (by rw [List.length_append];omega) hd2 hr2 (fun x hx => List.mem_append_left _ (h0 x hx)) ?_;intro y hy x hx2;rw [List.take_append_of_le_length (by omega),List.take_succ_eq_append_getElem hlt,List.mem_append,List.mem_singleton] at hy;rcases hy with hy | rfl
     ·exact List.mem_append_left _ (h1 y hy x hx2)
     ·exact hm2 x hx2)
    (Xs l out[n]).length 0 [] (by omega) (by omega) (by rwa [List.append_nil]) (by rwa [List.append_nil]) (by simp)
   rw [List.append_nil] at h3;refine ⟨r,Ev.succ ?_,h4⟩;have g1 : ((n : Int) < (out.length : Int)) = True := eq_true (by omega);simp only [impl_neededFor.l0,g1,if_true,Xa,Vd,hg,eq_true hx.1.1,eq_true hx.1.2,Z7];exact h3
theorem Gm (l : List S41) (hw : Xf l = true) (i : Int) (hi0 : 0 <= i) (hi1 : i < l.length) : ∃ r,Ev (fun k => impl_neededFor.f k l i) r ∧ (r.Pairwise (· < ·) ∧ ∀ x,x ∈ r ↔ Reach (Xs l) i x) := by
 have hnd := Z0 hw hi0 hi1;have hnr := Ym hw i hi0 hi1;have hnl := Xh hnd hnr;have h16 := (Xd hw).1;obtain ⟨r,h1,h2⟩ := Gr l hw i hi0 hi1 l.length 0 (Xs l i) (by omega) (by omega) hnd (fun x hx => ⟨hnr x hx,Reach.base hx⟩) (fun _ hx => hx) (by simp);refine ⟨r,?_,h2⟩;unfold impl_neededFor.f;simp only [eq_true hi0,eq_true hi1,if_true,Z7];change Ev (fun k => (slices_Clone_int.f (Xs l i)).bind fun t => impl_neededFor.l0 k l t 0) r;simp only [Js (Xs l i) (by omega),Option.bind_some];exact h1
theorem U4 (l : List S41) (hw : Xf l = true) (i : Int) (hi0 : 0 <= i) (hi1 : i < l.length) : ∀ f (out op : List Int),out.Pairwise (· < ·) -> (∀ x,x ∈ out -> (0 <= x ∧ x < l.length) ∧ Reach (Xs l) i x) -> (∀ x,x ∈ op -> (0 <= x ∧ x < l.length) ∧ Reach (Xs l) i x) -> (∀ x,x ∈ Xs l i -> x ∈ out ∨ x ∈ op) -> (∀ y,y ∈ out -> ∀ x,x ∈ Xs l y -> x ∈ out ∨ x ∈ op) ->
  op.length + 17 * (l.length - out.length) <= f -> f <= 1048576 -> ∃ r,Ev (fun k => spec_leNeeded.l0 k l out op) r ∧ (r.Pairwise (· < ·) ∧ ∀ x,x ∈ r ↔ Reach (Xs l) i x) := by
 intro f
 induction f with
 | zero =>
  intro out op hu hr hr2 h0 h1 hf hF;obtain rfl : op = [] := List.eq_nil_of_length_eq_zero (by omega);refine ⟨out,Ev.succ ?_,hu,fun x => ⟨fun hx => (hr x hx).2,Yc (S := fun x => x ∈ out) (fun x hx => by simpa using h0 x hx) (fun y hy x hx => by simpa using h1 y hy x hx) x⟩⟩;simp only [spec_leNeeded.l0,show ((([] : List Int).length : Int) > 0) = False from eq_false (by simp),if_false];exact Ev.now _
 | succ f ih =>
  intro out op hu hr hr2 h0 h1 hf hF;have hd := Yi hu;have hL := Xh hd (fun x hx => (hr x hx).1);have h16 := (Xd hw).1;cases op with
  | nil =>
   refine ⟨out,Ev.succ ?_,hu,fun x => ⟨fun hx => (hr x hx).2,Yc (S := fun x => x ∈ out) (fun x hx => by simpa using h0 x hx) (fun y hy x hx => by simpa using h1 y hy x hx) x⟩⟩;simp only [spec_leNeeded.l0,show ((([] : List Int).length : Int) > 0) = False from eq_false (by simp),if_false];exact Ev.now _
  | cons b op =>
   have hb := hr2 b (List.mem_cons_self ..);have hop : ∀ x,x ∈ op -> (0 <= x ∧ x < l.length) ∧ Reach (Xs l) i x := fun x hx => hr2 x (List.mem_cons_of_mem _ hx)
   rw [List.length_cons] at hf;have e0 : rd (b :: op) 0 = b := by simp [rd]
   have e1 : ((b :: op).drop (1 : Int).toNat) = op := rfl;by_cases h3 : b ∈ out
   ·obtain ⟨r,h5,h6⟩ := ih out op hu hr hop (fun x hx => by
      rcases h0 x hx with h | h
      ·exact Or.inl h
      ·rcases List.mem_cons.1 h with rfl | h
       ·exact Or.inl h3
       ·exact Or.inr h) (fun y hy x hx => by
      rcases h1 y hy x hx with h | h
      ·exact Or.inl h
      ·rcases List.mem_cons.1 h with rfl | h
       ·exact Or.inl h3
       ·exact Or.inr h) (by omega) (by omega)
    refine ⟨r,Ev.succ ?_,h6⟩;simp only [spec_leNeeded.l0,List.length_cons,show (((op.length + 1 : Nat) : Int) > 0) = True from eq_true (by omega),show ((0 : Int) < ((op.length + 1 : Nat) : Int)) = True from eq_true (by omega),show ((1 : Int) <= ((op.length + 1 : Nat) : Int)) = True from eq_true (by omega),if_true,Option.bind_some,e0,e1];refine Ev.bind (X5 out b (by omega)) ?_;simp only [decide_eq_true h3,if_true];exact h5
   ·obtain ⟨q,hq1,hq2,hq3,hq4⟩ := Zz out b (by omega) hu;have hqr : ∀ x,x ∈ q -> (0 <= x ∧ x < l.length) ∧ Reach (Xs l) i x := fun x hx => by
     rcases (hq3 x).1 hx with h | rfl
     ·exact hr x h
     ·exact hb
    have hqd := Yi hq2;have hql := Xh hqd (fun x hx => (hqr x hx).1);have hqg : out.length + 1 <= q.length := by
     have := Ys (b :: out) q (List.nodup_cons.2 ⟨h3,hd⟩) (fun x hx => (hq3 x).2 (by rcases List.mem_cons.1 hx with rfl | h;exact Or.inr rfl;exact Or.inl h))
     rwa [List.length_cons] at this
    have hnl := Xh (Z0 hw hb.1.1 hb.1.2) (Ym hw _ hb.1.1 hb.1.2);obtain ⟨r,h5,h6⟩ := ih q (op ++ Xs l b) hq2 hqr (fun x hx => by
      rcases List.mem_append.1 hx with h | h
      ·exact hop x h
      ·exact ⟨Ym hw _ hb.1.1 hb.1.2 x h,Reach.step hb.2 h⟩) (fun x hx => by
      rcases h0 x hx with h | h
      ·exact Or.inl ((hq3 x).2 (Or.inl h))
      ·rcases List.mem_cons.1 h with rfl | h
       ·exact Or.inl ((hq3 _).2 (Or.inr rfl))
       ·exact Or.inr (List.mem_append_left _ h)) (fun y hy x hx => by
      rcases (hq3 y).1 hy with h | rfl
      ·rcases h1 y h x hx with h | h
       ·exact Or.inl ((hq3 x).2 (Or.inl h))
       ·rcases List.mem_cons.1 h with rfl | h
        ·exact Or.inl ((hq3 _).2 (Or.inr rfl))
        ·exact Or.inr (List.mem_append_left _ h)
      ·exact Or.inr (List.mem_append_right _ hx)) (by rw [List.length_append];omega) (by omega)
    refine ⟨r,Ev.succ ?_,h6⟩;simp only [spec_leNeeded.l0,List.length_cons,show (((op.length + 1 : Nat) : Int) > 0) = True from eq_true (by omega),show ((0 : Int) < ((op.length + 1 : Nat) : Int)) = True from eq_true (by omega),show ((1 : Int) <= ((op.length + 1 : Nat) : Int)) = True from eq_true (by omega),if_true,Option.bind_some,e0,e1];refine Ev.bind (X5 out b (by omega)) ?_;simp only [decide_eq_false h3,Bool.false_eq_true,if_false];refine Ev.bind hq1 ?_;have e3 : (op.length + (Xs l b).length < 17592186044416) = True := eq_true (by omega);simp only [eq_true hb.1.1,eq_true hb.1.2,if_true,Z7];change Ev (fun k => if op.length + (Xs l b).length < 17592186044416 then spec_leNeeded.l0 k l q (op ++ Xs l b) else none) r;simp only [e3,if_true];exact h5
theorem Gs (l : List S41) (hw : Xf l = true) (i : Int) (hi0 : 0 <= i) (hi1 : i < l.length) : ∃ r,Ev (fun k => spec_leNeeded.f k l i) r ∧ (r.Pairwise (· < ·) ∧ ∀ x,x ∈ r ↔ Reach (Xs l) i x) := by
 have hnd := Z0 hw hi0 hi1;have hnr := Ym hw i hi0 hi1;have hnl := Xh hnd hnr;have h16 := (Xd hw).1;obtain ⟨r,h1,h2⟩ := U4 l hw i hi0 hi1 1000 [] (Xs l i) List.Pairwise.nil (by simp) (fun x hx => ⟨hnr x hx,Reach.base hx⟩) (fun _ hx => Or.inr hx) (by simp) (by simp;omega) (by omega);refine ⟨r,?_,h2⟩;unfold spec_leNeeded.f;simp only [eq_true hi0,eq_true hi1,if_true,Z7];change Ev (fun k => (spec_l1Own.f (Xs l i)).bind fun t => spec_leNeeded.l0 k l [] t) r;simp only [Tu (Xs l i) (by omega),Option.bind_some];exact h1
theorem Jj (l : List S41) (hw : Xf l = true) (i : Int) (hi0 : 0 <= i) (hi1 : i < l.length) : ∃ r : List Int,Ev (fun k => impl_neededFor.f k l i) r ∧ Ev (fun k => spec_leNeeded.f k l i) r ∧ (∀ x,x ∈ r -> 0 <= x ∧ x < l.length) ∧ r.length <= l.length ∧ ∀ x,x ∈ r ↔ Reach (Xs l) i x := by
 obtain ⟨r,h1,h2,h3⟩ := Gm l hw i hi0 hi1;obtain ⟨q,h4,h5,h6⟩ := Gs l hw i hi0 hi1;obtain rfl : r = q := Yt h2 h5 (fun x => by rw [h3,h6]);have hr : ∀ x,x ∈ r -> 0 <= x ∧ x < l.length := fun x hx => Gi hw hi0 hi1 x ((h3 x).1 hx)
 exact ⟨r,h1,h4,hr,Xh (Yi h2) hr,h3⟩
theorem Jx (l : List S41) (D : List Int) (hD : D.length <= 1048576) (i : Int) (h0 : 0 <= i) (h1 : i < l.length) : Ev (fun k => impl_TeachOrder.p k l D i) (Xl (Xs l) D [] i) := by
 unfold impl_TeachOrder.p;have hp : Xl (Xs l) D [] i = (!(decide (i ∈ D)) && (!(decide (i ∈ ([] : List Int))) && Tr (Xs l) D i)) := rfl;rw [hp,decide_eq_false (show i ∉ ([] : List Int) by simp),Bool.not_false,Bool.true_and];refine Ev.bind (Xq D i (by omega)) ?_;cases decide (i ∈ D) with
 | true =>
  simp only [if_true,Bool.not_true,Bool.false_and];exact Ev.now _
 | false =>
  simp only [Bool.false_eq_true,if_false,Bool.not_false,Bool.true_and,eq_true h0,eq_true h1,if_true,Z7];exact Zg (Xy l i.toNat) D hD
theorem Tg (l : List S41) (hl : l.length <= 1048576) : ∀ f D,Good (Xs l) l.length D -> l.length <= D.length + f -> Ev (fun k => impl_TeachOrder.l0 k l D) (if (Yn (Yh l) (Xs l) l.length f D).length < l.length then ([],false) else (Yn (Yh l) (Xs l) l.length f D,true)) := by
 intro f
 induction f with
 | zero =>
  intro D hg hf;refine Ev.succ ?_;simp only [impl_TeachOrder.l0,show ((D.length : Int) < (l.length : Int)) = False from eq_false (by omega),if_false,Yn,show (D.length < l.length) = False from eq_false (by omega)];exact Ev.now _
 | succ f ih =>
  intro D hg hf;refine Ev.succ ?_;have hD := Xh hg.nodup hg.range;unfold Yn;by_cases h1 : l.length <= D.length
  ·have hb : X0 (Yh l) (Xl (Xs l) D []) l.length < 0 := by
    rcases Y9 (Yh l) (Xl (Xs l) D []) l.length with ⟨h2,_⟩ | ⟨h0,h2,h3⟩
    ·omega
    ·exact absurd (X4 hg.nodup hg.range h1 _ h0 h2) ((Yr _ D [] _).1 h3).1
   simp only [impl_TeachOrder.l0,show ((D.length : Int) < (l.length : Int)) = False from eq_false (by omega),if_false,eq_true hb,if_true,show (D.length < l.length) = False from eq_false (by omega)];exact Ev.now _
  ·simp only [impl_TeachOrder.l0,show ((D.length : Int) < (l.length : Int)) = True from eq_true (by omega),if_true];refine Ev.bind (Vn l hl (Xl (Xs l) D []) (fun k => impl_TeachOrder.p k l D) (fun i h0 h1 => Jx l D (by omega) i h0 h1)) ?_;by_cases h2 : X0 (Yh l) (Xl (Xs l) D []) l.length < 0
   ·simp only [eq_true h2,if_true,show (D.length < l.length) = True from eq_true (by omega)];exact Ev.now _
   ·simp only [eq_false h2,if_false,show (D.length < 17592186044416) = True from eq_true (by omega),if_true];exact ih _ (Va hg h2) (by rw [List.length_append,List.length_singleton];omega)
def Gz (l : List S41) : List Int × Bool := if Xf l then (if (Vu l).length < l.length then ([],false) else (Vu l,true)) else ([],false)
theorem Tn (l : List S41) (hl : l.length <= 1048576) (hz : Zd l) : Ev (fun k => impl_TeachOrder.f k l) (Gz l) := by
 unfold impl_TeachOrder.f Gz;refine Ev.bind (Yl l hl hz) ?_;cases Xf l with
 | false => simp only [Bool.false_eq_true,if_false];exact Ev.now _
 | true =>
  simp only [if_true];exact Tg l hl l.length [] (Zi _ _) (by simp)
def Y8 (m : List Int) (n : Int) : List Int -> List Int -> List Int
 | [],t => t
 | i :: o,t => if (i = n ∨ i ∈ m) ∧ i ∉ t then Y8 m n o (t ++ [i]) else Y8 m n o t
theorem Zs (m : List Int) (n : Int) : ∀ (o t : List Int),t.Nodup -> (Y8 m n o t).Nodup ∧ ∀ x,x ∈ Y8 m n o t ↔ x ∈ t ∨ (x ∈ o ∧ (x = n ∨ x ∈ m))
 | [],t,h => ⟨h,fun x => by simp [Y8]⟩
 | i :: o,t,h => by
  unfold Y8;by_cases hc : (i = n ∨ i ∈ m) ∧ i ∉ t
  ·rw [if_pos hc];obtain ⟨a,b⟩ := Zs m n o (t ++ [i]) (by
    rw [List.nodup_append];refine ⟨h,by simp,fun x hx y hy e => ?_⟩;rw [List.mem_singleton] at hy;subst hy;exact hc.2 (e ▸ hx))
   refine ⟨a,fun x => ?_⟩;rw [b,List.mem_append,List.mem_singleton,List.mem_cons]
   constructor
   ·rintro ((h1 | rfl) | ⟨h1,h2⟩)
    ·exact Or.inl h1
    ·exact Or.inr ⟨Or.inl rfl,hc.1⟩
    ·exact Or.inr ⟨Or.inr h1,h2⟩
   ·rintro (h1 | ⟨rfl | h1,h2⟩)
    ·exact Or.inl (Or.inl h1)
    ·exact Or.inl (Or.inr rfl)
    ·exact Or.inr ⟨h1,h2⟩
  ·rw [if_neg hc];obtain ⟨a,b⟩ := Zs m n o t h;refine ⟨a,fun x => ?_⟩;rw [b,List.mem_cons]
   constructor
   ·rintro (h1 | ⟨h1,h2⟩)
    ·exact Or.inl h1
    ·exact Or.inr ⟨Or.inr h1,h2⟩
   ·rintro (h1 | ⟨rfl | h1,h2⟩)
    ·exact Or.inl h1
    ·exact Or.inl (Classical.byContradiction fun h3 => hc ⟨h2,h3⟩)
    ·exact Or.inr ⟨h1,h2⟩
theorem Uu (l : List S41) (ord : List Int) (n : Int) (m : List Int) (hm : Ev (fun k => impl_neededFor.f k l n) m) (hml : m.length <= 1048576) (hol : ord.length <= 1048576) (hor : ∀ x,x ∈ ord -> 0 <= x ∧ x < l.length) (hl : l.length <= 1048576) :
  ∀ d j (t : List Int),j + d = ord.length -> t.Nodup -> (∀ x,x ∈ t -> 0 <= x ∧ x < l.length) -> Ev (fun k => impl_WordsForShare.l1 k l ord n t (j : Int)) (Y8 m n (ord.drop j) t) := by
 intro d
 induction d with
 | zero =>
  intro j t hj ht hr;refine Ev.succ ?_;rw [List.drop_of_length_le (by omega)];simp only [impl_WordsForShare.l1,show ((j : Int) < (ord.length : Int)) = False from eq_false (by omega),if_false,Y8];exact Ev.now _
 | succ d ih =>
  intro j t hj ht hr;refine Ev.succ ?_;have hlt : j < ord.length := by omega
  have hg : ord.getD j 0 = ord[j] := by rw [List.getD_eq_getElem?_getD,List.getElem?_eq_getElem hlt];rfl
  have e4 : wrap64 ((j : Int) + 1) = ((j + 1 : Nat) : Int) := Xb (by omega);have hL := Xh ht hr;have hx := hor _ (List.getElem_mem hlt);rw [List.drop_eq_getElem_cons hlt];unfold Y8;simp only [impl_WordsForShare.l1,show ((j : Int) < (ord.length : Int)) = True from eq_true (by omega),if_true,Xa,Vd,hg,e4];have hc : Ev (fun k => impl_WordsForShare.c k l ord[j] n) (decide (ord[j] = n ∨ ord[j] ∈ m)) := by
   unfold impl_WordsForShare.c;by_cases h1 : ord[j] = n
   ·simp only [eq_true h1,if_true,true_or,decide_true];exact Ev.now _
   ·simp only [eq_false h1,if_false,false_or];refine Ev.bind hm ?_;exact Xq m _ (by omega)
  refine Ev.bind hc ?_;by_cases h1 : ord[j] = n ∨ ord[j] ∈ m
  ·simp only [decide_eq_true h1,if_true];refine Ev.bind (Xq t _ (by omega)) ?_;by_cases h2 : ord[j] ∈ t
   ·simp only [decide_eq_true h2,if_true];rw [if_neg (fun h => h.2 h2)];exact ih (j + 1) t (by omega) ht hr
   ·simp only [decide_eq_false h2,Bool.false_eq_true,if_false,show (t.length < 17592186044416) = True from eq_true (by omega),if_true];rw [if_pos ⟨h1,h2⟩];refine ih (j + 1) (t ++ [ord[j]]) (by omega) ?_ ?_
    ·rw [List.nodup_append];refine ⟨ht,by simp,fun x hx y hy e => ?_⟩;rw [List.mem_singleton] at hy;subst hy;exact h2 (e ▸ hx)
    ·intro x hx';rcases List.mem_append.1 hx' with h | h
     ·exact hr x h
     ·rw [List.mem_singleton] at h;subst h;exact hx
  ·simp only [decide_eq_false h1,Bool.false_eq_true,if_false];rw [if_neg (fun h => h1 h.1)];exact ih (j + 1) t (by omega) ht hr
theorem Ux (l : List S41) (s : Int) (m : List Int) (hml : m.length <= 1000000) (r : List Int × Bool) : ∀ d j (now : List Int),j + d = m.length -> now.Pairwise (· < ·) -> now.length + d <= 2000000 ->
  (∀ q : List Int,q.Pairwise (· < ·) -> (∀ x,x ∈ q ↔ x ∈ now ∨ x ∈ m.drop j) -> Ev (fun k => spec_WordsForShare.l0 k l s q) r) -> Ev (fun k => spec_WordsForShare.l2 k l s now m (m.length : Int) (j : Int)) r := by
 intro d
 induction d with
 | zero =>
  intro j now hj hu hn hc;refine Ev.succ ?_;simp only [spec_WordsForShare.l2,show ((j : Int) < (m.length : Int)) = False from eq_false (by omega),if_false];exact hc now hu (fun x => by rw [List.drop_of_length_le (by omega)];simp)
 | succ d ih =>
  intro j now hj hu hn hc;refine Ev.succ ?_;have hlt : j < m.length := by omega
  have hg : m.getD j 0 = m[j] := by rw [List.getD_eq_getElem?_getD,List.getElem?_eq_getElem hlt];rfl
  have e4 : wrap64 ((j : Int) + 1) = ((j + 1 : Nat) : Int) := Xb (by omega);obtain ⟨y,hy1,hy2,hy3,hy4⟩ := Zz now m[j] (by omega) hu;simp only [spec_WordsForShare.l2,show ((j : Int) < (m.length : Int)) = True from eq_true (by omega),if_true,Xa,Vd,hg,e4];refine Ev.bind hy1 ?_;refine ih (j + 1) y (by omega) hy2 (by omega) (fun q hq hqm => hc q hq (fun x => ?_));rw [hqm,hy3,List.drop_eq_getElem_cons hlt,List.mem_cons]
  constructor
  ·rintro ((h | h) | h)
   ·exact Or.inl h
   ·exact Or.inr (Or.inl h)
   ·exact Or.inr (Or.inr h)
  ·rintro (h | h | h)
   ·exact Or.inl (Or.inl h)
   ·exact Or.inl (Or.inr h)
   ·exact Or.inr h
def Yz (t : List Int) (i : Int) : Bool := !(decide (i ∈ t))
theorem Ut (l : List S41) (s : Int) (now : List Int) (hl : l.length <= 1048576) (hn : now.length <= 1048576) (r : List Int × Bool) : ∀ d j (b : Int),j + d = l.length -> (b = -1 ∨ 0 <= b ∧ b < l.length) ->
  Ev (fun k => (spec_l1Put.f k now (Yd (Yh l) (Yz now) d j b)).bind fun t => (spec_leNeeded.f k l (Yd (Yh l) (Yz now) d j b)).bind fun u => spec_WordsForShare.l2 k l s t u (u.length : Int) 0) r -> Ev (fun k => spec_WordsForShare.l1 k l s now b l (l.length : Int) (j : Int)) r := by
 intro d
 induction d with
 | zero =>
  intro j b hj hb hc;refine Ev.succ ?_;simp only [spec_WordsForShare.l1,show ((j : Int) < (l.length : Int)) = False from eq_false (by omega),if_false];exact hc
 | succ d ih =>
  intro j b hj hb hc;refine Ev.succ ?_;have hlt : j < l.length := by omega
  have h1 : ((j : Int) < (l.length : Int)) = True := eq_true (by omega);have e4 : wrap64 ((j : Int) + 1) = ((j + 1 : Nat) : Int) := Xb (by omega);have hu : Yh l (j : Int) = (Xy l j).f2 := by unfold Yh;rw [Int.toNat_natCast]
  have hq : Yz now (j : Int) = !(decide ((j : Int) ∈ now)) := rfl;unfold Yd at hc;rw [hq] at hc;simp only [spec_WordsForShare.l1,h1,if_true,Xa,e4];refine Ev.bind (X5 now (j : Int) (by omega)) ?_;cases hd : decide ((j : Int) ∈ now) with
  | true =>
   rw [hd] at hc;simp only [Bool.not_true,Bool.false_and,Bool.false_eq_true,if_false] at hc;simp only [if_true];exact ih (j + 1) b (by omega) hb hc
  | false =>
   rw [hd] at hc;simp only [Bool.not_false,Bool.true_and] at hc;simp only [Bool.false_eq_true,if_false];by_cases h2 : b < 0
   ·simp only [eq_true h2,decide_true,Bool.true_or,if_true] at hc;simp only [eq_true h2,if_true];exact ih (j + 1) (j : Int) (by omega) (Or.inr ⟨by omega,by omega⟩) hc
   ·have hb2 : 0 <= b ∧ b < (l.length : Int) := by omega
    have hub : Yh l b = (Xy l b.toNat).f2 := rfl;simp only [eq_false h2,decide_false,Bool.false_or,hu,hub] at hc;simp only [eq_false h2,if_false,eq_true hb2.1,eq_true hb2.2,if_true,T5,Z7,Int.toNat_natCast];by_cases h3 : (Xy l j).f2 > (Xy l b.toNat).f2
    ·simp only [eq_true h3,decide_true,if_true] at hc;simp only [eq_true h3,if_true];exact ih (j + 1) (j : Int) (by omega) (Or.inr ⟨by omega,by omega⟩) hc
    ·simp only [eq_false h3,decide_false,Bool.false_eq_true,if_false] at hc;simp only [eq_false h3,if_false];exact ih (j + 1) b (by omega) hb hc
theorem Y6 (l : List S41) {a b : List Int} (h : a.Perm b) : Xe l a = Xe l b := by
 induction h with
 | nil => rfl
 | cons x _ ih => simp only [Xe,ih]
 | swap x y a => simp only [Xe];omega
 | trans _ _ ih1 ih2 => exact ih1.trans ih2
theorem Jf (l : List S41) : ∀ d j,Xk l d j = Xe l ((List.range' j d).map Int.ofNat)
 | 0,_ => rfl
 | d + 1,j => by
  rw [Xk,List.range'_succ,List.map_cons,Xe,Jf l d (j + 1)];rfl
theorem U9 {l : List S41} {t : List Int} (ht : t.Nodup) (hr : ∀ x,x ∈ t -> 0 <= x ∧ x < l.length) (ha : ∀ x : Int,0 <= x -> x < l.length -> x ∈ t) : Xe l t = Xk l l.length 0 := by
 rw [Jf];refine Y6 l ((List.perm_ext_iff_of_nodup ht ?_).2 (fun x => ?_))
 ·rw [<- List.range_eq_range'];exact List.Pairwise.map Int.ofNat (fun a b hab e => hab (Int.ofNat.inj e)) List.nodup_range
 ·rw [<- List.range_eq_range',Up];exact ⟨hr x,fun h => ha x h.1 h.2⟩
def Vs (l : List S41) (s : Int) (t : List Int) : Prop := Xf l = true ∧ (0 <= s ∧ s <= 100) ∧ t.Nodup ∧ (∀ x,x ∈ t -> 0 <= x ∧ x < l.length) ∧ (∀ x,x ∈ t -> ∀ z,z ∈ Xs l x -> z ∈ t) ∧ ¬ (wrap64 (100 * Xe l t) < wrap64 (s * Xk l l.length 0))
theorem Tl (l : List S41) (s : Int) (hw : Xf l = true) (hs : 0 <= s ∧ s <= 100) (ord : List Int) (hod : ord.length <= l.length) (hor : ∀ x,x ∈ ord -> 0 <= x ∧ x < l.length) (hoa : ∀ x : Int,0 <= x -> x < l.length -> x ∈ ord) : ∀ f (t now : List Int),t.Nodup -> (∀ x,x ∈ t -> 0 <= x ∧ x < l.length) -> now.Pairwise (· < ·) -> (∀ x,x ∈ now ↔ x ∈ t) -> (∀ x,x ∈ t -> ∀ z,z ∈ Xs l x -> z ∈ t) -> l.length <= t.length + f ->
  ∃ r : List Int × Bool,Ev (fun k => impl_WordsForShare.l0 k l s ord t) r ∧ Ev (fun k => spec_WordsForShare.l0 k l s now) r ∧ r.1.length <= l.length ∧ Vs l s r.1 := by
 intro f;have h16 := (Xd hw).1;have fin : ∀ (t now : List Int),t.Nodup -> (∀ x,x ∈ t -> 0 <= x ∧ x < l.length) -> now.Pairwise (· < ·) -> (∀ x,x ∈ now ↔ x ∈ t) -> (∀ x,x ∈ t -> ∀ z,z ∈ Xs l x -> z ∈ t) -> Xe l now = Xe l t -> ¬ (wrap64 (100 * Xe l t) < wrap64 (s * Xk l l.length 0)) ->
   ∃ r : List Int × Bool,Ev (fun k => impl_WordsForShare.l0 k l s ord t) r ∧ Ev (fun k => spec_WordsForShare.l0 k l s now) r ∧ r.1.length <= l.length ∧ Vs l s r.1 := by
  intro t now ht hr hu hm hcl hU hc;have hL := Xh ht hr;have hnr : ∀ x,x ∈ now -> 0 <= x ∧ x < l.length := fun x hx => hr x ((hm x).1 hx)
  have hnl := Xh (Yi hu) hnr;have e : Xv t = now := Yt (Zx t ht) hu (fun x => by rw [(Xx t).mem_iff,hm]);refine ⟨(now,true),Ev.succ ?_,Ev.succ ?_,hnl,hw,hs,Yi hu,hnr,fun x hx z hz => (hm z).2 (hcl x ((hm x).1 hx) z hz),by rw [hU];exact hc⟩
  ·simp only [impl_WordsForShare.l0];refine Ev.bind (Zj l t hw (by omega) hr) ?_;refine Ev.bind (Yf l hw) ?_;simp only [eq_false hc,if_false,slices_Sort_int.f,show (t.length < 4611686018427387904) = True from eq_true (by omega),if_true,Option.bind_some];refine Ev.eq (Ev.now _) ?_;show (Xv t,true) = _;rw [e]
  ·simp only [spec_WordsForShare.l0];refine Ev.bind (Z8 l now hw (by omega) hnr) ?_;refine Ev.bind (Yg l hw) ?_;rw [hU];simp only [eq_false hc,if_false];exact Ev.now _
 have full : ∀ (t : List Int),t.Nodup -> (∀ x,x ∈ t -> 0 <= x ∧ x < l.length) -> (∀ x : Int,0 <= x -> x < l.length -> x ∈ t) -> ¬ (wrap64 (100 * Xe l t) < wrap64 (s * Xk l l.length 0)) := by
  intro t ht hr ha;rw [U9 ht hr ha];obtain ⟨b0,b1⟩ := Yb hw l.length 0 (by omega);generalize Xk l l.length 0 = a at b0 b1;have hmul : s * a <= 100 * a := Int.mul_le_mul_of_nonneg_right hs.2 b0;have hmul0 : 0 <= s * a := Int.mul_nonneg hs.1 b0;rw [Xi (by omega) (by omega),Xi (by omega) (by omega)];omega
 induction f with
 | zero =>
  intro t now ht hr hu hm hcl hf;have hU : Xe l now = Xe l t := Y6 l ((List.perm_ext_iff_of_nodup (Yi hu) ht).2 hm);exact fin t now ht hr hu hm hcl hU (full t ht hr (X4 ht hr (by omega)))
 | succ f ih =>
  intro t now ht hr hu hm hcl hf;have hL := Xh ht hr;have hnr : ∀ x,x ∈ now -> 0 <= x ∧ x < l.length := fun x hx => hr x ((hm x).1 hx)
  have hnl := Xh (Yi hu) hnr;have hU : Xe l now = Xe l t := Y6 l ((List.perm_ext_iff_of_nodup (Yi hu) ht).2 hm);by_cases hc : wrap64 (100 * Xe l t) < wrap64 (s * Xk l l.length 0)
  ·have eb : X0 (Yh l) (Yz now) l.length = X0 (Yh l) (Yz t) l.length := Vt _ _ _ _ (fun i _ => by
    unfold Yz;rw [decide_eq_decide.2 (hm (i : Int))])
   rcases Y9 (Yh l) (Yz t) l.length with ⟨_,h2⟩ | ⟨h0,h1,h2⟩
   ·refine absurd hc (full t ht hr (fun x hx0 hx1 => ?_));have := h2 x.toNat (by omega);rw [show ((x.toNat : Nat) : Int) = x by omega] at this;unfold Yz at this
    simpa using this
   ·generalize hB : X0 (Yh l) (Yz t) l.length = B at h0 h1 h2 eb;have hBt : B ∉ t := by unfold Yz at h2;simpa using h2
    obtain ⟨m,hm1,hm2,hmr,hml,hmR⟩ := Jj l hw B h0 h1;obtain ⟨a1,a2⟩ := Zs m B ord t ht;have a3 : ∀ x,x ∈ Y8 m B ord t ↔ x ∈ t ∨ x = B ∨ x ∈ m := fun x => by
     rw [a2];refine or_congr_right ⟨fun h => h.2,fun h => ⟨?_,h⟩⟩;rcases h with rfl | h
     ·exact hoa _ h0 h1
     ·exact hoa _ (hmr x h).1 (hmr x h).2
    have ar : ∀ x,x ∈ Y8 m B ord t -> 0 <= x ∧ x < l.length := fun x hx => by
     rcases (a3 x).1 hx with h | rfl | h
     ·exact hr x h
     ·exact ⟨h0,h1⟩
     ·exact hmr x h
    have ag : t.length + 1 <= (Y8 m B ord t).length := by
     have := Ys (B :: t) (Y8 m B ord t) (List.nodup_cons.2 ⟨hBt,ht⟩) (fun x hx => (a3 x).2 (by rcases List.mem_cons.1 hx with rfl | h;exact Or.inr (Or.inl rfl);exact Or.inl h))
     rwa [List.length_cons] at this
    have hsr : (Xv (Y8 m B ord t)).Pairwise (· < ·) := Zx _ a1;have acl : ∀ x,x ∈ Y8 m B ord t -> ∀ z,z ∈ Xs l x -> z ∈ Y8 m B ord t := fun x hx z hz => by
     rcases (a3 x).1 hx with h | rfl | h
     ·exact (a3 z).2 (Or.inl (hcl x h z hz))
     ·exact (a3 z).2 (Or.inr (Or.inr ((hmR z).2 (Reach.base hz))))
     ·exact (a3 z).2 (Or.inr (Or.inr ((hmR z).2 (((hmR x).1 h).step hz))))
    obtain ⟨r,hr1,hr2,hr3⟩ := ih (Y8 m B ord t) (Xv (Y8 m B ord t)) a1 ar hsr (fun x => (Xx _).mem_iff) acl (by omega);refine ⟨r,Ev.succ ?_,Ev.succ ?_,hr3⟩
    ·simp only [impl_WordsForShare.l0];refine Ev.bind (Zj l t hw (by omega) hr) ?_;refine Ev.bind (Yf l hw) ?_;simp only [eq_true hc,if_true];refine Ev.bind (Vn l (by omega) (Yz t) (fun k => impl_WordsForShare.p k t) (fun i _ _ => by
      unfold impl_WordsForShare.p Yz;exact Ev.bind (Xq t i (by omega)) (Ev.now _))) ?_
     rw [hB];have h5 := Uu l ord B m hm1 (by omega) (by omega) hor (by omega) ord.length 0 t (by omega) ht hr;rw [List.drop_zero] at h5;exact Ev.bind h5 hr1
    ·simp only [spec_WordsForShare.l0];refine Ev.bind (Z8 l now hw (by omega) hnr) ?_;refine Ev.bind (Yg l hw) ?_;rw [hU];simp only [eq_true hc,if_true];refine Ut l s now (by omega) (by omega) r l.length 0 (-1) (by omega) (Or.inl rfl) ?_;change Ev (fun k => (spec_l1Put.f k now (X0 (Yh l) (Yz now) l.length)).bind fun t => (spec_leNeeded.f k l (X0 (Yh l) (Yz now) l.length)).bind fun u => spec_WordsForShare.l2 k l s t u (u.length : Int) 0) r;rw [eb];obtain ⟨y,hy1,hy2,hy3,hy4⟩ := Zz now B (by omega) hu;refine Ev.bind hy1 ?_;refine Ev.bind hm2 ?_;refine Ux l s m (by omega) r m.length 0 y (by omega) hy2 (by omega) (fun q hq hqm => ?_);have e : q = Xv (Y8 m B ord t) := Yt hq hsr (fun x => by rw [hqm,hy3,(Xx _).mem_iff,a3,hm,List.drop_zero,or_assoc]);rw [e];exact hr2
  ·exact fin t now ht hr hu hm hcl hU hc
theorem Ti (l : List S41) (s : Int) (hl : l.length <= 1048576) (hz : Zd l) : ∃ r : List Int × Bool,Ev (fun k => impl_WordsForShare.f k l s) r ∧ Ev (fun k => spec_WordsForShare.f k l s) r ∧ r.1.length <= 1048576 ∧ (r.2 = true -> Vs l s r.1) := by
 have hT := Tn l hl hz;have hG := X9 l hl hz;have bad : Ev (fun k => spec_WordsForShare.j0 k l s true) ([],false) := by
  refine Ev.succ ?_;simp only [spec_WordsForShare.j0,if_true];exact Ev.now _
 unfold Gz at hT;unfold impl_WordsForShare.f spec_WordsForShare.f;cases hw : Xf l with
 | false =>
  rw [hw] at hT hG;simp only [Bool.false_eq_true,if_false] at hT;refine ⟨([],false),Ev.bind hT ?_,Ev.bind hG ?_,by simp,fun h => nomatch h⟩
  ·simp only [Bool.false_eq_true,if_false];exact Ev.now _
  ·simp only [Bool.false_eq_true,if_false];exact bad
 | true =>
  rw [hw] at hT hG;simp only [if_true] at hT;by_cases ho : (Vu l).length < l.length
  ·simp only [eq_true ho,if_true] at hT;refine ⟨([],false),Ev.bind hT ?_,Ev.bind hG ?_,by simp,fun h => nomatch h⟩
   ·simp only [Bool.false_eq_true,if_false];exact Ev.now _
   ·simp only [if_true,X3,Option.bind_some];cases Yu s 0 100 with
    | false => simp only [Bool.false_eq_true,if_false];exact bad
    | true =>
     simp only [if_true];refine Ev.bind (Zu l hz hl) ?_;simp only [show (((Vu l).length : Int) < (l.length : Int)) = True from eq_true (by omega),if_true];exact bad
  ·simp only [eq_false ho,if_false] at hT;cases hb : Yu s 0 100 with
   | false =>
    refine ⟨([],false),Ev.bind hT ?_,Ev.bind hG ?_,by simp,fun h => nomatch h⟩
    ·simp only [if_true,X1,Option.bind_some,hb,Bool.false_eq_true,if_false];exact Ev.now _
    ·simp only [if_true,X3,Option.bind_some,hb,Bool.false_eq_true,if_false];exact bad
   | true =>
    have hs : 0 <= s ∧ s <= 100 := by unfold Yu at hb;simp at hb;omega
    by_cases ha : Xk l l.length 0 = 0
    ·refine ⟨([],false),Ev.bind hT ?_,Ev.bind hG ?_,by simp,fun h => nomatch h⟩
     ·simp only [if_true,X1,Option.bind_some,hb];refine Ev.bind (Yf l hw) ?_;simp only [eq_true ha,if_true];exact Ev.now _
     ·simp only [if_true,X3,Option.bind_some,hb];refine Ev.bind (Zu l hz hl) ?_;simp only [show (((Vu l).length : Int) < (l.length : Int)) = False from eq_false (by omega),if_false];refine Ev.bind (Yg l hw) ?_;rw [ha];exact bad
    ·obtain ⟨og,_⟩ := Gw l;have hol := Xh og.nodup og.range;have h16 := (Xd hw).1;obtain ⟨r,h1,h2,h3⟩ := Tl l s hw hs (Vu l) hol og.range (X4 og.nodup og.range (by omega)) l.length [] [] List.nodup_nil (by simp) List.Pairwise.nil (by simp) (by simp) (by simp);refine ⟨r,Ev.bind hT ?_,Ev.bind hG ?_,by omega,fun _ => h3.2⟩
     ·simp only [if_true,X1,Option.bind_some,hb];refine Ev.bind (Yf l hw) ?_;simp only [eq_false ha,if_false];exact h1
     ·simp only [if_true,X3,Option.bind_some,hb];refine Ev.bind (Zu l hz hl) ?_;simp only [show (((Vu l).length : Int) < (l.length : Int)) = False from eq_false (by omega),if_false];refine Ev.bind (Yg l hw) ?_;refine Ev.succ ?_;simp only [spec_WordsForShare.j0,show (Xk l l.length 0 == 0) = false from beq_eq_false_iff_ne.mpr ha,Bool.false_eq_true,if_false];exact h2
def Xt (a b i : Int) : Int := if i = a then b else if i = b then a else i
theorem Ju {a b i j : Int} (h : Xt a b i = Xt a b j) : i = j := by
 unfold Xt at h
 split at h <;> split at h <;> (try split at h) <;> (try split at h) <;> omega
theorem Uh {f : Int -> Int} (hf : ∀ i j,f i = f j -> i = j) : ∀ {l : List Int},l.Nodup -> (l.map f).Nodup
 | [],_ => by simp
 | x :: l,h => by
  obtain ⟨h1,h2⟩ := List.nodup_cons.1 h;rw [List.map_cons,List.nodup_cons];refine ⟨fun hm => ?_,Uh hf h2⟩;obtain ⟨y,hy,e⟩ := List.mem_map.1 hm;rw [hf _ _ e] at hy;exact h1 hy
theorem G1 {ls : List (List Int)} {y : List Int} (h : ls.flatten.Nodup) (hy : y ∈ ls) : y.Nodup := by
 obtain ⟨a,b,rfl⟩ := List.append_of_mem hy;rw [List.flatten_append,List.flatten_cons] at h;exact (List.nodup_append.1 (List.nodup_append.1 h).2.1).1
def Xc (a b : Int) (ls : List (List Int)) : List (List Int) := ls.map fun y => Xv (y.map (Xt a b))
theorem Yp (a b : Int) : ∀ ls : List (List Int),(Xc a b ls).flatten.length = ls.flatten.length
 | [] => rfl
 | y :: ls => by
  have := Yp a b ls;unfold Xc at this ⊢;rw [List.map_cons,List.flatten_cons,List.flatten_cons,List.length_append,List.length_append,this,Gv,List.length_map]
theorem Gu (l : List S41) (a b : Int) (out ls : List (List Int)) (n : Nat) (y : List Int) (r : List (List Int) × Bool) (ho : out.length <= 1048576) (hy : y.length <= 1048576) (hc : Ev (fun k => impl_SwapWords.l0 k l a b (out ++ [Xv (y.map (Xt a b))]) ls (ls.length : Int) (wrap64 ((n : Int) + 1))) r) :
  ∀ d i,i + d = y.length -> Ev (fun k => impl_SwapWords.l1 k l a b out ((y.take i).map (Xt a b)) ls (ls.length : Int) (n : Int) y (y.length : Int) (i : Int)) r := by
 intro d
 induction d with
 | zero =>
  intro i hi;refine Ev.succ ?_;have h1 : ((i : Int) < (y.length : Int)) = False := eq_false (by omega);rw [List.take_of_length_le (by omega)];simp only [impl_SwapWords.l1,h1,if_false,slices_Sort_int.f,List.length_map,show (y.length < 4611686018427387904) = True from eq_true (by omega),if_true,Option.bind_some,show (out.length < 5864062014805) = True from eq_true (by omega)];exact hc
 | succ d ih =>
  intro i hi;refine Ev.succ ?_;have hlt : i < y.length := by omega
  have h1 : ((i : Int) < (y.length : Int)) = True := eq_true (by omega);have hg : y.getD i 0 = y[i] := by rw [List.getD_eq_getElem?_getD,List.getElem?_eq_getElem hlt];rfl
  have h2 : (((y.take i).map (Xt a b)).length < 17592186044416) = True := eq_true (by rw [List.length_map,List.length_take];omega);have ht : (y.take (i + 1)).map (Xt a b) = (y.take i).map (Xt a b) ++ [Xt a b y[i]] := by rw [List.take_succ_eq_append_getElem hlt,List.map_append];rfl
  have h3 := ih (i + 1) (by omega);rw [ht] at h3;simp only [impl_SwapWords.l1,h1,if_true,Xa,Vd,hg,h2,Xb (show i < 4611686018427387904 by omega)];unfold Xt at h3 ⊢;by_cases e1 : y[i] = a
  ·simp only [e1,if_true] at h3 ⊢;exact h3
  ·by_cases e2 : y[i] = b
   ·simp only [e1,e2,if_false,if_true] at h3 ⊢;by_cases e3 : b = a
    ·simp only [e3,if_true] at h3 ⊢;exact absurd (e2.trans e3) e1
    ·simp only [e3,if_false] at h3 ⊢;exact h3
   ·simp only [e1,e2,if_false] at h3 ⊢;exact h3
theorem U0 (l : List S41) (a b : Int) (ls : List (List Int)) (hl0 : l.length <= 1048576) (hs : ls.flatten.length <= 1048576) (hl : ls.length <= 1048576) : ∀ d n,n + d = ls.length -> Ev (fun k => impl_SwapWords.l0 k l a b (Xc a b (ls.take n)) ls (ls.length : Int) (n : Int)) (if X2 l (Xc a b ls) then (Xc a b ls,true) else ([],false)) := by
 intro d
 induction d with
 | zero =>
  intro n hn;refine Ev.succ ?_;have h1 : ((n : Int) < (ls.length : Int)) = False := eq_false (by omega);rw [List.take_of_length_le (by omega)];simp only [impl_SwapWords.l0,h1,if_false];refine Ev.bind (Y1 l _ hl0 (by rw [Yp];omega) (by unfold Xc;rw [List.length_map];omega)) ?_;cases X2 l (Xc a b ls) with
  | true => simp only [if_true];exact Ev.now _
  | false => simp only [Bool.false_eq_true,if_false];exact Ev.now _
 | succ d ih =>
  intro n hn;refine Ev.succ ?_;have hlt : n < ls.length := by omega
  have h1 : ((n : Int) < (ls.length : Int)) = True := eq_true (by omega);have hle := Ye (List.getElem_mem hlt);have hol : (Xc a b (ls.take n)).length <= 1048576 := by unfold Xc;rw [List.length_map,List.length_take];omega
  simp only [impl_SwapWords.l0,h1,if_true,Xa,Zl,Z5 ls n hlt];have h2 := ih (n + 1) (by omega);have ht : Xc a b (ls.take (n + 1)) = Xc a b (ls.take n) ++ [Xv (ls[n].map (Xt a b))] := by unfold Xc;rw [List.take_succ_eq_append_getElem hlt,List.map_append];rfl
  rw [ht] at h2;have h3 := Gu l a b _ ls n ls[n] _ hol (by omega) (by rw [Xb (show n < 4611686018427387904 by omega)];exact h2) ls[n].length 0 (by omega);rw [List.take_zero,List.map_nil] at h3;exact h3
def Ya (l : List S41) (ls : List (List Int)) (a b : Int) : List (List Int) × Bool := if Xu l ls && (Yu a 0 (X7 l) && Yu b 0 (X7 l)) then (if X2 l (Xc a b ls) then (Xc a b ls,true) else ([],false)) else ([],false)
theorem Vk (l : List S41) (ls : List (List Int)) (a b : Int) (hl0 : l.length <= 1048576) (hz : Zd l) (hs : ls.flatten.length <= 1048576) (hl : ls.length <= 1048576) : Ev (fun k => impl_SwapWords.f k l ls a b) (Ya l ls a b) := by
 unfold impl_SwapWords.f Ya;have bad : Ev (fun k => impl_SwapWords.j0 k l ls a b true) ([],false) := by
  refine Ev.succ ?_;simp only [impl_SwapWords.j0,if_true];exact Ev.now _
 refine Ev.bind (V5 l ls hl0 hz hs hl) ?_;cases Xu l ls with
 | false =>
  simp only [Bool.false_eq_true,if_false,Bool.false_and];exact bad
 | true =>
  simp only [if_true,Bool.true_and,X1,Option.bind_some];change Ev (fun k => if Yu a 0 (X7 l) = true then impl_SwapWords.j0 k l ls a b (!Yu b 0 (X7 l)) else _) _;cases Yu a 0 (X7 l) with
  | false =>
   simp only [Bool.false_eq_true,if_false,Bool.false_and];exact bad
  | true =>
   simp only [if_true,Bool.true_and];cases Yu b 0 (X7 l) with
   | false =>
    simp only [Bool.not_false,Bool.false_eq_true,if_false];exact bad
   | true =>
    simp only [Bool.not_true,if_true];refine Ev.succ ?_;simp only [impl_SwapWords.j0,Bool.false_eq_true,if_false];have := U0 l a b ls hl0 hs hl ls.length 0 (by omega);exact this
theorem U5 (l : List S41) (a b : Int) (out ls : List (List Int)) (n : Nat) (y : List Int) (r : List (List Int) × Bool) (ho : out.length <= 1048576) (hy : y.length <= 1048576) (hn : y.Nodup) (hc : Ev (fun k => spec_SwapWords.l0 k l a b (out ++ [Xv (y.map (Xt a b))]) ls (ls.length : Int) (wrap64 ((n : Int) + 1))) r) :
  ∀ d i (now : List Int),i + d = y.length -> now.length <= i -> now.Pairwise (· < ·) -> (∀ x,x ∈ now ↔ x ∈ (y.take i).map (Xt a b)) -> Ev (fun k => spec_SwapWords.l1 k l a b out now ls (ls.length : Int) (n : Int) y (y.length : Int) (i : Int)) r := by
 intro d
 induction d with
 | zero =>
  intro i now hi hl hu hm;refine Ev.succ ?_;have h1 : ((i : Int) < (y.length : Int)) = False := eq_false (by omega);rw [List.take_of_length_le (by omega)] at hm;have e : now = Xv (y.map (Xt a b)) := Yt hu (Zx _ (Uh (fun _ _ h => Ju h) hn)) (fun x => by rw [hm,(Xx _).mem_iff]);simp only [spec_SwapWords.l1,h1,if_false,show (out.length < 5864062014805) = True from eq_true (by omega),if_true];rw [e];exact hc
 | succ d ih =>
  intro i now hi hl hu hm;refine Ev.succ ?_;have hlt : i < y.length := by omega
  have h1 : ((i : Int) < (y.length : Int)) = True := eq_true (by omega);have hg : y.getD i 0 = y[i] := by rw [List.getD_eq_getElem?_getD,List.getElem?_eq_getElem hlt];rfl
  have ht : (y.take (i + 1)).map (Xt a b) = (y.take i).map (Xt a b) ++ [Xt a b y[i]] := by rw [List.take_succ_eq_append_getElem hlt,List.map_append];rfl
  obtain ⟨q,hq1,hq2,hq3,hq4⟩ := Zz now (Xt a b y[i]) (by omega) hu;have h3 := ih (i + 1) q (by omega) (by omega) hq2 (fun x => by rw [hq3,ht,List.mem_append,List.mem_singleton,hm]);simp only [spec_SwapWords.l1,h1,if_true,Xa,Vd,hg,Xb (show i < 4611686018427387904 by omega)];unfold Xt at hq1;by_cases e1 : y[i] = a
  ·simp only [e1,if_true] at hq1 ⊢;exact Ev.bind hq1 h3
  ·by_cases e2 : y[i] = b
   ·by_cases e3 : b = a
    ·exact absurd (e2.trans e3) e1
    ·simp only [e2,e3,if_false,if_true] at hq1 ⊢;exact Ev.bind hq1 h3
   ·simp only [e1,e2,if_false] at hq1 ⊢;exact Ev.bind hq1 h3
theorem Gh (l : List S41) (a b : Int) (ls : List (List Int)) (hl0 : l.length <= 1048576) (hz : Zd l) (hs : ls.flatten.length <= 1048576) (hl : ls.length <= 16) (hn : ∀ y,y ∈ ls -> y.Nodup) : ∀ d n,n + d = ls.length -> Ev (fun k => spec_SwapWords.l0 k l a b (Xc a b (ls.take n)) ls (ls.length : Int) (n : Int)) (if X2 l (Xc a b ls) then (Xc a b ls,true) else ([],false)) := by
 intro d
 induction d with
 | zero =>
  intro n hn';refine Ev.succ ?_;have h1 : ((n : Int) < (ls.length : Int)) = False := eq_false (by omega);rw [List.take_of_length_le (by omega)];have ho : (Xc a b ls).length <= 16 := by unfold Xc;rw [List.length_map];omega
  simp only [spec_SwapWords.l0,h1,if_false];refine Ev.bind (Zy l _ hl0 hz (by rw [Yp];omega) (by omega)) ?_;rw [decide_eq_true ho,Bool.true_and];cases X2 l (Xc a b ls) with
  | true => simp only [if_true];exact Ev.now _
  | false => simp only [Bool.false_eq_true,if_false];exact Ev.now _
 | succ d ih =>
  intro n hn';refine Ev.succ ?_;have hlt : n < ls.length := by omega
  have h1 : ((n : Int) < (ls.length : Int)) = True := eq_true (by omega);have hle := Ye (List.getElem_mem hlt);have hol : (Xc a b (ls.take n)).length <= 1048576 := by unfold Xc;rw [List.length_map,List.length_take];omega
  simp only [spec_SwapWords.l0,h1,if_true,Xa,Zl,Z5 ls n hlt];have h2 := ih (n + 1) (by omega);have ht : Xc a b (ls.take (n + 1)) = Xc a b (ls.take n) ++ [Xv (ls[n].map (Xt a b))] := by unfold Xc;rw [List.take_succ_eq_append_getElem hlt,List.map_append];rfl
  rw [ht] at h2;exact U5 l a b _ ls n ls[n] _ hol (by omega) (hn _ (List.getElem_mem hlt)) (by rw [Xb (show n < 4611686018427387904 by omega)];exact h2) ls[n].length 0 [] (by omega) (by simp) List.Pairwise.nil (by simp)
theorem Vp (l : List S41) (ls : List (List Int)) (a b : Int) (hl0 : l.length <= 1048576) (hz : Zd l) (hs : ls.flatten.length <= 1048576) (hl : ls.length <= 1048576) : Ev (fun k => spec_SwapWords.f k l ls a b) (Ya l ls a b) := by
 unfold spec_SwapWords.f Ya;have bad : Ev (fun k => spec_SwapWords.j0 k l ls a b true) ([],false) := by
  refine Ev.succ ?_;simp only [spec_SwapWords.j0,if_true];exact Ev.now _
 refine Ev.bind (X9 l hl0 hz) ?_;cases hw : Xf l with
 | false =>
  have hg : Xu l ls = false := by unfold Xu;rw [hw];rfl
  rw [hg];simp only [Bool.false_eq_true,if_false,Bool.false_and];exact bad
 | true =>
  simp only [if_true];refine Ev.bind (Zy l ls hl0 hz hs hl) ?_;have hg : Xu l ls = (decide (ls.length <= 16) && X2 l ls) := by unfold Xu;rw [hw];rfl
  rw [<- hg];cases hg : Xu l ls with
  | false =>
   simp only [Bool.false_eq_true,if_false,Bool.false_and];exact bad
  | true =>
   simp only [if_true,Bool.true_and,X3,Option.bind_some];change Ev (fun k => if Yu a 0 (X7 l) = true then spec_SwapWords.j0 k l ls a b (!Yu b 0 (X7 l)) else _) _;cases Yu a 0 (X7 l) with
   | false =>
    simp only [Bool.false_eq_true,if_false,Bool.false_and];exact bad
   | true =>
    simp only [if_true,Bool.true_and];cases Yu b 0 (X7 l) with
    | false =>
     simp only [Bool.not_false,Bool.false_eq_true,if_false];exact bad
    | true =>
     simp only [Bool.not_true,if_true];refine Ev.succ ?_;simp only [spec_SwapWords.j0,Bool.false_eq_true,if_false];have hgg := hg;unfold Xu X2 at hgg;rw [Bool.and_eq_true,Bool.and_eq_true,Bool.and_eq_true,Bool.and_eq_true] at hgg;have hnd : ls.flatten.Nodup := ((X8 l ls.flatten []).1 hgg.2.2.2.1).2.1;have h16 := of_decide_eq_true hgg.2.1;have hny : ∀ y,y ∈ ls -> y.Nodup := fun y hy => G1 hnd hy
     exact Gh l a b ls hl0 hz hs h16 hny ls.length 0 (by omega)
def Uk (l : List S41) (ls : List (List Int)) : Int × Int × Bool := if Xf l && V4 l ls then (if (Uz l [] 0 ls).1 < 0 then (0,0,false) else ((Uz l [] 0 ls).1,(Uz l [] 0 ls).2,true)) else (0,0,false)
theorem Uj (l : List S41) (ls : List (List Int)) (hl0 : l.length <= 1048576) (hz : Zd l) (hs : ls.flatten.length <= 1048576) (hl : ls.length <= 1048576) : Ev (fun k => spec_FirstUntaught.f k l ls) (Uk l ls) := by
 unfold spec_FirstUntaught.f Uk;refine Ev.bind (X9 l hl0 hz) ?_;cases Xf l with
 | false =>
  simp only [Bool.false_eq_true,if_false,Bool.false_and];refine Ev.succ ?_;simp only [spec_FirstUntaught.j0,if_true];exact Ev.now _
 | true =>
  simp only [if_true,Bool.true_and];refine Ev.bind (Uf l ls hs hl) ?_;cases h : V4 l ls with
  | false =>
   simp only [Bool.not_false,Bool.false_eq_true,if_false];refine Ev.succ ?_;simp only [spec_FirstUntaught.j0,if_true];exact Ev.now _
  | true =>
   simp only [Bool.not_true,if_true];refine Ev.succ ?_;simp only [spec_FirstUntaught.j0,Bool.false_eq_true,if_false];have hf : Xo l [] ls.flatten = true := by unfold V4 at h;rw [Bool.and_eq_true] at h;exact h.1
   refine Ev.bind (Zp l ls hz hs hl (Zk hl0 hf)) ?_;by_cases h1 : (Uz l [] 0 ls).1 < 0
   ·simp only [h1,if_true];exact Ev.now _
   ·simp only [h1,if_false];exact Ev.now _
theorem Ur (l : List S41) (ls : List (List Int)) (n : Nat) (y : List Int) (r : Int × Int × Bool) (hn : n < ls.length) (hs : ls.flatten.length <= 1048576) (hl : ls.length <= 1048576) (hyl : y.length <= 1048576) (hy : ∀ x,x ∈ y -> 0 <= x ∧ x < l.length) (hc : Ev (fun k => impl_FirstUntaught.l0 k l ls ls (ls.length : Int) (wrap64 ((n : Int) + 1))) r) : ∀ d i,i + d = y.length -> Ev (fun k => impl_FirstUntaught.l1 k l ls (n : Int) ls (ls.length : Int) (n : Int) y (y.length : Int) (i : Int)) (match (y.drop i).find? (fun x => !Xp l (ls.take n).flatten x) with | some x => ((n : Int),x,true) | none => r) := by
 intro d
 induction d with
 | zero =>
  intro i hi;refine Ev.succ ?_;have h1 : ((i : Int) < (y.length : Int)) = False := eq_false (by omega);rw [List.drop_of_length_le (by omega)];simp only [impl_FirstUntaught.l1,h1,if_false,List.find?_nil];exact hc
 | succ d ih =>
  intro i hi;refine Ev.succ ?_;have hlt : i < y.length := by omega
  have h1 : ((i : Int) < (y.length : Int)) = True := eq_true (by omega);have h2 : ((n : Int) <= (ls.length : Int)) = True := eq_true (by omega);have hg : y.getD i 0 = y[i] := by rw [List.getD_eq_getElem?_getD,List.getElem?_eq_getElem hlt];rfl
  have hb := hy y[i] (List.getElem_mem hlt);have ht := Xz ls n;rw [List.drop_eq_getElem_cons hlt,List.find?_cons];simp only [impl_FirstUntaught.l1,h1,h2,if_true,Xa,Vd,hg,eq_true hb.1,eq_true hb.2,Int.toNat_natCast,Xb (show i < 4611686018427387904 by omega),Z7];refine Ev.bind (Y2 (ls.take n) (by omega) (by rw [List.length_take];omega)) ?_;refine Ev.bind (Zg (Xy l y[i].toNat) (ls.take n).flatten (by omega)) ?_;change Ev (fun k => if Xp l (ls.take n).flatten y[i] = true then _ else _) _;cases Xp l (ls.take n).flatten y[i] with
  | true =>
   simp only [if_true,Bool.not_true];exact ih (i + 1) (by omega)
  | false =>
   simp only [Bool.false_eq_true,if_false,Bool.not_false];exact Ev.now _
theorem Ul (l : List S41) (ls : List (List Int)) (hs : ls.flatten.length <= 1048576) (hl : ls.length <= 1048576) (hy : ∀ x,x ∈ ls.flatten -> 0 <= x ∧ x < l.length) : ∀ d n,n + d = ls.length -> Ev (fun k => impl_FirstUntaught.l0 k l ls ls (ls.length : Int) (n : Int)) (if (Uz l (ls.take n).flatten n (ls.drop n)).1 < 0 then (0,0,false) else ((Uz l (ls.take n).flatten n (ls.drop n)).1,(Uz l (ls.take n).flatten n (ls.drop n)).2,true)) := by
 intro d
 induction d with
 | zero =>
  intro n hn;refine Ev.succ ?_;have h1 : ((n : Int) < (ls.length : Int)) = False := eq_false (by omega);rw [List.drop_of_length_le (by omega)];simp only [impl_FirstUntaught.l0,h1,if_false,Uz];exact Ev.now _
 | succ d ih =>
  intro n hn;refine Ev.succ ?_;have hlt : n < ls.length := by omega
  have h1 : ((n : Int) < (ls.length : Int)) = True := eq_true (by omega);have hle := Ye (List.getElem_mem hlt);simp only [impl_FirstUntaught.l0,h1,if_true,Xa,Zl,Z5 ls n hlt];have h2 := ih (n + 1) (by omega);rw [Xn ls n hlt] at h2;have h3 := Ur l ls n ls[n] _ hlt hs hl (by omega) (fun x hx => hy x (List.mem_flatten.2 ⟨_,List.getElem_mem hlt,hx⟩)) (by rw [Xb (show n < 4611686018427387904 by omega)];exact h2) ls[n].length 0 (by omega);rw [List.drop_zero] at h3;rw [List.drop_eq_getElem_cons hlt];refine Ev.eq h3 ?_;have e : Uz l (ls.take n).flatten n (ls[n] :: ls.drop (n + 1)) = match ls[n].find? (fun x => !Xp l (ls.take n).flatten x) with
   | some x => ((n : Int),x)
   | none => Uz l ((ls.take n).flatten ++ ls[n]) (n + 1) (ls.drop (n + 1)) := rfl
  rw [e];cases ls[n].find? (fun x => !Xp l (ls.take n).flatten x) with
  | none => rfl
  | some x =>
   have h4 : ¬ ((n : Int) < 0) := by omega
   simp only [h4,if_false]
theorem Um (l : List S41) (ls : List (List Int)) (hl0 : l.length <= 1048576) (hz : Zd l) (hs : ls.flatten.length <= 1048576) (hl : ls.length <= 1048576) : Ev (fun k => impl_FirstUntaught.f k l ls) (Uk l ls) := by
 unfold impl_FirstUntaught.f Uk;refine Ev.bind (Y2 ls hs hl) ?_;refine Ev.bind (Yl l hl0 hz) ?_;have bad : Ev (fun k => impl_FirstUntaught.j0 k l ls true) (0,0,false) := by
  refine Ev.succ ?_;simp only [impl_FirstUntaught.j0,if_true];exact Ev.now _
 cases Xf l with
 | false =>
  simp only [Bool.false_eq_true,if_false,Bool.false_and];exact bad
 | true =>
  simp only [if_true,Bool.true_and];unfold V4;have ho := Vm l ls.flatten;by_cases h16 : ls.length <= 16
  ·have g1 : ((ls.length : Int) > 16) = False := eq_false (by omega);simp only [g1,if_false,h16,decide_true,Bool.and_true,impl_allWithin.f,Option.bind_some];change Ev (fun k => if (ls.flatten.all fun x => decide (0 <= x ∧ x <= X7 l)) = true then _ else _) _;cases h3 : (ls.flatten.all fun x => decide (0 <= x ∧ x <= X7 l)) with
   | false =>
    rw [h3,Bool.false_and] at ho;rw [ho];simp only [Bool.false_eq_true,if_false];exact bad
   | true =>
    rw [h3,Bool.true_and] at ho;simp only [if_true];obtain ⟨t,ht,hd⟩ := Zc ls.flatten (by omega);simp only [ht,Option.bind_some];by_cases h4 : ls.flatten.Nodup
    ·have h5 : (((t.length : Int)) != ((ls.flatten.length : Int))) = false := by have := hd.2 h4;simp [this]
     rw [decide_eq_true h4] at ho;rw [ho,h5];simp only [if_true];refine Ev.succ ?_;simp only [impl_FirstUntaught.j0,Bool.false_eq_true,if_false];have := Ul l ls hs hl (Zk hl0 ho) ls.length 0 (by omega)
     rwa [List.take_zero,List.drop_zero,List.flatten_nil] at this
    ·have h5 : (((t.length : Int)) != ((ls.flatten.length : Int))) = true := by
      have : t.length ≠ ls.flatten.length := fun e => h4 (hd.1 e)
      rw [bne_iff_ne];intro e;exact this (by omega)
     rw [decide_eq_false h4] at ho;rw [ho,h5];simp only [Bool.false_eq_true,if_false];exact bad
  ·have g1 : ((ls.length : Int) > 16) = True := eq_true (by omega);simp only [g1,if_true,h16,decide_false,Bool.and_false,Bool.false_eq_true,if_false];exact bad
def Ts (l : List S41) (ls : List (List Int)) : Bool × Bool := if Xf l && decide (ls.length <= 16) then (X2 l ls,true) else (false,false)
theorem Zw (l : List S41) (ls : List (List Int)) (hl0 : l.length <= 1048576) (hz : Zd l) (hs : ls.flatten.length <= 1048576) (hl : ls.length <= 1048576) : Ev (fun k => spec_AreLessons.f k l ls) (Ts l ls) := by
 unfold spec_AreLessons.f Ts;refine Ev.bind (X9 l hl0 hz) ?_;cases Xf l with
 | false =>
  simp only [Bool.false_eq_true,if_false,Bool.false_and];exact Ev.now _
 | true =>
  simp only [if_true,Bool.true_and];by_cases h : ls.length <= 16
  ·have h2 : ((ls.length : Int) > 16) = False := eq_false (by omega);simp only [h2,h,if_false,if_true,decide_true];refine Ev.bind (Zy l ls hl0 hz hs hl) ?_;simp only [h,decide_true,Bool.true_and];exact Ev.now _
  ·have h2 : ((ls.length : Int) > 16) = True := eq_true (by omega);simp only [h2,h,if_false,if_true,decide_false,Bool.false_eq_true];exact Ev.now _
theorem Z4 (l : List S41) (ls : List (List Int)) (hl0 : l.length <= 1048576) (hz : Zd l) (hs : ls.flatten.length <= 1048576) (hl : ls.length <= 1048576) : Ev (fun k => impl_AreLessons.f k l ls) (Ts l ls) := by
 unfold impl_AreLessons.f Ts;refine Ev.bind (Yl l hl0 hz) ?_;cases Xf l with
 | false =>
  simp only [Bool.false_eq_true,if_false,Bool.false_and];exact Ev.now _
 | true =>
  simp only [if_true,Bool.true_and];by_cases h : ls.length <= 16
  ·have h2 : ((ls.length : Int) > 16) = False := eq_false (by omega);simp only [h2,h,if_false,if_true,decide_true];exact Ev.bind (Y1 l ls hl0 hs hl) (Ev.now _)
  ·have h2 : ((ls.length : Int) > 16) = True := eq_true (by omega);simp only [h2,h,if_false,if_true,decide_false,Bool.false_eq_true];exact Ev.now _
end Go.Proofs.YtgnijnlgbelifaaGreat.Pure
namespace Go.Proofs.YtgnijnlgbelifaaGreat.Pure
open Go.RowKit Go.Proofs.YtgnijnlgbelifaaGreat.Q Go.Proofs.YtgnijnlgbelifaaGreatW.PrintWords Go.Proofs.YtgnijnlgbelifaaGreatW.PrintLast
theorem Un {l : List Int} (hu : U8 l) : ∃ (L : List S41) (R : List (List Int)) (a1 s1 a2 s2 : Int),Ev (fun k => spec_l1Cur_words.f k l 0 0) (L,a1,s1) ∧ Ev (fun k => spec_l1Cur_lessonsFor.f k l a1 s1 L) (R,a2,s2) ∧ L.length <= 17 ∧ WSh 10 L ∧ LSh R ∧ 0 <= a1 ∧ a1 <= 200 ∧ 0 <= a2 ∧ a2 <= 230 := by
 obtain ⟨L,a1,s1,hE,h1,h2,p1,q1⟩ := Vv hu (a := 0) 0 (by decide) (by decide);obtain ⟨R,a2,s2,hR,h3,p2,q2⟩ := Jm hu L h1 (h2.wsz (by decide)) a1 s1 p1 (by omega);exact ⟨L,R,a1,s1,a2,s2,hE,hR,h1,h2,h3,p1,by omega,by omega,by omega⟩
theorem Gx {l : List Int} (hu : U8 l) : ∃ L R n,Ev (fun k => spec_DrawCoverageAfter.f k l) (L,R,n) ∧ L.length <= 17 ∧ WSh 10 L ∧ LSh R := by
 obtain ⟨L,R,a1,s1,a2,s2,hE,hR,h1,h2,h3,p1,q1,p2,q2⟩ := Un hu;have h4 := h3.1;obtain ⟨y3,a3,s3,e3,_,p3,q3⟩ := Xw hu s2 (a := a2) (by omega) (by omega) (wrap64 ((R.length : Int) + 1)) (by rw [Xb (by omega)];omega) (by rw [Xb (by omega)];omega);obtain ⟨y4,a4,s4,e4,_,p4,q4⟩ := Yj hu s3 (a := a3) (by omega) (by omega) [0,1,(R.length : Int),y3,wrap64 ((R.length : Int) + 1),-1] (by simp) (by simp);refine ⟨L,R,y4,?_,h1,h2,h3⟩;unfold spec_DrawCoverageAfter.f;refine Ev.bind hE (Ev.bind hR ?_);simp only [e3,e4,Option.bind_some];exact Ev.now _
theorem Us {l : List Int} (hu : U8 l) : ∃ L n,Ev (fun k => spec_DrawWordsForShare.f k l) (L,n) ∧ L.length <= 17 ∧ WSh 10 L := by
 obtain ⟨L,a1,s1,hE,h1,h2,p1,q1⟩ := Vv hu (a := 0) 0 (by decide) (by decide);obtain ⟨y3,a3,s3,e3,_,p3,q3⟩ := Yj hu s1 (a := a1) (by omega) (by omega) [10,-1,101] (by simp) (by simp);obtain ⟨y4,a4,s4,e4,_,p4,q4⟩ := Yj hu s3 (a := a3) (by omega) (by omega) [0,50,80,99,100,y3] (by simp) (by simp);refine ⟨L,y4,?_,h1,h2⟩;unfold spec_DrawWordsForShare.f;refine Ev.bind hE ?_;simp only [e3,e4,Option.bind_some];exact Ev.now _
theorem Gb {l : List Int} (hu : U8 l) : ∃ L R a b,Ev (fun k => spec_DrawSwapWords.f k l) (L,R,a,b) ∧ L.length <= 17 ∧ WSh 10 L ∧ LSh R := by
 obtain ⟨L,R,a1,s1,a2,s2,hE,hR,h1,h2,h3,p1,q1,p2,q2⟩ := Un hu;obtain ⟨y3,a3,s3,e3,_,p3,q3⟩ := Vc hu L (by omega) s2 (a := a2) (by omega) (by omega);obtain ⟨y4,a4,s4,e4,_,p4,q4⟩ := Vc hu L (by omega) s3 (a := a3) (by omega) (by omega);refine ⟨L,R,y3,y4,?_,h1,h2,h3⟩;unfold spec_DrawSwapWords.f;refine Ev.bind hE (Ev.bind hR ?_);refine Ev.bind (Ev.k (fun _ => rfl) e3) ?_;refine Ev.bind (Ev.k (fun _ => rfl) e4) ?_;exact Ev.now _
theorem G2 {l : List Int} (hu : U8 l) : ∃ L R,Ev (fun k => spec_DrawAreLessons.f k l) (L,R) ∧ Ev (fun k => spec_DrawFirstUntaught.f k l) (L,R) ∧ L.length <= 17 ∧ WSh 10 L ∧ LSh R := by
 obtain ⟨L,R,a1,s1,a2,s2,hE,hR,h1,h2,h3,p1,q1,p2,q2⟩ := Un hu;have h : Ev (fun k => spec_DrawAreLessons.f k l) (L,R) := by
  unfold spec_DrawAreLessons.f;exact Ev.bind hE (Ev.bind hR (Ev.now _))
 refine ⟨L,R,h,?_,h1,h2,h3⟩;unfold spec_DrawFirstUntaught.f;exact Ev.bind h (Ev.now _)
theorem Gf {l : List Int} (hu : U8 l) : ∃ L i,Ev (fun k => spec_DrawNeededFor.f k l) (L,i) ∧ L.length <= 17 ∧ WSh 10 L := by
 obtain ⟨L,a1,s1,hE,h1,h2,p1,q1⟩ := Vv hu (a := 0) 0 (by decide) (by decide);obtain ⟨y3,a3,s3,e3,_,p3,q3⟩ := Vc hu L (by omega) s1 (a := a1) (by omega) (by omega);refine ⟨L,y3,?_,h1,h2⟩;unfold spec_DrawNeededFor.f;refine Ev.bind hE ?_;simp only [e3,Option.bind_some];exact Ev.now _
theorem Gk (l : List S41) (i : Int) (hl : l.length <= 1048576) (hz : Zd l) : ∃ r : List Int × Bool,Ev (fun k => impl_NeededFor.f k l i) r ∧ Ev (fun k => spec_NeededFor.f k l i) r ∧ r.1.length <= 1048576 ∧ (Xf l = true -> 0 <= i -> i < l.length -> ¬ Reach (Xs l) i i -> r.2 = true ∧ ∀ x,x ∈ r.1 ↔ Reach (Xs l) i x) := by
 have hA := Yl l hl hz;have hG := X9 l hl hz;unfold impl_NeededFor.f spec_NeededFor.f;have bad : Ev (fun k => impl_NeededFor.j0 k l i true) ([],false) := by
  refine Ev.succ ?_;simp only [impl_NeededFor.j0,if_true];exact Ev.now _
 cases hw : Xf l with
 | false =>
  rw [hw] at hA hG;refine ⟨([],false),Ev.bind hA ?_,Ev.bind hG ?_,by simp,fun h => nomatch h⟩
  ·simp only [Bool.false_eq_true,if_false];exact bad
  ·simp only [Bool.false_eq_true,if_false];exact Ev.now _
 | true =>
  rw [hw] at hA hG;have ht : wrap64 ((l.length : Int) - 1) = (l.length : Int) - 1 := Xi (by omega) (by omega);cases hb : Yu i 0 ((l.length : Int) - 1) with
  | false =>
   refine ⟨([],false),Ev.bind hA ?_,Ev.bind hG ?_,by simp,fun _ h0 h1 => ?_⟩
   ·simp only [if_true,X1,Option.bind_some,ht,hb,Bool.not_false];exact bad
   ·simp only [if_true,X3,Option.bind_some,ht,hb,Bool.false_eq_true,if_false];exact Ev.now _
   ·unfold Yu at hb;rw [decide_eq_false_iff_not] at hb;omega
  | true =>
   have hi : 0 <= i ∧ i < l.length := by
    unfold Yu at hb;rw [decide_eq_true_eq] at hb;omega
   obtain ⟨r,h1,h2,h3,h4,h5⟩ := Jj l hw i hi.1 hi.2;by_cases hm : i ∈ r
   ·refine ⟨([],false),Ev.bind hA ?_,Ev.bind hG ?_,by simp,fun _ _ _ hn => absurd ((h5 i).1 hm) hn⟩
    ·simp only [if_true,X1,Option.bind_some,ht,hb,Bool.not_true];refine Ev.succ ?_;simp only [impl_NeededFor.j0,Bool.false_eq_true,if_false];refine Ev.bind h1 (Ev.bind (Xq r i (by omega)) ?_);simp only [decide_eq_true hm,if_true];exact Ev.now _
    ·simp only [if_true,X3,Option.bind_some,ht,hb];refine Ev.bind h2 (Ev.bind (X5 r i (by omega)) ?_);simp only [decide_eq_true hm,if_true];exact Ev.now _
   ·refine ⟨(r,true),Ev.bind hA ?_,Ev.bind hG ?_,by show r.length <= _;omega,fun _ _ _ _ => ⟨rfl,h5⟩⟩
    ·simp only [if_true,X1,Option.bind_some,ht,hb,Bool.not_true];refine Ev.succ ?_;simp only [impl_NeededFor.j0,Bool.false_eq_true,if_false];refine Ev.bind h1 (Ev.bind (Xq r i (by omega)) ?_);simp only [decide_eq_false hm,Bool.false_eq_true,if_false];exact Ev.now _
    ·simp only [if_true,X3,Option.bind_some,ht,hb];refine Ev.bind h2 (Ev.bind (X5 r i (by omega)) ?_);simp only [decide_eq_false hm,Bool.false_eq_true,if_false];exact Ev.bind h2 (Ev.now _)
theorem Vh {l : List S41} {d e : List Int} (h : ∀ x,x ∈ d ↔ x ∈ e) (i : Int) : Xp l d i = Xp l e i := by
 unfold Xp
 congr 1
 funext x
 rw [decide_eq_decide];exact h x
theorem U1 {l : List S41} : ∀ (ls : List (List Int)) (d : List Int),X6 l d ls = true -> ∀ n (hn : n < ls.length),∀ i,i ∈ ls[n] -> Xp l (d ++ (ls.take n).flatten) i = true
 | [],_,_,n,hn,_,_ => absurd hn (by simp)
 | y :: ls,d,h,n,hn,i,hi => by
  unfold X6 at h;rw [Bool.and_eq_true,Bool.and_eq_true] at h;cases n with
  | zero =>
   rw [List.take_zero,List.flatten_nil,List.append_nil];exact List.all_eq_true.1 h.2.1 i hi
  | succ n =>
   have := U1 ls (d ++ y) h.2.2 n (by rw [List.length_cons] at hn;omega) i hi
   rwa [List.append_assoc,<- List.flatten_cons,<- List.take_succ_cons] at this
theorem T1 {l : List S41} {ls : List (List Int)} (hs : X6 l [] ls = true) {n : Nat} (hn : n < ls.length) {i : Int} (hi : i ∈ ls[n]) : ∀ x,Reach (Xs l) i x -> x ∈ (ls.take n).flatten := by
 have key : ∀ m (hm : m < ls.length),∀ j,j ∈ ls[m] -> ∀ x,x ∈ Xs l j -> x ∈ (ls.take m).flatten := fun m hm j hj x hx => by
  have := U1 ls [] hs m hm j hj;unfold Xp at this;rw [List.nil_append,List.all_eq_true] at this;exact of_decide_eq_true (this x hx)
 refine Yc (key n hn i hi) (fun y hy x hx => ?_);obtain ⟨z,hz,hyz⟩ := List.mem_flatten.1 hy;obtain ⟨m,hm,rfl⟩ := List.getElem_of_mem hz;rw [List.length_take] at hm;rw [List.getElem_take] at hyz;have h1 := key m (by omega) y hyz x hx;obtain ⟨z2,hz2,hxz⟩ := List.mem_flatten.1 h1;refine List.mem_flatten.2 ⟨z2,?_,hxz⟩;rw [show ls.take m = (ls.take n).take m by rw [List.take_take,Nat.min_eq_left (by omega)]] at hz2;exact List.mem_of_mem_take hz2
theorem Zq {l : List S41} {ls : List (List Int)} (h : X2 l ls = true) : ls.flatten.length = l.length ∧ ls.flatten.Nodup ∧ X6 l [] ls = true := by
 unfold X2 at h;rw [Bool.and_eq_true,Bool.and_eq_true,decide_eq_true_eq,X8] at h;exact ⟨h.1,h.2.1.2.1,h.2.2⟩
theorem J8 {l : List S41} {ls : List (List Int)} (h : X2 l ls = true) {n : Nat} (hn : n < ls.length) {i : Int} (hi : i ∈ ls[n]) : ¬ Reach (Xs l) i i := by
 intro hr;obtain ⟨_,hnd,hs⟩ := Zq h;have h1 := T1 hs hn hi i hr;rw [<- List.take_append_drop n ls,List.flatten_append,List.nodup_append,V0 ls n hn] at hnd;exact hnd.2.2 i h1 i (List.mem_append.2 (Or.inl hi)) rfl
theorem Vw {l : List S41} {f : List Int -> List Int} (hf : ∀ y,(f y).Perm y) : ∀ (ls : List (List Int)) (d e : List Int),(∀ x,x ∈ d ↔ x ∈ e) -> X6 l e (ls.map f) = X6 l d ls
 | [],_,_,_ => rfl
 | y :: ls,d,e,h => by
  rw [List.map_cons];unfold X6;rw [(hf y).length_eq,Vw hf ls (d ++ y) (e ++ f y) (fun x => by rw [List.mem_append,List.mem_append,h,(hf y).mem_iff])]
  congr 2
  rw [Bool.eq_iff_iff,List.all_eq_true,List.all_eq_true];exact ⟨fun a x hx => by rw [Vh h];exact a x ((hf y).mem_iff.2 hx),fun a x hx => by rw [<- Vh h];exact a x ((hf y).mem_iff.1 hx)⟩
theorem Ui {f : List Int -> List Int} (hf : ∀ y,(f y).Perm y) : ∀ ls : List (List Int),(ls.map f).flatten.Perm ls.flatten
 | [] => List.Perm.refl _
 | y :: ls => by
  rw [List.map_cons,List.flatten_cons,List.flatten_cons];exact (hf y).append (Ui hf ls)
theorem J2 {l : List S41} {f : List Int -> List Int} (hf : ∀ y,(f y).Perm y) {ls : List (List Int)} (h : X2 l ls = true) : X2 l (ls.map f) = true := by
 have hp := Ui hf ls;unfold X2 at h ⊢;rw [Bool.and_eq_true,Bool.and_eq_true,decide_eq_true_eq,X8] at h;rw [Bool.and_eq_true,Bool.and_eq_true,decide_eq_true_eq,X8,Vw hf ls [] [] (fun _ => Iff.rfl),hp.length_eq,hp.nodup_iff];exact ⟨h.1,⟨fun x hx => h.2.1.1 x (hp.mem_iff.1 hx),h.2.1.2.1,fun x hx => h.2.1.2.2 x (hp.mem_iff.1 hx)⟩,h.2.2⟩
theorem J4 (a b i : Int) : Xt b a (Xt a b i) = i := by
 unfold Xt
 split <;> (try split) <;> (try split) <;> omega
theorem Ja (a b : Int) (ls : List (List Int)) : Xc b a (Xc a b ls) = ls.map (fun y => Xv ((Xv (y.map (Xt a b))).map (Xt b a))) := by
 unfold Xc;rw [List.map_map];rfl
theorem Jn (a b : Int) (y : List Int) : (Xv ((Xv (y.map (Xt a b))).map (Xt b a))).Perm y := by
 refine (Xx _).trans (((Xx _).map _).trans ?_);rw [List.map_map,show (Xt b a ∘ Xt a b) = id from funext fun i => J4 a b i,List.map_id]
theorem G0 {l : List S41} {ls : List (List Int)} {a b : Int} (h : (Ya l ls a b).2 = true) : Xu l ls = true ∧ Yu a 0 (X7 l) = true ∧ Yu b 0 (X7 l) = true ∧ X2 l (Xc a b ls) = true ∧ Ya l ls a b = (Xc a b ls,true) := by
 unfold Ya at h ⊢
 split at h
 ·rename_i hc
  rw [if_pos hc];rw [Bool.and_eq_true,Bool.and_eq_true] at hc
  split at h
  ·rename_i hb
   rw [if_pos hb];exact ⟨hc.1,hc.2.1,hc.2.2,hb,rfl⟩
  ·cases h
 ·cases h
theorem Jb {l : List S41} {ls : List (List Int)} {a b : Int} (h : (Ya l ls a b).2 = true) : Ya l (Ya l ls a b).1 b a = (Xc b a (Xc a b ls),true) := by
 obtain ⟨h1,h2,h3,h4,h5⟩ := G0 h;rw [h5];show Ya l (Xc a b ls) b a = _;unfold Xu at h1;rw [Bool.and_eq_true,Bool.and_eq_true,decide_eq_true_eq] at h1;have hl : (Xc a b ls).length = ls.length := by unfold Xc;rw [List.length_map]
 unfold Ya Xu;rw [h1.1,h4,h2,h3,hl,decide_eq_true h1.2.1,if_pos (by rfl),Ja,if_pos (J2 (Jn a b) h1.2.2)]
theorem Vz (l : List S41) (ls : List (List Int)) (a b : Int) : (Ya l ls a b).1.length <= ls.length ∧ (Ya l ls a b).1.flatten.length <= ls.flatten.length := by
 unfold Ya
 split
 ·split
  ·refine ⟨?_,?_⟩
   ·show (Xc a b ls).length <= _;unfold Xc;rw [List.length_map];omega
   ·show (Xc a b ls).flatten.length <= _;rw [Yp];omega
  ·exact ⟨Nat.zero_le _,Nat.zero_le _⟩
 ·exact ⟨Nat.zero_le _,Nat.zero_le _⟩
theorem Jr {l : List S41} {ls : List (List Int)} {n : Int} (hl0 : l.length <= 1048576) (h : (Y7 l ls n).2 = true) : Xu l ls = true ∧ 0 <= (Y7 l ls n).1 ∧ (Y7 l ls n).1 <= 100 ∧ Y7 l ls (ls.length : Int) = (100,true) ∧ Y7 l ls 0 = (0,true) := by
 by_cases hc : (Xu l ls && (Yu n 0 ls.length && !(Xk l l.length 0 == 0))) = true
 ·have e : Y7 l ls n = (Int.tdiv (100 * Xe l (ls.take n.toNat).flatten) (Xk l l.length 0),true) := by unfold Y7;rw [if_pos hc]
  rw [Bool.and_eq_true,Bool.and_eq_true] at hc;obtain ⟨hg,_,hu⟩ := hc;have hu0 : Xk l l.length 0 ≠ 0 := by
   rw [Bool.not_eq_true',beq_eq_false_iff_ne] at hu;exact hu
  obtain ⟨hw,h16,hfl,hr⟩ := Yk hl0 hg;have hgl : X2 l ls = true := by
   unfold Xu at hg;rw [Bool.and_eq_true,Bool.and_eq_true] at hg;exact hg.2.2
  obtain ⟨_,hnd,_⟩ := Zq hgl;have hall : Xe l ls.flatten = Xk l l.length 0 := U9 hnd hr (X4 hnd hr (by omega));obtain ⟨b0,b1⟩ := Yb hw l.length 0 (by omega);have hsp : ∀ m : Nat,0 <= Xe l (ls.take m).flatten ∧ Xe l (ls.take m).flatten <= Xk l l.length 0 := fun m => by
   obtain ⟨c0,_,_,_⟩ := Zr m hl0 hg;have h2 : Xe l ls.flatten = Xe l (ls.take m).flatten + Xe l (ls.drop m).flatten := by
    rw [<- Za,<- List.flatten_append,List.take_append_drop]
   obtain ⟨d0,_⟩ := Yo hw (ls.drop m).flatten (fun x hx => hr x (by
    obtain ⟨y,hy,hxy⟩ := List.mem_flatten.1 hx;exact List.mem_flatten.2 ⟨y,List.mem_of_mem_drop hy,hxy⟩))
   rw [hall] at h2;omega
  rw [e];have hin : ∀ m : Nat,m <= ls.length -> Y7 l ls (m : Int) = (Int.tdiv (100 * Xe l (ls.take m).flatten) (Xk l l.length 0),true) := fun m hm => by
   unfold Y7;rw [if_pos]
   ·rw [Int.toNat_natCast]
   ·rw [hg,hu,show Yu (m : Int) 0 (ls.length : Int) = true by unfold Yu;exact decide_eq_true ⟨by omega,by omega⟩];rfl
  have h3 := hin ls.length (Nat.le_refl _);have h4 := hin 0 (Nat.zero_le _);rw [List.take_length,hall] at h3;rw [List.take_zero,List.flatten_nil,show Xe l [] = 0 from rfl] at h4;obtain ⟨c0,c1⟩ := hsp n.toNat;refine ⟨hg,?_,?_,?_,?_⟩
  ·show 0 <= Int.tdiv _ _;exact Int.tdiv_nonneg (by omega) b0
  ·show Int.tdiv _ _ <= 100;rw [Int.tdiv_eq_ediv_of_nonneg (by omega)];exact Int.ediv_le_of_le_mul (by omega) (by omega)
  ·rw [h3,Int.mul_tdiv_cancel _ hu0]
  ·show Y7 l ls ((0 : Nat) : Int) = _;rw [h4];simp
 ·have e : Y7 l ls n = (0,false) := by unfold Y7;rw [if_neg hc]
  rw [e] at h;cases h
theorem Tq {x1 : List Int} (hu : U8 x1) : Ev (fun k => laws_FnTaught.j13 k x1) true := by
 obtain ⟨L,R,hA,hF,h1,h2,h3⟩ := G2 hu;obtain ⟨M,i,hN,g1,g2⟩ := Gf hu;have hz : Zd L := h2.wsz (by decide);have hf := h3.flat;have hl := h3.1;obtain ⟨r,hr1,hr2,hr3,_⟩ := Gk M i (by omega) (g2.wsz (by decide));refine Ev.succ ?_;simp only [laws_FnTaught.j13];refine Ev.bind hF ?_;refine Ev.bind (Um L R (by omega) hz (by omega) (by omega)) ?_;refine Ev.bind (Uj L R (by omega) hz (by omega) (by omega)) ?_;refine Ev.bind hA ?_;refine Ev.bind (Z4 L R (by omega) hz (by omega) (by omega)) ?_;refine Ev.bind (Zw L R (by omega) hz (by omega) (by omega)) ?_;refine Ev.bind hN ?_;refine Ev.bind hr1 ?_;refine Ev.bind hr2 ?_;simp only [beq_self_eq_true,if_true];exact Ev.bind (Yy _ (by omega)) (Ev.now _)
theorem Th {x1 : List Int} (hu : U8 x1) : Ev (fun k => laws_FnTaught.j11 k x1) true := by
 obtain ⟨L,R,a,b,hD,h1,h2,h3⟩ := Gb hu;have hz : Zd L := h2.wsz (by decide);have hf := h3.flat;have hl := h3.1;obtain ⟨s1,s2⟩ := Vz L R a b;refine Ev.succ ?_;simp only [laws_FnTaught.j11];refine Ev.bind hD ?_;refine Ev.bind (Vk L R a b (by omega) hz (by omega) (by omega)) ?_;refine Ev.bind (Vp L R a b (by omega) hz (by omega) (by omega)) ?_;simp only [bne_self_eq_false,Bool.false_eq_true,if_false];refine Ev.bind (Z2 _ (by omega) (fun y hy => by have := Ye hy;omega)) ?_;simp only [Bool.not_true];refine Ev.succ ?_;simp only [laws_FnTaught.j12,Bool.false_eq_true,if_false];cases h : (Ya L R a b).2 with
 | false =>
  simp only [Bool.false_eq_true,if_false];exact Tq hu
 | true =>
  have e := Jb h;have hi := Vk L (Ya L R a b).1 b a (by omega) hz (by omega) (by omega);have hs := Vp L (Ya L R a b).1 b a (by omega) hz (by omega) (by omega);obtain ⟨t1,t2⟩ := Vz L (Ya L R a b).1 b a;rw [e] at hi hs t1 t2;simp only [if_true];refine Ev.bind hi ?_;refine Ev.bind hs ?_;simp only [if_true];refine Ev.bind (Z2 _ (by show (Xc b a (Xc a b R)).length < _;change (Xc b a (Xc a b R)).length <= _ at t1;omega) (fun y hy => by have := Ye hy;change (Xc b a (Xc a b R)).flatten.length <= _ at t2;omega)) ?_;have hlen : (Xc b a (Xc a b R)).length = R.length := by unfold Xc;rw [List.length_map,List.length_map]
  simp only [if_true,hlen];exact Tq hu
def V9 (l : List S41) (w : List Int) : Nat -> Nat -> Int
 | 0,_ => 0
 | d + 1,j => (if (j : Int) ∈ w then (Xy l j).f2 else 0) + V9 l w d (j + 1)
theorem Tp (l : List S41) (w : List Int) : ∀ d j,V9 l w d j = Xe l (((List.range' j d).map Int.ofNat).filter (fun x => decide (x ∈ w)))
 | 0,_ => rfl
 | d + 1,j => by
  rw [V9,List.range'_succ,List.map_cons,List.filter_cons,Tp l w d (j + 1)];by_cases h : (j : Int) ∈ w
  ·rw [if_pos h,if_pos (show decide (Int.ofNat j ∈ w) = true from decide_eq_true h),Xe];rfl
  ·rw [if_neg h,if_neg (show ¬ decide (Int.ofNat j ∈ w) = true by rw [decide_eq_true_eq];exact h),Int.zero_add]
theorem Tm {l : List S41} {w : List Int} (hn : w.Nodup) (hr : ∀ x,x ∈ w -> 0 <= x ∧ x < l.length) : V9 l w l.length 0 = Xe l w := by
 rw [Tp];refine Y6 l ((List.perm_ext_iff_of_nodup ?_ hn).2 (fun x => ?_))
 ·refine List.Pairwise.filter _ ?_;rw [<- List.range_eq_range'];exact List.Pairwise.map Int.ofNat (fun a b hab e => hab (Int.ofNat.inj e)) List.nodup_range
 ·rw [List.mem_filter,<- List.range_eq_range',Up,decide_eq_true_eq];exact ⟨fun h => h.2,fun h => ⟨hr x h,h⟩⟩
theorem Gn {l : List S41} (h : Xf l = true) (w : List Int) : ∀ d j,j + d = l.length -> 0 <= V9 l w d j ∧ V9 l w d j <= 99999 * (d : Int)
 | 0,_,_ => by simp [V9]
 | d + 1,j,hj => by
  obtain ⟨b0,b1⟩ := (Xd h).2 j (by omega);obtain ⟨c0,c1⟩ := Gn h w d (j + 1) (by omega);rw [V9]
  split <;> omega
theorem T7 {x1 : List Int} (s : Int) (w : List Int) (hw : w.length <= 1048576) (so al : Int) (L : List S41) (i : Int) (n : List Int) (hn : n.length <= 1048576) (hm : ∀ z,z ∈ n -> z ∈ w)
  (hc : Ev (fun k => laws_FnTaught.l4 k x1 s w so al L (L.length : Int) (wrap64 (i + 1))) true) : ∀ d j,j + d = n.length -> Ev (fun k => laws_FnTaught.l5 k x1 s w so al L (L.length : Int) i n (n.length : Int) (j : Int)) true := by
 intro d
 induction d with
 | zero =>
  intro j hj;refine Ev.succ ?_;simp only [laws_FnTaught.l5,show ((j : Int) < (n.length : Int)) = False from eq_false (by omega),if_false];exact hc
 | succ d ih =>
  intro j hj;have hlt : j < n.length := by omega
  have e : rd n (j : Int) = n[j] := by
   show n.getD ((j : Int)).toNat 0 = _;rw [Int.toNat_natCast,List.getD_eq_getElem?_getD,List.getElem?_eq_getElem hlt];rfl
  refine Ev.succ ?_;simp only [laws_FnTaught.l5,show ((j : Int) < (n.length : Int)) = True from eq_true (by omega),if_true,Xa,e,Xb (show j < 4611686018427387904 by omega)];refine Ev.bind (G7 w (by omega) n[j]) ?_;simp only [decide_eq_true (hm _ (List.getElem_mem hlt)),if_true];exact ih (j + 1) (by omega)
theorem Sa {x1 : List Int} (hu : U8 x1) (s : Int) (w : List Int) (hwl : w.length <= 1048576) (L : List S41) (hz : Zd L) (hk : Vs L s w) : ∀ d i (so al : Int),i + d = L.length -> 0 <= so -> so <= 99999 * (i : Int) -> 0 <= al -> al <= 99999 * (i : Int) -> so + V9 L w d i = Xe L w -> al + Xk L d i = Xk L L.length 0 ->
  Ev (fun k => laws_FnTaught.l4 k x1 s w so al L (L.length : Int) (i : Int)) true := by
 obtain ⟨hw,hs,hnd,hr,hcl,hq⟩ := hk;have h16 := (Xd hw).1;intro d
 induction d with
 | zero =>
  intro i so al hi a0 a1 b0 b1 e1 e2;rw [V9,Int.add_zero] at e1;rw [Xk,Int.add_zero] at e2;refine Ev.succ ?_;simp only [laws_FnTaught.l4,show ((i : Int) < (L.length : Int)) = False from eq_false (by omega),if_false];rw [e1,e2];simp only [eq_false hq,if_false];exact Th hu
 | succ d ih =>
  intro i so al hi a0 a1 b0 b1 e1 e2;have hlt : i < L.length := by omega
  obtain ⟨c0,c1⟩ := (Xd hw).2 i hlt;have hn : (Xy L i).f1.length <= 1048576 := (Uo hz hlt).1;rw [V9] at e1;rw [Xk] at e2;have w2 : wrap64 (al + (Xy L i).f2) = al + (Xy L i).f2 := Xi (by omega) (by omega);refine Ev.succ ?_;simp only [laws_FnTaught.l4,show ((i : Int) < (L.length : Int)) = True from eq_true (by omega),if_true,Xa,T4,w2];refine Ev.bind (G7 w (by omega) (i : Int)) ?_;by_cases hm : (i : Int) ∈ w
  ·rw [if_pos hm] at e1;have w1 : wrap64 (so + (Xy L i).f2) = so + (Xy L i).f2 := Xi (by omega) (by omega);simp only [decide_eq_true hm,if_true,w1];refine T7 s w hwl _ _ L (i : Int) (Xy L i).f1 hn (fun z hzn => hcl (i : Int) hm z (by show z ∈ (Xy L ((i : Int)).toNat).f1;rw [Int.toNat_natCast];exact hzn)) ?_ (Xy L i).f1.length 0 (by omega);rw [Xb (show i < 4611686018427387904 by omega)];exact ih (i + 1) _ _ (by omega) (by omega) (by omega) (by omega) (by omega) (by omega) (by omega)
  ·rw [if_neg hm] at e1;simp only [decide_eq_false hm,Bool.false_eq_true,if_false];rw [Xb (show i < 4611686018427387904 by omega)];exact ih (i + 1) _ _ (by omega) (by omega) (by omega) (by omega) (by omega) (by omega) (by omega)
theorem T0 {x1 : List Int} (hu : U8 x1) : Ev (fun k => laws_FnTaught.j7 k x1) true := by
 obtain ⟨L,s,hD,h1,h2⟩ := Us hu;have hz : Zd L := h2.wsz (by decide);obtain ⟨r,r1,r2,r3,r4⟩ := Ti L s (by omega) hz;refine Ev.succ ?_;simp only [laws_FnTaught.j7];refine Ev.bind hD ?_;refine Ev.bind r1 ?_;refine Ev.bind r2 ?_;simp only [bne_self_eq_false,Bool.false_eq_true,if_false];refine Ev.bind (Yy _ (by omega)) ?_;simp only [Bool.not_true];refine Ev.succ ?_;simp only [laws_FnTaught.j8,Bool.false_eq_true,if_false];cases h : r.2 with
 | false =>
  simp only [Bool.false_eq_true,if_false];exact Th hu
 | true =>
  have hk := r4 h;simp only [if_true];exact Sa hu s r.1 r3 L hz hk L.length 0 0 0 (by omega) (by omega) (by omega) (by omega) (by omega) (by rw [Int.zero_add];exact Tm hk.2.2.1 hk.2.2.2.1) (by rw [Int.zero_add])
theorem T9 {x1 : List Int} (L : List S41) (R : List (List Int)) (n x rn m : Int) (y : List Int) (yn i : Int) (q : List Int) (qn qi : Int) (S : List (List Int)) (hS : S.flatten.length <= 1048576) (hS2 : S.length <= 1048576)
  (hc : Ev (fun k => laws_FnTaught.l2 k x1 L R n R rn m y yn i q qn (wrap64 (qi + 1))) true) : ∀ d j (e : Bool),j + d = S.length -> (e = true ∨ x ∈ (S.drop j).flatten) -> Ev (fun k => laws_FnTaught.l3 k x1 L R n x e R rn m y yn i q qn qi S (S.length : Int) (j : Int)) true := by
 intro d
 induction d with
 | zero =>
  intro j e hj he;rw [List.drop_of_length_le (by omega)] at he;obtain rfl : e = true := he.elim id (fun h => by simp at h);refine Ev.succ ?_;simp only [laws_FnTaught.l3,show ((j : Int) < (S.length : Int)) = False from eq_false (by omega),if_false,if_true];exact hc
 | succ d ih =>
  intro j e hj he;have hlt : j < S.length := by omega
  cases e with
  | true =>
   refine Ev.succ ?_;simp only [laws_FnTaught.l3,show ((j : Int) < (S.length : Int)) = True from eq_true (by omega),if_true,Xa,Xb (show j < 4611686018427387904 by omega)];exact ih (j + 1) true (by omega) (Or.inl rfl)
  | false =>
   have hx : x ∈ S[j] ∨ x ∈ (S.drop (j + 1)).flatten := by
    have := he.elim (fun h => nomatch h) id;rw [V0 S j hlt] at this;exact List.mem_append.1 this
   have hy : S[j].length <= 1048576 := by have := Ye (List.getElem_mem hlt);omega
   refine Ev.succ ?_;simp only [laws_FnTaught.l3,show ((j : Int) < (S.length : Int)) = True from eq_true (by omega),if_true,Xa,Xb (show j < 4611686018427387904 by omega),Bool.false_eq_true,if_false,Zl,Z5 S j hlt];refine Ev.bind (G7 _ (by omega) x) ?_;exact ih (j + 1) _ (by omega) (hx.imp decide_eq_true id)
theorem Sb {x1 : List Int} (L : List S41) (R : List (List Int)) (hR1 : R.flatten.length <= 1048576) (hR2 : R.length <= 1048576) (n : Nat) (hn : n <= R.length) (rn m : Int) (y : List Int) (yn i : Int) (q : List Int) (hq : q.length <= 1048576) (hm : ∀ x,x ∈ q -> x ∈ (R.take n).flatten)
  (hc : Ev (fun k => laws_FnTaught.l1 k x1 L R (n : Int) R rn m y yn (wrap64 (i + 1))) true) : ∀ d j,j + d = q.length -> Ev (fun k => laws_FnTaught.l2 k x1 L R (n : Int) R rn m y yn i q (q.length : Int) (j : Int)) true := by
 intro d
 induction d with
 | zero =>
  intro j hj;refine Ev.succ ?_;simp only [laws_FnTaught.l2,show ((j : Int) < (q.length : Int)) = False from eq_false (by omega),if_false];exact hc
 | succ d ih =>
  intro j hj;have hlt : j < q.length := by omega
  have e : rd q (j : Int) = q[j] := by
   show q.getD ((j : Int)).toNat 0 = _;rw [Int.toNat_natCast,List.getD_eq_getElem?_getD,List.getElem?_eq_getElem hlt];rfl
  refine Ev.succ ?_;simp only [laws_FnTaught.l2,show ((j : Int) < (q.length : Int)) = True from eq_true (by omega),if_true,Xa,e,show ((n : Int) <= (R.length : Int)) = True from eq_true (by omega),Option.bind_some,Int.toNat_natCast];have h1 := Xz R n;refine T9 L R (n : Int) q[j] rn m y yn i q (q.length : Int) (j : Int) (R.take n) (by omega) (by rw [List.length_take];omega) ?_ (R.take n).length 0 false (by omega) (Or.inr (by rw [List.drop_zero];exact hm _ (List.getElem_mem hlt)));rw [Xb (show j < 4611686018427387904 by omega)];exact ih (j + 1) (by omega)
theorem T8 {x1 : List Int} (L : List S41) (hl0 : L.length <= 1048576) (hz : Zd L) (R : List (List Int)) (hR1 : R.flatten.length <= 1048576) (hR2 : R.length <= 1048576) (hg : Xu L R = true) (n : Nat) (hn : n < R.length)
  (hc : Ev (fun k => laws_FnTaught.l0 k x1 L R R (R.length : Int) (wrap64 ((n : Int) + 1))) true) : ∀ d i,i + d = R[n].length -> Ev (fun k => laws_FnTaught.l1 k x1 L R (n : Int) R (R.length : Int) (n : Int) R[n] (R[n].length : Int) (i : Int)) true := by
 obtain ⟨hw,h16,hfl,hr⟩ := Yk hl0 hg;have hgl : X2 L R = true := by
  unfold Xu at hg;rw [Bool.and_eq_true,Bool.and_eq_true] at hg;exact hg.2.2
 have hy : R[n].length <= 1048576 := by have := Ye (List.getElem_mem hn);omega
 intro d
 induction d with
 | zero =>
  intro i hi;refine Ev.succ ?_;simp only [laws_FnTaught.l1,show ((i : Int) < (R[n].length : Int)) = False from eq_false (by omega),if_false];exact hc
 | succ d ih =>
  intro i hi;have hlt : i < R[n].length := by omega
  have e : rd R[n] (i : Int) = R[n][i] := by
   show R[n].getD ((i : Int)).toNat 0 = _;rw [Int.toNat_natCast,List.getD_eq_getElem?_getD,List.getElem?_eq_getElem hlt];rfl
  have hm : R[n][i] ∈ R[n] := List.getElem_mem hlt;obtain ⟨b0,b1⟩ := hr R[n][i] (List.mem_flatten.2 ⟨_,List.getElem_mem hn,hm⟩);obtain ⟨r,r1,r2,r3,r4⟩ := Gk L R[n][i] hl0 hz;obtain ⟨r5,r6⟩ := r4 hw b0 b1 (J8 hgl hn hm);refine Ev.succ ?_;simp only [laws_FnTaught.l1,show ((i : Int) < (R[n].length : Int)) = True from eq_true (by omega),if_true,Xa,e];refine Ev.bind r1 ?_;refine Ev.bind r2 ?_;simp only [r5,if_true];refine Ev.bind (Yy _ (by omega)) ?_;simp only [Bool.not_true];refine Ev.succ ?_;simp only [laws_FnTaught.j4,Bool.false_eq_true,if_false];refine Sb L R hR1 hR2 n (by omega) _ _ _ _ _ r.1 r3 (fun x hx => T1 (Zq hgl).2.2 hn hm x ((r6 x).1 hx)) ?_ r.1.length 0 (by omega);rw [Xb (show i < 4611686018427387904 by omega)];exact ih (i + 1) (by omega)
theorem T6 {x1 : List Int} (hu : U8 x1) (L : List S41) (hl0 : L.length <= 1048576) (hz : Zd L) (R : List (List Int)) (hR1 : R.flatten.length <= 1048576) (hR2 : R.length <= 1048576) (hg : Xu L R = true) :
  ∀ d n,n + d = R.length -> Ev (fun k => laws_FnTaught.l0 k x1 L R R (R.length : Int) (n : Int)) true := by
 intro d
 induction d with
 | zero =>
  intro n hn;refine Ev.succ ?_;simp only [laws_FnTaught.l0,show ((n : Int) < (R.length : Int)) = False from eq_false (by omega),if_false];exact T0 hu
 | succ d ih =>
  intro n hn;have hlt : n < R.length := by omega
  refine Ev.succ ?_;simp only [laws_FnTaught.l0,show ((n : Int) < (R.length : Int)) = True from eq_true (by omega),if_true,Xa,Zl,Z5 R n hlt];refine T8 L hl0 hz R hR1 hR2 hg n hlt ?_ R[n].length 0 (by omega);rw [Xb (show n < 4611686018427387904 by omega)];exact ih (n + 1) (by omega)
theorem FnTaught : laws_FnTaught.Pure := by
 intro l0 l1 h0 hb0 h1 hb1;have u0 : U8 l0 := ⟨hb0,by omega⟩;have u1 : U8 l1 := ⟨hb1,by omega⟩;refine Ev.rounds ?_;unfold laws_FnTaught.f;obtain ⟨b,hb⟩ : ∃ b,laws_big.f l0 l1 = some b := by unfold laws_big.f;split <;> exact ⟨_,rfl⟩
 rw [hb];simp only [Option.bind_some];cases b with
 | true =>
  simp only [if_true];exact Ev.now _
 | false =>
  simp only [Bool.false_eq_true,if_false];obtain ⟨L,R,n,hE,hl,hw,hR⟩ := Gx u0;have hz : Zd L := hw.wsz (by decide);have hf := hR.flat;have hl1 := hR.1;refine Ev.bind hE ?_;refine Ev.bind (Zv L R n (by omega) hz (by omega) (by omega)) ?_;refine Ev.bind (Gy L R n (by omega) hz (by omega) (by omega)) ?_;simp only [bne_self_eq_false,Bool.false_eq_true,if_false];refine Ev.succ ?_;simp only [laws_FnTaught.j0,Bool.false_eq_true,if_false];cases h : (Y7 L R n).2 with
  | false =>
   simp only [Bool.false_eq_true,if_false];exact T0 u1
  | true =>
   obtain ⟨hg,c0,c1,ea,eb⟩ := Jr (by omega) h;have ha := Zv L R (R.length : Int) (by omega) hz (by omega) (by omega);have hbb := Zv L R 0 (by omega) hz (by omega) (by omega);rw [ea] at ha;rw [eb] at hbb;simp only [if_true];refine Ev.bind ha ?_;refine Ev.bind hbb ?_;simp only [if_true,show ((Y7 L R n).1 < 0) = False from eq_false (by omega),if_false,show decide ((Y7 L R n).1 > 100) = false from decide_eq_false (by omega)];refine Ev.succ ?_;simp only [laws_FnTaught.j1,Bool.false_eq_true,if_false];exact T6 u1 L (by omega) hz R (by omega) (by omega) hg R.length 0 (by omega)
end Go.Proofs.YtgnijnlgbelifaaGreat.Pure
