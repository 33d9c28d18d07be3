/- For all bytes: of the lessons that are drawn out of them,questions that are made are fair,all their choices are taught,and no other choice would be nearer;the program answers as the reference does. No condition. -/
import Derived.Test.YtgnijnlgbelifaaGreatQLawsFnQuestions
import Derived.Laws.BitsLemmas
import Derived.Lib.Bytealg
import Derived.Lib.SlicesCompact
import Derived.Lib.Join
set_option linter.unusedVariables false
set_option linter.unusedSimpArgs false
namespace Go.Proofs.YtgnijnlgbelifaaGreat.Pure
open Go.RowKit Go.Proofs.YtgnijnlgbelifaaGreat.Q Go.Proofs.YtgnijnlgbelifaaGreatW.PrintLast Go.Proofs.YtgnijnlgbelifaaGreatW.PrintWords
theorem Ev.succ {α : Type} {g : Nat -> Option α} {r : α} (h : Ev (fun k => g (k + 1)) r) : Ev g r := Ev.step (fun _ => rfl) h
theorem Ev.k {α : Type} {g : Nat -> Option α} {o : Option α} {r : α} (hg : ∀ k,g k = o) (h : o = some r) : Ev g r := ⟨0,fun k _ => (hg k).trans h⟩
theorem Ev.eq {α : Type} {g : Nat -> Option α} {r r' : α} (h : Ev g r) (e : r = r') : Ev g r' := e ▸ h
theorem Ev.upto {β : Type} {L : Nat -> Nat -> Option β} {r : β} {n : Nat} (hend : Ev (fun k => L k n) r)
  (hstep : ∀ j,j < n -> Ev (fun k => L k (j + 1)) r -> Ev (fun k => L k j) r) : ∀ i,i <= n -> Ev (fun k => L k i) r := by
 intro i hi;obtain ⟨d,hd⟩ : ∃ d,n = i + d := ⟨n - i,by omega⟩
 induction d generalizing i with
 | zero => simp at hd;subst hd;exact hend
 | succ d ih => exact hstep i (by omega) (ih (i + 1) (by omega) (by omega))
theorem Ev.all {β : Type} {L : Nat -> Nat -> Option β} {P : Nat -> Bool} {n : Nat} {a b : β} (hend : Ev (fun k => L k n) a)
  (hyes : ∀ j r,j < n -> P j = true -> Ev (fun k => L k (j + 1)) r -> Ev (fun k => L k j) r) (hno : ∀ j,j < n -> P j = false -> Ev (fun k => L k j) b) :
  ∀ i,i <= n -> Ev (fun k => L k i) (if (List.range' i (n - i)).all P then a else b) := by
 intro i hi;obtain ⟨d,hd⟩ : ∃ d,n = i + d := ⟨n - i,by omega⟩
 induction d generalizing i with
 | zero => simp at hd;subst hd;simpa using hend
 | succ d ih =>
  have h1 : n - i = (n - (i + 1)) + 1 := by omega
  rw [h1,List.range'_succ];simp only [List.all_cons];rcases Bool.eq_false_or_eq_true (P i) with hP | hP
  ·simp only [hP,Bool.true_and];exact hyes i _ (by omega) hP (ih (i + 1) (by omega) (by omega))
  ·simpa [hP] using hno i (by omega) hP
theorem Ev.all0 {β : Type} {L : Nat -> Nat -> Option β} {P : Nat -> Bool} {n : Nat} {a b : β} (hend : Ev (fun k => L k n) a)
  (hyes : ∀ j r,j < n -> P j = true -> Ev (fun k => L k (j + 1)) r -> Ev (fun k => L k j) r) (hno : ∀ j,j < n -> P j = false -> Ev (fun k => L k j) b) :
  Ev (fun k => L k 0) (if (List.range n).all P then a else b) := by
 have := Ev.all hend hyes hno 0 (Nat.zero_le _)
 rwa [Nat.sub_zero,<- List.range_eq_range'] at this
theorem Xf {x : Int} (h0 : -9223372036854775808 <= x) (h1 : x <= 9223372036854775807) : wrap64 x = x := by
 unfold wrap64;omega
theorem Xb {n : Nat} (h : n < 4611686018427387904) : wrap64 ((n : Int) + 1) = ((n + 1 : Nat) : Int) := by
 rw [Xf (by omega) (by omega)];omega
theorem Zk {n : Nat} (h0 : 0 < n) (h : n < 4611686018427387904) : wrap64 ((n : Int) - 1) = ((n - 1 : Nat) : Int) := by
 rw [Xf (by omega) (by omega)];omega
theorem Xa (n : Nat) : (0 <= (n : Int)) = True := eq_true (Int.natCast_nonneg n)
structure U8 (l : List Int) : Prop where
 b : ∀ y,y ∈ l -> (Lit.int .u8 y).wf = true
 n : l.length <= 140737488351232
theorem Jm {y : Int} (h : (Lit.int .u8 y).wf = true) : 0 <= y ∧ y <= 255 := by
 simp [Lit.wf,IntKind.min,IntKind.max,IntKind.bits,IntKind.signed] at h;omega
theorem Tg (x : Int) : 0 <= Go.bits .and .u64 x 255 ∧ Go.bits .and .u64 x 255 <= 255 := by
 have h : ((BitVec.ofInt 64 x &&& BitVec.ofInt 64 255).toNat : Nat) <= 255 := by
  rw [BitVec.toNat_and];exact Nat.le_trans Nat.and_le_right (by decide)
 have e : Go.bits .and .u64 x 255 = ((((BitVec.ofInt 64 x &&& BitVec.ofInt 64 255).toNat : Nat) : Int) % 18446744073709551616) := by
  unfold Go.bits IntKind.wrap;simp only [IntKind.signed,Bool.false_and,Bool.false_eq_true,if_false];rfl
 rw [e];generalize (BitVec.ofInt 64 x &&& BitVec.ofInt 64 255).toNat = n at h;omega
def Ti {α : Type} (f : Option (α × Int × Int)) (a n : Int) (P : α -> Prop) : Prop := ∃ r a' s',f = some (r,a',s') ∧ P r ∧ a <= a' ∧ a' <= a + n
theorem Gl {l : List Int} (hu : U8 l) {a : Int} (s : Int) (h0 : 0 <= a) (h1 : a <= 1000000000000) : Ti (GH.f l a s) a 1 (fun r => 0 <= r ∧ r <= 255) := by
 have hw : wrap64 (a + 1) = a + 1 := Xf (by omega) (by omega);unfold GH.f;rw [hw];have low : ∀ x : Int,0 <= wrap64 (Go.bits .and .u64 x 255) ∧ wrap64 (Go.bits .and .u64 x 255) <= 255 := fun x => by
  have := Tg x;rw [Xf (by omega) (by omega)];exact this
 by_cases h2 : a < (l.length : Int)
 ·have hr : 0 <= rd l a ∧ rd l a <= 255 := by
   have hlt : a.toNat < l.length := by omega
   have e : rd l a = l[a.toNat] := by
    show l.getD a.toNat 0 = _;rw [List.getD_eq_getElem?_getD,List.getElem?_eq_getElem hlt];rfl
   rw [e];exact Jm (hu.b _ (List.getElem_mem _))
  have hwr : wrap64 (rd l a) = rd l a := Xf (by omega) (by omega);rw [if_pos h2,if_pos h0,hwr];by_cases h3 : a + 1 <= (l.length : Int)
  ·rw [if_pos h3];exact ⟨_,_,_,rfl,hr,by omega,by omega⟩
  ·rw [if_neg h3];refine ⟨_,_,_,rfl,?_,by omega,by omega⟩;exact low _
 ·rw [if_neg h2];by_cases h3 : a + 1 <= (l.length : Int)
  ·rw [if_pos h3];exact ⟨_,_,_,rfl,⟨by decide,by decide⟩,by omega,by omega⟩
  ·rw [if_neg h3];exact ⟨_,_,_,rfl,low _,by omega,by omega⟩
theorem Xe {l : List Int} (hu : U8 l) {a : Int} (s : Int) (h0 : 0 <= a) (h1 : a <= 999999999990) (n : Int) (hn : 1 <= n) (hm : n <= 1000000) : Ti (Ff.f l a s n) a 2 (fun r => 0 <= r ∧ r < n) := by
 unfold Ff.f;by_cases h2 : n <= 1
 ·rw [if_pos h2];exact ⟨_,_,_,rfl,⟨by omega,by omega⟩,by omega,by omega⟩
 ·rw [if_neg h2];obtain ⟨x,a1,s1,e1,⟨x0,x1⟩,p1,p2⟩ := Gl hu s h0 (by omega);rw [e1];simp only [Option.bind_some,eq_false (show ¬ n = 0 by omega),if_false];by_cases h3 : n > 200
  ·obtain ⟨y,a2,s2,e2,⟨y0,y1⟩,q1,q2⟩ := Gl hu s1 (a := a1) (by omega) (by omega);simp only [eq_true h3,if_true,e2,Option.bind_some];refine ⟨_,_,_,rfl,?_,by omega,by omega⟩;rw [Xf (x := x * 256) (by omega) (by omega),Xf (by omega) (by omega),Int.tmod_eq_emod_of_nonneg (by omega)];exact ⟨Int.emod_nonneg _ (by omega),Int.emod_lt_of_pos _ (by omega)⟩
  ·simp only [eq_false h3,if_false];refine ⟨_,_,_,rfl,?_,by omega,by omega⟩;rw [Int.tmod_eq_emod_of_nonneg (by omega)];exact ⟨Int.emod_nonneg _ (by omega),Int.emod_lt_of_pos _ (by omega)⟩
theorem U4 {l : List Int} (hu : U8 l) {a : Int} (s : Int) (h0 : 0 <= a) (h1 : a <= 999999999990) (n : Int) (hn : 1 <= n) (hm : n <= 1000000) : Ti (GD.f l a s n) a 2 (fun _ => True) := by
 obtain ⟨x,a1,s1,e1,_,p1,p2⟩ := Xe hu s h0 h1 n hn hm;unfold GD.f;rw [e1];exact ⟨_,_,_,rfl,trivial,p1,p2⟩
theorem Xm {l : List Int} (hu : U8 l) {a : Int} (s : Int) (h0 : 0 <= a) (h1 : a <= 999999999990) (L : List Int) (hn : 0 < L.length) (hm : L.length <= 1000000) : Ti (Fg.f l a s L) a 2 (fun r => r ∈ L) := by
 obtain ⟨x,a1,s1,e1,⟨x0,x1⟩,p1,p2⟩ := Xe hu s h0 h1 (L.length : Int) (by omega) (by omega);unfold Fg.f;rw [e1];simp only [Option.bind_some,eq_true x0,eq_true x1,if_true];refine ⟨_,_,_,rfl,?_,p1,p2⟩;have hlt : x.toNat < L.length := by omega
 have e : rd L x = L[x.toNat] := by
  show L.getD x.toNat 0 = _;rw [List.getD_eq_getElem?_getD,List.getElem?_eq_getElem hlt];rfl
 rw [e];exact List.getElem_mem _
def Xx (a b c : Int) : Bool := decide (b <= a ∧ a <= c)
theorem Xn (a b c : Int) : FM.f a b c = some (Xx a b c) := by
 unfold FM.f Xx
 split <;> simp <;> omega
theorem Xl (a b c : Int) : Fr.f a b c = some (Xx a b c) := by
 unfold Fr.f Xx
 split <;> simp <;> omega
def Ud (s : ByteArray) (j : Nat) : Bool := decide (65 <= bt s j ∧ bt s j <= 90)
def Yn (s : ByteArray) : Bool := Xx s.size 1 8 && (List.range s.size).all (Ud s)
def caps : ByteArray := ⟨#[65,66,67,68,69,70,71,72,73,74,75,76,77,78,79,80,81,82,83,84,85,86,87,88,89,90]⟩
theorem Jw : ((List.range 256).all fun n => decide (Lib.indexByte caps.data.toList n.toUInt8 < 0) == !(decide (65 <= n ∧ n <= 90))) = true := by decide +kernel
theorem Vh (b : Int) (h0 : 0 <= b) (h1 : b <= 255) : (Lib.indexByte caps.data.toList b.toNat.toUInt8 < 0) ↔ ¬ (65 <= b ∧ b <= 90) := by
 have h := List.all_eq_true.1 Jw b.toNat (List.mem_range.2 (by omega));simp only [beq_iff_eq] at h;by_cases hc : 65 <= b ∧ b <= 90
 ·have h2 : decide (65 <= b.toNat ∧ b.toNat <= 90) = true := decide_eq_true (by omega);rw [h2] at h;exact ⟨fun h3 => absurd h3 (of_decide_eq_false h),fun h3 => absurd hc h3⟩
 ·have h2 : decide (65 <= b.toNat ∧ b.toNat <= 90) = false := decide_eq_false (by omega);rw [h2] at h;exact ⟨fun _ => hc,fun _ => of_decide_eq_true h⟩
theorem U1 (s : ByteArray) (hs : s.size < 4611686018427387904) : Ev (fun k => FX.f k s caps) ((List.range s.size).all (Ud s)) := by
 unfold FX.f;refine Ev.eq (Ev.all0 (L := fun k j => FX.l0 k s caps (s.size : Int) (j : Int)) (P := Ud s) (n := s.size) (a := true) (b := false) ?_ ?_ ?_) (by split <;> simp_all)
 ·refine Ev.succ ?_;simp only [FX.l0,Int.lt_irrefl,if_false];exact Ev.now _
 ·intro j r hj hP h;refine Ev.succ ?_;have h1 : ((j : Int) < (s.size : Int)) = True := eq_true (by omega);have hb := Eiw s (j : Int);have h2 : (Lib.indexByte caps.data.toList (bt s (j : Int)).toNat.toUInt8 < 0) = False := eq_false (fun hc => (Vh _ hb.1 hb.2).1 hc (of_decide_eq_true hP));simp only [FX.l0,GP.f,Option.bind_some,h1,if_true,Xa,h2,if_false,Xb (show j < 4611686018427387904 by omega)];exact h
 ·intro j hj hP;refine Ev.succ ?_;have h1 : ((j : Int) < (s.size : Int)) = True := eq_true (by omega);have hb := Eiw s (j : Int);have h2 : (Lib.indexByte caps.data.toList (bt s (j : Int)).toNat.toUInt8 < 0) = True := eq_true ((Vh _ hb.1 hb.2).2 (of_decide_eq_false hP));simp only [FX.l0,GP.f,Option.bind_some,h1,if_true,Xa,h2];exact Ev.now _
theorem U9 (s : ByteArray) (hs : s.size < 4611686018427387904) : Ev (fun k => GS.f k s) (Yn s) := by
 unfold GS.f Lb.f Yn;refine Ev.bind (a := Xx s.size 1 8 && (List.range s.size).all (Ud s)) ?_ (Ev.now _);simp only [Xl,Option.bind_some];rcases Bool.eq_false_or_eq_true (Xx s.size 1 8) with h | h
 ·simp only [h,if_true,Bool.true_and];exact Ev.bind (U1 s hs) (Ev.now _)
 ·simp only [h];exact Ev.now _
theorem Tc {l : List Int} (hu : U8 l) {a : Int} (s : Int) (h0 : 0 <= a) (h1 : a <= 999999999990) (L : List ByteArray) (hn : 0 < L.length) (hm : L.length <= 1000000) : Ti (GI.f l a s L) a 2 (fun r => r ∈ L) := by
 obtain ⟨x,a1,s1,e1,⟨x0,x1⟩,p1,p2⟩ := Xe hu s h0 h1 (L.length : Int) (by omega) (by omega);unfold GI.f;rw [e1];simp only [Option.bind_some,eq_true x0,eq_true x1,if_true];refine ⟨_,_,_,rfl,?_,p1,p2⟩;have hlt : x.toNat < L.length := by omega
 have e : rdOf ByteArray.empty L x = L[x.toNat] := by
  show L.getD x.toNat ByteArray.empty = _;rw [List.getD_eq_getElem?_getD,List.getElem?_eq_getElem hlt];rfl
 rw [e];exact List.getElem_mem _
def Ya (g : ByteArray) : Prop := g.size <= 10
theorem Xc {g : ByteArray} {L : List ByteArray} (h : Ya g) (hL : ∀ x,x ∈ L -> Ya x) : ∀ x,x ∈ g :: L -> Ya x := fun x hx => by
 rcases List.mem_cons.1 hx with rfl | hx
 ·exact h
 ·exact hL x hx
theorem Zo : ∀ x : ByteArray,x ∈ ([] : List ByteArray) -> Ya x := fun _ h => by cases h
theorem Xd {g : ByteArray} (h : g.size <= 10) : Ya g := h
theorem Yp (l : List Int) (j : Nat) : rd l (j : Int) = l.getD j 0 := by simp [rd]
def X2 (l : List Int) (x : Int) : Nat -> Nat -> Int
 | 0,_ => -1
 | d + 1,j => if l.getD j 0 = x then (j : Int) else X2 l x d (j + 1)
theorem Um (l : List Int) (x : Int) : ∀ d j,(0 <= X2 l x d j) ↔ ∃ i,j <= i ∧ i < j + d ∧ l.getD i 0 = x := by
 intro d
 induction d with
 | zero => intro j;simp only [X2];constructor <;> intro h <;> omega
 | succ d ih =>
  intro j;rw [X2];by_cases h : l.getD j 0 = x
  ·rw [if_pos h];exact ⟨fun _ => ⟨j,by omega,by omega,h⟩,fun _ => by omega⟩
  ·rw [if_neg h,ih]
   constructor
   ·rintro ⟨i,h1,h2,h3⟩;exact ⟨i,by omega,by omega,h3⟩
   ·rintro ⟨i,h1,h2,h3⟩;have : i ≠ j := fun e => h (e ▸ h3)
    exact ⟨i,by omega,by omega,h3⟩
theorem V7 (l : List Int) (x : Int) : (∃ i,0 <= i ∧ i < 0 + l.length ∧ l.getD i 0 = x) ↔ x ∈ l := by
 rw [List.mem_iff_getElem]
 constructor
 ·rintro ⟨i,_,h2,h3⟩;refine ⟨i,by omega,?_⟩;rw [<- h3,List.getD_eq_getElem?_getD,List.getElem?_eq_getElem (by omega)];rfl
 ·rintro ⟨i,h2,h3⟩;refine ⟨i,by omega,by omega,?_⟩;rw [List.getD_eq_getElem?_getD,List.getElem?_eq_getElem h2];exact h3
theorem Vk (l : List Int) (x : Int) : decide (X2 l x l.length 0 >= 0) = decide (x ∈ l) := by
 rw [decide_eq_decide];exact (Um l x l.length 0).trans (V7 l x)
theorem Jd (l : List Int) (x : Int) (hl : l.length < 4611686018427387904) : ∀ d j,j + d = l.length -> Ev (fun k => FE.l0 k l x (l.length : Int) (j : Int)) (X2 l x d j) := by
 intro d
 induction d with
 | zero =>
  intro j hj;refine Ev.succ ?_;have h1 : ((j : Int) < (l.length : Int)) = False := eq_false (by omega);simp only [FE.l0,h1,if_false,X2];exact Ev.now _
 | succ d ih =>
  intro j hj;refine Ev.succ ?_;have h1 : ((j : Int) < (l.length : Int)) = True := eq_true (by omega);simp only [FE.l0,h1,if_true,Xa,Yp,Xb (show j < 4611686018427387904 by omega),X2];by_cases h : l.getD j 0 = x
  ·simp only [eq_true h,eq_true h.symm,if_true];exact Ev.now _
  ·simp only [eq_false h,eq_false (fun e : x = l.getD j 0 => h e.symm),if_false];exact ih (j + 1) (by omega)
theorem Ub (l : List Int) (x : Int) (hl : l.length < 4611686018427387904) : Ev (fun k => FE.f k l x) (X2 l x l.length 0) := by
 unfold FE.f;exact Jd l x hl l.length 0 (by omega)
theorem X8 (l : List Int) (x : Int) (hl : l.length < 4611686018427387904) : Ev (fun k => FI.f k l x) (decide (x ∈ l)) := by
 unfold FI.f;refine Ev.bind (Ub l x hl) ?_;rw [Vk];exact Ev.now _
theorem Jc (l : List Int) (x : Int) (hl : l.length < 4611686018427387904) : ∀ d j,j + d = l.length -> Ev (fun k => Fp.l0 k x l (l.length : Int) (j : Int)) (decide (X2 l x d j >= 0)) := by
 intro d
 induction d with
 | zero =>
  intro j hj;refine Ev.succ ?_;have h1 : ((j : Int) < (l.length : Int)) = False := eq_false (by omega);simp only [Fp.l0,h1,if_false,X2];exact Ev.now _
 | succ d ih =>
  intro j hj;refine Ev.succ ?_;have h1 : ((j : Int) < (l.length : Int)) = True := eq_true (by omega);simp only [Fp.l0,h1,if_true,Xa,Yp,Xb (show j < 4611686018427387904 by omega),X2];by_cases h : l.getD j 0 = x
  ·simp only [eq_true h,if_true];refine Ev.eq (Ev.now _) ?_;simp
  ·simp only [eq_false h,if_false];exact ih (j + 1) (by omega)
theorem Xk (l : List Int) (x : Int) (hl : l.length < 4611686018427387904) : Ev (fun k => Fp.f k l x) (decide (x ∈ l)) := by
 unfold Fp.f;rw [<- Vk];exact Jc l x hl l.length 0 (by omega)
theorem Up (zs : List Int) (h : ∀ j,0 < j -> (hj : j < zs.length) -> zs[j - 1]'(by omega) < zs[j]) : ∀ (d i : Nat) (hi : i + d + 1 < zs.length),zs[i]'(by omega) < zs[i + d + 1] := by
 intro d
 induction d with
 | zero => intro i hi;exact h (i + 1) (by omega) hi
 | succ d ih =>
  intro i hi;have h1 := ih i (by omega);have h2 := h (i + d + 1 + 1) (by omega) hi;have h3 : zs[i + d + 1 + 1 - 1]'(by omega) = zs[i + d + 1]'(by omega) := by congr 1
  have h4 : zs[i + (d + 1) + 1] = zs[i + d + 1 + 1] := by congr 1
  omega
theorem Z4 (zs : List Int) (hs : zs.Pairwise (· <= ·)) : (Lib.compact zs).length = zs.length ↔ zs.Nodup := by
 have e : (Lib.compact zs).length = ((List.range zs.length).filter (Lib.keeps zs.toArray)).length := by simp [Lib.compact,Lib.compactUpTo]
 rw [e];have e2 : ((List.range zs.length).filter (Lib.keeps zs.toArray)).length = zs.length ↔ ∀ j,j < zs.length -> Lib.keeps zs.toArray j = true := by
  constructor
  ·intro h j hj;have h' : ((List.range zs.length).filter (Lib.keeps zs.toArray)).length = (List.range zs.length).length := by rw [h,List.length_range]
   exact List.length_filter_eq_length_iff.1 h' j (List.mem_range.2 hj)
  ·intro h;have := List.length_filter_eq_length_iff.2 (fun j hj => h j (List.mem_range.1 hj));rw [this,List.length_range]
 rw [e2];have hle := List.pairwise_iff_getElem.1 hs
 constructor
 ·intro h;have hlt : ∀ j,0 < j -> (hj : j < zs.length) -> zs[j - 1]'(by omega) < zs[j] := by
   intro j h0 hj;have h1 := hle (j - 1) j (by omega) hj (by omega);have h2 := h j hj;have h3 : zs[j - 1]'(by omega) ≠ zs[j] := by
    intro e3;have := Lib.keeps_neg (d := zs.toArray) h0 (by simp [getElem!_pos,show j < zs.length by omega,show j - 1 < zs.length by omega,e3]);rw [this] at h2;cases h2
   omega
  rw [List.Nodup,List.pairwise_iff_getElem];intro i j hi hj hij;have := Up zs hlt (j - i - 1) i (by omega);have e4 : zs[i + (j - i - 1) + 1]'(by omega) = zs[j] := by congr 1;omega
  omega
 ·intro h j hj;rw [List.Nodup,List.pairwise_iff_getElem] at h;by_cases h0 : j = 0
  ·subst h0;exact Lib.keeps_lt_one _ 0 (by omega)
  ·refine Lib.keeps_pos ?_;have := h (j - 1) j (by omega) hj (by omega);simp [getElem!_pos,show j < zs.length by omega,show j - 1 < zs.length by omega];exact fun e => this e.symm
theorem Yj (l : List Int) (hl : l.length < 17592186044416) : ∃ r,Fi.f l = some r ∧ (r.length = l.length ↔ l.Nodup) := by
 unfold Fi.f FU.f;simp only [Option.bind_some,List.length_nil,Nat.zero_add,List.nil_append,eq_true hl,if_true];refine ⟨_,rfl,?_⟩;have hp : (Fi.sorted l).Perm l := List.mergeSort_perm _ _;have hs : (Fi.sorted l).Pairwise (· <= ·) := by
  have := List.pairwise_mergeSort (le := fun x y : Int => decide (x <= y)) (by intro a b c;simp;omega) (by intro a b;simp;omega) l;exact this.imp (fun h => of_decide_eq_true h)
 rw [<- hp.length_eq,Z4 _ hs];exact hp.nodup_iff
theorem Ge (s : ByteArray) (hs : s.size < 4611686018427387904) : Ev (fun k => FT.f k s) (Yn s) := by
 unfold FT.f;refine Ev.eq (Ev.all0 (L := fun k j => FT.l0 k s (j : Int)) (P := Ud s) (n := s.size) (a := Xx s.size 1 8) (b := false) ?_ ?_ ?_) (by unfold Yn;split <;> simp_all)
 ·refine Ev.succ ?_;simp only [FT.l0,Int.lt_irrefl,if_false,Xn,Option.bind_some];exact Ev.now _
 ·intro j r hj hP h;refine Ev.succ ?_;have h1 : ((j : Int) < (s.size : Int)) = True := eq_true (by omega);have hP' := of_decide_eq_true hP;simp only [FT.l0,h1,if_true,Xa,show (bt s (j : Int) < 65) = False from eq_false (by omega),show (bt s (j : Int) > 90) = False from eq_false (by omega),if_false,Xb (show j < 4611686018427387904 by omega)];exact h
 ·intro j hj hP;refine Ev.succ ?_;have h1 : ((j : Int) < (s.size : Int)) = True := eq_true (by omega);have hP' := of_decide_eq_false hP;simp only [FT.l0,h1,if_true,Xa];by_cases h2 : bt s (j : Int) < 65
  ·simp only [eq_true h2,if_true];exact Ev.now _
  ·simp only [eq_false h2,if_false,show (bt s (j : Int) > 90) = True from eq_true (by omega),if_true];exact Ev.now _
def Xz (l : List S41) (j : Nat) : S41 := l.getD j z41
theorem Jr (l : List S41) (j : Nat) : rd_T41 l (j : Int) = Xz l j := by simp [rd_T41,Xz]
theorem Vy (l : List S41) (j : Nat) (h : j < l.length) : Xz l j = l[j] := by unfold Xz;rw [List.getD_eq_getElem?_getD,List.getElem?_eq_getElem h];rfl
def Yg (l : List S41) : Prop := ∀ q,q ∈ l -> q.f1.length <= 1048576 ∧ q.f0.size <= 1048576
theorem Zj {l : List S41} (hz : Yg l) {j : Nat} (hj : j < l.length) : (Xz l j).f1.length <= 1048576 ∧ (Xz l j).f0.size <= 1048576 := by rw [Vy l j hj];exact hz _ (List.getElem_mem hj)
def Y8 (l : List Int) (a b : Int) (j : Nat) : Bool := Xx (l.getD j 0) a b && (decide (j = 0) || decide (l.getD (j - 1) 0 < l.getD j 0))
def Vj (l : List Int) (a b : Int) : Bool := (List.range l.length).all (Y8 l a b)
theorem Uv (l : List Int) (a b : Int) (hl : l.length < 4611686018427387904) : Ev (fun k => FO.f k l a b) (Vj l a b) := by
 unfold FO.f Vj;refine Ev.eq (Ev.all0 (L := fun k j => FO.l0 k l a b l (l.length : Int) (j : Int)) (P := Y8 l a b) (n := l.length) (a := true) (b := false) ?_ ?_ ?_) (by split <;> simp_all)
 ·refine Ev.succ ?_;simp only [FO.l0,Int.lt_irrefl,if_false];exact Ev.now _
 ·intro j r hj hP h;refine Ev.succ ?_;have h1 : ((j : Int) < (l.length : Int)) = True := eq_true (by omega);unfold Y8 at hP;rw [Bool.and_eq_true] at hP;simp only [FO.l0,h1,if_true,Xa,Yp,Xn,Option.bind_some,hP.1,Xb (show j < 4611686018427387904 by omega)];by_cases h0 : j = 0
  ·subst h0;simp only [Int.natCast_zero,gt_iff_lt,Int.lt_irrefl,if_false];exact h
  ·have h2 : ((j : Int) > 0) = True := eq_true (by omega);have h3 : (((j - 1 : Nat) : Int) < (l.length : Int)) = True := eq_true (by omega);have h4 := hP.2;simp only [h0,decide_false,Bool.false_or,decide_eq_true_eq] at h4;have h5 : (l.getD (j - 1) 0 >= l.getD j 0) = False := eq_false (by omega);simp only [h2,if_true,Zk (show 0 < j by omega) (show j < 4611686018427387904 by omega),Xa,h3,Yp,h5,if_false];exact h
 ·intro j hj hP;refine Ev.succ ?_;have h1 : ((j : Int) < (l.length : Int)) = True := eq_true (by omega);unfold Y8 at hP;simp only [FO.l0,h1,if_true,Xa,Yp,Xn,Option.bind_some];rcases Bool.eq_false_or_eq_true (Xx (l.getD j 0) a b) with hb | hb
  ·rw [hb,Bool.true_and,Bool.or_eq_false_iff,decide_eq_false_iff_not,decide_eq_false_iff_not] at hP;have h2 : ((j : Int) > 0) = True := eq_true (by have := hP.1;omega);have h3 : (((j - 1 : Nat) : Int) < (l.length : Int)) = True := eq_true (by omega);have h5 : (l.getD (j - 1) 0 >= l.getD j 0) = True := eq_true (by have := hP.2;omega);simp only [hb,if_true,h2,Zk (show 0 < j by have := hP.1;omega) (show j < 4611686018427387904 by omega),Xa,h3,Yp,h5];exact Ev.now _
  ·simp only [hb,Bool.false_eq_true,if_false];exact Ev.now _
def Yo (l : List Int) (j : Nat) : Bool := decide (j = 0) || decide (l.getD (j - 1) 0 <= l.getD j 0)
def Y9 (l : List Int) : Bool := (List.range l.length).all (Yo l)
theorem J5 (a b : Int) : GJ.f a b = some (decide (a < b)) := by
 unfold GJ.f GO.f;simp
theorem Uf (l : List Int) (hl : l.length < 4611686018427387904) : ∀ j,j < l.length -> Ev (fun k => Fz.l0 k l (j : Int)) ((List.range (j + 1)).all (Yo l)) := by
 intro j
 induction j with
 | zero =>
  intro _;refine Ev.succ ?_;simp only [Fz.l0,Int.natCast_zero,gt_iff_lt,Int.lt_irrefl,if_false];refine Ev.eq (Ev.now _) ?_;simp [Yo]
 | succ j ih =>
  intro hj;refine Ev.succ ?_;have h1 : (((j + 1 : Nat) : Int) > 0) = True := eq_true (by omega);have h2 : (((j + 1 : Nat) : Int) < (l.length : Int)) = True := eq_true (by omega);have h3 : ((j : Int) < (l.length : Int)) = True := eq_true (by omega);have h4 : wrap64 (((j + 1 : Nat) : Int) - 1) = (j : Int) := by rw [Xf (by omega) (by omega)];omega
  simp only [Fz.l0,h1,h2,if_true,Xa,h4,h3,Yp,J5,Option.bind_some];rw [List.range_succ,List.all_append];by_cases h5 : l.getD (j + 1) 0 < l.getD j 0
  ·simp only [h5,decide_true,if_true];refine Ev.eq (Ev.now _) ?_;have : Yo l (j + 1) = false := by
    unfold Yo;simp only [Nat.add_sub_cancel,Bool.or_eq_false_iff,decide_eq_false_iff_not];exact ⟨by omega,by omega⟩
   simp [this]
  ·simp only [h5,decide_false,Bool.false_eq_true,if_false];refine Ev.eq (ih (by omega)) ?_;have : Yo l (j + 1) = true := by
    unfold Yo;simp only [Nat.add_sub_cancel,Bool.or_eq_true,decide_eq_true_eq];exact Or.inr (by omega)
   simp [this]
theorem Ua (l : List Int) (hl : l.length < 4611686018427387904) : Ev (fun k => Fz.f k l) (Y9 l) := by
 unfold Fz.f Y9;by_cases h0 : l.length = 0
 ·rw [h0];refine Ev.succ ?_;simp only [Fz.l0,show (wrap64 (((0 : Nat) : Int) - 1) > 0) = False from eq_false (by unfold wrap64;omega),if_false];exact Ev.now _
 ·rw [Zk (by omega) (by omega)];refine Ev.eq (Uf l hl (l.length - 1) (by omega)) ?_;rw [show l.length - 1 + 1 = l.length by omega]
theorem J6 (l : List Int) (a b : Int) : Vj l a b = (l.all (fun x => decide (a <= x ∧ x <= b)) && (decide l.Nodup && Y9 l)) := by
 have hg : ∀ i (hi : i < l.length),l.getD i 0 = l[i] := fun i hi => by rw [List.getD_eq_getElem?_getD,List.getElem?_eq_getElem hi];rfl
 rw [Bool.eq_iff_iff,Bool.and_eq_true,Bool.and_eq_true,Vj,Y9,List.all_eq_true,List.all_eq_true,List.all_eq_true,decide_eq_true_eq]
 constructor
 ·intro h;have hlt : ∀ j,0 < j -> (hj : j < l.length) -> l[j - 1]'(by omega) < l[j] := by
   intro j h0 hj;have h2 := h j (List.mem_range.2 hj);rw [Y8,Bool.and_eq_true,Bool.or_eq_true,decide_eq_true_eq,decide_eq_true_eq,hg j hj,hg (j - 1) (by omega)] at h2;rcases h2.2 with h3 | h3
   ·omega
   ·exact h3
  refine ⟨fun x hx => ?_,?_,fun j hj => ?_⟩
  ·obtain ⟨i,hi,rfl⟩ := List.getElem_of_mem hx;have := h i (List.mem_range.2 hi);rw [Y8,hg i hi,Bool.and_eq_true] at this;exact this.1
  ·rw [List.Nodup,List.pairwise_iff_getElem];intro i j hi hj hij;have := Up l hlt (j - i - 1) i (by omega);have e4 : l[i + (j - i - 1) + 1]'(by omega) = l[j] := by congr 1;omega
   omega
  ·have hj' := List.mem_range.1 hj;rw [Yo,Bool.or_eq_true,decide_eq_true_eq,decide_eq_true_eq];by_cases h0 : j = 0
   ·exact Or.inl h0
   ·refine Or.inr ?_;rw [hg j hj',hg (j - 1) (by omega)];exact Int.le_of_lt (hlt j (by omega) hj')
 ·rintro ⟨h1,h2,h3⟩ j hj;have hj' := List.mem_range.1 hj;rw [Y8,Bool.and_eq_true,hg j hj'];refine ⟨h1 _ (List.getElem_mem hj'),?_⟩;rw [Bool.or_eq_true,decide_eq_true_eq,decide_eq_true_eq];by_cases h0 : j = 0
  ·exact Or.inl h0
  ·have h4 := h3 j hj;rw [Yo,Bool.or_eq_true,decide_eq_true_eq,decide_eq_true_eq,hg j hj',hg (j - 1) (by omega)] at h4;rw [List.Nodup,List.pairwise_iff_getElem] at h2;have h5 := h2 (j - 1) j (by omega) hj' (by omega);rw [hg (j - 1) (by omega)];rcases h4 with h4 | h4
   ·exact absurd h4 h0
   ·exact Or.inr (by omega)
def Yd (l : List S41) (s : ByteArray) : Bool := l.any fun x => decide (x.f0.toList = s.toList)
def Xr (l : List S41) : Int := wrap64 ((l.length : Int) - 1)
def Xg (l : List S41) (j : Nat) : Bool := Yn (Xz l j).f0 && (Vj (Xz l j).f1 0 (Xr l) && (!(decide ((j : Int) ∈ (Xz l j).f1)) && (Xx (Xz l j).f2 0 99999 && !(Yd (l.take j) (Xz l j).f0))))
def Xp (l : List S41) : Bool := (List.range l.length).all (Xg l) && decide (l.length <= 16)
theorem G2 (l y : List S41) (j : Nat) (s : ByteArray) (n : List Int) (u : Int) (r : Bool) (hy : y.length < 4611686018427387904) (hc : Yd y s = false -> Ev (fun k => Fo.l0 k l l (l.length : Int) (wrap64 ((j : Int) + 1))) r) : ∀ d i,i + d = y.length -> Yd (y.take i) s = false -> Ev (fun k => Fo.l1 k l l (l.length : Int) (j : Int) y (y.length : Int) (i : Int) s n u) (if Yd (y.drop i) s then false else r) := by
 intro d
 induction d with
 | zero =>
  intro i hi h0;refine Ev.succ ?_;have h1 : ((i : Int) < (y.length : Int)) = False := eq_false (by omega);rw [List.take_of_length_le (by omega)] at h0;simp only [Fo.l1,h1,if_false];rw [List.drop_of_length_le (by omega)];exact hc h0
 | succ d ih =>
  intro i hi h0;refine Ev.succ ?_;have hlt : i < y.length := by omega
  have h1 : ((i : Int) < (y.length : Int)) = True := eq_true (by omega);simp only [Fo.l1,h1,if_true,Xa,Jr,Xb (show i < 4611686018427387904 by omega)];have hdup : Yd (y.drop i) s = (decide (y[i].f0.toList = s.toList) || Yd (y.drop (i + 1)) s) := by rw [List.drop_eq_getElem_cons hlt];unfold Yd;rw [List.any_cons]
  rw [hdup,Vy y i hlt];by_cases h2 : y[i].f0.toList = s.toList
  ·simp only [eq_true h2,if_true,decide_true,Bool.true_or];exact Ev.now _
  ·simp only [eq_false h2,if_false,decide_false,Bool.false_or];refine ih (i + 1) (by omega) ?_;rw [List.take_succ_eq_append_getElem hlt];unfold Yd at h0 ⊢;rw [List.any_append,h0];simp [h2]
theorem Yh (l : List S41) (j : Nat) (b : Bool) (r : Bool) (s : ByteArray) (n : List Int) (u : Int) (hl : l.length <= 1048576) (hj : j < l.length) (hc : b = false -> Yd (l.take j) s = false -> Ev (fun k => Fo.l0 k l l (l.length : Int) (wrap64 ((j : Int) + 1))) r) : Ev (fun k => Fo.j1 k l (j : Int) l (l.length : Int) (j : Int) b s n u) (if b || Yd (l.take j) s then false else r) := by
 refine Ev.succ ?_;cases b with
 | true =>
  simp only [Fo.j1,if_true];exact Ev.now _
 | false =>
  have h2 : ((j : Int) <= (l.length : Int)) = True := eq_true (by omega);simp only [Fo.j1,Bool.false_eq_true,if_false,Xa,h2,if_true,Option.bind_some,Int.toNat_natCast,Bool.false_or];have := G2 l (l.take j) j s n u r (by rw [List.length_take];omega) (hc rfl) (l.take j).length 0 (by omega) (by simp [Yd]);rw [List.drop_zero] at this;exact this
theorem Zs (l : List S41) (j : Nat) (r : Bool) (hl : l.length <= 1048576) (hz : Yg l) (hj : j < l.length) (hc : Xg l j = true -> Ev (fun k => Fo.l0 k l l (l.length : Int) ((j + 1 : Nat) : Int)) r) : Ev (fun k => Fo.l0 k l l (l.length : Int) (j : Int)) (if Xg l j then r else false) := by
 refine Ev.succ ?_;have h1 : ((j : Int) < (l.length : Int)) = True := eq_true (by omega);obtain ⟨z1,z0⟩ := Zj hz hj;rw [<- Xb (show j < 4611686018427387904 by omega)] at hc;simp only [Fo.l0,h1,if_true,Xa,Jr];refine Ev.bind (Ge _ (by omega)) ?_;cases hg : Yn (Xz l j).f0 with
 | false =>
  have e : Xg l j = false := by unfold Xg;rw [hg,Bool.false_and]
  rw [e];simp only [Bool.false_eq_true,if_false];exact Ev.eq (Yh l j true r _ _ _ hl hj (fun h => nomatch h)) rfl
 | true =>
  simp only [if_true];refine Ev.bind (Uv _ _ _ (by omega)) ?_;change Ev (fun k => if Vj (Xz l j).f1 0 (Xr l) = true then _ else _) _;cases hr : Vj (Xz l j).f1 0 (Xr l) with
  | false =>
   have e : Xg l j = false := by unfold Xg;rw [hg,hr,Bool.false_and,Bool.and_false]
   rw [e];simp only [Bool.false_eq_true,if_false];exact Ev.eq (Yh l j true r _ _ _ hl hj (fun h => nomatch h)) rfl
  | true =>
   simp only [if_true];refine Ev.bind (Xk _ _ (by omega)) ?_;cases hh : decide ((j : Int) ∈ (Xz l j).f1) with
   | true =>
    have e : Xg l j = false := by unfold Xg;rw [hg,hr,hh];rfl
    rw [e];simp only [if_true];exact Ev.eq (Yh l j true r _ _ _ hl hj (fun h => nomatch h)) rfl
   | false =>
    simp only [Bool.false_eq_true,if_false,Xn,Option.bind_some];cases hi : Xx (Xz l j).f2 0 99999 with
    | false =>
     have e : Xg l j = false := by unfold Xg;rw [hg,hr,hh,hi];rfl
     rw [e];exact Ev.eq (Yh l j true r _ _ _ hl hj (fun h => nomatch h)) rfl
    | true =>
     have e : Xg l j = !(Yd (l.take j) (Xz l j).f0) := by unfold Xg;rw [hg,hr,hh,hi];rfl
     rw [e] at hc ⊢;refine Ev.eq (Yh l j false r _ _ _ hl hj (fun _ h => hc (by rw [h];rfl))) ?_;cases Yd (l.take j) (Xz l j).f0 <;> rfl
theorem Yf (l : List S41) (hl : l.length <= 1048576) (hz : Yg l) : Ev (fun k => Fo.f k l) (Xp l) := by
 unfold Fo.f Xp;refine Ev.eq (Ev.all0 (L := fun k j => Fo.l0 k l l (l.length : Int) (j : Int)) (P := Xg l) (n := l.length) (a := decide (l.length <= 16)) (b := false) ?_ ?_ ?_) (by cases (List.range l.length).all (Xg l) <;> simp)
 ·refine Ev.succ ?_;simp only [Fo.l0,Int.lt_irrefl,if_false];refine Ev.eq (Ev.now _) ?_;rw [decide_eq_decide];omega
 ·intro j r hj hP h;have := Zs l j r hl hz hj (fun _ => h);rw [hP,if_pos rfl] at this;exact this
 ·intro j hj hP;have := Zs l j false hl hz hj (fun h => by rw [hP] at h;cases h);rw [hP] at this;exact this
theorem Zx (l : List S41) (j : Nat) (b : Bool) (r : Bool) (s : ByteArray) (n : List Int) (u : Int) (hj : j < l.length) (hc : b = false -> Yd (l.take j) s = false -> Ev (fun k => Fh.l0 k l l (l.length : Int) (wrap64 ((j : Int) + 1))) r) : Ev (fun k => Fh.j2 k l (j : Int) l (l.length : Int) (j : Int) b s n u) (if b || Yd (l.take j) s then false else r) := by
 refine Ev.succ ?_;cases b with
 | true =>
  simp only [Fh.j2,if_true];exact Ev.now _
 | false =>
  have h2 : ((j : Int) <= (l.length : Int)) = True := eq_true (by omega);simp only [Fh.j2,Bool.false_eq_true,if_false,Xa,h2,if_true,Option.bind_some,Int.toNat_natCast,Bool.false_or,FS.f];change Ev (fun k => if Yd (l.take j) s = true then _ else _) _;cases h3 : Yd (l.take j) s with
  | true => simp only [if_true];exact Ev.now _
  | false => simp only [Bool.false_eq_true,if_false];exact hc rfl h3
theorem X9 (l : List S41) (j : Nat) (b : Bool) (r : Bool) (s : ByteArray) (n : List Int) (u : Int) (hn : n.length <= 1048576) (hj : j < l.length) (hc : b = false -> (decide n.Nodup && Y9 n) = true -> Yd (l.take j) s = false -> Ev (fun k => Fh.l0 k l l (l.length : Int) (wrap64 ((j : Int) + 1))) r) : Ev (fun k => Fh.j1 k l (j : Int) l (l.length : Int) (j : Int) b s n u) (if b || (!(decide n.Nodup && Y9 n) || Yd (l.take j) s) then false else r) := by
 refine Ev.succ ?_;cases b with
 | true =>
  simp only [Fh.j1,if_true];exact Ev.now _
 | false =>
  obtain ⟨t,ht,hd⟩ := Yj n (by omega);simp only [Fh.j1,Bool.false_eq_true,if_false,ht,Option.bind_some,Bool.false_or];by_cases h3 : n.Nodup
  ·have h4 : ((t.length : Int) = (n.length : Int)) = True := eq_true (by have := hd.2 h3;omega);simp only [h4,if_true];refine Ev.bind (Ua n (by omega)) ?_;refine Ev.eq (Zx l j (!Y9 n) r s n u hj (fun h => hc rfl (by simp [h3];simpa using h))) ?_;simp [h3]
  ·have h4 : ((t.length : Int) = (n.length : Int)) = False := eq_false (fun e => h3 (hd.1 (by omega)));simp only [h4,if_false];refine Ev.eq (Zx l j true r s n u hj (fun h => nomatch h)) ?_;simp [h3]
theorem Y2 (l : List S41) (j : Nat) (r : Bool) (hz : Yg l) (hj : j < l.length) (hl : l.length <= 1048576) (hc : Xg l j = true -> Ev (fun k => Fh.l0 k l l (l.length : Int) ((j + 1 : Nat) : Int)) r) : Ev (fun k => Fh.l0 k l l (l.length : Int) (j : Int)) (if Xg l j then r else false) := by
 refine Ev.succ ?_;have h1 : ((j : Int) < (l.length : Int)) = True := eq_true (by omega);obtain ⟨z1,z0⟩ := Zj hz hj;rw [<- Xb (show j < 4611686018427387904 by omega)] at hc;simp only [Fh.l0,h1,if_true,Xa,Jr,FB.f,Xl,Option.bind_some];refine Ev.bind (U9 _ (by omega)) ?_;have hE : Xg l j = (Yn (Xz l j).f0 && (((Xz l j).f1.all (fun x => decide (0 <= x ∧ x <= Xr l)) && (decide (Xz l j).f1.Nodup && Y9 (Xz l j).f1)) && (!(decide ((j : Int) ∈ (Xz l j).f1)) && (Xx (Xz l j).f2 0 99999 && !(Yd (l.take j) (Xz l j).f0))))) := by unfold Xg;rw [J6]
 change Ev (fun k => if Yn (Xz l j).f0 = true then (if Xx (Xz l j).f2 0 99999 = true then (if ((Xz l j).f1.all fun x => decide (0 <= x ∧ x <= Xr l)) = true then _ else _) else _) else _) _;cases hg : Yn (Xz l j).f0 with
 | false =>
  have e : Xg l j = false := by rw [hE,hg,Bool.false_and]
  rw [e];simp only [Bool.false_eq_true,if_false];exact Ev.eq (X9 l j true r _ _ _ z1 hj (fun h => nomatch h)) rfl
 | true =>
  simp only [if_true];cases hi : Xx (Xz l j).f2 0 99999 with
  | false =>
   have e : Xg l j = false := by rw [hE,hi,Bool.false_and,Bool.and_false,Bool.and_false,Bool.and_false]
   rw [e];simp only [Bool.false_eq_true,if_false];exact Ev.eq (X9 l j true r _ _ _ z1 hj (fun h => nomatch h)) rfl
  | true =>
   simp only [if_true];cases hw : ((Xz l j).f1.all fun x => decide (0 <= x ∧ x <= Xr l)) with
   | false =>
    have e : Xg l j = false := by rw [hE,hw,Bool.false_and,Bool.false_and,Bool.and_false]
    rw [e];simp only [Bool.false_eq_true,if_false];exact Ev.eq (X9 l j true r _ _ _ z1 hj (fun h => nomatch h)) rfl
   | true =>
    simp only [if_true];refine Ev.bind (X8 _ _ (by omega)) ?_;rw [hE,hg,hi,hw] at hc;rw [hE,hg,hi,hw];refine Ev.eq (X9 l j _ r _ _ _ z1 hj (fun h1 h2 h3 => hc (by rw [h1,h2,h3];rfl))) ?_;cases decide ((j : Int) ∈ (Xz l j).f1) <;> cases (decide (Xz l j).f1.Nodup && Y9 (Xz l j).f1) <;> cases Yd (l.take j) (Xz l j).f0 <;> rfl
theorem Zu (l : List S41) (hl : l.length <= 1048576) (hz : Yg l) : Ev (fun k => Fh.f k l) (Xp l) := by
 unfold Fh.f Xp;refine Ev.eq (Ev.all0 (L := fun k j => Fh.l0 k l l (l.length : Int) (j : Int)) (P := Xg l) (n := l.length) (a := decide (l.length <= 16)) (b := false) ?_ ?_ ?_) (by cases (List.range l.length).all (Xg l) <;> simp)
 ·refine Ev.succ ?_;simp only [Fh.l0,Int.lt_irrefl,if_false];refine Ev.eq (Ev.now _) ?_;rw [decide_eq_decide];omega
 ·intro j r hj hP h;have := Y2 l j r hz hj hl (fun _ => h);rw [hP,if_pos rfl] at this;exact this
 ·intro j hj hP;have := Y2 l j false hz hj hl (fun h => by rw [hP] at h;cases h);rw [hP] at this;exact this
theorem Jz (l : List Int) (x : Int) (hl : l.length <= 4000000) : ∀ d j,j + d = l.length -> ∃ r : List Int,Ev (fun k => Fs.l0 k l x (j : Int)) r ∧ r.length <= l.length + 1 := by
 intro d
 induction d with
 | zero =>
  intro j hj;refine ⟨l.take j ++ [x] ++ l.drop j,Ev.succ ?_,by simp only [List.length_append,List.length_take,List.length_drop,List.length_singleton];omega⟩;have h1 : ((j : Int) < (l.length : Int)) = False := eq_false (by omega);have h2 : ((j : Int) <= (l.length : Int)) = True := eq_true (by omega);have h3 : (0 + (l.take j).length < 17592186044416) = True := eq_true (by rw [List.length_take];omega);have h4 : ((l.take j).length < 17592186044416) = True := eq_true (by rw [List.length_take];omega);have h5 : ((l.take j ++ [x]).length + (l.drop j).length < 17592186044416) = True := eq_true (by simp only [List.length_append,List.length_take,List.length_drop,List.length_singleton];omega);simp only [Fs.l0,h1,if_false,Option.bind_some,Xa,if_true,h2,Int.toNat_natCast,List.length_nil,h3,List.nil_append,h4,h5];exact Ev.now _
 | succ d ih =>
  intro j hj;have hlt : j < l.length := by omega
  have h1 : ((j : Int) < (l.length : Int)) = True := eq_true (by omega);have h2 : ((j : Int) <= (l.length : Int)) = True := eq_true (by omega);have hg : l.getD j 0 = l[j] := by rw [List.getD_eq_getElem?_getD,List.getElem?_eq_getElem hlt];rfl
  by_cases h6 : l[j] < x
  ·obtain ⟨r,hr,hn⟩ := ih (j + 1) (by omega);refine ⟨r,Ev.succ ?_,hn⟩;simp only [Fs.l0,h1,if_true,Xa,Yp,hg,eq_true h6,Xb (show j < 4611686018427387904 by omega)];exact hr
  ·by_cases h7 : l[j] = x
   ·refine ⟨l,Ev.succ ?_,by omega⟩;simp only [Fs.l0,h1,if_true,Xa,Yp,hg,eq_false h6,if_false,eq_true h7];exact Ev.now _
   ·refine ⟨l.take j ++ [x] ++ l.drop j,Ev.succ ?_,by simp only [List.length_append,List.length_take,List.length_drop,List.length_singleton];omega⟩;have h3 : (0 + (l.take j).length < 17592186044416) = True := eq_true (by rw [List.length_take];omega);have h4 : ((l.take j).length < 17592186044416) = True := eq_true (by rw [List.length_take];omega);have h5 : ((l.take j ++ [x]).length + (l.drop j).length < 17592186044416) = True := eq_true (by simp only [List.length_append,List.length_take,List.length_drop,List.length_singleton];omega);simp only [Fs.l0,h1,if_true,Xa,Yp,hg,eq_false h6,eq_false h7,if_false,Option.bind_some,h2,Int.toNat_natCast,List.length_nil,h3,List.nil_append,h4,h5];exact Ev.now _
theorem Tb (l : List Int) (x : Int) (hl : l.length <= 4000000) : ∃ r : List Int,Ev (fun k => Fs.f k l x) r ∧ r.length <= l.length + 1 := by
 unfold Fs.f;exact Jz l x hl l.length 0 (by omega)
def WSh (n : Nat) (l : List S41) : Prop := ∀ q,q ∈ l -> q.f1.length <= n ∧ Ya q.f0
theorem WSh.wsz {n : Nat} {l : List S41} (h : WSh n l) (hn : n <= 1048576) : Yg l := fun q hq => by
 obtain ⟨h1,h2⟩ := h q hq;unfold Ya at h2;exact ⟨by omega,by omega⟩
theorem WSh.mono {n m : Nat} {l : List S41} (h : WSh n l) (hn : n <= m) : WSh m l := fun q hq => ⟨Nat.le_trans (h q hq).1 hn,(h q hq).2⟩
theorem WSh.snoc {n : Nat} {l : List S41} (h : WSh n l) {x : S41} (h1 : x.f1.length <= n) (h2 : Ya x.f0) : WSh n (l ++ [x]) := fun y hy => by
 rcases List.mem_append.1 hy with hy | hy
 ·exact h y hy
 ·rw [List.mem_singleton.1 hy];exact ⟨h1,h2⟩
theorem WSh.set {n : Nat} {l : List S41} (h : WSh n l) {x : S41} (i : Nat) (h1 : x.f1.length <= n) (h2 : Ya x.f0) : WSh n (l.set i x) := fun y hy => by
 rcases List.mem_or_eq_of_mem_set hy with hy | hy
 ·exact h y hy
 ·rw [hy];exact ⟨h1,h2⟩
theorem WSh.at {n : Nat} {l : List S41} (h : WSh n l) (i : Int) : (rd_T41 l i).f1.length <= n ∧ Ya (rd_T41 l i).f0 := by
 have e : rd_T41 l i = Xz l i.toNat := rfl;rw [e];by_cases hi : i.toNat < l.length
 ·rw [Vy l _ hi];exact h _ (List.getElem_mem hi)
 ·unfold Xz;rw [List.getD_eq_getElem?_getD,List.getElem?_eq_none (by omega)];exact ⟨Nat.zero_le _,Nat.zero_le _⟩
def letters17 : ByteArray := ⟨#[65,66,67,68,69,70,71,72,73,74,75,76,77,78,79,80,81]⟩
theorem Jp {l : List Int} {a s : Int} (N : Nat) (hN : N <= 17) : ∀ (d : Nat) (x3 : List S41),x3.length + d = N -> WSh 10 x3 -> ∃ L,Ev (fun k => Fd.l2 k x3 (N : Int) l a s) (L,a,s) ∧ L.length <= 17 ∧ WSh 10 L := by
 intro d
 induction d with
 | zero =>
  intro x3 hd hs;refine ⟨x3,Ev.succ ?_,by omega,hs⟩;simp only [Fd.l2,show ((x3.length : Int) < (N : Int)) = False from eq_false (by omega),if_false];exact Ev.now _
 | succ d ih =>
  intro x3 hd hs;have e1 : (letters17.extract x3.length (x3.length + 1)).size = 1 := by
   rw [ByteArray.size_extract];have : letters17.size = 17 := rfl;omega
  have hw : wrap64 ((x3.length : Int) + 1) = ((x3.length + 1 : Nat) : Int) := Xb (by omega);have hlet : (⟨#[65,66,67,68,69,70,71,72,73,74,75,76,77,78,79,80,81]⟩ : ByteArray) = letters17 := rfl;obtain ⟨L,hE,hL,hS⟩ := ih (x3 ++ [(⟨(⟨#[88]⟩ : ByteArray) ++ letters17.extract x3.length (x3.length + 1),([] : List Int),5⟩ : S41)]) (by rw [List.length_append,List.length_singleton];omega) (hs.snoc (by simp) (by
   show (_ ++ _ : ByteArray).size <= 10;rw [ByteArray.size_append,e1]
   decide))
  refine ⟨L,Ev.succ ?_,hL,hS⟩;simp only [Fd.l2,show ((x3.length : Int) < (N : Int)) = True from eq_true (by omega),if_true,Xa,hw,hlet,e1,show ((x3.length : Int) <= ((x3.length + 1 : Nat) : Int)) = True from eq_true (by omega),show (((x3.length + 1 : Nat) : Int) <= 17) = True from eq_true (by omega),show (1 + 1 <= 9223372036854775807) = True from eq_true (by decide),show (x3.length < 2932031007402) = True from eq_true (by omega)];exact hE
def names7 : List ByteArray := [(⟨#[83,85,78]⟩ : ByteArray),(⟨#[72,79,85,83,69]⟩ : ByteArray),(⟨#[84,82,69,69]⟩ : ByteArray),(⟨#[82,65,73,78]⟩ : ByteArray),(⟨#[66,79,79,75]⟩ : ByteArray),(⟨#[69,73,71,72,84,76,69,84]⟩ : ByteArray),(⟨#[65]⟩ : ByteArray)]
theorem V1 : ∀ x,x ∈ names7 -> Ya x := Xc (Xd (by decide)) (Xc (Xd (by decide)) (Xc (Xd (by decide)) (Xc (Xd (by decide)) (Xc (Xd (by decide)) (Xc (Xd (by decide)) (Xc (Xd (by decide)) Zo))))))
theorem V9 {l : List Int} (hu : U8 l) {a : Int} (s : Int) (h0 : 0 <= a) (h1 : a <= 999999999900) : Ti (GK.f l a s) a 4 Ya := by
 obtain ⟨y2,a2,s2,e2,m2,p2,q2⟩ := Tc hu s h0 (by omega) [(⟨#[]⟩ : ByteArray),(⟨#[115,117,110]⟩ : ByteArray),(⟨#[78,73,78,69,76,69,84,84,69]⟩ : ByteArray),(⟨#[65,49]⟩ : ByteArray),(⟨#[90,79,79]⟩ : ByteArray),(⟨#[65]⟩ : ByteArray)] (by simp) (by simp);obtain ⟨y3,a3,s3,e3,m3,p3,q3⟩ := Tc hu s2 (a := a2) (by omega) (by omega) [(⟨#[83,85,78]⟩ : ByteArray),(⟨#[72,79,85,83,69]⟩ : ByteArray),(⟨#[84,82,69,69]⟩ : ByteArray),(⟨#[82,65,73,78]⟩ : ByteArray),(⟨#[66,79,79,75]⟩ : ByteArray),(⟨#[83,85,78]⟩ : ByteArray),y2] (by simp) (by simp);have h2 : Ya y2 := Xc (Xd (by decide)) (Xc (Xd (by decide)) (Xc (Xd (by decide)) (Xc (Xd (by decide)) (Xc (Xd (by decide)) (Xc (Xd (by decide)) Zo))))) _ m2;have h3 : Ya y3 := Xc (Xd (by decide)) (Xc (Xd (by decide)) (Xc (Xd (by decide)) (Xc (Xd (by decide)) (Xc (Xd (by decide)) (Xc (Xd (by decide)) (Xc h2 Zo)))))) _ m3;unfold GK.f;simp only [e2,e3,Option.bind_some];exact ⟨_,_,_,rfl,h3,by omega,by omega⟩
theorem Ju {l : List Int} (hu : U8 l) (x3 : List S41) (n : Int) (i : Nat) (g : ByteArray) (us a0 B : Int) (P : List S41 × Int × Int -> Prop) (hx : x3.length <= 100) (hi : i <= 100) (h00 : 0 <= a0) (hB : B <= 999999999000)
  (hc : ∀ (nd : List Int) (a s : Int),nd.length <= i -> a0 <= a -> a <= B -> ∃ r,Ev (fun k => Fd.l0 k (x3 ++ [(⟨g,nd,us⟩ : S41)]) names7 n ((i + 1 : Nat) : Int) l a s) r ∧ P r) :
  ∀ (d q : Nat) (nd : List Int) (a s : Int),q + d = i -> nd.length <= q -> a0 <= a -> a + 2 * d <= B -> ∃ r,Ev (fun k => Fd.l1 k x3 names7 n (i : Int) (q : Int) l a s g nd us) r ∧ P r := by
 intro d
 induction d with
 | zero =>
  intro q nd a s hq hn h0 h1;obtain rfl : q = i := by omega
  obtain ⟨r,hE,hP⟩ := hc nd a s hn h0 (by omega);refine ⟨r,Ev.succ ?_,hP⟩;simp only [Fd.l1,show ((q : Int) < (q : Int)) = False from eq_false (by omega),if_false,show (x3.length < 2932031007402) = True from eq_true (by omega),if_true,Xb (show q < 4611686018427387904 by omega)];exact hE
 | succ d ih =>
  intro q nd a s hq hn h0 h1;obtain ⟨b,a1,s1,e1,_,p1,q1⟩ := U4 hu s (a := a) (by omega) (by omega) 3 (by decide) (by decide);have hw : wrap64 ((q : Int) + 1) = ((q + 1 : Nat) : Int) := Xb (by omega);have hlt : ((q : Int) < (i : Int)) = True := eq_true (by omega);cases b with
  | true =>
   obtain ⟨r,hE,hP⟩ := ih (q + 1) (nd ++ [(q : Int)]) a1 s1 (by omega) (by rw [List.length_append,List.length_singleton];omega) (by omega) (by omega);refine ⟨r,Ev.succ ?_,hP⟩;simp only [Fd.l1,hlt,if_true,e1,Option.bind_some,show (nd.length < 17592186044416) = True from eq_true (by omega),hw];exact hE
  | false =>
   obtain ⟨r,hE,hP⟩ := ih (q + 1) nd a1 s1 (by omega) (by omega) (by omega) (by omega);refine ⟨r,Ev.succ ?_,hP⟩;simp only [Fd.l1,hlt,if_true,e1,Option.bind_some,Bool.false_eq_true,if_false,hw];exact hE
theorem Gz {l : List Int} (hu : U8 l) (n : Nat) (hn : n <= 7) (x3 : List S41) (a s : Int) (hx : x3.length = n) (hs : WSh 7 x3) (h0 : 0 <= a) (h1 : a <= 999999998000) :
  ∃ r,Ev (fun k => Fd.l0 k x3 names7 (n : Int) (n : Int) l a s) r ∧ (r.1.length <= 17 ∧ WSh 10 r.1 ∧ a <= r.2.1 ∧ r.2.1 <= a + 20) := by
 have hs10 := hs.mono (show 7 <= 10 by decide);by_cases hp : (n : Int) > 0
 ·obtain ⟨i,a1,s1,e1,⟨i0,i1⟩,p1,q1⟩ := Xe hu s h0 (by omega) (n : Int) (by omega) (by omega);obtain ⟨m,a2,s2,e2,_,p2,q2⟩ := Xe hu s1 (a := a1) (by omega) (by omega) 16 (by decide) (by decide);have hi : (i < (x3.length : Int)) = True := eq_true (by omega);obtain ⟨w1,w2⟩ := hs.at i;by_cases c0 : m = 0
  ·obtain ⟨y,a3,s3,e3,_,p3,q3⟩ := Xe hu s2 (a := a2) (by omega) (by omega) (n : Int) (by omega) (by omega);obtain ⟨z,hz,hzl⟩ := Tb (rd_T41 x3 i).f1 y (by omega);refine ⟨(x3.set (i : Int).toNat (⟨(rd_T41 x3 i).f0,z,(rd_T41 x3 i).f2⟩ : S41),a3,s3),Ev.succ ?_,?_,hs10.set _ (by show z.length <= 10;omega) w2,by show a <= a3;omega,by show a3 <= a + 20;omega⟩
   ·simp only [Fd.l0,show ((n : Int) < (n : Int)) = False from eq_false (by omega),if_false,eq_true hp,if_true,e1,e2,Option.bind_some,eq_true c0,eq_true i0,hi,e3];exact Ev.bind hz (Ev.now _)
   ·show (x3.set _ _).length <= 17;rw [List.length_set];omega
  by_cases c1 : m = 1
  ·obtain ⟨y,a3,s3,e3,_,p3,q3⟩ := Xm hu s2 (a := a2) (by omega) (by omega) [(-1),(n : Int),0] (by simp) (by simp);refine ⟨(x3.set (i : Int).toNat (⟨(rd_T41 x3 i).f0,(rd_T41 x3 i).f1 ++ [y],(rd_T41 x3 i).f2⟩ : S41),a3,s3),Ev.succ ?_,?_,hs10.set _ (by show (_ ++ _ : List Int).length <= 10;rw [List.length_append,List.length_singleton];omega) w2,by show a <= a3;omega,by show a3 <= a + 20;omega⟩
   ·simp only [Fd.l0,show ((n : Int) < (n : Int)) = False from eq_false (by omega),if_false,eq_true hp,if_true,e1,e2,Option.bind_some,eq_false c0,eq_true c1,eq_true i0,hi,e3,eq_false c0,show ((rd_T41 x3 i).f1.length < 17592186044416) = True from eq_true (by omega)];exact Ev.now _
   ·show (x3.set _ _).length <= 17;rw [List.length_set];omega
  by_cases c2 : m = 2
  ·obtain ⟨y,a3,s3,e3,hy,p3,q3⟩ := V9 hu s2 (a := a2) (by omega) (by omega);refine ⟨(x3.set (i : Int).toNat (⟨y,(rd_T41 x3 i).f1,(rd_T41 x3 i).f2⟩ : S41),a3,s3),Ev.succ ?_,?_,hs10.set _ (by show (rd_T41 x3 i).f1.length <= 10;omega) hy,by show a <= a3;omega,by show a3 <= a + 20;omega⟩
   ·simp only [Fd.l0,show ((n : Int) < (n : Int)) = False from eq_false (by omega),if_false,eq_true hp,if_true,e1,e2,Option.bind_some,eq_true c2,eq_true i0,hi,e3,eq_false c0,eq_false c1];exact Ev.now _
   ·show (x3.set _ _).length <= 17;rw [List.length_set];omega
  by_cases c3 : m = 3
  ·obtain ⟨y,a3,s3,e3,hy,p3,q3⟩ := Xm hu s2 (a := a2) (by omega) (by omega) [(-1),100000] (by simp) (by simp);refine ⟨(x3.set (i : Int).toNat (⟨(rd_T41 x3 i).f0,(rd_T41 x3 i).f1,y⟩ : S41),a3,s3),Ev.succ ?_,?_,hs10.set _ (by show (rd_T41 x3 i).f1.length <= 10;omega) w2,by show a <= a3;omega,by show a3 <= a + 20;omega⟩
   ·simp only [Fd.l0,show ((n : Int) < (n : Int)) = False from eq_false (by omega),if_false,eq_true hp,if_true,e1,e2,Option.bind_some,eq_true c3,eq_true i0,hi,e3,eq_false c0,eq_false c1,eq_false c2];exact Ev.now _
   ·show (x3.set _ _).length <= 17;rw [List.length_set];omega
  by_cases c4 : m = 4
  ·obtain ⟨y,a3,s3,e3,⟨y0,y1⟩,p3,q3⟩ := Xe hu s2 (a := a2) (by omega) (by omega) 2 (by decide) (by decide);obtain ⟨N,hN⟩ : ∃ N : Nat,16 + y = (N : Int) := ⟨(16 + y).toNat,by omega⟩;obtain ⟨L,hE,hL,hS⟩ := Jp (l := l) (a := a3) (s := s3) N (by omega) N [] (by simp) (fun x hx => by cases hx);refine ⟨(L,a3,s3),Ev.succ ?_,hL,hS,by show a <= a3;omega,by show a3 <= a + 20;omega⟩;simp only [Fd.l0,show ((n : Int) < (n : Int)) = False from eq_false (by omega),if_false,eq_true hp,if_true,e1,e2,Option.bind_some,eq_true c4,e3,eq_false c0,eq_false c1,eq_false c2,eq_false c3];rw [Xf (by omega) (by omega),hN];exact hE
  ·refine ⟨(x3,a2,s2),Ev.succ ?_,by show x3.length <= 17;omega,hs10,by show a <= a2;omega,by show a2 <= a + 20;omega⟩;simp only [Fd.l0,show ((n : Int) < (n : Int)) = False from eq_false (by omega),if_false,eq_true hp,if_true,e1,e2,Option.bind_some,eq_false c0,eq_false c1,eq_false c2,eq_false c3,eq_false c4];exact Ev.now _
 ·refine ⟨(x3,a,s),Ev.succ ?_,by show x3.length <= 17;omega,hs10,Int.le_refl _,by show a <= a + 20;omega⟩;simp only [Fd.l0,show ((n : Int) < (n : Int)) = False from eq_false (by omega),if_false,eq_false hp];exact Ev.now _
theorem Jh {l : List Int} (hu : U8 l) (n : Nat) (hn : n <= 7) : ∀ (d j : Nat) (x3 : List S41) (a s : Int),j + d = n -> x3.length = j -> WSh 7 x3 -> 0 <= a -> a + 20 * d <= 999999998000 -> ∃ r,Ev (fun k => Fd.l0 k x3 names7 (n : Int) (j : Int) l a s) r ∧ (r.1.length <= 17 ∧ WSh 10 r.1 ∧ a <= r.2.1 ∧ r.2.1 <= a + 20 * d + 20) := by
 intro d
 induction d with
 | zero =>
  intro j x3 a s hd hl hs h0 h1;obtain rfl : j = n := by omega
  obtain ⟨r,hE,h2,h3,h4,h5⟩ := Gz hu j hn x3 a s hl hs h0 (by omega);exact ⟨r,hE,h2,h3,h4,by omega⟩
 | succ d ih =>
  intro j x3 a s hd hl hs h0 h1;obtain ⟨us,a1,s1,e1,_,p1,q1⟩ := Xm hu s h0 (by omega) [0,1,10,10,50,500,99999] (by decide) (by decide);have hj : ((j : Int) < (n : Int)) = True := eq_true (by omega);have hn7 : ((j : Int) < (names7.length : Int)) = True := eq_true (by show (j : Int) < 7;omega);have hm : rdOf ByteArray.empty names7 (j : Int) ∈ names7 := by
   have hlt : j < names7.length := by show j < 7;omega
   have e : rdOf ByteArray.empty names7 (j : Int) = names7[j] := by
    show names7.getD ((j : Int)).toNat ByteArray.empty = _;rw [Int.toNat_natCast,List.getD_eq_getElem?_getD,List.getElem?_eq_getElem hlt];rfl
   rw [e];exact List.getElem_mem _
  obtain ⟨r,hE,hP⟩ := Ju hu x3 (n : Int) j (rdOf ByteArray.empty names7 (j : Int)) us a1 (a1 + 2 * j) (fun r => r.1.length <= 17 ∧ WSh 10 r.1 ∧ a <= r.2.1 ∧ r.2.1 <= a + 20 * ((d + 1 : Nat) : Int) + 20) (by omega) (by omega) (by omega) (by omega)
   (fun nd a2 s2 hnd h2 h3 => by
    obtain ⟨r,hE,g1,g2,g3,g4⟩ := ih (j + 1) (x3 ++ [(⟨rdOf ByteArray.empty names7 (j : Int),nd,us⟩ : S41)]) a2 s2 (by omega) (by rw [List.length_append,List.length_singleton];omega) (hs.snoc (by show nd.length <= 7;omega) (V1 _ hm)) (by omega) (by omega);exact ⟨r,hE,g1,g2,by omega,by omega⟩)
   j 0 [] a1 s1 (by omega) (by simp) (Int.le_refl _) (by omega)
  refine ⟨r,Ev.succ ?_,hP⟩;simp only [Fd.l0,hj,if_true,Xa,hn7,e1,Option.bind_some];exact hE
theorem Uj {l : List Int} (hu : U8 l) {a : Int} (s : Int) (h0 : 0 <= a) (h1 : a <= 999999997000) : ∃ L a' s',Ev (fun k => Fd.f k l a s) (L,a',s') ∧ L.length <= 17 ∧ WSh 10 L ∧ a <= a' ∧ a' <= a + 200 := by
 obtain ⟨n,a1,s1,e1,⟨n0,n1⟩,p1,q1⟩ := Xe hu s h0 (by omega) 8 (by decide) (by decide);obtain ⟨m,rfl⟩ : ∃ m : Nat,n = (m : Int) := ⟨n.toNat,by omega⟩;obtain ⟨⟨L,a',s'⟩,hE,g1,g2,g3,g4⟩ := Jh hu m (by omega) m 0 [] a1 s1 (by omega) rfl (fun x hx => by cases hx) (by omega) (by omega);refine ⟨L,a',s',?_,g1,g2,by have : a1 <= a' := g3;omega,by have : a' <= a1 + 20 * (m : Int) + 20 := g4;omega⟩;unfold Fd.f;have hn7 : ([(⟨#[83,85,78]⟩ : ByteArray),(⟨#[72,79,85,83,69]⟩ : ByteArray),(⟨#[84,82,69,69]⟩ : ByteArray),(⟨#[82,65,73,78]⟩ : ByteArray),(⟨#[66,79,79,75]⟩ : ByteArray),(⟨#[69,73,71,72,84,76,69,84]⟩ : ByteArray),(⟨#[65]⟩ : ByteArray)] : List ByteArray) = names7 := rfl;have e8 : wrap64 ((names7.length : Int) + 1) = 8 := by show wrap64 (((7 : Nat) : Int) + 1) = 8;exact Xf (by decide) (by decide)
 simp only [hn7,Option.bind_some,e8,e1];exact hE
def Zb (need : Int -> List Int) : List Int -> List Int -> Prop
 | _,[] => True
 | done,x :: t => (∀ k,k ∈ need x -> k ∈ done) ∧ Zb need (done ++ [x]) t
theorem Zc {need : Int -> List Int} : ∀ (a b done : List Int),Zb need done (a ++ b) ↔ Zb need done a ∧ Zb need (done ++ a) b
 | [],b,done => by simp [Zb]
 | x :: a,b,done => by
  show (_ ∧ Zb need (done ++ [x]) (a ++ b)) ↔ (_ ∧ Zb need (done ++ [x]) a) ∧ _;rw [Zc a b (done ++ [x]),List.append_assoc,List.singleton_append,and_assoc]
theorem Yz : ∀ (a b : List Int),a.Nodup -> (∀ x,x ∈ a -> x ∈ b) -> a.length <= b.length
 | [],b,_,_ => by simp
 | x :: a,b,hn,hs => by
  obtain ⟨hx,ha⟩ := List.nodup_cons.1 hn;obtain ⟨p,q,rfl⟩ := List.append_of_mem (hs x (List.mem_cons_self ..));have := Yz a (p ++ q) ha (fun y hy => by
   have h1 := hs y (List.mem_cons_of_mem _ hy);simp only [List.mem_append,List.mem_cons] at h1 ⊢;rcases h1 with h1 | rfl | h1
   ·exact Or.inl h1
   ·exact absurd hy hx
   ·exact Or.inr h1)
  simp only [List.length_append,List.length_cons] at this ⊢;omega
theorem Ze {a b : List Int} (ha : a.Nodup) (hb : b.Nodup) (h : ∀ x,x ∈ a ↔ x ∈ b) : a.length = b.length :=
 Nat.le_antisymm (Yz a b ha (fun x => (h x).1)) (Yz b a hb (fun x => (h x).2))
theorem Ta (n : Nat) : ∀ x : Int,x ∈ (List.range n).map Int.ofNat ↔ 0 <= x ∧ x < n := by
 intro x;rw [List.mem_map]
 constructor
 ·rintro ⟨i,hi,rfl⟩;have := List.mem_range.1 hi;exact ⟨Int.natCast_nonneg i,by show (i : Int) < n;omega⟩
 ·rintro ⟨h0,h1⟩;exact ⟨x.toNat,List.mem_range.2 (by omega),by show (x.toNat : Int) = x;omega⟩
theorem Xw {n : Nat} {a : List Int} (ha : a.Nodup) (hr : ∀ x,x ∈ a -> 0 <= x ∧ x < n) : a.length <= n := by
 have := Yz a ((List.range n).map Int.ofNat) ha (fun x hx => (Ta n x).2 (hr x hx))
 simpa using this
theorem Vf {n : Nat} {a : List Int} (ha : a.Nodup) (hr : ∀ x,x ∈ a -> 0 <= x ∧ x < n) (hl : n <= a.length) : ∀ x : Int,0 <= x -> x < n -> x ∈ a := by
 intro x h0 h1;by_cases h : x ∈ a
 ·exact h
 ·have := Xw (n := n) (a := x :: a) (List.nodup_cons.2 ⟨h,ha⟩) (fun y hy => by
   rcases List.mem_cons.1 hy with rfl | hy
   ·exact ⟨h0,h1⟩
   ·exact hr y hy)
  simp only [List.length_cons] at this;omega
def Ye (us : Int -> Int) (p : Int -> Bool) : Nat -> Nat -> Int -> Int
 | 0,_,b => b
 | d + 1,j,b => Ye us p d (j + 1) (if p (j : Int) && (decide (b < 0) || decide (us (j : Int) > us b)) then (j : Int) else b)
theorem U0 (us : Int -> Int) (p : Int -> Bool) (N : Nat) : ∀ d j (b : Int),j + d = N -> (b = -1 ∧ (∀ i : Nat,i < j -> p i = false) ∨ 0 <= b ∧ b < N ∧ p b = true) ->
  (Ye us p d j b = -1 ∧ (∀ i : Nat,i < N -> p i = false)) ∨ (0 <= Ye us p d j b ∧ Ye us p d j b < N ∧ p (Ye us p d j b) = true) := by
 intro d
 induction d with
 | zero =>
  intro j b hj h;rw [Nat.add_zero] at hj;subst hj;exact h
 | succ d ih =>
  intro j b hj h;unfold Ye;refine ih (j + 1) _ (by omega) ?_;by_cases hp : p (j : Int) = true
  ·by_cases hc : (decide (b < 0) || decide (us (j : Int) > us b)) = true
   ·simp only [hp,hc,Bool.true_and,if_true];exact Or.inr ⟨by omega,by omega,by first|exact hp | trivial⟩
   ·simp only [hp,hc,Bool.true_and,Bool.false_eq_true,if_false];rcases h with ⟨rfl,_⟩ | h
    ·simp at hc
    ·exact Or.inr h
  ·rw [Bool.not_eq_true] at hp;simp only [hp,Bool.false_and,Bool.false_eq_true,if_false];rcases h with ⟨rfl,h⟩ | h
   ·refine Or.inl ⟨rfl,fun i hi => ?_⟩;by_cases e : i = j
    ·subst e;exact hp
    ·exact h i (by omega)
   ·exact Or.inr h
def X7 (us : Int -> Int) (p : Int -> Bool) (N : Nat) : Int := Ye us p N 0 (-1)
theorem Vz (us : Int -> Int) (p : Int -> Bool) (N : Nat) : (X7 us p N = -1 ∧ ∀ i : Nat,i < N -> p i = false) ∨ (0 <= X7 us p N ∧ X7 us p N < N ∧ p (X7 us p N) = true) :=
 U0 us p N N 0 (-1) (by omega) (Or.inl ⟨rfl,fun i hi => absurd hi (by omega)⟩)
theorem Zv (us : Int -> Int) (p q : Int -> Bool) : ∀ d j (b : Int),(∀ i : Nat,j <= i -> i < j + d -> p i = q i) -> Ye us p d j b = Ye us q d j b
 | 0,_,_,_ => rfl
 | d + 1,j,b,h => by
  unfold Ye;rw [h j (by omega) (by omega)];exact Zv us p q d (j + 1) _ (fun i h1 h2 => h i (by omega) (by omega))
theorem Gd (us : Int -> Int) (p q : Int -> Bool) (N : Nat) (h : ∀ i : Nat,i < N -> p i = q i) : X7 us p N = X7 us q N := Zv us p q N 0 (-1) (fun i _ h2 => h i (by omega))
def J8 (nd : Int -> List Int) (D : List Int) (i : Int) : Bool := (nd i).all fun k => decide (k ∈ D)
theorem Gk (nd : Int -> List Int) (D : List Int) (i : Int) : J8 nd D i = true ↔ ∀ k,k ∈ nd i -> k ∈ D := by
 unfold J8;rw [List.all_eq_true];simp
def Xq (nd : Int -> List Int) (D L : List Int) (i : Int) : Bool := !(decide (i ∈ D)) && (!(decide (i ∈ L)) && J8 nd D i)
theorem Zm (nd : Int -> List Int) (D L : List Int) (i : Int) : Xq nd D L i = true ↔ i ∉ D ∧ i ∉ L ∧ ∀ k,k ∈ nd i -> k ∈ D := by
 unfold Xq;rw [Bool.and_eq_true,Bool.and_eq_true,Gk];simp
def Xi (us : Int -> Int) (nd : Int -> List Int) (N : Nat) (D : List Int) : Nat -> List Int -> List Int
 | 0,L => L
 | f + 1,L => if X7 us (Xq nd D L) N < 0 then L else Xi us nd N D f (L ++ [X7 us (Xq nd D L) N])
structure Good (nd : Int -> List Int) (N : Nat) (D : List Int) : Prop where
 nodup : D.Nodup
 range : ∀ x,x ∈ D -> 0 <= x ∧ x < N
 teach : Zb nd [] D
def Jl (nd : Int -> List Int) (N : Nat) (D : List Int) : Prop := ∀ i : Int,0 <= i ∧ i < N -> i ∉ D -> ∃ k,k ∈ nd i ∧ k ∉ D
theorem Zf (nd : Int -> List Int) (N : Nat) : Good nd N [] := ⟨List.nodup_nil,fun _ h => absurd h (List.not_mem_nil),trivial⟩
theorem Vo {us : Int -> Int} {nd : Int -> List Int} {N : Nat} {D : List Int} (h : X7 us (Xq nd D []) N < 0) : Jl nd N D := by
 rcases Vz us (Xq nd D []) N with ⟨_,h2⟩ | ⟨h0,_⟩
 ·intro i hi hn;have := h2 i.toNat (by omega);rw [show ((i.toNat : Nat) : Int) = i by omega] at this;have hr : J8 nd D i = false := by
   by_cases hr : J8 nd D i = true
   ·have : Xq nd D [] i = true := (Zm nd D [] i).2 ⟨hn,by simp,(Gk nd D i).1 hr⟩
    simp_all
   ·simpa using hr
  unfold J8 at hr;rw [List.all_eq_false] at hr;obtain ⟨k,hk,hk2⟩ := hr;exact ⟨k,hk,by simpa using hk2⟩
 ·omega
structure Pick (nd : Int -> List Int) (N : Nat) (D L : List Int) : Prop where
 nodup : L.Nodup
 out : ∀ x,x ∈ L -> x ∉ D
 range : ∀ x,x ∈ L -> 0 <= x ∧ x < N
 ready : ∀ x,x ∈ L -> ∀ k,k ∈ nd x -> k ∈ D
theorem Yu (nd : Int -> List Int) (N : Nat) (D : List Int) : Pick nd N D [] := ⟨List.nodup_nil,fun _ h => absurd h (List.not_mem_nil),fun _ h => absurd h (List.not_mem_nil),fun _ h => absurd h (List.not_mem_nil)⟩
theorem Zn {us : Int -> Int} {nd : Int -> List Int} {N : Nat} {D L : List Int} (hg : Pick nd N D L) (h : ¬ X7 us (Xq nd D L) N < 0) : Pick nd N D (L ++ [X7 us (Xq nd D L) N]) := by
 rcases Vz us (Xq nd D L) N with ⟨h1,_⟩ | ⟨h0,h1,h2⟩
 ·omega
 ·obtain ⟨a1,a2,a3⟩ := (Zm nd D L _).1 h2;have hm : ∀ x,x ∈ L ++ [X7 us (Xq nd D L) N] -> x ∈ L ∨ x = X7 us (Xq nd D L) N := fun x hx => by simpa using hx
  refine ⟨?_,fun x hx => ?_,fun x hx => ?_,fun x hx => ?_⟩
  ·rw [List.nodup_append];refine ⟨hg.nodup,by simp,?_⟩;intro x hx y hy;rw [List.mem_singleton] at hy;subst hy;intro e;subst e;exact a2 hx
  ·rcases hm x hx with hx | rfl
   ·exact hg.out x hx
   ·exact a1
  ·rcases hm x hx with hx | rfl
   ·exact hg.range x hx
   ·exact ⟨h0,h1⟩
  ·rcases hm x hx with hx | rfl
   ·exact hg.ready x hx
   ·exact a3
theorem Yb (us : Int -> Int) (nd : Int -> List Int) (N : Nat) (D : List Int) : ∀ f L,Pick nd N D L -> Pick nd N D (Xi us nd N D f L) ∧ (Xi us nd N D f L).length <= L.length + f ∧ L.length <= (Xi us nd N D f L).length
 | 0,L,h => ⟨h,by simp [Xi],by simp [Xi]⟩
 | f + 1,L,h => by
  unfold Xi;by_cases h1 : X7 us (Xq nd D L) N < 0
  ·rw [if_pos h1];exact ⟨h,by omega,by omega⟩
  ·rw [if_neg h1];obtain ⟨a,b,c⟩ := Yb us nd N D f _ (Zn h h1);simp only [List.length_append,List.length_singleton] at b c;exact ⟨a,by omega,by omega⟩
theorem Gc {us : Int -> Int} {nd : Int -> List Int} {N : Nat} {D : List Int} {f : Nat} (hf : 0 < f) (h : Xi us nd N D f [] = []) : Jl nd N D := by
 obtain ⟨f,rfl⟩ : ∃ g,f = g + 1 := ⟨f - 1,by omega⟩;unfold Xi at h;by_cases h1 : X7 us (Xq nd D []) N < 0
 ·exact Vo h1
 ·rw [if_neg h1] at h;obtain ⟨_,_,c⟩ := Yb us nd N D f _ (Zn (Yu nd N D) h1);rw [h] at c;simp at c
theorem Gw {us : Int -> Int} {nd : Int -> List Int} {N : Nat} {D : List Int} {f : Nat} (hg : Good nd N D) (h : N <= D.length) : Xi us nd N D f [] = [] := by
 cases f with
 | zero => rfl
 | succ f =>
  unfold Xi;rcases Vz us (Xq nd D []) N with ⟨h1,_⟩ | ⟨h0,h1,h2⟩
  ·rw [if_pos (by omega)]
  ·exact absurd (Vf hg.nodup hg.range h _ h0 h1) ((Zm nd D [] _).1 h2).1
theorem Zy {nd : Int -> List Int} {N : Nat} {D L : List Int} (hg : Good nd N D) (hp : Pick nd N D L) : Good nd N (D ++ L) := by
 refine ⟨?_,?_,?_⟩
 ·rw [List.nodup_append];exact ⟨hg.nodup,hp.nodup,fun x hx y hy e => hp.out y hy (e ▸ hx)⟩
 ·intro x hx;rcases List.mem_append.1 hx with hx | hx
  ·exact hg.range x hx
  ·exact hp.range x hx
 ·rw [Zc];refine ⟨hg.teach,?_⟩;have : ∀ (t E : List Int),(∀ x,x ∈ t -> ∀ k,k ∈ nd x -> k ∈ E) -> Zb nd E t := by
   intro t
   induction t with
   | nil => intro E _;trivial
   | cons y t ih => intro E h;exact ⟨h y (List.mem_cons_self ..),ih _ (fun x hx k hk => List.mem_append_left _ (h x (List.mem_cons_of_mem _ hx) k hk))⟩
  exact this L ([] ++ D) (by simpa using hp.ready)
theorem Vs {nd : Int -> List Int} {N : Nat} {D L M : List Int} (hp : Pick nd N D L) (hM : M.Nodup) (h : ∀ x,x ∈ M ↔ x ∈ L) : Pick nd N D M :=
 ⟨hM,fun x hx => hp.out x ((h x).1 hx),fun x hx => hp.range x ((h x).1 hx),fun x hx => hp.ready x ((h x).1 hx)⟩
def Ys (us : Int -> Int) (nd : Int -> List Int) (N s : Nat) (srt : List Int -> List Int) : Nat -> List Int -> List (List Int) × List Int
 | 0,D => ([],D)
 | f + 1,D => if Xi us nd N D s [] = [] then ([],D) else ((srt (Xi us nd N D s []) :: (Ys us nd N s srt f (D ++ srt (Xi us nd N D s []))).1),(Ys us nd N s srt f (D ++ srt (Xi us nd N D s []))).2)
theorem Y7 (us : Int -> Int) (nd : Int -> List Int) (N s : Nat) (srt : List Int -> List Int) (hs : 0 < s) (hsr : ∀ L : List Int,L.Nodup -> (srt L).Nodup ∧ (∀ x,x ∈ srt L ↔ x ∈ L) ∧ (srt L).length = L.length) : ∀ f D,Good nd N D -> N <= D.length + f -> Good nd N (Ys us nd N s srt f D).2 ∧ Jl nd N (Ys us nd N s srt f D).2
 | 0,D,hg,hf => ⟨hg,fun i hi hn => absurd (Vf hg.nodup hg.range (by omega) i hi.1 hi.2) hn⟩
 | f + 1,D,hg,hf => by
  unfold Ys;by_cases h : Xi us nd N D s [] = []
  ·rw [if_pos h];exact ⟨hg,Gc hs h⟩
  ·rw [if_neg h];obtain ⟨a,_,_⟩ := Yb us nd N D s [] (Yu nd N D);obtain ⟨b1,b2,b3⟩ := hsr _ a.nodup;have h4 : 0 < (Xi us nd N D s []).length := List.length_pos_iff.2 h;exact Y7 us nd N s srt hs hsr f _ (Zy hg (Vs a b1 b2)) (by rw [List.length_append,b3];omega)
theorem V0 {α : Type} {p : Nat -> α -> Option Bool} {f : α -> Bool} : ∀ {l : List α},(∀ x,x ∈ l -> Ev (fun k => p k x) (f x)) -> Ev (fun k => Go.Proofs.YtgnijnlgbelifaaGreatW.GIdx.anyO (p k) l) (l.any f)
 | [],_ => Ev.now _
 | x :: l,h => by
  unfold Go.Proofs.YtgnijnlgbelifaaGreatW.GIdx.anyO;refine Ev.bind (h x (List.mem_cons_self ..)) ?_;rw [List.any_cons];cases f x with
  | true => exact Ev.now _
  | false => simpa using V0 (l := l) fun y hy => h y (List.mem_cons_of_mem _ hy)
theorem Jv {α β : Type} {g : Nat -> Option α} {r : α} (h : Ev g r) (f : α -> β) : Ev (fun k => (g k).map f) (f r) := by
 obtain ⟨K,h⟩ := h;exact ⟨K,fun k hk => by show (g k).map f = some (f r);rw [h k hk];rfl⟩
theorem J3 {α : Type} (l : List α) (f : α -> Bool) : (!l.any fun x => !f x) = l.all f := by
 induction l with
 | nil => rfl
 | cons x l ih => rw [List.any_cons,List.all_cons,<- ih,Bool.not_or,Bool.not_not]
theorem V3 {α : Type} {p : Nat -> α -> Option Bool} {f : α -> Bool} {l : List α} (h : ∀ x,x ∈ l -> Ev (fun k => p k x) (f x)) : Ev (fun k => Go.Proofs.YtgnijnlgbelifaaGreatW.GIdx.allO (p k) l) (l.all f) := by
 unfold Go.Proofs.YtgnijnlgbelifaaGreatW.GIdx.allO;have h1 := V0 (p := fun k x => (p k x).map (!·)) (f := fun x => !f x) (l := l) (fun x hx => Jv (h x hx) _);have h2 := Jv h1 (fun b => !b);rw [J3] at h2;exact h2
theorem Za (l : List (List Int)) (j : Nat) : rd_L2 l (j : Int) = l.getD j [] := by simp [rd_L2]
theorem Z3 (l : List (List Int)) (j : Nat) (h : j < l.length) : l.getD j [] = l[j] := by rw [List.getD_eq_getElem?_getD,List.getElem?_eq_getElem h];rfl
theorem Yk {l : List (List Int)} {y : List Int} (h : y ∈ l) : y.length <= l.flatten.length := by
 obtain ⟨a,b,rfl⟩ := List.append_of_mem h;rw [List.flatten_append,List.flatten_cons,List.length_append,List.length_append];omega
theorem Xv (l : List (List Int)) (n : Nat) : (l.take n).flatten.length <= l.flatten.length := by
 have : l.flatten.length = (l.take n).flatten.length + (l.drop n).flatten.length := by
  rw [<- List.length_append,<- List.flatten_append,List.take_append_drop]
 omega
theorem Vg (l : List (List Int)) (n : Nat) (h : n < l.length) : (l.drop n).flatten = l[n] ++ (l.drop (n + 1)).flatten := by rw [List.drop_eq_getElem_cons h,List.flatten_cons]
theorem Xj (l : List (List Int)) (n : Nat) (h : n < l.length) : (l.take (n + 1)).flatten = (l.take n).flatten ++ l[n] := by rw [List.take_succ_eq_append_getElem h,List.flatten_append];simp
theorem Yw (l : List S41) (hl : l.length <= 1048576) : Xr l = (l.length : Int) - 1 := by
 unfold Xr;rw [Xf (by omega) (by omega)]
theorem G7 (ls : List (List Int)) (hs : ls.flatten.length <= 1048576) (hl : ls.length <= 1048576) : ∀ d n,n + d = ls.length -> Ev (fun k => Fj.l1 k (ls.take n).flatten ls (ls.length : Int) (n : Int)) ls.flatten := by
 intro d
 induction d with
 | zero =>
  intro n hn;refine Ev.succ ?_;have h1 : ((n : Int) < (ls.length : Int)) = False := eq_false (by omega);simp only [Fj.l1,h1,if_false];rw [List.take_of_length_le (by omega)];exact Ev.now _
 | succ d ih =>
  intro n hn;refine Ev.succ ?_;have hlt : n < ls.length := by omega
  have h1 : ((n : Int) < (ls.length : Int)) = True := eq_true (by omega);have hy := Yk (List.getElem_mem hlt);have ht := Xv ls n;have h2 : ((ls.take n).flatten.length + ls[n].length < 17592186044416) = True := eq_true (by omega);simp only [Fj.l1,h1,if_true,Xa,Za,Z3 ls n hlt,h2,Xb (show n < 4611686018427387904 by omega)];rw [<- Xj ls n hlt];exact ih (n + 1) (by omega)
theorem Gq (ls : List (List Int)) (hs : ls.flatten.length <= 1048576) (hl : ls.length <= 1048576) : ∀ d n,n + d = ls.length -> Ev (fun k => Fj.l0 k ls ((ls.take n).flatten.length : Int) ls (ls.length : Int) (n : Int)) ls.flatten := by
 intro d
 induction d with
 | zero =>
  intro n hn;refine Ev.succ ?_;have h1 : ((n : Int) < (ls.length : Int)) = False := eq_false (by omega);have ht := Xv ls n;simp only [Fj.l0,h1,if_false,GW.f,Xa,if_true,show (((ls.take n).flatten.length : Int) < 17592186044416) = True from eq_true (by omega),Option.bind_some];exact G7 ls hs hl ls.length 0 (by omega)
 | succ d ih =>
  intro n hn;refine Ev.succ ?_;have hlt : n < ls.length := by omega
  have h1 : ((n : Int) < (ls.length : Int)) = True := eq_true (by omega);have hy := Yk (List.getElem_mem hlt);have ht := Xv ls n;have e : wrap64 (((ls.take n).flatten.length : Int) + (ls[n].length : Int)) = ((ls.take (n + 1)).flatten.length : Int) := by
   rw [Xf (by omega) (by omega),Xj ls n hlt,List.length_append];omega
  have h2 : (((ls.take (n + 1)).flatten.length : Int) < 0) = False := eq_false (by omega);simp only [Fj.l0,h1,if_true,Xa,Za,Z3 ls n hlt,e,h2,if_false,Xb (show n < 4611686018427387904 by omega)];exact ih (n + 1) (by omega)
theorem Zp (ls : List (List Int)) (hs : ls.flatten.length <= 1048576) (hl : ls.length <= 1048576) : Ev (fun k => Fj.f k ls) ls.flatten := by
 unfold Fj.f;exact Gq ls hs hl ls.length 0 (by omega)
def Xy (l : List S41) (done : List Int) (i : Int) : Bool := (Xz l i.toNat).f1.all fun x => decide (x ∈ done)
theorem Th (l : List S41) (i : Int) : rd_T41 l i = Xz l i.toNat := rfl
theorem Vt (l : List Int) (p : Int -> Bool) : (List.range l.length).all (fun j => p (l.getD j 0)) = l.all p := by
 have hg : ∀ i (hi : i < l.length),l.getD i 0 = l[i] := fun i hi => by rw [List.getD_eq_getElem?_getD,List.getElem?_eq_getElem hi];rfl
 rw [Bool.eq_iff_iff,List.all_eq_true,List.all_eq_true]
 constructor
 ·intro h x hx;obtain ⟨i,hi,rfl⟩ := List.getElem_of_mem hx;have := h i (List.mem_range.2 hi)
  rwa [hg i hi] at this
 ·intro h j hj;rw [hg j (List.mem_range.1 hj)];exact h _ (List.getElem_mem _)
theorem Vc (l : List S41) (done : List Int) (i : Int) (hz : Yg l) (hd : done.length <= 1048576) (h0 : 0 <= i) (h1 : i < l.length) : Ev (fun k => FP.f k l done i) (Xy l done i) := by
 unfold FP.f Xy;have hn := (Zj hz (show i.toNat < l.length by omega)).1;simp only [eq_true h0,eq_true h1,if_true,Th];generalize (Xz l i.toNat).f1 = n at hn;refine Ev.eq (Ev.all0 (L := fun k j => FP.l0 k done n (n.length : Int) (j : Int)) (P := fun j => decide (n.getD j 0 ∈ done)) (n := n.length) (a := true) (b := false) ?_ ?_ ?_) (by rw [Vt n (fun x => decide (x ∈ done))];cases n.all fun x => decide (x ∈ done) <;> rfl)
 ·refine Ev.succ ?_;simp only [FP.l0,Int.lt_irrefl,if_false];exact Ev.now _
 ·intro j r hj hP h;refine Ev.succ ?_;have h1 : ((j : Int) < (n.length : Int)) = True := eq_true (by omega);simp only [FP.l0,h1,if_true,Xa,Yp,Xb (show j < 4611686018427387904 by omega)];refine Ev.bind (Xk _ _ (by omega)) ?_;simp only [hP,if_true];exact h
 ·intro j hj hP;refine Ev.succ ?_;have h1 : ((j : Int) < (n.length : Int)) = True := eq_true (by omega);simp only [FP.l0,h1,if_true,Xa,Yp];refine Ev.bind (Xk _ _ (by omega)) ?_;simp only [hP,Bool.false_eq_true,if_false];exact Ev.now _
theorem Uq (w : S41) (done : List Int) (hd : done.length <= 1048576) : Ev (fun k => La.f k w.f0 w.f1 w.f2 done) (w.f1.all fun x => decide (x ∈ done)) := by
 unfold La.f GX.f FY.f;exact Ev.bind (V3 (fun x _ => X8 done x (by omega))) (Ev.now _)
theorem Z6 (l : List S41) (y done : List Int) (hd : done.length <= 1048576) (hy : ∀ x,x ∈ y -> 0 <= x ∧ x < l.length) : Ev (fun k => GL.f k y l done) (y.all (Xy l done)) := by
 unfold GL.f FY.f;refine V3 (fun x hx => ?_);obtain ⟨h0,h1⟩ := hy x hx;simp only [eq_true h0,eq_true h1,if_true,Th];exact Uq (Xz l x.toNat) done hd
def Xh (l : List S41) : List Int -> List Int -> Bool
 | _,[] => true
 | acc,x :: t => Xx x 0 (Xr l) && (!(decide (x ∈ acc)) && Xh l (acc ++ [x]) t)
theorem Y0 (l : List S41) : ∀ (a b acc : List Int),Xh l acc (a ++ b) = (Xh l acc a && Xh l (acc ++ a) b)
 | [],b,acc => by simp [Xh]
 | x :: a,b,acc => by
  show (Xx x 0 (Xr l) && (!(decide (x ∈ acc)) && Xh l (acc ++ [x]) (a ++ b))) = ((Xx x 0 (Xr l) && (!(decide (x ∈ acc)) && Xh l (acc ++ [x]) a)) && Xh l (acc ++ x :: a) b);rw [Y0 l a b (acc ++ [x]),List.append_assoc,List.singleton_append,Bool.and_assoc,Bool.and_assoc]
theorem X6 (l : List S41) : ∀ (t acc : List Int),Xh l acc t = true ↔ (∀ x,x ∈ t -> 0 <= x ∧ x <= Xr l) ∧ t.Nodup ∧ ∀ x,x ∈ t -> x ∉ acc
 | [],acc => by simp [Xh]
 | x :: t,acc => by
  unfold Xh Xx;rw [Bool.and_eq_true,Bool.and_eq_true,X6 l t (acc ++ [x]),decide_eq_true_eq,Bool.not_eq_true',decide_eq_false_iff_not,List.nodup_cons]
  constructor
  ·rintro ⟨h1,h2,h3,h4,h5⟩;refine ⟨fun z hz => ?_,⟨fun hx => ?_,h4⟩,fun z hz => ?_⟩
   ·rcases List.mem_cons.1 hz with rfl | hz
    ·exact h1
    ·exact h3 z hz
   ·exact h5 x hx (by simp)
   ·rcases List.mem_cons.1 hz with rfl | hz
    ·exact h2
    ·exact fun h => h5 z hz (by simp [h])
  ·rintro ⟨h1,⟨h2,h3⟩,h4⟩;refine ⟨h1 x (List.mem_cons_self ..),h4 x (List.mem_cons_self ..),fun z hz => h1 z (List.mem_cons_of_mem _ hz),h3,fun z hz h => ?_⟩;rcases List.mem_append.1 h with h | h
   ·exact h4 z (List.mem_cons_of_mem _ hz) h
   ·rw [List.mem_singleton] at h;subst h;exact h2 hz
theorem Uo (l : List S41) (t : List Int) : Xh l [] t = (t.all (fun x => decide (0 <= x ∧ x <= Xr l)) && decide t.Nodup) := by
 rw [Bool.eq_iff_iff,X6,Bool.and_eq_true,List.all_eq_true,decide_eq_true_eq]
 constructor
 ·rintro ⟨h1,h2,_⟩;exact ⟨fun x hx => decide_eq_true (h1 x hx),h2⟩
 ·rintro ⟨h1,h2⟩;exact ⟨fun x hx => of_decide_eq_true (h1 x hx),h2,fun x _ h => nomatch h⟩
theorem Gx (l : List S41) (ls : List (List Int)) (n : Nat) (y : List Int) (r : Bool) (hy : y.length <= 1048576) : ∀ d i (acc : List Int),i + d = y.length -> acc.length + d <= 1048576 -> Ev (fun k => FL.l0 k l ls (acc ++ y.drop i) ls (ls.length : Int) (wrap64 ((n : Int) + 1))) r -> Ev (fun k => FL.l1 k l ls acc ls (ls.length : Int) (n : Int) y (y.length : Int) (i : Int)) (if Xh l acc (y.drop i) then r else false) := by
 intro d
 induction d with
 | zero =>
  intro i acc hi ha hc;refine Ev.succ ?_;have h1 : ((i : Int) < (y.length : Int)) = False := eq_false (by omega);rw [List.drop_of_length_le (by omega),List.append_nil] at hc;rw [List.drop_of_length_le (by omega)];simp only [FL.l1,h1,if_false,Xh,if_true];exact hc
 | succ d ih =>
  intro i acc hi ha hc;refine Ev.succ ?_;have hlt : i < y.length := by omega
  have h1 : ((i : Int) < (y.length : Int)) = True := eq_true (by omega);have hg : y.getD i 0 = y[i] := by rw [List.getD_eq_getElem?_getD,List.getElem?_eq_getElem hlt];rfl
  have h2 : (acc.length < 17592186044416) = True := eq_true (by omega);have e : Xh l acc (y.drop i) = (Xx y[i] 0 (Xr l) && (!(decide (y[i] ∈ acc)) && Xh l (acc ++ [y[i]]) (y.drop (i + 1)))) := by rw [List.drop_eq_getElem_cons hlt];rfl
  rw [e];simp only [FL.l1,h1,if_true,Xa,Yp,hg,Xn,Option.bind_some,h2,Xb (show i < 4611686018427387904 by omega)];change Ev (fun k => if Xx y[i] 0 (Xr l) = true then _ else _) _;cases Xx y[i] 0 (Xr l) with
  | false =>
   simp only [Bool.false_eq_true,if_false,Bool.false_and];exact Ev.now _
  | true =>
   simp only [if_true,Bool.true_and];refine Ev.bind (Xk _ _ (by omega)) ?_;cases decide (y[i] ∈ acc) with
   | true =>
    simp only [if_true,Bool.not_true,Bool.false_and,Bool.false_eq_true,if_false];exact Ev.now _
   | false =>
    simp only [Bool.false_eq_true,if_false,Bool.not_false,Bool.true_and];refine ih (i + 1) (acc ++ [y[i]]) (by omega) (by rw [List.length_append];simp;omega) ?_;rw [List.append_assoc,List.singleton_append,<- List.drop_eq_getElem_cons hlt];exact hc
theorem Jb (l : List S41) (ls : List (List Int)) (hs : ls.flatten.length <= 1048576) (hl : ls.length <= 1048576) : ∀ d n,n + d = ls.length -> Ev (fun k => FL.l0 k l ls (ls.take n).flatten ls (ls.length : Int) (n : Int)) (if Xh l (ls.take n).flatten (ls.drop n).flatten then decide (ls.length <= 16) else false) := by
 intro d
 induction d with
 | zero =>
  intro n hn;refine Ev.succ ?_;have h1 : ((n : Int) < (ls.length : Int)) = False := eq_false (by omega);rw [List.drop_of_length_le (by omega)];simp only [FL.l0,h1,if_false,List.flatten_nil,Xh,if_true];refine Ev.eq (Ev.now _) ?_;rw [decide_eq_decide];omega
 | succ d ih =>
  intro n hn;refine Ev.succ ?_;have hlt : n < ls.length := by omega
  have h1 : ((n : Int) < (ls.length : Int)) = True := eq_true (by omega);have hy := Yk (List.getElem_mem hlt);have ht : (ls.take (n + 1)).flatten.length <= ls.flatten.length := Xv ls (n + 1);rw [Xj ls n hlt,List.length_append] at ht;simp only [FL.l0,h1,if_true,Xa,Za,Z3 ls n hlt];have h2 := ih (n + 1) (by omega);rw [Xj ls n hlt] at h2;have h3 := Gx l ls n ls[n] _ (by omega) ls[n].length 0 (ls.take n).flatten (by omega) (by omega) (by rw [List.drop_zero,Xb (show n < 4611686018427387904 by omega)];exact h2);rw [List.drop_zero] at h3;refine Ev.eq h3 ?_;rw [Vg ls n hlt,Y0];cases Xh l (ls.take n).flatten ls[n] <;> simp
def Jn (l : List S41) (ls : List (List Int)) : Bool := Xh l [] ls.flatten && decide (ls.length <= 16)
theorem Gv (l : List S41) (ls : List (List Int)) (hs : ls.flatten.length <= 1048576) (hl : ls.length <= 1048576) : Ev (fun k => FL.f k l ls) (Jn l ls) := by
 unfold FL.f Jn;have := Jb l ls hs hl ls.length 0 (by omega);refine Ev.eq this ?_;rw [List.take_zero,List.drop_zero,List.flatten_nil];cases Xh l [] ls.flatten <;> simp
def Te (l : List S41) : List Int -> Nat -> List (List Int) -> Int × Int
 | _,_,[] => (-1,-1)
 | done,n,y :: t => match y.find? (fun x => !Xy l done x) with
  | some x => ((n : Int),x)
  | none => Te l (done ++ y) (n + 1) t
theorem Vp (l : List S41) (ls : List (List Int)) (done y : List Int) (n : Nat) (r : Int × Int) (hz : Yg l) (hd : done.length + y.length <= 1048576) (hy : ∀ x,x ∈ y -> 0 <= x ∧ x < l.length) (hc : Ev (fun k => Fv.l0 k l (done ++ y) ls (ls.length : Int) (wrap64 ((n : Int) + 1))) r) : ∀ d i,i + d = y.length -> Ev (fun k => Fv.l1 k l done (n : Int) y ls (ls.length : Int) (n : Int) y (y.length : Int) (i : Int)) (match (y.drop i).find? (fun x => !Xy l done x) with | some x => ((n : Int),x) | none => r) := by
 intro d
 induction d with
 | zero =>
  intro i hi;refine Ev.succ ?_;have h1 : ((i : Int) < (y.length : Int)) = False := eq_false (by omega);have h2 : (done.length + y.length < 17592186044416) = True := eq_true (by omega);rw [List.drop_of_length_le (by omega)];simp only [Fv.l1,h1,if_false,h2,if_true,List.find?_nil];exact hc
 | succ d ih =>
  intro i hi;refine Ev.succ ?_;have hlt : i < y.length := by omega
  have h1 : ((i : Int) < (y.length : Int)) = True := eq_true (by omega);have hg : y.getD i 0 = y[i] := by rw [List.getD_eq_getElem?_getD,List.getElem?_eq_getElem hlt];rfl
  have hb := hy y[i] (List.getElem_mem hlt);rw [List.drop_eq_getElem_cons hlt,List.find?_cons];simp only [Fv.l1,h1,if_true,Xa,Yp,hg,Xb (show i < 4611686018427387904 by omega)];refine Ev.bind (Vc l done y[i] hz (by omega) hb.1 hb.2) ?_;cases Xy l done y[i] with
  | true =>
   simp only [if_true,Bool.not_true];exact ih (i + 1) (by omega)
  | false =>
   simp only [Bool.false_eq_true,if_false,Bool.not_false];exact Ev.now _
theorem Vn (l : List S41) (ls : List (List Int)) (hz : Yg l) (hs : ls.flatten.length <= 1048576) (hl : ls.length <= 1048576) (hy : ∀ x,x ∈ ls.flatten -> 0 <= x ∧ x < l.length) : ∀ d n,n + d = ls.length -> Ev (fun k => Fv.l0 k l (ls.take n).flatten ls (ls.length : Int) (n : Int)) (Te l (ls.take n).flatten n (ls.drop n)) := by
 intro d
 induction d with
 | zero =>
  intro n hn;refine Ev.succ ?_;have h1 : ((n : Int) < (ls.length : Int)) = False := eq_false (by omega);rw [List.drop_of_length_le (by omega)];simp only [Fv.l0,h1,if_false,Te];exact Ev.now _
 | succ d ih =>
  intro n hn;refine Ev.succ ?_;have hlt : n < ls.length := by omega
  have h1 : ((n : Int) < (ls.length : Int)) = True := eq_true (by omega);have ht : (ls.take (n + 1)).flatten.length <= ls.flatten.length := Xv ls (n + 1);rw [Xj ls n hlt,List.length_append] at ht;simp only [Fv.l0,h1,if_true,Xa,Za,Z3 ls n hlt];have h2 := ih (n + 1) (by omega);rw [Xj ls n hlt] at h2;have h3 := Vp l ls (ls.take n).flatten ls[n] n _ hz (by omega) (fun x hx => hy x (List.mem_flatten.2 ⟨_,List.getElem_mem hlt,hx⟩)) (by rw [Xb (show n < 4611686018427387904 by omega)];exact h2) ls[n].length 0 (by omega);rw [List.drop_zero] at h3;rw [List.drop_eq_getElem_cons hlt];exact h3
theorem Vm (l : List S41) (ls : List (List Int)) (hz : Yg l) (hs : ls.flatten.length <= 1048576) (hl : ls.length <= 1048576) (hy : ∀ x,x ∈ ls.flatten -> 0 <= x ∧ x < l.length) : Ev (fun k => Fv.f k l ls) (Te l [] 0 ls) := by
 unfold Fv.f;have := Vn l ls hz hs hl hy ls.length 0 (by omega)
 rwa [List.take_zero,List.drop_zero,List.flatten_nil] at this
def Ym (l : List S41) : List Int -> List (List Int) -> Bool
 | _,[] => true
 | done,y :: t => decide (y.length ≠ 0) && (y.all (Xy l done) && Ym l (done ++ y) t)
theorem Ul (y : List Int) (p : Int -> Bool) : (y.find? (fun x => !p x) = none) ↔ y.all p = true := by
 rw [List.find?_eq_none,List.all_eq_true];simp
theorem Uw (l : List S41) : ∀ (ls : List (List Int)) (done : List Int) (n : Nat),Ym l done ls = (ls.all (fun y => decide (y.length ≠ 0)) && decide ((Te l done n ls).1 < 0))
 | [],done,n => by simp [Ym,Te]
 | y :: t,done,n => by
  unfold Ym Te;rw [List.all_cons,Uw l t (done ++ y) (n + 1)];cases hf : y.find? (fun x => !Xy l done x) with
  | none =>
   rw [(Ul y (Xy l done)).1 hf,Bool.true_and,Bool.and_assoc]
  | some x =>
   have : y.all (Xy l done) = false := by
    rw [<- Bool.not_eq_true];intro h;rw [(Ul y (Xy l done)).2 h] at hf;cases hf
   rw [this,Bool.false_and,Bool.and_false];have h2 : ¬ ((n : Int) < 0) := by omega
   simp [h2]
def Zh (l : List S41) (ls : List (List Int)) : Bool := decide (ls.flatten.length = l.length) && (Xh l [] ls.flatten && Ym l [] ls)
theorem Js (l : List S41) (ls : List (List Int)) (hl0 : l.length <= 1048576) (hz : Yg l) (hs : ls.flatten.length <= 1048576) (hl : ls.length <= 1048576) (hy : ∀ x,x ∈ ls.flatten -> 0 <= x ∧ x < l.length) : ∀ d n,n + d = ls.length -> Ev (fun k => GE.l0 k l ls ((ls.take n).flatten.length : Int) ls (ls.length : Int) (n : Int)) ((ls.drop n).all (fun y => decide (y.length ≠ 0)) && (decide (ls.flatten.length = l.length) && decide ((Te l [] 0 ls).1 < 0))) := by
 intro d
 induction d with
 | zero =>
  intro n hn;refine Ev.succ ?_;have h1 : ((n : Int) < (ls.length : Int)) = False := eq_false (by omega);rw [List.drop_of_length_le (by omega),List.take_of_length_le (by omega)];simp only [GE.l0,h1,if_false,List.all_nil,Bool.true_and];refine Ev.bind (Vm l ls hz hs hl hy) ?_;by_cases h2 : ls.flatten.length = l.length
  ·simp only [h2,if_true,decide_true,Bool.true_and];exact Ev.now _
  ·have h3 : ((ls.flatten.length : Int) = (l.length : Int)) = False := eq_false (by omega);simp only [h3,h2,if_false,decide_false,Bool.false_and];exact Ev.now _
 | succ d ih =>
  intro n hn;refine Ev.succ ?_;have hlt : n < ls.length := by omega
  have h1 : ((n : Int) < (ls.length : Int)) = True := eq_true (by omega);have hle := Yk (List.getElem_mem hlt);have ht := Xv ls n;rw [List.drop_eq_getElem_cons hlt,List.all_cons];have e : wrap64 (((ls.take n).flatten.length : Int) + (ls[n].length : Int)) = ((ls.take (n + 1)).flatten.length : Int) := by
   rw [Xf (by omega) (by omega),Xj ls n hlt,List.length_append];omega
  by_cases h2 : ls[n].length = 0
  ·have h3 : ((ls[n].length : Int) = 0) = True := eq_true (by omega);simp only [GE.l0,h1,if_true,Xa,Za,Z3 ls n hlt,h3,h2,ne_eq,not_true_eq_false,decide_false,Bool.false_and];exact Ev.now _
  ·have h3 : ((ls[n].length : Int) = 0) = False := eq_false (by omega);simp only [GE.l0,h1,if_true,Xa,Za,Z3 ls n hlt,h3,if_false,e,Xb (show n < 4611686018427387904 by omega),ne_eq,h2,not_false_eq_true,decide_true,Bool.true_and];exact ih (n + 1) (by omega)
theorem Va {l : List S41} {t : List Int} (hl0 : l.length <= 1048576) (h : Xh l [] t = true) : ∀ x,x ∈ t -> 0 <= x ∧ x < l.length := by
 intro x hx;have := ((X6 l t []).1 h).1 x hx;rw [Yw l hl0] at this;omega
theorem Jg (l : List S41) (ls : List (List Int)) (hl0 : l.length <= 1048576) (hz : Yg l) (hs : ls.flatten.length <= 1048576) (hl : ls.length <= 1048576) : Ev (fun k => GE.f k l ls) (decide (ls.length <= 16) && Zh l ls) := by
 unfold GE.f Zh;refine Ev.bind (Gv l ls hs hl) ?_;unfold Jn;rw [Uw l ls [] 0];cases h1 : Xh l [] ls.flatten with
 | false =>
  simp only [Bool.false_and,Bool.and_false,Bool.false_eq_true,if_false];exact Ev.now _
 | true =>
  cases decide (ls.length <= 16) with
  | false =>
   simp only [Bool.false_and,Bool.and_false,Bool.false_eq_true,if_false];exact Ev.now _
  | true =>
   simp only [Bool.true_and,if_true];refine Ev.eq (Js l ls hl0 hz hs hl (Va hl0 h1) ls.length 0 (by omega)) ?_;rw [List.drop_zero];cases ls.all (fun y => decide (y.length ≠ 0)) <;> cases decide (ls.flatten.length = l.length) <;> rfl
theorem Vq (l : List S41) (ls : List (List Int)) (hs : ls.flatten.length <= 1048576) (hl : ls.length <= 1048576) (hy : ∀ x,x ∈ ls.flatten -> 0 <= x ∧ x < l.length) : ∀ d n,n + d = ls.length -> Ev (fun k => Fw.l0 k ls ls (ls.length : Int) (n : Int) l) (Ym l (ls.take n).flatten (ls.drop n)) := by
 intro d
 induction d with
 | zero =>
  intro n hn;refine Ev.succ ?_;have h1 : ((n : Int) < (ls.length : Int)) = False := eq_false (by omega);rw [List.drop_of_length_le (by omega)];simp only [Fw.l0,h1,if_false,Ym];exact Ev.now _
 | succ d ih =>
  intro n hn;refine Ev.succ ?_;have hlt : n < ls.length := by omega
  have h1 : ((n : Int) < (ls.length : Int)) = True := eq_true (by omega);have h2 : ((n : Int) <= (ls.length : Int)) = True := eq_true (by omega);have ht := Xv ls n;simp only [Fw.l0,h1,h2,if_true,Xa,Za,Z3 ls n hlt,Int.toNat_natCast,Xb (show n < 4611686018427387904 by omega)];refine Ev.bind (Zp (ls.take n) (by omega) (by rw [List.length_take];omega)) ?_;have e : Ym l (ls.take n).flatten (ls.drop n) = (decide (ls[n].length ≠ 0) && (ls[n].all (Xy l (ls.take n).flatten) && Ym l ((ls.take n).flatten ++ ls[n]) (ls.drop (n + 1)))) := by rw [List.drop_eq_getElem_cons hlt];rfl
  rw [e];by_cases h3 : ls[n].length = 0
  ·have h4 : ((ls[n].length : Int) = 0) = True := eq_true (by omega);simp only [h4,if_true,h3,ne_eq,not_true_eq_false,decide_false,Bool.false_and];exact Ev.now _
  ·have h4 : ((ls[n].length : Int) = 0) = False := eq_false (by omega);simp only [h4,if_false,h3,ne_eq,not_false_eq_true,decide_true,Bool.true_and];refine Ev.bind (Z6 l ls[n] (ls.take n).flatten (by omega) (fun x hx => hy x (List.mem_flatten.2 ⟨_,List.getElem_mem hlt,hx⟩))) ?_;cases ls[n].all (Xy l (ls.take n).flatten) with
   | true =>
    simp only [if_true,Bool.true_and];rw [<- Xj ls n hlt];exact ih (n + 1) (by omega)
   | false =>
    simp only [Bool.false_eq_true,if_false,Bool.false_and];exact Ev.now _
theorem Vl (l : List S41) (ls : List (List Int)) (hl0 : l.length <= 1048576) (hs : ls.flatten.length <= 1048576) (hl : ls.length <= 1048576) : Ev (fun k => Fw.f k l ls) (Zh l ls) := by
 unfold Fw.f Zh;refine Ev.bind (Zp ls hs hl) ?_;by_cases h1 : ls.flatten.length = l.length
 ·have h2 : ((ls.flatten.length : Int) = (l.length : Int)) = True := eq_true (by omega);simp only [h2,h1,if_true,decide_true,Bool.true_and,FB.f,Option.bind_some];have ho := Uo l ls.flatten;change Ev (fun k => if (ls.flatten.all fun x => decide (0 <= x ∧ x <= Xr l)) = true then _ else _) _;cases h3 : (ls.flatten.all fun x => decide (0 <= x ∧ x <= Xr l)) with
  | false =>
   rw [h3,Bool.false_and] at ho;rw [ho];simp only [Bool.false_eq_true,if_false,Bool.false_and];refine Ev.succ ?_;simp only [Fw.j0,if_true];exact Ev.now _
  | true =>
   rw [h3,Bool.true_and] at ho;simp only [if_true];obtain ⟨t,ht,hd⟩ := Yj ls.flatten (by omega);simp only [ht,Option.bind_some];refine Ev.succ ?_;by_cases h4 : ls.flatten.Nodup
   ·have h5 : (((t.length : Int)) != ((ls.flatten.length : Int))) = false := by have := hd.2 h4;simp [this]
    rw [decide_eq_true h4] at ho;rw [ho];rw [h1] at h5;simp only [Fw.j0,h5,Bool.false_eq_true,if_false,Bool.true_and];exact Vq l ls hs hl (Va hl0 ho) ls.length 0 (by omega)
   ·have h5 : (((t.length : Int)) != ((ls.flatten.length : Int))) = true := by
     have : t.length ≠ ls.flatten.length := fun e => h4 (hd.1 e)
     rw [bne_iff_ne];intro e;exact this (by omega)
    rw [decide_eq_false h4] at ho;rw [ho];rw [h1] at h5;simp only [Fw.j0,h5,if_true,Bool.false_and];exact Ev.now _
 ·have h2 : ((ls.flatten.length : Int) = (l.length : Int)) = False := eq_false (by omega);simp only [h2,h1,if_false,decide_false,Bool.false_and];refine Ev.succ ?_;simp only [Fw.j0,if_true];exact Ev.now _
def Zi (l : List S41) (i : Int) : Int := (Xz l i.toNat).f2
def Y3 (l : List S41) (i : Int) : List Int := (Xz l i.toNat).f1
theorem G5 (l : List S41) (D : List Int) (i : Int) : Xy l D i = J8 (Y3 l) D i := rfl
theorem Gt (l : List S41) (D L : List Int) (hz : Yg l) (hl : l.length <= 1048576) (hD : D.length <= 1048576) (hL : L.length <= 1048576) : ∀ d j (b : Int),j + d = l.length -> (b = -1 ∨ 0 <= b ∧ b < l.length) -> Ev (fun k => Fu.l0 k l D L b l (l.length : Int) (j : Int)) (Ye (Zi l) (Xq (Y3 l) D L) d j b) := by
 intro d
 induction d with
 | zero =>
  intro j b hj hb;refine Ev.succ ?_;have h1 : ((j : Int) < (l.length : Int)) = False := eq_false (by omega);simp only [Fu.l0,h1,if_false,Ye];exact Ev.now _
 | succ d ih =>
  intro j b hj hb;refine Ev.succ ?_;have hlt : j < l.length := by omega
  have h1 : ((j : Int) < (l.length : Int)) = True := eq_true (by omega);have e4 : wrap64 ((j : Int) + 1) = ((j + 1 : Nat) : Int) := Xb (by omega);have hu : Zi l (j : Int) = (Xz l j).f2 := by unfold Zi;rw [Int.toNat_natCast]
  have hp : Xq (Y3 l) D L (j : Int) = (!(decide ((j : Int) ∈ D)) && (!(decide ((j : Int) ∈ L)) && J8 (Y3 l) D (j : Int))) := rfl;unfold Ye;rw [hp];simp only [Fu.l0,h1,if_true,Xa,e4];refine Ev.bind (Xk D (j : Int) (by omega)) ?_;cases decide ((j : Int) ∈ D) with
  | true =>
   simp only [if_true,Bool.not_true,Bool.false_and,Bool.false_eq_true,if_false];exact ih (j + 1) b (by omega) hb
  | false =>
   simp only [Bool.false_eq_true,if_false,Bool.not_false,Bool.true_and];refine Ev.bind (Xk L (j : Int) (by omega)) ?_;cases decide ((j : Int) ∈ L) with
   | true =>
    simp only [if_true,Bool.not_true,Bool.false_and,Bool.false_eq_true,if_false];exact ih (j + 1) b (by omega) hb
   | false =>
    simp only [Bool.false_eq_true,if_false,Bool.not_false,Bool.true_and];refine Ev.bind (Vc l D (j : Int) hz (by omega) (by omega) (by omega)) ?_;rw [G5];cases J8 (Y3 l) D (j : Int) with
    | false =>
     simp only [Bool.false_eq_true,if_false,Bool.false_and];exact ih (j + 1) b (by omega) hb
    | true =>
     simp only [if_true,Bool.true_and];have key := fun b' (hb' : b' = -1 ∨ 0 <= b' ∧ b' < (l.length : Int)) => ih (j + 1) b' (by omega) hb'
     by_cases h2 : b < 0
     ·simp only [eq_true h2,if_true,decide_true,Bool.true_or];exact key (j : Int) (Or.inr ⟨by omega,by omega⟩)
     ·have hb2 : 0 <= b ∧ b < (l.length : Int) := by omega
      have hub : Zi l b = (Xz l b.toNat).f2 := rfl;simp only [eq_false h2,if_false,decide_false,Bool.false_or,eq_true hb2.1,eq_true hb2.2,if_true,Jr,Th,Int.toNat_natCast,hu,hub];by_cases h3 : (Xz l j).f2 > (Xz l b.toNat).f2
      ·simp only [eq_true h3,if_true,decide_true];exact key (j : Int) (Or.inr ⟨by omega,by omega⟩)
      ·simp only [eq_false h3,if_false,decide_false,Bool.false_eq_true];exact key b hb
theorem G8 (l : List S41) (D L : List Int) (hz : Yg l) (hl : l.length <= 1048576) (hD : D.length <= 1048576) (hL : L.length <= 1048576) : Ev (fun k => Fu.f k l D L) (X7 (Zi l) (Xq (Y3 l) D L) l.length) := by
 unfold Fu.f X7;exact Gt l D L hz hl hD hL l.length 0 (-1) (by omega) (Or.inl rfl)
def hd (c : List Int) : Int := c.getD 0 0
theorem Ve {n m : List Int} (hn : n.Pairwise (· < ·)) (hm : m.Pairwise (· < ·)) (h : ∀ x,x ∈ n ↔ x ∈ m) : n = m := by
 have nd : ∀ {l : List Int},l.Pairwise (· < ·) -> l.Nodup := fun {l} hl => List.Pairwise.imp (S := fun a b : Int => a ≠ b) (fun {a b} (hlt : a < b) e => by omega) hl
 have hp := (List.perm_ext_iff_of_nodup (nd hn) (nd hm)).2 h;exact List.Perm.eq_of_pairwise (le := fun a b : Int => a < b) (fun a b _ _ h1 h2 => by omega) hn hm hp
theorem J4 (l : List Int) (x : Int) (hl : l.length <= 4000000) (hu : l.Pairwise (· < ·)) : ∀ d j,j + d = l.length -> (∀ y,y ∈ l.take j -> y < x) -> ∃ r : List Int,Ev (fun k => Fs.l0 k l x (j : Int)) r ∧ r.Pairwise (· < ·) ∧ (∀ y,y ∈ r ↔ y ∈ l ∨ y = x) ∧ r.length <= l.length + 1 := by
 have ins : ∀ j,j <= l.length -> (∀ y,y ∈ l.take j -> y < x) -> (∀ y,y ∈ l.drop j -> x < y) -> (l.take j ++ [x] ++ l.drop j).Pairwise (· < ·) ∧ (∀ y,y ∈ l.take j ++ [x] ++ l.drop j ↔ y ∈ l ∨ y = x) ∧ (l.take j ++ [x] ++ l.drop j).length <= l.length + 1 := by
  intro j hj hb ha;have e : ∀ y,y ∈ l ↔ y ∈ l.take j ∨ y ∈ l.drop j := fun y => by rw [<- List.mem_append,List.take_append_drop]
  refine ⟨?_,fun y => ?_,?_⟩
  ·rw [List.append_assoc,List.pairwise_append,List.singleton_append,List.pairwise_cons];refine ⟨hu.sublist (List.take_sublist _ _),⟨ha,hu.sublist (List.drop_sublist _ _)⟩,fun a h1 b h2 => ?_⟩;have h3 := hb a h1;rcases List.mem_cons.1 h2 with rfl | h2
   ·exact h3
   ·have := ha b h2;omega
  ·rw [e];simp only [List.mem_append,List.mem_singleton]
   constructor
   ·rintro ((h | h) | h)
    ·exact Or.inl (Or.inl h)
    ·exact Or.inr h
    ·exact Or.inl (Or.inr h)
   ·rintro ((h | h) | h)
    ·exact Or.inl (Or.inl h)
    ·exact Or.inr h
    ·exact Or.inl (Or.inr h)
  ·simp only [List.length_append,List.length_take,List.length_drop,List.length_singleton];omega
 intro d
 induction d with
 | zero =>
  intro j hj hb;obtain ⟨i0,i1,i2⟩ := ins j (by omega) hb (by rw [List.drop_of_length_le (by omega)];intro y hy;cases hy);refine ⟨l.take j ++ [x] ++ l.drop j,Ev.succ ?_,i0,i1,i2⟩;have h1 : ((j : Int) < (l.length : Int)) = False := eq_false (by omega);have h2 : ((j : Int) <= (l.length : Int)) = True := eq_true (by omega);have h3 : (0 + (l.take j).length < 17592186044416) = True := eq_true (by rw [List.length_take];omega);have h4 : ((l.take j).length < 17592186044416) = True := eq_true (by rw [List.length_take];omega);have h5 : ((l.take j ++ [x]).length + (l.drop j).length < 17592186044416) = True := eq_true (by simp only [List.length_append,List.length_take,List.length_drop,List.length_singleton];omega);simp only [Fs.l0,h1,if_false,Option.bind_some,Xa,if_true,h2,Int.toNat_natCast,List.length_nil,h3,List.nil_append,h4,h5];exact Ev.now _
 | succ d ih =>
  intro j hj hb;have hlt : j < l.length := by omega
  have h1 : ((j : Int) < (l.length : Int)) = True := eq_true (by omega);have h2 : ((j : Int) <= (l.length : Int)) = True := eq_true (by omega);have hg : l.getD j 0 = l[j] := by rw [List.getD_eq_getElem?_getD,List.getElem?_eq_getElem hlt];rfl
  by_cases h6 : l[j] < x
  ·obtain ⟨r,hr,h0,hm,hn⟩ := ih (j + 1) (by omega) (fun y hy => by
    rw [List.take_succ_eq_append_getElem hlt,List.mem_append,List.mem_singleton] at hy;rcases hy with hy | rfl
    ·exact hb y hy
    ·exact h6)
   refine ⟨r,Ev.succ ?_,h0,hm,hn⟩;simp only [Fs.l0,h1,if_true,Xa,Yp,hg,eq_true h6,Xb (show j < 4611686018427387904 by omega)];exact hr
  ·by_cases h7 : l[j] = x
   ·refine ⟨l,Ev.succ ?_,hu,fun y => ⟨fun h => Or.inl h,fun h => h.elim id (fun e => by rw [e,<- h7];exact List.getElem_mem hlt)⟩,by omega⟩;simp only [Fs.l0,h1,if_true,Xa,Yp,hg,eq_false h6,if_false,eq_true h7];exact Ev.now _
   ·obtain ⟨i0,i1,i2⟩ := ins j (by omega) hb (fun y hy => by
     rw [List.drop_eq_getElem_cons hlt] at hy;rcases List.mem_cons.1 hy with rfl | hy
     ·omega
     ·have h8 : (l.drop j).Pairwise (· < ·) := hu.sublist (List.drop_sublist _ _);rw [List.drop_eq_getElem_cons hlt,List.pairwise_cons] at h8;have := h8.1 y hy;omega)
    refine ⟨l.take j ++ [x] ++ l.drop j,Ev.succ ?_,i0,i1,i2⟩;have h3 : (0 + (l.take j).length < 17592186044416) = True := eq_true (by rw [List.length_take];omega);have h4 : ((l.take j).length < 17592186044416) = True := eq_true (by rw [List.length_take];omega);have h5 : ((l.take j ++ [x]).length + (l.drop j).length < 17592186044416) = True := eq_true (by simp only [List.length_append,List.length_take,List.length_drop,List.length_singleton];omega);simp only [Fs.l0,h1,if_true,Xa,Yp,hg,eq_false h6,eq_false h7,if_false,Option.bind_some,h2,Int.toNat_natCast,List.length_nil,h3,List.nil_append,h4,h5];exact Ev.now _
theorem Z5 (l : List Int) (x : Int) (hl : l.length <= 4000000) (hu : l.Pairwise (· < ·)) : ∃ r : List Int,Ev (fun k => Fs.f k l x) r ∧ r.Pairwise (· < ·) ∧ (∀ y,y ∈ r ↔ y ∈ l ∨ y = x) ∧ r.length <= l.length + 1 := by
 unfold Fs.f;exact J4 l x hl hu l.length 0 (by omega) (by intro y hy;simp at hy)
def X1 (l : List Int) : List Int := l.mergeSort fun x y => decide (x <= y)
theorem Jf (l : List Int) : (X1 l).length = l.length := by simp [X1]
theorem Yx (l : List Int) : (X1 l).Perm l := List.mergeSort_perm _ _
theorem J7 (l : List Int) (hn : l.Nodup) : (X1 l).Pairwise (· < ·) := by
 have hs : (X1 l).Pairwise (fun x y => decide (x <= y) = true) := List.pairwise_mergeSort (le := fun x y : Int => decide (x <= y)) (by intro a b c;simp;omega) (by intro a b;simp;omega) l;have hn2 : (X1 l).Nodup := (Yx l).nodup_iff.2 hn;have h2 : (X1 l).Pairwise (· ≠ ·) := hn2;refine (hs.and h2).imp ?_;rintro a b ⟨h1,h3⟩;have := of_decide_eq_true h1;omega
theorem Ev.next {α : Type} {g : Nat -> Option α} {r : α} (h : Ev g r) : Ev (fun k => g (k + 1)) r := by
 obtain ⟨K,h⟩ := h;exact ⟨K,fun k hk => h (k + 1) (by omega)⟩
def X0 (l : List S41) (s : Nat) (f : Nat) (D : List Int) : List (List Int) × List Int := Ys (Zi l) (Y3 l) l.length s X1 f D
theorem Y4 (L : List Int) (h : L.Nodup) : (X1 L).Nodup ∧ (∀ x,x ∈ X1 L ↔ x ∈ L) ∧ (X1 L).length = L.length := ⟨(Yx L).nodup_iff.2 h,fun _ => (Yx L).mem_iff,Jf L⟩
theorem Zq (l : List S41) (s : Nat) (out : List (List Int)) (D : List Int) (r : List (List Int)) (hz : Yg l) (hl : l.length <= 1048576) (hD : D.length <= 1048576) (ho : out.length <= 4000000) :
  ∀ f L now,Pick (Y3 l) l.length D L -> L.length + f = s -> now.Pairwise (· < ·) -> (∀ x,x ∈ now ↔ x ∈ L) -> now.length = L.length ->
   (Xi (Zi l) (Y3 l) l.length D f L = [] -> r = out) -> (Xi (Zi l) (Y3 l) l.length D f L ≠ [] -> Ev (fun k => Fq.l0 k l (s : Int) (out ++ [X1 (Xi (Zi l) (Y3 l) l.length D f L)]) (D ++ X1 (Xi (Zi l) (Y3 l) l.length D f L))) r) ->
   Ev (fun k => Fq.l1 k l (s : Int) out D now) r := by
 intro f;have fin : ∀ (L now : List Int),Pick (Y3 l) l.length D L -> now.Pairwise (· < ·) -> (∀ x,x ∈ now ↔ x ∈ L) -> now.length = L.length -> (L = [] -> r = out) -> (L ≠ [] -> Ev (fun k => Fq.l0 k l (s : Int) (out ++ [X1 L]) (D ++ X1 L)) r) ->
   Ev (fun k => if (now.length : Int) = 0 then some out else if out.length < 5864062014805 then if D.length + now.length < 17592186044416 then Fq.l0 k l (s : Int) (out ++ [now]) (D ++ now) else none else none) r := by
  intro L now hp hu hm hlen h1 h2;have hL := Xw hp.nodup hp.range;by_cases h3 : L = []
  ·rw [h1 h3];have : now.length = 0 := by rw [hlen,h3];rfl
   simp only [show ((now.length : Int) = 0) = True from eq_true (by omega),if_true];exact Ev.now _
  ·have h4 : 0 < L.length := List.length_pos_iff.2 h3;have e : now = X1 L := Ve hu (J7 L hp.nodup) (fun x => by rw [hm,(Yx L).mem_iff]);simp only [show ((now.length : Int) = 0) = False from eq_false (by omega),if_false,show (out.length < 5864062014805) = True from eq_true (by omega),if_true,show (D.length + now.length < 17592186044416) = True from eq_true (by omega)];rw [e];exact h2 h3
 induction f with
 | zero =>
  intro L now hp hs hu hm hlen h1 h2;refine Ev.succ ?_;simp only [Fq.l1,show ((now.length : Int) < (s : Int)) = False from eq_false (by omega),if_false];exact fin L now hp hu hm hlen h1 h2
 | succ f ih =>
  intro L now hp hs hu hm hlen h1 h2;refine Ev.succ ?_;have hL := Xw hp.nodup hp.range;have eb : X7 (Zi l) (Xq (Y3 l) D now) l.length = X7 (Zi l) (Xq (Y3 l) D L) l.length := Gd _ _ _ _ (fun i _ => by
   have : decide ((i : Int) ∈ now) = decide ((i : Int) ∈ L) := decide_eq_decide.2 (hm _);unfold Xq;rw [this])
  unfold Xi at h1 h2;simp only [Fq.l1,show ((now.length : Int) < (s : Int)) = True from eq_true (by omega),if_true];refine Ev.bind (G8 l D now hz hl hD (by omega)) ?_;rw [eb];by_cases h3 : X7 (Zi l) (Xq (Y3 l) D L) l.length < 0
  ·rw [if_pos h3] at h1 h2;simp only [eq_true h3,if_true];exact fin L now hp hu hm hlen h1 h2
  ·rw [if_neg h3] at h1 h2;simp only [eq_false h3,if_false];obtain ⟨y,hy1,hy2,hy3,hy4⟩ := Z5 now (X7 (Zi l) (Xq (Y3 l) D L) l.length) (by omega) hu;have hp2 := Zn hp h3;have hm2 : ∀ x,x ∈ y ↔ x ∈ L ++ [X7 (Zi l) (Xq (Y3 l) D L) l.length] := fun x => by rw [hy3,List.mem_append,List.mem_singleton,hm]
   have hyn : y.Nodup := List.Pairwise.imp (S := fun a b : Int => a ≠ b) (fun {a b} (hlt : a < b) e => by omega) hy2;refine Ev.bind hy1 ?_;exact ih _ y hp2 (by rw [List.length_append,List.length_singleton];omega) hy2 hm2 (Ze hyn hp2.nodup hm2) h1 h2
theorem Z0 (l : List S41) (s : Nat) (hz : Yg l) (hl : l.length <= 1048576) : ∀ f D (out : List (List Int)),Good (Y3 l) l.length D -> l.length <= D.length + f -> out.length + f <= 4000000 -> Ev (fun k => Fq.l0 k l (s : Int) out D) (out ++ (X0 l s f D).1) := by
 intro f
 induction f with
 | zero =>
  intro D out hg hf ho;refine Ev.succ ?_;have hD := Xw hg.nodup hg.range;have e : X0 l s 0 D = ([],D) := rfl;have e2 := Gw (us := Zi l) (f := s) hg (by omega);rw [e];simp only [Fq.l0];exact Zq l s out D _ hz hl (by omega) (by omega) s [] [] (Yu _ _ _) (by simp) List.Pairwise.nil (by simp) rfl (fun _ => by rw [List.append_nil]) (fun h => absurd e2 h)
 | succ f ih =>
  intro D out hg hf ho;refine Ev.succ ?_;have hD := Xw hg.nodup hg.range;obtain ⟨hp,_,_⟩ := Yb (Zi l) (Y3 l) l.length D s [] (Yu _ _ _);simp only [Fq.l0];refine Zq l s out D _ hz hl (by omega) (by omega) s [] [] (Yu _ _ _) (by simp) List.Pairwise.nil (by simp) rfl ?_ ?_
  ·intro h2;have e : X0 l s (f + 1) D = ([],D) := by unfold X0 Ys;rw [if_pos h2]
   rw [e,List.append_nil]
  ·intro h2;have e : X0 l s (f + 1) D = ((X1 (Xi (Zi l) (Y3 l) l.length D s []) :: (X0 l s f (D ++ X1 (Xi (Zi l) (Y3 l) l.length D s []))).1),(X0 l s f (D ++ X1 (Xi (Zi l) (Y3 l) l.length D s []))).2) := by
    show Ys _ _ _ _ _ _ _ = _;rw [Ys,if_neg h2];rfl
   rw [e];generalize Xi (Zi l) (Y3 l) l.length D s [] = P at hp h2;have hP := Xw hp.nodup hp.range;have h3 : 0 < P.length := List.length_pos_iff.2 h2;obtain ⟨b1,b2,b3⟩ := Y4 P hp.nodup;have hi := ih (D ++ X1 P) (out ++ [X1 P]) (Zy hg (Vs hp b1 b2)) (by rw [List.length_append,b3];omega) (by rw [List.length_append,List.length_singleton];omega);rw [List.append_assoc] at hi;exact hi
theorem Vr (l : List S41) (s : Nat) : ∀ f D,(X0 l s f D).2 = D ++ (X0 l s f D).1.flatten ∧ (X0 l s f D).1.length <= f := by
 intro f
 induction f with
 | zero => intro D;exact ⟨by show D = D ++ [].flatten;simp,by show ([] : List (List Int)).length <= 0;simp⟩
 | succ f ih =>
  intro D;by_cases h2 : Xi (Zi l) (Y3 l) l.length D s [] = []
  ·have e : X0 l s (f + 1) D = ([],D) := by unfold X0 Ys;rw [if_pos h2]
   rw [e];simp
  ·have e : X0 l s (f + 1) D = ((X1 (Xi (Zi l) (Y3 l) l.length D s []) :: (X0 l s f (D ++ X1 (Xi (Zi l) (Y3 l) l.length D s []))).1),(X0 l s f (D ++ X1 (Xi (Zi l) (Y3 l) l.length D s []))).2) := by
    show Ys _ _ _ _ _ _ _ = _;rw [Ys,if_neg h2];rfl
   rw [e];obtain ⟨a,b⟩ := ih (D ++ X1 (Xi (Zi l) (Y3 l) l.length D s []));refine ⟨?_,by simp only [List.length_cons];omega⟩;simp only [a,List.flatten_cons,List.append_assoc]
theorem Xo {l : List S41} (h : Xp l = true) : l.length <= 16 ∧ ∀ j,j < l.length -> 0 <= (Xz l j).f2 ∧ (Xz l j).f2 <= 99999 := by
 unfold Xp at h;rw [Bool.and_eq_true,List.all_eq_true,decide_eq_true_eq] at h;refine ⟨h.2,fun j hj => ?_⟩;have := h.1 j (List.mem_range.2 hj);unfold Xg at this;rw [Bool.and_eq_true,Bool.and_eq_true,Bool.and_eq_true,Bool.and_eq_true] at this;exact of_decide_eq_true this.2.2.2.1
def LSh (R : List (List Int)) : Prop := R.length <= 19 ∧ ∀ y,y ∈ R -> y.length <= 20
theorem Vb : ∀ R : List (List Int),(∀ y,y ∈ R -> y.length <= 20) -> R.flatten.length <= 20 * R.length
 | [],_ => by simp
 | y :: R,h => by
  have h1 := Vb R (fun z hz => h z (List.mem_cons_of_mem _ hz));have h2 := h y (List.mem_cons_self ..);rw [List.flatten_cons,List.length_append,List.length_cons];omega
theorem LSh.flat {R : List (List Int)} (h : LSh R) : R.flatten.length <= 400 := by
 have := Vb R h.2;have := h.1;omega
theorem LSh.set {R : List (List Int)} (h : LSh R) (i : Nat) {y : List Int} (hy : y.length <= 20) : LSh (R.set i y) :=
 ⟨by rw [List.length_set];exact h.1,fun z hz => by
  rcases List.mem_or_eq_of_mem_set hz with hz | rfl
  ·exact h.2 z hz
  ·exact hy⟩
theorem Z7 {n : Nat} {R : List (List Int)} (h : ∀ y,y ∈ R -> y.length <= n) (i : Nat) : (R.getD i []).length <= n := by
 rw [List.getD_eq_getElem?_getD];by_cases hi : i < R.length
 ·rw [List.getElem?_eq_getElem hi];exact h _ (List.getElem_mem hi)
 ·rw [List.getElem?_eq_none (by omega)];exact Nat.zero_le _
theorem Gu {l : List Int} (N : Nat) (hN : N <= 17) (a s : Int) : ∀ (d : Nat) (R : List (List Int)),R.length + d = max N R.length -> LSh R -> ∃ Q,Ev (fun k => Fc.l0 k R (N : Int) l a s) (Q,a,s) ∧ LSh Q := by
 intro d
 induction d with
 | zero =>
  intro R hd hR;refine ⟨R,Ev.succ ?_,hR⟩;simp only [Fc.l0,show ((R.length : Int) < (N : Int)) = False from eq_false (by omega),if_false];exact Ev.now _
 | succ d ih =>
  intro R hd hR;obtain ⟨Q,hQ,hS⟩ := ih (R ++ [[]]) (by rw [List.length_append,List.length_singleton];omega) ⟨by rw [List.length_append,List.length_singleton];omega,fun y hy => by
   rcases List.mem_append.1 hy with hy | hy
   ·exact hR.2 y hy
   ·rw [List.mem_singleton.1 hy];exact Nat.zero_le _⟩
  refine ⟨Q,Ev.succ ?_,hS⟩;have := hR.1;simp only [Fc.l0,show ((R.length : Int) < (N : Int)) = True from eq_true (by omega),if_true,show (R.length < 5864062014805) = True from eq_true (by omega)];exact hQ
theorem X4 {l : List Int} (hu : U8 l) (R : List (List Int)) (hR : LSh R) (a s : Int) (h0 : 0 <= a) (h1 : a <= 999999999900) : ∃ Q a' s',Ev (fun k => Fc.j1 k R l a s) (Q,a',s') ∧ LSh Q ∧ a <= a' ∧ a' <= a + 4 := by
 obtain ⟨b,a1,s1,e1,_,p1,q1⟩ := U4 hu s h0 (by omega) 40 (by decide) (by decide);cases b with
 | false =>
  refine ⟨R,a1,s1,Ev.succ ?_,hR,p1,by omega⟩;simp only [Fc.j1,e1,Option.bind_some,Bool.false_eq_true,if_false];exact Ev.now _
 | true =>
  obtain ⟨y,a2,s2,e2,⟨y0,y1⟩,p2,q2⟩ := Xe hu s1 (a := a1) (by omega) (by omega) 2 (by decide) (by decide);obtain ⟨N,hN⟩ : ∃ N : Nat,16 + y = (N : Int) := ⟨(16 + y).toNat,by omega⟩;obtain ⟨Q,hQ,hS⟩ := Gu (l := l) N (by omega) a2 s2 (max N R.length - R.length) R (by omega) hR;refine ⟨Q,a2,s2,Ev.succ ?_,hS,by omega,by omega⟩;simp only [Fc.j1,e1,Option.bind_some,if_true,e2];rw [Xf (by omega) (by omega),hN];exact hQ
theorem Vu {l : List Int} (hu : U8 l) (L : List S41) (hL : L.length <= 17) (R : List (List Int)) (hR1 : R.length <= 17) (hR2 : ∀ y,y ∈ R -> y.length <= 19) (a s : Int) (h0 : 0 <= a) (h1 : a <= 999999999800) : ∃ Q a' s',Ev (fun k => Fc.j0 k L R l a s) (Q,a',s') ∧ LSh Q ∧ a <= a' ∧ a' <= a + 20 := by
 have hR : LSh R := ⟨by omega,fun y hy => by have := hR2 y hy;omega⟩;by_cases hp : (R.length : Int) > 0
 ·obtain ⟨i,a1,s1,e1,⟨i0,i1⟩,p1,q1⟩ := Xe hu s h0 (by omega) (R.length : Int) (by omega) (by omega);obtain ⟨m,a2,s2,e2,_,p2,q2⟩ := Xe hu s1 (a := a1) (by omega) (by omega) 8 (by decide) (by decide);obtain ⟨n,rfl⟩ : ∃ n : Nat,i = (n : Int) := ⟨i.toNat,by omega⟩;have hrd : rd_L2 R (n : Int) = R.getD n [] := Za R n;have hrs := Z7 hR2 n;have en : wrap64 ((n : Int) + 1) = ((n + 1 : Nat) : Int) := Xb (by omega);by_cases c0 : m = 0
  ·have eL : wrap64 ((L.length : Int) + 1) = ((L.length + 1 : Nat) : Int) := Xb (by omega);obtain ⟨y,a3,s3,e3,_,p3,q3⟩ := Xe hu s2 (a := a2) (by omega) (by omega) ((L.length + 1 : Nat) : Int) (by omega) (by omega);obtain ⟨Q,a4,s4,hQ,hS,p4,q4⟩ := X4 hu (R.set n (R.getD n [] ++ [y])) (hR.set n (by rw [List.length_append,List.length_singleton];omega)) a3 s3 (by omega) (by omega);refine ⟨Q,a4,s4,Ev.succ ?_,hS,by omega,by omega⟩;simp only [Fc.j0,eq_true hp,if_true,e1,e2,Option.bind_some,eq_true c0,Xa,eq_true i1,eL,e3,hrd,show ((R.getD n []).length < 17592186044416) = True from eq_true (by omega),Int.toNat_natCast];exact hQ
  by_cases c1 : m = 1
  ·obtain ⟨Q,a4,s4,hQ,hS,p4,q4⟩ := X4 hu (R.eraseIdx n) ⟨by have := List.length_eraseIdx_le R n;omega,fun y hy => hR.2 y (List.mem_of_mem_eraseIdx hy)⟩ a2 s2 (by omega) (by omega);refine ⟨Q,a4,s4,Ev.succ ?_,hS,by omega,by omega⟩;simp only [Fc.j0,eq_true hp,if_true,e1,e2,Option.bind_some,eq_false c0,if_false,eq_true c1,Xa,en,show ((n : Int) <= (R.length : Int)) = True from eq_true (by omega),show (((n + 1 : Nat) : Int) <= (R.length : Int)) = True from eq_true (by omega),Int.toNat_natCast];exact hQ
  by_cases c2 : m = 2
  ·have hr0 : (rd_L2 R 0).length <= 20 := by rw [show rd_L2 R 0 = R.getD 0 [] from Za R 0];exact Z7 hR.2 0
   obtain ⟨Q,a4,s4,hQ,hS,p4,q4⟩ := X4 hu ((R.set 0 (R.getD n [])).set n (rd_L2 R 0)) ((hR.set 0 (by omega)).set n hr0) a2 s2 (by omega) (by omega);refine ⟨Q,a4,s4,Ev.succ ?_,hS,by omega,by omega⟩;simp only [Fc.j0,eq_true hp,if_true,e1,e2,Option.bind_some,eq_false c0,if_false,eq_false c1,eq_true c2,Xa,eq_true i1,show (0 < (R.length : Int)) = True from eq_true (by omega),hrd,Int.toNat_natCast,Int.toNat_zero];exact hQ
  by_cases c3 : m = 3
  ·obtain ⟨Q,a4,s4,hQ,hS,p4,q4⟩ := X4 hu (R ++ [[]]) ⟨by rw [List.length_append,List.length_singleton];omega,fun y hy => by
    rcases List.mem_append.1 hy with hy | hy
    ·exact hR.2 y hy
    ·rw [List.mem_singleton.1 hy];exact Nat.zero_le _⟩ a2 s2 (by omega) (by omega)
   refine ⟨Q,a4,s4,Ev.succ ?_,hS,by omega,by omega⟩;simp only [Fc.j0,eq_true hp,if_true,e1,e2,Option.bind_some,eq_false c0,if_false,eq_false c1,eq_false c2,eq_true c3,show (R.length < 5864062014805) = True from eq_true (by omega)];exact hQ
  ·obtain ⟨Q,a4,s4,hQ,hS,p4,q4⟩ := X4 hu R hR a2 s2 (by omega) (by omega);refine ⟨Q,a4,s4,Ev.succ ?_,hS,by omega,by omega⟩;simp only [Fc.j0,eq_true hp,if_true,e1,e2,Option.bind_some,eq_false c0,if_false,eq_false c1,eq_false c2,eq_false c3];exact hQ
 ·obtain ⟨Q,a4,s4,hQ,hS,p4,q4⟩ := X4 hu R hR a s (by omega) (by omega);refine ⟨Q,a4,s4,Ev.succ ?_,hS,by omega,by omega⟩;simp only [Fc.j0,eq_false hp,if_false];exact hQ
theorem G3 {l : List Int} (hu : U8 l) (L : List S41) (hL : L.length <= 17) (hz : Yg L) (a s : Int) (h0 : 0 <= a) (h1 : a <= 999999999700) : ∃ R a' s',Ev (fun k => Fc.f k l a s L) (R,a',s') ∧ LSh R ∧ a <= a' ∧ a' <= a + 30 := by
 unfold Fc.f;cases hw : Xp L with
 | false =>
  have hG := Yf L (by omega) hz;rw [hw] at hG;obtain ⟨R,a1,s1,hR,hS,p1,q1⟩ := Vu hu L hL [] (by simp) (fun y hy => by cases hy) a s h0 (by omega);refine ⟨R,a1,s1,Ev.bind hG ?_,hS,p1,by omega⟩;simp only [Bool.false_eq_true,if_false];exact hR
 | true =>
  have hG := Yf L (by omega) hz;rw [hw] at hG;obtain ⟨y,a1,s1,e1,⟨y0,y1⟩,p1,q1⟩ := Xe hu s h0 (by omega) 4 (by decide) (by decide);obtain ⟨N,hN⟩ : ∃ N : Nat,1 + y = (N : Int) := ⟨(1 + y).toNat,by omega⟩;obtain ⟨d1,d2⟩ := Vr L N L.length [];rw [List.nil_append] at d1;have hg := (Y7 (Zi L) (Y3 L) L.length N X1 (by omega) Y4 L.length [] (Zf _ _) (by simp)).1;have hle := Xw hg.nodup hg.range;have hle2 : (X0 L N L.length []).1.flatten.length <= 17 := by
   have : (X0 L N L.length []).2.length <= L.length := hle;rw [d1] at this;omega
  obtain ⟨R,a2,s2,hR,hS,p2,q2⟩ := Vu hu L hL (X0 L N L.length []).1 (by omega) (fun y hy => by have := Yk hy;omega) a1 s1 (by omega) (by omega);refine ⟨R,a2,s2,Ev.bind hG ?_,hS,by omega,by omega⟩;simp only [if_true,e1,Option.bind_some];rw [Xf (by omega) (by omega),hN];have h2 := Z0 L N hz (by omega) L.length [] [] (Zf _ _) (by simp) (by simp;omega);rw [List.nil_append] at h2;exact Ev.bind (show Ev (fun k => Fq.f k L (N : Int)) _ from h2) hR
theorem Gr {l : List Int} (hu : U8 l) (L : List S41) (hL : L.length <= 100) {a : Int} (s : Int) (h0 : 0 <= a) (h1 : a <= 999999999900) : Ti (GQ.f l a s L) a 8 (fun _ => True) := by
 have eL : wrap64 ((L.length : Int) + 1) = ((L.length + 1 : Nat) : Int) := Xb (by omega);obtain ⟨y1,a1,s1,e1,_,p1,q1⟩ := Xe hu s h0 (by omega) ((L.length + 1 : Nat) : Int) (by omega) (by omega);obtain ⟨y2,a2,s2,e2,_,p2,q2⟩ := Xe hu s1 (a := a1) (by omega) (by omega) ((L.length + 1 : Nat) : Int) (by omega) (by omega);obtain ⟨y3,a3,s3,e3,_,p3,q3⟩ := Xm hu s2 (a := a2) (by omega) (by omega) [0,(L.length : Int),-1] (by simp) (by simp);obtain ⟨y4,a4,s4,e4,_,p4,q4⟩ := Xm hu s3 (a := a3) (by omega) (by omega) [0,y1,y2,wrap64 ((L.length : Int) - 1),y3] (by simp) (by simp);unfold GQ.f;simp only [eL,e1,e2,e3,e4,Option.bind_some];exact ⟨_,_,_,rfl,trivial,by omega,by omega⟩
theorem Zz (l : List Int) (hl : l.length < 4611686018427387904) : Ev (fun k => FJ.f k l l) true := by
 unfold FJ.f;simp only [if_true];exact Ev.upto (L := fun k j => FJ.l0 k l l (l.length : Int) (j : Int)) (r := true) (n := l.length)
  (by
   refine Ev.succ ?_;simp only [FJ.l0,Int.lt_irrefl,if_false];exact Ev.now _)
  (by
   intro j hj h;refine Ev.succ ?_;simp only [FJ.l0,show ((j : Int) < (l.length : Int)) = True from eq_true (by omega),if_true,Xa,Xb (show j < 4611686018427387904 by omega)];exact h)
  0 (Nat.zero_le _)
theorem Tl (l : List Int) (hl : l.length < 4611686018427387904) (x : Int) : Ev (fun k => GT.f k l x) (decide (x ∈ l)) := by
 unfold GT.f;have key : ∀ d j,j + d = l.length -> Ev (fun k => GT.l0 k x l (l.length : Int) (j : Int)) (decide (x ∈ l.drop j)) := by
  intro d
  induction d with
  | zero =>
   intro j hj;refine Ev.succ ?_;simp only [GT.l0,show ((j : Int) < (l.length : Int)) = False from eq_false (by omega),if_false];rw [List.drop_of_length_le (by omega)];exact Ev.now _
  | succ d ih =>
   intro j hj;have hlt : j < l.length := by omega
   have e : rd l (j : Int) = l[j] := by
    show l.getD ((j : Int)).toNat 0 = _;rw [Int.toNat_natCast,List.getD_eq_getElem?_getD,List.getElem?_eq_getElem hlt];rfl
   refine Ev.succ ?_;simp only [GT.l0,show ((j : Int) < (l.length : Int)) = True from eq_true (by omega),if_true,Xa,e,Xb (show j < 4611686018427387904 by omega)];rw [List.drop_eq_getElem_cons hlt];by_cases hx : l[j] = x
   ·simp only [eq_true hx,if_true];refine Ev.eq (Ev.now _) ?_;rw [hx];simp
   ·simp only [eq_false hx,if_false];refine Ev.eq (ih (j + 1) (by omega)) ?_;rw [decide_eq_decide,List.mem_cons];exact ⟨.inr,fun h => h.resolve_left (fun h2 => hx h2.symm)⟩
 exact key l.length 0 (by omega)
def Xt (x : Int) (l : List Int) : Bool := Xx l.length 2 4 && (l.all (fun y => decide (0 <= y ∧ y <= 15)) && (decide l.Nodup && decide (x ∈ l)))
theorem Yc (x : Int) (l : List Int) (hl : l.length < 17592186044416) : Ev (fun k => Ft.f k x l) (Xt x l) := by
 unfold Ft.f Xt;simp only [Xl,Option.bind_some,FB.f];rcases Bool.eq_false_or_eq_true (Xx l.length 2 4) with h | h
 ·simp only [h,if_true,Bool.true_and];rcases Bool.eq_false_or_eq_true (l.all (fun y => decide (0 <= y ∧ y <= 15))) with h2 | h2
  ·simp only [h2,if_true,Bool.true_and];obtain ⟨r,hr,hn⟩ := Yj l hl;simp only [hr,Option.bind_some];by_cases h3 : l.Nodup
   ·have h4 : ((r.length : Int) = (l.length : Int)) = True := eq_true (by have := hn.2 h3;omega);simp only [h4,if_true,h3,decide_true,Bool.true_and];exact Ev.bind (X8 l x (by omega)) (Ev.now _)
   ·have h4 : ((r.length : Int) = (l.length : Int)) = False := eq_false (fun e => h3 (hn.1 (by omega)));simp only [h4,if_false,h3,decide_false,Bool.false_and];exact Ev.now _
  ·simp only [h2];exact Ev.now _
 ·simp only [h];exact Ev.now _
def Tk (l : List Int) (i : Nat) : Bool := Xx (l.getD i 0) 0 15 && !(decide (l.getD i 0 ∈ l.take i))
theorem J1 (l : List Int) : (List.range l.length).all (Tk l) = (l.all (fun y => decide (0 <= y ∧ y <= 15)) && decide l.Nodup) := by
 have hg : ∀ i (hi : i < l.length),l.getD i 0 = l[i] := fun i hi => by rw [List.getD_eq_getElem?_getD,List.getElem?_eq_getElem hi];rfl
 rw [Bool.eq_iff_iff,Bool.and_eq_true,List.all_eq_true,List.all_eq_true,decide_eq_true_eq]
 constructor
 ·intro h
  constructor
  ·intro y hy;obtain ⟨i,hi,rfl⟩ := List.getElem_of_mem hy;have := h i (List.mem_range.2 hi);rw [Tk,hg i hi,Bool.and_eq_true] at this;exact this.1
  ·rw [List.Nodup,List.pairwise_iff_getElem];intro i j hi hj hij e;have := h j (List.mem_range.2 hj);rw [Tk,hg j hj,Bool.and_eq_true,Bool.not_eq_true',decide_eq_false_iff_not] at this;exact this.2 (List.mem_iff_getElem.2 ⟨i,by rw [List.length_take];omega,by rw [List.getElem_take];exact e⟩)
 ·rintro ⟨h1,h2⟩ j hj;have hj' := List.mem_range.1 hj;rw [Tk,hg j hj',Bool.and_eq_true,Bool.not_eq_true',decide_eq_false_iff_not];refine ⟨h1 _ (List.getElem_mem hj'),fun hm => ?_⟩;obtain ⟨i,hi,e⟩ := List.mem_iff_getElem.1 hm;rw [List.length_take] at hi;rw [List.getElem_take] at e;rw [List.Nodup,List.pairwise_iff_getElem] at h2;exact h2 i j (by omega) hj' (by omega) e
theorem Y1 (x : Int) (l : List Int) (hl : l.length < 17592186044416) : Ev (fun k => FH.f k x l) (Xt x l) := by
 unfold FH.f;have key := Ev.all0 (L := fun k j => FH.l0 k l (l.length : Int) (j : Int) x l) (P := Tk l) (n := l.length) (a := Xx l.length 2 4 && decide (x ∈ l)) (b := false)
  (by
   refine Ev.succ ?_;simp only [FH.l0,Int.lt_irrefl,if_false,Xn,Option.bind_some];rcases Bool.eq_false_or_eq_true (Xx l.length 2 4) with h | h
   ·simp only [h,if_true,Bool.true_and];exact Ev.bind (Xk l x (by omega)) (Ev.now _)
   ·simp only [h];exact Ev.now _)
  (by
   intro j r hj hP h;refine Ev.succ ?_;have h1 : ((j : Int) < (l.length : Int)) = True := eq_true (by omega);have h2 : ((j : Int) <= (l.length : Int)) = True := eq_true (by omega);rw [Tk,Bool.and_eq_true,Bool.not_eq_true'] at hP;simp only [FH.l0,Xn,Option.bind_some,h1,h2,if_true,Xa,Yp,Int.toNat_natCast,Xb (show j < 4611686018427387904 by omega),hP.1];refine Ev.bind (Xk _ _ (by rw [List.length_take];omega)) ?_;simp only [hP.2];exact h)
  (by
   intro j hj hP;refine Ev.succ ?_;have h1 : ((j : Int) < (l.length : Int)) = True := eq_true (by omega);have h2 : ((j : Int) <= (l.length : Int)) = True := eq_true (by omega);rw [Tk] at hP;simp only [FH.l0,Xn,Option.bind_some,h1,h2,if_true,Xa,Yp,Int.toNat_natCast];rcases Bool.eq_false_or_eq_true (Xx (l.getD j 0) 0 15) with h | h
   ·rw [h,Bool.true_and,Bool.not_eq_false'] at hP;simp only [h,if_true];refine Ev.bind (Xk _ _ (by rw [List.length_take];omega)) ?_;simp only [hP,if_true];exact Ev.now _
   ·simp only [h];exact Ev.now _)
 refine Ev.eq key ?_;rw [J1];unfold Xt;cases Xx l.length 2 4 <;> cases (l.all (fun y => decide (0 <= y ∧ y <= 15))) <;> cases decide l.Nodup <;> cases decide (x ∈ l) <;> rfl
def Tr (l : List S30) (j : Nat) : S30 := l.getD j z30
theorem rdq (l : List S30) (j : Nat) : rd_T30 l (j : Int) = Tr l j := by simp [rd_T30,Tr]
theorem Gm (l : List S30) (j : Nat) (h : j < l.length) : Tr l j = l[j] := by unfold Tr;rw [List.getD_eq_getElem?_getD,List.getElem?_eq_getElem h];rfl
def Tn (l : List S30) : Prop := ∀ q,q ∈ l -> q.f1.length <= 1048576
theorem Tf {l : List S30} (hz : Tn l) {j : Nat} (hj : j < l.length) : (Tr l j).f1.length <= 1048576 := by rw [Gm l j hj];exact hz _ (List.getElem_mem hj)
theorem Ux {l : List Int} (hu : U8 l) (L : List S41) (R : List (List Int)) (hR : LSh R) (a s : Int) (h0 : 0 <= a) (h1 : a <= 999999999900) : ∃ n a' s',Ev (fun k => Fx.j0 k L R false l a s) (L,R,n,a',s') ∧ a <= a' ∧ a' <= a + 6 := by
 have hR1 := hR.1;have eR : wrap64 ((R.length : Int) + 1) = ((R.length + 1 : Nat) : Int) := Xb (by omega);obtain ⟨y1,a1,s1,e1,_,p1,q1⟩ := Xe hu s h0 (by omega) ((R.length + 1 : Nat) : Int) (by omega) (by omega);obtain ⟨y2,a2,s2,e2,_,p2,q2⟩ := Xm hu s1 (a := a1) (by omega) (by omega) [0,-1,((R.length + 1 : Nat) : Int)] (by simp) (by simp);obtain ⟨y3,a3,s3,e3,_,p3,q3⟩ := Xm hu s2 (a := a2) (by omega) (by omega) [1,(R.length : Int),(R.length : Int),y1,y2] (by simp) (by simp);refine ⟨y3,a3,s3,Ev.succ ?_,by omega,by omega⟩;simp only [Fx.j0,Bool.false_eq_true,if_false,eR,e1,e2,e3,Option.bind_some];exact Ev.now _
theorem Jq {L : List S41} (hL : L.length <= 17) (hz : Yg L) (N : Nat) (hN : 0 < N) : LSh (X0 L N L.length []).1 := by
 obtain ⟨d1,d2⟩ := Vr L N L.length [];rw [List.nil_append] at d1;have hg := (Y7 (Zi L) (Y3 L) L.length N X1 (by omega) Y4 L.length [] (Zf _ _) (by simp)).1;have hle := Xw hg.nodup hg.range;have hle2 : (X0 L N L.length []).1.flatten.length <= 17 := by
  have : (X0 L N L.length []).2.length <= L.length := hle;rw [d1] at this;omega
 exact ⟨by omega,fun y hy => by have := Yk hy;omega⟩
theorem Vv {l : List Int} (hu : U8 l) (L : List S41) (hL : L.length <= 17) (hz : Yg L) (R : List (List Int)) (hR : LSh R) (b : Bool) (a s : Int) (h0 : 0 <= a) (h1 : a <= 999999999800) : ∃ T n a' s',Ev (fun k => Fx.j0 k L R b l a s) (L,T,n,a',s') ∧ LSh T ∧ a <= a' ∧ a' <= a + 10 := by
 cases b with
 | false =>
  obtain ⟨n,a1,s1,hE,p1,q1⟩ := Ux hu L R hR a s h0 (by omega);exact ⟨R,n,a1,s1,hE,hR,p1,by omega⟩
 | true =>
  obtain ⟨y,a1,s1,e1,⟨y0,y1⟩,p1,q1⟩ := Xe hu s h0 (by omega) 4 (by decide) (by decide);obtain ⟨N,hN⟩ : ∃ N : Nat,1 + y = (N : Int) := ⟨(1 + y).toNat,by omega⟩;have hT := Jq hL hz N (by omega);have hT1 := hT.1;have hg := Z0 L N hz (by omega) L.length [] [] (Zf _ _) (by simp) (by simp;omega);rw [List.nil_append] at hg;have eR : wrap64 (((X0 L N L.length []).1.length : Int) + 1) = (((X0 L N L.length []).1.length + 1 : Nat) : Int) := Xb (by omega);obtain ⟨y2,a2,s2,e2,_,p2,q2⟩ := Xe hu s1 (a := a1) (by omega) (by omega) (((X0 L N L.length []).1.length + 1 : Nat) : Int) (by omega) (by omega);obtain ⟨y3,a3,s3,e3,_,p3,q3⟩ := Xm hu s2 (a := a2) (by omega) (by omega) [0,-1,(((X0 L N L.length []).1.length + 1 : Nat) : Int)] (by simp) (by simp);obtain ⟨y4,a4,s4,e4,_,p4,q4⟩ := Xm hu s3 (a := a3) (by omega) (by omega) [1,((X0 L N L.length []).1.length : Int),((X0 L N L.length []).1.length : Int),y2,y3] (by simp) (by simp);refine ⟨(X0 L N L.length []).1,y4,a4,s4,Ev.succ ?_,hT,by omega,by omega⟩;simp only [Fx.j0,if_true,e1,Option.bind_some];rw [Xf (by omega) (by omega),hN];refine Ev.bind (show Ev (fun k => Fq.f k L (N : Int)) _ from hg) ?_;simp only [eR,e2,e3,e4,Option.bind_some];exact Ev.now _
theorem Zl {l : List Int} (hu : U8 l) : ∃ (L : List S41) (R : List (List Int)) (n a s : Int),Ev (fun k => Fx.f k l 0 0) (L,R,n,a,s) ∧ L.length <= 17 ∧ WSh 10 L ∧ LSh R ∧ 0 <= a ∧ a <= 300 := by
 obtain ⟨L,a1,s1,hE,h1,h2,p1,q1⟩ := Uj hu (a := 0) 0 (by decide) (by decide);have hz : Yg L := h2.wsz (by decide);obtain ⟨R,a2,s2,hR,h3,p2,q2⟩ := G3 hu L h1 hz a1 s1 p1 (by omega);have hG := Yf L (by omega) hz;unfold Fx.f;cases hw : Xp L with
 | false =>
  rw [hw] at hG;obtain ⟨T,n,a3,s3,hT,hS,p3,q3⟩ := Vv hu L h1 hz R h3 false a2 s2 (by omega) (by omega);refine ⟨L,T,n,a3,s3,Ev.bind hE (Ev.bind hR (Ev.bind hG ?_)),h1,h2,hS,by omega,by omega⟩;simp only [Bool.false_eq_true,if_false];exact hT
 | true =>
  rw [hw] at hG;obtain ⟨b,a3,s3,e3,_,p3,q3⟩ := U4 hu s2 (a := a2) (by omega) (by omega) 4 (by decide) (by decide);obtain ⟨T,n,a4,s4,hT,hS,p4,q4⟩ := Vv hu L h1 hz R h3 (!b) a3 s3 (by omega) (by omega);refine ⟨L,T,n,a4,s4,Ev.bind hE (Ev.bind hR (Ev.bind hG ?_)),h1,h2,hS,by omega,by omega⟩;simp only [if_true,e3,Option.bind_some];exact hT
theorem Gh {l : List Int} (hu : U8 l) (x : Int) (c : List Int) (hc0 : 0 < c.length) (hc : c.length <= 20) (a s : Int) (h0 : 0 <= a) (h1 : a <= 999999999900) : ∃ (r : Int × List Int) (a' s' : Int),Ev (fun k => Fe.j1 k l a s x c) (r.1,r.2,a',s') ∧ r.2.length <= 21 ∧ a <= a' ∧ a' <= a + 6 := by
 obtain ⟨y1,a1,s1,e1,⟨b0,b1⟩,p1,q1⟩ := Xe hu s h0 (by omega) (c.length : Int) (by omega) (by omega);obtain ⟨y2,a2,s2,e2,_,p2,q2⟩ := Xe hu s1 (a := a1) (by omega) (by omega) 30 (by decide) (by decide);by_cases c0 : y2 = 0
 ·obtain ⟨y3,a3,s3,e3,_,p3,q3⟩ := Xm hu s2 (a := a2) (by omega) (by omega) [-1,15,16] (by simp) (by simp);refine ⟨(y3,c),a3,s3,Ev.succ ?_,by show c.length <= 21;omega,by omega,by omega⟩;simp only [Fe.j1,e1,e2,e3,Option.bind_some,eq_true b0,eq_true b1,eq_true c0,if_true];exact Ev.now _
 by_cases c1 : y2 = 1
 ·obtain ⟨y3,a3,s3,e3,_,p3,q3⟩ := Xm hu s2 (a := a2) (by omega) (by omega) [-1,15,16,rd c 0] (by simp) (by simp);refine ⟨(rd c y1,c ++ [y3]),a3,s3,Ev.succ ?_,by show (c ++ [y3]).length <= 21;rw [List.length_append,List.length_singleton];omega,by omega,by omega⟩;simp only [Fe.j1,e1,e2,e3,Option.bind_some,eq_true b0,eq_true b1,eq_false c0,if_false,eq_true c1,if_true,show (0 < (c.length : Int)) = True from eq_true (by omega),show (c.length < 17592186044416) = True from eq_true (by omega)];exact Ev.now _
 by_cases c2 : y2 = 2
 ·refine ⟨(rd c y1,c.take (1 : Int).toNat),a2,s2,Ev.succ ?_,by show (c.take (1 : Int).toNat).length <= 21;rw [List.length_take];omega,by omega,by omega⟩;simp only [Fe.j1,e1,e2,Option.bind_some,eq_true b0,eq_true b1,eq_false c0,if_false,eq_false c1,eq_true c2,if_true,show (1 <= (c.length : Int)) = True from eq_true (by omega)];exact Ev.now _
 ·refine ⟨(rd c y1,c),a2,s2,Ev.succ ?_,by show c.length <= 21;omega,by omega,by omega⟩;simp only [Fe.j1,e1,e2,Option.bind_some,eq_true b0,eq_true b1,eq_false c0,if_false,eq_false c1,eq_false c2,if_true];exact Ev.now _
theorem Ji (l : List Int) (x : Int) (hl : l.length <= 4000000) (hu : l.Pairwise (· < ·)) : ∃ r : List Int,Ev (fun k => Fs.f k l x) r ∧ r.length <= l.length + 1 ∧ 0 < r.length ∧ r.Pairwise (· < ·) := by
 obtain ⟨r,r1,r2,r3,r4⟩ := Z5 l x hl hu;refine ⟨r,r1,r4,?_,r2⟩;have : x ∈ r := (r3 x).2 (Or.inr rfl);exact List.length_pos_of_mem this
theorem J0 {l : List Int} (hu : U8 l) (n : Int) (hn : n <= 100) : ∀ (d : Nat) (x : Int) (c : List Int) (a s : Int),c.length + d <= 19 -> (0 < c.length ∨ 0 < d) -> c.Pairwise (· < ·) -> 0 <= a -> a + 2 * d <= 999999999890 -> ∃ (r : Int × List Int) (a' s' : Int),Ev (fun k => Fe.l0 k n (d : Int) l a s x c) (r.1,r.2,a',s') ∧ r.2.length <= 21 ∧ a <= a' ∧ a' <= a + 2 * d + 6 := by
 intro d
 induction d with
 | zero =>
  intro x c a s h1 h2 h3 h4 h5;by_cases hc : c.length = 1
  ·obtain ⟨r,a1,s1,hE,q,p1,q1⟩ := Gh hu x [1,0] (by simp) (by simp) a s h4 (by omega);refine ⟨r,a1,s1,Ev.succ ?_,q,p1,by omega⟩;simp only [Fe.l0,show (((0 : Nat) : Int) > 0) = False from eq_false (by omega),if_false,show ((c.length : Int) = 1) = True from eq_true (by omega),if_true];exact hE
  ·obtain ⟨r,a1,s1,hE,q,p1,q1⟩ := Gh hu x c (by omega) (by omega) a s h4 (by omega);refine ⟨r,a1,s1,Ev.succ ?_,q,p1,by omega⟩;simp only [Fe.l0,show (((0 : Nat) : Int) > 0) = False from eq_false (by omega),if_false,show ((c.length : Int) = 1) = False from eq_false (by omega)];exact hE
 | succ d ih =>
  intro x c a s h1 h2 h3 h4 h5;obtain ⟨m,hm,m0,m1⟩ : ∃ m,GV.f 2 n = some m ∧ 1 <= m ∧ m <= 1000000 := by
   unfold GV.f
   split
   ·exact ⟨_,rfl,by omega,by omega⟩
   ·exact ⟨_,rfl,by omega,by omega⟩
  obtain ⟨y,a1,s1,e1,_,p1,q1⟩ := Xe hu s h4 (by omega) m m0 m1;obtain ⟨c2,k1,k2,k3,k4⟩ := Ji c y (by omega) h3;obtain ⟨r,a2,s2,hE,q,p2,q2⟩ := ih x c2 a1 s1 (by omega) (Or.inl k3) k4 (by omega) (by omega);refine ⟨r,a2,s2,Ev.succ ?_,q,by omega,by omega⟩;simp only [Fe.l0,show (((d + 1 : Nat) : Int) > 0) = True from eq_true (by omega),if_true,hm,Option.bind_some,e1];refine Ev.bind k1 ?_;rw [show wrap64 (((d + 1 : Nat) : Int) - 1) = (d : Int) by rw [Xf (by omega) (by omega)];omega];exact hE
theorem Gg {l : List Int} (hu : U8 l) (n : Int) (hn : n <= 100) {a : Int} (s : Int) (h0 : 0 <= a) (h1 : a <= 999999999800) : ∃ (r : Int × List Int) (a' s' : Int),Ev (fun k => Fe.f k l a s n) (r.1,r.2,a',s') ∧ r.2.length <= 21 ∧ a <= a' ∧ a' <= a + 20 := by
 obtain ⟨y,a1,s1,e1,⟨y0,y1⟩,p1,q1⟩ := Xe hu s h0 (by omega) 3 (by decide) (by decide);obtain ⟨d,hd⟩ : ∃ d : Nat,2 + y = (d : Int) := ⟨(2 + y).toNat,by omega⟩;obtain ⟨r,a2,s2,hE,q,p2,q2⟩ := J0 hu n hn d 0 [] a1 s1 (by simp;omega) (Or.inr (by omega)) List.Pairwise.nil (by omega) (by omega);refine ⟨r,a2,s2,?_,q,by omega,by omega⟩;unfold Fe.f;simp only [e1,Option.bind_some];rw [Xf (by omega) (by omega),hd];exact hE
theorem Jk (l : List S30) (hl : l.length < 4611686018427387904) (hz : Tn l) : Ev (fun k => FC.f k l l) true := by
 unfold FC.f;simp only [if_true];exact Ev.upto (L := fun k j => FC.l0 k l l (l.length : Int) (j : Int)) (r := true) (n := l.length)
  (by
   refine Ev.succ ?_;simp only [FC.l0,Int.lt_irrefl,if_false];exact Ev.now _)
  (by
   intro j hj h;refine Ev.succ ?_;have := Tf hz hj;simp only [FC.l0,show ((j : Int) < (l.length : Int)) = True from eq_true (by omega),if_true,Xa,Xb (show j < 4611686018427387904 by omega),rdq];refine Ev.bind (Zz _ (by omega)) ?_;simp only [if_true];exact h)
  0 (Nat.zero_le _)
def Xu (l : List S41) (ls : List (List Int)) : Bool := Xp l && (decide (ls.length <= 16) && Zh l ls)
theorem Yi (l : List S41) (ls : List (List Int)) (hl0 : l.length <= 1048576) (hz : Yg l) (hs : ls.flatten.length <= 1048576) (hl : ls.length <= 1048576) : Ev (fun k => FN.f k l ls) (Xu l ls) := by
 unfold FN.f Xu;refine Ev.bind (Zu l hl0 hz) ?_;cases Xp l with
 | false =>
  simp only [Bool.false_eq_true,if_false,Bool.false_and];exact Ev.now _
 | true =>
  simp only [if_true,Bool.true_and];by_cases h : ls.length <= 16
  ·have h2 : ((ls.length : Int) <= 16) = True := eq_true (by omega);simp only [h2,h,if_true,decide_true,Bool.true_and];exact Ev.bind (Vl l ls hl0 hs hl) (Ev.now _)
  ·have h2 : ((ls.length : Int) <= 16) = False := eq_false (by omega);simp only [h2,h,if_false,decide_false,Bool.false_and];exact Ev.now _
theorem Yl (l : List S41) (ls : List (List Int)) (n : Int) (hl0 : l.length <= 1048576) (hz : Yg l) (hs : ls.flatten.length <= 1048576) (hl : ls.length <= 1048576) : Ev (fun k => FV.f k l ls n) (Xu l ls && Xx n 0 ls.length) := by
 unfold FV.f Xu;refine Ev.bind (Yf l hl0 hz) ?_;cases Xp l with
 | false =>
  simp only [Bool.false_eq_true,if_false,Bool.false_and];exact Ev.now _
 | true =>
  simp only [if_true,Bool.true_and];refine Ev.bind (Jg l ls hl0 hz hs hl) ?_;cases decide (ls.length <= 16) && Zh l ls with
  | false =>
   simp only [Bool.false_eq_true,if_false,Bool.false_and];exact Ev.now _
  | true =>
   simp only [if_true,Bool.true_and,Xn,Option.bind_some];exact Ev.now _
theorem Yv (ls : List (List Int)) (x : Int) (hs : ls.flatten.length <= 1048576) : Ev (fun k => GB.f k ls x) (decide (x ∈ ls.flatten)) := by
 unfold GB.f GY.f;have h := V0 (p := fun k y => FI.f k y x) (f := fun y => decide (x ∈ y)) (l := ls) (fun y hy => X8 y x (by have := Yk hy;omega));refine Ev.bind h (Ev.eq (Ev.now _) ?_);rw [Bool.eq_iff_iff,List.any_eq_true,decide_eq_true_eq,List.mem_flatten];simp
theorem G1 (l : List Int) (x : Int) (hl : l.length <= 4000000) : ∀ d j,j + d = l.length -> ∃ r : List Int,Ev (fun k => Fs.l0 k l x (j : Int)) r ∧ (∀ y,y ∈ r ↔ y ∈ l ∨ y = x) ∧ r.length <= l.length + 1 := by
 have ins : ∀ j,j <= l.length -> (∀ y,y ∈ l.take j ++ [x] ++ l.drop j ↔ y ∈ l ∨ y = x) ∧ (l.take j ++ [x] ++ l.drop j).length <= l.length + 1 := by
  intro j hj
  constructor
  ·intro y;have e : y ∈ l ↔ y ∈ l.take j ∨ y ∈ l.drop j := by rw [<- List.mem_append,List.take_append_drop]
   rw [e];simp only [List.mem_append,List.mem_singleton]
   constructor
   ·rintro ((h | h) | h)
    ·exact Or.inl (Or.inl h)
    ·exact Or.inr h
    ·exact Or.inl (Or.inr h)
   ·rintro ((h | h) | h)
    ·exact Or.inl (Or.inl h)
    ·exact Or.inr h
    ·exact Or.inl (Or.inr h)
  ·simp only [List.length_append,List.length_take,List.length_drop,List.length_singleton];omega
 intro d
 induction d with
 | zero =>
  intro j hj;obtain ⟨i1,i2⟩ := ins j (by omega);refine ⟨l.take j ++ [x] ++ l.drop j,Ev.succ ?_,i1,i2⟩;have h1 : ((j : Int) < (l.length : Int)) = False := eq_false (by omega);have h2 : ((j : Int) <= (l.length : Int)) = True := eq_true (by omega);have h3 : (0 + (l.take j).length < 17592186044416) = True := eq_true (by rw [List.length_take];omega);have h4 : ((l.take j).length < 17592186044416) = True := eq_true (by rw [List.length_take];omega);have h5 : ((l.take j ++ [x]).length + (l.drop j).length < 17592186044416) = True := eq_true (by simp only [List.length_append,List.length_take,List.length_drop,List.length_singleton];omega);simp only [Fs.l0,h1,if_false,Option.bind_some,Xa,if_true,h2,Int.toNat_natCast,List.length_nil,h3,List.nil_append,h4,h5];exact Ev.now _
 | succ d ih =>
  intro j hj;have hlt : j < l.length := by omega
  have h1 : ((j : Int) < (l.length : Int)) = True := eq_true (by omega);have h2 : ((j : Int) <= (l.length : Int)) = True := eq_true (by omega);have hg : l.getD j 0 = l[j] := by rw [List.getD_eq_getElem?_getD,List.getElem?_eq_getElem hlt];rfl
  by_cases h6 : l[j] < x
  ·obtain ⟨r,hr,hm,hn⟩ := ih (j + 1) (by omega);refine ⟨r,Ev.succ ?_,hm,hn⟩;simp only [Fs.l0,h1,if_true,Xa,Yp,hg,eq_true h6,Xb (show j < 4611686018427387904 by omega)];exact hr
  ·by_cases h7 : l[j] = x
   ·refine ⟨l,Ev.succ ?_,fun y => ⟨fun h => Or.inl h,fun h => h.elim id (fun e => by rw [e,<- h7];exact List.getElem_mem hlt)⟩,by omega⟩;simp only [Fs.l0,h1,if_true,Xa,Yp,hg,eq_false h6,if_false,eq_true h7];exact Ev.now _
   ·obtain ⟨i1,i2⟩ := ins j (by omega);refine ⟨l.take j ++ [x] ++ l.drop j,Ev.succ ?_,i1,i2⟩;have h3 : (0 + (l.take j).length < 17592186044416) = True := eq_true (by rw [List.length_take];omega);have h4 : ((l.take j).length < 17592186044416) = True := eq_true (by rw [List.length_take];omega);have h5 : ((l.take j ++ [x]).length + (l.drop j).length < 17592186044416) = True := eq_true (by simp only [List.length_append,List.length_take,List.length_drop,List.length_singleton];omega);simp only [Fs.l0,h1,if_true,Xa,Yp,hg,eq_false h6,eq_false h7,if_false,Option.bind_some,h2,Int.toNat_natCast,List.length_nil,h3,List.nil_append,h4,h5];exact Ev.now _
theorem Ja (l : List Int) (x : Int) (hl : l.length <= 4000000) : ∃ r : List Int,Ev (fun k => Fs.f k l x) r ∧ (∀ y,y ∈ r ↔ y ∈ l ∨ y = x) ∧ r.length <= l.length + 1 := by
 unfold Fs.f;exact G1 l x hl l.length 0 (by omega)
theorem Us (ls : List (List Int)) (n : Nat) (y : List Int) (P : List Int -> Prop) (hy : y.length <= 1048576) : ∀ d i (acc : List Int),i + d = y.length -> acc.length + d <= 3000000 -> (∀ acc2 : List Int,acc2.length <= acc.length + d -> (∀ z,z ∈ acc2 ↔ z ∈ acc ∨ z ∈ y.drop i) -> ∃ r,Ev (fun k => Fm.l0 k acc2 ls (ls.length : Int) (wrap64 ((n : Int) + 1))) r ∧ P r) -> ∃ r,Ev (fun k => Fm.l1 k acc ls (ls.length : Int) (n : Int) y (y.length : Int) (i : Int)) r ∧ P r := by
 intro d
 induction d with
 | zero =>
  intro i acc hi ha hc;obtain ⟨r,hr,hp⟩ := hc acc (by omega) (fun z => by rw [List.drop_of_length_le (by omega)];simp);refine ⟨r,Ev.succ ?_,hp⟩;have h1 : ((i : Int) < (y.length : Int)) = False := eq_false (by omega);simp only [Fm.l1,h1,if_false];exact hr
 | succ d ih =>
  intro i acc hi ha hc;have hlt : i < y.length := by omega
  have h1 : ((i : Int) < (y.length : Int)) = True := eq_true (by omega);have hg : y.getD i 0 = y[i] := by rw [List.getD_eq_getElem?_getD,List.getElem?_eq_getElem hlt];rfl
  obtain ⟨a,ha1,ha2,ha3⟩ := Ja acc y[i] (by omega);obtain ⟨r,hr,hp⟩ := ih (i + 1) a (by omega) (by omega) (fun acc2 h2 h3 => hc acc2 (by omega) (fun z => by
   rw [h3,ha2,List.drop_eq_getElem_cons hlt,List.mem_cons]
   constructor
   ·rintro ((h | h) | h)
    ·exact Or.inl h
    ·exact Or.inr (Or.inl h)
    ·exact Or.inr (Or.inr h)
   ·rintro (h | h | h)
    ·exact Or.inl (Or.inl h)
    ·exact Or.inl (Or.inr h)
    ·exact Or.inr h))
  refine ⟨r,Ev.succ ?_,hp⟩;simp only [Fm.l1,h1,if_true,Xa,Yp,hg,Xb (show i < 4611686018427387904 by omega)];exact Ev.bind ha1 hr
theorem Uu (ls : List (List Int)) (hs : ls.flatten.length <= 1048576) (hl : ls.length <= 1048576) : ∀ d n (acc : List Int),n + d = ls.length -> acc.length + (ls.drop n).flatten.length <= 2000000 -> ∃ r,Ev (fun k => Fm.l0 k acc ls (ls.length : Int) (n : Int)) r ∧ (∀ z,z ∈ r ↔ z ∈ acc ∨ z ∈ (ls.drop n).flatten) ∧ r.length <= acc.length + (ls.drop n).flatten.length := by
 intro d
 induction d with
 | zero =>
  intro n acc hn ha;refine ⟨acc,Ev.succ ?_,fun z => by rw [List.drop_of_length_le (by omega)];simp,by omega⟩;have h1 : ((n : Int) < (ls.length : Int)) = False := eq_false (by omega);simp only [Fm.l0,h1,if_false];exact Ev.now _
 | succ d ih =>
  intro n acc hn ha;have hlt : n < ls.length := by omega
  have h1 : ((n : Int) < (ls.length : Int)) = True := eq_true (by omega);have hle := Yk (List.getElem_mem hlt);have hd := Vg ls n hlt;have hdl : (ls.drop n).flatten.length = ls[n].length + (ls.drop (n + 1)).flatten.length := by rw [hd,List.length_append]
  obtain ⟨r,hr,hp⟩ := Us ls n ls[n] (fun r => (∀ z,z ∈ r ↔ z ∈ acc ∨ z ∈ (ls.drop n).flatten) ∧ r.length <= acc.length + (ls.drop n).flatten.length) (by omega) ls[n].length 0 acc (by omega) (by omega) (fun acc2 h2 h3 => by
   rw [Xb (show n < 4611686018427387904 by omega)];obtain ⟨r,hr,hq,hk⟩ := ih (n + 1) acc2 (by omega) (by omega);refine ⟨r,hr,fun z => ?_,by omega⟩;rw [hq,h3,hd,List.drop_zero,List.mem_append,or_assoc])
  refine ⟨r,Ev.succ ?_,hp⟩;simp only [Fm.l0,h1,if_true,Xa,Za,Z3 ls n hlt];exact hr
theorem Zw (ls : List (List Int)) (n : Int) (hs : ls.flatten.length <= 1048576) (hl : ls.length <= 1048576) (h0 : 0 <= n) (h1 : n <= ls.length) : ∃ r : List Int,Ev (fun k => Fm.f k ls n) r ∧ (∀ z,z ∈ r ↔ z ∈ (ls.take n.toNat).flatten) ∧ r.length <= 4000000 := by
 have hb := Xv ls n.toNat;obtain ⟨r,hr,hq,hk⟩ := Uu (ls.take n.toNat) (by omega) (by rw [List.length_take];omega) (ls.take n.toNat).length 0 [] (by omega) (by rw [List.drop_zero,List.length_nil];omega);rw [List.drop_zero] at hq hk;refine ⟨r,?_,fun z => by rw [hq];simp,by rw [List.length_nil] at hk;omega⟩;unfold Fm.f;simp only [eq_true h0,eq_true h1,if_true,Option.bind_some];exact hr
def Yy (l : List S41) (ls : List (List Int)) (n i : Int) : Bool × Bool := if Xu l ls && (Xx n 0 ls.length && Xx i 0 (Xr l)) then (decide (i ∈ (ls.take n.toNat).flatten),true) else (false,false)
theorem Y6 (d : Array Int) (hs : ∀ i j,i < j -> j < d.size -> d[i]! <= d[j]!) : ∀ m,m <= d.size -> (Lib.compactUpTo d m).Pairwise (· < ·) ∧ ∀ x,x ∈ Lib.compactUpTo d m ↔ ∃ i,i < m ∧ d[i]! = x := by
 intro m
 induction m with
 | zero => intro _;exact ⟨by simp [Lib.compactUpTo],fun x => by simp [Lib.compactUpTo]⟩
 | succ m ih =>
  intro hm;obtain ⟨h1,h2⟩ := ih (by omega);rw [Lib.compactUpTo_succ];rcases Bool.eq_false_or_eq_true (Lib.keeps d m) with hk | hk
  ·rw [if_pos hk];have hlt : ∀ x,x ∈ Lib.compactUpTo d m -> x < d[m]! := by
    intro x hx;obtain ⟨i,hi,rfl⟩ := (h2 x).1 hx;have hne : d[m]! ≠ d[m - 1]! := by
     have := of_decide_eq_true hk;exact this.resolve_left (by omega)
    have h3 : d[m - 1]! < d[m]! := by have := hs (m - 1) m (by omega) (by omega);omega
    by_cases he : i = m - 1
    ·rw [he];exact h3
    ·have h4 := hs i (m - 1) (by omega) (by omega);omega
   refine ⟨List.pairwise_append.2 ⟨h1,List.pairwise_singleton _ _,fun a ha b hb => ?_⟩,fun x => ?_⟩
   ·rw [List.mem_singleton.1 hb];exact hlt a ha
   ·rw [List.mem_append,h2,List.mem_singleton]
    constructor
    ·rintro (⟨i,hi,e⟩ | e)
     ·exact ⟨i,by omega,e⟩
     ·exact ⟨m,by omega,e.symm⟩
    ·rintro ⟨i,hi,e⟩;by_cases he : i = m
     ·exact .inr (by rw [<- e,he])
     ·exact .inl ⟨i,by omega,e⟩
  ·rw [hk];simp only [Bool.false_eq_true,if_false,List.append_nil];refine ⟨h1,fun x => ?_⟩;rw [h2];have hne := of_decide_eq_false hk;have hm0 : m ≠ 0 := fun e => hne (.inl e)
   have he : d[m]! = d[m - 1]! := Classical.byContradiction fun e => hne (.inr e)
   constructor
   ·rintro ⟨i,hi,e⟩;exact ⟨i,by omega,e⟩
   ·rintro ⟨i,hi,e⟩;by_cases h5 : i = m
    ·exact ⟨m - 1,by omega,by rw [<- e,h5,he]⟩
    ·exact ⟨i,by omega,e⟩
theorem Z2 (u : List Int) : (Lib.compact (u.mergeSort fun x y => decide (x <= y))).Pairwise (· < ·) ∧ ∀ x,x ∈ Lib.compact (u.mergeSort fun x y => decide (x <= y)) ↔ x ∈ u := by
 have hp : (u.mergeSort fun x y => decide (x <= y)).Perm u := List.mergeSort_perm _ _;have hs : (u.mergeSort fun x y => decide (x <= y)).Pairwise (fun x y => decide (x <= y) = true) := List.pairwise_mergeSort (le := fun x y : Int => decide (x <= y)) (by intro a b c;simp;omega) (by intro a b;simp;omega) u;generalize (u.mergeSort fun x y => decide (x <= y)) = z at *;have hg := List.pairwise_iff_getElem.1 hs;have := Y6 z.toArray (by
  intro i j hij hj;have hj' : j < z.length := by simpa using hj
  have := hg i j (by omega) hj' hij
  simpa [getElem!_pos,hj',show i < z.length by omega] using this) z.length (by simp)
 refine ⟨this.1,fun x => ?_⟩;rw [<- hp.mem_iff];refine (this.2 x).trans ?_;rw [List.mem_iff_getElem]
 constructor
 ·rintro ⟨i,hi,e⟩;exact ⟨i,hi,by simpa [getElem!_pos,hi] using e⟩
 ·rintro ⟨i,hi,e⟩;exact ⟨i,hi,by simpa [getElem!_pos,hi] using e⟩
theorem Vx (u : List Int) (hl : u.length < 17592186044416) : ∃ r,Fi.f u = some r ∧ r.Pairwise (· < ·) ∧ ∀ x,x ∈ r ↔ x ∈ u := by
 unfold Fi.f FU.f;simp only [Option.bind_some,List.length_nil,Nat.zero_add,List.nil_append,eq_true hl,if_true];exact ⟨_,rfl,Z2 u⟩
def dQ (l : List S41) (a x : Int) : Int := Fa.dst (Fa.us l x) (Fa.us l a)
def Jx (l : List S41) (a x y : Int) : Bool := decide (dQ l a x < dQ l a y ∨ dQ l a x = dQ l a y ∧ x < y)
theorem Ga {l : List S41} {a : Int} {o : List Int} (hok : Fa.ok l a) (hin : ∀ x,x ∈ o -> 0 <= x ∧ x < (l.length : Int)) (hn : o.Nodup) :
  (Fa.rest l a o).Pairwise (fun x y => dQ l a x < dQ l a y ∨ dQ l a x = dQ l a y ∧ x < y) ∧ (∀ x,x ∈ Fa.rest l a o ↔ x ∈ o ∧ x ≠ a) ∧ (Fa.rest l a o).Nodup := by
 have e : Go.Proofs.YtgnijnlgbelifaaGreatW.GSrtI.srtF (Fa.cf l a) o = o.mergeSort (fun x y => !(Jx l a y x)) := by
  have h := List.map_mergeSort (r := fun x y => !(decide (Fa.cf l a y x < 0))) (s := fun x y => !(Jx l a y x)) (f := id) (l := o) (fun x hx y hy => by
   show (!(decide (Fa.cf l a y x < 0))) = !(Jx l a y x);unfold Jx dQ;rw [decide_eq_decide.2 (Fa.cf_neg hok (hin y hy) (hin x hx))])
  rw [List.map_id,List.map_id] at h;exact h
 have hs := List.pairwise_mergeSort (le := fun x y => !(Jx l a y x)) (by intro x y z;simp only [Jx,Bool.not_eq_true',decide_eq_false_iff_not];omega) (by intro x y;simp only [Jx,Bool.or_eq_true,Bool.not_eq_true',decide_eq_false_iff_not];omega) o;have hp : (o.mergeSort (fun x y => !(Jx l a y x))).Perm o := List.mergeSort_perm _ _;have hn2 : (o.mergeSort (fun x y => !(Jx l a y x))).Nodup := hp.nodup_iff.2 hn;unfold Fa.rest;rw [e];refine ⟨List.Pairwise.filter _ ((hs.and (show List.Pairwise (· ≠ ·) _ from hn2)).imp ?_),fun x => ?_,List.Pairwise.filter _ hn2⟩
 ·rintro x y ⟨h1,h2⟩;simp only [Jx,Bool.not_eq_true',decide_eq_false_iff_not] at h1;omega
 ·rw [List.mem_filter,hp.mem_iff];simp
theorem Jj (u v : Int) (hu : 0 <= u ∧ u <= 99999) (hv : 0 <= v ∧ v <= 99999) : GU.f (wrap64 (u - v)) = some (Fa.dst u v) := by
 have e1 : wrap64 (u - v) = u - v := by unfold wrap64;omega
 have e2 : wrap64 (v - u) = v - u := by unfold wrap64;omega
 have e3 : wrap64 (-(u - v)) = v - u := by unfold wrap64;omega
 unfold GU.f GV.f Fa.dst mx;rw [e1,e2,e3];by_cases h : u - v > v - u
 ·rw [if_pos h,if_neg (by omega)];rfl
 ·rw [if_neg h];by_cases h2 : u - v < v - u
  ·rw [if_pos h2];rfl
  ·rw [if_neg h2];show some (v - u) = some (u - v)
   congr 1
   omega
theorem G4 (l : List S41) (T : List Int) (a n : Int) (x10 : List Int) (r : Int × List Int × Bool) (hok : Fa.ok l a) (hT : T.Pairwise (· < ·)) (hTr : ∀ t,t ∈ T -> 0 <= t ∧ t < (l.length : Int)) (hTl : T.length <= 1048576) (hx : x10.length <= 1048576)
  (hc : ∀ B,B ∈ T -> B ∉ x10 -> (∀ t,t ∈ T -> t ∉ x10 -> dQ l a B < dQ l a t ∨ dQ l a B = dQ l a t ∧ B <= t) -> Ev (fun k => (Fs.f k x10 B).bind fun t => Fk.l0 k l T a n t) r) (hex : ∃ t,t ∈ T ∧ t ∉ x10) :
  ∀ d i (b : Int),i + d = T.length -> ((b = -1 ∧ ∀ t,t ∈ T.take i -> t ∈ x10) ∨ (b ∈ T.take i ∧ b ∉ x10 ∧ ∀ t,t ∈ T.take i -> t ∉ x10 -> dQ l a b < dQ l a t ∨ dQ l a b = dQ l a t ∧ b <= t)) -> Ev (fun k => Fk.l1 k l T a n x10 b T (T.length : Int) (i : Int)) r := by
 intro d
 induction d with
 | zero =>
  intro i b hi hb;refine Ev.succ ?_;rw [List.take_of_length_le (by omega)] at hb;simp only [Fk.l1,show ((i : Int) < (T.length : Int)) = False from eq_false (by omega),if_false];rcases hb with ⟨_,h⟩ | ⟨h1,h2,h3⟩
  ·obtain ⟨t,ht1,ht2⟩ := hex;exact absurd (h t ht1) ht2
  ·exact hc b h1 h2 h3
 | succ d ih =>
  intro i b hi hb;refine Ev.succ ?_;have hlt : i < T.length := by omega
  have h1 : ((i : Int) < (T.length : Int)) = True := eq_true (by omega);have hg : T.getD i 0 = T[i] := by rw [List.getD_eq_getElem?_getD,List.getElem?_eq_getElem hlt];rfl
  have e4 : wrap64 ((i : Int) + 1) = ((i + 1 : Nat) : Int) := Xb (by omega);have ht : T.take (i + 1) = T.take i ++ [T[i]] := List.take_succ_eq_append_getElem hlt;have hTi := hTr _ (List.getElem_mem hlt);have hlater : ∀ t,t ∈ T.take i -> t < T[i] := by
   intro t ht';obtain ⟨j,hj,rfl⟩ := List.mem_iff_getElem.1 ht';rw [List.length_take] at hj;rw [List.getElem_take];exact List.pairwise_iff_getElem.1 hT j i (by omega) hlt (by omega)
  simp only [Fk.l1,h1,if_true,Xa,Yp,hg,e4];refine Ev.bind (Xk x10 T[i] (by omega)) ?_;by_cases h2 : T[i] ∈ x10
  ·simp only [decide_eq_true h2,if_true];refine ih (i + 1) b (by omega) ?_;rw [ht];rcases hb with ⟨h3,h4⟩ | ⟨h3,h4,h5⟩
   ·refine Or.inl ⟨h3,fun t ht' => ?_⟩;rcases List.mem_append.1 ht' with h | h
    ·exact h4 t h
    ·rw [List.mem_singleton] at h;subst h;exact h2
   ·refine Or.inr ⟨List.mem_append_left _ h3,h4,fun t ht' hn => ?_⟩;rcases List.mem_append.1 ht' with h | h
    ·exact h5 t h hn
    ·rw [List.mem_singleton] at h;subst h;exact absurd h2 hn
  ·simp only [decide_eq_false h2,Bool.false_eq_true,if_false];by_cases h6 : b < 0
   ·simp only [eq_true h6,if_true];refine ih (i + 1) T[i] (by omega) (Or.inr ⟨by rw [ht];exact List.mem_append_right _ (List.mem_singleton_self _),h2,fun t ht' hn => ?_⟩);rcases hb with ⟨_,h4⟩ | ⟨h3,_,_⟩
    ·rw [ht] at ht';rcases List.mem_append.1 ht' with h | h
     ·exact absurd (h4 t h) hn
     ·rw [List.mem_singleton] at h;subst h;exact Or.inr ⟨rfl,Int.le_refl _⟩
    ·have := (hTr b (List.mem_of_mem_take h3)).1;omega
   ·rcases hb with ⟨h3,_⟩ | ⟨h3,h4,h5⟩
    ·omega
    ·have hbr := hTr b (List.mem_of_mem_take h3);have hub := hok.2.1 b hbr.1 hbr.2;have hut := hok.2.1 T[i] hTi.1 hTi.2;have hua := hok.2.1 a hok.2.2.1 hok.2.2.2;have a1 : GU.f (wrap64 ((rd_T41 l T[i]).f2 - (rd_T41 l a).f2)) = some (dQ l a T[i]) := Jj _ _ hut hua;have a2 : GU.f (wrap64 ((rd_T41 l b).f2 - (rd_T41 l a).f2)) = some (dQ l a b) := Jj _ _ hub hua;simp only [eq_false h6,if_false,eq_true hTi.1,eq_true hTi.2,eq_true hok.2.2.1,eq_true hok.2.2.2,eq_true hbr.1,eq_true hbr.2,if_true,a1,a2,Option.bind_some];by_cases h7 : dQ l a T[i] < dQ l a b
     ·simp only [eq_true h7,if_true];refine ih (i + 1) T[i] (by omega) (Or.inr ⟨by rw [ht];exact List.mem_append_right _ (List.mem_singleton_self _),h2,fun t ht' hn => ?_⟩);rw [ht] at ht';rcases List.mem_append.1 ht' with h | h
      ·have := h5 t h hn;omega
      ·rw [List.mem_singleton] at h;subst h;exact Or.inr ⟨rfl,Int.le_refl _⟩
     ·simp only [eq_false h7,if_false];refine ih (i + 1) b (by omega) (Or.inr ⟨by rw [ht];exact List.mem_append_left _ h3,h4,fun t ht' hn => ?_⟩);rw [ht] at ht';rcases List.mem_append.1 ht' with h | h
      ·exact h5 t h hn
      ·rw [List.mem_singleton] at h;subst h;have := hlater b h3;omega
theorem G9 (l : List S41) (T : List Int) (a : Int) (hok : Fa.ok l a) (hT : T.Pairwise (· < ·)) (hTr : ∀ t,t ∈ T -> 0 <= t ∧ t < (l.length : Int)) (hTl : T.length <= 1048576) (n : Nat) (hn : n <= 1048576) :
  ∀ f (P S x10 : List Int),(P ++ S).Pairwise (fun x y => dQ l a x < dQ l a y ∨ dQ l a x = dQ l a y ∧ x < y) -> (∀ x,x ∈ P ++ S ↔ x ∈ T ∧ x ≠ a) -> (P ++ S).Nodup -> x10.Pairwise (· < ·) -> (∀ x,x ∈ x10 ↔ x = a ∨ x ∈ P) -> x10.length = P.length + 1 -> P.length + 1 + f = n -> f <= S.length ->
   ∃ q,Ev (fun k => Fk.l0 k l T a (n : Int) x10) (a,q,true) ∧ q.Pairwise (· < ·) ∧ (∀ x,x ∈ q ↔ x = a ∨ x ∈ P ++ S.take f) ∧ q.length = n := by
 intro f
 induction f with
 | zero =>
  intro P S x10 h1 h2 h3 h4 h5 h6 h7 h8;refine ⟨x10,Ev.succ ?_,h4,fun x => by rw [h5,List.take_zero,List.append_nil],by omega⟩;simp only [Fk.l0,show ((x10.length : Int) < (n : Int)) = False from eq_false (by omega),if_false];exact Ev.now _
 | succ f ih =>
  intro P S x10 h1 h2 h3 h4 h5 h6 h7 h8;cases S with
  | nil => simp at h8
  | cons s S =>
   have hsT := (h2 s).1 (by simp);have hsP : s ∉ P := fun h => (List.nodup_append.1 h3).2.2 s h s (List.mem_cons_self ..) rfl
   have hsx : s ∉ x10 := fun h => by rcases (h5 s).1 h with h | h;exact hsT.2 h;exact hsP h
   obtain ⟨y,hy1,hy2,hy3,hy4⟩ := Z5 x10 s (by omega) h4;have hyl : y.length = x10.length + 1 := by
    have := Ze (a := y) (b := s :: x10) (List.Pairwise.imp (S := fun a b : Int => a ≠ b) (fun {a b} (hlt : a < b) e => by omega) hy2) (List.nodup_cons.2 ⟨hsx,List.Pairwise.imp (S := fun a b : Int => a ≠ b) (fun {a b} (hlt : a < b) e => by omega) h4⟩) (fun x => by rw [hy3,List.mem_cons];exact or_comm);rw [this,List.length_cons]
   have ea : (P ++ [s]) ++ S = P ++ s :: S := by simp
   obtain ⟨q,q1,q2,q3,q4⟩ := ih (P ++ [s]) S y (by rw [ea];exact h1) (fun x => by rw [ea];exact h2 x) (by rw [ea];exact h3) hy2 (fun x => by rw [hy3,h5,List.mem_append,List.mem_singleton,or_assoc]) (by rw [List.length_append,List.length_singleton];omega) (by rw [List.length_append,List.length_singleton];omega) (by rw [List.length_cons] at h8;omega);refine ⟨q,Ev.succ ?_,q2,fun x => by rw [q3,List.take_succ_cons];simp,q4⟩;simp only [Fk.l0,show ((x10.length : Int) < (n : Int)) = True from eq_true (by omega),if_true];refine G4 l T a (n : Int) x10 _ hok hT hTr hTl (by omega) (fun B hB hBx hmin => ?_) ⟨s,hsT.1,hsx⟩ T.length 0 (-1) (by omega) (Or.inl ⟨rfl,by simp⟩);have hBs : B = s := by
    have hBa : B ≠ a := fun e => hBx ((h5 B).2 (Or.inl e))
    have hBP : B ∉ P := fun h => hBx ((h5 B).2 (Or.inr h))
    have hm := (h2 B).2 ⟨hB,hBa⟩;rcases List.mem_append.1 hm with h | h
    ·exact absurd h hBP
    ·rcases List.mem_cons.1 h with h | h
     ·exact h
     ·have h9 := (List.pairwise_cons.1 (List.pairwise_append.1 h1).2.1).1 B h;have h10 := hmin s hsT.1 hsx;omega
   subst hBs;exact Ev.bind hy1 q1
theorem V5 (ls : List (List Int)) (n : Nat) (y : List Int) (P : List Int -> Prop) (hy : y.length <= 1048576) : ∀ d i (acc : List Int),i + d = y.length -> acc.Pairwise (· < ·) -> acc.length + d <= 3000000 -> (∀ acc2 : List Int,acc2.Pairwise (· < ·) -> acc2.length <= acc.length + d -> (∀ z,z ∈ acc2 ↔ z ∈ acc ∨ z ∈ y.drop i) -> ∃ r,Ev (fun k => Fm.l0 k acc2 ls (ls.length : Int) (wrap64 ((n : Int) + 1))) r ∧ P r) -> ∃ r,Ev (fun k => Fm.l1 k acc ls (ls.length : Int) (n : Int) y (y.length : Int) (i : Int)) r ∧ P r := by
 intro d
 induction d with
 | zero =>
  intro i acc hi hu ha hc;obtain ⟨r,hr,hp⟩ := hc acc hu (by omega) (fun z => by rw [List.drop_of_length_le (by omega)];simp);refine ⟨r,Ev.succ ?_,hp⟩;have h1 : ((i : Int) < (y.length : Int)) = False := eq_false (by omega);simp only [Fm.l1,h1,if_false];exact hr
 | succ d ih =>
  intro i acc hi hu ha hc;have hlt : i < y.length := by omega
  have h1 : ((i : Int) < (y.length : Int)) = True := eq_true (by omega);have hg : y.getD i 0 = y[i] := by rw [List.getD_eq_getElem?_getD,List.getElem?_eq_getElem hlt];rfl
  obtain ⟨a,ha1,hau,ha2,ha3⟩ := Z5 acc y[i] (by omega) hu;obtain ⟨r,hr,hp⟩ := ih (i + 1) a (by omega) hau (by omega) (fun acc2 h0 h2 h3 => hc acc2 h0 (by omega) (fun z => by
   rw [h3,ha2,List.drop_eq_getElem_cons hlt,List.mem_cons,or_assoc]))
  refine ⟨r,Ev.succ ?_,hp⟩;simp only [Fm.l1,h1,if_true,Xa,Yp,hg,Xb (show i < 4611686018427387904 by omega)];exact Ev.bind ha1 hr
theorem V2 (ls : List (List Int)) (hs : ls.flatten.length <= 1048576) (hl : ls.length <= 1048576) : ∀ d n (acc : List Int),n + d = ls.length -> acc.Pairwise (· < ·) -> acc.length + (ls.drop n).flatten.length <= 2000000 -> ∃ r,Ev (fun k => Fm.l0 k acc ls (ls.length : Int) (n : Int)) r ∧ r.Pairwise (· < ·) ∧ ∀ z,z ∈ r ↔ z ∈ acc ∨ z ∈ (ls.drop n).flatten := by
 intro d
 induction d with
 | zero =>
  intro n acc hn hu ha;refine ⟨acc,Ev.succ ?_,hu,fun z => by rw [List.drop_of_length_le (by omega)];simp⟩;have h1 : ((n : Int) < (ls.length : Int)) = False := eq_false (by omega);simp only [Fm.l0,h1,if_false];exact Ev.now _
 | succ d ih =>
  intro n acc hn hu ha;have hlt : n < ls.length := by omega
  have h1 : ((n : Int) < (ls.length : Int)) = True := eq_true (by omega);have hle := Yk (List.getElem_mem hlt);have hd := Vg ls n hlt;have hdl : (ls.drop n).flatten.length = ls[n].length + (ls.drop (n + 1)).flatten.length := by rw [hd,List.length_append]
  obtain ⟨r,hr,hp⟩ := V5 ls n ls[n] (fun r => r.Pairwise (· < ·) ∧ ∀ z,z ∈ r ↔ z ∈ acc ∨ z ∈ (ls.drop n).flatten) (by omega) ls[n].length 0 acc (by omega) hu (by omega) (fun acc2 h0 h2 h3 => by
   rw [Xb (show n < 4611686018427387904 by omega)];obtain ⟨r,hr,hk,hq⟩ := ih (n + 1) acc2 (by omega) h0 (by omega);refine ⟨r,hr,hk,fun z => ?_⟩;rw [hq,h3,hd,List.drop_zero,List.mem_append,or_assoc])
  refine ⟨r,Ev.succ ?_,hp⟩;simp only [Fm.l0,h1,if_true,Xa,Za,Z3 ls n hlt];exact hr
theorem Zg (ls : List (List Int)) (n : Int) (hs : ls.flatten.length <= 1048576) (hl : ls.length <= 1048576) (h0 : 0 <= n) (h1 : n <= ls.length) : ∃ r : List Int,Ev (fun k => Fm.f k ls n) r ∧ r.Pairwise (· < ·) ∧ ∀ z,z ∈ r ↔ z ∈ (ls.take n.toNat).flatten := by
 have hb := Xv ls n.toNat;obtain ⟨r,hr,hk,hq⟩ := V2 (ls.take n.toNat) (by omega) (by rw [List.length_take];omega) (ls.take n.toNat).length 0 [] (by omega) List.Pairwise.nil (by rw [List.drop_zero,List.length_nil];omega);rw [List.drop_zero] at hq;refine ⟨r,?_,hk,fun z => by rw [hq];simp⟩;unfold Fm.f;simp only [eq_true h0,eq_true h1,if_true,Option.bind_some];exact hr
theorem Z9 {u v : Int} (hu : 0 <= u ∧ u <= 99999) (hv : 0 <= v ∧ v <= 99999) : 0 <= Fa.dst u v ∧ Fa.dst v v = 0 := by
 have e1 : wrap64 (u - v) = u - v := by unfold wrap64;omega
 have e2 : wrap64 (v - u) = v - u := by unfold wrap64;omega
 have e3 : wrap64 (v - v) = 0 := by unfold wrap64;omega
 unfold Fa.dst mx;rw [e1,e2,e3];refine ⟨?_,by split <;> rfl⟩
 split <;> omega
structure MadeQ (l : List S41) (F : List Int) (a n : Int) (q : Int × List Int × Bool) : Prop where
 asked : q.1 = a
 nodup : q.2.1.Nodup
 len : (q.2.1.length : Int) = n
 own : a ∈ q.2.1
 sub : ∀ x,x ∈ q.2.1 -> x ∈ F
 near : ∀ x,x ∈ F -> x ∉ q.2.1 -> ∀ y,y ∈ q.2.1 -> dQ l a y <= dQ l a x
theorem upN {l : List Int} (h : l.Pairwise (· < ·)) : l.Nodup := List.Pairwise.imp (S := fun a b : Int => a ≠ b) (fun {a b} (hlt : a < b) e => by omega) h
theorem Ur (l : List S41) (ls : List (List Int)) (a n : Int) (hw : Xp l = true) (hr : ∀ x,x ∈ ls.flatten -> 0 <= x ∧ x < l.length) (hnd : ls.flatten.Nodup) (hll : ls.length <= 1048576) (ha : 0 <= a ∧ a < l.length) (hn : 2 <= n ∧ n <= 4) (T : List Int) (hT : T.Pairwise (· < ·)) (hTm : ∀ z,z ∈ T ↔ z ∈ ls.flatten) :
  ∃ r : Int × List Int × Bool,Ev (fun k => Fa.f k l ls a n) r ∧ Ev (fun k => Fk.f k l T a n) r ∧ r.2.1.length <= 4 ∧ (r.2.2 = true -> MadeQ l ls.flatten a n r) ∧ (n <= ls.flatten.length -> a ∈ ls.flatten -> r.2.2 = true) := by
 have h16 := Xo hw;have hol := Xw hnd hr;have hTr : ∀ x,x ∈ T -> 0 <= x ∧ x < (l.length : Int) := fun x hx => hr x ((hTm x).1 hx)
 have hTo : T.length = ls.flatten.length := Ze (upN hT) hnd hTm;have hkB : Fa.okB l a ls.flatten = true := by
  unfold Fa.okB;simp only [Bool.and_eq_true,List.all_eq_true,decide_eq_true_eq];refine ⟨by omega,fun j hj => ?_,ha,fun x hx => hr x hx,by omega⟩;have := h16.2 j (List.mem_range.1 hj);unfold Fa.us;rw [Jr];exact this
 obtain ⟨hok,hin,_⟩ := Fa.ok_of hkB;obtain ⟨r1,r2,r3⟩ := Ga hok hin hnd;have ew : wrap64 (n - 1) = n - 1 := Xf (by omega) (by omega);have bad : Ev (fun k => Fk.j0 k l T a n true) (0,([] : List Int),false) := by
  refine Ev.succ ?_;simp only [Fk.j0,if_true];exact Ev.now _
 have hI := Zp ls (by omega) hll;have hB := Yv ls a (by omega);have hS := Xk T a (by omega);by_cases h1 : a ∈ ls.flatten
 ·rw [decide_eq_true h1] at hB;rw [decide_eq_true ((hTm a).2 h1)] at hS;have hRl : (Fa.rest l a ls.flatten).length + 1 = ls.flatten.length := by
   have := Ze (a := a :: Fa.rest l a ls.flatten) (b := ls.flatten) (List.nodup_cons.2 ⟨fun h => ((r2 a).1 h).2 rfl,r3⟩) hnd (fun x => by
    rw [List.mem_cons,r2]
    constructor
    ·rintro (rfl | h)
     ·exact h1
     ·exact h.1
    ·intro h;by_cases e : x = a
     ·exact Or.inl e
     ·exact Or.inr ⟨h,e⟩)
   rwa [List.length_cons] at this
  by_cases h2 : ((Fa.rest l a ls.flatten).length : Int) < n - 1
  ·refine ⟨(0,[],false),?_,?_,by simp,(fun h => nomatch h),fun hn1 _ => by omega⟩
   ·unfold Fa.f;refine Ev.bind hI ?_;simp only [hkB,if_true];refine Ev.bind hB ?_;simp only [if_true,ew,eq_true h2];exact Ev.now _
   ·unfold Fk.f;refine Ev.bind hS ?_;simp only [if_true,show decide ((T.length : Int) < n) = true from decide_eq_true (by omega)];exact bad
  ·obtain ⟨q,q1,q2,q3,q4⟩ := G9 l T a hok hT hTr (by omega) n.toNat (by omega) (n - 1).toNat [] (Fa.rest l a ls.flatten) [a] (by simpa using r1) (fun x => by rw [List.nil_append,r2,hTm]) (by simpa using r3) (List.pairwise_singleton _ _) (fun x => by simp) (by simp) (by simp;omega) (by omega);rw [show ((n.toNat : Nat) : Int) = n by omega] at q1;have htl : ((Fa.rest l a ls.flatten).take (n - 1).toNat).length <= 1048576 := by rw [List.length_take];omega
   obtain ⟨d,d1,d2,d3⟩ := Vx ((Fa.rest l a ls.flatten).take (n - 1).toNat ++ [a]) (by rw [List.length_append,List.length_singleton];omega);have e : d = q := Ve d2 q2 (fun x => by
    rw [d3,q3,List.mem_append,List.mem_singleton,List.nil_append];exact or_comm)
   subst e;have hcl : FU.f ((Fa.rest l a ls.flatten).take (n - 1).toNat) = some ((Fa.rest l a ls.flatten).take (n - 1).toNat) := by
    unfold FU.f;simp only [Option.bind_some,List.length_nil,List.nil_append,show (0 + ((Fa.rest l a ls.flatten).take (n - 1).toNat).length < 17592186044416) = True from eq_true (by omega),if_true]
   refine ⟨(a,d,true),?_,?_,by show d.length <= 4;omega,fun _ => ⟨rfl,upN q2,by show (d.length : Int) = n;omega,(q3 a).2 (Or.inl rfl),fun x hx => ?_,fun x hx hn y hy => ?_⟩,fun _ _ => rfl⟩
   ·unfold Fa.f;refine Ev.bind hI ?_;simp only [hkB,if_true];refine Ev.bind hB ?_;simp only [if_true,ew,eq_false h2,if_false,show (0 <= n - 1) = True from eq_true (by omega),hcl,Option.bind_some,show (((Fa.rest l a ls.flatten).take (n - 1).toNat).length < 17592186044416) = True from eq_true (by omega),d1];exact Ev.now _
   ·unfold Fk.f;refine Ev.bind hS ?_;simp only [if_true,show decide ((T.length : Int) < n) = false from decide_eq_false (by omega)];refine Ev.succ ?_;simp only [Fk.j0,Bool.false_eq_true,if_false];exact q1
   ·rcases (q3 x).1 hx with h | h
    ·rw [h];exact h1
    ·rw [List.nil_append] at h;exact ((r2 x).1 (List.mem_of_mem_take h)).1
   ·have hxa : x ≠ a := fun e => hn ((q3 x).2 (Or.inl e))
    have hxr : x ∈ Fa.rest l a ls.flatten := (r2 x).2 ⟨hx,hxa⟩;rcases (q3 y).1 hy with h | h
    ·rw [h];have hux := hok.2.1 x (hr x hx).1 (hr x hx).2;have hua := hok.2.1 a ha.1 ha.2;obtain ⟨d0,d1⟩ := Z9 hux hua;show dQ l a a <= dQ l a x;unfold dQ;rw [d1];exact d0
    ·rw [List.nil_append] at h;have hxt : x ∉ (Fa.rest l a ls.flatten).take (n - 1).toNat := fun h' => hn ((q3 x).2 (Or.inr (by rw [List.nil_append];exact h')))
     rw [<- List.take_append_drop (n - 1).toNat (Fa.rest l a ls.flatten)] at hxr r1;rcases List.mem_append.1 hxr with h' | h'
     ·exact absurd h' hxt
     ·have := (List.pairwise_append.1 r1).2.2 y h x h';omega
 ·rw [decide_eq_false h1] at hB;rw [decide_eq_false (fun h => h1 ((hTm a).1 h))] at hS;refine ⟨(0,[],false),?_,?_,by simp,(fun h => nomatch h),fun _ ha1 => absurd ha1 h1⟩
  ·unfold Fa.f;refine Ev.bind hI ?_;simp only [hkB,if_true];refine Ev.bind hB ?_;simp only [Bool.false_eq_true,if_false];exact Ev.now _
  ·unfold Fk.f;refine Ev.bind hS ?_;simp only [Bool.false_eq_true,if_false];exact bad
theorem Xs {l : List S41} {ls : List (List Int)} (hl0 : l.length <= 1048576) (h : Xu l ls = true) : Xp l = true ∧ ls.length <= 16 ∧ ls.flatten.length = l.length ∧ (∀ x,x ∈ ls.flatten -> 0 <= x ∧ x < l.length) := by
 unfold Xu Zh at h;rw [Bool.and_eq_true,Bool.and_eq_true,Bool.and_eq_true,Bool.and_eq_true] at h;exact ⟨h.1,of_decide_eq_true h.2.1,of_decide_eq_true h.2.2.1,Va hl0 h.2.2.2.1⟩
theorem Gp (l : List S41) (ls : List (List Int)) (n a c : Int) (hl0 : l.length <= 1048576) (hz : Yg l) (hs : ls.flatten.length <= 1048576) (hl : ls.length <= 1048576) : ∃ r : Int × List Int × Bool,Ev (fun k => FZ.f k l ls n a c) r ∧ Ev (fun k => Fy.f k l ls n a c) r ∧ r.2.1.length <= 4 ∧ (r.2.2 = true -> Xu l ls = true ∧ (0 <= n ∧ n <= (ls.length : Int)) ∧ (0 <= a ∧ a < (l.length : Int)) ∧ (2 <= c ∧ c <= 4) ∧ MadeQ l (ls.take n.toNat).flatten a c r) := by
 have bS : Ev (fun k => Fy.j0 k l ls n a c true) (0,([] : List Int),false) := by
  refine Ev.succ ?_;simp only [Fy.j0,if_true];exact Ev.now _
 have hG := Yi l ls hl0 hz hs hl;have hA := Yl l ls n hl0 hz hs hl;have htop : wrap64 ((l.length : Int) - 1) = Xr l := rfl;cases hg : Xu l ls with
 | false =>
  rw [hg] at hG hA;rw [Bool.false_and] at hA;refine ⟨(0,[],false),?_,?_,by simp⟩
  ·unfold FZ.f;refine Ev.bind hG ?_;simp only [Bool.false_eq_true,if_false];exact Ev.now _
  ·unfold Fy.f;refine Ev.bind hA ?_;simp only [Bool.false_eq_true,if_false];exact bS
 | true =>
  rw [hg] at hG hA;rw [Bool.true_and] at hA;cases hn : Xx n 0 ls.length with
  | false =>
   rw [hn] at hA;refine ⟨(0,[],false),?_,?_,by simp⟩
   ·unfold FZ.f;refine Ev.bind hG ?_;simp only [if_true,Xl,Option.bind_some,hn,Bool.false_eq_true,if_false];exact Ev.now _
   ·unfold Fy.f;refine Ev.bind hA ?_;simp only [Bool.false_eq_true,if_false];exact bS
  | true =>
   rw [hn] at hA;cases ha : Xx a 0 (Xr l) with
   | false =>
    refine ⟨(0,[],false),?_,?_,by simp⟩
    ·unfold FZ.f;refine Ev.bind hG ?_;simp only [if_true,Xl,Option.bind_some,hn,htop,ha,Bool.false_eq_true,if_false];exact Ev.now _
    ·unfold Fy.f;refine Ev.bind hA ?_;simp only [if_true,Xn,Option.bind_some,htop,ha,Bool.false_eq_true,if_false];exact bS
   | true =>
    cases hc : Xx c 2 4 with
    | false =>
     refine ⟨(0,[],false),?_,?_,by simp⟩
     ·unfold FZ.f;refine Ev.bind hG ?_;simp only [if_true,Xl,Option.bind_some,hn,htop,ha,hc,Bool.false_eq_true,if_false];exact Ev.now _
     ·unfold Fy.f;refine Ev.bind hA ?_;simp only [if_true,Xn,Option.bind_some,htop,ha,hc,Bool.not_false];exact bS
    | true =>
     have hn' : 0 <= n ∧ n <= (ls.length : Int) := of_decide_eq_true hn;have ha' : 0 <= a ∧ a <= Xr l := of_decide_eq_true ha;have hc' : 2 <= c ∧ c <= 4 := of_decide_eq_true hc;rw [Yw l hl0] at ha';have hgg := hg;unfold Xu Zh at hgg;rw [Bool.and_eq_true,Bool.and_eq_true,Bool.and_eq_true,Bool.and_eq_true] at hgg;have hw := hgg.1;obtain ⟨f1,f2,_⟩ := (X6 l ls.flatten []).1 hgg.2.2.2.1;have hfl : ls.flatten = (ls.take n.toNat).flatten ++ (ls.drop n.toNat).flatten := by rw [<- List.flatten_append,List.take_append_drop]
     have hr0 : ∀ x,x ∈ ls.flatten -> 0 <= x ∧ x < (l.length : Int) := fun x hx => by
      have := f1 x hx;rw [Yw l hl0] at this;omega
     have hr : ∀ x,x ∈ (ls.take n.toNat).flatten -> 0 <= x ∧ x < l.length := fun x hx => hr0 x (by rw [hfl];exact List.mem_append_left _ hx)
     have hnd : (ls.take n.toNat).flatten.Nodup := by rw [hfl] at f2;exact (List.nodup_append.1 f2).1
     obtain ⟨T,t1,t2,t3⟩ := Zg ls n hs hl (by omega) (by omega);obtain ⟨m,m1,m2,m3,m4,_⟩ := Ur l (ls.take n.toNat) a c hw hr hnd (by rw [List.length_take];omega) (by omega) hc' T t2 t3;refine ⟨m,?_,?_,m3,fun h => ⟨rfl,hn',by omega,hc',m4 h⟩⟩
     ·unfold FZ.f;refine Ev.bind hG ?_;simp only [if_true,Xl,Option.bind_some,hn,htop,ha,hc,eq_true hn'.1,eq_true hn'.2];refine Ev.bind m1 ?_;exact Ev.now _
     ·unfold Fy.f;refine Ev.bind hA ?_;simp only [if_true,Xn,Option.bind_some,htop,ha,hc,Bool.not_true];refine Ev.succ ?_;simp only [Fy.j0,Bool.false_eq_true,if_false];refine Ev.bind t1 ?_;refine Ev.bind m2 ?_;exact Ev.now _
def Jo (F : List Int) (q : S30) : Prop := q.f1.Nodup ∧ q.f1.length = 2 ∧ q.f0 ∈ q.f1 ∧ ∀ x,x ∈ q.f1 -> x ∈ F
theorem J2 (l : List S41) (ls : List (List Int)) (n : Int) (y : List Int) (hw : Xp l = true) (hl : ls.length <= 1048576) (hn0 : 0 <= n) (hn1 : n <= ls.length) (hr : ∀ x,x ∈ (ls.take n.toNat).flatten -> 0 <= x ∧ x < l.length) (hnd : (ls.take n.toNat).flatten.Nodup) (T : List Int) (hTe : Ev (fun k => Fm.f k ls n) T) (hT : T.Pairwise (· < ·)) (hTm : ∀ z,z ∈ T ↔ z ∈ (ls.take n.toNat).flatten) (hy : ∀ x,x ∈ y -> 0 <= x ∧ x < l.length) (hyl : y.length <= 1000) :
  ∀ d j (out : List S30),j + d = y.length -> out.length = j -> Tn out -> (∀ q,q ∈ out -> Jo (ls.take n.toNat).flatten q) ->
   ∃ r : List S30 × Bool,Ev (fun k => FD.l0 k l ls n out y (y.length : Int) (j : Int)) r ∧ Ev (fun k => FF.l0 k l ls n out y (y.length : Int) (j : Int)) r ∧ r.1.length <= 1000 ∧ Tn r.1 ∧ (r.2 = true -> r.1.length = y.length ∧ ∀ q,q ∈ r.1 -> Jo (ls.take n.toNat).flatten q) ∧ (r.2 = false -> r.1 = []) := by
 intro d
 induction d with
 | zero =>
  intro j out hj ho hq hf;refine ⟨(out,true),Ev.succ ?_,Ev.succ ?_,by show out.length <= 1000;omega,hq,fun _ => ⟨by show out.length = _;omega,hf⟩,fun h => nomatch h⟩
  ·simp only [FD.l0,show ((j : Int) < (y.length : Int)) = False from eq_false (by omega),if_false];exact Ev.now _
  ·simp only [FF.l0,show ((j : Int) < (y.length : Int)) = False from eq_false (by omega),if_false];exact Ev.now _
 | succ d ih =>
  intro j out hj ho hq hf;have hlt : j < y.length := by omega
  have h1 : ((j : Int) < (y.length : Int)) = True := eq_true (by omega);have hg : y.getD j 0 = y[j] := by rw [List.getD_eq_getElem?_getD,List.getElem?_eq_getElem hlt];rfl
  have e4 : wrap64 ((j : Int) + 1) = ((j + 1 : Nat) : Int) := Xb (by omega);obtain ⟨m,m1,m2,m3,m4,_⟩ := Ur l (ls.take n.toNat) y[j] 2 hw hr hnd (by rw [List.length_take];omega) (hy _ (List.getElem_mem hlt)) (by omega) T hT hTm;by_cases h3 : m.2.2 = true
  ·obtain ⟨r,r1,r2,r3,r4,r5⟩ := ih (j + 1) (out ++ [(⟨m.1,m.2.1⟩ : S30)]) (by omega) (by rw [List.length_append,List.length_singleton];omega) (fun q hq' => by
    rcases List.mem_append.1 hq' with h | h
    ·exact hq q h
    ·rw [List.mem_singleton] at h;subst h;show m.2.1.length <= 1048576;omega) (fun q hq' => by
    rcases List.mem_append.1 hq' with h | h
    ·exact hf q h
    ·rw [List.mem_singleton] at h;subst h;have hM := m4 h3;refine ⟨hM.nodup,?_,?_,hM.sub⟩
     ·have := hM.len;show m.2.1.length = 2;omega
     ·show m.1 ∈ m.2.1;rw [hM.asked];exact hM.own)
   refine ⟨r,Ev.succ ?_,Ev.succ ?_,r3,r4,r5⟩
   ·simp only [FD.l0,h1,if_true,Xa,Yp,hg,eq_true hn0,eq_true hn1,e4];refine Ev.bind m1 ?_;simp only [h3,if_true,show (out.length < 4398046511104) = True from eq_true (by omega)];exact r1
   ·simp only [FF.l0,h1,if_true,Xa,Yp,hg,e4];refine Ev.bind hTe ?_;refine Ev.bind m2 ?_;simp only [h3,if_true,show (out.length < 4398046511104) = True from eq_true (by omega)];exact r2
  ·refine ⟨([],false),Ev.succ ?_,Ev.succ ?_,by simp,fun q hq' => by simp at hq',(fun h => nomatch h),fun _ => rfl⟩
   ·simp only [FD.l0,h1,if_true,Xa,Yp,hg,eq_true hn0,eq_true hn1,e4];refine Ev.bind m1 ?_;simp only [h3,Bool.false_eq_true,if_false];exact Ev.now _
   ·simp only [FF.l0,h1,if_true,Xa,Yp,hg,e4];refine Ev.bind hTe ?_;refine Ev.bind m2 ?_;simp only [h3,Bool.false_eq_true,if_false];exact Ev.now _
theorem J9 (l : List S41) (ls : List (List Int)) (n : Int) (hl0 : l.length <= 1048576) (hz : Yg l) (hs : ls.flatten.length <= 1048576) (hl : ls.length <= 1048576) : ∃ r : List S30 × Bool,Ev (fun k => FD.f k l ls n) r ∧ Ev (fun k => FF.f k l ls n) r ∧ r.1.length <= 1000 ∧ Tn r.1 ∧ (r.2 = true -> Xu l ls = true ∧ (1 <= n ∧ n <= (ls.length : Int)) ∧ r.1.length = (ls.getD (n.toNat - 1) []).length ∧ ∀ q,q ∈ r.1 -> Jo (ls.take n.toNat).flatten q) ∧ (r.2 = false -> r.1 = []) := by
 have bI : Ev (fun k => FD.j0 k l ls n true) ([],false) := by
  refine Ev.succ ?_;simp only [FD.j0,if_true];exact Ev.now _
 have bS : Ev (fun k => FF.j0 k l ls n true) ([],false) := by
  refine Ev.succ ?_;simp only [FF.j0,if_true];exact Ev.now _
 have hG := Yi l ls hl0 hz hs hl;have hA := Yl l ls n hl0 hz hs hl;cases hg : Xu l ls with
 | false =>
  rw [hg] at hG hA;rw [Bool.false_and] at hA;refine ⟨([],false),?_,?_,by simp,fun q hq' => by simp at hq',(fun h => nomatch h),fun _ => rfl⟩
  ·unfold FD.f;refine Ev.bind hG ?_;simp only [Bool.false_eq_true,if_false];exact bI
  ·unfold FF.f;refine Ev.bind hA ?_;simp only [Bool.false_eq_true,if_false];exact bS
 | true =>
  rw [hg] at hG hA;rw [Bool.true_and] at hA;by_cases hb : Xx n 1 ls.length = true
  ·have hn : 1 <= n ∧ n <= ls.length := by unfold Xx at hb;simp at hb;omega
   have hb0 : Xx n 0 ls.length = true := by unfold Xx;simp;omega
   rw [hb0] at hA;have hgg := hg;unfold Xu Zh at hgg;rw [Bool.and_eq_true,Bool.and_eq_true,Bool.and_eq_true,Bool.and_eq_true] at hgg;have hw := hgg.1;obtain ⟨f1,f2,_⟩ := (X6 l ls.flatten []).1 hgg.2.2.2.1;have hfl : ls.flatten = (ls.take n.toNat).flatten ++ (ls.drop n.toNat).flatten := by rw [<- List.flatten_append,List.take_append_drop]
   have hr0 : ∀ x,x ∈ ls.flatten -> 0 <= x ∧ x < (l.length : Int) := fun x hx => by
    have := f1 x hx;rw [Yw l hl0] at this;omega
   have hr : ∀ x,x ∈ (ls.take n.toNat).flatten -> 0 <= x ∧ x < l.length := fun x hx => hr0 x (by rw [hfl];exact List.mem_append_left _ hx)
   have hnd : (ls.take n.toNat).flatten.Nodup := by rw [hfl] at f2;exact (List.nodup_append.1 f2).1
   obtain ⟨T,t1,t2,t3⟩ := Zg ls n hs hl (by omega) (by omega);have ew : wrap64 (n - 1) = ((n.toNat - 1 : Nat) : Int) := by rw [Xf (by omega) (by omega)];omega
   have hlt : n.toNat - 1 < ls.length := by omega
   have hyr : ∀ x,x ∈ ls[n.toNat - 1] -> 0 <= x ∧ x < l.length := fun x hx => hr0 x (List.mem_flatten.2 ⟨_,List.getElem_mem hlt,hx⟩)
   have hyn : (ls[n.toNat - 1]).Nodup := by
    obtain ⟨p,q,e⟩ := List.append_of_mem (List.getElem_mem hlt);rw [e,List.flatten_append,List.flatten_cons] at f2;exact (List.nodup_append.1 (List.nodup_append.1 f2).2.1).1
   have h16 := (Xo hw).1;have hyl := Xw hyn hyr;obtain ⟨r,r1,r2,r3,r4,r5⟩ := J2 l ls n ls[n.toNat - 1] hw hl (by omega) (by omega) hr hnd T t1 t2 t3 hyr (by omega) (ls[n.toNat - 1]).length 0 [] (by omega) (by simp) (fun q hq' => by simp at hq') (fun q hq' => by simp at hq');refine ⟨r,?_,?_,r3,r4,fun h => ⟨rfl,hn,by rw [Z3 ls _ hlt];exact (r5.1 h).1,(r5.1 h).2⟩,r5.2⟩
   ·unfold FD.f;refine Ev.bind hG ?_;simp only [if_true,Xl,Option.bind_some,hb,Bool.not_true];refine Ev.succ ?_;simp only [FD.j0,Bool.false_eq_true,if_false,ew,Xa,if_true,show (((n.toNat - 1 : Nat) : Int) < (ls.length : Int)) = True from eq_true (by omega),Za,Z3 ls _ hlt];exact r1
   ·unfold FF.f;refine Ev.bind hA ?_;simp only [if_true,show (n == 0) = false from beq_eq_false_iff_ne.mpr (by omega)];refine Ev.succ ?_;simp only [FF.j0,Bool.false_eq_true,if_false,ew,Xa,if_true,show (((n.toNat - 1 : Nat) : Int) < (ls.length : Int)) = True from eq_true (by omega),Za,Z3 ls _ hlt];exact r2
  ·refine ⟨([],false),?_,?_,by simp,fun q hq' => by simp at hq',(fun h => nomatch h),fun _ => rfl⟩
   ·unfold FD.f;refine Ev.bind hG ?_;rw [Bool.not_eq_true] at hb;simp only [if_true,Xl,Option.bind_some,hb,Bool.not_false];exact bI
   ·unfold FF.f;refine Ev.bind hA ?_;by_cases h0 : n = 0
    ·have hb0 : Xx n 0 ls.length = true := by unfold Xx;simp;omega
     simp only [hb0,if_true,show (n == 0) = true from beq_iff_eq.mpr h0];exact bS
    ·have hb0 : Xx n 0 ls.length = false := by
      unfold Xx at hb ⊢;simp at hb ⊢;omega
     simp only [hb0,Bool.false_eq_true,if_false];exact bS
theorem G6 (ls : List (List Int)) (x : Int) (c : List Int) (hs : ls.flatten.length <= 1048576) : Ev (fun k => Ld.f k ls x c) (c.all fun y => decide (y ∈ ls.flatten)) := by
 unfold Ld.f Lc.f FY.f;exact Ev.bind (V3 (fun y _ => Yv ls y hs)) (Ev.now _)
theorem Gs (t : List Int) (x : Int) (c : List Int) (ht : t.length <= 4000000) (hc : c.length < 4611686018427387904) : Ev (fun k => GC.f k t x c) (c.all fun y => decide (y ∈ t)) := by
 unfold GC.f;refine Ev.eq (Ev.all0 (L := fun k j => GC.l0 k t c (c.length : Int) (j : Int)) (P := fun j => decide (c.getD j 0 ∈ t)) (n := c.length) (a := true) (b := false) ?_ ?_ ?_) (by rw [Vt c (fun y => decide (y ∈ t))];cases c.all fun y => decide (y ∈ t) <;> rfl)
 ·refine Ev.succ ?_;simp only [GC.l0,Int.lt_irrefl,if_false];exact Ev.now _
 ·intro j r hj hP h;refine Ev.succ ?_;have h1 : ((j : Int) < (c.length : Int)) = True := eq_true (by omega);simp only [GC.l0,h1,if_true,Xa,Yp,Xb (show j < 4611686018427387904 by omega)];refine Ev.bind (Xk _ _ (by omega)) ?_;simp only [hP,if_true];exact h
 ·intro j hj hP;refine Ev.succ ?_;have h1 : ((j : Int) < (c.length : Int)) = True := eq_true (by omega);simp only [GC.l0,h1,if_true,Xa,Yp];refine Ev.bind (Xk _ _ (by omega)) ?_;simp only [hP,Bool.false_eq_true,if_false];exact Ev.now _
def Vi (l : List S41) (ls : List (List Int)) (n x : Int) (c : List Int) : Bool × Bool := if Xu l ls && (Xx n 0 ls.length && Xt x c) then (c.all fun y => decide (y ∈ (ls.take n.toNat).flatten),true) else (false,false)
theorem Ut (l : List S41) (ls : List (List Int)) (n x : Int) (c : List Int) (hl0 : l.length <= 1048576) (hz : Yg l) (hs : ls.flatten.length <= 1048576) (hl : ls.length <= 1048576) (hc : c.length <= 1048576) : Ev (fun k => FA.f k l ls n x c) (Vi l ls n x c) := by
 unfold FA.f Vi;refine Ev.bind (Yl l ls n hl0 hz hs hl) ?_;rw [<- Bool.and_assoc];cases h1 : Xu l ls && Xx n 0 ls.length with
 | false =>
  simp only [Bool.false_eq_true,if_false,Bool.false_and];refine Ev.succ ?_;simp only [FA.j0,if_true];exact Ev.now _
 | true =>
  simp only [if_true,Bool.true_and];refine Ev.bind (Y1 x c (by omega)) ?_;refine Ev.succ ?_;cases Xt x c with
  | false =>
   simp only [FA.j0,Bool.not_false,if_true,Bool.false_eq_true,if_false];exact Ev.now _
  | true =>
   rw [Bool.and_eq_true] at h1;have hn := of_decide_eq_true h1.2;obtain ⟨r,hr,hm,hk⟩ := Zw ls n hs hl hn.1 hn.2;simp only [FA.j0,Bool.not_true,Bool.false_eq_true,if_false,if_true];refine Ev.bind hr ?_;refine Ev.bind (Gs r x c hk (by omega)) ?_;refine Ev.eq (Ev.now _) ?_;have e : (fun y : Int => decide (y ∈ r)) = fun y => decide (y ∈ (ls.take n.toNat).flatten) := by funext y;rw [decide_eq_decide];exact hm y
   rw [e]
theorem Yt (l : List S41) (ls : List (List Int)) (n x : Int) (c : List Int) (hl0 : l.length <= 1048576) (hz : Yg l) (hs : ls.flatten.length <= 1048576) (hl : ls.length <= 1048576) (hc : c.length <= 1048576) : Ev (fun k => FQ.f k l ls n x c) (Vi l ls n x c) := by
 unfold FQ.f Vi;refine Ev.bind (Yi l ls hl0 hz hs hl) ?_;cases Xu l ls with
 | false =>
  simp only [Bool.false_eq_true,if_false,Bool.false_and];exact Ev.now _
 | true =>
  simp only [if_true,Bool.true_and,Xl,Option.bind_some];cases h1 : Xx n 0 ls.length with
  | false =>
   simp only [Bool.false_eq_true,if_false,Bool.false_and];exact Ev.now _
  | true =>
   have hn := of_decide_eq_true h1;simp only [if_true,Bool.true_and,eq_true hn.1,eq_true hn.2];refine Ev.bind (Yc x c (by omega)) ?_;cases Xt x c with
   | false =>
    simp only [Bool.false_eq_true,if_false];exact Ev.now _
   | true =>
    simp only [if_true];have hb := Xv ls n.toNat;exact Ev.bind (G6 _ x c (by omega)) (Ev.now _)
theorem Z1 (l : List S41) (ls : List (List Int)) (n i : Int) (hl0 : l.length <= 1048576) (hz : Yg l) (hs : ls.flatten.length <= 1048576) (hl : ls.length <= 1048576) : Ev (fun k => FR.f k l ls n i) (Yy l ls n i) := by
 unfold FR.f Yy;refine Ev.bind (Yl l ls n hl0 hz hs hl) ?_;rw [<- Bool.and_assoc];cases h1 : Xu l ls && Xx n 0 ls.length with
 | false =>
  simp only [Bool.false_eq_true,if_false,Bool.false_and];refine Ev.succ ?_;simp only [FR.j0,if_true];exact Ev.now _
 | true =>
  simp only [if_true,Bool.true_and,Xn,Option.bind_some];refine Ev.succ ?_;change Ev (fun k => FR.j0 (k + 1) ls n i (!Xx i 0 (Xr l))) _;cases Xx i 0 (Xr l) with
  | false =>
   simp only [FR.j0,Bool.not_false,if_true,Bool.false_eq_true,if_false];exact Ev.now _
  | true =>
   rw [Bool.and_eq_true] at h1;have hn := of_decide_eq_true h1.2;obtain ⟨r,hr,hm,hk⟩ := Zw ls n hs hl hn.1 hn.2;simp only [FR.j0,Bool.not_true,Bool.false_eq_true,if_false,if_true];refine Ev.bind hr ?_;refine Ev.bind (Xk r i (by omega)) ?_;refine Ev.eq (Ev.now _) ?_;rw [show decide (i ∈ r) = decide (i ∈ (ls.take n.toNat).flatten) from by rw [decide_eq_decide];exact hm i]
theorem Yq (l : List S41) (ls : List (List Int)) (n i : Int) (hl0 : l.length <= 1048576) (hz : Yg l) (hs : ls.flatten.length <= 1048576) (hl : ls.length <= 1048576) : Ev (fun k => GM.f k l ls n i) (Yy l ls n i) := by
 unfold GM.f Yy;refine Ev.bind (Yi l ls hl0 hz hs hl) ?_;cases Xu l ls with
 | false =>
  simp only [Bool.false_eq_true,if_false,Bool.false_and];exact Ev.now _
 | true =>
  simp only [if_true,Bool.true_and,Xl,Option.bind_some];cases h1 : Xx n 0 ls.length with
  | false =>
   simp only [Bool.false_eq_true,if_false,Bool.false_and];exact Ev.now _
  | true =>
   have hn := of_decide_eq_true h1;simp only [if_true,Bool.true_and,eq_true hn.1,eq_true hn.2];change Ev (fun k => if Xx i 0 (Xr l) = true then _ else _) _;cases Xx i 0 (Xr l) with
   | false =>
    simp only [Bool.false_eq_true,if_false];exact Ev.now _
   | true =>
    simp only [if_true];have hb := Xv ls n.toNat;exact Ev.bind (Yv _ i (by omega)) (Ev.now _)
def V8 (x : Int) (l : List Int) : Int × Bool := if Xt x l then (X2 l x l.length 0,true) else (0,false)
theorem V6 (x : Int) (l : List Int) (hl : l.length < 17592186044416) : Ev (fun k => GR.f k x l) (V8 x l) := by
 unfold GR.f V8;refine Ev.bind (Yc x l hl) ?_;rcases Bool.eq_false_or_eq_true (Xt x l) with h | h
 ·simp only [h,if_true];exact Ev.bind (Ub l x (by omega)) (Ev.now _)
 ·simp only [h];exact Ev.now _
theorem Tj (l : List S41) (i : Int) : rd_T41 l i = Xz l i.toNat := rfl
theorem Je (l : List Int) (a b : Int) (hl : l.length < 4611686018427387904) : Ev (fun k => GG.f k l a b) (l.all fun x => decide (a <= x ∧ x <= b)) := by
 unfold GG.f;have hg : ∀ i (hi : i < l.length),l.getD i 0 = l[i] := fun i hi => by rw [List.getD_eq_getElem?_getD,List.getElem?_eq_getElem hi];rfl
 have e : (List.range l.length).all (fun j => Xx (l.getD j 0) a b) = l.all fun x => decide (a <= x ∧ x <= b) := by
  rw [Bool.eq_iff_iff,List.all_eq_true,List.all_eq_true]
  constructor
  ·intro h x hx;obtain ⟨i,hi,rfl⟩ := List.getElem_of_mem hx;have := h i (List.mem_range.2 hi)
   rwa [hg i hi] at this
  ·intro h j hj;rw [hg j (List.mem_range.1 hj)];exact h _ (List.getElem_mem _)
 refine Ev.eq (Ev.all0 (L := fun k j => GG.l0 k a b l (l.length : Int) (j : Int)) (P := fun j => Xx (l.getD j 0) a b) (n := l.length) (a := true) (b := false) ?_ ?_ ?_) (by rw [e];cases l.all fun x => decide (a <= x ∧ x <= b) <;> rfl)
 ·refine Ev.succ ?_;simp only [GG.l0,Int.lt_irrefl,if_false];exact Ev.now _
 ·intro j r hj hP h;refine Ev.succ ?_;have h1 : ((j : Int) < (l.length : Int)) = True := eq_true (by omega);simp only [GG.l0,h1,if_true,Xa,Yp,Xn,Option.bind_some,hP,Xb (show j < 4611686018427387904 by omega)];exact h
 ·intro j hj hP;refine Ev.succ ?_;have h1 : ((j : Int) < (l.length : Int)) = True := eq_true (by omega);simp only [GG.l0,h1,if_true,Xa,Yp,Xn,Option.bind_some,hP,Bool.false_eq_true,if_false];exact Ev.now _
def Zd (l : List S41) (a k : Int) : ByteArray := if k = a then (⟨#[61]⟩ : ByteArray) ++ (Xz l k.toNat).f0 else (Xz l k.toNat).f0
def X3 (l : List S41) (a : Int) (c : List Int) : List ByteArray := c.map (Zd l a)
def Yr (ts : List ByteArray) : List UInt8 := Go.Lib.join (ts.map (·.data.toList)) [32]
def X5 (ts : List ByteArray) : ByteArray := ⟨(Yr ts).toArray⟩
theorem U3 {a b : ByteArray} (h : a.data.toList = b.data.toList) : a = b := by
 cases a;cases b
 congr 1
 exact Array.toList_inj.1 h
theorem U7 (ts : List ByteArray) (t : ByteArray) (h : ts ≠ []) : Yr (ts ++ [t]) = Yr ts ++ [32] ++ t.data.toList := by
 cases ts with
 | nil => exact absurd rfl h
 | cons x r =>
  unfold Yr;rw [List.cons_append,List.map_cons,List.map_cons,Go.Lib.join_cons,Go.Lib.join_cons,List.map_append];unfold Go.Lib.joinTail;simp [List.append_assoc]
theorem U2 (ts : List ByteArray) (t : ByteArray) (h : ts ≠ []) : X5 (ts ++ [t]) = (X5 ts ++ (⟨#[32]⟩ : ByteArray)) ++ t := by
 apply U3;unfold X5;rw [U7 ts t h];simp
theorem G0 (t : ByteArray) : X5 [t] = t := by
 apply U3;unfold X5 Yr;simp [Go.Lib.join_one]
theorem Jt (M : Nat) : ∀ (ts : List ByteArray),(∀ t,t ∈ ts -> t.size <= M) -> (Yr ts).length <= ts.length * (M + 1)
 | [],_ => by simp [Yr,Go.Lib.join_nil]
 | x :: r,h => by
  have hl : ∀ (r : List ByteArray),(∀ t,t ∈ r -> t.size <= M) -> Go.Lib.lens (r.map (·.data.toList)) <= r.length * M := by
   intro r
   induction r with
   | nil => intro _;simp [Go.Lib.lens]
   | cons y r ih =>
    intro h;have h1 := ih (fun t ht => h t (List.mem_cons_of_mem _ ht));have h2 := h y (List.mem_cons_self ..);have h3 : y.data.toList.length = y.size := by rw [Array.length_toList];rfl
    unfold Go.Lib.lens at h1 ⊢;rw [List.map_cons,List.map_cons,List.sum_cons,h3,List.length_cons,Nat.succ_mul];omega
  have h1 := hl r (fun t ht => h t (List.mem_cons_of_mem _ ht));have h2 := h x (List.mem_cons_self ..);have h3 : x.data.toList.length = x.size := by rw [Array.length_toList];rfl
  unfold Yr;rw [List.map_cons,Go.Lib.join_cons,List.length_append,Go.Lib.joinTail_length,List.length_map,h3,Nat.mul_add];simp only [List.length_cons,List.length_nil,Nat.succ_mul,Nat.zero_mul,Nat.zero_add,Nat.mul_one];omega
theorem U5 (ts : List ByteArray) : (X5 ts).size = (Yr ts).length := by simp [X5,ByteArray.size]
theorem Uy (l : List S41) (a k : Int) (hz : Yg l) (h0 : 0 <= k) (h1 : k < l.length) : (Zd l a k).size <= 1048577 := by
 have := (Zj hz (show k.toNat < l.length by omega)).2;unfold Zd
 split
 ·rw [ByteArray.size_append];show 1 + _ <= _;omega
 ·omega
theorem Gn (l : List S41) (a : Int) (c : List Int) (hz : Yg l) (hc : c.length <= 4) (hr : ∀ x,x ∈ c -> 0 <= x ∧ x < l.length) : (Yr (X3 l a c)).length <= 5000000 := by
 have := Jt 1048577 (X3 l a c) (fun t ht => by
  obtain ⟨k,hk,rfl⟩ := List.mem_map.1 ht;exact Uy l a k hz (hr k hk).1 (hr k hk).2)
 unfold X3 at this;rw [List.length_map] at this;have h2 : c.length * (1048577 + 1) <= 4 * (1048577 + 1) := Nat.mul_le_mul_right _ hc;unfold X3;omega
theorem Vw (l : List S41) (a : Int) (c : List Int) (j : Nat) (h : j < c.length) : X3 l a (c.take (j + 1)) = X3 l a (c.take j) ++ [Zd l a c[j]] := by
 unfold X3;rw [List.take_succ_eq_append_getElem h,List.map_append];rfl
theorem Ue (l : List S41) (a : Int) (c : List Int) (hz : Yg l) (hc : c.length <= 4) (hr : ∀ x,x ∈ c -> 0 <= x ∧ x < l.length) : ∀ d j,j + d = c.length -> Ev (fun k => Fl.l0 k l (X3 l a (c.take j)) c (c.length : Int) (j : Int) a c) (X5 (X3 l a c),true) := by
 intro d
 induction d with
 | zero =>
  intro j hj;refine Ev.succ ?_;have h1 : ((j : Int) < (c.length : Int)) = False := eq_false (by omega);rw [List.take_of_length_le (by omega)];have hs := Gn l a c hz hc hr;have h2 : ((X3 l a c).length <= 140737488355328) = True := eq_true (by unfold X3;rw [List.length_map];omega);have h3 : ((Yr (X3 l a c)).length <= 140737488355328) = True := eq_true (by omega);simp only [Fl.l0,h1,if_false,Le.f,h2,if_true];change Ev (fun k => (if (Yr (X3 l a c)).length <= 140737488355328 then some (X5 (X3 l a c)) else none).bind _) _;simp only [h3,if_true,Option.bind_some];exact Ev.now _
 | succ d ih =>
  intro j hj;refine Ev.succ ?_;have hlt : j < c.length := by omega
  have h1 : ((j : Int) < (c.length : Int)) = True := eq_true (by omega);have hg : c.getD j 0 = c[j] := by rw [List.getD_eq_getElem?_getD,List.getElem?_eq_getElem hlt];rfl
  obtain ⟨hx0,hx1⟩ := hr c[j] (List.getElem_mem hlt);have hb := (Zj hz (show c[j].toNat < l.length by omega)).2;have h2 : ((X3 l a (c.take j)).length < 8796093022208) = True := eq_true (by unfold X3;rw [List.length_map,List.length_take];omega);have h3 : (1 + (Xz l c[j].toNat).f0.size <= 9223372036854775807) = True := eq_true (by omega);have h4 := ih (j + 1) (by omega);rw [Vw l a c j hlt] at h4;simp only [Fl.l0,h1,if_true,Xa,Yp,hg,eq_true hx0,eq_true hx1,Tj,h2,h3,Xb (show j < 4611686018427387904 by omega)];unfold Zd at h4;by_cases h5 : c[j] = a
  ·rw [if_pos h5] at h4;simp only [eq_true h5,if_true];rw [<- h5];rw [<- h5] at h4;exact h4
  ·rw [if_neg h5] at h4;simp only [eq_false h5,if_false];exact h4
theorem Uc (l : List S41) (a : Int) (c : List Int) (hz : Yg l) (hc : c.length <= 4) (hr : ∀ x,x ∈ c -> 0 <= x ∧ x < l.length) : ∀ d j,j + d = c.length -> Ev (fun k => Fn.l0 k l (X5 (X3 l a (c.take j))) c (c.length : Int) (j : Int) a c) (X5 (X3 l a c),true) := by
 intro d
 induction d with
 | zero =>
  intro j hj;refine Ev.succ ?_;have h1 : ((j : Int) < (c.length : Int)) = False := eq_false (by omega);rw [List.take_of_length_le (by omega)];simp only [Fn.l0,h1,if_false];exact Ev.now _
 | succ d ih =>
  intro j hj;refine Ev.succ ?_;have hlt : j < c.length := by omega
  have h1 : ((j : Int) < (c.length : Int)) = True := eq_true (by omega);have hg : c.getD j 0 = c[j] := by rw [List.getD_eq_getElem?_getD,List.getElem?_eq_getElem hlt];rfl
  obtain ⟨hx0,hx1⟩ := hr c[j] (List.getElem_mem hlt);have hb := (Zj hz (show c[j].toNat < l.length by omega)).2;have hs := Gn l a (c.take j) hz (by rw [List.length_take];omega) (fun x hx => hr x (List.mem_of_mem_take hx));rw [<- U5] at hs;have h4 := ih (j + 1) (by omega);rw [Vw l a c j hlt] at h4;have e32 : ∀ s : ByteArray,(s ++ (⟨#[32]⟩ : ByteArray)).size = s.size + 1 := fun s => by rw [ByteArray.size_append];rfl
  have e61 : ∀ s : ByteArray,(s ++ (⟨#[61]⟩ : ByteArray)).size = s.size + 1 := fun s => by rw [ByteArray.size_append];rfl
  by_cases h0 : j = 0
  ·subst h0;have e0 : X5 (X3 l a (c.take 0)) = (⟨#[]⟩ : ByteArray) := rfl;have e00 : ∀ s : ByteArray,(⟨#[]⟩ : ByteArray) ++ s = s := fun s => U3 (by simp)
   have e1 : X5 (X3 l a (c.take 0) ++ [Zd l a c[0]]) = Zd l a c[0] := G0 _;rw [e1] at h4;rw [e0];have hp : (((0 : Nat) : Int) > 0) = False := eq_false (by omega);have hq : ((⟨#[61]⟩ : ByteArray).size + (Xz l c[0].toNat).f0.size <= 9223372036854775807) = True := eq_true (by show 1 + _ <= _;omega);have hq2 : ((⟨#[]⟩ : ByteArray).size + (Xz l c[0].toNat).f0.size <= 9223372036854775807) = True := eq_true (by show 0 + _ <= _;omega);have hq3 : ((⟨#[]⟩ : ByteArray).size + 1 <= 9223372036854775807) = True := eq_true (by show 0 + 1 <= _;omega);simp only [Fn.l0,h1,if_true,Xa,hp,if_false,Yp,hg,eq_true hx0,eq_true hx1,Tj,e00,hq,hq2,hq3,Xb (show 0 < 4611686018427387904 by omega)];unfold Zd at h4;by_cases h5 : c[0] = a
   ·rw [if_pos h5] at h4;simp only [eq_true h5,if_true];rw [<- h5];rw [<- h5] at h4;exact h4
   ·rw [if_neg h5] at h4;simp only [eq_false h5,if_false];exact h4
  ·have hne : X3 l a (c.take j) ≠ [] := by
    unfold X3;intro h;have := congrArg List.length h;rw [List.length_map,List.length_take,List.length_nil] at this;omega
   rw [U2 _ _ hne] at h4;have hp : ((j : Int) > 0) = True := eq_true (by omega);generalize X5 (X3 l a (c.take j)) = s at h4 hs ⊢;have k1 : (s.size + 1 <= 9223372036854775807) = True := eq_true (by omega);have k2 : ((s ++ (⟨#[32]⟩ : ByteArray)).size + 1 <= 9223372036854775807) = True := eq_true (by rw [e32];omega);have k3 : (((s ++ (⟨#[32]⟩ : ByteArray)) ++ (⟨#[61]⟩ : ByteArray)).size + (Xz l c[j].toNat).f0.size <= 9223372036854775807) = True := eq_true (by rw [e61,e32];omega);have k4 : ((s ++ (⟨#[32]⟩ : ByteArray)).size + (Xz l c[j].toNat).f0.size <= 9223372036854775807) = True := eq_true (by rw [e32];omega);simp only [Fn.l0,h1,if_true,Xa,hp,Yp,hg,eq_true hx0,eq_true hx1,Tj,k1,k2,k3,k4,Xb (show j < 4611686018427387904 by omega)];unfold Zd at h4;by_cases h5 : c[j] = a
   ·rw [if_pos h5,<- ByteArray.append_assoc] at h4;simp only [eq_true h5,if_true];rw [<- h5];rw [<- h5] at h4;exact h4
   ·rw [if_neg h5] at h4;simp only [eq_false h5,if_false];exact h4
def Zt (l : List S41) (a : Int) (c : List Int) : ByteArray × Bool := if Xp l && (Xt a c && c.all fun x => decide (0 <= x ∧ x <= Xr l)) then (X5 (X3 l a c),true) else ((⟨#[]⟩ : ByteArray),false)
theorem Gj {l : List S41} {c : List Int} (hl0 : l.length <= 1048576) (h : (c.all fun x => decide (0 <= x ∧ x <= Xr l)) = true) : ∀ x,x ∈ c -> 0 <= x ∧ x < l.length := by
 intro x hx;have := of_decide_eq_true (List.all_eq_true.1 h x hx);unfold Xr at this;rw [Xf (by omega) (by omega)] at this;omega
theorem Uh {a : Int} {c : List Int} (h : Xt a c = true) : c.length <= 4 := by
 unfold Xt at h;rw [Bool.and_eq_true] at h;have := of_decide_eq_true h.1;omega
theorem Zr (l : List S41) (a : Int) (c : List Int) (hl0 : l.length <= 1048576) (hz : Yg l) (hc : c.length <= 1048576) : Ev (fun k => Fl.f k l a c) (Zt l a c) := by
 unfold Fl.f Zt;refine Ev.bind (Zu l hl0 hz) ?_;have hno : Ev (fun k => Fl.j0 k l true a c) ((⟨#[]⟩ : ByteArray),false) := by
  refine Ev.succ ?_;simp only [Fl.j0,if_true];exact Ev.now _
 cases Xp l with
 | false =>
  simp only [Bool.false_eq_true,if_false,Bool.false_and];exact hno
 | true =>
  simp only [if_true,Bool.true_and];refine Ev.bind (Yc a c (by omega)) ?_;cases hq : Xt a c with
  | false =>
   simp only [Bool.false_eq_true,if_false,Bool.false_and];exact hno
  | true =>
   simp only [if_true,Bool.true_and,FB.f,Option.bind_some];change Ev (fun k => Fl.j0 k l (!(c.all fun x => decide (0 <= x ∧ x <= Xr l))) a c) _;cases hr : (c.all fun x => decide (0 <= x ∧ x <= Xr l)) with
   | false => exact hno
   | true =>
    refine Ev.succ ?_;simp only [Fl.j0,Bool.not_true,Bool.false_eq_true,if_false,if_true];exact Ue l a c hz (Uh hq) (Gj hl0 hr) c.length 0 (by omega)
theorem Uk (l : List S41) (a : Int) (c : List Int) (hl0 : l.length <= 1048576) (hz : Yg l) (hc : c.length <= 1048576) : Ev (fun k => Fn.f k l a c) (Zt l a c) := by
 unfold Fn.f Zt;refine Ev.bind (Yf l hl0 hz) ?_;have hno : Ev (fun k => Fn.j0 k l true a c) ((⟨#[]⟩ : ByteArray),false) := by
  refine Ev.succ ?_;simp only [Fn.j0,if_true];exact Ev.now _
 cases Xp l with
 | false =>
  simp only [Bool.false_eq_true,if_false,Bool.false_and];exact hno
 | true =>
  simp only [if_true,Bool.true_and];refine Ev.bind (Y1 a c (by omega)) ?_;cases hq : Xt a c with
  | false =>
   simp only [Bool.false_eq_true,if_false,Bool.false_and];exact hno
  | true =>
   simp only [if_true,Bool.true_and];refine Ev.bind (Je c _ _ (by omega)) ?_;change Ev (fun k => Fn.j0 k l (!(c.all fun x => decide (0 <= x ∧ x <= Xr l))) a c) _;cases hr : (c.all fun x => decide (0 <= x ∧ x <= Xr l)) with
   | false => exact hno
   | true =>
    refine Ev.succ ?_;simp only [Fn.j0,Bool.not_true,Bool.false_eq_true,if_false,if_true];exact Uc l a c hz (Uh hq) (Gj hl0 hr) c.length 0 (by omega)
theorem Gf {x : Int} {c : List Int} (h1 : 2 <= c.length ∧ c.length <= 4) (h2 : ∀ y,y ∈ c -> 0 <= y ∧ y <= 15) (h3 : c.Nodup) (h4 : x ∈ c) : Xt x c = true := by
 unfold Xt Xx;rw [Bool.and_eq_true,Bool.and_eq_true,Bool.and_eq_true,decide_eq_true_eq,decide_eq_true_eq,decide_eq_true_eq,List.all_eq_true];exact ⟨by omega,fun y hy => decide_eq_true (h2 y hy),h3,h4⟩
theorem Uz {x : Int} {c : List Int} (h : Xt x c = true) : (2 <= c.length ∧ c.length <= 4) ∧ (∀ y,y ∈ c -> 0 <= y ∧ y <= 15) ∧ c.Nodup ∧ x ∈ c := by
 unfold Xt Xx at h;rw [Bool.and_eq_true,Bool.and_eq_true,Bool.and_eq_true,decide_eq_true_eq,decide_eq_true_eq,decide_eq_true_eq,List.all_eq_true] at h;exact ⟨by omega,fun y hy => of_decide_eq_true (h.2.1 y hy),h.2.2.1,h.2.2.2⟩
theorem Jy (l : List Int) (x : Int) : ∀ d j,j + d = l.length -> 0 <= X2 l x d j -> ∃ i : Nat,X2 l x d j = (i : Int) ∧ i < l.length ∧ l.getD i 0 = x := by
 intro d
 induction d with
 | zero => intro j _ h;simp [X2] at h
 | succ d ih =>
  intro j hj h;rw [X2] at h ⊢;by_cases hq : l.getD j 0 = x
  ·rw [if_pos hq];exact ⟨j,rfl,by omega,hq⟩
  ·rw [if_neg hq] at h ⊢;exact ih (j + 1) (by omega) h
theorem Tm {l : List Int} {x : Int} (h : x ∈ l) : 0 <= X2 l x l.length 0 ∧ X2 l x l.length 0 < l.length ∧ rd l (X2 l x l.length 0) = x := by
 have hp : 0 <= X2 l x l.length 0 := of_decide_eq_true ((Vk l x).trans (decide_eq_true h));obtain ⟨i,e,hi,hx⟩ := Jy l x l.length 0 (by omega) hp;rw [e,Yp];exact ⟨by omega,by omega,hx⟩
theorem Y5 {l : List S41} {ls : List (List Int)} (hl0 : l.length <= 1048576) (hg : Xu l ls = true) (n : Nat) : ∀ x,x ∈ (ls.take n).flatten -> 0 <= x ∧ x < l.length := by
 obtain ⟨_,_,_,hr⟩ := Xs hl0 hg;intro x hx;obtain ⟨y,hy,hxy⟩ := List.mem_flatten.1 hx;exact hr x (List.mem_flatten.2 ⟨y,List.mem_of_mem_take hy,hxy⟩)
theorem Gy {l : List S41} {F : List Int} {a c : Int} {r : Int × List Int × Bool} (hM : MadeQ l F a c r) (hc : 2 <= c ∧ c <= 4) (hl : l.length <= 16) (hF : ∀ x,x ∈ F -> 0 <= x ∧ x < l.length) : Xt r.1 r.2.1 = true := by
 have h1 := hM.len;refine Gf (by omega) (fun y hy => ?_) hM.nodup (by rw [hM.asked];exact hM.own);have := hF y (hM.sub y hy);omega
theorem Z8 {l : List S41} {ls : List (List Int)} {n x : Int} {c : List Int} (hg : Xu l ls = true) (hn : 0 <= n ∧ n <= (ls.length : Int)) (hq : Xt x c = true) (hs : ∀ y,y ∈ c -> y ∈ (ls.take n.toNat).flatten) : Vi l ls n x c = (true,true) := by
 unfold Vi;rw [hg,hq,show Xx n 0 (ls.length : Int) = true from decide_eq_true hn,if_pos (by rfl),show (c.all fun y => decide (y ∈ (ls.take n.toNat).flatten)) = true from List.all_eq_true.2 (fun y hy => decide_eq_true (hs y hy))]
theorem Ug {x : Int} {c : List Int} (hq : Xt x c = true) : V8 x c = (X2 c x c.length 0,true) := by
 unfold V8;rw [if_pos hq]
theorem Vd {l : List S41} {ls : List (List Int)} {n i : Int} (hl0 : l.length <= 1048576) (hg : Xu l ls = true) (hn : 0 <= n ∧ n <= (ls.length : Int)) (hi : 0 <= i ∧ i < (l.length : Int)) : Yy l ls n i = (decide (i ∈ (ls.take n.toNat).flatten),true) := by
 unfold Yy;rw [hg,show Xx n 0 (ls.length : Int) = true from decide_eq_true hn,show Xx i 0 (Xr l) = true from decide_eq_true (by rw [Yw l hl0];omega),if_pos (by rfl)]
theorem U6 {l : List S41} {a : Int} {c : List Int} (hl0 : l.length <= 1048576) (hw : Xp l = true) (hq : Xt a c = true) (hr : ∀ x,x ∈ c -> 0 <= x ∧ x < (l.length : Int)) : (Zt l a c).2 = true := by
 unfold Zt;rw [hw,hq,show (c.all fun x => decide (0 <= x ∧ x <= Xr l)) = true from List.all_eq_true.2 (fun x hx => decide_eq_true (by have := hr x hx;rw [Yw l hl0];omega)),if_pos (by rfl)]
end Go.Proofs.YtgnijnlgbelifaaGreat.Pure
namespace Go.Proofs.YtgnijnlgbelifaaGreat.Pure
open Go.RowKit Go.Proofs.YtgnijnlgbelifaaGreat.Q Go.Proofs.YtgnijnlgbelifaaGreatW.PrintWords Go.Proofs.YtgnijnlgbelifaaGreatW.PrintLast
theorem Ui {l : List Int} (hu : U8 l) : ∃ L R n a c,Ev (fun k => GF.f k l) (L,R,n,a,c) ∧ L.length <= 17 ∧ WSh 10 L ∧ LSh R := by
 obtain ⟨L,R,n,a1,s1,hE,h1,h2,h3,p1,q1⟩ := Zl hu;obtain ⟨y2,a2,s2,e2,_,p2,q2⟩ := Gr hu L (by omega) s1 (a := a1) (by omega) (by omega);obtain ⟨y3,a3,s3,e3,_,p3,q3⟩ := Xm hu s2 (a := a2) (by omega) (by omega) [2,1,5] (by simp) (by simp);obtain ⟨y4,a4,s4,e4,_,p4,q4⟩ := Xm hu s3 (a := a3) (by omega) (by omega) [2,2,3,4,y3] (by simp) (by simp);refine ⟨L,R,n,y2,y4,?_,h1,h2,h3⟩;unfold GF.f;refine Ev.bind hE ?_;refine Ev.bind (Ev.k (fun _ => rfl) e2) ?_;simp only [e3,e4,Option.bind_some];exact Ev.now _
theorem Gb {l : List Int} (hu : U8 l) : ∃ L R n,Ev (fun k => GZ.f k l) (L,R,n) ∧ L.length <= 17 ∧ WSh 10 L ∧ LSh R := by
 obtain ⟨L,R,n,a1,s1,hE,h1,h2,h3,p1,q1⟩ := Zl hu;refine ⟨L,R,n,?_,h1,h2,h3⟩;unfold GZ.f;exact Ev.bind hE (Ev.now _)
theorem V4 {l : List Int} (hu : U8 l) : ∃ L a c,Ev (fun k => GA.f k l) (L,a,c) ∧ L.length <= 17 ∧ WSh 10 L ∧ c.length <= 21 := by
 obtain ⟨L,a1,s1,hE,h1,h2,p1,q1⟩ := Uj hu (a := 0) 0 (by decide) (by decide);obtain ⟨r,a2,s2,hQ,h3,p2,q2⟩ := Gg hu (L.length : Int) (by omega) s1 (a := a1) (by omega) (by omega);refine ⟨L,r.1,r.2,?_,h1,h2,h3⟩;unfold GA.f;exact Ev.bind hE (Ev.bind hQ (Ev.now _))
theorem Un {l : List Int} (hu : U8 l) : ∃ L R n a c,Ev (fun k => FW.f k l) (L,R,n,a,c) ∧ L.length <= 17 ∧ WSh 10 L ∧ LSh R ∧ c.length <= 21 := by
 obtain ⟨L,R,n,a1,s1,hE,h1,h2,h3,p1,q1⟩ := Zl hu;obtain ⟨r,a2,s2,hQ,h4,p2,q2⟩ := Gg hu (L.length : Int) (by omega) s1 (a := a1) (by omega) (by omega);refine ⟨L,R,n,r.1,r.2,?_,h1,h2,h3,h4⟩;unfold FW.f;exact Ev.bind hE (Ev.bind hQ (Ev.now _))
theorem Gi (u v : Int) (hu : 0 <= u ∧ u <= 99999) (hv : 0 <= v ∧ v <= 99999) : Lf.f (wrap64 (u - v)) = some (Fa.dst u v) := by
 have e1 : wrap64 (u - v) = u - v := by unfold wrap64;omega
 have e2 : wrap64 (v - u) = v - u := by unfold wrap64;omega
 have e3 : wrap64 (-(u - v)) = v - u := by unfold wrap64;omega
 unfold Lf.f Fa.dst mx;rw [e1,e2,e3];by_cases h : u - v < 0
 ·rw [if_pos h,if_pos (by omega)]
 ·rw [if_neg h];by_cases h2 : u - v < v - u
  ·omega
  ·rw [if_neg h2]
theorem To {x1 : List Int} (hu : U8 x1) (L : List S41) (hl0 : L.length <= 1048576) (hz : Yg L) (R : List (List Int)) (hs : R.flatten.length <= 1048576) (hl : R.length <= 1048576) (n : Int) (ok : Bool) (A : List S30) (hA : A.length <= 1000) (hAz : Tn A) (hq : ∀ q,q ∈ A -> Vi L R n q.f0 q.f1 = (true,true))
  (he : ok = true -> (1 <= n ∧ n <= (R.length : Int)) ∧ A.length = (R.getD (n.toNat - 1) []).length) : ∀ d j,j + d = A.length -> Ev (fun k => Fb.l2 k x1 L R n ok A A (A.length : Int) (j : Int)) true := by
 intro d
 induction d with
 | zero =>
  intro j hj;obtain ⟨M,a,c,hD,g1,g2,g3⟩ := V4 hu;obtain ⟨M',R',n',a',c',hD',k1,k2,k3,k4⟩ := Un hu;have hz2 : Yg M := g2.wsz (by decide);have hz3 : Yg M' := k2.wsz (by decide);have hf := k3.flat;have hl1 := k3.1;refine Ev.succ ?_;simp only [Fb.l2,show ((j : Int) < (A.length : Int)) = False from eq_false (by omega),if_false];refine Ev.bind hD ?_;refine Ev.bind (Zr M a c (by omega) hz2 (by omega)) ?_;refine Ev.bind (Uk M a c (by omega) hz2 (by omega)) ?_;refine Ev.bind hD' ?_;refine Ev.bind (Yt M' R' n' a' c' (by omega) hz3 (by omega) (by omega) (by omega)) ?_;refine Ev.bind (Ut M' R' n' a' c' (by omega) hz3 (by omega) (by omega) (by omega)) ?_;simp only [beq_self_eq_true,if_true];cases ok with
  | false =>
   simp only [Bool.false_eq_true,if_false];exact Ev.now _
  | true =>
   obtain ⟨⟨n0,n1⟩,hlen⟩ := he rfl;have ew : wrap64 (n - 1) = ((n.toNat - 1 : Nat) : Int) := by rw [Xf (by omega) (by omega)];omega
   simp only [if_true,ew,Xa,show (((n.toNat - 1 : Nat) : Int) < (R.length : Int)) = True from eq_true (by omega),Za,hlen,beq_self_eq_true];exact Ev.now _
 | succ d ih =>
  intro j hj;have hlt : j < A.length := by omega
  have hqj := hq _ (List.getElem_mem hlt);have hzj := hAz _ (List.getElem_mem hlt);refine Ev.succ ?_;simp only [Fb.l2,show ((j : Int) < (A.length : Int)) = True from eq_true (by omega),if_true,Xa,rdq,Gm A j hlt,Xb (show j < 4611686018427387904 by omega)];refine Ev.bind (Yt L R n _ _ hl0 hz hs hl hzj) ?_;simp only [hqj,if_true];exact ih (j + 1) (by omega)
theorem Td {x1 : List Int} (hu : U8 x1) : Ev (fun k => Fb.j5 k x1) true := by
 obtain ⟨L,R,n,hD,h1,h2,h3⟩ := Gb hu;have hz : Yg L := h2.wsz (by decide);have hf := h3.flat;have hl := h3.1;obtain ⟨r,r1,r2,r3,r4,r5,r6⟩ := J9 L R n (by omega) hz (by omega) (by omega);refine Ev.succ ?_;simp only [Fb.j5];refine Ev.bind hD ?_;refine Ev.bind r1 ?_;refine Ev.bind r2 ?_;simp only [bne_self_eq_false,Bool.false_eq_true,if_false];refine Ev.bind (Jk _ (by omega) r4) ?_;simp only [Bool.not_true];refine Ev.succ ?_;simp only [Fb.j6,Bool.false_eq_true,if_false];refine To hu L (by omega) hz R (by omega) (by omega) n r.2 r.1 r3 r4 ?_ (fun h => ⟨(r5 h).2.1,(r5 h).2.2.1⟩) r.1.length 0 (by omega);intro q hq;cases h : r.2 with
 | false =>
  rw [r6 h] at hq;cases hq
 | true =>
  obtain ⟨hg,hn,_,hF⟩ := r5 h;obtain ⟨f1,f2,f3,f4⟩ := hF q hq;have h16 := (Xo (Xs (by omega) hg).1).1;have ht := Y5 (by omega) hg n.toNat;exact Z8 hg (by omega) (Gf (by omega) (fun y hy => by have := ht y (f4 y hy);omega) f1 f3) f4
theorem Tq {x1 : List Int} (hu : U8 x1) (L : List S41) (hl0 : L.length <= 1048576) (hz : Yg L) (R : List (List Int)) (hs : R.flatten.length <= 1048576) (hl : R.length <= 1048576) (n a w : Int) (p : Int) (c : List Int) (hc : c.length <= 1048576) (hg : Xu L R = true) (hn : 0 <= n ∧ n <= (R.length : Int)) (ha : 0 <= a ∧ a < (L.length : Int)) (ht : (Zt L p c).2 = true)
  (hw : ∀ x,x ∈ (R.take n.toNat).flatten -> x ∉ c -> w <= dQ L a x) : ∀ d i,i + d = L.length -> Ev (fun k => Fb.l1 k x1 L R n a w L (L.length : Int) (i : Int) p c p c) true := by
 intro d;have hW := (Xo (Xs hl0 hg).1).2
 induction d with
 | zero =>
  intro i hi;refine Ev.succ ?_;simp only [Fb.l1,show ((i : Int) < (L.length : Int)) = False from eq_false (by omega),if_false];refine Ev.bind (Zr L p c hl0 hz hc) ?_;simp only [ht,if_true];exact Td hu
 | succ d ih =>
  intro i hi;have hlt : i < L.length := by omega
  have e := Vd hl0 hg hn (show 0 <= (i : Int) ∧ (i : Int) < (L.length : Int) by omega);have b1 := Yq L R n (i : Int) hl0 hz hs hl;have b2 := Z1 L R n (i : Int) hl0 hz hs hl;rw [e] at b1 b2;have hnext := ih (i + 1) (by omega);refine Ev.succ ?_;simp only [Fb.l1,show ((i : Int) < (L.length : Int)) = True from eq_true (by omega),if_true,Xa,Xb (show i < 4611686018427387904 by omega)];refine Ev.bind b1 ?_;refine Ev.bind b2 ?_;simp only [if_true,bne_self_eq_false,Bool.false_eq_true,if_false];by_cases hm : (i : Int) ∈ (R.take n.toNat).flatten
  ·simp only [decide_eq_true hm,if_true];refine Ev.bind (Tl c (by omega) (i : Int)) ?_;by_cases hk : (i : Int) ∈ c
   ·simp only [decide_eq_true hk,if_true];exact hnext
   ·have hd := hw _ hm hk;have hua : 0 <= (rd_T41 L a).f2 ∧ (rd_T41 L a).f2 <= 99999 := by
     have := hW a.toNat (by omega)
     rwa [<- Jr,show ((a.toNat : Nat) : Int) = a by omega] at this
    have hui : 0 <= (rd_T41 L (i : Int)).f2 ∧ (rd_T41 L (i : Int)).f2 <= 99999 := by
     rw [Jr];exact hW i hlt
    simp only [decide_eq_false hk,Bool.false_eq_true,if_false,eq_true ha.1,eq_true ha.2,if_true,Gi _ _ hui hua,Option.bind_some];have hnl : ¬ (Fa.dst (rd_T41 L (i : Int)).f2 (rd_T41 L a).f2 < w) := by
     show ¬ (dQ L a (i : Int) < w);omega
    simp only [eq_false hnl,if_false];exact hnext
  ·simp only [decide_eq_false hm,Bool.false_eq_true,if_false];exact hnext
theorem Tp {x1 : List Int} (hu : U8 x1) (L : List S41) (hl0 : L.length <= 1048576) (hz : Yg L) (R : List (List Int)) (hs : R.flatten.length <= 1048576) (hl : R.length <= 1048576) (n a : Int) (p : Int) (c : List Int) (hc : c.length <= 1048576) (hg : Xu L R = true) (hn : 0 <= n ∧ n <= (R.length : Int)) (ha : 0 <= a ∧ a < (L.length : Int)) (ht : (Zt L p c).2 = true)
  (hsub : ∀ x,x ∈ c -> x ∈ (R.take n.toNat).flatten) (hnear : ∀ x,x ∈ (R.take n.toNat).flatten -> x ∉ c -> ∀ y,y ∈ c -> dQ L a y <= dQ L a x) : ∀ d j (w : Int),j + d = c.length -> (∀ x,x ∈ (R.take n.toNat).flatten -> x ∉ c -> w <= dQ L a x) -> Ev (fun k => Fb.l0 k x1 L R n a w c (c.length : Int) (j : Int) p c p c) true := by
 intro d;have hW := (Xo (Xs hl0 hg).1).2;have hT := Y5 hl0 hg n.toNat
 induction d with
 | zero =>
  intro j w hj hw;refine Ev.succ ?_;simp only [Fb.l0,show ((j : Int) < (c.length : Int)) = False from eq_false (by omega),if_false];exact Tq hu L hl0 hz R hs hl n a w p c hc hg hn ha ht hw L.length 0 (by omega)
 | succ d ih =>
  intro j w hj hw;have hlt : j < c.length := by omega
  have e : rd c (j : Int) = c[j] := by
   rw [Yp,List.getD_eq_getElem?_getD,List.getElem?_eq_getElem hlt];rfl
  have hm := hsub _ (List.getElem_mem hlt);have hr := hT _ hm;have b1 := Yq L R n c[j] hl0 hz hs hl;rw [Vd hl0 hg hn hr,decide_eq_true hm] at b1;have hua : 0 <= (rd_T41 L a).f2 ∧ (rd_T41 L a).f2 <= 99999 := by
   have := hW a.toNat (by omega)
   rwa [<- Jr,show ((a.toNat : Nat) : Int) = a by omega] at this
  have hui : 0 <= (rd_T41 L c[j]).f2 ∧ (rd_T41 L c[j]).f2 <= 99999 := by
   have := hW c[j].toNat (by omega)
   rwa [<- Jr,show ((c[j].toNat : Nat) : Int) = c[j] by omega] at this
  refine Ev.succ ?_;simp only [Fb.l0,show ((j : Int) < (c.length : Int)) = True from eq_true (by omega),if_true,Xa,e];refine Ev.bind b1 ?_;simp only [if_true,Bool.not_true];refine Ev.succ ?_;simp only [Fb.j3,Bool.false_eq_true,if_false,eq_true hr.1,eq_true hr.2,eq_true ha.1,eq_true ha.2,if_true,Gi _ _ hui hua,Option.bind_some,Xb (show j < 4611686018427387904 by omega)];by_cases h : Fa.dst (rd_T41 L c[j]).f2 (rd_T41 L a).f2 > w
  ·simp only [eq_true h,if_true];exact ih (j + 1) _ (by omega) (fun x hx hxc => hnear x hx hxc _ (List.getElem_mem hlt))
  ·simp only [eq_false h,if_false];exact ih (j + 1) _ (by omega) hw
theorem FnQuestions : Fb.Pure := by
 intro l0 l1 h0 hb0 h1 hb1;have u0 : U8 l0 := ⟨hb0,by omega⟩;have u1 : U8 l1 := ⟨hb1,by omega⟩;refine Ev.rounds ?_;unfold Fb.f;obtain ⟨b,hb⟩ : ∃ b,Lg.f l0 l1 = some b := by unfold Lg.f;split <;> exact ⟨_,rfl⟩
 rw [hb];simp only [Option.bind_some];cases b with
 | true =>
  simp only [if_true];exact Ev.now _
 | false =>
  simp only [Bool.false_eq_true,if_false];obtain ⟨L,R,n,a,c,hE,hL,hw,hR⟩ := Ui u0;have hz : Yg L := hw.wsz (by decide);have hf := hR.flat;have hl1 := hR.1;obtain ⟨r,r1,r2,r3,r4⟩ := Gp L R n a c (by omega) hz (by omega) (by omega);refine Ev.bind hE ?_;refine Ev.bind r1 ?_;refine Ev.bind r2 ?_;simp only [bne_self_eq_false,Bool.false_eq_true,if_false,if_true];refine Ev.bind (Zz _ (by omega)) ?_;simp only [Bool.not_true];refine Ev.succ ?_;simp only [Fb.j0,Bool.false_eq_true,if_false];cases h : r.2.2 with
  | false =>
   simp only [Bool.false_eq_true,if_false];exact Td u1
  | true =>
   obtain ⟨hg,hn,ha,hc,hM⟩ := r4 h;have h16 := (Xo (Xs (by omega) hg).1).1;have hT := Y5 (by omega) hg n.toNat;have hq : Xt r.1 r.2.1 = true := Gy hM hc h16 hT;have hfair := Z8 hg hn hq hM.sub;have f1 := Yt L R n r.1 r.2.1 (by omega) hz (by omega) (by omega) (by omega);rw [hfair] at f1;have f2 := V6 r.1 r.2.1 (by omega);rw [Ug hq] at f2;have hin : r.1 ∈ r.2.1 := (Uz hq).2.2.2;obtain ⟨i0,i1,i2⟩ := Tm hin;have hri : rd r.2.1 (X2 r.2.1 r.1 r.2.1.length 0) = a := i2.trans hM.asked;simp only [if_true];refine Ev.bind f1 ?_;refine Ev.bind f2 ?_;simp only [if_true,show (X2 r.2.1 r.1 r.2.1.length 0 < 0) = False from eq_false (by omega),if_false,show (X2 r.2.1 r.1 r.2.1.length 0 >= (r.2.1.length : Int)) = False from eq_false (by omega),show (X2 r.2.1 r.1 r.2.1.length 0 < (r.2.1.length : Int)) = True from eq_true i1,eq_true i0,hri,if_true];simp only [hM.len,bne_self_eq_false];refine Ev.succ ?_;simp only [Fb.j1,Bool.false_eq_true,if_false];refine Tp u1 L (by omega) hz R (by omega) (by omega) n a r.1 r.2.1 (by omega) hg hn ha (U6 (by omega) (Xs (by omega) hg).1 hq (fun x hx => hT x (hM.sub x hx))) hM.sub hM.near r.2.1.length 0 0 (by omega) ?_;intro x hx _;have hW := (Xo (Xs (by omega) hg).1).2;have hr := hT x hx;have hux : 0 <= Fa.us L x ∧ Fa.us L x <= 99999 := by
    have := hW x.toNat (by omega)
    rwa [<- Jr,show ((x.toNat : Nat) : Int) = x by omega] at this
   have hua : 0 <= Fa.us L a ∧ Fa.us L a <= 99999 := by
    have := hW a.toNat (by omega)
    rwa [<- Jr,show ((a.toNat : Nat) : Int) = a by omega] at this
   exact (Z9 hux hua).1
end Go.Proofs.YtgnijnlgbelifaaGreat.Pure
