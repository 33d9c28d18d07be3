import Derived.Test.YtgnijnlgbelifaaGreatQLawsFnAnswers
set_option linter.unusedVariables false
set_option linter.unusedSimpArgs false
namespace Go.Proofs.YtgnijnlgbelifaaGreat.Pure
open RowKit Q W.PrintLast W.PrintWords
theorem Ev.succ {α : Type} {g : Nat -> Option α} {r : α} (h : Ev (fun k => g (k + 1)) r) : Ev g r := Ev.step (fun _ => rfl) h
theorem Ev.k {α : Type} {g : Nat -> Option α} {o : Option α} {r : α} (hg : ∀ k,g k = o) (h : o = some r) : Ev g r := ⟨0,fun k _ => (hg k).trans h⟩
theorem Ev.eq {α : Type} {g : Nat -> Option α} {r r' : α} (h : Ev g r) (e : r = r') : Ev g r' := e ▸ h
theorem Ev.upto {β : Type} {L : Nat -> Nat -> Option β} {r : β} {n : Nat} (hend : Ev (fun k => L k n) r)
  (hstep : ∀ j,j < n -> Ev (fun k => L k (j + 1)) r -> Ev (fun k => L k j) r) : ∀ i,i <= n -> Ev (fun k => L k i) r := by
 intro i hi;obtain ⟨d,hd⟩ : ∃ d,n = i + d := ⟨n - i,by omega⟩
 induction d generalizing i with
 | zero => simp at hd;subst hd;exact hend
 | succ d ih => exact hstep i (by omega) (ih (i + 1) (by omega) (by omega))
theorem Ev.all {β : Type} {L : Nat -> Nat -> Option β} {P : Nat -> Bool} {n : Nat} {a b : β} (hend : Ev (fun k => L k n) a)
  (hyes : ∀ j r,j < n -> P j = true -> Ev (fun k => L k (j + 1)) r -> Ev (fun k => L k j) r) (hno : ∀ j,j < n -> P j = false -> Ev (fun k => L k j) b) :
  ∀ i,i <= n -> Ev (fun k => L k i) (if (List.range' i (n - i)).all P then a else b) := by
 intro i hi;obtain ⟨d,hd⟩ : ∃ d,n = i + d := ⟨n - i,by omega⟩
 induction d generalizing i with
 | zero => simp at hd;subst hd;simpa using hend
 | succ d ih =>
  have h1 : n - i = (n - (i + 1)) + 1 := by omega
  rw [h1,List.range'_succ];simp only [List.all_cons];rcases Bool.eq_false_or_eq_true (P i) with hP | hP
  ·simp only [hP,Bool.true_and];exact hyes i _ (by omega) hP (ih (i + 1) (by omega) (by omega))
  ·simpa [hP] using hno i (by omega) hP
theorem Ev.all0 {β : Type} {L : Nat -> Nat -> Option β} {P : Nat -> Bool} {n : Nat} {a b : β} (hend : Ev (fun k => L k n) a)
  (hyes : ∀ j r,j < n -> P j = true -> Ev (fun k => L k (j + 1)) r -> Ev (fun k => L k j) r) (hno : ∀ j,j < n -> P j = false -> Ev (fun k => L k j) b) :
  Ev (fun k => L k 0) (if (List.range n).all P then a else b) := by
 have := Ev.all hend hyes hno 0 (Nat.zero_le _)
 rwa [Nat.sub_zero,<- List.range_eq_range'] at this
theorem Xc {x : Int} (h0 : -9223372036854775808 <= x) (h1 : x <= 9223372036854775807) : wrap64 x = x := by
 unfold wrap64;omega
theorem Xb {n : Nat} (h : n < 4611686018427387904) : wrap64 ((n : Int) + 1) = ((n + 1 : Nat) : Int) := by
 rw [Xc (by omega) (by omega)];omega
theorem Z1 {n : Nat} (h0 : 0 < n) (h : n < 4611686018427387904) : wrap64 ((n : Int) - 1) = ((n - 1 : Nat) : Int) := by
 rw [Xc (by omega) (by omega)];omega
theorem Xa (n : Nat) : (0 <= (n : Int)) = True := eq_true (Int.natCast_nonneg n)
structure U8 (l : List Int) : Prop where
 b : ∀ y,y ∈ l -> (Lit.int .u8 y).wf = true
 n : l.length <= 140737488351232
theorem Tc {y : Int} (h : (Lit.int .u8 y).wf = true) : 0 <= y ∧ y <= 255 := by
 simp [Lit.wf,IntKind.min,IntKind.max,IntKind.bits,IntKind.signed] at h;omega
theorem T2 (x : Int) : 0 <= Go.bits .and .u64 x 255 ∧ Go.bits .and .u64 x 255 <= 255 := by
 have h : ((BitVec.ofInt 64 x &&& BitVec.ofInt 64 255).toNat : Nat) <= 255 := by
  rw [BitVec.toNat_and];exact Nat.le_trans Nat.and_le_right (by decide)
 have e : Go.bits .and .u64 x 255 = ((((BitVec.ofInt 64 x &&& BitVec.ofInt 64 255).toNat : Nat) : Int) % 18446744073709551616) := by
  unfold Go.bits IntKind.wrap;simp only [IntKind.signed,Bool.false_and,Bool.false_eq_true,if_false];rfl
 rw [e];generalize (BitVec.ofInt 64 x &&& BitVec.ofInt 64 255).toNat = n at h;omega
def T1 {α : Type} (f : Option (α × Int × Int)) (a n : Int) (P : α -> Prop) : Prop := ∃ r a' s',f = some (r,a',s') ∧ P r ∧ a <= a' ∧ a' <= a + n
theorem G7 {l : List Int} (hu : U8 l) {a : Int} (s : Int) (h0 : 0 <= a) (h1 : a <= 1000000000000) : T1 (GL.f l a s) a 1 (fun r => 0 <= r ∧ r <= 255) := by
 have hw : wrap64 (a + 1) = a + 1 := Xc (by omega) (by omega);unfold GL.f;rw [hw];have low : ∀ x : Int,0 <= wrap64 (Go.bits .and .u64 x 255) ∧ wrap64 (Go.bits .and .u64 x 255) <= 255 := fun x => by
  have := T2 x;rw [Xc (by omega) (by omega)];exact this
 by_cases h2 : a < (l.length : Int)
 ·have hr : 0 <= rd l a ∧ rd l a <= 255 := by
   have hlt : a.toNat < l.length := by omega
   have e : rd l a = l[a.toNat] := by
    show l.getD a.toNat 0 = _;rw [List.getD_eq_getElem?_getD,List.getElem?_eq_getElem hlt];rfl
   rw [e];exact Tc (hu.b _ (List.getElem_mem _))
  have hwr : wrap64 (rd l a) = rd l a := Xc (by omega) (by omega);rw [if_pos h2,if_pos h0,hwr];by_cases h3 : a + 1 <= (l.length : Int)
  ·rw [if_pos h3];exact ⟨_,_,_,rfl,hr,by omega,by omega⟩
  ·rw [if_neg h3];refine ⟨_,_,_,rfl,?_,by omega,by omega⟩;exact low _
 ·rw [if_neg h2];by_cases h3 : a + 1 <= (l.length : Int)
  ·rw [if_pos h3];exact ⟨_,_,_,rfl,⟨by decide,by decide⟩,by omega,by omega⟩
  ·rw [if_neg h3];exact ⟨_,_,_,rfl,low _,by omega,by omega⟩
theorem Xf {l : List Int} (hu : U8 l) {a : Int} (s : Int) (h0 : 0 <= a) (h1 : a <= 999999999990) (n : Int) (hn : 1 <= n) (hm : n <= 1000000) : T1 (Fb.f l a s n) a 2 (fun r => 0 <= r ∧ r < n) := by
 unfold Fb.f;by_cases h2 : n <= 1
 ·rw [if_pos h2];exact ⟨_,_,_,rfl,⟨by omega,by omega⟩,by omega,by omega⟩
 ·rw [if_neg h2];obtain ⟨x,a1,s1,e1,⟨x0,x1⟩,p1,p2⟩ := G7 hu s h0 (by omega);rw [e1];simp only [Option.bind_some,eq_false (show ¬ n = 0 by omega),if_false];by_cases h3 : n > 200
  ·obtain ⟨y,a2,s2,e2,⟨y0,y1⟩,q1,q2⟩ := G7 hu s1 (a := a1) (by omega) (by omega);simp only [eq_true h3,if_true,e2,Option.bind_some];refine ⟨_,_,_,rfl,?_,by omega,by omega⟩;rw [Xc (x := x * 256) (by omega) (by omega),Xc (by omega) (by omega),Int.tmod_eq_emod_of_nonneg (by omega)];exact ⟨Int.emod_nonneg _ (by omega),Int.emod_lt_of_pos _ (by omega)⟩
  ·simp only [eq_false h3,if_false];refine ⟨_,_,_,rfl,?_,by omega,by omega⟩;rw [Int.tmod_eq_emod_of_nonneg (by omega)];exact ⟨Int.emod_nonneg _ (by omega),Int.emod_lt_of_pos _ (by omega)⟩
theorem Vt {l : List Int} (hu : U8 l) {a : Int} (s : Int) (h0 : 0 <= a) (h1 : a <= 999999999990) (n : Int) (hn : 1 <= n) (hm : n <= 1000000) : T1 (GD.f l a s n) a 2 (fun _ => True) := by
 obtain ⟨x,a1,s1,e1,_,p1,p2⟩ := Xf hu s h0 h1 n hn hm;unfold GD.f;rw [e1];exact ⟨_,_,_,rfl,trivial,p1,p2⟩
theorem Xl {l : List Int} (hu : U8 l) {a : Int} (s : Int) (h0 : 0 <= a) (h1 : a <= 999999999990) (L : List Int) (hn : 0 < L.length) (hm : L.length <= 1000000) : T1 (Fd.f l a s L) a 2 (fun r => r ∈ L) := by
 obtain ⟨x,a1,s1,e1,⟨x0,x1⟩,p1,p2⟩ := Xf hu s h0 h1 (L.length : Int) (by omega) (by omega);unfold Fd.f;rw [e1];simp only [Option.bind_some,eq_true x0,eq_true x1,if_true];refine ⟨_,_,_,rfl,?_,p1,p2⟩;have hlt : x.toNat < L.length := by omega
 have e : rd L x = L[x.toNat] := by
  show L.getD x.toNat 0 = _;rw [List.getD_eq_getElem?_getD,List.getElem?_eq_getElem hlt];rfl
 rw [e];exact List.getElem_mem _
def X5 (a b c : Int) : Bool := decide (b <= a ∧ a <= c)
theorem Xw (a b c : Int) : FU.f a b c = some (X5 a b c) := by
 unfold FU.f X5
 split <;> simp <;> omega
theorem X7 (a b c : Int) : FB.f a b c = some (X5 a b c) := by
 unfold FB.f X5
 split <;> simp <;> omega
def Gl (s : ByteArray) (j : Nat) : Bool := decide (65 <= bt s j ∧ bt s j <= 90)
def Yz (s : ByteArray) : Bool := X5 s.size 1 8 && (List.range s.size).all (Gl s)
def caps : ByteArray := ⟨#[65,66,67,68,69,70,71,72,73,74,75,76,77,78,79,80,81,82,83,84,85,86,87,88,89,90]⟩
theorem J3 : ((List.range 256).all fun n => decide (Lib.indexByte caps.data.toList n.toUInt8 < 0) == !(decide (65 <= n ∧ n <= 90))) = true := by decide +kernel
theorem Vw (b : Int) (h0 : 0 <= b) (h1 : b <= 255) : (Lib.indexByte caps.data.toList b.toNat.toUInt8 < 0) ↔ ¬ (65 <= b ∧ b <= 90) := by
 have h := List.all_eq_true.1 J3 b.toNat (List.mem_range.2 (by omega));simp only [beq_iff_eq] at h;by_cases hc : 65 <= b ∧ b <= 90
 ·have h2 : decide (65 <= b.toNat ∧ b.toNat <= 90) = true := decide_eq_true (by omega);rw [h2] at h;exact ⟨fun h3 => absurd h3 (of_decide_eq_false h),fun h3 => absurd hc h3⟩
 ·have h2 : decide (65 <= b.toNat ∧ b.toNat <= 90) = false := decide_eq_false (by omega);rw [h2] at h;exact ⟨fun _ => hc,fun _ => of_decide_eq_true h⟩
theorem Gv (s : ByteArray) (hs : s.size < 4611686018427387904) : Ev (fun k => GF.f k s caps) ((List.range s.size).all (Gl s)) := by
 unfold GF.f;refine Ev.eq (Ev.all0 (L := fun k j => GF.l0 k s caps (s.size : Int) (j : Int)) (P := Gl s) (n := s.size) (a := true) (b := false) ?_ ?_ ?_) (by split <;> simp_all)
 ·refine Ev.succ ?_;simp only [GF.l0,Int.lt_irrefl,if_false];exact Ev.now _
 ·intro j r hj hP h;refine Ev.succ ?_;have h1 : ((j : Int) < (s.size : Int)) = True := eq_true (by omega);have hb := Eja s (j : Int);have h2 : (Lib.indexByte caps.data.toList (bt s (j : Int)).toNat.toUInt8 < 0) = False := eq_false (fun hc => (Vw _ hb.1 hb.2).1 hc (of_decide_eq_true hP));simp only [GF.l0,GU.f,Option.bind_some,h1,if_true,Xa,h2,if_false,Xb (show j < 4611686018427387904 by omega)];exact h
 ·intro j hj hP;refine Ev.succ ?_;have h1 : ((j : Int) < (s.size : Int)) = True := eq_true (by omega);have hb := Eja s (j : Int);have h2 : (Lib.indexByte caps.data.toList (bt s (j : Int)).toNat.toUInt8 < 0) = True := eq_true ((Vw _ hb.1 hb.2).2 (of_decide_eq_false hP));simp only [GF.l0,GU.f,Option.bind_some,h1,if_true,Xa,h2];exact Ev.now _
theorem Gz (s : ByteArray) (hs : s.size < 4611686018427387904) : Ev (fun k => GZ.f k s) (Yz s) := by
 unfold GZ.f Li.f Yz;refine Ev.bind (a := X5 s.size 1 8 && (List.range s.size).all (Gl s)) ?_ (Ev.now _);simp only [X7,Option.bind_some];rcases Bool.eq_false_or_eq_true (X5 s.size 1 8) with h | h
 ·simp only [h,if_true,Bool.true_and];exact Ev.bind (Gv s hs) (Ev.now _)
 ·simp only [h];exact Ev.now _
theorem Tw {l : List Int} (hu : U8 l) {a : Int} (s : Int) (h0 : 0 <= a) (h1 : a <= 999999999990) (L : List ByteArray) (hn : 0 < L.length) (hm : L.length <= 1000000) : T1 (GM.f l a s L) a 2 (fun r => r ∈ L) := by
 obtain ⟨x,a1,s1,e1,⟨x0,x1⟩,p1,p2⟩ := Xf hu s h0 h1 (L.length : Int) (by omega) (by omega);unfold GM.f;rw [e1];simp only [Option.bind_some,eq_true x0,eq_true x1,if_true];refine ⟨_,_,_,rfl,?_,p1,p2⟩;have hlt : x.toNat < L.length := by omega
 have e : rdOf ByteArray.empty L x = L[x.toNat] := by
  show L.getD x.toNat ByteArray.empty = _;rw [List.getD_eq_getElem?_getD,List.getElem?_eq_getElem hlt];rfl
 rw [e];exact List.getElem_mem _
def Yl (g : ByteArray) : Prop := g.size <= 10
theorem Xd {g : ByteArray} {L : List ByteArray} (h : Yl g) (hL : ∀ x,x ∈ L -> Yl x) : ∀ x,x ∈ g :: L -> Yl x := fun x hx => by
 rcases List.mem_cons.1 hx with rfl | hx
 ·exact h
 ·exact hL x hx
theorem Z2 : ∀ x : ByteArray,x ∈ ([] : List ByteArray) -> Yl x := fun _ h => by cases h
theorem Xe {g : ByteArray} (h : g.size <= 10) : Yl g := h
theorem Yf (l : List Int) (j : Nat) : rd l (j : Int) = l.getD j 0 := by simp [rd]
def Xt (l : List Int) (x : Int) : Nat -> Nat -> Int
 | 0,_ => -1
 | d + 1,j => if l.getD j 0 = x then (j : Int) else Xt l x d (j + 1)
theorem U5 (l : List Int) (x : Int) : ∀ d j,(0 <= Xt l x d j) ↔ ∃ i,j <= i ∧ i < j + d ∧ l.getD i 0 = x := by
 intro d
 induction d with
 | zero => intro j;simp only [Xt];constructor <;> intro h <;> omega
 | succ d ih =>
  intro j;rw [Xt];by_cases h : l.getD j 0 = x
  ·rw [if_pos h];exact ⟨fun _ => ⟨j,by omega,by omega,h⟩,fun _ => by omega⟩
  ·rw [if_neg h,ih]
   constructor
   ·rintro ⟨i,h1,h2,h3⟩;exact ⟨i,by omega,by omega,h3⟩
   ·rintro ⟨i,h1,h2,h3⟩;have : i ≠ j := fun e => h (e ▸ h3)
    exact ⟨i,by omega,by omega,h3⟩
theorem Up (l : List Int) (x : Int) : (∃ i,0 <= i ∧ i < 0 + l.length ∧ l.getD i 0 = x) ↔ x ∈ l := by
 rw [List.mem_iff_getElem]
 constructor
 ·rintro ⟨i,_,h2,h3⟩;refine ⟨i,by omega,?_⟩;rw [<- h3,List.getD_eq_getElem?_getD,List.getElem?_eq_getElem (by omega)];rfl
 ·rintro ⟨i,h2,h3⟩;refine ⟨i,by omega,by omega,?_⟩;rw [List.getD_eq_getElem?_getD,List.getElem?_eq_getElem h2];exact h3
theorem Zr (l : List Int) (x : Int) : decide (Xt l x l.length 0 >= 0) = decide (x ∈ l) := by
 rw [decide_eq_decide];exact (U5 l x l.length 0).trans (Up l x)
theorem J0 (l : List Int) (x : Int) (hl : l.length < 4611686018427387904) : ∀ d j,j + d = l.length -> Ev (fun k => FM.l0 k l x (l.length : Int) (j : Int)) (Xt l x d j) := by
 intro d
 induction d with
 | zero =>
  intro j hj;refine Ev.succ ?_;have h1 : ((j : Int) < (l.length : Int)) = False := eq_false (by omega);simp only [FM.l0,h1,if_false,Xt];exact Ev.now _
 | succ d ih =>
  intro j hj;refine Ev.succ ?_;have h1 : ((j : Int) < (l.length : Int)) = True := eq_true (by omega);simp only [FM.l0,h1,if_true,Xa,Yf,Xb (show j < 4611686018427387904 by omega),Xt];by_cases h : l.getD j 0 = x
  ·simp only [eq_true h,eq_true h.symm,if_true];exact Ev.now _
  ·simp only [eq_false h,eq_false (fun e : x = l.getD j 0 => h e.symm),if_false];exact ih (j + 1) (by omega)
theorem U2 (l : List Int) (x : Int) (hl : l.length < 4611686018427387904) : Ev (fun k => FM.f k l x) (Xt l x l.length 0) := by
 unfold FM.f;exact J0 l x hl l.length 0 (by omega)
theorem Yi (l : List Int) (x : Int) (hl : l.length < 4611686018427387904) : Ev (fun k => FN.f k l x) (decide (x ∈ l)) := by
 unfold FN.f;refine Ev.bind (U2 l x hl) ?_;rw [Zr];exact Ev.now _
theorem J7 (l : List Int) (x : Int) (hl : l.length < 4611686018427387904) : ∀ d j,j + d = l.length -> Ev (fun k => Fs.l0 k x l (l.length : Int) (j : Int)) (decide (Xt l x d j >= 0)) := by
 intro d
 induction d with
 | zero =>
  intro j hj;refine Ev.succ ?_;have h1 : ((j : Int) < (l.length : Int)) = False := eq_false (by omega);simp only [Fs.l0,h1,if_false,Xt];exact Ev.now _
 | succ d ih =>
  intro j hj;refine Ev.succ ?_;have h1 : ((j : Int) < (l.length : Int)) = True := eq_true (by omega);simp only [Fs.l0,h1,if_true,Xa,Yf,Xb (show j < 4611686018427387904 by omega),Xt];by_cases h : l.getD j 0 = x
  ·simp only [eq_true h,if_true];refine Ev.eq (Ev.now _) ?_;simp
  ·simp only [eq_false h,if_false];exact ih (j + 1) (by omega)
theorem Xj (l : List Int) (x : Int) (hl : l.length < 4611686018427387904) : Ev (fun k => Fs.f k l x) (decide (x ∈ l)) := by
 unfold Fs.f;rw [<- Zr];exact J7 l x hl l.length 0 (by omega)
theorem Gg (zs : List Int) (h : ∀ j,0 < j -> (hj : j < zs.length) -> zs[j - 1]'(by omega) < zs[j]) : ∀ (d i : Nat) (hi : i + d + 1 < zs.length),zs[i]'(by omega) < zs[i + d + 1] := by
 intro d
 induction d with
 | zero => intro i hi;exact h (i + 1) (by omega) hi
 | succ d ih =>
  intro i hi;have h1 := ih i (by omega);have h2 := h (i + d + 1 + 1) (by omega) hi;have h3 : zs[i + d + 1 + 1 - 1]'(by omega) = zs[i + d + 1]'(by omega) := by congr 1
  have h4 : zs[i + (d + 1) + 1] = zs[i + d + 1 + 1] := by congr 1
  omega
theorem Ve (zs : List Int) (hs : zs.Pairwise (· <= ·)) : (Lib.compact zs).length = zs.length ↔ zs.Nodup := by
 have e : (Lib.compact zs).length = ((List.range zs.length).filter (Lib.keeps zs.toArray)).length := by simp [Lib.compact,Lib.compactUpTo]
 rw [e];have e2 : ((List.range zs.length).filter (Lib.keeps zs.toArray)).length = zs.length ↔ ∀ j,j < zs.length -> Lib.keeps zs.toArray j = true := by
  constructor
  ·intro h j hj;have h' : ((List.range zs.length).filter (Lib.keeps zs.toArray)).length = (List.range zs.length).length := by rw [h,List.length_range]
   exact List.length_filter_eq_length_iff.1 h' j (List.mem_range.2 hj)
  ·intro h;have := List.length_filter_eq_length_iff.2 (fun j hj => h j (List.mem_range.1 hj));rw [this,List.length_range]
 rw [e2];have hle := List.pairwise_iff_getElem.1 hs
 constructor
 ·intro h;have hlt : ∀ j,0 < j -> (hj : j < zs.length) -> zs[j - 1]'(by omega) < zs[j] := by
   intro j h0 hj;have h1 := hle (j - 1) j (by omega) hj (by omega);have h2 := h j hj;have h3 : zs[j - 1]'(by omega) ≠ zs[j] := by
    intro e3;have := Lib.keeps_neg (d := zs.toArray) h0 (by simp [getElem!_pos,show j < zs.length by omega,show j - 1 < zs.length by omega,e3]);rw [this] at h2;cases h2
   omega
  rw [List.Nodup,List.pairwise_iff_getElem];intro i j hi hj hij;have := Gg zs hlt (j - i - 1) i (by omega);have e4 : zs[i + (j - i - 1) + 1]'(by omega) = zs[j] := by congr 1;omega
  omega
 ·intro h j hj;rw [List.Nodup,List.pairwise_iff_getElem] at h;by_cases h0 : j = 0
  ·subst h0;exact Lib.keeps_lt_one _ 0 (by omega)
  ·refine Lib.keeps_pos ?_;have := h (j - 1) j (by omega) hj (by omega);simp [getElem!_pos,show j < zs.length by omega,show j - 1 < zs.length by omega];exact fun e => this e.symm
theorem Yx (l : List Int) (hl : l.length < 17592186044416) : ∃ r,Fj.f l = some r ∧ (r.length = l.length ↔ l.Nodup) := by
 unfold Fj.f FO.f;simp only [Option.bind_some,List.length_nil,Nat.zero_add,List.nil_append,eq_true hl,if_true];refine ⟨_,rfl,?_⟩;have hp : (Fj.sorted l).Perm l := List.mergeSort_perm _ _;have hs : (Fj.sorted l).Pairwise (· <= ·) := by
  have := List.pairwise_mergeSort (le := fun x y : Int => decide (x <= y)) (by intro a b c;simp;omega) (by intro a b;simp;omega) l;exact this.imp (fun h => of_decide_eq_true h)
 rw [<- hp.length_eq,Ve _ hs];exact hp.nodup_iff
theorem G1 (s : ByteArray) (hs : s.size < 4611686018427387904) : Ev (fun k => GB.f k s) (Yz s) := by
 unfold GB.f;refine Ev.eq (Ev.all0 (L := fun k j => GB.l0 k s (j : Int)) (P := Gl s) (n := s.size) (a := X5 s.size 1 8) (b := false) ?_ ?_ ?_) (by unfold Yz;split <;> simp_all)
 ·refine Ev.succ ?_;simp only [GB.l0,Int.lt_irrefl,if_false,Xw,Option.bind_some];exact Ev.now _
 ·intro j r hj hP h;refine Ev.succ ?_;have h1 : ((j : Int) < (s.size : Int)) = True := eq_true (by omega);have hP' := of_decide_eq_true hP;simp only [GB.l0,h1,if_true,Xa,show (bt s (j : Int) < 65) = False from eq_false (by omega),show (bt s (j : Int) > 90) = False from eq_false (by omega),if_false,Xb (show j < 4611686018427387904 by omega)];exact h
 ·intro j hj hP;refine Ev.succ ?_;have h1 : ((j : Int) < (s.size : Int)) = True := eq_true (by omega);have hP' := of_decide_eq_false hP;simp only [GB.l0,h1,if_true,Xa];by_cases h2 : bt s (j : Int) < 65
  ·simp only [eq_true h2,if_true];exact Ev.now _
  ·simp only [eq_false h2,if_false,show (bt s (j : Int) > 90) = True from eq_true (by omega),if_true];exact Ev.now _
def X8 (l : List S41) (j : Nat) : S41 := l.getD j z41
theorem T6 (l : List S41) (j : Nat) : rd_T41 l (j : Int) = X8 l j := by simp [rd_T41,X8]
theorem Ui (l : List S41) (j : Nat) (h : j < l.length) : X8 l j = l[j] := by unfold X8;rw [List.getD_eq_getElem?_getD,List.getElem?_eq_getElem h];rfl
def Zh (l : List S41) : Prop := ∀ q,q ∈ l -> q.f1.length <= 1048576 ∧ q.f0.size <= 1048576
theorem Gw {l : List S41} (hz : Zh l) {j : Nat} (hj : j < l.length) : (X8 l j).f1.length <= 1048576 ∧ (X8 l j).f0.size <= 1048576 := by rw [Ui l j hj];exact hz _ (List.getElem_mem hj)
def Zd (l : List Int) (a b : Int) (j : Nat) : Bool := X5 (l.getD j 0) a b && (decide (j = 0) || decide (l.getD (j - 1) 0 < l.getD j 0))
def Vo (l : List Int) (a b : Int) : Bool := (List.range l.length).all (Zd l a b)
theorem Ge (l : List Int) (a b : Int) (hl : l.length < 4611686018427387904) : Ev (fun k => FV.f k l a b) (Vo l a b) := by
 unfold FV.f Vo;refine Ev.eq (Ev.all0 (L := fun k j => FV.l0 k l a b l (l.length : Int) (j : Int)) (P := Zd l a b) (n := l.length) (a := true) (b := false) ?_ ?_ ?_) (by split <;> simp_all)
 ·refine Ev.succ ?_;simp only [FV.l0,Int.lt_irrefl,if_false];exact Ev.now _
 ·intro j r hj hP h;refine Ev.succ ?_;have h1 : ((j : Int) < (l.length : Int)) = True := eq_true (by omega);unfold Zd at hP;rw [Bool.and_eq_true] at hP;simp only [FV.l0,h1,if_true,Xa,Yf,Xw,Option.bind_some,hP.1,Xb (show j < 4611686018427387904 by omega)];by_cases h0 : j = 0
  ·subst h0;simp only [Int.natCast_zero,gt_iff_lt,Int.lt_irrefl,if_false];exact h
  ·have h2 : ((j : Int) > 0) = True := eq_true (by omega);have h3 : (((j - 1 : Nat) : Int) < (l.length : Int)) = True := eq_true (by omega);have h4 := hP.2;simp only [h0,decide_false,Bool.false_or,decide_eq_true_eq] at h4;have h5 : (l.getD (j - 1) 0 >= l.getD j 0) = False := eq_false (by omega);simp only [h2,if_true,Z1 (show 0 < j by omega) (show j < 4611686018427387904 by omega),Xa,h3,Yf,h5,if_false];exact h
 ·intro j hj hP;refine Ev.succ ?_;have h1 : ((j : Int) < (l.length : Int)) = True := eq_true (by omega);unfold Zd at hP;simp only [FV.l0,h1,if_true,Xa,Yf,Xw,Option.bind_some];rcases Bool.eq_false_or_eq_true (X5 (l.getD j 0) a b) with hb | hb
  ·rw [hb,Bool.true_and,Bool.or_eq_false_iff,decide_eq_false_iff_not,decide_eq_false_iff_not] at hP;have h2 : ((j : Int) > 0) = True := eq_true (by have := hP.1;omega);have h3 : (((j - 1 : Nat) : Int) < (l.length : Int)) = True := eq_true (by omega);have h5 : (l.getD (j - 1) 0 >= l.getD j 0) = True := eq_true (by have := hP.2;omega);simp only [hb,if_true,h2,Z1 (show 0 < j by have := hP.1;omega) (show j < 4611686018427387904 by omega),Xa,h3,Yf,h5];exact Ev.now _
  ·simp only [hb,Bool.false_eq_true,if_false];exact Ev.now _
def Yt (l : List Int) (j : Nat) : Bool := decide (j = 0) || decide (l.getD (j - 1) 0 <= l.getD j 0)
def Zn (l : List Int) : Bool := (List.range l.length).all (Yt l)
theorem To (a b : Int) : GN.f a b = some (decide (a < b)) := by
 unfold GN.f GS.f;simp
theorem Gb (l : List Int) (hl : l.length < 4611686018427387904) : ∀ j,j < l.length -> Ev (fun k => FD.l0 k l (j : Int)) ((List.range (j + 1)).all (Yt l)) := by
 intro j
 induction j with
 | zero =>
  intro _;refine Ev.succ ?_;simp only [FD.l0,Int.natCast_zero,gt_iff_lt,Int.lt_irrefl,if_false];refine Ev.eq (Ev.now _) ?_;simp [Yt]
 | succ j ih =>
  intro hj;refine Ev.succ ?_;have h1 : (((j + 1 : Nat) : Int) > 0) = True := eq_true (by omega);have h2 : (((j + 1 : Nat) : Int) < (l.length : Int)) = True := eq_true (by omega);have h3 : ((j : Int) < (l.length : Int)) = True := eq_true (by omega);have h4 : wrap64 (((j + 1 : Nat) : Int) - 1) = (j : Int) := by rw [Xc (by omega) (by omega)];omega
  simp only [FD.l0,h1,h2,if_true,Xa,h4,h3,Yf,To,Option.bind_some];rw [List.range_succ,List.all_append];by_cases h5 : l.getD (j + 1) 0 < l.getD j 0
  ·simp only [h5,decide_true,if_true];refine Ev.eq (Ev.now _) ?_;have : Yt l (j + 1) = false := by
    unfold Yt;simp only [Nat.add_sub_cancel,Bool.or_eq_false_iff,decide_eq_false_iff_not];exact ⟨by omega,by omega⟩
   simp [this]
  ·simp only [h5,decide_false,Bool.false_eq_true,if_false];refine Ev.eq (ih (by omega)) ?_;have : Yt l (j + 1) = true := by
    unfold Yt;simp only [Nat.add_sub_cancel,Bool.or_eq_true,decide_eq_true_eq];exact Or.inr (by omega)
   simp [this]
theorem Uz (l : List Int) (hl : l.length < 4611686018427387904) : Ev (fun k => FD.f k l) (Zn l) := by
 unfold FD.f Zn;by_cases h0 : l.length = 0
 ·rw [h0];refine Ev.succ ?_;simp only [FD.l0,show (wrap64 (((0 : Nat) : Int) - 1) > 0) = False from eq_false (by unfold wrap64;omega),if_false];exact Ev.now _
 ·rw [Z1 (by omega) (by omega)];refine Ev.eq (Gb l hl (l.length - 1) (by omega)) ?_;rw [show l.length - 1 + 1 = l.length by omega]
theorem Tj (l : List Int) (a b : Int) : Vo l a b = (l.all (fun x => decide (a <= x ∧ x <= b)) && (decide l.Nodup && Zn l)) := by
 have hg : ∀ i (hi : i < l.length),l.getD i 0 = l[i] := fun i hi => by rw [List.getD_eq_getElem?_getD,List.getElem?_eq_getElem hi];rfl
 rw [Bool.eq_iff_iff,Bool.and_eq_true,Bool.and_eq_true,Vo,Zn,List.all_eq_true,List.all_eq_true,List.all_eq_true,decide_eq_true_eq]
 constructor
 ·intro h;have hlt : ∀ j,0 < j -> (hj : j < l.length) -> l[j - 1]'(by omega) < l[j] := by
   intro j h0 hj;have h2 := h j (List.mem_range.2 hj);rw [Zd,Bool.and_eq_true,Bool.or_eq_true,decide_eq_true_eq,decide_eq_true_eq,hg j hj,hg (j - 1) (by omega)] at h2;rcases h2.2 with h3 | h3
   ·omega
   ·exact h3
  refine ⟨fun x hx => ?_,?_,fun j hj => ?_⟩
  ·obtain ⟨i,hi,rfl⟩ := List.getElem_of_mem hx;have := h i (List.mem_range.2 hi);rw [Zd,hg i hi,Bool.and_eq_true] at this;exact this.1
  ·rw [List.Nodup,List.pairwise_iff_getElem];intro i j hi hj hij;have := Gg l hlt (j - i - 1) i (by omega);have e4 : l[i + (j - i - 1) + 1]'(by omega) = l[j] := by congr 1;omega
   omega
  ·have hj' := List.mem_range.1 hj;rw [Yt,Bool.or_eq_true,decide_eq_true_eq,decide_eq_true_eq];by_cases h0 : j = 0
   ·exact Or.inl h0
   ·refine Or.inr ?_;rw [hg j hj',hg (j - 1) (by omega)];exact Int.le_of_lt (hlt j (by omega) hj')
 ·rintro ⟨h1,h2,h3⟩ j hj;have hj' := List.mem_range.1 hj;rw [Zd,Bool.and_eq_true,hg j hj'];refine ⟨h1 _ (List.getElem_mem hj'),?_⟩;rw [Bool.or_eq_true,decide_eq_true_eq,decide_eq_true_eq];by_cases h0 : j = 0
  ·exact Or.inl h0
  ·have h4 := h3 j hj;rw [Yt,Bool.or_eq_true,decide_eq_true_eq,decide_eq_true_eq,hg j hj',hg (j - 1) (by omega)] at h4;rw [List.Nodup,List.pairwise_iff_getElem] at h2;have h5 := h2 (j - 1) j (by omega) hj' (by omega);rw [hg (j - 1) (by omega)];rcases h4 with h4 | h4
   ·exact absurd h4 h0
   ·exact Or.inr (by omega)
def Yn (l : List S41) (s : ByteArray) : Bool := l.any fun x => decide (x.f0.toList = s.toList)
def Yb (l : List S41) : Int := wrap64 ((l.length : Int) - 1)
def Xk (l : List S41) (j : Nat) : Bool := Yz (X8 l j).f0 && (Vo (X8 l j).f1 0 (Yb l) && (!(decide ((j : Int) ∈ (X8 l j).f1)) && (X5 (X8 l j).f2 0 99999 && !(Yn (l.take j) (X8 l j).f0))))
def Ye (l : List S41) : Bool := (List.range l.length).all (Xk l) && decide (l.length <= 16)
theorem Jh (l y : List S41) (j : Nat) (s : ByteArray) (n : List Int) (u : Int) (r : Bool) (hy : y.length < 4611686018427387904) (hc : Yn y s = false -> Ev (fun k => Fr.l0 k l l (l.length : Int) (wrap64 ((j : Int) + 1))) r) : ∀ d i,i + d = y.length -> Yn (y.take i) s = false -> Ev (fun k => Fr.l1 k l l (l.length : Int) (j : Int) y (y.length : Int) (i : Int) s n u) (if Yn (y.drop i) s then false else r) := by
 intro d
 induction d with
 | zero =>
  intro i hi h0;refine Ev.succ ?_;have h1 : ((i : Int) < (y.length : Int)) = False := eq_false (by omega);rw [List.take_of_length_le (by omega)] at h0;simp only [Fr.l1,h1,if_false];rw [List.drop_of_length_le (by omega)];exact hc h0
 | succ d ih =>
  intro i hi h0;refine Ev.succ ?_;have hlt : i < y.length := by omega
  have h1 : ((i : Int) < (y.length : Int)) = True := eq_true (by omega);simp only [Fr.l1,h1,if_true,Xa,T6,Xb (show i < 4611686018427387904 by omega)];have hdup : Yn (y.drop i) s = (decide (y[i].f0.toList = s.toList) || Yn (y.drop (i + 1)) s) := by rw [List.drop_eq_getElem_cons hlt];unfold Yn;rw [List.any_cons]
  rw [hdup,Ui y i hlt];by_cases h2 : y[i].f0.toList = s.toList
  ·simp only [eq_true h2,if_true,decide_true,Bool.true_or];exact Ev.now _
  ·simp only [eq_false h2,if_false,decide_false,Bool.false_or];refine ih (i + 1) (by omega) ?_;rw [List.take_succ_eq_append_getElem hlt];unfold Yn at h0 ⊢;rw [List.any_append,h0];simp [h2]
theorem Yr (l : List S41) (j : Nat) (b : Bool) (r : Bool) (s : ByteArray) (n : List Int) (u : Int) (hl : l.length <= 1048576) (hj : j < l.length) (hc : b = false -> Yn (l.take j) s = false -> Ev (fun k => Fr.l0 k l l (l.length : Int) (wrap64 ((j : Int) + 1))) r) : Ev (fun k => Fr.j1 k l (j : Int) l (l.length : Int) (j : Int) b s n u) (if b || Yn (l.take j) s then false else r) := by
 refine Ev.succ ?_;cases b with
 | true =>
  simp only [Fr.j1,if_true];exact Ev.now _
 | false =>
  have h2 : ((j : Int) <= (l.length : Int)) = True := eq_true (by omega);simp only [Fr.j1,Bool.false_eq_true,if_false,Xa,h2,if_true,Option.bind_some,Int.toNat_natCast,Bool.false_or];have := Jh l (l.take j) j s n u r (by rw [List.length_take];omega) (hc rfl) (l.take j).length 0 (by omega) (by simp [Yn]);rw [List.drop_zero] at this;exact this
theorem Z4 (l : List S41) (j : Nat) (r : Bool) (hl : l.length <= 1048576) (hz : Zh l) (hj : j < l.length) (hc : Xk l j = true -> Ev (fun k => Fr.l0 k l l (l.length : Int) ((j + 1 : Nat) : Int)) r) : Ev (fun k => Fr.l0 k l l (l.length : Int) (j : Int)) (if Xk l j then r else false) := by
 refine Ev.succ ?_;have h1 : ((j : Int) < (l.length : Int)) = True := eq_true (by omega);obtain ⟨z1,z0⟩ := Gw hz hj;rw [<- Xb (show j < 4611686018427387904 by omega)] at hc;simp only [Fr.l0,h1,if_true,Xa,T6];refine Ev.bind (G1 _ (by omega)) ?_;cases hg : Yz (X8 l j).f0 with
 | false =>
  have e : Xk l j = false := by unfold Xk;rw [hg,Bool.false_and]
  rw [e];simp only [Bool.false_eq_true,if_false];exact Ev.eq (Yr l j true r _ _ _ hl hj (fun h => nomatch h)) rfl
 | true =>
  simp only [if_true];refine Ev.bind (Ge _ _ _ (by omega)) ?_;change Ev (fun k => if Vo (X8 l j).f1 0 (Yb l) = true then _ else _) _;cases hr : Vo (X8 l j).f1 0 (Yb l) with
  | false =>
   have e : Xk l j = false := by unfold Xk;rw [hg,hr,Bool.false_and,Bool.and_false]
   rw [e];simp only [Bool.false_eq_true,if_false];exact Ev.eq (Yr l j true r _ _ _ hl hj (fun h => nomatch h)) rfl
  | true =>
   simp only [if_true];refine Ev.bind (Xj _ _ (by omega)) ?_;cases hh : decide ((j : Int) ∈ (X8 l j).f1) with
   | true =>
    have e : Xk l j = false := by unfold Xk;rw [hg,hr,hh];rfl
    rw [e];simp only [if_true];exact Ev.eq (Yr l j true r _ _ _ hl hj (fun h => nomatch h)) rfl
   | false =>
    simp only [Bool.false_eq_true,if_false,Xw,Option.bind_some];cases hi : X5 (X8 l j).f2 0 99999 with
    | false =>
     have e : Xk l j = false := by unfold Xk;rw [hg,hr,hh,hi];rfl
     rw [e];exact Ev.eq (Yr l j true r _ _ _ hl hj (fun h => nomatch h)) rfl
    | true =>
     have e : Xk l j = !(Yn (l.take j) (X8 l j).f0) := by unfold Xk;rw [hg,hr,hh,hi];rfl
     rw [e] at hc ⊢;refine Ev.eq (Yr l j false r _ _ _ hl hj (fun _ h => hc (by rw [h];rfl))) ?_;cases Yn (l.take j) (X8 l j).f0 <;> rfl
theorem Y7 (l : List S41) (hl : l.length <= 1048576) (hz : Zh l) : Ev (fun k => Fr.f k l) (Ye l) := by
 unfold Fr.f Ye;refine Ev.eq (Ev.all0 (L := fun k j => Fr.l0 k l l (l.length : Int) (j : Int)) (P := Xk l) (n := l.length) (a := decide (l.length <= 16)) (b := false) ?_ ?_ ?_) (by cases (List.range l.length).all (Xk l) <;> simp)
 ·refine Ev.succ ?_;simp only [Fr.l0,Int.lt_irrefl,if_false];refine Ev.eq (Ev.now _) ?_;rw [decide_eq_decide];omega
 ·intro j r hj hP h;have := Z4 l j r hl hz hj (fun _ => h);rw [hP,if_pos rfl] at this;exact this
 ·intro j hj hP;have := Z4 l j false hl hz hj (fun h => by rw [hP] at h;cases h);rw [hP] at this;exact this
theorem Z7 (l : List S41) (j : Nat) (b : Bool) (r : Bool) (s : ByteArray) (n : List Int) (u : Int) (hj : j < l.length) (hc : b = false -> Yn (l.take j) s = false -> Ev (fun k => Fl.l0 k l l (l.length : Int) (wrap64 ((j : Int) + 1))) r) : Ev (fun k => Fl.j2 k l (j : Int) l (l.length : Int) (j : Int) b s n u) (if b || Yn (l.take j) s then false else r) := by
 refine Ev.succ ?_;cases b with
 | true =>
  simp only [Fl.j2,if_true];exact Ev.now _
 | false =>
  have h2 : ((j : Int) <= (l.length : Int)) = True := eq_true (by omega);simp only [Fl.j2,Bool.false_eq_true,if_false,Xa,h2,if_true,Option.bind_some,Int.toNat_natCast,Bool.false_or,FZ.f];change Ev (fun k => if Yn (l.take j) s = true then _ else _) _;cases h3 : Yn (l.take j) s with
  | true => simp only [if_true];exact Ev.now _
  | false => simp only [Bool.false_eq_true,if_false];exact hc rfl h3
theorem Yh (l : List S41) (j : Nat) (b : Bool) (r : Bool) (s : ByteArray) (n : List Int) (u : Int) (hn : n.length <= 1048576) (hj : j < l.length) (hc : b = false -> (decide n.Nodup && Zn n) = true -> Yn (l.take j) s = false -> Ev (fun k => Fl.l0 k l l (l.length : Int) (wrap64 ((j : Int) + 1))) r) : Ev (fun k => Fl.j1 k l (j : Int) l (l.length : Int) (j : Int) b s n u) (if b || (!(decide n.Nodup && Zn n) || Yn (l.take j) s) then false else r) := by
 refine Ev.succ ?_;cases b with
 | true =>
  simp only [Fl.j1,if_true];exact Ev.now _
 | false =>
  obtain ⟨t,ht,hd⟩ := Yx n (by omega);simp only [Fl.j1,Bool.false_eq_true,if_false,ht,Option.bind_some,Bool.false_or];by_cases h3 : n.Nodup
  ·have h4 : ((t.length : Int) = (n.length : Int)) = True := eq_true (by have := hd.2 h3;omega);simp only [h4,if_true];refine Ev.bind (Uz n (by omega)) ?_;refine Ev.eq (Z7 l j (!Zn n) r s n u hj (fun h => hc rfl (by simp [h3];simpa using h))) ?_;simp [h3]
  ·have h4 : ((t.length : Int) = (n.length : Int)) = False := eq_false (fun e => h3 (hd.1 (by omega)));simp only [h4,if_false];refine Ev.eq (Z7 l j true r s n u hj (fun h => nomatch h)) ?_;simp [h3]
theorem Zc (l : List S41) (j : Nat) (r : Bool) (hz : Zh l) (hj : j < l.length) (hl : l.length <= 1048576) (hc : Xk l j = true -> Ev (fun k => Fl.l0 k l l (l.length : Int) ((j + 1 : Nat) : Int)) r) : Ev (fun k => Fl.l0 k l l (l.length : Int) (j : Int)) (if Xk l j then r else false) := by
 refine Ev.succ ?_;have h1 : ((j : Int) < (l.length : Int)) = True := eq_true (by omega);obtain ⟨z1,z0⟩ := Gw hz hj;rw [<- Xb (show j < 4611686018427387904 by omega)] at hc;simp only [Fl.l0,h1,if_true,Xa,T6,FP.f,X7,Option.bind_some];refine Ev.bind (Gz _ (by omega)) ?_;have hE : Xk l j = (Yz (X8 l j).f0 && (((X8 l j).f1.all (fun x => decide (0 <= x ∧ x <= Yb l)) && (decide (X8 l j).f1.Nodup && Zn (X8 l j).f1)) && (!(decide ((j : Int) ∈ (X8 l j).f1)) && (X5 (X8 l j).f2 0 99999 && !(Yn (l.take j) (X8 l j).f0))))) := by unfold Xk;rw [Tj]
 change Ev (fun k => if Yz (X8 l j).f0 = true then (if X5 (X8 l j).f2 0 99999 = true then (if ((X8 l j).f1.all fun x => decide (0 <= x ∧ x <= Yb l)) = true then _ else _) else _) else _) _;cases hg : Yz (X8 l j).f0 with
 | false =>
  have e : Xk l j = false := by rw [hE,hg,Bool.false_and]
  rw [e];simp only [Bool.false_eq_true,if_false];exact Ev.eq (Yh l j true r _ _ _ z1 hj (fun h => nomatch h)) rfl
 | true =>
  simp only [if_true];cases hi : X5 (X8 l j).f2 0 99999 with
  | false =>
   have e : Xk l j = false := by rw [hE,hi,Bool.false_and,Bool.and_false,Bool.and_false,Bool.and_false]
   rw [e];simp only [Bool.false_eq_true,if_false];exact Ev.eq (Yh l j true r _ _ _ z1 hj (fun h => nomatch h)) rfl
  | true =>
   simp only [if_true];cases hw : ((X8 l j).f1.all fun x => decide (0 <= x ∧ x <= Yb l)) with
   | false =>
    have e : Xk l j = false := by rw [hE,hw,Bool.false_and,Bool.false_and,Bool.and_false]
    rw [e];simp only [Bool.false_eq_true,if_false];exact Ev.eq (Yh l j true r _ _ _ z1 hj (fun h => nomatch h)) rfl
   | true =>
    simp only [if_true];refine Ev.bind (Yi _ _ (by omega)) ?_;rw [hE,hg,hi,hw] at hc;rw [hE,hg,hi,hw];refine Ev.eq (Yh l j _ r _ _ _ z1 hj (fun h1 h2 h3 => hc (by rw [h1,h2,h3];rfl))) ?_;cases decide ((j : Int) ∈ (X8 l j).f1) <;> cases (decide (X8 l j).f1.Nodup && Zn (X8 l j).f1) <;> cases Yn (l.take j) (X8 l j).f0 <;> rfl
theorem Gf (l : List S41) (hl : l.length <= 1048576) (hz : Zh l) : Ev (fun k => Fl.f k l) (Ye l) := by
 unfold Fl.f Ye;refine Ev.eq (Ev.all0 (L := fun k j => Fl.l0 k l l (l.length : Int) (j : Int)) (P := Xk l) (n := l.length) (a := decide (l.length <= 16)) (b := false) ?_ ?_ ?_) (by cases (List.range l.length).all (Xk l) <;> simp)
 ·refine Ev.succ ?_;simp only [Fl.l0,Int.lt_irrefl,if_false];refine Ev.eq (Ev.now _) ?_;rw [decide_eq_decide];omega
 ·intro j r hj hP h;have := Zc l j r hz hj hl (fun _ => h);rw [hP,if_pos rfl] at this;exact this
 ·intro j hj hP;have := Zc l j false hz hj hl (fun h => by rw [hP] at h;cases h);rw [hP] at this;exact this
theorem Tr (l : List Int) (x : Int) (hl : l.length <= 4000000) : ∀ d j,j + d = l.length -> ∃ r : List Int,Ev (fun k => Fu.l0 k l x (j : Int)) r ∧ r.length <= l.length + 1 := by
 intro d
 induction d with
 | zero =>
  intro j hj;refine ⟨l.take j ++ [x] ++ l.drop j,Ev.succ ?_,by simp only [List.length_append,List.length_take,List.length_drop,List.length_singleton];omega⟩;have h1 : ((j : Int) < (l.length : Int)) = False := eq_false (by omega);have h2 : ((j : Int) <= (l.length : Int)) = True := eq_true (by omega);have h3 : (0 + (l.take j).length < 17592186044416) = True := eq_true (by rw [List.length_take];omega);have h4 : ((l.take j).length < 17592186044416) = True := eq_true (by rw [List.length_take];omega);have h5 : ((l.take j ++ [x]).length + (l.drop j).length < 17592186044416) = True := eq_true (by simp only [List.length_append,List.length_take,List.length_drop,List.length_singleton];omega);simp only [Fu.l0,h1,if_false,Option.bind_some,Xa,if_true,h2,Int.toNat_natCast,List.length_nil,h3,List.nil_append,h4,h5];exact Ev.now _
 | succ d ih =>
  intro j hj;have hlt : j < l.length := by omega
  have h1 : ((j : Int) < (l.length : Int)) = True := eq_true (by omega);have h2 : ((j : Int) <= (l.length : Int)) = True := eq_true (by omega);have hg : l.getD j 0 = l[j] := by rw [List.getD_eq_getElem?_getD,List.getElem?_eq_getElem hlt];rfl
  by_cases h6 : l[j] < x
  ·obtain ⟨r,hr,hn⟩ := ih (j + 1) (by omega);refine ⟨r,Ev.succ ?_,hn⟩;simp only [Fu.l0,h1,if_true,Xa,Yf,hg,eq_true h6,Xb (show j < 4611686018427387904 by omega)];exact hr
  ·by_cases h7 : l[j] = x
   ·refine ⟨l,Ev.succ ?_,by omega⟩;simp only [Fu.l0,h1,if_true,Xa,Yf,hg,eq_false h6,if_false,eq_true h7];exact Ev.now _
   ·refine ⟨l.take j ++ [x] ++ l.drop j,Ev.succ ?_,by simp only [List.length_append,List.length_take,List.length_drop,List.length_singleton];omega⟩;have h3 : (0 + (l.take j).length < 17592186044416) = True := eq_true (by rw [List.length_take];omega);have h4 : ((l.take j).length < 17592186044416) = True := eq_true (by rw [List.length_take];omega);have h5 : ((l.take j ++ [x]).length + (l.drop j).length < 17592186044416) = True := eq_true (by simp only [List.length_append,List.length_take,List.length_drop,List.length_singleton];omega);simp only [Fu.l0,h1,if_true,Xa,Yf,hg,eq_false h6,eq_false h7,if_false,Option.bind_some,h2,Int.toNat_natCast,List.length_nil,h3,List.nil_append,h4,h5];exact Ev.now _
theorem Tf (l : List Int) (x : Int) (hl : l.length <= 4000000) : ∃ r : List Int,Ev (fun k => Fu.f k l x) r ∧ r.length <= l.length + 1 := by
 unfold Fu.f;exact Tr l x hl l.length 0 (by omega)
def WSh (n : Nat) (l : List S41) : Prop := ∀ q,q ∈ l -> q.f1.length <= n ∧ Yl q.f0
theorem WSh.wsz {n : Nat} {l : List S41} (h : WSh n l) (hn : n <= 1048576) : Zh l := fun q hq => by
 obtain ⟨h1,h2⟩ := h q hq;unfold Yl at h2;exact ⟨by omega,by omega⟩
theorem WSh.mono {n m : Nat} {l : List S41} (h : WSh n l) (hn : n <= m) : WSh m l := fun q hq => ⟨Nat.le_trans (h q hq).1 hn,(h q hq).2⟩
theorem WSh.snoc {n : Nat} {l : List S41} (h : WSh n l) {x : S41} (h1 : x.f1.length <= n) (h2 : Yl x.f0) : WSh n (l ++ [x]) := fun y hy => by
 rcases List.mem_append.1 hy with hy | hy
 ·exact h y hy
 ·rw [List.mem_singleton.1 hy];exact ⟨h1,h2⟩
theorem WSh.set {n : Nat} {l : List S41} (h : WSh n l) {x : S41} (i : Nat) (h1 : x.f1.length <= n) (h2 : Yl x.f0) : WSh n (l.set i x) := fun y hy => by
 rcases List.mem_or_eq_of_mem_set hy with hy | hy
 ·exact h y hy
 ·rw [hy];exact ⟨h1,h2⟩
theorem WSh.at {n : Nat} {l : List S41} (h : WSh n l) (i : Int) : (rd_T41 l i).f1.length <= n ∧ Yl (rd_T41 l i).f0 := by
 have e : rd_T41 l i = X8 l i.toNat := rfl;rw [e];by_cases hi : i.toNat < l.length
 ·rw [Ui l _ hi];exact h _ (List.getElem_mem hi)
 ·unfold X8;rw [List.getD_eq_getElem?_getD,List.getElem?_eq_none (by omega)];exact ⟨Nat.zero_le _,Nat.zero_le _⟩
def letters17 : ByteArray := ⟨#[65,66,67,68,69,70,71,72,73,74,75,76,77,78,79,80,81]⟩
theorem Tb {l : List Int} {a s : Int} (N : Nat) (hN : N <= 17) : ∀ (d : Nat) (x3 : List S41),x3.length + d = N -> WSh 10 x3 -> ∃ L,Ev (fun k => Fe.l2 k x3 (N : Int) l a s) (L,a,s) ∧ L.length <= 17 ∧ WSh 10 L := by
 intro d
 induction d with
 | zero =>
  intro x3 hd hs;refine ⟨x3,Ev.succ ?_,by omega,hs⟩;simp only [Fe.l2,show ((x3.length : Int) < (N : Int)) = False from eq_false (by omega),if_false];exact Ev.now _
 | succ d ih =>
  intro x3 hd hs;have e1 : (letters17.extract x3.length (x3.length + 1)).size = 1 := by
   rw [ByteArray.size_extract];have : letters17.size = 17 := rfl;omega
  have hw : wrap64 ((x3.length : Int) + 1) = ((x3.length + 1 : Nat) : Int) := Xb (by omega);have hlet : (⟨#[65,66,67,68,69,70,71,72,73,74,75,76,77,78,79,80,81]⟩ : ByteArray) = letters17 := rfl;obtain ⟨L,hE,hL,hS⟩ := ih (x3 ++ [(⟨(⟨#[88]⟩ : ByteArray) ++ letters17.extract x3.length (x3.length + 1),([] : List Int),5⟩ : S41)]) (by rw [List.length_append,List.length_singleton];omega) (hs.snoc (by simp) (by
   show (_ ++ _ : ByteArray).size <= 10;rw [ByteArray.size_append,e1]
   decide))
  refine ⟨L,Ev.succ ?_,hL,hS⟩;simp only [Fe.l2,show ((x3.length : Int) < (N : Int)) = True from eq_true (by omega),if_true,Xa,hw,hlet,e1,show ((x3.length : Int) <= ((x3.length + 1 : Nat) : Int)) = True from eq_true (by omega),show (((x3.length + 1 : Nat) : Int) <= 17) = True from eq_true (by omega),show (1 + 1 <= 9223372036854775807) = True from eq_true (by decide),show (x3.length < 2932031007402) = True from eq_true (by omega)];exact hE
def names7 : List ByteArray := [(⟨#[83,85,78]⟩ : ByteArray),(⟨#[72,79,85,83,69]⟩ : ByteArray),(⟨#[84,82,69,69]⟩ : ByteArray),(⟨#[82,65,73,78]⟩ : ByteArray),(⟨#[66,79,79,75]⟩ : ByteArray),(⟨#[69,73,71,72,84,76,69,84]⟩ : ByteArray),(⟨#[65]⟩ : ByteArray)]
theorem Uj : ∀ x,x ∈ names7 -> Yl x := Xd (Xe (by decide)) (Xd (Xe (by decide)) (Xd (Xe (by decide)) (Xd (Xe (by decide)) (Xd (Xe (by decide)) (Xd (Xe (by decide)) (Xd (Xe (by decide)) Z2))))))
theorem U3 {l : List Int} (hu : U8 l) {a : Int} (s : Int) (h0 : 0 <= a) (h1 : a <= 999999999900) : T1 (GQ.f l a s) a 4 Yl := by
 obtain ⟨y2,a2,s2,e2,m2,p2,q2⟩ := Tw hu s h0 (by omega) [(⟨#[]⟩ : ByteArray),(⟨#[115,117,110]⟩ : ByteArray),(⟨#[78,73,78,69,76,69,84,84,69]⟩ : ByteArray),(⟨#[65,49]⟩ : ByteArray),(⟨#[90,79,79]⟩ : ByteArray),(⟨#[65]⟩ : ByteArray)] (by simp) (by simp);obtain ⟨y3,a3,s3,e3,m3,p3,q3⟩ := Tw hu s2 (a := a2) (by omega) (by omega) [(⟨#[83,85,78]⟩ : ByteArray),(⟨#[72,79,85,83,69]⟩ : ByteArray),(⟨#[84,82,69,69]⟩ : ByteArray),(⟨#[82,65,73,78]⟩ : ByteArray),(⟨#[66,79,79,75]⟩ : ByteArray),(⟨#[83,85,78]⟩ : ByteArray),y2] (by simp) (by simp);have h2 : Yl y2 := Xd (Xe (by decide)) (Xd (Xe (by decide)) (Xd (Xe (by decide)) (Xd (Xe (by decide)) (Xd (Xe (by decide)) (Xd (Xe (by decide)) Z2))))) _ m2;have h3 : Yl y3 := Xd (Xe (by decide)) (Xd (Xe (by decide)) (Xd (Xe (by decide)) (Xd (Xe (by decide)) (Xd (Xe (by decide)) (Xd (Xe (by decide)) (Xd h2 Z2)))))) _ m3;unfold GQ.f;simp only [e2,e3,Option.bind_some];exact ⟨_,_,_,rfl,h3,by omega,by omega⟩
theorem Ju {l : List Int} (hu : U8 l) (x3 : List S41) (n : Int) (i : Nat) (g : ByteArray) (us a0 B : Int) (P : List S41 × Int × Int -> Prop) (hx : x3.length <= 100) (hi : i <= 100) (h00 : 0 <= a0) (hB : B <= 999999999000)
  (hc : ∀ (nd : List Int) (a s : Int),nd.length <= i -> a0 <= a -> a <= B -> ∃ r,Ev (fun k => Fe.l0 k (x3 ++ [(⟨g,nd,us⟩ : S41)]) names7 n ((i + 1 : Nat) : Int) l a s) r ∧ P r) :
  ∀ (d q : Nat) (nd : List Int) (a s : Int),q + d = i -> nd.length <= q -> a0 <= a -> a + 2 * d <= B -> ∃ r,Ev (fun k => Fe.l1 k x3 names7 n (i : Int) (q : Int) l a s g nd us) r ∧ P r := by
 intro d
 induction d with
 | zero =>
  intro q nd a s hq hn h0 h1;obtain rfl : q = i := by omega
  obtain ⟨r,hE,hP⟩ := hc nd a s hn h0 (by omega);refine ⟨r,Ev.succ ?_,hP⟩;simp only [Fe.l1,show ((q : Int) < (q : Int)) = False from eq_false (by omega),if_false,show (x3.length < 2932031007402) = True from eq_true (by omega),if_true,Xb (show q < 4611686018427387904 by omega)];exact hE
 | succ d ih =>
  intro q nd a s hq hn h0 h1;obtain ⟨b,a1,s1,e1,_,p1,q1⟩ := Vt hu s (a := a) (by omega) (by omega) 3 (by decide) (by decide);have hw : wrap64 ((q : Int) + 1) = ((q + 1 : Nat) : Int) := Xb (by omega);have hlt : ((q : Int) < (i : Int)) = True := eq_true (by omega);cases b with
  | true =>
   obtain ⟨r,hE,hP⟩ := ih (q + 1) (nd ++ [(q : Int)]) a1 s1 (by omega) (by rw [List.length_append,List.length_singleton];omega) (by omega) (by omega);refine ⟨r,Ev.succ ?_,hP⟩;simp only [Fe.l1,hlt,if_true,e1,Option.bind_some,show (nd.length < 17592186044416) = True from eq_true (by omega),hw];exact hE
  | false =>
   obtain ⟨r,hE,hP⟩ := ih (q + 1) nd a1 s1 (by omega) (by omega) (by omega) (by omega);refine ⟨r,Ev.succ ?_,hP⟩;simp only [Fe.l1,hlt,if_true,e1,Option.bind_some,Bool.false_eq_true,if_false,hw];exact hE
theorem Ji {l : List Int} (hu : U8 l) (n : Nat) (hn : n <= 7) (x3 : List S41) (a s : Int) (hx : x3.length = n) (hs : WSh 7 x3) (h0 : 0 <= a) (h1 : a <= 999999998000) :
  ∃ r,Ev (fun k => Fe.l0 k x3 names7 (n : Int) (n : Int) l a s) r ∧ (r.1.length <= 17 ∧ WSh 10 r.1 ∧ a <= r.2.1 ∧ r.2.1 <= a + 20) := by
 have hs10 := hs.mono (show 7 <= 10 by decide);by_cases hp : (n : Int) > 0
 ·obtain ⟨i,a1,s1,e1,⟨i0,i1⟩,p1,q1⟩ := Xf hu s h0 (by omega) (n : Int) (by omega) (by omega);obtain ⟨m,a2,s2,e2,_,p2,q2⟩ := Xf hu s1 (a := a1) (by omega) (by omega) 16 (by decide) (by decide);have hi : (i < (x3.length : Int)) = True := eq_true (by omega);obtain ⟨w1,w2⟩ := hs.at i;by_cases c0 : m = 0
  ·obtain ⟨y,a3,s3,e3,_,p3,q3⟩ := Xf hu s2 (a := a2) (by omega) (by omega) (n : Int) (by omega) (by omega);obtain ⟨z,hz,hzl⟩ := Tf (rd_T41 x3 i).f1 y (by omega);refine ⟨(x3.set (i : Int).toNat (⟨(rd_T41 x3 i).f0,z,(rd_T41 x3 i).f2⟩ : S41),a3,s3),Ev.succ ?_,?_,hs10.set _ (by show z.length <= 10;omega) w2,by show a <= a3;omega,by show a3 <= a + 20;omega⟩
   ·simp only [Fe.l0,show ((n : Int) < (n : Int)) = False from eq_false (by omega),if_false,eq_true hp,if_true,e1,e2,Option.bind_some,eq_true c0,eq_true i0,hi,e3];exact Ev.bind hz (Ev.now _)
   ·show (x3.set _ _).length <= 17;rw [List.length_set];omega
  by_cases c1 : m = 1
  ·obtain ⟨y,a3,s3,e3,_,p3,q3⟩ := Xl hu s2 (a := a2) (by omega) (by omega) [(-1),(n : Int),0] (by simp) (by simp);refine ⟨(x3.set (i : Int).toNat (⟨(rd_T41 x3 i).f0,(rd_T41 x3 i).f1 ++ [y],(rd_T41 x3 i).f2⟩ : S41),a3,s3),Ev.succ ?_,?_,hs10.set _ (by show (_ ++ _ : List Int).length <= 10;rw [List.length_append,List.length_singleton];omega) w2,by show a <= a3;omega,by show a3 <= a + 20;omega⟩
   ·simp only [Fe.l0,show ((n : Int) < (n : Int)) = False from eq_false (by omega),if_false,eq_true hp,if_true,e1,e2,Option.bind_some,eq_false c0,eq_true c1,eq_true i0,hi,e3,eq_false c0,show ((rd_T41 x3 i).f1.length < 17592186044416) = True from eq_true (by omega)];exact Ev.now _
   ·show (x3.set _ _).length <= 17;rw [List.length_set];omega
  by_cases c2 : m = 2
  ·obtain ⟨y,a3,s3,e3,hy,p3,q3⟩ := U3 hu s2 (a := a2) (by omega) (by omega);refine ⟨(x3.set (i : Int).toNat (⟨y,(rd_T41 x3 i).f1,(rd_T41 x3 i).f2⟩ : S41),a3,s3),Ev.succ ?_,?_,hs10.set _ (by show (rd_T41 x3 i).f1.length <= 10;omega) hy,by show a <= a3;omega,by show a3 <= a + 20;omega⟩
   ·simp only [Fe.l0,show ((n : Int) < (n : Int)) = False from eq_false (by omega),if_false,eq_true hp,if_true,e1,e2,Option.bind_some,eq_true c2,eq_true i0,hi,e3,eq_false c0,eq_false c1];exact Ev.now _
   ·show (x3.set _ _).length <= 17;rw [List.length_set];omega
  by_cases c3 : m = 3
  ·obtain ⟨y,a3,s3,e3,hy,p3,q3⟩ := Xl hu s2 (a := a2) (by omega) (by omega) [(-1),100000] (by simp) (by simp);refine ⟨(x3.set (i : Int).toNat (⟨(rd_T41 x3 i).f0,(rd_T41 x3 i).f1,y⟩ : S41),a3,s3),Ev.succ ?_,?_,hs10.set _ (by show (rd_T41 x3 i).f1.length <= 10;omega) w2,by show a <= a3;omega,by show a3 <= a + 20;omega⟩
   ·simp only [Fe.l0,show ((n : Int) < (n : Int)) = False from eq_false (by omega),if_false,eq_true hp,if_true,e1,e2,Option.bind_some,eq_true c3,eq_true i0,hi,e3,eq_false c0,eq_false c1,eq_false c2];exact Ev.now _
   ·show (x3.set _ _).length <= 17;rw [List.length_set];omega
  by_cases c4 : m = 4
  ·obtain ⟨y,a3,s3,e3,⟨y0,y1⟩,p3,q3⟩ := Xf hu s2 (a := a2) (by omega) (by omega) 2 (by decide) (by decide);obtain ⟨N,hN⟩ : ∃ N : Nat,16 + y = (N : Int) := ⟨(16 + y).toNat,by omega⟩;obtain ⟨L,hE,hL,hS⟩ := Tb (l := l) (a := a3) (s := s3) N (by omega) N [] (by simp) (fun x hx => by cases hx);refine ⟨(L,a3,s3),Ev.succ ?_,hL,hS,by show a <= a3;omega,by show a3 <= a + 20;omega⟩;simp only [Fe.l0,show ((n : Int) < (n : Int)) = False from eq_false (by omega),if_false,eq_true hp,if_true,e1,e2,Option.bind_some,eq_true c4,e3,eq_false c0,eq_false c1,eq_false c2,eq_false c3];rw [Xc (by omega) (by omega),hN];exact hE
  ·refine ⟨(x3,a2,s2),Ev.succ ?_,by show x3.length <= 17;omega,hs10,by show a <= a2;omega,by show a2 <= a + 20;omega⟩;simp only [Fe.l0,show ((n : Int) < (n : Int)) = False from eq_false (by omega),if_false,eq_true hp,if_true,e1,e2,Option.bind_some,eq_false c0,eq_false c1,eq_false c2,eq_false c3,eq_false c4];exact Ev.now _
 ·refine ⟨(x3,a,s),Ev.succ ?_,by show x3.length <= 17;omega,hs10,Int.le_refl _,by show a <= a + 20;omega⟩;simp only [Fe.l0,show ((n : Int) < (n : Int)) = False from eq_false (by omega),if_false,eq_false hp];exact Ev.now _
theorem J5 {l : List Int} (hu : U8 l) (n : Nat) (hn : n <= 7) : ∀ (d j : Nat) (x3 : List S41) (a s : Int),j + d = n -> x3.length = j -> WSh 7 x3 -> 0 <= a -> a + 20 * d <= 999999998000 -> ∃ r,Ev (fun k => Fe.l0 k x3 names7 (n : Int) (j : Int) l a s) r ∧ (r.1.length <= 17 ∧ WSh 10 r.1 ∧ a <= r.2.1 ∧ r.2.1 <= a + 20 * d + 20) := by
 intro d
 induction d with
 | zero =>
  intro j x3 a s hd hl hs h0 h1;obtain rfl : j = n := by omega
  obtain ⟨r,hE,h2,h3,h4,h5⟩ := Ji hu j hn x3 a s hl hs h0 (by omega);exact ⟨r,hE,h2,h3,h4,by omega⟩
 | succ d ih =>
  intro j x3 a s hd hl hs h0 h1;obtain ⟨us,a1,s1,e1,_,p1,q1⟩ := Xl hu s h0 (by omega) [0,1,10,10,50,500,99999] (by decide) (by decide);have hj : ((j : Int) < (n : Int)) = True := eq_true (by omega);have hn7 : ((j : Int) < (names7.length : Int)) = True := eq_true (by show (j : Int) < 7;omega);have hm : rdOf ByteArray.empty names7 (j : Int) ∈ names7 := by
   have hlt : j < names7.length := by show j < 7;omega
   have e : rdOf ByteArray.empty names7 (j : Int) = names7[j] := by
    show names7.getD ((j : Int)).toNat ByteArray.empty = _;rw [Int.toNat_natCast,List.getD_eq_getElem?_getD,List.getElem?_eq_getElem hlt];rfl
   rw [e];exact List.getElem_mem _
  obtain ⟨r,hE,hP⟩ := Ju hu x3 (n : Int) j (rdOf ByteArray.empty names7 (j : Int)) us a1 (a1 + 2 * j) (fun r => r.1.length <= 17 ∧ WSh 10 r.1 ∧ a <= r.2.1 ∧ r.2.1 <= a + 20 * ((d + 1 : Nat) : Int) + 20) (by omega) (by omega) (by omega) (by omega)
   (fun nd a2 s2 hnd h2 h3 => by
    obtain ⟨r,hE,g1,g2,g3,g4⟩ := ih (j + 1) (x3 ++ [(⟨rdOf ByteArray.empty names7 (j : Int),nd,us⟩ : S41)]) a2 s2 (by omega) (by rw [List.length_append,List.length_singleton];omega) (hs.snoc (by show nd.length <= 7;omega) (Uj _ hm)) (by omega) (by omega);exact ⟨r,hE,g1,g2,by omega,by omega⟩)
   j 0 [] a1 s1 (by omega) (by simp) (Int.le_refl _) (by omega)
  refine ⟨r,Ev.succ ?_,hP⟩;simp only [Fe.l0,hj,if_true,Xa,hn7,e1,Option.bind_some];exact hE
theorem Ta {l : List Int} (hu : U8 l) {a : Int} (s : Int) (h0 : 0 <= a) (h1 : a <= 999999997000) : ∃ L a' s',Ev (fun k => Fe.f k l a s) (L,a',s') ∧ L.length <= 17 ∧ WSh 10 L ∧ a <= a' ∧ a' <= a + 200 := by
 obtain ⟨n,a1,s1,e1,⟨n0,n1⟩,p1,q1⟩ := Xf hu s h0 (by omega) 8 (by decide) (by decide);obtain ⟨m,rfl⟩ : ∃ m : Nat,n = (m : Int) := ⟨n.toNat,by omega⟩;obtain ⟨⟨L,a',s'⟩,hE,g1,g2,g3,g4⟩ := J5 hu m (by omega) m 0 [] a1 s1 (by omega) rfl (fun x hx => by cases hx) (by omega) (by omega);refine ⟨L,a',s',?_,g1,g2,by have : a1 <= a' := g3;omega,by have : a' <= a1 + 20 * (m : Int) + 20 := g4;omega⟩;unfold Fe.f;have hn7 : ([(⟨#[83,85,78]⟩ : ByteArray),(⟨#[72,79,85,83,69]⟩ : ByteArray),(⟨#[84,82,69,69]⟩ : ByteArray),(⟨#[82,65,73,78]⟩ : ByteArray),(⟨#[66,79,79,75]⟩ : ByteArray),(⟨#[69,73,71,72,84,76,69,84]⟩ : ByteArray),(⟨#[65]⟩ : ByteArray)] : List ByteArray) = names7 := rfl;have e8 : wrap64 ((names7.length : Int) + 1) = 8 := by show wrap64 (((7 : Nat) : Int) + 1) = 8;exact Xc (by decide) (by decide)
 simp only [hn7,Option.bind_some,e8,e1];exact hE
def Zo (need : Int -> List Int) : List Int -> List Int -> Prop
 | _,[] => True
 | done,x :: t => (∀ k,k ∈ need x -> k ∈ done) ∧ Zo need (done ++ [x]) t
theorem Zv {need : Int -> List Int} : ∀ (a b done : List Int),Zo need done (a ++ b) ↔ Zo need done a ∧ Zo need (done ++ a) b
 | [],b,done => by simp [Zo]
 | x :: a,b,done => by
  show (_ ∧ Zo need (done ++ [x]) (a ++ b)) ↔ (_ ∧ Zo need (done ++ [x]) a) ∧ _;rw [Zv a b (done ++ [x]),List.append_assoc,List.singleton_append,and_assoc]
theorem Y8 : ∀ (a b : List Int),a.Nodup -> (∀ x,x ∈ a -> x ∈ b) -> a.length <= b.length
 | [],b,_,_ => by simp
 | x :: a,b,hn,hs => by
  obtain ⟨hx,ha⟩ := List.nodup_cons.1 hn;obtain ⟨p,q,rfl⟩ := List.append_of_mem (hs x (List.mem_cons_self ..));have := Y8 a (p ++ q) ha (fun y hy => by
   have h1 := hs y (List.mem_cons_of_mem _ hy);simp only [List.mem_append,List.mem_cons] at h1 ⊢;rcases h1 with h1 | rfl | h1
   ·exact Or.inl h1
   ·exact absurd hy hx
   ·exact Or.inr h1)
  simp only [List.length_append,List.length_cons] at this ⊢;omega
theorem Gi {a b : List Int} (ha : a.Nodup) (hb : b.Nodup) (h : ∀ x,x ∈ a ↔ x ∈ b) : a.length = b.length :=
 Nat.le_antisymm (Y8 a b ha (fun x => (h x).1)) (Y8 b a hb (fun x => (h x).2))
theorem Ti (n : Nat) : ∀ x : Int,x ∈ (List.range n).map Int.ofNat ↔ 0 <= x ∧ x < n := by
 intro x;rw [List.mem_map]
 constructor
 ·rintro ⟨i,hi,rfl⟩;have := List.mem_range.1 hi;exact ⟨Int.natCast_nonneg i,by show (i : Int) < n;omega⟩
 ·rintro ⟨h0,h1⟩;exact ⟨x.toNat,List.mem_range.2 (by omega),by show (x.toNat : Int) = x;omega⟩
theorem Xz {n : Nat} {a : List Int} (ha : a.Nodup) (hr : ∀ x,x ∈ a -> 0 <= x ∧ x < n) : a.length <= n := by
 have := Y8 a ((List.range n).map Int.ofNat) ha (fun x hx => (Ti n x).2 (hr x hx))
 simpa using this
theorem Vm {n : Nat} {a : List Int} (ha : a.Nodup) (hr : ∀ x,x ∈ a -> 0 <= x ∧ x < n) (hl : n <= a.length) : ∀ x : Int,0 <= x -> x < n -> x ∈ a := by
 intro x h0 h1;by_cases h : x ∈ a
 ·exact h
 ·have := Xz (n := n) (a := x :: a) (List.nodup_cons.2 ⟨h,ha⟩) (fun y hy => by
   rcases List.mem_cons.1 hy with rfl | hy
   ·exact ⟨h0,h1⟩
   ·exact hr y hy)
  simp only [List.length_cons] at this;omega
def Yp (us : Int -> Int) (p : Int -> Bool) : Nat -> Nat -> Int -> Int
 | 0,_,b => b
 | d + 1,j,b => Yp us p d (j + 1) (if p (j : Int) && (decide (b < 0) || decide (us (j : Int) > us b)) then (j : Int) else b)
theorem Gt (us : Int -> Int) (p : Int -> Bool) (N : Nat) : ∀ d j (b : Int),j + d = N -> (b = -1 ∧ (∀ i : Nat,i < j -> p i = false) ∨ 0 <= b ∧ b < N ∧ p b = true) ->
  (Yp us p d j b = -1 ∧ (∀ i : Nat,i < N -> p i = false)) ∨ (0 <= Yp us p d j b ∧ Yp us p d j b < N ∧ p (Yp us p d j b) = true) := by
 intro d
 induction d with
 | zero =>
  intro j b hj h;rw [Nat.add_zero] at hj;subst hj;exact h
 | succ d ih =>
  intro j b hj h;unfold Yp;refine ih (j + 1) _ (by omega) ?_;by_cases hp : p (j : Int) = true
  ·by_cases hc : (decide (b < 0) || decide (us (j : Int) > us b)) = true
   ·simp only [hp,hc,Bool.true_and,if_true];exact Or.inr ⟨by omega,by omega,by first|exact hp | trivial⟩
   ·simp only [hp,hc,Bool.true_and,Bool.false_eq_true,if_false];rcases h with ⟨rfl,_⟩ | h
    ·simp at hc
    ·exact Or.inr h
  ·rw [Bool.not_eq_true] at hp;simp only [hp,Bool.false_and,Bool.false_eq_true,if_false];rcases h with ⟨rfl,h⟩ | h
   ·refine Or.inl ⟨rfl,fun i hi => ?_⟩;by_cases e : i = j
    ·subst e;exact hp
    ·exact h i (by omega)
   ·exact Or.inr h
def Yg (us : Int -> Int) (p : Int -> Bool) (N : Nat) : Int := Yp us p N 0 (-1)
theorem Uo (us : Int -> Int) (p : Int -> Bool) (N : Nat) : (Yg us p N = -1 ∧ ∀ i : Nat,i < N -> p i = false) ∨ (0 <= Yg us p N ∧ Yg us p N < N ∧ p (Yg us p N) = true) :=
 Gt us p N N 0 (-1) (by omega) (Or.inl ⟨rfl,fun i hi => absurd hi (by omega)⟩)
theorem Vb (us : Int -> Int) (p q : Int -> Bool) : ∀ d j (b : Int),(∀ i : Nat,j <= i -> i < j + d -> p i = q i) -> Yp us p d j b = Yp us q d j b
 | 0,_,_,_ => rfl
 | d + 1,j,b,h => by
  unfold Yp;rw [h j (by omega) (by omega)];exact Vb us p q d (j + 1) _ (fun i h1 h2 => h i (by omega) (by omega))
theorem Gu (us : Int -> Int) (p q : Int -> Bool) (N : Nat) (h : ∀ i : Nat,i < N -> p i = q i) : Yg us p N = Yg us q N := Vb us p q N 0 (-1) (fun i _ h2 => h i (by omega))
def Tv (nd : Int -> List Int) (D : List Int) (i : Int) : Bool := (nd i).all fun k => decide (k ∈ D)
theorem G5 (nd : Int -> List Int) (D : List Int) (i : Int) : Tv nd D i = true ↔ ∀ k,k ∈ nd i -> k ∈ D := by
 unfold Tv;rw [List.all_eq_true];simp
def Xs (nd : Int -> List Int) (D L : List Int) (i : Int) : Bool := !(decide (i ∈ D)) && (!(decide (i ∈ L)) && Tv nd D i)
theorem Zz (nd : Int -> List Int) (D L : List Int) (i : Int) : Xs nd D L i = true ↔ i ∉ D ∧ i ∉ L ∧ ∀ k,k ∈ nd i -> k ∈ D := by
 unfold Xs;rw [Bool.and_eq_true,Bool.and_eq_true,G5];simp
def Xn (us : Int -> Int) (nd : Int -> List Int) (N : Nat) (D : List Int) : Nat -> List Int -> List Int
 | 0,L => L
 | f + 1,L => if Yg us (Xs nd D L) N < 0 then L else Xn us nd N D f (L ++ [Yg us (Xs nd D L) N])
structure Good (nd : Int -> List Int) (N : Nat) (D : List Int) : Prop where
 nodup : D.Nodup
 range : ∀ x,x ∈ D -> 0 <= x ∧ x < N
 teach : Zo nd [] D
def J4 (nd : Int -> List Int) (N : Nat) (D : List Int) : Prop := ∀ i : Int,0 <= i ∧ i < N -> i ∉ D -> ∃ k,k ∈ nd i ∧ k ∉ D
theorem Zq (nd : Int -> List Int) (N : Nat) : Good nd N [] := ⟨List.nodup_nil,fun _ h => absurd h (List.not_mem_nil),trivial⟩
theorem Vz {us : Int -> Int} {nd : Int -> List Int} {N : Nat} {D : List Int} (h : Yg us (Xs nd D []) N < 0) : J4 nd N D := by
 rcases Uo us (Xs nd D []) N with ⟨_,h2⟩ | ⟨h0,_⟩
 ·intro i hi hn;have := h2 i.toNat (by omega);rw [show ((i.toNat : Nat) : Int) = i by omega] at this;have hr : Tv nd D i = false := by
   by_cases hr : Tv nd D i = true
   ·have : Xs nd D [] i = true := (Zz nd D [] i).2 ⟨hn,by simp,(G5 nd D i).1 hr⟩
    simp_all
   ·simpa using hr
  unfold Tv at hr;rw [List.all_eq_false] at hr;obtain ⟨k,hk,hk2⟩ := hr;exact ⟨k,hk,by simpa using hk2⟩
 ·omega
structure Pick (nd : Int -> List Int) (N : Nat) (D L : List Int) : Prop where
 nodup : L.Nodup
 out : ∀ x,x ∈ L -> x ∉ D
 range : ∀ x,x ∈ L -> 0 <= x ∧ x < N
 ready : ∀ x,x ∈ L -> ∀ k,k ∈ nd x -> k ∈ D
theorem Y1 (nd : Int -> List Int) (N : Nat) (D : List Int) : Pick nd N D [] := ⟨List.nodup_nil,fun _ h => absurd h (List.not_mem_nil),fun _ h => absurd h (List.not_mem_nil),fun _ h => absurd h (List.not_mem_nil)⟩
theorem Z0 {us : Int -> Int} {nd : Int -> List Int} {N : Nat} {D L : List Int} (hg : Pick nd N D L) (h : ¬ Yg us (Xs nd D L) N < 0) : Pick nd N D (L ++ [Yg us (Xs nd D L) N]) := by
 rcases Uo us (Xs nd D L) N with ⟨h1,_⟩ | ⟨h0,h1,h2⟩
 ·omega
 ·obtain ⟨a1,a2,a3⟩ := (Zz nd D L _).1 h2;have hm : ∀ x,x ∈ L ++ [Yg us (Xs nd D L) N] -> x ∈ L ∨ x = Yg us (Xs nd D L) N := fun x hx => by simpa using hx
  refine ⟨?_,fun x hx => ?_,fun x hx => ?_,fun x hx => ?_⟩
  ·rw [List.nodup_append];refine ⟨hg.nodup,by simp,?_⟩;intro x hx y hy;rw [List.mem_singleton] at hy;subst hy;intro e;subst e;exact a2 hx
  ·rcases hm x hx with hx | rfl
   ·exact hg.out x hx
   ·exact a1
  ·rcases hm x hx with hx | rfl
   ·exact hg.range x hx
   ·exact ⟨h0,h1⟩
  ·rcases hm x hx with hx | rfl
   ·exact hg.ready x hx
   ·exact a3
theorem Yj (us : Int -> Int) (nd : Int -> List Int) (N : Nat) (D : List Int) : ∀ f L,Pick nd N D L -> Pick nd N D (Xn us nd N D f L) ∧ (Xn us nd N D f L).length <= L.length + f ∧ L.length <= (Xn us nd N D f L).length
 | 0,L,h => ⟨h,by simp [Xn],by simp [Xn]⟩
 | f + 1,L,h => by
  unfold Xn;by_cases h1 : Yg us (Xs nd D L) N < 0
  ·rw [if_pos h1];exact ⟨h,by omega,by omega⟩
  ·rw [if_neg h1];obtain ⟨a,b,c⟩ := Yj us nd N D f _ (Z0 h h1);simp only [List.length_append,List.length_singleton] at b c;exact ⟨a,by omega,by omega⟩
theorem Gx {us : Int -> Int} {nd : Int -> List Int} {N : Nat} {D : List Int} {f : Nat} (hf : 0 < f) (h : Xn us nd N D f [] = []) : J4 nd N D := by
 obtain ⟨f,rfl⟩ : ∃ g,f = g + 1 := ⟨f - 1,by omega⟩;unfold Xn at h;by_cases h1 : Yg us (Xs nd D []) N < 0
 ·exact Vz h1
 ·rw [if_neg h1] at h;obtain ⟨_,_,c⟩ := Yj us nd N D f _ (Z0 (Y1 nd N D) h1);rw [h] at c;simp at c
theorem Je {us : Int -> Int} {nd : Int -> List Int} {N : Nat} {D : List Int} {f : Nat} (hg : Good nd N D) (h : N <= D.length) : Xn us nd N D f [] = [] := by
 cases f with
 | zero => rfl
 | succ f =>
  unfold Xn;rcases Uo us (Xs nd D []) N with ⟨h1,_⟩ | ⟨h0,h1,h2⟩
  ·rw [if_pos (by omega)]
  ·exact absurd (Vm hg.nodup hg.range h _ h0 h1) ((Zz nd D [] _).1 h2).1
theorem Va {nd : Int -> List Int} {N : Nat} {D L : List Int} (hg : Good nd N D) (hp : Pick nd N D L) : Good nd N (D ++ L) := by
 refine ⟨?_,?_,?_⟩
 ·rw [List.nodup_append];exact ⟨hg.nodup,hp.nodup,fun x hx y hy e => hp.out y hy (e ▸ hx)⟩
 ·intro x hx;rcases List.mem_append.1 hx with hx | hx
  ·exact hg.range x hx
  ·exact hp.range x hx
 ·rw [Zv];refine ⟨hg.teach,?_⟩;have : ∀ (t E : List Int),(∀ x,x ∈ t -> ∀ k,k ∈ nd x -> k ∈ E) -> Zo nd E t := by
   intro t
   induction t with
   | nil => intro E _;trivial
   | cons y t ih => intro E h;exact ⟨h y (List.mem_cons_self ..),ih _ (fun x hx k hk => List.mem_append_left _ (h x (List.mem_cons_of_mem _ hx) k hk))⟩
  exact this L ([] ++ D) (by simpa using hp.ready)
theorem Ue {nd : Int -> List Int} {N : Nat} {D L M : List Int} (hp : Pick nd N D L) (hM : M.Nodup) (h : ∀ x,x ∈ M ↔ x ∈ L) : Pick nd N D M :=
 ⟨hM,fun x hx => hp.out x ((h x).1 hx),fun x hx => hp.range x ((h x).1 hx),fun x hx => hp.ready x ((h x).1 hx)⟩
def Y0 (us : Int -> Int) (nd : Int -> List Int) (N s : Nat) (srt : List Int -> List Int) : Nat -> List Int -> List (List Int) × List Int
 | 0,D => ([],D)
 | f + 1,D => if Xn us nd N D s [] = [] then ([],D) else ((srt (Xn us nd N D s []) :: (Y0 us nd N s srt f (D ++ srt (Xn us nd N D s []))).1),(Y0 us nd N s srt f (D ++ srt (Xn us nd N D s []))).2)
theorem Zi (us : Int -> Int) (nd : Int -> List Int) (N s : Nat) (srt : List Int -> List Int) (hs : 0 < s) (hsr : ∀ L : List Int,L.Nodup -> (srt L).Nodup ∧ (∀ x,x ∈ srt L ↔ x ∈ L) ∧ (srt L).length = L.length) : ∀ f D,Good nd N D -> N <= D.length + f -> Good nd N (Y0 us nd N s srt f D).2 ∧ J4 nd N (Y0 us nd N s srt f D).2
 | 0,D,hg,hf => ⟨hg,fun i hi hn => absurd (Vm hg.nodup hg.range (by omega) i hi.1 hi.2) hn⟩
 | f + 1,D,hg,hf => by
  unfold Y0;by_cases h : Xn us nd N D s [] = []
  ·rw [if_pos h];exact ⟨hg,Gx hs h⟩
  ·rw [if_neg h];obtain ⟨a,_,_⟩ := Yj us nd N D s [] (Y1 nd N D);obtain ⟨b1,b2,b3⟩ := hsr _ a.nodup;have h4 : 0 < (Xn us nd N D s []).length := List.length_pos_iff.2 h;exact Zi us nd N s srt hs hsr f _ (Va hg (Ue a b1 b2)) (by rw [List.length_append,b3];omega)
theorem Ul {α : Type} {p : Nat -> α -> Option Bool} {f : α -> Bool} : ∀ {l : List α},(∀ x,x ∈ l -> Ev (fun k => p k x) (f x)) -> Ev (fun k => Go.Proofs.YtgnijnlgbelifaaGreat.W.GIdx.anyO (p k) l) (l.any f)
 | [],_ => Ev.now _
 | x :: l,h => by
  unfold Go.Proofs.YtgnijnlgbelifaaGreat.W.GIdx.anyO;refine Ev.bind (h x (List.mem_cons_self ..)) ?_;rw [List.any_cons];cases f x with
  | true => exact Ev.now _
  | false => simpa using Ul (l := l) fun y hy => h y (List.mem_cons_of_mem _ hy)
theorem J1 {α β : Type} {g : Nat -> Option α} {r : α} (h : Ev g r) (f : α -> β) : Ev (fun k => (g k).map f) (f r) := by
 obtain ⟨K,h⟩ := h;exact ⟨K,fun k hk => by show (g k).map f = some (f r);rw [h k hk];rfl⟩
theorem Tk {α : Type} (l : List α) (f : α -> Bool) : (!l.any fun x => !f x) = l.all f := by
 induction l with
 | nil => rfl
 | cons x l ih => rw [List.any_cons,List.all_cons,<- ih,Bool.not_or,Bool.not_not]
theorem Zw {α : Type} {p : Nat -> α -> Option Bool} {f : α -> Bool} {l : List α} (h : ∀ x,x ∈ l -> Ev (fun k => p k x) (f x)) : Ev (fun k => Go.Proofs.YtgnijnlgbelifaaGreat.W.GIdx.allO (p k) l) (l.all f) := by
 unfold Go.Proofs.YtgnijnlgbelifaaGreat.W.GIdx.allO;have h1 := Ul (p := fun k x => (p k x).map (!·)) (f := fun x => !f x) (l := l) (fun x hx => J1 (h x hx) _);have h2 := J1 h1 (fun b => !b);rw [Tk] at h2;exact h2
theorem Vd (l : List (List Int)) (j : Nat) : rd_L2 l (j : Int) = l.getD j [] := by simp [rd_L2]
theorem V6 (l : List (List Int)) (j : Nat) (h : j < l.length) : l.getD j [] = l[j] := by rw [List.getD_eq_getElem?_getD,List.getElem?_eq_getElem h];rfl
theorem Yy {l : List (List Int)} {y : List Int} (h : y ∈ l) : y.length <= l.flatten.length := by
 obtain ⟨a,b,rfl⟩ := List.append_of_mem h;rw [List.flatten_append,List.flatten_cons,List.length_append,List.length_append];omega
theorem Xu (l : List (List Int)) (n : Nat) : (l.take n).flatten.length <= l.flatten.length := by
 have : l.flatten.length = (l.take n).flatten.length + (l.drop n).flatten.length := by
  rw [<- List.length_append,<- List.flatten_append,List.take_append_drop]
 omega
theorem Vv (l : List (List Int)) (n : Nat) (h : n < l.length) : (l.drop n).flatten = l[n] ++ (l.drop (n + 1)).flatten := by rw [List.drop_eq_getElem_cons h,List.flatten_cons]
theorem Xp (l : List (List Int)) (n : Nat) (h : n < l.length) : (l.take (n + 1)).flatten = (l.take n).flatten ++ l[n] := by rw [List.take_succ_eq_append_getElem h,List.flatten_append];simp
theorem G2 (l : List S41) (hl : l.length <= 1048576) : Yb l = (l.length : Int) - 1 := by
 unfold Yb;rw [Xc (by omega) (by omega)]
theorem Jk (ls : List (List Int)) (hs : ls.flatten.length <= 1048576) (hl : ls.length <= 1048576) : ∀ d n,n + d = ls.length -> Ev (fun k => Fq.l1 k (ls.take n).flatten ls (ls.length : Int) (n : Int)) ls.flatten := by
 intro d
 induction d with
 | zero =>
  intro n hn;refine Ev.succ ?_;have h1 : ((n : Int) < (ls.length : Int)) = False := eq_false (by omega);simp only [Fq.l1,h1,if_false];rw [List.take_of_length_le (by omega)];exact Ev.now _
 | succ d ih =>
  intro n hn;refine Ev.succ ?_;have hlt : n < ls.length := by omega
  have h1 : ((n : Int) < (ls.length : Int)) = True := eq_true (by omega);have hy := Yy (List.getElem_mem hlt);have ht := Xu ls n;have h2 : ((ls.take n).flatten.length + ls[n].length < 17592186044416) = True := eq_true (by omega);simp only [Fq.l1,h1,if_true,Xa,Vd,V6 ls n hlt,h2,Xb (show n < 4611686018427387904 by omega)];rw [<- Xp ls n hlt];exact ih (n + 1) (by omega)
theorem Jr (ls : List (List Int)) (hs : ls.flatten.length <= 1048576) (hl : ls.length <= 1048576) : ∀ d n,n + d = ls.length -> Ev (fun k => Fq.l0 k ls ((ls.take n).flatten.length : Int) ls (ls.length : Int) (n : Int)) ls.flatten := by
 intro d
 induction d with
 | zero =>
  intro n hn;refine Ev.succ ?_;have h1 : ((n : Int) < (ls.length : Int)) = False := eq_false (by omega);have ht := Xu ls n;simp only [Fq.l0,h1,if_false,Lb.f,Xa,if_true,show (((ls.take n).flatten.length : Int) < 17592186044416) = True from eq_true (by omega),Option.bind_some];exact Jk ls hs hl ls.length 0 (by omega)
 | succ d ih =>
  intro n hn;refine Ev.succ ?_;have hlt : n < ls.length := by omega
  have h1 : ((n : Int) < (ls.length : Int)) = True := eq_true (by omega);have hy := Yy (List.getElem_mem hlt);have ht := Xu ls n;have e : wrap64 (((ls.take n).flatten.length : Int) + (ls[n].length : Int)) = ((ls.take (n + 1)).flatten.length : Int) := by
   rw [Xc (by omega) (by omega),Xp ls n hlt,List.length_append];omega
  have h2 : (((ls.take (n + 1)).flatten.length : Int) < 0) = False := eq_false (by omega);simp only [Fq.l0,h1,if_true,Xa,Vd,V6 ls n hlt,e,h2,if_false,Xb (show n < 4611686018427387904 by omega)];exact ih (n + 1) (by omega)
theorem Ub (ls : List (List Int)) (hs : ls.flatten.length <= 1048576) (hl : ls.length <= 1048576) : Ev (fun k => Fq.f k ls) ls.flatten := by
 unfold Fq.f;exact Jr ls hs hl ls.length 0 (by omega)
def X1 (l : List S41) (done : List Int) (i : Int) : Bool := (X8 l i.toNat).f1.all fun x => decide (x ∈ done)
theorem Tz (l : List S41) (i : Int) : rd_T41 l i = X8 l i.toNat := rfl
theorem Uf (l : List Int) (p : Int -> Bool) : (List.range l.length).all (fun j => p (l.getD j 0)) = l.all p := by
 have hg : ∀ i (hi : i < l.length),l.getD i 0 = l[i] := fun i hi => by rw [List.getD_eq_getElem?_getD,List.getElem?_eq_getElem hi];rfl
 rw [Bool.eq_iff_iff,List.all_eq_true,List.all_eq_true]
 constructor
 ·intro h x hx;obtain ⟨i,hi,rfl⟩ := List.getElem_of_mem hx;have := h i (List.mem_range.2 hi)
  rwa [hg i hi] at this
 ·intro h j hj;rw [hg j (List.mem_range.1 hj)];exact h _ (List.getElem_mem _)
theorem Vn (l : List S41) (done : List Int) (i : Int) (hz : Zh l) (hd : done.length <= 1048576) (h0 : 0 <= i) (h1 : i < l.length) : Ev (fun k => FW.f k l done i) (X1 l done i) := by
 unfold FW.f X1;have hn := (Gw hz (show i.toNat < l.length by omega)).1;simp only [eq_true h0,eq_true h1,if_true,Tz];generalize (X8 l i.toNat).f1 = n at hn;refine Ev.eq (Ev.all0 (L := fun k j => FW.l0 k done n (n.length : Int) (j : Int)) (P := fun j => decide (n.getD j 0 ∈ done)) (n := n.length) (a := true) (b := false) ?_ ?_ ?_) (by rw [Uf n (fun x => decide (x ∈ done))];cases n.all fun x => decide (x ∈ done) <;> rfl)
 ·refine Ev.succ ?_;simp only [FW.l0,Int.lt_irrefl,if_false];exact Ev.now _
 ·intro j r hj hP h;refine Ev.succ ?_;have h1 : ((j : Int) < (n.length : Int)) = True := eq_true (by omega);simp only [FW.l0,h1,if_true,Xa,Yf,Xb (show j < 4611686018427387904 by omega)];refine Ev.bind (Xj _ _ (by omega)) ?_;simp only [hP,if_true];exact h
 ·intro j hj hP;refine Ev.succ ?_;have h1 : ((j : Int) < (n.length : Int)) = True := eq_true (by omega);simp only [FW.l0,h1,if_true,Xa,Yf];refine Ev.bind (Xj _ _ (by omega)) ?_;simp only [hP,Bool.false_eq_true,if_false];exact Ev.now _
theorem Gr (w : S41) (done : List Int) (hd : done.length <= 1048576) : Ev (fun k => Le.f k w.f0 w.f1 w.f2 done) (w.f1.all fun x => decide (x ∈ done)) := by
 unfold Le.f Lc.f GG.f;exact Ev.bind (Zw (fun x _ => Yi done x (by omega))) (Ev.now _)
theorem Vp (l : List S41) (y done : List Int) (hd : done.length <= 1048576) (hy : ∀ x,x ∈ y -> 0 <= x ∧ x < l.length) : Ev (fun k => GR.f k y l done) (y.all (X1 l done)) := by
 unfold GR.f GG.f;refine Zw (fun x hx => ?_);obtain ⟨h0,h1⟩ := hy x hx;simp only [eq_true h0,eq_true h1,if_true,Tz];exact Gr (X8 l x.toNat) done hd
def Xm (l : List S41) : List Int -> List Int -> Bool
 | _,[] => true
 | acc,x :: t => X5 x 0 (Yb l) && (!(decide (x ∈ acc)) && Xm l (acc ++ [x]) t)
theorem Zb (l : List S41) : ∀ (a b acc : List Int),Xm l acc (a ++ b) = (Xm l acc a && Xm l (acc ++ a) b)
 | [],b,acc => by simp [Xm]
 | x :: a,b,acc => by
  show (X5 x 0 (Yb l) && (!(decide (x ∈ acc)) && Xm l (acc ++ [x]) (a ++ b))) = ((X5 x 0 (Yb l) && (!(decide (x ∈ acc)) && Xm l (acc ++ [x]) a)) && Xm l (acc ++ x :: a) b);rw [Zb l a b (acc ++ [x]),List.append_assoc,List.singleton_append,Bool.and_assoc,Bool.and_assoc]
theorem Yu (l : List S41) : ∀ (t acc : List Int),Xm l acc t = true ↔ (∀ x,x ∈ t -> 0 <= x ∧ x <= Yb l) ∧ t.Nodup ∧ ∀ x,x ∈ t -> x ∉ acc
 | [],acc => by simp [Xm]
 | x :: t,acc => by
  unfold Xm X5;rw [Bool.and_eq_true,Bool.and_eq_true,Yu l t (acc ++ [x]),decide_eq_true_eq,Bool.not_eq_true',decide_eq_false_iff_not,List.nodup_cons]
  constructor
  ·rintro ⟨h1,h2,h3,h4,h5⟩;refine ⟨fun z hz => ?_,⟨fun hx => ?_,h4⟩,fun z hz => ?_⟩
   ·rcases List.mem_cons.1 hz with rfl | hz
    ·exact h1
    ·exact h3 z hz
   ·exact h5 x hx (by simp)
   ·rcases List.mem_cons.1 hz with rfl | hz
    ·exact h2
    ·exact fun h => h5 z hz (by simp [h])
  ·rintro ⟨h1,⟨h2,h3⟩,h4⟩;refine ⟨h1 x (List.mem_cons_self ..),h4 x (List.mem_cons_self ..),fun z hz => h1 z (List.mem_cons_of_mem _ hz),h3,fun z hz h => ?_⟩;rcases List.mem_append.1 h with h | h
   ·exact h4 z (List.mem_cons_of_mem _ hz) h
   ·rw [List.mem_singleton] at h;subst h;exact h2 hz
theorem Gc (l : List S41) (t : List Int) : Xm l [] t = (t.all (fun x => decide (0 <= x ∧ x <= Yb l)) && decide t.Nodup) := by
 rw [Bool.eq_iff_iff,Yu,Bool.and_eq_true,List.all_eq_true,decide_eq_true_eq]
 constructor
 ·rintro ⟨h1,h2,_⟩;exact ⟨fun x hx => decide_eq_true (h1 x hx),h2⟩
 ·rintro ⟨h1,h2⟩;exact ⟨fun x hx => of_decide_eq_true (h1 x hx),h2,fun x _ h => nomatch h⟩
theorem Jq (l : List S41) (ls : List (List Int)) (n : Nat) (y : List Int) (r : Bool) (hy : y.length <= 1048576) : ∀ d i (acc : List Int),i + d = y.length -> acc.length + d <= 1048576 -> Ev (fun k => FR.l0 k l ls (acc ++ y.drop i) ls (ls.length : Int) (wrap64 ((n : Int) + 1))) r -> Ev (fun k => FR.l1 k l ls acc ls (ls.length : Int) (n : Int) y (y.length : Int) (i : Int)) (if Xm l acc (y.drop i) then r else false) := by
 intro d
 induction d with
 | zero =>
  intro i acc hi ha hc;refine Ev.succ ?_;have h1 : ((i : Int) < (y.length : Int)) = False := eq_false (by omega);rw [List.drop_of_length_le (by omega),List.append_nil] at hc;rw [List.drop_of_length_le (by omega)];simp only [FR.l1,h1,if_false,Xm,if_true];exact hc
 | succ d ih =>
  intro i acc hi ha hc;refine Ev.succ ?_;have hlt : i < y.length := by omega
  have h1 : ((i : Int) < (y.length : Int)) = True := eq_true (by omega);have hg : y.getD i 0 = y[i] := by rw [List.getD_eq_getElem?_getD,List.getElem?_eq_getElem hlt];rfl
  have h2 : (acc.length < 17592186044416) = True := eq_true (by omega);have e : Xm l acc (y.drop i) = (X5 y[i] 0 (Yb l) && (!(decide (y[i] ∈ acc)) && Xm l (acc ++ [y[i]]) (y.drop (i + 1)))) := by rw [List.drop_eq_getElem_cons hlt];rfl
  rw [e];simp only [FR.l1,h1,if_true,Xa,Yf,hg,Xw,Option.bind_some,h2,Xb (show i < 4611686018427387904 by omega)];change Ev (fun k => if X5 y[i] 0 (Yb l) = true then _ else _) _;cases X5 y[i] 0 (Yb l) with
  | false =>
   simp only [Bool.false_eq_true,if_false,Bool.false_and];exact Ev.now _
  | true =>
   simp only [if_true,Bool.true_and];refine Ev.bind (Xj _ _ (by omega)) ?_;cases decide (y[i] ∈ acc) with
   | true =>
    simp only [if_true,Bool.not_true,Bool.false_and,Bool.false_eq_true,if_false];exact Ev.now _
   | false =>
    simp only [Bool.false_eq_true,if_false,Bool.not_false,Bool.true_and];refine ih (i + 1) (acc ++ [y[i]]) (by omega) (by rw [List.length_append];simp;omega) ?_;rw [List.append_assoc,List.singleton_append,<- List.drop_eq_getElem_cons hlt];exact hc
theorem Jc (l : List S41) (ls : List (List Int)) (hs : ls.flatten.length <= 1048576) (hl : ls.length <= 1048576) : ∀ d n,n + d = ls.length -> Ev (fun k => FR.l0 k l ls (ls.take n).flatten ls (ls.length : Int) (n : Int)) (if Xm l (ls.take n).flatten (ls.drop n).flatten then decide (ls.length <= 16) else false) := by
 intro d
 induction d with
 | zero =>
  intro n hn;refine Ev.succ ?_;have h1 : ((n : Int) < (ls.length : Int)) = False := eq_false (by omega);rw [List.drop_of_length_le (by omega)];simp only [FR.l0,h1,if_false,List.flatten_nil,Xm,if_true];refine Ev.eq (Ev.now _) ?_;rw [decide_eq_decide];omega
 | succ d ih =>
  intro n hn;refine Ev.succ ?_;have hlt : n < ls.length := by omega
  have h1 : ((n : Int) < (ls.length : Int)) = True := eq_true (by omega);have hy := Yy (List.getElem_mem hlt);have ht : (ls.take (n + 1)).flatten.length <= ls.flatten.length := Xu ls (n + 1);rw [Xp ls n hlt,List.length_append] at ht;simp only [FR.l0,h1,if_true,Xa,Vd,V6 ls n hlt];have h2 := ih (n + 1) (by omega);rw [Xp ls n hlt] at h2;have h3 := Jq l ls n ls[n] _ (by omega) ls[n].length 0 (ls.take n).flatten (by omega) (by omega) (by rw [List.drop_zero,Xb (show n < 4611686018427387904 by omega)];exact h2);rw [List.drop_zero] at h3;refine Ev.eq h3 ?_;rw [Vv ls n hlt,Zb];cases Xm l (ls.take n).flatten ls[n] <;> simp
def Jw (l : List S41) (ls : List (List Int)) : Bool := Xm l [] ls.flatten && decide (ls.length <= 16)
theorem Jp (l : List S41) (ls : List (List Int)) (hs : ls.flatten.length <= 1048576) (hl : ls.length <= 1048576) : Ev (fun k => FR.f k l ls) (Jw l ls) := by
 unfold FR.f Jw;have := Jc l ls hs hl ls.length 0 (by omega);refine Ev.eq this ?_;rw [List.take_zero,List.drop_zero,List.flatten_nil];cases Xm l [] ls.flatten <;> simp
def Ty (l : List S41) : List Int -> Nat -> List (List Int) -> Int × Int
 | _,_,[] => (-1,-1)
 | done,n,y :: t => match y.find? (fun x => !X1 l done x) with
  | some x => ((n : Int),x)
  | none => Ty l (done ++ y) (n + 1) t
theorem V1 (l : List S41) (ls : List (List Int)) (done y : List Int) (n : Nat) (r : Int × Int) (hz : Zh l) (hd : done.length + y.length <= 1048576) (hy : ∀ x,x ∈ y -> 0 <= x ∧ x < l.length) (hc : Ev (fun k => Fy.l0 k l (done ++ y) ls (ls.length : Int) (wrap64 ((n : Int) + 1))) r) : ∀ d i,i + d = y.length -> Ev (fun k => Fy.l1 k l done (n : Int) y ls (ls.length : Int) (n : Int) y (y.length : Int) (i : Int)) (match (y.drop i).find? (fun x => !X1 l done x) with | some x => ((n : Int),x) | none => r) := by
 intro d
 induction d with
 | zero =>
  intro i hi;refine Ev.succ ?_;have h1 : ((i : Int) < (y.length : Int)) = False := eq_false (by omega);have h2 : (done.length + y.length < 17592186044416) = True := eq_true (by omega);rw [List.drop_of_length_le (by omega)];simp only [Fy.l1,h1,if_false,h2,if_true,List.find?_nil];exact hc
 | succ d ih =>
  intro i hi;refine Ev.succ ?_;have hlt : i < y.length := by omega
  have h1 : ((i : Int) < (y.length : Int)) = True := eq_true (by omega);have hg : y.getD i 0 = y[i] := by rw [List.getD_eq_getElem?_getD,List.getElem?_eq_getElem hlt];rfl
  have hb := hy y[i] (List.getElem_mem hlt);rw [List.drop_eq_getElem_cons hlt,List.find?_cons];simp only [Fy.l1,h1,if_true,Xa,Yf,hg,Xb (show i < 4611686018427387904 by omega)];refine Ev.bind (Vn l done y[i] hz (by omega) hb.1 hb.2) ?_;cases X1 l done y[i] with
  | true =>
   simp only [if_true,Bool.not_true];exact ih (i + 1) (by omega)
  | false =>
   simp only [Bool.false_eq_true,if_false,Bool.not_false];exact Ev.now _
theorem Vx (l : List S41) (ls : List (List Int)) (hz : Zh l) (hs : ls.flatten.length <= 1048576) (hl : ls.length <= 1048576) (hy : ∀ x,x ∈ ls.flatten -> 0 <= x ∧ x < l.length) : ∀ d n,n + d = ls.length -> Ev (fun k => Fy.l0 k l (ls.take n).flatten ls (ls.length : Int) (n : Int)) (Ty l (ls.take n).flatten n (ls.drop n)) := by
 intro d
 induction d with
 | zero =>
  intro n hn;refine Ev.succ ?_;have h1 : ((n : Int) < (ls.length : Int)) = False := eq_false (by omega);rw [List.drop_of_length_le (by omega)];simp only [Fy.l0,h1,if_false,Ty];exact Ev.now _
 | succ d ih =>
  intro n hn;refine Ev.succ ?_;have hlt : n < ls.length := by omega
  have h1 : ((n : Int) < (ls.length : Int)) = True := eq_true (by omega);have ht : (ls.take (n + 1)).flatten.length <= ls.flatten.length := Xu ls (n + 1);rw [Xp ls n hlt,List.length_append] at ht;simp only [Fy.l0,h1,if_true,Xa,Vd,V6 ls n hlt];have h2 := ih (n + 1) (by omega);rw [Xp ls n hlt] at h2;have h3 := V1 l ls (ls.take n).flatten ls[n] n _ hz (by omega) (fun x hx => hy x (List.mem_flatten.2 ⟨_,List.getElem_mem hlt,hx⟩)) (by rw [Xb (show n < 4611686018427387904 by omega)];exact h2) ls[n].length 0 (by omega);rw [List.drop_zero] at h3;rw [List.drop_eq_getElem_cons hlt];exact h3
theorem V5 (l : List S41) (ls : List (List Int)) (hz : Zh l) (hs : ls.flatten.length <= 1048576) (hl : ls.length <= 1048576) (hy : ∀ x,x ∈ ls.flatten -> 0 <= x ∧ x < l.length) : Ev (fun k => Fy.f k l ls) (Ty l [] 0 ls) := by
 unfold Fy.f;have := Vx l ls hz hs hl hy ls.length 0 (by omega)
 rwa [List.take_zero,List.drop_zero,List.flatten_nil] at this
def Ys (l : List S41) : List Int -> List (List Int) -> Bool
 | _,[] => true
 | done,y :: t => decide (y.length ≠ 0) && (y.all (X1 l done) && Ys l (done ++ y) t)
theorem U4 (y : List Int) (p : Int -> Bool) : (y.find? (fun x => !p x) = none) ↔ y.all p = true := by
 rw [List.find?_eq_none,List.all_eq_true];simp
theorem U7 (l : List S41) : ∀ (ls : List (List Int)) (done : List Int) (n : Nat),Ys l done ls = (ls.all (fun y => decide (y.length ≠ 0)) && decide ((Ty l done n ls).1 < 0))
 | [],done,n => by simp [Ys,Ty]
 | y :: t,done,n => by
  unfold Ys Ty;rw [List.all_cons,U7 l t (done ++ y) (n + 1)];cases hf : y.find? (fun x => !X1 l done x) with
  | none =>
   rw [(U4 y (X1 l done)).1 hf,Bool.true_and,Bool.and_assoc]
  | some x =>
   have : y.all (X1 l done) = false := by
    rw [<- Bool.not_eq_true];intro h;rw [(U4 y (X1 l done)).2 h] at hf;cases hf
   rw [this,Bool.false_and,Bool.and_false];have h2 : ¬ ((n : Int) < 0) := by omega
   simp [h2]
def Vl (l : List S41) (ls : List (List Int)) : Bool := decide (ls.flatten.length = l.length) && (Xm l [] ls.flatten && Ys l [] ls)
theorem Jz (l : List S41) (ls : List (List Int)) (hl0 : l.length <= 1048576) (hz : Zh l) (hs : ls.flatten.length <= 1048576) (hl : ls.length <= 1048576) (hy : ∀ x,x ∈ ls.flatten -> 0 <= x ∧ x < l.length) : ∀ d n,n + d = ls.length -> Ev (fun k => GJ.l0 k l ls ((ls.take n).flatten.length : Int) ls (ls.length : Int) (n : Int)) ((ls.drop n).all (fun y => decide (y.length ≠ 0)) && (decide (ls.flatten.length = l.length) && decide ((Ty l [] 0 ls).1 < 0))) := by
 intro d
 induction d with
 | zero =>
  intro n hn;refine Ev.succ ?_;have h1 : ((n : Int) < (ls.length : Int)) = False := eq_false (by omega);rw [List.drop_of_length_le (by omega),List.take_of_length_le (by omega)];simp only [GJ.l0,h1,if_false,List.all_nil,Bool.true_and];refine Ev.bind (V5 l ls hz hs hl hy) ?_;by_cases h2 : ls.flatten.length = l.length
  ·simp only [h2,if_true,decide_true,Bool.true_and];exact Ev.now _
  ·have h3 : ((ls.flatten.length : Int) = (l.length : Int)) = False := eq_false (by omega);simp only [h3,h2,if_false,decide_false,Bool.false_and];exact Ev.now _
 | succ d ih =>
  intro n hn;refine Ev.succ ?_;have hlt : n < ls.length := by omega
  have h1 : ((n : Int) < (ls.length : Int)) = True := eq_true (by omega);have hle := Yy (List.getElem_mem hlt);have ht := Xu ls n;rw [List.drop_eq_getElem_cons hlt,List.all_cons];have e : wrap64 (((ls.take n).flatten.length : Int) + (ls[n].length : Int)) = ((ls.take (n + 1)).flatten.length : Int) := by
   rw [Xc (by omega) (by omega),Xp ls n hlt,List.length_append];omega
  by_cases h2 : ls[n].length = 0
  ·have h3 : ((ls[n].length : Int) = 0) = True := eq_true (by omega);simp only [GJ.l0,h1,if_true,Xa,Vd,V6 ls n hlt,h3,h2,ne_eq,not_true_eq_false,decide_false,Bool.false_and];exact Ev.now _
  ·have h3 : ((ls[n].length : Int) = 0) = False := eq_false (by omega);simp only [GJ.l0,h1,if_true,Xa,Vd,V6 ls n hlt,h3,if_false,e,Xb (show n < 4611686018427387904 by omega),ne_eq,h2,not_false_eq_true,decide_true,Bool.true_and];exact ih (n + 1) (by omega)
theorem Gk {l : List S41} {t : List Int} (hl0 : l.length <= 1048576) (h : Xm l [] t = true) : ∀ x,x ∈ t -> 0 <= x ∧ x < l.length := by
 intro x hx;have := ((Yu l t []).1 h).1 x hx;rw [G2 l hl0] at this;omega
theorem J8 (l : List S41) (ls : List (List Int)) (hl0 : l.length <= 1048576) (hz : Zh l) (hs : ls.flatten.length <= 1048576) (hl : ls.length <= 1048576) : Ev (fun k => GJ.f k l ls) (decide (ls.length <= 16) && Vl l ls) := by
 unfold GJ.f Vl;refine Ev.bind (Jp l ls hs hl) ?_;unfold Jw;rw [U7 l ls [] 0];cases h1 : Xm l [] ls.flatten with
 | false =>
  simp only [Bool.false_and,Bool.and_false,Bool.false_eq_true,if_false];exact Ev.now _
 | true =>
  cases decide (ls.length <= 16) with
  | false =>
   simp only [Bool.false_and,Bool.and_false,Bool.false_eq_true,if_false];exact Ev.now _
  | true =>
   simp only [Bool.true_and,if_true];refine Ev.eq (Jz l ls hl0 hz hs hl (Gk hl0 h1) ls.length 0 (by omega)) ?_;rw [List.drop_zero];cases ls.all (fun y => decide (y.length ≠ 0)) <;> cases decide (ls.flatten.length = l.length) <;> rfl
theorem V7 (l : List S41) (ls : List (List Int)) (hs : ls.flatten.length <= 1048576) (hl : ls.length <= 1048576) (hy : ∀ x,x ∈ ls.flatten -> 0 <= x ∧ x < l.length) : ∀ d n,n + d = ls.length -> Ev (fun k => Fz.l0 k ls ls (ls.length : Int) (n : Int) l) (Ys l (ls.take n).flatten (ls.drop n)) := by
 intro d
 induction d with
 | zero =>
  intro n hn;refine Ev.succ ?_;have h1 : ((n : Int) < (ls.length : Int)) = False := eq_false (by omega);rw [List.drop_of_length_le (by omega)];simp only [Fz.l0,h1,if_false,Ys];exact Ev.now _
 | succ d ih =>
  intro n hn;refine Ev.succ ?_;have hlt : n < ls.length := by omega
  have h1 : ((n : Int) < (ls.length : Int)) = True := eq_true (by omega);have h2 : ((n : Int) <= (ls.length : Int)) = True := eq_true (by omega);have ht := Xu ls n;simp only [Fz.l0,h1,h2,if_true,Xa,Vd,V6 ls n hlt,Int.toNat_natCast,Xb (show n < 4611686018427387904 by omega)];refine Ev.bind (Ub (ls.take n) (by omega) (by rw [List.length_take];omega)) ?_;have e : Ys l (ls.take n).flatten (ls.drop n) = (decide (ls[n].length ≠ 0) && (ls[n].all (X1 l (ls.take n).flatten) && Ys l ((ls.take n).flatten ++ ls[n]) (ls.drop (n + 1)))) := by rw [List.drop_eq_getElem_cons hlt];rfl
  rw [e];by_cases h3 : ls[n].length = 0
  ·have h4 : ((ls[n].length : Int) = 0) = True := eq_true (by omega);simp only [h4,if_true,h3,ne_eq,not_true_eq_false,decide_false,Bool.false_and];exact Ev.now _
  ·have h4 : ((ls[n].length : Int) = 0) = False := eq_false (by omega);simp only [h4,if_false,h3,ne_eq,not_false_eq_true,decide_true,Bool.true_and];refine Ev.bind (Vp l ls[n] (ls.take n).flatten (by omega) (fun x hx => hy x (List.mem_flatten.2 ⟨_,List.getElem_mem hlt,hx⟩))) ?_;cases ls[n].all (X1 l (ls.take n).flatten) with
   | true =>
    simp only [if_true,Bool.true_and];rw [<- Xp ls n hlt];exact ih (n + 1) (by omega)
   | false =>
    simp only [Bool.false_eq_true,if_false,Bool.false_and];exact Ev.now _
theorem V4 (l : List S41) (ls : List (List Int)) (hl0 : l.length <= 1048576) (hs : ls.flatten.length <= 1048576) (hl : ls.length <= 1048576) : Ev (fun k => Fz.f k l ls) (Vl l ls) := by
 unfold Fz.f Vl;refine Ev.bind (Ub ls hs hl) ?_;by_cases h1 : ls.flatten.length = l.length
 ·have h2 : ((ls.flatten.length : Int) = (l.length : Int)) = True := eq_true (by omega);simp only [h2,h1,if_true,decide_true,Bool.true_and,FP.f,Option.bind_some];have ho := Gc l ls.flatten;change Ev (fun k => if (ls.flatten.all fun x => decide (0 <= x ∧ x <= Yb l)) = true then _ else _) _;cases h3 : (ls.flatten.all fun x => decide (0 <= x ∧ x <= Yb l)) with
  | false =>
   rw [h3,Bool.false_and] at ho;rw [ho];simp only [Bool.false_eq_true,if_false,Bool.false_and];refine Ev.succ ?_;simp only [Fz.j0,if_true];exact Ev.now _
  | true =>
   rw [h3,Bool.true_and] at ho;simp only [if_true];obtain ⟨t,ht,hd⟩ := Yx ls.flatten (by omega);simp only [ht,Option.bind_some];refine Ev.succ ?_;by_cases h4 : ls.flatten.Nodup
   ·have h5 : (((t.length : Int)) != ((ls.flatten.length : Int))) = false := by have := hd.2 h4;simp [this]
    rw [decide_eq_true h4] at ho;rw [ho];rw [h1] at h5;simp only [Fz.j0,h5,Bool.false_eq_true,if_false,Bool.true_and];exact V7 l ls hs hl (Gk hl0 ho) ls.length 0 (by omega)
   ·have h5 : (((t.length : Int)) != ((ls.flatten.length : Int))) = true := by
     have : t.length ≠ ls.flatten.length := fun e => h4 (hd.1 e)
     rw [bne_iff_ne];intro e;exact this (by omega)
    rw [decide_eq_false h4] at ho;rw [ho];rw [h1] at h5;simp only [Fz.j0,h5,if_true,Bool.false_and];exact Ev.now _
 ·have h2 : ((ls.flatten.length : Int) = (l.length : Int)) = False := eq_false (by omega);simp only [h2,h1,if_false,decide_false,Bool.false_and];refine Ev.succ ?_;simp only [Fz.j0,if_true];exact Ev.now _
def Zx (l : List S41) (i : Int) : Int := (X8 l i.toNat).f2
def Zf (l : List S41) (i : Int) : List Int := (X8 l i.toNat).f1
theorem Jb (l : List S41) (D : List Int) (i : Int) : X1 l D i = Tv (Zf l) D i := rfl
theorem Jo (l : List S41) (D L : List Int) (hz : Zh l) (hl : l.length <= 1048576) (hD : D.length <= 1048576) (hL : L.length <= 1048576) : ∀ d j (b : Int),j + d = l.length -> (b = -1 ∨ 0 <= b ∧ b < l.length) -> Ev (fun k => Fx.l0 k l D L b l (l.length : Int) (j : Int)) (Yp (Zx l) (Xs (Zf l) D L) d j b) := by
 intro d
 induction d with
 | zero =>
  intro j b hj hb;refine Ev.succ ?_;have h1 : ((j : Int) < (l.length : Int)) = False := eq_false (by omega);simp only [Fx.l0,h1,if_false,Yp];exact Ev.now _
 | succ d ih =>
  intro j b hj hb;refine Ev.succ ?_;have hlt : j < l.length := by omega
  have h1 : ((j : Int) < (l.length : Int)) = True := eq_true (by omega);have e4 : wrap64 ((j : Int) + 1) = ((j + 1 : Nat) : Int) := Xb (by omega);have hu : Zx l (j : Int) = (X8 l j).f2 := by unfold Zx;rw [Int.toNat_natCast]
  have hp : Xs (Zf l) D L (j : Int) = (!(decide ((j : Int) ∈ D)) && (!(decide ((j : Int) ∈ L)) && Tv (Zf l) D (j : Int))) := rfl;unfold Yp;rw [hp];simp only [Fx.l0,h1,if_true,Xa,e4];refine Ev.bind (Xj D (j : Int) (by omega)) ?_;cases decide ((j : Int) ∈ D) with
  | true =>
   simp only [if_true,Bool.not_true,Bool.false_and,Bool.false_eq_true,if_false];exact ih (j + 1) b (by omega) hb
  | false =>
   simp only [Bool.false_eq_true,if_false,Bool.not_false,Bool.true_and];refine Ev.bind (Xj L (j : Int) (by omega)) ?_;cases decide ((j : Int) ∈ L) with
   | true =>
    simp only [if_true,Bool.not_true,Bool.false_and,Bool.false_eq_true,if_false];exact ih (j + 1) b (by omega) hb
   | false =>
    simp only [Bool.false_eq_true,if_false,Bool.not_false,Bool.true_and];refine Ev.bind (Vn l D (j : Int) hz (by omega) (by omega) (by omega)) ?_;rw [Jb];cases Tv (Zf l) D (j : Int) with
    | false =>
     simp only [Bool.false_eq_true,if_false,Bool.false_and];exact ih (j + 1) b (by omega) hb
    | true =>
     simp only [if_true,Bool.true_and];have key := fun b' (hb' : b' = -1 ∨ 0 <= b' ∧ b' < (l.length : Int)) => ih (j + 1) b' (by omega) hb'
     by_cases h2 : b < 0
     ·simp only [eq_true h2,if_true,decide_true,Bool.true_or];exact key (j : Int) (Or.inr ⟨by omega,by omega⟩)
     ·have hb2 : 0 <= b ∧ b < (l.length : Int) := by omega
      have hub : Zx l b = (X8 l b.toNat).f2 := rfl;simp only [eq_false h2,if_false,decide_false,Bool.false_or,eq_true hb2.1,eq_true hb2.2,if_true,T6,Tz,Int.toNat_natCast,hu,hub];by_cases h3 : (X8 l j).f2 > (X8 l b.toNat).f2
      ·simp only [eq_true h3,if_true,decide_true];exact key (j : Int) (Or.inr ⟨by omega,by omega⟩)
      ·simp only [eq_false h3,if_false,decide_false,Bool.false_eq_true];exact key b hb
theorem Jl (l : List S41) (D L : List Int) (hz : Zh l) (hl : l.length <= 1048576) (hD : D.length <= 1048576) (hL : L.length <= 1048576) : Ev (fun k => Fx.f k l D L) (Yg (Zx l) (Xs (Zf l) D L) l.length) := by
 unfold Fx.f Yg;exact Jo l D L hz hl hD hL l.length 0 (-1) (by omega) (Or.inl rfl)
def hd (c : List Int) : Int := c.getD 0 0
theorem Vk {n m : List Int} (hn : n.Pairwise (· < ·)) (hm : m.Pairwise (· < ·)) (h : ∀ x,x ∈ n ↔ x ∈ m) : n = m := by
 have nd : ∀ {l : List Int},l.Pairwise (· < ·) -> l.Nodup := fun {l} hl => List.Pairwise.imp (S := fun a b : Int => a ≠ b) (fun {a b} (hlt : a < b) e => by omega) hl
 have hp := (List.perm_ext_iff_of_nodup (nd hn) (nd hm)).2 h;exact List.Perm.eq_of_pairwise (le := fun a b : Int => a < b) (fun a b _ _ h1 h2 => by omega) hn hm hp
theorem Tt (l : List Int) (x : Int) (hl : l.length <= 4000000) (hu : l.Pairwise (· < ·)) : ∀ d j,j + d = l.length -> (∀ y,y ∈ l.take j -> y < x) -> ∃ r : List Int,Ev (fun k => Fu.l0 k l x (j : Int)) r ∧ r.Pairwise (· < ·) ∧ (∀ y,y ∈ r ↔ y ∈ l ∨ y = x) ∧ r.length <= l.length + 1 := by
 have ins : ∀ j,j <= l.length -> (∀ y,y ∈ l.take j -> y < x) -> (∀ y,y ∈ l.drop j -> x < y) -> (l.take j ++ [x] ++ l.drop j).Pairwise (· < ·) ∧ (∀ y,y ∈ l.take j ++ [x] ++ l.drop j ↔ y ∈ l ∨ y = x) ∧ (l.take j ++ [x] ++ l.drop j).length <= l.length + 1 := by
  intro j hj hb ha;have e : ∀ y,y ∈ l ↔ y ∈ l.take j ∨ y ∈ l.drop j := fun y => by rw [<- List.mem_append,List.take_append_drop]
  refine ⟨?_,fun y => ?_,?_⟩
  ·rw [List.append_assoc,List.pairwise_append,List.singleton_append,List.pairwise_cons];refine ⟨hu.sublist (List.take_sublist _ _),⟨ha,hu.sublist (List.drop_sublist _ _)⟩,fun a h1 b h2 => ?_⟩;have h3 := hb a h1;rcases List.mem_cons.1 h2 with rfl | h2
   ·exact h3
   ·have := ha b h2;omega
  ·rw [e];simp only [List.mem_append,List.mem_singleton]
   constructor
   ·rintro ((h | h) | h)
    ·exact Or.inl (Or.inl h)
    ·exact Or.inr h
    ·exact Or.inl (Or.inr h)
   ·rintro ((h | h) | h)
    ·exact Or.inl (Or.inl h)
    ·exact Or.inr h
    ·exact Or.inl (Or.inr h)
  ·simp only [List.length_append,List.length_take,List.length_drop,List.length_singleton];omega
 intro d
 induction d with
 | zero =>
  intro j hj hb;obtain ⟨i0,i1,i2⟩ := ins j (by omega) hb (by rw [List.drop_of_length_le (by omega)];intro y hy;cases hy);refine ⟨l.take j ++ [x] ++ l.drop j,Ev.succ ?_,i0,i1,i2⟩;have h1 : ((j : Int) < (l.length : Int)) = False := eq_false (by omega);have h2 : ((j : Int) <= (l.length : Int)) = True := eq_true (by omega);have h3 : (0 + (l.take j).length < 17592186044416) = True := eq_true (by rw [List.length_take];omega);have h4 : ((l.take j).length < 17592186044416) = True := eq_true (by rw [List.length_take];omega);have h5 : ((l.take j ++ [x]).length + (l.drop j).length < 17592186044416) = True := eq_true (by simp only [List.length_append,List.length_take,List.length_drop,List.length_singleton];omega);simp only [Fu.l0,h1,if_false,Option.bind_some,Xa,if_true,h2,Int.toNat_natCast,List.length_nil,h3,List.nil_append,h4,h5];exact Ev.now _
 | succ d ih =>
  intro j hj hb;have hlt : j < l.length := by omega
  have h1 : ((j : Int) < (l.length : Int)) = True := eq_true (by omega);have h2 : ((j : Int) <= (l.length : Int)) = True := eq_true (by omega);have hg : l.getD j 0 = l[j] := by rw [List.getD_eq_getElem?_getD,List.getElem?_eq_getElem hlt];rfl
  by_cases h6 : l[j] < x
  ·obtain ⟨r,hr,h0,hm,hn⟩ := ih (j + 1) (by omega) (fun y hy => by
    rw [List.take_succ_eq_append_getElem hlt,List.mem_append,List.mem_singleton] at hy;rcases hy with hy | rfl
    ·exact hb y hy
    ·exact h6)
   refine ⟨r,Ev.succ ?_,h0,hm,hn⟩;simp only [Fu.l0,h1,if_true,Xa,Yf,hg,eq_true h6,Xb (show j < 4611686018427387904 by omega)];exact hr
  ·by_cases h7 : l[j] = x
   ·refine ⟨l,Ev.succ ?_,hu,fun y => ⟨fun h => Or.inl h,fun h => h.elim id (fun e => by rw [e,<- h7];exact List.getElem_mem hlt)⟩,by omega⟩;simp only [Fu.l0,h1,if_true,Xa,Yf,hg,eq_false h6,if_false,eq_true h7];exact Ev.now _
   ·obtain ⟨i0,i1,i2⟩ := ins j (by omega) hb (fun y hy => by
     rw [List.drop_eq_getElem_cons hlt] at hy;rcases List.mem_cons.1 hy with rfl | hy
     ·omega
     ·have h8 : (l.drop j).Pairwise (· < ·) := hu.sublist (List.drop_sublist _ _);rw [List.drop_eq_getElem_cons hlt,List.pairwise_cons] at h8;have := h8.1 y hy;omega)
    refine ⟨l.take j ++ [x] ++ l.drop j,Ev.succ ?_,i0,i1,i2⟩;have h3 : (0 + (l.take j).length < 17592186044416) = True := eq_true (by rw [List.length_take];omega);have h4 : ((l.take j).length < 17592186044416) = True := eq_true (by rw [List.length_take];omega);have h5 : ((l.take j ++ [x]).length + (l.drop j).length < 17592186044416) = True := eq_true (by simp only [List.length_append,List.length_take,List.length_drop,List.length_singleton];omega);simp only [Fu.l0,h1,if_true,Xa,Yf,hg,eq_false h6,eq_false h7,if_false,Option.bind_some,h2,Int.toNat_natCast,List.length_nil,h3,List.nil_append,h4,h5];exact Ev.now _
theorem Zs (l : List Int) (x : Int) (hl : l.length <= 4000000) (hu : l.Pairwise (· < ·)) : ∃ r : List Int,Ev (fun k => Fu.f k l x) r ∧ r.Pairwise (· < ·) ∧ (∀ y,y ∈ r ↔ y ∈ l ∨ y = x) ∧ r.length <= l.length + 1 := by
 unfold Fu.f;exact Tt l x hl hu l.length 0 (by omega) (by intro y hy;simp at hy)
def X6 (l : List Int) : List Int := l.mergeSort fun x y => decide (x <= y)
theorem J9 (l : List Int) : (X6 l).length = l.length := by simp [X6]
theorem Y6 (l : List Int) : (X6 l).Perm l := List.mergeSort_perm _ _
theorem Tl (l : List Int) (hn : l.Nodup) : (X6 l).Pairwise (· < ·) := by
 have hs : (X6 l).Pairwise (fun x y => decide (x <= y) = true) := List.pairwise_mergeSort (le := fun x y : Int => decide (x <= y)) (by intro a b c;simp;omega) (by intro a b;simp;omega) l;have hn2 : (X6 l).Nodup := (Y6 l).nodup_iff.2 hn;have h2 : (X6 l).Pairwise (· ≠ ·) := hn2;refine (hs.and h2).imp ?_;rintro a b ⟨h1,h3⟩;have := of_decide_eq_true h1;omega
def X4 (l : List S41) (s : Nat) (f : Nat) (D : List Int) : List (List Int) × List Int := Y0 (Zx l) (Zf l) l.length s X6 f D
theorem Zk (L : List Int) (h : L.Nodup) : (X6 L).Nodup ∧ (∀ x,x ∈ X6 L ↔ x ∈ L) ∧ (X6 L).length = L.length := ⟨(Y6 L).nodup_iff.2 h,fun _ => (Y6 L).mem_iff,J9 L⟩
theorem Z5 (l : List S41) (s : Nat) (out : List (List Int)) (D : List Int) (r : List (List Int)) (hz : Zh l) (hl : l.length <= 1048576) (hD : D.length <= 1048576) (ho : out.length <= 4000000) :
  ∀ f L now,Pick (Zf l) l.length D L -> L.length + f = s -> now.Pairwise (· < ·) -> (∀ x,x ∈ now ↔ x ∈ L) -> now.length = L.length ->
   (Xn (Zx l) (Zf l) l.length D f L = [] -> r = out) -> (Xn (Zx l) (Zf l) l.length D f L ≠ [] -> Ev (fun k => Ft.l0 k l (s : Int) (out ++ [X6 (Xn (Zx l) (Zf l) l.length D f L)]) (D ++ X6 (Xn (Zx l) (Zf l) l.length D f L))) r) ->
   Ev (fun k => Ft.l1 k l (s : Int) out D now) r := by
 intro f;have fin : ∀ (L now : List Int),Pick (Zf l) l.length D L -> now.Pairwise (· < ·) -> (∀ x,x ∈ now ↔ x ∈ L) -> now.length = L.length -> (L = [] -> r = out) -> (L ≠ [] -> Ev (fun k => Ft.l0 k l (s : Int) (out ++ [X6 L]) (D ++ X6 L)) r) ->
   Ev (fun k => if (now.length : Int) = 0 then some out else if out.length < 5864062014805 then if D.length + now.length < 17592186044416 then Ft.l0 k l (s : Int) (out ++ [now]) (D ++ now) else none else none) r := by
  intro L now hp hu hm hlen h1 h2;have hL := Xz hp.nodup hp.range;by_cases h3 : L = []
  ·rw [h1 h3];have : now.length = 0 := by rw [hlen,h3];rfl
   simp only [show ((now.length : Int) = 0) = True from eq_true (by omega),if_true];exact Ev.now _
  ·have h4 : 0 < L.length := List.length_pos_iff.2 h3;have e : now = X6 L := Vk hu (Tl L hp.nodup) (fun x => by rw [hm,(Y6 L).mem_iff]);simp only [show ((now.length : Int) = 0) = False from eq_false (by omega),if_false,show (out.length < 5864062014805) = True from eq_true (by omega),if_true,show (D.length + now.length < 17592186044416) = True from eq_true (by omega)];rw [e];exact h2 h3
 induction f with
 | zero =>
  intro L now hp hs hu hm hlen h1 h2;refine Ev.succ ?_;simp only [Ft.l1,show ((now.length : Int) < (s : Int)) = False from eq_false (by omega),if_false];exact fin L now hp hu hm hlen h1 h2
 | succ f ih =>
  intro L now hp hs hu hm hlen h1 h2;refine Ev.succ ?_;have hL := Xz hp.nodup hp.range;have eb : Yg (Zx l) (Xs (Zf l) D now) l.length = Yg (Zx l) (Xs (Zf l) D L) l.length := Gu _ _ _ _ (fun i _ => by
   have : decide ((i : Int) ∈ now) = decide ((i : Int) ∈ L) := decide_eq_decide.2 (hm _);unfold Xs;rw [this])
  unfold Xn at h1 h2;simp only [Ft.l1,show ((now.length : Int) < (s : Int)) = True from eq_true (by omega),if_true];refine Ev.bind (Jl l D now hz hl hD (by omega)) ?_;rw [eb];by_cases h3 : Yg (Zx l) (Xs (Zf l) D L) l.length < 0
  ·rw [if_pos h3] at h1 h2;simp only [eq_true h3,if_true];exact fin L now hp hu hm hlen h1 h2
  ·rw [if_neg h3] at h1 h2;simp only [eq_false h3,if_false];obtain ⟨y,hy1,hy2,hy3,hy4⟩ := Zs now (Yg (Zx l) (Xs (Zf l) D L) l.length) (by omega) hu;have hp2 := Z0 hp h3;have hm2 : ∀ x,x ∈ y ↔ x ∈ L ++ [Yg (Zx l) (Xs (Zf l) D L) l.length] := fun x => by rw [hy3,List.mem_append,List.mem_singleton,hm]
   have hyn : y.Nodup := List.Pairwise.imp (S := fun a b : Int => a ≠ b) (fun {a b} (hlt : a < b) e => by omega) hy2;refine Ev.bind hy1 ?_;exact ih _ y hp2 (by rw [List.length_append,List.length_singleton];omega) hy2 hm2 (Gi hyn hp2.nodup hm2) h1 h2
theorem Z9 (l : List S41) (s : Nat) (hz : Zh l) (hl : l.length <= 1048576) : ∀ f D (out : List (List Int)),Good (Zf l) l.length D -> l.length <= D.length + f -> out.length + f <= 4000000 -> Ev (fun k => Ft.l0 k l (s : Int) out D) (out ++ (X4 l s f D).1) := by
 intro f
 induction f with
 | zero =>
  intro D out hg hf ho;refine Ev.succ ?_;have hD := Xz hg.nodup hg.range;have e : X4 l s 0 D = ([],D) := rfl;have e2 := Je (us := Zx l) (f := s) hg (by omega);rw [e];simp only [Ft.l0];exact Z5 l s out D _ hz hl (by omega) (by omega) s [] [] (Y1 _ _ _) (by simp) List.Pairwise.nil (by simp) rfl (fun _ => by rw [List.append_nil]) (fun h => absurd e2 h)
 | succ f ih =>
  intro D out hg hf ho;refine Ev.succ ?_;have hD := Xz hg.nodup hg.range;obtain ⟨hp,_,_⟩ := Yj (Zx l) (Zf l) l.length D s [] (Y1 _ _ _);simp only [Ft.l0];refine Z5 l s out D _ hz hl (by omega) (by omega) s [] [] (Y1 _ _ _) (by simp) List.Pairwise.nil (by simp) rfl ?_ ?_
  ·intro h2;have e : X4 l s (f + 1) D = ([],D) := by unfold X4 Y0;rw [if_pos h2]
   rw [e,List.append_nil]
  ·intro h2;have e : X4 l s (f + 1) D = ((X6 (Xn (Zx l) (Zf l) l.length D s []) :: (X4 l s f (D ++ X6 (Xn (Zx l) (Zf l) l.length D s []))).1),(X4 l s f (D ++ X6 (Xn (Zx l) (Zf l) l.length D s []))).2) := by
    show Y0 _ _ _ _ _ _ _ = _;rw [Y0,if_neg h2];rfl
   rw [e];generalize Xn (Zx l) (Zf l) l.length D s [] = P at hp h2;have hP := Xz hp.nodup hp.range;have h3 : 0 < P.length := List.length_pos_iff.2 h2;obtain ⟨b1,b2,b3⟩ := Zk P hp.nodup;have hi := ih (D ++ X6 P) (out ++ [X6 P]) (Va hg (Ue hp b1 b2)) (by rw [List.length_append,b3];omega) (by rw [List.length_append,List.length_singleton];omega);rw [List.append_assoc] at hi;exact hi
theorem Ug (l : List S41) (s : Nat) : ∀ f D,(X4 l s f D).2 = D ++ (X4 l s f D).1.flatten ∧ (X4 l s f D).1.length <= f := by
 intro f
 induction f with
 | zero => intro D;exact ⟨by show D = D ++ [].flatten;simp,by show ([] : List (List Int)).length <= 0;simp⟩
 | succ f ih =>
  intro D;by_cases h2 : Xn (Zx l) (Zf l) l.length D s [] = []
  ·have e : X4 l s (f + 1) D = ([],D) := by unfold X4 Y0;rw [if_pos h2]
   rw [e];simp
  ·have e : X4 l s (f + 1) D = ((X6 (Xn (Zx l) (Zf l) l.length D s []) :: (X4 l s f (D ++ X6 (Xn (Zx l) (Zf l) l.length D s []))).1),(X4 l s f (D ++ X6 (Xn (Zx l) (Zf l) l.length D s []))).2) := by
    show Y0 _ _ _ _ _ _ _ = _;rw [Y0,if_neg h2];rfl
   rw [e];obtain ⟨a,b⟩ := ih (D ++ X6 (Xn (Zx l) (Zf l) l.length D s []));refine ⟨?_,by simp only [List.length_cons];omega⟩;simp only [a,List.flatten_cons,List.append_assoc]
theorem Ut {l : List S41} (h : Ye l = true) : l.length <= 16 ∧ ∀ j,j < l.length -> 0 <= (X8 l j).f2 ∧ (X8 l j).f2 <= 99999 := by
 unfold Ye at h;rw [Bool.and_eq_true,List.all_eq_true,decide_eq_true_eq] at h;refine ⟨h.2,fun j hj => ?_⟩;have := h.1 j (List.mem_range.2 hj);unfold Xk at this;rw [Bool.and_eq_true,Bool.and_eq_true,Bool.and_eq_true,Bool.and_eq_true] at this;exact of_decide_eq_true this.2.2.2.1
def LSh (R : List (List Int)) : Prop := R.length <= 19 ∧ ∀ y,y ∈ R -> y.length <= 20
theorem Vs : ∀ R : List (List Int),(∀ y,y ∈ R -> y.length <= 20) -> R.flatten.length <= 20 * R.length
 | [],_ => by simp
 | y :: R,h => by
  have h1 := Vs R (fun z hz => h z (List.mem_cons_of_mem _ hz));have h2 := h y (List.mem_cons_self ..);rw [List.flatten_cons,List.length_append,List.length_cons];omega
theorem LSh.flat {R : List (List Int)} (h : LSh R) : R.flatten.length <= 400 := by
 have := Vs R h.2;have := h.1;omega
theorem LSh.set {R : List (List Int)} (h : LSh R) (i : Nat) {y : List Int} (hy : y.length <= 20) : LSh (R.set i y) :=
 ⟨by rw [List.length_set];exact h.1,fun z hz => by
  rcases List.mem_or_eq_of_mem_set hz with hz | rfl
  ·exact h.2 z hz
  ·exact hy⟩
theorem Vj {n : Nat} {R : List (List Int)} (h : ∀ y,y ∈ R -> y.length <= n) (i : Nat) : (R.getD i []).length <= n := by
 rw [List.getD_eq_getElem?_getD];by_cases hi : i < R.length
 ·rw [List.getElem?_eq_getElem hi];exact h _ (List.getElem_mem hi)
 ·rw [List.getElem?_eq_none (by omega)];exact Nat.zero_le _
theorem Jj {l : List Int} (N : Nat) (hN : N <= 17) (a s : Int) : ∀ (d : Nat) (R : List (List Int)),R.length + d = max N R.length -> LSh R -> ∃ Q,Ev (fun k => Fa.l0 k R (N : Int) l a s) (Q,a,s) ∧ LSh Q := by
 intro d
 induction d with
 | zero =>
  intro R hd hR;refine ⟨R,Ev.succ ?_,hR⟩;simp only [Fa.l0,show ((R.length : Int) < (N : Int)) = False from eq_false (by omega),if_false];exact Ev.now _
 | succ d ih =>
  intro R hd hR;obtain ⟨Q,hQ,hS⟩ := ih (R ++ [[]]) (by rw [List.length_append,List.length_singleton];omega) ⟨by rw [List.length_append,List.length_singleton];omega,fun y hy => by
   rcases List.mem_append.1 hy with hy | hy
   ·exact hR.2 y hy
   ·rw [List.mem_singleton.1 hy];exact Nat.zero_le _⟩
  refine ⟨Q,Ev.succ ?_,hS⟩;have := hR.1;simp only [Fa.l0,show ((R.length : Int) < (N : Int)) = True from eq_true (by omega),if_true,show (R.length < 5864062014805) = True from eq_true (by omega)];exact hQ
theorem X9 {l : List Int} (hu : U8 l) (R : List (List Int)) (hR : LSh R) (a s : Int) (h0 : 0 <= a) (h1 : a <= 999999999900) : ∃ Q a' s',Ev (fun k => Fa.j1 k R l a s) (Q,a',s') ∧ LSh Q ∧ a <= a' ∧ a' <= a + 4 := by
 obtain ⟨b,a1,s1,e1,_,p1,q1⟩ := Vt hu s h0 (by omega) 40 (by decide) (by decide);cases b with
 | false =>
  refine ⟨R,a1,s1,Ev.succ ?_,hR,p1,by omega⟩;simp only [Fa.j1,e1,Option.bind_some,Bool.false_eq_true,if_false];exact Ev.now _
 | true =>
  obtain ⟨y,a2,s2,e2,⟨y0,y1⟩,p2,q2⟩ := Xf hu s1 (a := a1) (by omega) (by omega) 2 (by decide) (by decide);obtain ⟨N,hN⟩ : ∃ N : Nat,16 + y = (N : Int) := ⟨(16 + y).toNat,by omega⟩;obtain ⟨Q,hQ,hS⟩ := Jj (l := l) N (by omega) a2 s2 (max N R.length - R.length) R (by omega) hR;refine ⟨Q,a2,s2,Ev.succ ?_,hS,by omega,by omega⟩;simp only [Fa.j1,e1,Option.bind_some,if_true,e2];rw [Xc (by omega) (by omega),hN];exact hQ
theorem Uc {l : List Int} (hu : U8 l) (L : List S41) (hL : L.length <= 17) (R : List (List Int)) (hR1 : R.length <= 17) (hR2 : ∀ y,y ∈ R -> y.length <= 19) (a s : Int) (h0 : 0 <= a) (h1 : a <= 999999999800) : ∃ Q a' s',Ev (fun k => Fa.j0 k L R l a s) (Q,a',s') ∧ LSh Q ∧ a <= a' ∧ a' <= a + 20 := by
 have hR : LSh R := ⟨by omega,fun y hy => by have := hR2 y hy;omega⟩;by_cases hp : (R.length : Int) > 0
 ·obtain ⟨i,a1,s1,e1,⟨i0,i1⟩,p1,q1⟩ := Xf hu s h0 (by omega) (R.length : Int) (by omega) (by omega);obtain ⟨m,a2,s2,e2,_,p2,q2⟩ := Xf hu s1 (a := a1) (by omega) (by omega) 8 (by decide) (by decide);obtain ⟨n,rfl⟩ : ∃ n : Nat,i = (n : Int) := ⟨i.toNat,by omega⟩;have hrd : rd_L2 R (n : Int) = R.getD n [] := Vd R n;have hrs := Vj hR2 n;have en : wrap64 ((n : Int) + 1) = ((n + 1 : Nat) : Int) := Xb (by omega);by_cases c0 : m = 0
  ·have eL : wrap64 ((L.length : Int) + 1) = ((L.length + 1 : Nat) : Int) := Xb (by omega);obtain ⟨y,a3,s3,e3,_,p3,q3⟩ := Xf hu s2 (a := a2) (by omega) (by omega) ((L.length + 1 : Nat) : Int) (by omega) (by omega);obtain ⟨Q,a4,s4,hQ,hS,p4,q4⟩ := X9 hu (R.set n (R.getD n [] ++ [y])) (hR.set n (by rw [List.length_append,List.length_singleton];omega)) a3 s3 (by omega) (by omega);refine ⟨Q,a4,s4,Ev.succ ?_,hS,by omega,by omega⟩;simp only [Fa.j0,eq_true hp,if_true,e1,e2,Option.bind_some,eq_true c0,Xa,eq_true i1,eL,e3,hrd,show ((R.getD n []).length < 17592186044416) = True from eq_true (by omega),Int.toNat_natCast];exact hQ
  by_cases c1 : m = 1
  ·obtain ⟨Q,a4,s4,hQ,hS,p4,q4⟩ := X9 hu (R.eraseIdx n) ⟨by have := List.length_eraseIdx_le R n;omega,fun y hy => hR.2 y (List.mem_of_mem_eraseIdx hy)⟩ a2 s2 (by omega) (by omega);refine ⟨Q,a4,s4,Ev.succ ?_,hS,by omega,by omega⟩;simp only [Fa.j0,eq_true hp,if_true,e1,e2,Option.bind_some,eq_false c0,if_false,eq_true c1,Xa,en,show ((n : Int) <= (R.length : Int)) = True from eq_true (by omega),show (((n + 1 : Nat) : Int) <= (R.length : Int)) = True from eq_true (by omega),Int.toNat_natCast];exact hQ
  by_cases c2 : m = 2
  ·have hr0 : (rd_L2 R 0).length <= 20 := by rw [show rd_L2 R 0 = R.getD 0 [] from Vd R 0];exact Vj hR.2 0
   obtain ⟨Q,a4,s4,hQ,hS,p4,q4⟩ := X9 hu ((R.set 0 (R.getD n [])).set n (rd_L2 R 0)) ((hR.set 0 (by omega)).set n hr0) a2 s2 (by omega) (by omega);refine ⟨Q,a4,s4,Ev.succ ?_,hS,by omega,by omega⟩;simp only [Fa.j0,eq_true hp,if_true,e1,e2,Option.bind_some,eq_false c0,if_false,eq_false c1,eq_true c2,Xa,eq_true i1,show (0 < (R.length : Int)) = True from eq_true (by omega),hrd,Int.toNat_natCast,Int.toNat_zero];exact hQ
  by_cases c3 : m = 3
  ·obtain ⟨Q,a4,s4,hQ,hS,p4,q4⟩ := X9 hu (R ++ [[]]) ⟨by rw [List.length_append,List.length_singleton];omega,fun y hy => by
    rcases List.mem_append.1 hy with hy | hy
    ·exact hR.2 y hy
    ·rw [List.mem_singleton.1 hy];exact Nat.zero_le _⟩ a2 s2 (by omega) (by omega)
   refine ⟨Q,a4,s4,Ev.succ ?_,hS,by omega,by omega⟩;simp only [Fa.j0,eq_true hp,if_true,e1,e2,Option.bind_some,eq_false c0,if_false,eq_false c1,eq_false c2,eq_true c3,show (R.length < 5864062014805) = True from eq_true (by omega)];exact hQ
  ·obtain ⟨Q,a4,s4,hQ,hS,p4,q4⟩ := X9 hu R hR a2 s2 (by omega) (by omega);refine ⟨Q,a4,s4,Ev.succ ?_,hS,by omega,by omega⟩;simp only [Fa.j0,eq_true hp,if_true,e1,e2,Option.bind_some,eq_false c0,if_false,eq_false c1,eq_false c2,eq_false c3];exact hQ
 ·obtain ⟨Q,a4,s4,hQ,hS,p4,q4⟩ := X9 hu R hR a s (by omega) (by omega);refine ⟨Q,a4,s4,Ev.succ ?_,hS,by omega,by omega⟩;simp only [Fa.j0,eq_false hp,if_false];exact hQ
theorem G9 {l : List Int} (hu : U8 l) (L : List S41) (hL : L.length <= 17) (hz : Zh L) (a s : Int) (h0 : 0 <= a) (h1 : a <= 999999999700) : ∃ R a' s',Ev (fun k => Fa.f k l a s L) (R,a',s') ∧ LSh R ∧ a <= a' ∧ a' <= a + 30 := by
 unfold Fa.f;cases hw : Ye L with
 | false =>
  have hG := Y7 L (by omega) hz;rw [hw] at hG;obtain ⟨R,a1,s1,hR,hS,p1,q1⟩ := Uc hu L hL [] (by simp) (fun y hy => by cases hy) a s h0 (by omega);refine ⟨R,a1,s1,Ev.bind hG ?_,hS,p1,by omega⟩;simp only [Bool.false_eq_true,if_false];exact hR
 | true =>
  have hG := Y7 L (by omega) hz;rw [hw] at hG;obtain ⟨y,a1,s1,e1,⟨y0,y1⟩,p1,q1⟩ := Xf hu s h0 (by omega) 4 (by decide) (by decide);obtain ⟨N,hN⟩ : ∃ N : Nat,1 + y = (N : Int) := ⟨(1 + y).toNat,by omega⟩;obtain ⟨d1,d2⟩ := Ug L N L.length [];rw [List.nil_append] at d1;have hg := (Zi (Zx L) (Zf L) L.length N X6 (by omega) Zk L.length [] (Zq _ _) (by simp)).1;have hle := Xz hg.nodup hg.range;have hle2 : (X4 L N L.length []).1.flatten.length <= 17 := by
   have : (X4 L N L.length []).2.length <= L.length := hle;rw [d1] at this;omega
  obtain ⟨R,a2,s2,hR,hS,p2,q2⟩ := Uc hu L hL (X4 L N L.length []).1 (by omega) (fun y hy => by have := Yy hy;omega) a1 s1 (by omega) (by omega);refine ⟨R,a2,s2,Ev.bind hG ?_,hS,by omega,by omega⟩;simp only [if_true,e1,Option.bind_some];rw [Xc (by omega) (by omega),hN];have h2 := Z9 L N hz (by omega) L.length [] [] (Zq _ _) (by simp) (by simp;omega);rw [List.nil_append] at h2;exact Ev.bind (show Ev (fun k => Ft.f k L (N : Int)) _ from h2) hR
theorem Jf {l : List Int} (hu : U8 l) (L : List S41) (hL : L.length <= 100) {a : Int} (s : Int) (h0 : 0 <= a) (h1 : a <= 999999999900) : T1 (GV.f l a s L) a 8 (fun _ => True) := by
 have eL : wrap64 ((L.length : Int) + 1) = ((L.length + 1 : Nat) : Int) := Xb (by omega);obtain ⟨y1,a1,s1,e1,_,p1,q1⟩ := Xf hu s h0 (by omega) ((L.length + 1 : Nat) : Int) (by omega) (by omega);obtain ⟨y2,a2,s2,e2,_,p2,q2⟩ := Xf hu s1 (a := a1) (by omega) (by omega) ((L.length + 1 : Nat) : Int) (by omega) (by omega);obtain ⟨y3,a3,s3,e3,_,p3,q3⟩ := Xl hu s2 (a := a2) (by omega) (by omega) [0,(L.length : Int),-1] (by simp) (by simp);obtain ⟨y4,a4,s4,e4,_,p4,q4⟩ := Xl hu s3 (a := a3) (by omega) (by omega) [0,y1,y2,wrap64 ((L.length : Int) - 1),y3] (by simp) (by simp);unfold GV.f;simp only [eL,e1,e2,e3,e4,Option.bind_some];exact ⟨_,_,_,rfl,trivial,by omega,by omega⟩
theorem Z3 (l : List Int) (hl : l.length < 4611686018427387904) : Ev (fun k => FQ.f k l l) true := by
 unfold FQ.f;simp only [if_true];exact Ev.upto (L := fun k j => FQ.l0 k l l (l.length : Int) (j : Int)) (r := true) (n := l.length)
  (by
   refine Ev.succ ?_;simp only [FQ.l0,Int.lt_irrefl,if_false];exact Ev.now _)
  (by
   intro j hj h;refine Ev.succ ?_;simp only [FQ.l0,show ((j : Int) < (l.length : Int)) = True from eq_true (by omega),if_true,Xa,Xb (show j < 4611686018427387904 by omega)];exact h)
  0 (Nat.zero_le _)
theorem Jv (l : List Int) (hl : l.length < 4611686018427387904) (x : Int) : Ev (fun k => GX.f k l x) (decide (x ∈ l)) := by
 unfold GX.f;have key : ∀ d j,j + d = l.length -> Ev (fun k => GX.l0 k x l (l.length : Int) (j : Int)) (decide (x ∈ l.drop j)) := by
  intro d
  induction d with
  | zero =>
   intro j hj;refine Ev.succ ?_;simp only [GX.l0,show ((j : Int) < (l.length : Int)) = False from eq_false (by omega),if_false];rw [List.drop_of_length_le (by omega)];exact Ev.now _
  | succ d ih =>
   intro j hj;have hlt : j < l.length := by omega
   have e : rd l (j : Int) = l[j] := by
    show l.getD ((j : Int)).toNat 0 = _;rw [Int.toNat_natCast,List.getD_eq_getElem?_getD,List.getElem?_eq_getElem hlt];rfl
   refine Ev.succ ?_;simp only [GX.l0,show ((j : Int) < (l.length : Int)) = True from eq_true (by omega),if_true,Xa,e,Xb (show j < 4611686018427387904 by omega)];rw [List.drop_eq_getElem_cons hlt];by_cases hx : l[j] = x
   ·simp only [eq_true hx,if_true];refine Ev.eq (Ev.now _) ?_;rw [hx];simp
   ·simp only [eq_false hx,if_false];refine Ev.eq (ih (j + 1) (by omega)) ?_;rw [decide_eq_decide,List.mem_cons];exact ⟨.inr,fun h => h.resolve_left (fun h2 => hx h2.symm)⟩
 exact key l.length 0 (by omega)
def Ya (x : Int) (l : List Int) : Bool := X5 l.length 2 4 && (l.all (fun y => decide (0 <= y ∧ y <= 15)) && (decide l.Nodup && decide (x ∈ l)))
theorem Y9 (x : Int) (l : List Int) (hl : l.length < 17592186044416) : Ev (fun k => Fw.f k x l) (Ya x l) := by
 unfold Fw.f Ya;simp only [X7,Option.bind_some,FP.f];rcases Bool.eq_false_or_eq_true (X5 l.length 2 4) with h | h
 ·simp only [h,if_true,Bool.true_and];rcases Bool.eq_false_or_eq_true (l.all (fun y => decide (0 <= y ∧ y <= 15))) with h2 | h2
  ·simp only [h2,if_true,Bool.true_and];obtain ⟨r,hr,hn⟩ := Yx l hl;simp only [hr,Option.bind_some];by_cases h3 : l.Nodup
   ·have h4 : ((r.length : Int) = (l.length : Int)) = True := eq_true (by have := hn.2 h3;omega);simp only [h4,if_true,h3,decide_true,Bool.true_and];exact Ev.bind (Yi l x (by omega)) (Ev.now _)
   ·have h4 : ((r.length : Int) = (l.length : Int)) = False := eq_false (fun e => h3 (hn.1 (by omega)));simp only [h4,if_false,h3,decide_false,Bool.false_and];exact Ev.now _
  ·simp only [h2];exact Ev.now _
 ·simp only [h];exact Ev.now _
def T0 (l : List Int) (i : Nat) : Bool := X5 (l.getD i 0) 0 15 && !(decide (l.getD i 0 ∈ l.take i))
theorem Tp (l : List Int) : (List.range l.length).all (T0 l) = (l.all (fun y => decide (0 <= y ∧ y <= 15)) && decide l.Nodup) := by
 have hg : ∀ i (hi : i < l.length),l.getD i 0 = l[i] := fun i hi => by rw [List.getD_eq_getElem?_getD,List.getElem?_eq_getElem hi];rfl
 rw [Bool.eq_iff_iff,Bool.and_eq_true,List.all_eq_true,List.all_eq_true,decide_eq_true_eq]
 constructor
 ·intro h
  constructor
  ·intro y hy;obtain ⟨i,hi,rfl⟩ := List.getElem_of_mem hy;have := h i (List.mem_range.2 hi);rw [T0,hg i hi,Bool.and_eq_true] at this;exact this.1
  ·rw [List.Nodup,List.pairwise_iff_getElem];intro i j hi hj hij e;have := h j (List.mem_range.2 hj);rw [T0,hg j hj,Bool.and_eq_true,Bool.not_eq_true',decide_eq_false_iff_not] at this;exact this.2 (List.mem_iff_getElem.2 ⟨i,by rw [List.length_take];omega,by rw [List.getElem_take];exact e⟩)
 ·rintro ⟨h1,h2⟩ j hj;have hj' := List.mem_range.1 hj;rw [T0,hg j hj',Bool.and_eq_true,Bool.not_eq_true',decide_eq_false_iff_not];refine ⟨h1 _ (List.getElem_mem hj'),fun hm => ?_⟩;obtain ⟨i,hi,e⟩ := List.mem_iff_getElem.1 hm;rw [List.length_take] at hi;rw [List.getElem_take] at e;rw [List.Nodup,List.pairwise_iff_getElem] at h2;exact h2 i j (by omega) hj' (by omega) e
theorem Ym (x : Int) (l : List Int) (hl : l.length < 17592186044416) : Ev (fun k => FI.f k x l) (Ya x l) := by
 unfold FI.f;have key := Ev.all0 (L := fun k j => FI.l0 k l (l.length : Int) (j : Int) x l) (P := T0 l) (n := l.length) (a := X5 l.length 2 4 && decide (x ∈ l)) (b := false)
  (by
   refine Ev.succ ?_;simp only [FI.l0,Int.lt_irrefl,if_false,Xw,Option.bind_some];rcases Bool.eq_false_or_eq_true (X5 l.length 2 4) with h | h
   ·simp only [h,if_true,Bool.true_and];exact Ev.bind (Xj l x (by omega)) (Ev.now _)
   ·simp only [h];exact Ev.now _)
  (by
   intro j r hj hP h;refine Ev.succ ?_;have h1 : ((j : Int) < (l.length : Int)) = True := eq_true (by omega);have h2 : ((j : Int) <= (l.length : Int)) = True := eq_true (by omega);rw [T0,Bool.and_eq_true,Bool.not_eq_true'] at hP;simp only [FI.l0,Xw,Option.bind_some,h1,h2,if_true,Xa,Yf,Int.toNat_natCast,Xb (show j < 4611686018427387904 by omega),hP.1];refine Ev.bind (Xj _ _ (by rw [List.length_take];omega)) ?_;simp only [hP.2];exact h)
  (by
   intro j hj hP;refine Ev.succ ?_;have h1 : ((j : Int) < (l.length : Int)) = True := eq_true (by omega);have h2 : ((j : Int) <= (l.length : Int)) = True := eq_true (by omega);rw [T0] at hP;simp only [FI.l0,Xw,Option.bind_some,h1,h2,if_true,Xa,Yf,Int.toNat_natCast];rcases Bool.eq_false_or_eq_true (X5 (l.getD j 0) 0 15) with h | h
   ·rw [h,Bool.true_and,Bool.not_eq_false'] at hP;simp only [h,if_true];refine Ev.bind (Xj _ _ (by rw [List.length_take];omega)) ?_;simp only [hP,if_true];exact Ev.now _
   ·simp only [h];exact Ev.now _)
 refine Ev.eq key ?_;rw [Tp];unfold Ya;cases X5 l.length 2 4 <;> cases (l.all (fun y => decide (0 <= y ∧ y <= 15))) <;> cases decide l.Nodup <;> cases decide (x ∈ l) <;> rfl
theorem Ze (l : List Int) (x : Int) (hl : l.length < 4611686018427387904) : ∀ d j,j + d = l.length -> Ev (fun k => Fv.l0 k l (l.length : Int) (j : Int) x l) (Xt l x d j) := by
 intro d
 induction d with
 | zero =>
  intro j hj;refine Ev.succ ?_;have h1 : ((j : Int) < (l.length : Int)) = False := eq_false (by omega);simp only [Fv.l0,h1,if_false,Xt];exact Ev.now _
 | succ d ih =>
  intro j hj;refine Ev.succ ?_;have h1 : ((j : Int) < (l.length : Int)) = True := eq_true (by omega);simp only [Fv.l0,h1,if_true,Xa,Yf,Xb (show j < 4611686018427387904 by omega),Xt];by_cases h : l.getD j 0 = x
  ·simp only [eq_true h,if_true];exact Ev.now _
  ·simp only [eq_false h,if_false];exact ih (j + 1) (by omega)
def Xy (l : List S30) (j : Nat) : S30 := l.getD j z30
theorem Gs (l : List S30) (j : Nat) : rd_T30 l (j : Int) = Xy l j := by simp [rd_T30,Xy]
theorem Yv (l : List S30) (j : Nat) (h : j < l.length) : Xy l j = l[j] := by unfold Xy;rw [List.getD_eq_getElem?_getD,List.getElem?_eq_getElem h];rfl
def Y2 (l : List S30) : Prop := ∀ q,q ∈ l -> q.f1.length <= 1048576
def Tu (q : S30) : Bool := Ya q.f0 q.f1
def Y4 (l : List S30) (a : List Int) (i : Nat) : Bool := X5 (a.getD i 0) (-1) (((Xy l i).f1.length : Int) - 1)
def Xx (l : List S30) (a : List Int) : Bool := decide (l.length <= 20) && (l.all Tu && (decide (a.length = l.length) && (List.range l.length).all (Y4 l a)))
theorem Yc {l : List S30} (hz : Y2 l) {j : Nat} (hj : j < l.length) : (Xy l j).f1.length <= 1048576 := by rw [Yv l j hj];exact hz _ (List.getElem_mem hj)
theorem Xv (l : List S30) (a : List Int) (hl : l.length <= 1048576) (ha : a.length <= 1048576) (hz : Y2 l) : Ev (fun k => Fn.f k l a) (Xx l a) := by
 unfold Fn.f Xx;by_cases h1 : l.length <= 20
 ·have g1 : ((l.length : Int) > 20) = False := eq_false (by omega);simp only [g1,if_false,h1,decide_true,Bool.true_and];unfold FE.f;refine Ev.bind (Zw (f := Tu) (fun q hq => Y9 q.f0 q.f1 (by have := hz q hq;omega))) ?_;rcases Bool.eq_false_or_eq_true (l.all Tu) with h2 | h2
  ·simp only [h2,if_true,Bool.true_and];refine Ev.succ ?_;by_cases h3 : a.length = l.length
   ·simp only [Fn.j0,h3,bne_self_eq_false,Bool.false_eq_true,if_false,decide_true,Bool.true_and];refine Ev.eq (Ev.all0 (L := fun k j => Fn.l0 k a l (l.length : Int) (j : Int)) (P := Y4 l a) (n := l.length) (a := true) (b := false) ?_ ?_ ?_) (by cases (List.range l.length).all (Y4 l a) <;> rfl)
    ·refine Ev.succ ?_;simp only [Fn.l0,Int.lt_irrefl,if_false];exact Ev.now _
    ·intro j r hj hP h;refine Ev.succ ?_;have g1 : ((j : Int) < (l.length : Int)) = True := eq_true (by omega);have g2 : ((j : Int) < (a.length : Int)) = True := eq_true (by omega);have := Yc hz hj;unfold Y4 at hP;simp only [Fn.l0,g1,g2,if_true,Xa,Gs,Yf,X7,Option.bind_some,Xc (x := ((Xy l j).f1.length : Int) - 1) (by omega) (by omega),hP,Xb (show j < 4611686018427387904 by omega)];exact h
    ·intro j hj hP;refine Ev.succ ?_;have g1 : ((j : Int) < (l.length : Int)) = True := eq_true (by omega);have g2 : ((j : Int) < (a.length : Int)) = True := eq_true (by omega);have := Yc hz hj;unfold Y4 at hP;simp only [Fn.l0,g1,g2,if_true,Xa,Gs,Yf,X7,Option.bind_some,Xc (x := ((Xy l j).f1.length : Int) - 1) (by omega) (by omega),hP,Bool.false_eq_true,if_false];exact Ev.now _
   ·have g3 : ((a.length : Int) != (l.length : Int)) = true := by simp;omega
    simp only [Fn.j0,g3,if_true,h3,decide_false,Bool.false_and];exact Ev.now _
  ·simp only [h2,Bool.false_eq_true,if_false,Bool.false_and];refine Ev.succ ?_;simp only [Fn.j0,if_true];exact Ev.now _
 ·have g1 : ((l.length : Int) > 20) = True := eq_true (by omega);simp only [g1,if_true,h1,decide_false,Bool.false_and];refine Ev.succ ?_;simp only [Fn.j0,if_true];exact Ev.now _
theorem X3 (l : List S30) (a : List Int) (hl : l.length <= 1048576) (ha : a.length <= 1048576) (hz : Y2 l) : Ev (fun k => Fk.f k l a) (Xx l a) := by
 unfold Fk.f Xx;by_cases h1 : l.length <= 20
 ·have g1 : ((l.length : Int) > 20) = False := eq_false (by omega);simp only [g1,if_false,h1,decide_true,Bool.true_and];refine Ev.succ ?_;by_cases h3 : a.length = l.length
  ·simp only [Fk.j0,h3,bne_self_eq_false,Bool.false_eq_true,if_false,decide_true,Bool.true_and];refine Ev.eq (Ev.all0 (L := fun k j => Fk.l0 k a l (l.length : Int) (j : Int)) (P := fun j => Tu (Xy l j) && Y4 l a j) (n := l.length) (a := true) (b := false) ?_ ?_ ?_) ?_
   ·refine Ev.succ ?_;simp only [Fk.l0,Int.lt_irrefl,if_false];exact Ev.now _
   ·intro j r hj hP h;refine Ev.succ ?_;have g1 : ((j : Int) < (l.length : Int)) = True := eq_true (by omega);have g2 : ((j : Int) < (a.length : Int)) = True := eq_true (by omega);have := Yc hz hj;rw [Bool.and_eq_true] at hP;obtain ⟨hP1,hP2⟩ := hP;unfold Tu at hP1;unfold Y4 at hP2;simp only [Fk.l0,g1,g2,if_true,Xa,Gs,Yf,Xw,Option.bind_some,Xc (x := ((Xy l j).f1.length : Int) - 1) (by omega) (by omega),Xb (show j < 4611686018427387904 by omega)];refine Ev.bind (Ym _ _ (by omega)) ?_;simp only [hP1,hP2,if_true];exact h
   ·intro j hj hP;refine Ev.succ ?_;have g1 : ((j : Int) < (l.length : Int)) = True := eq_true (by omega);have g2 : ((j : Int) < (a.length : Int)) = True := eq_true (by omega);have := Yc hz hj;simp only [Fk.l0,g1,g2,if_true,Xa,Gs,Yf,Xw,Option.bind_some,Xc (x := ((Xy l j).f1.length : Int) - 1) (by omega) (by omega)];refine Ev.bind (Ym _ _ (by omega)) ?_;unfold Tu Y4 at hP;rcases Bool.eq_false_or_eq_true (Ya (Xy l j).f0 (Xy l j).f1) with h2 | h2
    ·rw [h2,Bool.true_and] at hP;simp only [h2,hP,if_true,Bool.false_eq_true,if_false];exact Ev.now _
    ·simp only [h2,Bool.false_eq_true,if_false];exact Ev.now _
   ·have e : (List.range l.length).all (fun j => Tu (Xy l j) && Y4 l a j) = (l.all Tu && (List.range l.length).all (Y4 l a)) := by
     rw [Bool.eq_iff_iff,Bool.and_eq_true,List.all_eq_true,List.all_eq_true,List.all_eq_true]
     constructor
     ·intro h;refine ⟨fun q hq => ?_,fun j hj => ?_⟩
      ·obtain ⟨i,hi,rfl⟩ := List.mem_iff_getElem.1 hq;have := h i (List.mem_range.2 hi);rw [Bool.and_eq_true,Yv l i hi] at this;exact this.1
      ·have := h j hj;rw [Bool.and_eq_true] at this;exact this.2
     ·rintro ⟨h1,h2⟩ j hj;rw [Bool.and_eq_true,Yv l j (List.mem_range.1 hj)];exact ⟨h1 _ (List.getElem_mem _),h2 j hj⟩
    rw [e];cases l.all Tu && (List.range l.length).all (Y4 l a) <;> rfl
  ·have g3 : ((a.length : Int) != (l.length : Int)) = true := by simp;omega
   simp only [Fk.j0,g3,if_true,h3,decide_false,Bool.false_and,Bool.and_false];exact Ev.now _
 ·have g1 : ((l.length : Int) > 20) = True := eq_true (by omega);simp only [g1,if_true,h1,decide_false,Bool.false_and];refine Ev.succ ?_;simp only [Fk.j0,if_true];exact Ev.now _
theorem Xg {l : List S30} {a : List Int} (h : Xx l a = true) : l.length <= 20 ∧ a.length = l.length ∧ ∀ j,j < l.length -> Ya (Xy l j).f0 (Xy l j).f1 = true ∧ -1 <= a.getD j 0 ∧ a.getD j 0 < (Xy l j).f1.length := by
 unfold Xx at h;rw [Bool.and_eq_true,Bool.and_eq_true,Bool.and_eq_true,decide_eq_true_eq,decide_eq_true_eq,List.all_eq_true,List.all_eq_true] at h;obtain ⟨h1,h2,h3,h4⟩ := h;refine ⟨h1,h3,fun j hj => ⟨?_,?_⟩⟩
 ·rw [Yv l j hj];exact h2 _ (List.getElem_mem hj)
 ·have := of_decide_eq_true (h4 j (List.mem_range.2 hj));omega
theorem Jg (l : List Int) (x a : Int) (h : Ya x l = true) (h0 : 0 <= a) (h1 : a < l.length) : a = Xt l x l.length 0 ↔ rd l a = x := by
 obtain ⟨n,rfl⟩ : ∃ n : Nat,a = (n : Int) := ⟨a.toNat,by omega⟩;unfold Ya at h;rw [Bool.and_eq_true,Bool.and_eq_true,Bool.and_eq_true,decide_eq_true_eq,decide_eq_true_eq] at h;obtain ⟨_,_,hn,hx⟩ := h;have hg : ∀ i (hi : i < l.length),l.getD i 0 = l[i] := fun i hi => by rw [List.getD_eq_getElem?_getD,List.getElem?_eq_getElem hi];rfl
 have key : ∀ d j,j + d = l.length -> 0 <= Xt l x d j -> ∃ i : Nat,Xt l x d j = (i : Int) ∧ i < l.length ∧ l.getD i 0 = x := by
  intro d
  induction d with
  | zero => intro j _ h;simp [Xt] at h
  | succ d ih =>
   intro j hj h;rw [Xt] at h ⊢;by_cases hq : l.getD j 0 = x
   ·rw [if_pos hq];exact ⟨j,rfl,by omega,hq⟩
   ·rw [if_neg hq] at h ⊢;exact ih (j + 1) (by omega) h
 have hpos : 0 <= Xt l x l.length 0 := of_decide_eq_true ((Zr l x).trans (decide_eq_true hx));obtain ⟨i,e,hi,hxi⟩ := key l.length 0 (by omega) hpos;rw [e,Yf]
 constructor
 ·intro h2;have : n = i := by omega
  subst this;exact hxi
 ·intro h2;have hn' : n < l.length := by omega
  rw [hg n hn'] at h2;rw [hg i hi] at hxi;rw [List.Nodup,List.pairwise_iff_getElem] at hn;rcases Nat.lt_trichotomy n i with h3 | h3 | h3
  ·exact absurd (h2.trans hxi.symm) (hn n i hn' hi h3)
  ·omega
  ·exact absurd (hxi.trans h2.symm) (hn i n hi hn' h3)
theorem Uh (l : List Int) (x : Int) (h : Ya x l = true) : Xt l x l.length 0 ≠ -1 := by
 unfold Ya at h;rw [Bool.and_eq_true,Bool.and_eq_true,Bool.and_eq_true,decide_eq_true_eq,decide_eq_true_eq] at h;have hpos : 0 <= Xt l x l.length 0 := of_decide_eq_true ((Zr l x).trans (decide_eq_true h.2.2.2));omega
def Xi (l : List S30) (a : List Int) (j : Nat) : Bool := decide (0 <= a.getD j 0) && decide (rd (Xy l j).f1 (a.getD j 0) = (Xy l j).f0)
theorem Zl (l : List S30) (a : List Int) (h : Xx l a = true) (j : Nat) (hj : j < l.length) : FF.f (Xy l j).f0 (Xy l j).f1 (a.getD j 0) = some (Xi l a j) := by
 obtain ⟨_,_,h3⟩ := Xg h;obtain ⟨_,h5,h6⟩ := h3 j hj;unfold FF.f Xi;by_cases h0 : 0 <= a.getD j 0
 ·have g : (a.getD j 0 >= 0) = True := eq_true h0;simp only [g,h0,h6,if_true,decide_true,Bool.true_and];rfl
 ·have g : (a.getD j 0 >= 0) = False := eq_false h0;simp only [g,h0,if_false,decide_false,Bool.false_and]
theorem Zg (l : List S30) (j : Nat) (hj : (Xy l j).f1.length < 4611686018427387904) : Ev (fun k => Fv.f k (Xy l j).f0 (Xy l j).f1) (Xt (Xy l j).f1 (Xy l j).f0 (Xy l j).f1.length 0) := by
 unfold Fv.f;exact Ze _ _ hj _ 0 (by omega)
theorem Yk (l : List S30) (a : List Int) (h : Xx l a = true) (j : Nat) (hj : j < l.length) : a.getD j 0 = Xt (Xy l j).f1 (Xy l j).f0 (Xy l j).f1.length 0 ↔ Xi l a j = true := by
 obtain ⟨_,_,h3⟩ := Xg h;obtain ⟨h4,h5,h6⟩ := h3 j hj;unfold Xi;rw [Bool.and_eq_true,decide_eq_true_eq,decide_eq_true_eq];by_cases h0 : 0 <= a.getD j 0
 ·rw [Jg _ _ _ h4 h0 h6];exact ⟨fun h => ⟨h0,h⟩,fun h => h.2⟩
 ·have e : a.getD j 0 = -1 := by omega
  have := Uh _ _ h4;rw [e]
  constructor
  ·intro h2;exact absurd h2.symm this
  ·intro h2;omega
theorem Gy {l : List Int} (hu : U8 l) (L : List S41) (R : List (List Int)) (hR : LSh R) (a s : Int) (h0 : 0 <= a) (h1 : a <= 999999999900) : ∃ n a' s',Ev (fun k => FH.j0 k L R false l a s) (L,R,n,a',s') ∧ a <= a' ∧ a' <= a + 6 := by
 have hR1 := hR.1;have eR : wrap64 ((R.length : Int) + 1) = ((R.length + 1 : Nat) : Int) := Xb (by omega);obtain ⟨y1,a1,s1,e1,_,p1,q1⟩ := Xf hu s h0 (by omega) ((R.length + 1 : Nat) : Int) (by omega) (by omega);obtain ⟨y2,a2,s2,e2,_,p2,q2⟩ := Xl hu s1 (a := a1) (by omega) (by omega) [0,-1,((R.length + 1 : Nat) : Int)] (by simp) (by simp);obtain ⟨y3,a3,s3,e3,_,p3,q3⟩ := Xl hu s2 (a := a2) (by omega) (by omega) [1,(R.length : Int),(R.length : Int),y1,y2] (by simp) (by simp);refine ⟨y3,a3,s3,Ev.succ ?_,by omega,by omega⟩;simp only [FH.j0,Bool.false_eq_true,if_false,eR,e1,e2,e3,Option.bind_some];exact Ev.now _
theorem Jt {L : List S41} (hL : L.length <= 17) (hz : Zh L) (N : Nat) (hN : 0 < N) : LSh (X4 L N L.length []).1 := by
 obtain ⟨d1,d2⟩ := Ug L N L.length [];rw [List.nil_append] at d1;have hg := (Zi (Zx L) (Zf L) L.length N X6 (by omega) Zk L.length [] (Zq _ _) (by simp)).1;have hle := Xz hg.nodup hg.range;have hle2 : (X4 L N L.length []).1.flatten.length <= 17 := by
  have : (X4 L N L.length []).2.length <= L.length := hle;rw [d1] at this;omega
 exact ⟨by omega,fun y hy => by have := Yy hy;omega⟩
theorem Ua {l : List Int} (hu : U8 l) (L : List S41) (hL : L.length <= 17) (hz : Zh L) (R : List (List Int)) (hR : LSh R) (b : Bool) (a s : Int) (h0 : 0 <= a) (h1 : a <= 999999999800) : ∃ T n a' s',Ev (fun k => FH.j0 k L R b l a s) (L,T,n,a',s') ∧ LSh T ∧ a <= a' ∧ a' <= a + 10 := by
 cases b with
 | false =>
  obtain ⟨n,a1,s1,hE,p1,q1⟩ := Gy hu L R hR a s h0 (by omega);exact ⟨R,n,a1,s1,hE,hR,p1,by omega⟩
 | true =>
  obtain ⟨y,a1,s1,e1,⟨y0,y1⟩,p1,q1⟩ := Xf hu s h0 (by omega) 4 (by decide) (by decide);obtain ⟨N,hN⟩ : ∃ N : Nat,1 + y = (N : Int) := ⟨(1 + y).toNat,by omega⟩;have hT := Jt hL hz N (by omega);have hT1 := hT.1;have hg := Z9 L N hz (by omega) L.length [] [] (Zq _ _) (by simp) (by simp;omega);rw [List.nil_append] at hg;have eR : wrap64 (((X4 L N L.length []).1.length : Int) + 1) = (((X4 L N L.length []).1.length + 1 : Nat) : Int) := Xb (by omega);obtain ⟨y2,a2,s2,e2,_,p2,q2⟩ := Xf hu s1 (a := a1) (by omega) (by omega) (((X4 L N L.length []).1.length + 1 : Nat) : Int) (by omega) (by omega);obtain ⟨y3,a3,s3,e3,_,p3,q3⟩ := Xl hu s2 (a := a2) (by omega) (by omega) [0,-1,(((X4 L N L.length []).1.length + 1 : Nat) : Int)] (by simp) (by simp);obtain ⟨y4,a4,s4,e4,_,p4,q4⟩ := Xl hu s3 (a := a3) (by omega) (by omega) [1,((X4 L N L.length []).1.length : Int),((X4 L N L.length []).1.length : Int),y2,y3] (by simp) (by simp);refine ⟨(X4 L N L.length []).1,y4,a4,s4,Ev.succ ?_,hT,by omega,by omega⟩;simp only [FH.j0,if_true,e1,Option.bind_some];rw [Xc (by omega) (by omega),hN];refine Ev.bind (show Ev (fun k => Ft.f k L (N : Int)) _ from hg) ?_;simp only [eR,e2,e3,e4,Option.bind_some];exact Ev.now _
theorem V9 {l : List Int} (hu : U8 l) : ∃ (L : List S41) (R : List (List Int)) (n a s : Int),Ev (fun k => FH.f k l 0 0) (L,R,n,a,s) ∧ L.length <= 17 ∧ WSh 10 L ∧ LSh R ∧ 0 <= a ∧ a <= 300 := by
 obtain ⟨L,a1,s1,hE,h1,h2,p1,q1⟩ := Ta hu (a := 0) 0 (by decide) (by decide);have hz : Zh L := h2.wsz (by decide);obtain ⟨R,a2,s2,hR,h3,p2,q2⟩ := G9 hu L h1 hz a1 s1 p1 (by omega);have hG := Y7 L (by omega) hz;unfold FH.f;cases hw : Ye L with
 | false =>
  rw [hw] at hG;obtain ⟨T,n,a3,s3,hT,hS,p3,q3⟩ := Ua hu L h1 hz R h3 false a2 s2 (by omega) (by omega);refine ⟨L,T,n,a3,s3,Ev.bind hE (Ev.bind hR (Ev.bind hG ?_)),h1,h2,hS,by omega,by omega⟩;simp only [Bool.false_eq_true,if_false];exact hT
 | true =>
  rw [hw] at hG;obtain ⟨b,a3,s3,e3,_,p3,q3⟩ := Vt hu s2 (a := a2) (by omega) (by omega) 4 (by decide) (by decide);obtain ⟨T,n,a4,s4,hT,hS,p4,q4⟩ := Ua hu L h1 hz R h3 (!b) a3 s3 (by omega) (by omega);refine ⟨L,T,n,a4,s4,Ev.bind hE (Ev.bind hR (Ev.bind hG ?_)),h1,h2,hS,by omega,by omega⟩;simp only [if_true,e3,Option.bind_some];exact hT
theorem G6 {l : List Int} (hu : U8 l) (x : Int) (c : List Int) (hc0 : 0 < c.length) (hc : c.length <= 20) (a s : Int) (h0 : 0 <= a) (h1 : a <= 999999999900) : ∃ (r : Int × List Int) (a' s' : Int),Ev (fun k => Fc.j1 k l a s x c) (r.1,r.2,a',s') ∧ r.2.length <= 21 ∧ a <= a' ∧ a' <= a + 6 := by
 obtain ⟨y1,a1,s1,e1,⟨b0,b1⟩,p1,q1⟩ := Xf hu s h0 (by omega) (c.length : Int) (by omega) (by omega);obtain ⟨y2,a2,s2,e2,_,p2,q2⟩ := Xf hu s1 (a := a1) (by omega) (by omega) 30 (by decide) (by decide);by_cases c0 : y2 = 0
 ·obtain ⟨y3,a3,s3,e3,_,p3,q3⟩ := Xl hu s2 (a := a2) (by omega) (by omega) [-1,15,16] (by simp) (by simp);refine ⟨(y3,c),a3,s3,Ev.succ ?_,by show c.length <= 21;omega,by omega,by omega⟩;simp only [Fc.j1,e1,e2,e3,Option.bind_some,eq_true b0,eq_true b1,eq_true c0,if_true];exact Ev.now _
 by_cases c1 : y2 = 1
 ·obtain ⟨y3,a3,s3,e3,_,p3,q3⟩ := Xl hu s2 (a := a2) (by omega) (by omega) [-1,15,16,rd c 0] (by simp) (by simp);refine ⟨(rd c y1,c ++ [y3]),a3,s3,Ev.succ ?_,by show (c ++ [y3]).length <= 21;rw [List.length_append,List.length_singleton];omega,by omega,by omega⟩;simp only [Fc.j1,e1,e2,e3,Option.bind_some,eq_true b0,eq_true b1,eq_false c0,if_false,eq_true c1,if_true,show (0 < (c.length : Int)) = True from eq_true (by omega),show (c.length < 17592186044416) = True from eq_true (by omega)];exact Ev.now _
 by_cases c2 : y2 = 2
 ·refine ⟨(rd c y1,c.take (1 : Int).toNat),a2,s2,Ev.succ ?_,by show (c.take (1 : Int).toNat).length <= 21;rw [List.length_take];omega,by omega,by omega⟩;simp only [Fc.j1,e1,e2,Option.bind_some,eq_true b0,eq_true b1,eq_false c0,if_false,eq_false c1,eq_true c2,if_true,show (1 <= (c.length : Int)) = True from eq_true (by omega)];exact Ev.now _
 ·refine ⟨(rd c y1,c),a2,s2,Ev.succ ?_,by show c.length <= 21;omega,by omega,by omega⟩;simp only [Fc.j1,e1,e2,Option.bind_some,eq_true b0,eq_true b1,eq_false c0,if_false,eq_false c1,eq_false c2,if_true];exact Ev.now _
theorem Td (l : List Int) (x : Int) (hl : l.length <= 4000000) (hu : l.Pairwise (· < ·)) : ∃ r : List Int,Ev (fun k => Fu.f k l x) r ∧ r.length <= l.length + 1 ∧ 0 < r.length ∧ r.Pairwise (· < ·) := by
 obtain ⟨r,r1,r2,r3,r4⟩ := Zs l x hl hu;refine ⟨r,r1,r4,?_,r2⟩;have : x ∈ r := (r3 x).2 (Or.inr rfl);exact List.length_pos_of_mem this
theorem Tm {l : List Int} (hu : U8 l) (n : Int) (hn : n <= 100) : ∀ (d : Nat) (x : Int) (c : List Int) (a s : Int),c.length + d <= 19 -> (0 < c.length ∨ 0 < d) -> c.Pairwise (· < ·) -> 0 <= a -> a + 2 * d <= 999999999890 -> ∃ (r : Int × List Int) (a' s' : Int),Ev (fun k => Fc.l0 k n (d : Int) l a s x c) (r.1,r.2,a',s') ∧ r.2.length <= 21 ∧ a <= a' ∧ a' <= a + 2 * d + 6 := by
 intro d
 induction d with
 | zero =>
  intro x c a s h1 h2 h3 h4 h5;by_cases hc : c.length = 1
  ·obtain ⟨r,a1,s1,hE,q,p1,q1⟩ := G6 hu x [1,0] (by simp) (by simp) a s h4 (by omega);refine ⟨r,a1,s1,Ev.succ ?_,q,p1,by omega⟩;simp only [Fc.l0,show (((0 : Nat) : Int) > 0) = False from eq_false (by omega),if_false,show ((c.length : Int) = 1) = True from eq_true (by omega),if_true];exact hE
  ·obtain ⟨r,a1,s1,hE,q,p1,q1⟩ := G6 hu x c (by omega) (by omega) a s h4 (by omega);refine ⟨r,a1,s1,Ev.succ ?_,q,p1,by omega⟩;simp only [Fc.l0,show (((0 : Nat) : Int) > 0) = False from eq_false (by omega),if_false,show ((c.length : Int) = 1) = False from eq_false (by omega)];exact hE
 | succ d ih =>
  intro x c a s h1 h2 h3 h4 h5;obtain ⟨m,hm,m0,m1⟩ : ∃ m,La.f 2 n = some m ∧ 1 <= m ∧ m <= 1000000 := by
   unfold La.f
   split
   ·exact ⟨_,rfl,by omega,by omega⟩
   ·exact ⟨_,rfl,by omega,by omega⟩
  obtain ⟨y,a1,s1,e1,_,p1,q1⟩ := Xf hu s h4 (by omega) m m0 m1;obtain ⟨c2,k1,k2,k3,k4⟩ := Td c y (by omega) h3;obtain ⟨r,a2,s2,hE,q,p2,q2⟩ := ih x c2 a1 s1 (by omega) (Or.inl k3) k4 (by omega) (by omega);refine ⟨r,a2,s2,Ev.succ ?_,q,by omega,by omega⟩;simp only [Fc.l0,show (((d + 1 : Nat) : Int) > 0) = True from eq_true (by omega),if_true,hm,Option.bind_some,e1];refine Ev.bind k1 ?_;rw [show wrap64 (((d + 1 : Nat) : Int) - 1) = (d : Int) by rw [Xc (by omega) (by omega)];omega];exact hE
theorem G3 {l : List Int} (hu : U8 l) (n : Int) (hn : n <= 100) {a : Int} (s : Int) (h0 : 0 <= a) (h1 : a <= 999999999800) : ∃ (r : Int × List Int) (a' s' : Int),Ev (fun k => Fc.f k l a s n) (r.1,r.2,a',s') ∧ r.2.length <= 21 ∧ a <= a' ∧ a' <= a + 20 := by
 obtain ⟨y,a1,s1,e1,⟨y0,y1⟩,p1,q1⟩ := Xf hu s h0 (by omega) 3 (by decide) (by decide);obtain ⟨d,hd⟩ : ∃ d : Nat,2 + y = (d : Int) := ⟨(2 + y).toNat,by omega⟩;obtain ⟨r,a2,s2,hE,q,p2,q2⟩ := Tm hu n hn d 0 [] a1 s1 (by simp;omega) (Or.inr (by omega)) List.Pairwise.nil (by omega) (by omega);refine ⟨r,a2,s2,?_,q,by omega,by omega⟩;unfold Fc.f;simp only [e1,Option.bind_some];rw [Xc (by omega) (by omega),hd];exact hE
theorem J2 (l : List S30) (hl : l.length < 4611686018427387904) (hz : Y2 l) : Ev (fun k => FJ.f k l l) true := by
 unfold FJ.f;simp only [if_true];exact Ev.upto (L := fun k j => FJ.l0 k l l (l.length : Int) (j : Int)) (r := true) (n := l.length)
  (by
   refine Ev.succ ?_;simp only [FJ.l0,Int.lt_irrefl,if_false];exact Ev.now _)
  (by
   intro j hj h;refine Ev.succ ?_;have := Yc hz hj;simp only [FJ.l0,show ((j : Int) < (l.length : Int)) = True from eq_true (by omega),if_true,Xa,Xb (show j < 4611686018427387904 by omega),Gs];refine Ev.bind (Z3 _ (by omega)) ?_;simp only [if_true];exact h)
  0 (Nat.zero_le _)
theorem Zj (d : Array Int) (hs : ∀ i j,i < j -> j < d.size -> d[i]! <= d[j]!) : ∀ m,m <= d.size -> (Lib.compactUpTo d m).Pairwise (· < ·) ∧ ∀ x,x ∈ Lib.compactUpTo d m ↔ ∃ i,i < m ∧ d[i]! = x := by
 intro m
 induction m with
 | zero => intro _;exact ⟨by simp [Lib.compactUpTo],fun x => by simp [Lib.compactUpTo]⟩
 | succ m ih =>
  intro hm;obtain ⟨h1,h2⟩ := ih (by omega);rw [Lib.compactUpTo_succ];rcases Bool.eq_false_or_eq_true (Lib.keeps d m) with hk | hk
  ·rw [if_pos hk];have hlt : ∀ x,x ∈ Lib.compactUpTo d m -> x < d[m]! := by
    intro x hx;obtain ⟨i,hi,rfl⟩ := (h2 x).1 hx;have hne : d[m]! ≠ d[m - 1]! := by
     have := of_decide_eq_true hk;exact this.resolve_left (by omega)
    have h3 : d[m - 1]! < d[m]! := by have := hs (m - 1) m (by omega) (by omega);omega
    by_cases he : i = m - 1
    ·rw [he];exact h3
    ·have h4 := hs i (m - 1) (by omega) (by omega);omega
   refine ⟨List.pairwise_append.2 ⟨h1,List.pairwise_singleton _ _,fun a ha b hb => ?_⟩,fun x => ?_⟩
   ·rw [List.mem_singleton.1 hb];exact hlt a ha
   ·rw [List.mem_append,h2,List.mem_singleton]
    constructor
    ·rintro (⟨i,hi,e⟩ | e)
     ·exact ⟨i,by omega,e⟩
     ·exact ⟨m,by omega,e.symm⟩
    ·rintro ⟨i,hi,e⟩;by_cases he : i = m
     ·exact .inr (by rw [<- e,he])
     ·exact .inl ⟨i,by omega,e⟩
  ·rw [hk];simp only [Bool.false_eq_true,if_false,List.append_nil];refine ⟨h1,fun x => ?_⟩;rw [h2];have hne := of_decide_eq_false hk;have hm0 : m ≠ 0 := fun e => hne (.inl e)
   have he : d[m]! = d[m - 1]! := Classical.byContradiction fun e => hne (.inr e)
   constructor
   ·rintro ⟨i,hi,e⟩;exact ⟨i,by omega,e⟩
   ·rintro ⟨i,hi,e⟩;by_cases h5 : i = m
    ·exact ⟨m - 1,by omega,by rw [<- e,h5,he]⟩
    ·exact ⟨i,by omega,e⟩
theorem Vf (u : List Int) : (Lib.compact (u.mergeSort fun x y => decide (x <= y))).Pairwise (· < ·) ∧ ∀ x,x ∈ Lib.compact (u.mergeSort fun x y => decide (x <= y)) ↔ x ∈ u := by
 have hp : (u.mergeSort fun x y => decide (x <= y)).Perm u := List.mergeSort_perm _ _;have hs : (u.mergeSort fun x y => decide (x <= y)).Pairwise (fun x y => decide (x <= y) = true) := List.pairwise_mergeSort (le := fun x y : Int => decide (x <= y)) (by intro a b c;simp;omega) (by intro a b;simp;omega) u;generalize (u.mergeSort fun x y => decide (x <= y)) = z at *;have hg := List.pairwise_iff_getElem.1 hs;have := Zj z.toArray (by
  intro i j hij hj;have hj' : j < z.length := by simpa using hj
  have := hg i j (by omega) hj' hij
  simpa [getElem!_pos,hj',show i < z.length by omega] using this) z.length (by simp)
 refine ⟨this.1,fun x => ?_⟩;rw [<- hp.mem_iff];refine (this.2 x).trans ?_;rw [List.mem_iff_getElem]
 constructor
 ·rintro ⟨i,hi,e⟩;exact ⟨i,hi,by simpa [getElem!_pos,hi] using e⟩
 ·rintro ⟨i,hi,e⟩;exact ⟨i,hi,by simpa [getElem!_pos,hi] using e⟩
theorem Uq (u : List Int) (hl : u.length < 17592186044416) : ∃ r,Fj.f u = some r ∧ r.Pairwise (· < ·) ∧ ∀ x,x ∈ r ↔ x ∈ u := by
 unfold Fj.f FO.f;simp only [Option.bind_some,List.length_nil,Nat.zero_add,List.nil_append,eq_true hl,if_true];exact ⟨_,rfl,Vf u⟩
def Xq (l : List S30) (a : List Int) : Nat -> Nat -> List Int
 | 0,_ => []
 | d + 1,j => if Xi l a j then Xq l a d (j + 1) else (Xy l j).f0 :: Xq l a d (j + 1)
theorem Zm (l : List S30) (a : List Int) : ∀ d j,(Xq l a d j).length <= d
 | 0,_ => by simp [Xq]
 | d + 1,j => by
  have := Zm l a d (j + 1);unfold Xq
  split
  ·omega
  ·simp only [List.length_cons];omega
theorem Gh (l : List S30) (a : List Int) (h : Xx l a = true) (W : List Int) : ∀ d j (acc : List Int),j + d = l.length -> acc.length + d <= 1000000 -> Fj.f (acc ++ Xq l a d j) = some W -> Ev (fun k => FY.l0 k a acc l (l.length : Int) (j : Int)) (W,true) := by
 obtain ⟨h20,hla,h3⟩ := Xg h;intro d
 induction d with
 | zero =>
  intro j acc hj _ hW;refine Ev.succ ?_;have g1 : ((j : Int) < (l.length : Int)) = False := eq_false (by omega);rw [Xq,List.append_nil] at hW;simp only [FY.l0,g1,if_false,hW,Option.bind_some];exact Ev.now _
 | succ d ih =>
  intro j acc hj hacc hW;refine Ev.succ ?_;have hlt : j < l.length := by omega
  have g1 : ((j : Int) < (l.length : Int)) = True := eq_true (by omega);have g2 : ((j : Int) < (a.length : Int)) = True := eq_true (by omega);have g3 : (acc.length < 17592186044416) = True := eq_true (by omega);simp only [FY.l0,g1,g2,if_true,Xa,Gs,Yf,Xb (show j < 4611686018427387904 by omega),Zl l a h j hlt,Option.bind_some,g3];rw [Xq] at hW;rcases Bool.eq_false_or_eq_true (Xi l a j) with hra | hra
  ·rw [hra,if_pos rfl] at hW;simp only [hra,if_true];exact ih (j + 1) acc (by omega) (by omega) hW
  ·rw [hra,if_neg (by decide)] at hW;simp only [hra,Bool.false_eq_true,if_false];exact ih (j + 1) (acc ++ [(Xy l j).f0]) (by omega) (by rw [List.length_append];simp;omega) (by rw [List.append_assoc];exact hW)
theorem Gn (l : List S30) (a : List Int) (hz : Y2 l) (h : Xx l a = true) (W : List Int) (hup : W.Pairwise (· < ·)) : ∀ d j (acc : List Int),j + d = l.length -> acc.length + d <= 1000000 -> acc.Pairwise (· < ·) -> (∀ y,y ∈ W ↔ y ∈ acc ∨ y ∈ Xq l a d j) -> Ev (fun k => GA.l0 k a acc l (l.length : Int) (j : Int)) (W,true) := by
 obtain ⟨h20,hla,h3⟩ := Xg h;intro d
 induction d with
 | zero =>
  intro j acc hj _ hu hW;refine Ev.succ ?_;have g1 : ((j : Int) < (l.length : Int)) = False := eq_false (by omega);have e : acc = W := Vk hu hup (fun y => by rw [hW y,Xq];simp);simp only [GA.l0,g1,if_false,e];exact Ev.now _
 | succ d ih =>
  intro j acc hj hacc hu hW;refine Ev.succ ?_;have hlt : j < l.length := by omega
  have g1 : ((j : Int) < (l.length : Int)) = True := eq_true (by omega);have g2 : ((j : Int) < (a.length : Int)) = True := eq_true (by omega);have hq := Yc hz hlt;have hi := Yk l a h j hlt;simp only [GA.l0,g1,g2,if_true,Xa,Gs,Yf,Xb (show j < 4611686018427387904 by omega)];refine Ev.bind (Zg l j (by omega)) ?_;rcases Bool.eq_false_or_eq_true (Xi l a j) with hra | hra
  ·have hx := hi.2 hra;simp only [eq_true hx,if_true];refine ih (j + 1) acc (by omega) (by omega) hu (fun y => ?_);rw [hW y,Xq,hra,if_pos rfl]
  ·have hx : ¬ (a.getD j 0 = Xt (Xy l j).f1 (Xy l j).f0 (Xy l j).f1.length 0) := fun e => by rw [hi.1 e] at hra;cases hra
   simp only [eq_false hx,if_false];obtain ⟨r,hr,hr1,hr2,hr3⟩ := Zs acc (Xy l j).f0 (by omega) hu;refine Ev.bind hr ?_;refine ih (j + 1) r (by omega) (by omega) hr1 (fun y => ?_);rw [hW y,Xq,hra,if_neg (by decide),hr2,List.mem_cons]
   constructor
   ·rintro (h | h | h)
    ·exact Or.inl (Or.inl h)
    ·exact Or.inl (Or.inr h)
    ·exact Or.inr h
   ·rintro ((h | h) | h)
    ·exact Or.inl h
    ·exact Or.inr (Or.inl h)
    ·exact Or.inr (Or.inr h)
theorem Jx (l : List S30) (a : List Int) (hl : l.length <= 1048576) (ha : a.length <= 1048576) (hz : Y2 l) : ∃ W : List Int × Bool,W.1.length <= 1048576 ∧ Ev (fun k => FY.f k l a) W ∧ Ev (fun k => GA.f k l a) W ∧ W.2 = Xx l a ∧ (Xx l a = true -> (∀ y,y ∈ W.1 ↔ y ∈ Xq l a l.length 0) ∧ W.1.length <= (Xq l a l.length 0).length) := by
 unfold FY.f GA.f;rcases Bool.eq_false_or_eq_true (Xx l a) with h | h
 ·obtain ⟨h20,_,_⟩ := Xg h;have hwl := Zm l a l.length 0;obtain ⟨W,hW,hup,hm⟩ := Uq (Xq l a l.length 0) (by omega);obtain ⟨W2,hW2,hlen⟩ : ∃ r,Fj.f (Xq l a l.length 0) = some r ∧ (r.length <= 1048576 ∧ r.length <= (Xq l a l.length 0).length) := by
   refine ⟨W,hW,?_⟩;have nd : W.Nodup := List.Pairwise.imp (S := fun a b : Int => a ≠ b) (fun {a b} (hlt : a < b) e => by omega) hup;have := nd.length_le_of_subset (l₂ := Xq l a l.length 0) (fun y hy => (hm y).1 hy);omega
  rw [hW] at hW2;obtain rfl := Option.some.inj hW2;refine ⟨(W,true),hlen.1,?_,?_,h.symm,fun _ => ⟨hm,hlen.2⟩⟩
  ·refine Ev.bind (Xv l a hl ha hz) ?_;simp only [h,if_true];exact Gh l a h W l.length 0 [] (by omega) (by rw [List.length_nil];omega) hW
  ·refine Ev.bind (X3 l a hl ha hz) ?_;simp only [h,if_true];exact Gn l a hz h W hup l.length 0 [] (by omega) (by rw [List.length_nil];omega) List.Pairwise.nil (fun y => by rw [hm y];simp)
 ·refine ⟨([],false),by decide,?_,?_,h.symm,fun h2 => by rw [h] at h2;cases h2⟩
  ·refine Ev.bind (Xv l a hl ha hz) ?_;simp only [h,Bool.false_eq_true,if_false];exact Ev.now _
  ·refine Ev.bind (X3 l a hl ha hz) ?_;simp only [h,Bool.false_eq_true,if_false];exact Ev.now _
theorem Jd (l : List Int) (hl : l.length < 17592186044416) : FO.f l = some l := by
 unfold FO.f;simp only [Option.bind_some,List.length_nil,Nat.zero_add,List.nil_append,eq_true hl,if_true]
theorem Jy (x : Int) (l : List Int) (hl : l.length < 17592186044416) : Lm.f x l = some (x,l) := by
 unfold Lm.f Lk.f;simp only [Option.bind_some,List.length_nil,Nat.zero_add,List.nil_append,eq_true hl,if_true]
def Xo (b : Bool) (l : List S30) (a : List Int) : Nat -> Nat -> List S30
 | 0,_ => []
 | d + 1,j => if (!Xi l a j && (decide (a.getD j 0 < 0) == b)) = true then Xy l j :: Xo b l a d (j + 1) else Xo b l a d (j + 1)
theorem X0 (b : Bool) (l : List S30) (a : List Int) : ∀ d j,(Xo b l a d j).length <= d
 | 0,_ => by simp [Xo]
 | d + 1,j => by
  have := X0 b l a d (j + 1);unfold Xo
  split
  ·simp only [List.length_cons];omega
  ·omega
theorem V0 (l : List S30) (a : List Int) (hz : Y2 l) (h : Xx l a = true) : ∀ d j (w n : List S30),j + d = l.length -> w.length + n.length + d <= 1000 -> Ev (fun k => Fg.l0 k a w n l (l.length : Int) (j : Int)) ((w ++ Xo false l a d j) ++ (n ++ Xo true l a d j),true) := by
 obtain ⟨h20,hla,h3⟩ := Xg h;intro d
 induction d with
 | zero =>
  intro j w n hj hn;refine Ev.succ ?_;have g1 : ((j : Int) < (l.length : Int)) = False := eq_false (by omega);have g2 : (w.length + n.length < 4398046511104) = True := eq_true (by omega);simp only [Fg.l0,g1,if_false,g2,if_true,Xo,List.append_nil];exact Ev.now _
 | succ d ih =>
  intro j w n hj hn;refine Ev.succ ?_;have hlt : j < l.length := by omega
  have g1 : ((j : Int) < (l.length : Int)) = True := eq_true (by omega);have g2 : ((j : Int) < (a.length : Int)) = True := eq_true (by omega);have g3 : (w.length < 4398046511104) = True := eq_true (by omega);have g4 : (n.length < 4398046511104) = True := eq_true (by omega);have hq := Yc hz hlt;simp only [Fg.l0,g1,g2,g3,g4,if_true,Xa,Gs,Yf,Xb (show j < 4611686018427387904 by omega),Jd _ (show (Xy l j).f1.length < 17592186044416 by omega),Zl l a h j hlt,Option.bind_some];by_cases h0 : a.getD j 0 < 0
  ·have hra : Xi l a j = false := by
    unfold Xi;rw [decide_eq_false (show ¬ (0 <= a.getD j 0) by omega),Bool.false_and]
   have e1 : Xo false l a (d + 1) j = Xo false l a d (j + 1) := by rw [Xo,hra,decide_eq_true h0];rfl
   have e2 : Xo true l a (d + 1) j = Xy l j :: Xo true l a d (j + 1) := by rw [Xo,hra,decide_eq_true h0];rfl
   rw [e1,e2];simp only [eq_true h0,if_true];refine Ev.eq (ih (j + 1) w (n ++ [Xy l j]) (by omega) (by rw [List.length_append];simp;omega)) ?_;simp
  ·simp only [eq_false h0,if_false];rcases Bool.eq_false_or_eq_true (Xi l a j) with hra | hra
   ·have e1 : Xo false l a (d + 1) j = Xo false l a d (j + 1) := by rw [Xo,hra];rfl
    have e2 : Xo true l a (d + 1) j = Xo true l a d (j + 1) := by rw [Xo,hra];rfl
    rw [e1,e2];simp only [hra,if_true];exact ih (j + 1) w n (by omega) (by omega)
   ·have e1 : Xo false l a (d + 1) j = Xy l j :: Xo false l a d (j + 1) := by rw [Xo,hra,decide_eq_false h0];rfl
    have e2 : Xo true l a (d + 1) j = Xo true l a d (j + 1) := by rw [Xo,hra,decide_eq_false h0];rfl
    rw [e1,e2];simp only [hra,Bool.false_eq_true,if_false];refine Ev.eq (ih (j + 1) (w ++ [Xy l j]) n (by omega) (by rw [List.length_append];simp;omega)) ?_;simp
theorem Za (l : List S30) (a : List Int) (hz : Y2 l) (h : Xx l a = true) (b : Bool) (bs : List Bool) (i : Int) (r : List S30 × Bool) : ∀ d j (acc : List S30),j + d = l.length -> acc.length + d <= 1000 -> Ev (fun k => Fh.l0 k l a (acc ++ Xo b l a d j) bs (bs.length : Int) (wrap64 (i + 1))) r -> Ev (fun k => Fh.l1 k l a acc b bs (bs.length : Int) i l (l.length : Int) (j : Int)) r := by
 obtain ⟨h20,hla,h3⟩ := Xg h;intro d
 induction d with
 | zero =>
  intro j acc hj hn hc;refine Ev.succ ?_;have g1 : ((j : Int) < (l.length : Int)) = False := eq_false (by omega);rw [Xo,List.append_nil] at hc;simp only [Fh.l1,g1,if_false];exact hc
 | succ d ih =>
  intro j acc hj hn hc;refine Ev.succ ?_;have hlt : j < l.length := by omega
  have g1 : ((j : Int) < (l.length : Int)) = True := eq_true (by omega);have g2 : ((j : Int) < (a.length : Int)) = True := eq_true (by omega);have g3 : (acc.length < 4398046511104) = True := eq_true (by omega);have hq := Yc hz hlt;have hi := Yk l a h j hlt;simp only [Fh.l1,g1,g2,g3,if_true,Xa,Gs,Yf,Xb (show j < 4611686018427387904 by omega),Jy _ _ (show (Xy l j).f1.length < 17592186044416 by omega),Option.bind_some];refine Ev.bind (Zg l j (by omega)) ?_;rw [Xo] at hc;rcases Bool.eq_false_or_eq_true (Xi l a j) with hra | hra
  ·have hx := hi.2 hra;rw [hra,Bool.not_true,Bool.false_and,if_neg (by decide)] at hc;simp only [eq_true hx,if_true];exact ih (j + 1) acc (by omega) (by omega) hc
  ·have hx : ¬ (a.getD j 0 = Xt (Xy l j).f1 (Xy l j).f0 (Xy l j).f1.length 0) := fun e => by rw [hi.1 e] at hra;cases hra
   rw [hra,Bool.not_false,Bool.true_and] at hc;simp only [eq_false hx,if_false];cases hb : (decide (a.getD j 0 < 0) == b) with
   | true =>
    rw [hb,if_pos rfl] at hc;simp only [if_true];refine ih (j + 1) (acc ++ [Xy l j]) (by omega) (by rw [List.length_append];simp;omega) ?_;rw [List.append_assoc];exact hc
   | false =>
    rw [hb,if_neg (by decide)] at hc;simp only [Bool.false_eq_true,if_false];exact ih (j + 1) acc (by omega) (by omega) hc
def X2 (l : List S30) (a : List Int) : List S30 × Bool := if Xx l a then (Xo false l a l.length 0 ++ Xo true l a l.length 0,true) else ([],false)
theorem V2 (l : List S30) (a : List Int) (hl : l.length <= 1048576) (ha : a.length <= 1048576) (hz : Y2 l) : Ev (fun k => Fg.f k l a) (X2 l a) := by
 unfold Fg.f X2;refine Ev.bind (Xv l a hl ha hz) ?_;rcases Bool.eq_false_or_eq_true (Xx l a) with h | h
 ·obtain ⟨h20,_,_⟩ := Xg h;simp only [h,if_true];exact V0 l a hz h l.length 0 [] [] (by omega) (by simp;omega)
 ·simp only [h,Bool.false_eq_true,if_false];exact Ev.now _
theorem Vy (l : List S30) (a : List Int) (hl : l.length <= 1048576) (ha : a.length <= 1048576) (hz : Y2 l) : Ev (fun k => Fh.f k l a) (X2 l a) := by
 unfold Fh.f X2;refine Ev.bind (X3 l a hl ha hz) ?_;rcases Bool.eq_false_or_eq_true (Xx l a) with h | h
 ·obtain ⟨h20,_,_⟩ := Xg h;have hs := X0 false l a l.length 0;simp only [h,if_true,Option.bind_some];refine Ev.succ ?_;have g1 : ((0 : Int) < (([false,true] : List Bool).length : Int)) = True := eq_true (by decide);have r0 : rdOf false [false,true] (0 : Int) = false := rfl;simp only [Fh.l0,g1,if_true,Int.le_refl,r0];refine Za l a hz h false [false,true] 0 _ l.length 0 [] (by omega) (by simp;omega) ?_;rw [show wrap64 ((0 : Int) + 1) = 1 from by unfold wrap64;omega];refine Ev.succ ?_;have g2 : ((1 : Int) < (([false,true] : List Bool).length : Int)) = True := eq_true (by decide);have r1 : rdOf false [false,true] (1 : Int) = true := rfl;have g3 : ((0 : Int) <= 1) = True := eq_true (by decide);simp only [Fh.l0,g2,g3,if_true,r1];refine Za l a hz h true [false,true] 1 _ l.length 0 _ (by omega) (by rw [List.nil_append];omega) ?_;rw [show wrap64 ((1 : Int) + 1) = 2 from by unfold wrap64;omega];refine Ev.succ ?_;have g4 : ((2 : Int) < (([false,true] : List Bool).length : Int)) = False := eq_false (by decide);simp only [Fh.l0,g4,if_false,List.nil_append];exact Ev.now _
 ·simp only [h,Bool.false_eq_true,if_false];exact Ev.now _
def Xh (l : List S30) (a : List Int) : Nat -> Nat -> Int -> Int -> Int × Int
 | 0,_,r,w => (r,w)
 | d + 1,j,r,w => if Xi l a j then Xh l a d (j + 1) (r + 1) w else if 0 <= a.getD j 0 then Xh l a d (j + 1) r (w + 1) else Xh l a d (j + 1) r w
theorem Zp (l : List S30) (a : List Int) (hz : Y2 l) (h : Xx l a = true) : ∀ d j (r w : Int),j + d = l.length -> 0 <= r -> 0 <= w -> r <= j -> w <= j -> Ev (fun k => FX.l0 k a r w l (l.length : Int) (j : Int)) (Xh l a d j r w) := by
 obtain ⟨h20,hla,h3⟩ := Xg h;intro d
 induction d with
 | zero =>
  intro j r w hj _ _ _ _;refine Ev.succ ?_;have g1 : ((j : Int) < (l.length : Int)) = False := eq_false (by omega);simp only [FX.l0,g1,if_false,Xh];exact Ev.now _
 | succ d ih =>
  intro j r w hj hr hw hr2 hw2;refine Ev.succ ?_;have hlt : j < l.length := by omega
  have g1 : ((j : Int) < (l.length : Int)) = True := eq_true (by omega);have g2 : ((j : Int) < (a.length : Int)) = True := eq_true (by omega);have hq := Yc hz hlt;obtain ⟨h4,h5,h6⟩ := h3 j hlt;have hi := Yk l a h j hlt;simp only [FX.l0,g1,g2,if_true,Xa,Gs,Yf,Xb (show j < 4611686018427387904 by omega),Xh];by_cases hm : a.getD j 0 = -1
  ·have hra : Xi l a j = false := by
    rw [<- Bool.not_eq_true,<- hi,hm];exact fun e => Uh _ _ h4 e.symm
   have g3 : ¬ (0 <= a.getD j 0) := by omega
   simp only [eq_true hm,if_true,hra,Bool.false_eq_true,if_false,g3];exact ih (j + 1) r w (by omega) hr hw (by omega) (by omega)
  ·have g3 : 0 <= a.getD j 0 := by omega
   simp only [eq_false hm,if_false];refine Ev.bind (Zg l j (by omega)) ?_;by_cases hx : a.getD j 0 = Xt (Xy l j).f1 (Xy l j).f0 (Xy l j).f1.length 0
   ·have hra := hi.1 hx;simp only [eq_true hx,if_true,hra,Xc (x := r + 1) (by omega) (by omega)];exact ih (j + 1) (r + 1) w (by omega) (by omega) hw (by omega) (by omega)
   ·have hra : Xi l a j = false := by
     rw [<- Bool.not_eq_true,<- hi];exact hx
    simp only [eq_false hx,if_false,hra,Bool.false_eq_true,g3,if_true,Xc (x := w + 1) (by omega) (by omega)];exact ih (j + 1) r (w + 1) (by omega) hr (by omega) (by omega) (by omega)
theorem Ux (l : List S30) (a : List Int) (hz : Y2 l) (h : Xx l a = true) : ∀ d j (r w : Int),j + d = l.length -> 0 <= r -> 0 <= w -> r <= j -> w <= j -> Ev (fun k => FT.l0 k a r w l (l.length : Int) (j : Int)) ((Xh l a d j r w).1,(Xh l a d j r w).2,true) := by
 obtain ⟨h20,hla,h3⟩ := Xg h;intro d
 induction d with
 | zero =>
  intro j r w hj _ _ _ _;refine Ev.succ ?_;have g1 : ((j : Int) < (l.length : Int)) = False := eq_false (by omega);simp only [FT.l0,g1,if_false,Xh];exact Ev.now _
 | succ d ih =>
  intro j r w hj hr hw hr2 hw2;refine Ev.succ ?_;have hlt : j < l.length := by omega
  have g1 : ((j : Int) < (l.length : Int)) = True := eq_true (by omega);have g2 : ((j : Int) < (a.length : Int)) = True := eq_true (by omega);simp only [FT.l0,g1,g2,if_true,Xa,Gs,Yf,Xb (show j < 4611686018427387904 by omega),Zl l a h j hlt,Option.bind_some,Xh,Xc (x := r + 1) (by omega) (by omega),Xc (x := w + 1) (by omega) (by omega)];rcases Bool.eq_false_or_eq_true (Xi l a j) with hra | hra
  ·simp only [hra,if_true];exact ih (j + 1) (r + 1) w (by omega) (by omega) hw (by omega) (by omega)
  ·simp only [hra,Bool.false_eq_true,if_false];by_cases g3 : 0 <= a.getD j 0
   ·simp only [ge_iff_le,g3,if_true];exact ih (j + 1) r (w + 1) (by omega) hr (by omega) (by omega) (by omega)
   ·simp only [ge_iff_le,g3,if_false];exact ih (j + 1) r w (by omega) hr hw (by omega) (by omega)
def Yo (l : List S30) (a : List Int) : Int × Int × Bool := if Xx l a then ((Xh l a l.length 0 0 0).1,(Xh l a l.length 0 0 0).2,true) else (0,0,false)
theorem Yd (l : List S30) (a : List Int) (hl : l.length <= 1048576) (ha : a.length <= 1048576) (hz : Y2 l) : Ev (fun k => FT.f k l a) (Yo l a) := by
 unfold FT.f Yo;refine Ev.bind (Xv l a hl ha hz) ?_;rcases Bool.eq_false_or_eq_true (Xx l a) with h | h
 ·simp only [h,if_true];exact Ux l a hz h l.length 0 0 0 (by omega) (by omega) (by omega) (by omega) (by omega)
 ·simp only [h,Bool.false_eq_true,if_false];exact Ev.now _
def Yq (l : List S41) (ls : List (List Int)) : Bool := Ye l && (decide (ls.length <= 16) && Vl l ls)
theorem Vq (l : List S41) (ls : List (List Int)) (hl0 : l.length <= 1048576) (hz : Zh l) (hs : ls.flatten.length <= 1048576) (hl : ls.length <= 1048576) : Ev (fun k => GI.f k l ls) (Yq l ls) := by
 unfold GI.f Yq;refine Ev.bind (Gf l hl0 hz) ?_;cases Ye l with
 | false =>
  simp only [Bool.false_eq_true,if_false,Bool.false_and];exact Ev.now _
 | true =>
  simp only [if_true,Bool.true_and];by_cases h : ls.length <= 16
  ·have h2 : ((ls.length : Int) <= 16) = True := eq_true (by omega);simp only [h2,h,if_true,decide_true,Bool.true_and];exact Ev.bind (V4 l ls hl0 hs hl) (Ev.now _)
  ·have h2 : ((ls.length : Int) <= 16) = False := eq_false (by omega);simp only [h2,h,if_false,decide_false,Bool.false_and];exact Ev.now _
theorem Yw (l : List S41) (ls : List (List Int)) (n : Int) (hl0 : l.length <= 1048576) (hz : Zh l) (hs : ls.flatten.length <= 1048576) (hl : ls.length <= 1048576) : Ev (fun k => GC.f k l ls n) (Yq l ls && X5 n 0 ls.length) := by
 unfold GC.f Yq;refine Ev.bind (Y7 l hl0 hz) ?_;cases Ye l with
 | false =>
  simp only [Bool.false_eq_true,if_false,Bool.false_and];exact Ev.now _
 | true =>
  simp only [if_true,Bool.true_and];refine Ev.bind (J8 l ls hl0 hz hs hl) ?_;cases decide (ls.length <= 16) && Vl l ls with
  | false =>
   simp only [Bool.false_eq_true,if_false,Bool.false_and];exact Ev.now _
  | true =>
   simp only [if_true,Bool.true_and,Xw,Option.bind_some];exact Ev.now _
theorem Z6 (ls : List (List Int)) (x : Int) (hs : ls.flatten.length <= 1048576) : Ev (fun k => GT.f k ls x) (decide (x ∈ ls.flatten)) := by
 unfold GT.f Ld.f;have h := Ul (p := fun k y => FN.f k y x) (f := fun y => decide (x ∈ y)) (l := ls) (fun y hy => Yi y x (by have := Yy hy;omega));refine Ev.bind h (Ev.eq (Ev.now _) ?_);rw [Bool.eq_iff_iff,List.any_eq_true,decide_eq_true_eq,List.mem_flatten];simp
theorem Js (l : List Int) (x : Int) (hl : l.length <= 4000000) : ∀ d j,j + d = l.length -> ∃ r : List Int,Ev (fun k => Fu.l0 k l x (j : Int)) r ∧ (∀ y,y ∈ r ↔ y ∈ l ∨ y = x) ∧ r.length <= l.length + 1 := by
 have ins : ∀ j,j <= l.length -> (∀ y,y ∈ l.take j ++ [x] ++ l.drop j ↔ y ∈ l ∨ y = x) ∧ (l.take j ++ [x] ++ l.drop j).length <= l.length + 1 := by
  intro j hj
  constructor
  ·intro y;have e : y ∈ l ↔ y ∈ l.take j ∨ y ∈ l.drop j := by rw [<- List.mem_append,List.take_append_drop]
   rw [e];simp only [List.mem_append,List.mem_singleton]
   constructor
   ·rintro ((h | h) | h)
    ·exact Or.inl (Or.inl h)
    ·exact Or.inr h
    ·exact Or.inl (Or.inr h)
   ·rintro ((h | h) | h)
    ·exact Or.inl (Or.inl h)
    ·exact Or.inr h
    ·exact Or.inl (Or.inr h)
  ·simp only [List.length_append,List.length_take,List.length_drop,List.length_singleton];omega
 intro d
 induction d with
 | zero =>
  intro j hj;obtain ⟨i1,i2⟩ := ins j (by omega);refine ⟨l.take j ++ [x] ++ l.drop j,Ev.succ ?_,i1,i2⟩;have h1 : ((j : Int) < (l.length : Int)) = False := eq_false (by omega);have h2 : ((j : Int) <= (l.length : Int)) = True := eq_true (by omega);have h3 : (0 + (l.take j).length < 17592186044416) = True := eq_true (by rw [List.length_take];omega);have h4 : ((l.take j).length < 17592186044416) = True := eq_true (by rw [List.length_take];omega);have h5 : ((l.take j ++ [x]).length + (l.drop j).length < 17592186044416) = True := eq_true (by simp only [List.length_append,List.length_take,List.length_drop,List.length_singleton];omega);simp only [Fu.l0,h1,if_false,Option.bind_some,Xa,if_true,h2,Int.toNat_natCast,List.length_nil,h3,List.nil_append,h4,h5];exact Ev.now _
 | succ d ih =>
  intro j hj;have hlt : j < l.length := by omega
  have h1 : ((j : Int) < (l.length : Int)) = True := eq_true (by omega);have h2 : ((j : Int) <= (l.length : Int)) = True := eq_true (by omega);have hg : l.getD j 0 = l[j] := by rw [List.getD_eq_getElem?_getD,List.getElem?_eq_getElem hlt];rfl
  by_cases h6 : l[j] < x
  ·obtain ⟨r,hr,hm,hn⟩ := ih (j + 1) (by omega);refine ⟨r,Ev.succ ?_,hm,hn⟩;simp only [Fu.l0,h1,if_true,Xa,Yf,hg,eq_true h6,Xb (show j < 4611686018427387904 by omega)];exact hr
  ·by_cases h7 : l[j] = x
   ·refine ⟨l,Ev.succ ?_,fun y => ⟨fun h => Or.inl h,fun h => h.elim id (fun e => by rw [e,<- h7];exact List.getElem_mem hlt)⟩,by omega⟩;simp only [Fu.l0,h1,if_true,Xa,Yf,hg,eq_false h6,if_false,eq_true h7];exact Ev.now _
   ·obtain ⟨i1,i2⟩ := ins j (by omega);refine ⟨l.take j ++ [x] ++ l.drop j,Ev.succ ?_,i1,i2⟩;have h3 : (0 + (l.take j).length < 17592186044416) = True := eq_true (by rw [List.length_take];omega);have h4 : ((l.take j).length < 17592186044416) = True := eq_true (by rw [List.length_take];omega);have h5 : ((l.take j ++ [x]).length + (l.drop j).length < 17592186044416) = True := eq_true (by simp only [List.length_append,List.length_take,List.length_drop,List.length_singleton];omega);simp only [Fu.l0,h1,if_true,Xa,Yf,hg,eq_false h6,eq_false h7,if_false,Option.bind_some,h2,Int.toNat_natCast,List.length_nil,h3,List.nil_append,h4,h5];exact Ev.now _
theorem Jn (l : List Int) (x : Int) (hl : l.length <= 4000000) : ∃ r : List Int,Ev (fun k => Fu.f k l x) r ∧ (∀ y,y ∈ r ↔ y ∈ l ∨ y = x) ∧ r.length <= l.length + 1 := by
 unfold Fu.f;exact Js l x hl l.length 0 (by omega)
theorem Gm (ls : List (List Int)) (n : Nat) (y : List Int) (P : List Int -> Prop) (hy : y.length <= 1048576) : ∀ d i (acc : List Int),i + d = y.length -> acc.length + d <= 3000000 -> (∀ acc2 : List Int,acc2.length <= acc.length + d -> (∀ z,z ∈ acc2 ↔ z ∈ acc ∨ z ∈ y.drop i) -> ∃ r,Ev (fun k => Fp.l0 k acc2 ls (ls.length : Int) (wrap64 ((n : Int) + 1))) r ∧ P r) -> ∃ r,Ev (fun k => Fp.l1 k acc ls (ls.length : Int) (n : Int) y (y.length : Int) (i : Int)) r ∧ P r := by
 intro d
 induction d with
 | zero =>
  intro i acc hi ha hc;obtain ⟨r,hr,hp⟩ := hc acc (by omega) (fun z => by rw [List.drop_of_length_le (by omega)];simp);refine ⟨r,Ev.succ ?_,hp⟩;have h1 : ((i : Int) < (y.length : Int)) = False := eq_false (by omega);simp only [Fp.l1,h1,if_false];exact hr
 | succ d ih =>
  intro i acc hi ha hc;have hlt : i < y.length := by omega
  have h1 : ((i : Int) < (y.length : Int)) = True := eq_true (by omega);have hg : y.getD i 0 = y[i] := by rw [List.getD_eq_getElem?_getD,List.getElem?_eq_getElem hlt];rfl
  obtain ⟨a,ha1,ha2,ha3⟩ := Jn acc y[i] (by omega);obtain ⟨r,hr,hp⟩ := ih (i + 1) a (by omega) (by omega) (fun acc2 h2 h3 => hc acc2 (by omega) (fun z => by
   rw [h3,ha2,List.drop_eq_getElem_cons hlt,List.mem_cons]
   constructor
   ·rintro ((h | h) | h)
    ·exact Or.inl h
    ·exact Or.inr (Or.inl h)
    ·exact Or.inr (Or.inr h)
   ·rintro (h | h | h)
    ·exact Or.inl (Or.inl h)
    ·exact Or.inl (Or.inr h)
    ·exact Or.inr h))
  refine ⟨r,Ev.succ ?_,hp⟩;simp only [Fp.l1,h1,if_true,Xa,Yf,hg,Xb (show i < 4611686018427387904 by omega)];exact Ev.bind ha1 hr
theorem Gj (ls : List (List Int)) (hs : ls.flatten.length <= 1048576) (hl : ls.length <= 1048576) : ∀ d n (acc : List Int),n + d = ls.length -> acc.length + (ls.drop n).flatten.length <= 2000000 -> ∃ r,Ev (fun k => Fp.l0 k acc ls (ls.length : Int) (n : Int)) r ∧ (∀ z,z ∈ r ↔ z ∈ acc ∨ z ∈ (ls.drop n).flatten) ∧ r.length <= acc.length + (ls.drop n).flatten.length := by
 intro d
 induction d with
 | zero =>
  intro n acc hn ha;refine ⟨acc,Ev.succ ?_,fun z => by rw [List.drop_of_length_le (by omega)];simp,by omega⟩;have h1 : ((n : Int) < (ls.length : Int)) = False := eq_false (by omega);simp only [Fp.l0,h1,if_false];exact Ev.now _
 | succ d ih =>
  intro n acc hn ha;have hlt : n < ls.length := by omega
  have h1 : ((n : Int) < (ls.length : Int)) = True := eq_true (by omega);have hle := Yy (List.getElem_mem hlt);have hd := Vv ls n hlt;have hdl : (ls.drop n).flatten.length = ls[n].length + (ls.drop (n + 1)).flatten.length := by rw [hd,List.length_append]
  obtain ⟨r,hr,hp⟩ := Gm ls n ls[n] (fun r => (∀ z,z ∈ r ↔ z ∈ acc ∨ z ∈ (ls.drop n).flatten) ∧ r.length <= acc.length + (ls.drop n).flatten.length) (by omega) ls[n].length 0 acc (by omega) (by omega) (fun acc2 h2 h3 => by
   rw [Xb (show n < 4611686018427387904 by omega)];obtain ⟨r,hr,hq,hk⟩ := ih (n + 1) acc2 (by omega) (by omega);refine ⟨r,hr,fun z => ?_,by omega⟩;rw [hq,h3,hd,List.drop_zero,List.mem_append,or_assoc])
  refine ⟨r,Ev.succ ?_,hp⟩;simp only [Fp.l0,h1,if_true,Xa,Vd,V6 ls n hlt];exact hr
theorem Z8 (ls : List (List Int)) (n : Int) (hs : ls.flatten.length <= 1048576) (hl : ls.length <= 1048576) (h0 : 0 <= n) (h1 : n <= ls.length) : ∃ r : List Int,Ev (fun k => Fp.f k ls n) r ∧ (∀ z,z ∈ r ↔ z ∈ (ls.take n.toNat).flatten) ∧ r.length <= 4000000 := by
 have hb := Xu ls n.toNat;obtain ⟨r,hr,hq,hk⟩ := Gj (ls.take n.toNat) (by omega) (by rw [List.length_take];omega) (ls.take n.toNat).length 0 [] (by omega) (by rw [List.drop_zero,List.length_nil];omega);rw [List.drop_zero] at hq hk;refine ⟨r,?_,fun z => by rw [hq];simp,by rw [List.length_nil] at hk;omega⟩;unfold Fp.f;simp only [eq_true h0,eq_true h1,if_true,Option.bind_some];exact hr
def Vi (l : List S41) (ls : List (List Int)) (n i : Int) : Bool × Bool := if Yq l ls && (X5 n 0 ls.length && X5 i 0 (Yb l)) then (decide (i ∈ (ls.take n.toNat).flatten),true) else (false,false)
theorem Uk (ls : List (List Int)) (n : Nat) (y : List Int) (P : List Int -> Prop) (hy : y.length <= 1048576) : ∀ d i (acc : List Int),i + d = y.length -> acc.Pairwise (· < ·) -> acc.length + d <= 3000000 -> (∀ acc2 : List Int,acc2.Pairwise (· < ·) -> acc2.length <= acc.length + d -> (∀ z,z ∈ acc2 ↔ z ∈ acc ∨ z ∈ y.drop i) -> ∃ r,Ev (fun k => Fp.l0 k acc2 ls (ls.length : Int) (wrap64 ((n : Int) + 1))) r ∧ P r) -> ∃ r,Ev (fun k => Fp.l1 k acc ls (ls.length : Int) (n : Int) y (y.length : Int) (i : Int)) r ∧ P r := by
 intro d
 induction d with
 | zero =>
  intro i acc hi hu ha hc;obtain ⟨r,hr,hp⟩ := hc acc hu (by omega) (fun z => by rw [List.drop_of_length_le (by omega)];simp);refine ⟨r,Ev.succ ?_,hp⟩;have h1 : ((i : Int) < (y.length : Int)) = False := eq_false (by omega);simp only [Fp.l1,h1,if_false];exact hr
 | succ d ih =>
  intro i acc hi hu ha hc;have hlt : i < y.length := by omega
  have h1 : ((i : Int) < (y.length : Int)) = True := eq_true (by omega);have hg : y.getD i 0 = y[i] := by rw [List.getD_eq_getElem?_getD,List.getElem?_eq_getElem hlt];rfl
  obtain ⟨a,ha1,hau,ha2,ha3⟩ := Zs acc y[i] (by omega) hu;obtain ⟨r,hr,hp⟩ := ih (i + 1) a (by omega) hau (by omega) (fun acc2 h0 h2 h3 => hc acc2 h0 (by omega) (fun z => by
   rw [h3,ha2,List.drop_eq_getElem_cons hlt,List.mem_cons,or_assoc]))
  refine ⟨r,Ev.succ ?_,hp⟩;simp only [Fp.l1,h1,if_true,Xa,Yf,hg,Xb (show i < 4611686018427387904 by omega)];exact Ev.bind ha1 hr
theorem Ur (ls : List (List Int)) (hs : ls.flatten.length <= 1048576) (hl : ls.length <= 1048576) : ∀ d n (acc : List Int),n + d = ls.length -> acc.Pairwise (· < ·) -> acc.length + (ls.drop n).flatten.length <= 2000000 -> ∃ r,Ev (fun k => Fp.l0 k acc ls (ls.length : Int) (n : Int)) r ∧ r.Pairwise (· < ·) ∧ ∀ z,z ∈ r ↔ z ∈ acc ∨ z ∈ (ls.drop n).flatten := by
 intro d
 induction d with
 | zero =>
  intro n acc hn hu ha;refine ⟨acc,Ev.succ ?_,hu,fun z => by rw [List.drop_of_length_le (by omega)];simp⟩;have h1 : ((n : Int) < (ls.length : Int)) = False := eq_false (by omega);simp only [Fp.l0,h1,if_false];exact Ev.now _
 | succ d ih =>
  intro n acc hn hu ha;have hlt : n < ls.length := by omega
  have h1 : ((n : Int) < (ls.length : Int)) = True := eq_true (by omega);have hle := Yy (List.getElem_mem hlt);have hd := Vv ls n hlt;have hdl : (ls.drop n).flatten.length = ls[n].length + (ls.drop (n + 1)).flatten.length := by rw [hd,List.length_append]
  obtain ⟨r,hr,hp⟩ := Uk ls n ls[n] (fun r => r.Pairwise (· < ·) ∧ ∀ z,z ∈ r ↔ z ∈ acc ∨ z ∈ (ls.drop n).flatten) (by omega) ls[n].length 0 acc (by omega) hu (by omega) (fun acc2 h0 h2 h3 => by
   rw [Xb (show n < 4611686018427387904 by omega)];obtain ⟨r,hr,hk,hq⟩ := ih (n + 1) acc2 (by omega) h0 (by omega);refine ⟨r,hr,hk,fun z => ?_⟩;rw [hq,h3,hd,List.drop_zero,List.mem_append,or_assoc])
  refine ⟨r,Ev.succ ?_,hp⟩;simp only [Fp.l0,h1,if_true,Xa,Vd,V6 ls n hlt];exact hr
theorem Us (ls : List (List Int)) (n : Int) (hs : ls.flatten.length <= 1048576) (hl : ls.length <= 1048576) (h0 : 0 <= n) (h1 : n <= ls.length) : ∃ r : List Int,Ev (fun k => Fp.f k ls n) r ∧ r.Pairwise (· < ·) ∧ ∀ z,z ∈ r ↔ z ∈ (ls.take n.toNat).flatten := by
 have hb := Xu ls n.toNat;obtain ⟨r,hr,hk,hq⟩ := Ur (ls.take n.toNat) (by omega) (by rw [List.length_take];omega) (ls.take n.toNat).length 0 [] (by omega) List.Pairwise.nil (by rw [List.drop_zero,List.length_nil];omega);rw [List.drop_zero] at hq;refine ⟨r,?_,hk,fun z => by rw [hq];simp⟩;unfold Fp.f;simp only [eq_true h0,eq_true h1,if_true,Option.bind_some];exact hr
theorem G8 (ls : List (List Int)) (x : Int) (c : List Int) (hs : ls.flatten.length <= 1048576) : Ev (fun k => Ll.f k ls x c) (c.all fun y => decide (y ∈ ls.flatten)) := by
 unfold Ll.f Lj.f GG.f;exact Ev.bind (Zw (fun y _ => Z6 ls y hs)) (Ev.now _)
theorem Ja (t : List Int) (x : Int) (c : List Int) (ht : t.length <= 4000000) (hc : c.length < 4611686018427387904) : Ev (fun k => GH.f k t x c) (c.all fun y => decide (y ∈ t)) := by
 unfold GH.f;refine Ev.eq (Ev.all0 (L := fun k j => GH.l0 k t c (c.length : Int) (j : Int)) (P := fun j => decide (c.getD j 0 ∈ t)) (n := c.length) (a := true) (b := false) ?_ ?_ ?_) (by rw [Uf c (fun y => decide (y ∈ t))];cases c.all fun y => decide (y ∈ t) <;> rfl)
 ·refine Ev.succ ?_;simp only [GH.l0,Int.lt_irrefl,if_false];exact Ev.now _
 ·intro j r hj hP h;refine Ev.succ ?_;have h1 : ((j : Int) < (c.length : Int)) = True := eq_true (by omega);simp only [GH.l0,h1,if_true,Xa,Yf,Xb (show j < 4611686018427387904 by omega)];refine Ev.bind (Xj _ _ (by omega)) ?_;simp only [hP,if_true];exact h
 ·intro j hj hP;refine Ev.succ ?_;have h1 : ((j : Int) < (c.length : Int)) = True := eq_true (by omega);simp only [GH.l0,h1,if_true,Xa,Yf];refine Ev.bind (Xj _ _ (by omega)) ?_;simp only [hP,Bool.false_eq_true,if_false];exact Ev.now _
theorem Vc (l : List S41) (ls : List (List Int)) (n i : Int) (hl0 : l.length <= 1048576) (hz : Zh l) (hs : ls.flatten.length <= 1048576) (hl : ls.length <= 1048576) : Ev (fun k => GE.f k l ls n i) (Vi l ls n i) := by
 unfold GE.f Vi;refine Ev.bind (Yw l ls n hl0 hz hs hl) ?_;rw [<- Bool.and_assoc];cases h1 : Yq l ls && X5 n 0 ls.length with
 | false =>
  simp only [Bool.false_eq_true,if_false,Bool.false_and];refine Ev.succ ?_;simp only [GE.j0,if_true];exact Ev.now _
 | true =>
  simp only [if_true,Bool.true_and,Xw,Option.bind_some];refine Ev.succ ?_;change Ev (fun k => GE.j0 (k + 1) ls n i (!X5 i 0 (Yb l))) _;cases X5 i 0 (Yb l) with
  | false =>
   simp only [GE.j0,Bool.not_false,if_true,Bool.false_eq_true,if_false];exact Ev.now _
  | true =>
   rw [Bool.and_eq_true] at h1;have hn := of_decide_eq_true h1.2;obtain ⟨r,hr,hm,hk⟩ := Z8 ls n hs hl hn.1 hn.2;simp only [GE.j0,Bool.not_true,Bool.false_eq_true,if_false,if_true];refine Ev.bind hr ?_;refine Ev.bind (Xj r i (by omega)) ?_;refine Ev.eq (Ev.now _) ?_;rw [show decide (i ∈ r) = decide (i ∈ (ls.take n.toNat).flatten) from by rw [decide_eq_decide];exact hm i]
theorem Vg (l : List S41) (ls : List (List Int)) (n i : Int) (hl0 : l.length <= 1048576) (hz : Zh l) (hs : ls.flatten.length <= 1048576) (hl : ls.length <= 1048576) : Ev (fun k => Lf.f k l ls n i) (Vi l ls n i) := by
 unfold Lf.f Vi;refine Ev.bind (Vq l ls hl0 hz hs hl) ?_;cases Yq l ls with
 | false =>
  simp only [Bool.false_eq_true,if_false,Bool.false_and];exact Ev.now _
 | true =>
  simp only [if_true,Bool.true_and,X7,Option.bind_some];cases h1 : X5 n 0 ls.length with
  | false =>
   simp only [Bool.false_eq_true,if_false,Bool.false_and];exact Ev.now _
  | true =>
   have hn := of_decide_eq_true h1;simp only [if_true,Bool.true_and,eq_true hn.1,eq_true hn.2];change Ev (fun k => if X5 i 0 (Yb l) = true then _ else _) _;cases X5 i 0 (Yb l) with
   | false =>
    simp only [Bool.false_eq_true,if_false];exact Ev.now _
   | true =>
    simp only [if_true];have hb := Xu ls n.toNat;exact Ev.bind (Z6 _ i (by omega)) (Ev.now _)
def Zy (x : Int) (l : List Int) : Int × Bool := if Ya x l then (Xt l x l.length 0,true) else (0,false)
theorem Zt (x : Int) (l : List Int) (hl : l.length < 17592186044416) : Ev (fun k => GO.f k x l) (Zy x l) := by
 unfold GO.f Zy;refine Ev.bind (Ym x l hl) ?_;rcases Bool.eq_false_or_eq_true (Ya x l) with h | h
 ·simp only [h,if_true];unfold Fv.f;exact Ev.bind (Ze l x (by omega) l.length 0 (by omega)) (Ev.now _)
 ·simp only [h];exact Ev.now _
theorem Zu (x : Int) (l : List Int) (hl : l.length < 17592186044416) : Ev (fun k => GP.f k x l) (Zy x l) := by
 unfold GP.f Zy;refine Ev.bind (Y9 x l hl) ?_;rcases Bool.eq_false_or_eq_true (Ya x l) with h | h
 ·simp only [h,if_true];exact Ev.bind (U2 l x (by omega)) (Ev.now _)
 ·simp only [h];exact Ev.now _
theorem Gq {x : Int} {c : List Int} (hq : Ya x c = true) : Zy x c = (Xt c x c.length 0,true) := by
 unfold Zy;rw [if_pos hq]
theorem T5 (x : Int) : ∃ v,Lg.f x = some v := by
 unfold Lg.f La.f;by_cases h : x > wrap64 (-x)
 ·exact ⟨x,by simp only [eq_true h,if_true,Option.bind_some]⟩
 ·exact ⟨wrap64 (-x),by simp only [eq_false h,if_false,Option.bind_some]⟩
theorem Tq (l : List S41) (T : List Int) (a n : Int) (x10 : List Int) (Q : Int × List Int × Bool -> Prop) (hTr : ∀ t,t ∈ T -> 0 <= t ∧ t < (l.length : Int)) (hTl : T.length <= 1048576) (hx : x10.length <= 1048576) (ha : 0 <= a ∧ a < (l.length : Int))
  (hc : ∀ B,B ∈ T -> B ∉ x10 -> ∃ r,Q r ∧ Ev (fun k => (Fu.f k x10 B).bind fun t => Fo.l0 k l T a n t) r) (hex : ∃ t,t ∈ T ∧ t ∉ x10) :
  ∀ d i (b : Int),i + d = T.length -> ((b = -1 ∧ ∀ t,t ∈ T.take i -> t ∈ x10) ∨ (b ∈ T ∧ b ∉ x10)) -> ∃ r,Q r ∧ Ev (fun k => Fo.l1 k l T a n x10 b T (T.length : Int) (i : Int)) r := by
 intro d
 induction d with
 | zero =>
  intro i b hi hb;have hb2 : b ∈ T ∧ b ∉ x10 := by
   rcases hb with ⟨_,h⟩ | h
   ·obtain ⟨t,ht1,ht2⟩ := hex;rw [List.take_of_length_le (by omega)] at h;exact absurd (h t ht1) ht2
   ·exact h
  obtain ⟨r,hq,hr⟩ := hc b hb2.1 hb2.2;refine ⟨r,hq,Ev.succ ?_⟩;simp only [Fo.l1,show ((i : Int) < (T.length : Int)) = False from eq_false (by omega),if_false];exact hr
 | succ d ih =>
  intro i b hi hb;have hlt : i < T.length := by omega
  have h1 : ((i : Int) < (T.length : Int)) = True := eq_true (by omega);have hg : T.getD i 0 = T[i] := by rw [List.getD_eq_getElem?_getD,List.getElem?_eq_getElem hlt];rfl
  have e4 : wrap64 ((i : Int) + 1) = ((i + 1 : Nat) : Int) := Xb (by omega);have ht : T.take (i + 1) = T.take i ++ [T[i]] := List.take_succ_eq_append_getElem hlt;have hTi := hTr _ (List.getElem_mem hlt);by_cases h2 : T[i] ∈ x10
  ·obtain ⟨r,hq,hr⟩ := ih (i + 1) b (by omega) (by
    rcases hb with ⟨h3,h4⟩ | h3
    ·refine Or.inl ⟨h3,fun t ht' => ?_⟩;rw [ht] at ht';rcases List.mem_append.1 ht' with h | h
     ·exact h4 t h
     ·rw [List.mem_singleton] at h;subst h;exact h2
    ·exact Or.inr h3)
   refine ⟨r,hq,Ev.succ ?_⟩;simp only [Fo.l1,h1,if_true,Xa,Yf,hg,e4];refine Ev.bind (Xj x10 T[i] (by omega)) ?_;simp only [decide_eq_true h2,if_true];exact hr
  ·obtain ⟨r,hq,hr⟩ := ih (i + 1) T[i] (by omega) (Or.inr ⟨List.getElem_mem hlt,h2⟩);by_cases h6 : b < 0
   ·refine ⟨r,hq,Ev.succ ?_⟩;simp only [Fo.l1,h1,if_true,Xa,Yf,hg,e4];refine Ev.bind (Xj x10 T[i] (by omega)) ?_;simp only [decide_eq_false h2,Bool.false_eq_true,if_false,eq_true h6,if_true];exact hr
   ·have hbT : b ∈ T ∧ b ∉ x10 := by
     rcases hb with ⟨h3,_⟩ | h
     ·omega
     ·exact h
    have hbr := hTr b hbT.1;obtain ⟨u1,a1⟩ := T5 (wrap64 ((rd_T41 l T[i]).f2 - (rd_T41 l a).f2));obtain ⟨u2,a2⟩ := T5 (wrap64 ((rd_T41 l b).f2 - (rd_T41 l a).f2));by_cases h7 : u1 < u2
    ·refine ⟨r,hq,Ev.succ ?_⟩;simp only [Fo.l1,h1,if_true,Xa,Yf,hg,e4];refine Ev.bind (Xj x10 T[i] (by omega)) ?_;simp only [decide_eq_false h2,Bool.false_eq_true,eq_false h6,if_false,eq_true hTi.1,eq_true hTi.2,eq_true ha.1,eq_true ha.2,eq_true hbr.1,eq_true hbr.2,if_true,a1,a2,Option.bind_some,eq_true h7];exact hr
    ·obtain ⟨r,hq,hr⟩ := ih (i + 1) b (by omega) (Or.inr hbT);refine ⟨r,hq,Ev.succ ?_⟩;simp only [Fo.l1,h1,if_true,Xa,Yf,hg,e4];refine Ev.bind (Xj x10 T[i] (by omega)) ?_;simp only [decide_eq_false h2,Bool.false_eq_true,eq_false h6,if_false,eq_true hTi.1,eq_true hTi.2,eq_true ha.1,eq_true ha.2,eq_true hbr.1,eq_true hbr.2,if_true,a1,a2,Option.bind_some,eq_false h7];exact hr
theorem Th (l : List S41) (T : List Int) (a : Int) (hT : T.Pairwise (· < ·)) (hTr : ∀ t,t ∈ T -> 0 <= t ∧ t < (l.length : Int)) (hTl : T.length <= 1048576) (ha : 0 <= a ∧ a < (l.length : Int)) :
  ∃ r : Int × List Int × Bool,r.2.1.length <= 2 ∧ Ev (fun k => Fo.f k l T a 2) r := by
 have bad : Ev (fun k => Fo.j0 k l T a 2 true) (0,([] : List Int),false) := by
  refine Ev.succ ?_;simp only [Fo.j0,if_true];exact Ev.now _
 have hS := Xj T a (by omega);by_cases h1 : a ∈ T
 ·rw [decide_eq_true h1] at hS;by_cases h2 : T.length < 2
  ·refine ⟨(0,[],false),by simp,?_⟩;unfold Fo.f;refine Ev.bind hS ?_;simp only [if_true,show decide ((T.length : Int) < 2) = true from decide_eq_true (by omega)];exact bad
  ·have hex : ∃ t,t ∈ T ∧ t ∉ [a] := by
    match T,hT,h2 with
    | [],_,h2 => simp at h2
    | [x],_,h2 => simp at h2
    | x :: y :: R,hT,_ =>
     have hxy : x < y := (List.pairwise_cons.1 hT).1 y (by simp);by_cases hx : x = a
     ·exact ⟨y,by simp,by simp;omega⟩
     ·exact ⟨x,by simp,by simpa using hx⟩
   obtain ⟨r,hq,hr⟩ := Tq l T a 2 [a] (fun r => r.2.1.length <= 2) hTr hTl (by simp) ha (fun B hB hBx => by
    obtain ⟨y,hy1,hy2,hy3,hy4⟩ := Zs [a] B (by simp) (List.pairwise_singleton _ _);have hyl : y.length = 2 := by
     have := Gi (a := y) (b := B :: [a]) (List.Pairwise.imp (S := fun a b : Int => a ≠ b) (fun {a b} (hlt : a < b) e => by omega) hy2) (List.nodup_cons.2 ⟨hBx,List.pairwise_singleton _ _⟩) (fun x => by rw [hy3];simp only [List.mem_cons,List.not_mem_nil,or_false];exact or_comm);rw [this];rfl
    refine ⟨(a,y,true),by show y.length <= 2;omega,Ev.bind hy1 (Ev.succ ?_)⟩;simp only [Fo.l0,show ((y.length : Int) < 2) = False from eq_false (by omega),if_false];exact Ev.now _) hex T.length 0 (-1) (by omega) (Or.inl ⟨rfl,by simp⟩)
   refine ⟨r,hq,?_⟩;unfold Fo.f;refine Ev.bind hS ?_;simp only [if_true,show decide ((T.length : Int) < 2) = false from decide_eq_false (by omega)];refine Ev.succ ?_;simp only [Fo.j0,Bool.false_eq_true,if_false];refine Ev.succ ?_;simp only [Fo.l0,show ((([a] : List Int).length : Int) < 2) = True from eq_true (by simp),if_true];exact hr
 ·rw [decide_eq_false h1] at hS;refine ⟨(0,[],false),by simp,?_⟩;unfold Fo.f;refine Ev.bind hS ?_;simp only [Bool.false_eq_true,if_false];exact bad
theorem Tg (l : List S41) (ls : List (List Int)) (n : Int) (y : List Int) (T : List Int) (hTe : Ev (fun k => Fp.f k ls n) T) (hT : T.Pairwise (· < ·)) (hTr : ∀ t,t ∈ T -> 0 <= t ∧ t < (l.length : Int)) (hTl : T.length <= 1048576) (hy : ∀ x,x ∈ y -> 0 <= x ∧ x < (l.length : Int)) (hyl : y.length <= 1000) :
  ∀ d j (out : List S30),j + d = y.length -> out.length = j -> Y2 out ->
   ∃ r : List S30 × Bool,Ev (fun k => FL.l0 k l ls n out y (y.length : Int) (j : Int)) r ∧ r.1.length <= 1000 ∧ Y2 r.1 := by
 intro d
 induction d with
 | zero =>
  intro j out hj ho hq;refine ⟨(out,true),Ev.succ ?_,by show out.length <= 1000;omega,hq⟩;simp only [FL.l0,show ((j : Int) < (y.length : Int)) = False from eq_false (by omega),if_false];exact Ev.now _
 | succ d ih =>
  intro j out hj ho hq;have hlt : j < y.length := by omega
  have h1 : ((j : Int) < (y.length : Int)) = True := eq_true (by omega);have hg : y.getD j 0 = y[j] := by rw [List.getD_eq_getElem?_getD,List.getElem?_eq_getElem hlt];rfl
  have e4 : wrap64 ((j : Int) + 1) = ((j + 1 : Nat) : Int) := Xb (by omega);obtain ⟨m,m3,m2⟩ := Th l T y[j] hT hTr hTl (hy _ (List.getElem_mem hlt));by_cases h3 : m.2.2 = true
  ·obtain ⟨r,r2,r3,r4⟩ := ih (j + 1) (out ++ [(⟨m.1,m.2.1⟩ : S30)]) (by omega) (by rw [List.length_append,List.length_singleton];omega) (fun q hq' => by
    rcases List.mem_append.1 hq' with h | h
    ·exact hq q h
    ·rw [List.mem_singleton] at h;subst h;show m.2.1.length <= 1048576;omega)
   refine ⟨r,Ev.succ ?_,r3,r4⟩;simp only [FL.l0,h1,if_true,Xa,Yf,hg,e4];refine Ev.bind hTe ?_;refine Ev.bind m2 ?_;simp only [h3,if_true,show (out.length < 4398046511104) = True from eq_true (by omega)];exact r2
  ·refine ⟨([],false),Ev.succ ?_,by simp,fun q hq' => by simp at hq'⟩;simp only [FL.l0,h1,if_true,Xa,Yf,hg,e4];refine Ev.bind hTe ?_;refine Ev.bind m2 ?_;simp only [h3,Bool.false_eq_true,if_false];exact Ev.now _
theorem Ts (l : List S41) (ls : List (List Int)) (n : Int) (hl0 : l.length <= 1048576) (hz : Zh l) (hs : ls.flatten.length <= 1048576) (hl : ls.length <= 1048576) : ∃ r : List S30 × Bool,Ev (fun k => FL.f k l ls n) r ∧ r.1.length <= 1000 ∧ Y2 r.1 := by
 have bS : Ev (fun k => FL.j0 k l ls n true) ([],false) := by
  refine Ev.succ ?_;simp only [FL.j0,if_true];exact Ev.now _
 have hA := Yw l ls n hl0 hz hs hl;cases hg : Yq l ls with
 | false =>
  rw [hg] at hA;rw [Bool.false_and] at hA;refine ⟨([],false),?_,by simp,fun q hq' => by simp at hq'⟩;unfold FL.f;refine Ev.bind hA ?_;simp only [Bool.false_eq_true,if_false];exact bS
 | true =>
  rw [hg] at hA;rw [Bool.true_and] at hA;by_cases hb : X5 n 1 ls.length = true
  ·have hn : 1 <= n ∧ n <= ls.length := by unfold X5 at hb;simp at hb;omega
   have hb0 : X5 n 0 ls.length = true := by unfold X5;simp;omega
   rw [hb0] at hA;have hgg := hg;unfold Yq Vl at hgg;rw [Bool.and_eq_true,Bool.and_eq_true,Bool.and_eq_true,Bool.and_eq_true] at hgg;have hw := hgg.1;obtain ⟨f1,f2,_⟩ := (Yu l ls.flatten []).1 hgg.2.2.2.1;have hfl : ls.flatten = (ls.take n.toNat).flatten ++ (ls.drop n.toNat).flatten := by rw [<- List.flatten_append,List.take_append_drop]
   have hr0 : ∀ x,x ∈ ls.flatten -> 0 <= x ∧ x < (l.length : Int) := fun x hx => by
    have := f1 x hx;rw [G2 l hl0] at this;omega
   have hr : ∀ x,x ∈ (ls.take n.toNat).flatten -> 0 <= x ∧ x < (l.length : Int) := fun x hx => hr0 x (by rw [hfl];exact List.mem_append_left _ hx)
   obtain ⟨T,t1,t2,t3⟩ := Us ls n hs hl (by omega) (by omega);have ew : wrap64 (n - 1) = ((n.toNat - 1 : Nat) : Int) := by rw [Xc (by omega) (by omega)];omega
   have hlt : n.toNat - 1 < ls.length := by omega
   have hyr : ∀ x,x ∈ ls[n.toNat - 1] -> 0 <= x ∧ x < (l.length : Int) := fun x hx => hr0 x (List.mem_flatten.2 ⟨_,List.getElem_mem hlt,hx⟩)
   have hyn : (ls[n.toNat - 1]).Nodup := by
    obtain ⟨p,q,e⟩ := List.append_of_mem (List.getElem_mem hlt);rw [e,List.flatten_append,List.flatten_cons] at f2;exact (List.nodup_append.1 (List.nodup_append.1 f2).2.1).1
   have h16 := (Ut hw).1;have hyl := Xz hyn hyr;have hTr : ∀ t,t ∈ T -> 0 <= t ∧ t < (l.length : Int) := fun t ht => hr t ((t3 t).1 ht)
   have hTl := Xz (List.Pairwise.imp (S := fun a b : Int => a ≠ b) (fun {a b} (hlt : a < b) e => by omega) t2) hTr;obtain ⟨r,r2,r3,r4⟩ := Tg l ls n ls[n.toNat - 1] T t1 t2 hTr (by omega) hyr (by omega) (ls[n.toNat - 1]).length 0 [] (by omega) (by simp) (fun q hq' => by simp at hq');refine ⟨r,?_,r3,r4⟩;unfold FL.f;refine Ev.bind hA ?_;simp only [if_true,show (n == 0) = false from beq_eq_false_iff_ne.mpr (by omega)];refine Ev.succ ?_;simp only [FL.j0,Bool.false_eq_true,if_false,ew,Xa,if_true,show (((n.toNat - 1 : Nat) : Int) < (ls.length : Int)) = True from eq_true (by omega),Vd,V6 ls _ hlt];exact r2
  ·refine ⟨([],false),?_,by simp,fun q hq' => by simp at hq'⟩;unfold FL.f;refine Ev.bind hA ?_;by_cases h0 : n = 0
   ·have hb0 : X5 n 0 ls.length = true := by unfold X5;simp;omega
    simp only [hb0,if_true,show (n == 0) = true from beq_iff_eq.mpr h0];exact bS
   ·have hb0 : X5 n 0 ls.length = false := by
     unfold X5 at hb ⊢;simp at hb ⊢;omega
    simp only [hb0,Bool.false_eq_true,if_false];exact bS
theorem Vu (l : List S30) (a : List Int) (hl : l.length <= 1048576) (ha : a.length <= 1048576) (hz : Y2 l) : Ev (fun k => Lh.f k l a) (Yo l a) := by
 unfold Lh.f Yo;refine Ev.bind (X3 l a hl ha hz) ?_;rcases Bool.eq_false_or_eq_true (Xx l a) with h | h
 ·simp only [h,if_true];unfold FX.f;exact Ev.bind (Zp l a hz h l.length 0 0 0 (by omega) (by omega) (by omega) (by omega) (by omega)) (Ev.now _)
 ·simp only [h,Bool.false_eq_true,if_false];exact Ev.now _
theorem Xr (l : List S30) (a : List Int) : ∀ (d j : Nat) (r w : Int),0 <= r -> r <= (j : Int) -> 0 <= (Xh l a d j r w).1 ∧ (Xh l a d j r w).1 <= j + d
 | 0,j,r,w,h0,h1 => by simp only [Xh];omega
 | d + 1,j,r,w,h0,h1 => by
  unfold Xh
  split
  ·have := Xr l a d (j + 1) (r + 1) w (by omega) (by omega);omega
  ·split
   ·have := Xr l a d (j + 1) r (w + 1) h0 (by omega);omega
   ·have := Xr l a d (j + 1) r w h0 (by omega);omega
def Vh (ls : List (List Int)) (n : Int) (q : List S30) : Bool := q.all fun x => x.f1.all fun y => decide (y ∈ (ls.take n.toNat).flatten)
def V8 (l : List S41) (ls : List (List Int)) (n : Int) (q : List S30) (a : List Int) (p : Int) : Bool × Bool :=
 if (Yq l ls && X5 n 0 ls.length) && (Xx q a && (X5 p 0 100 && !((q.length : Int) == 0))) then (if Vh ls n q then (if 100 * (Xh q a q.length 0 0 0).1 >= p * (q.length : Int) then (decide (n < (ls.length : Int)),true) else (false,true)) else (false,false)) else (false,false)
theorem Uy (ls : List (List Int)) (n : Int) (q : List S30) (a : List Int) (p : Int) (h : Xx q a = true) (hp : X5 p 0 100 = true) : (if (wrap64 (100 * (Xh q a q.length 0 0 0).1)) >= (wrap64 (p * (q.length : Int))) then some (decide (n < (ls.length : Int)),true) else some (false,true)) = some (if 100 * (Xh q a q.length 0 0 0).1 >= p * (q.length : Int) then (decide (n < (ls.length : Int)),true) else (false,true)) := by
 have h20 := (Xg h).1;have hb := Xr q a q.length 0 0 0 (by omega) (by omega);have hp' := of_decide_eq_true hp;have h1 : 0 <= p * (q.length : Int) := Int.mul_nonneg hp'.1 (by omega);have h2 : p * (q.length : Int) <= 100 * (q.length : Int) := Int.mul_le_mul_of_nonneg_right hp'.2 (by omega);rw [Xc (x := 100 * (Xh q a q.length 0 0 0).1) (by omega) (by omega),Xc (x := p * (q.length : Int)) (by omega) (by omega)]
 split <;> rfl
theorem G0 (q : List S30) (a : List Int) (hz : Y2 q) (h : Xx q a = true) : Ev (fun k => FX.f k q a) (Xh q a q.length 0 0 0) := by
 unfold FX.f;exact Zp q a hz h q.length 0 0 0 (by omega) (by omega) (by omega) (by omega) (by omega)
theorem Gd (ls : List (List Int)) (n : Int) (q : List S30) (a : List Int) (p : Int) (hs : ls.flatten.length <= 1048576) (hl : ls.length <= 1048576) (h0 : 0 <= n) (h1 : n <= ls.length) (hz : Y2 q) (hq : q.length <= 1048576) (h : Xx q a = true) (hp : X5 p 0 100 = true) : ∀ d j,j + d = q.length -> Ev (fun k => FA.l0 k ls n q a p q (q.length : Int) (j : Int)) (if (q.drop j).all (fun x => x.f1.all fun y => decide (y ∈ (ls.take n.toNat).flatten)) then (if 100 * (Xh q a q.length 0 0 0).1 >= p * (q.length : Int) then (decide (n < (ls.length : Int)),true) else (false,true)) else (false,false)) := by
 intro d
 induction d with
 | zero =>
  intro j hj;refine Ev.succ ?_;have g1 : ((j : Int) < (q.length : Int)) = False := eq_false (by omega);rw [List.drop_of_length_le (by omega)];simp only [FA.l0,g1,if_false,List.all_nil,if_true];refine Ev.bind (G0 q a hz h) ?_;rw [Uy ls n q a p h hp];exact Ev.now _
 | succ d ih =>
  intro j hj;refine Ev.succ ?_;have hlt : j < q.length := by omega
  have g1 : ((j : Int) < (q.length : Int)) = True := eq_true (by omega);have hw := hz _ (List.getElem_mem hlt);obtain ⟨r,hr,hm,hk⟩ := Z8 ls n hs hl h0 h1;have e : (fun y : Int => decide (y ∈ r)) = fun y => decide (y ∈ (ls.take n.toNat).flatten) := by funext y;rw [decide_eq_decide];exact hm y
  rw [List.drop_eq_getElem_cons hlt,List.all_cons];simp only [FA.l0,g1,if_true,Xa,Gs,Yv q j hlt,Xb (show j < 4611686018427387904 by omega)];refine Ev.bind hr ?_;refine Ev.bind (Ja r q[j].f0 q[j].f1 hk (by omega)) ?_;rw [e];cases q[j].f1.all fun y => decide (y ∈ (ls.take n.toNat).flatten) with
  | true =>
   simp only [if_true,Bool.true_and];exact ih (j + 1) (by omega)
  | false =>
   simp only [Bool.false_eq_true,if_false,Bool.false_and];exact Ev.now _
theorem U0 (l : List S41) (ls : List (List Int)) (n : Int) (q : List S30) (a : List Int) (p : Int) (hl0 : l.length <= 1048576) (hz : Zh l) (hs : ls.flatten.length <= 1048576) (hl : ls.length <= 1048576) (hq : q.length <= 1048576) (ha : a.length <= 1048576) (hqz : Y2 q) : Ev (fun k => FA.f k l ls n q a p) (V8 l ls n q a p) := by
 unfold FA.f V8;have bad : Ev (fun k => FA.j0 k ls n q a p true) (false,false) := by
  refine Ev.succ ?_;simp only [FA.j0,if_true];exact Ev.now _
 refine Ev.bind (Yw l ls n hl0 hz hs hl) ?_;cases h1 : Yq l ls && X5 n 0 ls.length with
 | false =>
  simp only [Bool.false_eq_true,if_false,Bool.false_and];exact bad
 | true =>
  simp only [if_true,Bool.true_and];refine Ev.bind (X3 q a hq ha hqz) ?_;cases h2 : Xx q a with
  | false =>
   simp only [Bool.false_eq_true,if_false,Bool.false_and];exact bad
  | true =>
   simp only [if_true,Bool.true_and,Xw,Option.bind_some];cases h3 : X5 p 0 100 with
   | false =>
    simp only [Bool.false_eq_true,if_false,Bool.false_and];exact bad
   | true =>
    simp only [if_true,Bool.true_and];rw [Bool.and_eq_true] at h1;have hn := of_decide_eq_true h1.2;cases h4 : ((q.length : Int) == 0) with
    | true =>
     simp only [Bool.not_true,Bool.false_eq_true,if_false];exact bad
    | false =>
     simp only [Bool.not_false,if_true];refine Ev.succ ?_;simp only [FA.j0,Bool.false_eq_true,if_false];have := Gd ls n q a p hs hl hn.1 hn.2 hqz hq h2 h3 q.length 0 (by omega);rw [List.drop_zero] at this;exact this
theorem U6 (l : List S41) (ls : List (List Int)) (n : Int) (q : List S30) (a : List Int) (p : Int) (hl0 : l.length <= 1048576) (hz : Zh l) (hs : ls.flatten.length <= 1048576) (hl : ls.length <= 1048576) (hq : q.length <= 1048576) (ha : a.length <= 1048576) (hqz : Y2 q) : Ev (fun k => FS.f k l ls n q a p) (V8 l ls n q a p) := by
 unfold FS.f V8;have bad : Ev (fun k => FS.j0 k q a p true ls n) (false,false) := by
  refine Ev.succ ?_;simp only [FS.j0,if_true];exact Ev.now _
 refine Ev.bind (Vq l ls hl0 hz hs hl) ?_;cases Yq l ls with
 | false =>
  simp only [Bool.false_eq_true,if_false,Bool.false_and];exact bad
 | true =>
  simp only [if_true,Bool.true_and,X7,Option.bind_some];cases h1 : X5 n 0 ls.length with
  | false =>
   simp only [Bool.false_eq_true,if_false,Bool.false_and];exact bad
  | true =>
   have hn := of_decide_eq_true h1;simp only [if_true,Bool.true_and];refine Ev.bind (Xv q a hq ha hqz) ?_;cases h2 : Xx q a with
   | false =>
    simp only [Bool.false_eq_true,if_false,Bool.false_and];exact bad
   | true =>
    simp only [if_true,Bool.true_and];cases h3 : X5 p 0 100 with
    | false =>
     simp only [Bool.not_false,Bool.false_and,Bool.false_eq_true,if_false];exact bad
    | true =>
     simp only [Bool.not_true,Bool.true_and];refine Ev.succ ?_;by_cases h4 : (q.length : Int) = 0
     ·have h5 : ((q.length : Int) == 0) = true := by simpa using h4
      simp only [FS.j0,Bool.false_eq_true,if_false,eq_true h4,if_true,h5,Bool.not_true];exact Ev.now _
     ·have h5 : ((q.length : Int) == 0) = false := by simpa using h4
      simp only [FS.j0,Bool.false_eq_true,if_false,eq_false h4,h5,Bool.not_false,if_true];have hb := Xu ls n.toNat;have hall : Ev (fun k => FC.f k q ls n) (Vh ls n q) := by
       unfold FC.f Vh;refine Zw (fun x hx => ?_);unfold FC.p;simp only [eq_true hn.1,eq_true hn.2,if_true];exact G8 _ x.f0 x.f1 (by omega)
      refine Ev.bind hall ?_;cases Vh ls n q with
      | false =>
       simp only [Bool.false_eq_true,if_false];exact Ev.now _
      | true =>
       simp only [if_true];refine Ev.bind (Yd q a hq ha hqz) ?_;unfold Yo;rw [if_pos h2];rw [Uy ls n q a p h2 h3];exact Ev.now _
theorem Vr (b : Bool) (l : List S30) (a : List Int) : ∀ d j,j + d <= l.length -> ∀ x,x ∈ Xo b l a d j -> x ∈ l
 | 0,j,_,x,hx => by simp [Xo] at hx
 | d + 1,j,hj,x,hx => by
  have hq : Xy l j ∈ l := by rw [Yv l j (by omega)];exact List.getElem_mem _
  unfold Xo at hx;have ih := Vr b l a d (j + 1) (by omega)
  split at hx
  ·rcases List.mem_cons.1 hx with rfl | hx
   ·exact hq
   ·exact ih x hx
  ·exact ih x hx
theorem Um (l : List S30) (a : List Int) (hz : Y2 l) : (X2 l a).1.length <= 1000 ∧ Y2 (X2 l a).1 := by
 unfold X2;by_cases h : Xx l a = true
 ·simp only [h,if_true];have h20 := (Xg h).1;have h1 := X0 false l a l.length 0;have h2 := X0 true l a l.length 0;refine ⟨by rw [List.length_append];omega,fun q hq => ?_⟩;rcases List.mem_append.1 hq with hq | hq
  ·exact hz q (Vr _ _ _ _ _ (by omega) _ hq)
  ·exact hz q (Vr _ _ _ _ _ (by omega) _ hq)
 ·simp only [h,Bool.false_eq_true,if_false];exact ⟨by simp,fun q hq => by cases hq⟩
end Go.Proofs.YtgnijnlgbelifaaGreat.Pure
namespace Go.Proofs.YtgnijnlgbelifaaGreat.Pure
open RowKit Q W.PrintWords W.PrintLast
theorem U1 (x : Int) (c : List Int) (hc : c.length < 4611686018427387904) : Ev (fun k => Fv.f k x c) (Xt c x c.length 0) := by
 unfold Fv.f;exact Ze c x hc c.length 0 (by omega)
theorem J6 {Q : List S30} (h : Y2 Q) {x : S30} (hx : x.f1.length <= 1048576) : Y2 (Q ++ [x]) := fun q hq => by
 rcases List.mem_append.1 hq with hq | hq
 ·exact h q hq
 ·rw [List.mem_singleton.1 hq];exact hx
theorem Ga {l : List Int} (hu : U8 l) (n : Int) (hn : n <= 100) (N : Nat) (hN : N <= 21) : ∀ (d : Nat) (Q : List S30) (A : List Int) (a s : Int),Q.length + d = N -> A.length = Q.length -> Y2 Q -> 0 <= a -> a + 22 * d <= 999999999700 ->
  ∃ Q' A' a' s',Ev (fun k => Fm.l0 k n Q A (N : Int) l a s) (Q',A',a',s') ∧ Q'.length <= 21 ∧ A'.length <= 22 ∧ Y2 Q' ∧ a <= a' ∧ a' <= a + 22 * d + 10 := by
 intro d
 induction d with
 | zero =>
  intro Q A a s h1 h2 h3 h4 h5;obtain ⟨y,a1,s1,e1,_,p1,q1⟩ := Xf hu s h4 (by omega) 30 (by decide) (by decide);by_cases c0 : y = 0
  ·refine ⟨Q,A ++ [0],a1,s1,Ev.succ ?_,by omega,by rw [List.length_append,List.length_singleton];omega,h3,p1,by omega⟩;simp only [Fm.l0,show ((Q.length : Int) < (N : Int)) = False from eq_false (by omega),if_false,e1,Option.bind_some,eq_true c0,if_true,show (A.length < 17592186044416) = True from eq_true (by omega)];exact Ev.now _
  by_cases c1 : y = 1
  ·by_cases c2 : (N : Int) > 0
   ·obtain ⟨z,a2,s2,e2,_,p2,q2⟩ := Xl hu s1 (a := a1) (by omega) (by omega) [-2,4] (by simp) (by simp);refine ⟨Q,A.set (0 : Int).toNat z,a2,s2,Ev.succ ?_,by omega,by rw [List.length_set];omega,h3,by omega,by omega⟩;simp only [Fm.l0,show ((Q.length : Int) < (N : Int)) = False from eq_false (by omega),if_false,e1,Option.bind_some,eq_false c0,eq_true c1,if_true,eq_true c2,e2,show (0 < (A.length : Int)) = True from eq_true (by omega)];exact Ev.now _
   ·refine ⟨Q,A,a1,s1,Ev.succ ?_,by omega,by omega,h3,p1,by omega⟩;simp only [Fm.l0,show ((Q.length : Int) < (N : Int)) = False from eq_false (by omega),if_false,e1,Option.bind_some,eq_false c0,eq_true c1,if_true,eq_false c2];exact Ev.now _
  ·refine ⟨Q,A,a1,s1,Ev.succ ?_,by omega,by omega,h3,p1,by omega⟩;simp only [Fm.l0,show ((Q.length : Int) < (N : Int)) = False from eq_false (by omega),if_false,e1,Option.bind_some,eq_false c0,eq_false c1];exact Ev.now _
 | succ d ih =>
  intro Q A a s h1 h2 h3 h4 h5;obtain ⟨r,a1,s1,hQ,hr,p1,q1⟩ := G3 hu n hn s h4 (by omega);obtain ⟨y,a2,s2,e2,_,p2,q2⟩ := Xl hu s1 (a := a1) (by omega) (by omega) [-1,0,1,Xt r.2 r.1 r.2.length 0,Xt r.2 r.1 r.2.length 0,wrap64 ((r.2.length : Int) - 1)] (by simp) (by simp);obtain ⟨Q',A',a3,s3,hE,k1,k2,k3,p3,q3⟩ := ih (Q ++ [(⟨r.1,r.2⟩ : S30)]) (A ++ [y]) a2 s2 (by rw [List.length_append,List.length_singleton];omega) (by rw [List.length_append,List.length_append,List.length_singleton,List.length_singleton];omega) (J6 h3 (by show r.2.length <= _;omega)) (by omega) (by omega);refine ⟨Q',A',a3,s3,Ev.succ ?_,k1,k2,k3,by omega,by omega⟩;have hx := U1 r.1 r.2 (by omega);simp only [Fm.l0,show ((Q.length : Int) < (N : Int)) = True from eq_true (by omega),if_true];refine Ev.bind hQ ?_;simp only [show (Q.length < 4398046511104) = True from eq_true (by omega),if_true];refine Ev.bind hx ?_;refine Ev.bind hx ?_;simp only [e2,Option.bind_some,show (A.length < 17592186044416) = True from eq_true (by omega),if_true];exact hE
theorem Gp {l : List Int} (hu : U8 l) (n : Int) (hn : n <= 100) {a : Int} (s : Int) (h0 : 0 <= a) (h1 : a <= 999999998000) : ∃ Q A a' s',Ev (fun k => Fm.f k l a s n) (Q,A,a',s') ∧ Q.length <= 21 ∧ A.length <= 22 ∧ Y2 Q ∧ a <= a' ∧ a' <= a + 500 := by
 obtain ⟨y,a1,s1,e1,⟨y0,y1⟩,p1,q1⟩ := Xf hu s h0 (by omega) 6 (by decide) (by decide);obtain ⟨b,a2,s2,e2,_,p2,q2⟩ := Vt hu s1 (a := a1) (by omega) (by omega) 12 (by decide) (by decide);have hz : Y2 ([] : List S30) := fun q hq => by cases hq
 unfold Fm.f;cases b with
 | false =>
  obtain ⟨N,hN⟩ : ∃ N : Nat,y = (N : Int) := ⟨y.toNat,by omega⟩;obtain ⟨Q,A,a3,s3,hE,k1,k2,k3,p3,q3⟩ := Ga hu n hn N (by omega) N [] [] a2 s2 (by simp) rfl hz (by omega) (by omega);refine ⟨Q,A,a3,s3,?_,k1,k2,k3,by omega,by omega⟩;simp only [e1,e2,Option.bind_some,Bool.false_eq_true,if_false];rw [hN];refine Ev.succ ?_;simp only [Fm.j0];exact hE
 | true =>
  obtain ⟨z,a3,s3,e3,⟨z0,z1⟩,p3,q3⟩ := Xf hu s2 (a := a2) (by omega) (by omega) 2 (by decide) (by decide);obtain ⟨N,hN⟩ : ∃ N : Nat,20 + z = (N : Int) := ⟨(20 + z).toNat,by omega⟩;obtain ⟨Q,A,a4,s4,hE,k1,k2,k3,p4,q4⟩ := Ga hu n hn N (by omega) N [] [] a3 s3 (by simp) rfl hz (by omega) (by omega);refine ⟨Q,A,a4,s4,?_,k1,k2,k3,by omega,by omega⟩;simp only [e1,e2,e3,Option.bind_some,if_true];rw [Xc (by omega) (by omega),hN];refine Ev.succ ?_;simp only [Fm.j0];exact hE
theorem Uu {l : List Int} (hu : U8 l) : ∃ Q A,Ev (fun k => GY.f k l) (Q,A) ∧ Q.length <= 21 ∧ A.length <= 22 ∧ Y2 Q := by
 obtain ⟨y,a1,s1,e1,⟨y0,y1⟩,p1,q1⟩ := Xf hu (a := 0) 0 (by decide) (by decide) 8 (by decide) (by decide);obtain ⟨Q,A,a2,s2,hE,k1,k2,k3,p2,q2⟩ := Gp hu (2 + y) (by omega) s1 (a := a1) (by omega) (by omega);refine ⟨Q,A,?_,k1,k2,k3⟩;unfold GY.f;simp only [e1,Option.bind_some];rw [Xc (by omega) (by omega)];exact Ev.bind hE (Ev.now _)
theorem Un {l : List Int} (hu : U8 l) : ∃ x c,Ev (fun k => GK.f k l) (x,c) ∧ c.length <= 21 := by
 obtain ⟨y,a1,s1,e1,⟨y0,y1⟩,p1,q1⟩ := Xf hu (a := 0) 0 (by decide) (by decide) 8 (by decide) (by decide);obtain ⟨r,a2,s2,hE,k1,p2,q2⟩ := G3 hu (2 + y) (by omega) s1 (a := a1) (by omega) (by omega);refine ⟨r.1,r.2,?_,k1⟩;unfold GK.f;simp only [e1,Option.bind_some];rw [Xc (by omega) (by omega)];exact Ev.bind hE (Ev.now _)
theorem V3 {l : List Int} (hu : U8 l) : ∃ L R n i,Ev (fun k => GW.f k l) (L,R,n,i) ∧ L.length <= 17 ∧ WSh 10 L ∧ LSh R := by
 obtain ⟨L,R,n,a1,s1,hE,h1,h2,h3,p1,q1⟩ := V9 hu;obtain ⟨y2,a2,s2,e2,_,p2,q2⟩ := Jf hu L (by omega) s1 (a := a1) (by omega) (by omega);refine ⟨L,R,n,y2,?_,h1,h2,h3⟩;unfold GW.f;refine Ev.bind hE ?_;refine Ev.bind (Ev.k (fun _ => rfl) e2) ?_;exact Ev.now _
theorem Ud {l : List Int} (hu : U8 l) (a s : Int) (h0 : 0 <= a) (h1 : a <= 999999999900) : ∃ y1 y2 a1 s1 a2 s2,Fd.f l a s [60,-1,101] = some (y1,a1,s1) ∧ Fd.f l a1 s1 [0,50,80,100,y1] = some (y2,a2,s2) := by
 obtain ⟨y1,a1,s1,e1,_,p1,q1⟩ := Xl hu s h0 (by omega) [60,-1,101] (by simp) (by simp);obtain ⟨y2,a2,s2,e2,_,p2,q2⟩ := Xl hu s1 (a := a1) (by omega) (by omega) [0,50,80,100,y1] (by simp) (by simp);exact ⟨y1,y2,a1,s1,a2,s2,e1,e2⟩
theorem Tn {l : List Int} (hu : U8 l) (L : List S41) (R : List (List Int)) (n : Int) (Q0 Q : List S30) (hQ : Q.length <= 1000) (hz : Y2 Q) : ∀ (d j : Nat) (A : List Int) (a s : Int),j + d = Q.length -> A.length = j -> 0 <= a -> a + 2 * d <= 999999999800 ->
  ∃ A' y,Ev (fun k => Fi.l0 k L R n Q0 A Q (Q.length : Int) (j : Int) l a s) (L,R,n,Q0,A',y) ∧ A'.length <= 1000 := by
 intro d
 induction d with
 | zero =>
  intro j A a s hj hA h0 h1;obtain ⟨y1,y2,a1,s1,a2,s2,e1,e2⟩ := Ud hu a s h0 (by omega);refine ⟨A,y2,Ev.succ ?_,by omega⟩;simp only [Fi.l0,show ((j : Int) < (Q.length : Int)) = False from eq_false (by omega),if_false,e1,e2,Option.bind_some];exact Ev.now _
 | succ d ih =>
  intro j A a s hj hA h0 h1;have hlt : j < Q.length := by omega
  have hq := Yc hz hlt;have hx := U1 (Xy Q j).f0 (Xy Q j).f1 (by omega);obtain ⟨y,a1,s1,e1,_,p1,q1⟩ := Xl hu s h0 (by omega) [Xt (Xy Q j).f1 (Xy Q j).f0 (Xy Q j).f1.length 0,Xt (Xy Q j).f1 (Xy Q j).f0 (Xy Q j).f1.length 0,0,-1] (by simp) (by simp);obtain ⟨A',z,hE,k1⟩ := ih (j + 1) (A ++ [y]) a1 s1 (by omega) (by rw [List.length_append,List.length_singleton];omega) (by omega) (by omega);refine ⟨A',z,Ev.succ ?_,k1⟩;simp only [Fi.l0,show ((j : Int) < (Q.length : Int)) = True from eq_true (by omega),if_true,Xa,Gs,Xb (show j < 4611686018427387904 by omega)];refine Ev.bind hx ?_;refine Ev.bind hx ?_;simp only [e1,Option.bind_some,show (A.length < 17592186044416) = True from eq_true (by omega),if_true];exact hE
theorem Uw {l : List Int} (hu : U8 l) (L : List S41) (hL : L.length <= 17) (hz : Zh L) (R : List (List Int)) (hR : LSh R) (n : Int) (Q : List S30) (A : List Int) (hQ : Q.length <= 1000) (hQz : Y2 Q) (hA : A.length <= 1000) (b : Bool) (a s : Int) (h0 : 0 <= a) (h1 : a <= 999999990000) :
  ∃ Q' A' y,Ev (fun k => Fi.j0 k L R n Q A b l a s) (L,R,n,Q',A',y) ∧ Q'.length <= 1000 ∧ Y2 Q' ∧ A'.length <= 1000 := by
 have hf := hR.flat;have hl := hR.1;obtain ⟨y1,y2,a1,s1,a2,s2,e1,e2⟩ := Ud hu a s h0 (by omega);cases b with
 | false =>
  refine ⟨Q,A,y2,Ev.succ ?_,hQ,hQz,hA⟩;simp only [Fi.j0,Bool.false_eq_true,if_false,e1,e2,Option.bind_some];exact Ev.now _
 | true =>
  obtain ⟨r,r2,r3,r4⟩ := Ts L R n (by omega) hz (by omega) (by omega);cases h : r.2 with
  | false =>
   refine ⟨Q,A,y2,Ev.succ ?_,hQ,hQz,hA⟩;simp only [Fi.j0,if_true];refine Ev.bind r2 ?_;simp only [h,Bool.false_eq_true,if_false,e1,e2,Option.bind_some];exact Ev.now _
  | true =>
   obtain ⟨A',y,hE,k1⟩ := Tn hu L R n r.1 r.1 r3 r4 r.1.length 0 [] a s (by omega) rfl h0 (by omega);refine ⟨r.1,A',y,Ev.succ ?_,r3,r4,k1⟩;simp only [Fi.j0,if_true];refine Ev.bind r2 ?_;simp only [h,if_true];exact hE
theorem U9 {l : List Int} (hu : U8 l) : ∃ L R n Q A p,Ev (fun k => Fi.f k l) (L,R,n,Q,A,p) ∧ L.length <= 17 ∧ WSh 10 L ∧ LSh R ∧ Q.length <= 1000 ∧ Y2 Q ∧ A.length <= 1000 := by
 obtain ⟨L,R,n,a1,s1,hE,h1,h2,h3,p1,q1⟩ := V9 hu;have hz : Zh L := h2.wsz (by decide);have hf := h3.flat;have hl := h3.1;obtain ⟨Q,A,a2,s2,hA,k1,k2,k3,p2,q2⟩ := Gp hu (L.length : Int) (by omega) s1 (a := a1) (by omega) (by omega);have hX := Yw L R n (by omega) hz (by omega) (by omega);unfold Fi.f;cases h : Yq L R && X5 n 0 R.length with
 | false =>
  rw [h] at hX;obtain ⟨Q',A',y,hJ,j1,j2,j3⟩ := Uw hu L h1 hz R h3 n Q A (by omega) k3 (by omega) false a2 s2 (by omega) (by omega);refine ⟨L,R,n,Q',A',y,Ev.bind hE (Ev.bind hA (Ev.bind hX ?_)),h1,h2,h3,j1,j2,j3⟩;simp only [Bool.false_eq_true,if_false];exact hJ
 | true =>
  rw [h] at hX;by_cases hn : n > 0
  ·obtain ⟨b,a3,s3,e3,_,p3,q3⟩ := Vt hu s2 (a := a2) (by omega) (by omega) 2 (by decide) (by decide);obtain ⟨Q',A',y,hJ,j1,j2,j3⟩ := Uw hu L h1 hz R h3 n Q A (by omega) k3 (by omega) b a3 s3 (by omega) (by omega);refine ⟨L,R,n,Q',A',y,Ev.bind hE (Ev.bind hA (Ev.bind hX ?_)),h1,h2,h3,j1,j2,j3⟩;simp only [if_true,eq_true hn,e3,Option.bind_some];exact hJ
  ·obtain ⟨Q',A',y,hJ,j1,j2,j3⟩ := Uw hu L h1 hz R h3 n Q A (by omega) k3 (by omega) false a2 s2 (by omega) (by omega);refine ⟨L,R,n,Q',A',y,Ev.bind hE (Ev.bind hA (Ev.bind hX ?_)),h1,h2,h3,j1,j2,j3⟩;simp only [if_true,eq_false hn,if_false];exact hJ
def Y5 (a : List Int) : Nat -> Nat -> Int
 | 0,_ => 0
 | d + 1,j => (if a.getD j 0 < 0 then 1 else 0) + Y5 a d (j + 1)
theorem Jm {l : List S30} {a : List Int} {j : Nat} (h : Xi l a j = true) : 0 <= a.getD j 0 := by
 unfold Xi at h;rw [Bool.and_eq_true,decide_eq_true_eq] at h;exact h.1
theorem Uv (l : List S30) (a : List Int) : ∀ (d j : Nat) (r w : Int),(Xh l a d j r w).1 + (Xh l a d j r w).2 + Y5 a d j = r + w + d ∧ (Xh l a d j r w).2 = w + (Xo false l a d j).length ∧ Y5 a d j = (Xo true l a d j).length ∧ (Xq l a d j).length = (Xo false l a d j).length + (Xo true l a d j).length
 | 0,j,r,w => by simp [Xh,Y5,Xo,Xq]
 | d + 1,j,r,w => by
  rw [Xh,Y5,Xo,Xo,Xq];cases h : Xi l a j with
  | true =>
   have hp := Jm h;obtain ⟨c1,c2,c3,c4⟩ := Uv l a d (j + 1) (r + 1) w;simp only [if_true,Bool.not_true,Bool.false_and,Bool.false_eq_true,if_false,show (a.getD j 0 < 0) = False from eq_false (by omega)];omega
  | false =>
   simp only [Bool.false_eq_true,if_false,Bool.not_false,Bool.true_and];by_cases hn : a.getD j 0 < 0
   ·obtain ⟨c1,c2,c3,c4⟩ := Uv l a d (j + 1) r w;simp only [show (0 <= a.getD j 0) = False from eq_false (by omega),if_false,eq_true hn,if_true,decide_true,show (true == false) = false from rfl,show (true == true) = true from rfl,Bool.false_eq_true,List.length_cons];omega
   ·obtain ⟨c1,c2,c3,c4⟩ := Uv l a d (j + 1) r (w + 1);simp only [show (0 <= a.getD j 0) = True from eq_true (by omega),if_true,eq_false hn,if_false,decide_false,show (false == false) = true from rfl,show (false == true) = false from rfl,Bool.false_eq_true,List.length_cons];omega
theorem Y3 (b : Bool) (l : List S30) (a : List Int) : ∀ (d j : Nat) (x : S30),x ∈ Xo b l a d j -> x.f0 ∈ Xq l a d j
 | 0,_,x,h => by simp [Xo] at h
 | d + 1,j,x,h => by
  rw [Xo] at h;rw [Xq];cases hr : Xi l a j with
  | true =>
   rw [hr] at h;simp only [Bool.not_true,Bool.false_and,Bool.false_eq_true,if_false] at h;simp only [if_true];exact Y3 b l a d (j + 1) x h
  | false =>
   simp only [Bool.false_eq_true,if_false,List.mem_cons]
   split at h
   ·rcases List.mem_cons.1 h with h | h
    ·rw [h];exact Or.inl rfl
    ·exact Or.inr (Y3 b l a d (j + 1) x h)
   ·exact Or.inr (Y3 b l a d (j + 1) x h)
theorem G4 (l : List S30) (a : List Int) : ∀ (d j i : Nat),j <= i -> i < j + d -> Xi l a i = false -> (Xy l i).f0 ∈ Xq l a d j
 | 0,j,i,h1,h2,_ => by omega
 | d + 1,j,i,h1,h2,h3 => by
  rw [Xq];by_cases e : j = i
  ·subst e;rw [h3];simp
  ·have := G4 l a d (j + 1) i (by omega) (by omega) h3
   split
   ·exact this
   ·exact List.mem_cons_of_mem _ this
theorem Te {x1 : List Int} (hu : U8 x1) : Ev (fun k => Ff.j7 k x1) true := by
 obtain ⟨L,R,n,i,hD,h1,h2,h3⟩ := V3 hu;obtain ⟨x,c,hC,h4⟩ := Un hu;have hz : Zh L := h2.wsz (by decide);have hf := h3.flat;have hl := h3.1;refine Ev.succ ?_;simp only [Ff.j7];refine Ev.bind hD ?_;refine Ev.bind (Vg L R n i (by omega) hz (by omega) (by omega)) ?_;refine Ev.bind (Vc L R n i (by omega) hz (by omega) (by omega)) ?_;refine Ev.bind hC ?_;refine Ev.bind (Zu x c (by omega)) ?_;refine Ev.bind (Zt x c (by omega)) ?_;simp only [beq_self_eq_true,if_true];exact Ev.now _
theorem Tx {x1 : List Int} (hu : U8 x1) : Ev (fun k => Ff.j5 k x1) true := by
 obtain ⟨L,R,n,Q,A,p,hD,h1,h2,h3,h4,h5,h6⟩ := U9 hu;have hz : Zh L := h2.wsz (by decide);have hf := h3.flat;have hl := h3.1;refine Ev.succ ?_;simp only [Ff.j5];refine Ev.bind hD ?_;refine Ev.bind (U6 L R n Q A p (by omega) hz (by omega) (by omega) (by omega) (by omega) h5) ?_;refine Ev.bind (U0 L R n Q A p (by omega) hz (by omega) (by omega) (by omega) (by omega) h5) ?_;simp only [bne_self_eq_false,Bool.false_eq_true,if_false];refine Ev.succ ?_;simp only [Ff.j6,Bool.false_eq_true,if_false];cases h : (V8 L R n Q A p).2 with
 | false =>
  simp only [Bool.false_eq_true,if_false];exact Te hu
 | true =>
  have hs := Yd Q A (by omega) (by omega) h5;unfold V8 at h ⊢
  split at h
  ·rename_i hc
   have hc0 := hc;rw [Bool.and_eq_true,Bool.and_eq_true,Bool.and_eq_true,Bool.and_eq_true] at hc;obtain ⟨_,hB,hp,_⟩ := hc;obtain ⟨h20,_,_⟩ := Xg hB;have hpp : 0 <= p ∧ p <= 100 := of_decide_eq_true hp;obtain ⟨b0,b1⟩ := Xr Q A Q.length 0 0 0 (by omega) (by omega);have e1 : wrap64 (100 * (Xh Q A Q.length 0 0 0).1) = 100 * (Xh Q A Q.length 0 0 0).1 := Xc (by omega) (by omega);have hm0 : 0 <= p * (Q.length : Int) := Int.mul_nonneg (by omega) (by omega);have hm1 : p * (Q.length : Int) <= 100 * 20 := Int.mul_le_mul (by omega) (by omega) (by omega) (by omega);have e2 : wrap64 (p * (Q.length : Int)) = p * (Q.length : Int) := Xc (by omega) (by omega);unfold Yo at hs;rw [if_pos hB] at hs
   split at h
   ·rename_i hfa
    simp only [hc0,if_true,hfa];refine Ev.bind hs ?_;simp only [if_true,e1,e2];by_cases hge : 100 * (Xh Q A Q.length 0 0 0).1 >= p * (Q.length : Int)
    ·simp only [eq_true hge,if_true,bne_self_eq_false,Bool.false_eq_true,if_false];exact Te hu
    ·simp only [eq_false hge,if_false,bne_self_eq_false,Bool.false_eq_true];exact Te hu
   ·cases h
  ·cases h
theorem T3 {x1 : List Int} (hu : U8 x1) (W : List Int) (hW : W.length <= 1048576) (P : List S30) (hP : P.length <= 1000) (hm : ∀ x,x ∈ P -> x.f0 ∈ W) : ∀ d j,j + d = P.length -> Ev (fun k => Ff.l1 k x1 W P (P.length : Int) (j : Int)) true := by
 intro d
 induction d with
 | zero =>
  intro j hj;refine Ev.succ ?_;simp only [Ff.l1,show ((j : Int) < (P.length : Int)) = False from eq_false (by omega),if_false];exact Tx hu
 | succ d ih =>
  intro j hj;have hlt : j < P.length := by omega
  refine Ev.succ ?_;simp only [Ff.l1,show ((j : Int) < (P.length : Int)) = True from eq_true (by omega),if_true,Xa,Gs,Yv P j hlt,Xb (show j < 4611686018427387904 by omega)];refine Ev.bind (Jv W (by omega) _) ?_;simp only [decide_eq_true (hm _ (List.getElem_mem hlt)),if_true];exact ih (j + 1) (by omega)
theorem T4 {x1 : List Int} (hu : U8 x1) (Q : List S30) (A : List Int) (hz : Y2 Q) (h : Xx Q A = true) (r w : Int) (W : List Int) (hWl : W.length <= 1048576) (P : List S30) (hP : P.length <= 1000) (hm : ∀ x,x ∈ P -> x.f0 ∈ W) (hlen : W.length <= P.length)
  (hW : ∀ i,i < Q.length -> Xi Q A i = false -> (Xy Q i).f0 ∈ W) (hr : 0 <= r ∧ r <= 100) (hw : 0 <= w ∧ w <= 100) (hsum : r + w + Y5 A Q.length 0 = Q.length) (hrep : (P.length : Int) = w + Y5 A Q.length 0) : ∀ d i (z : Int),i + d = Q.length -> 0 <= z -> z <= i -> z + Y5 A d i = Y5 A Q.length 0 -> Ev (fun k => Ff.l0 k x1 Q A r w W P z Q (Q.length : Int) (i : Int)) true := by
 obtain ⟨h20,hla,h3⟩ := Xg h;intro d
 induction d with
 | zero =>
  intro i z hi z0 z1 hn;rw [Y5,Int.add_zero] at hn;have e1 : wrap64 (r + w) = r + w := Xc (by omega) (by omega);have e2 : wrap64 (r + w + z) = r + w + z := Xc (by omega) (by omega);have e3 : wrap64 (w + z) = w + z := Xc (by omega) (by omega);refine Ev.succ ?_;simp only [Ff.l0,show ((i : Int) < (Q.length : Int)) = False from eq_false (by omega),if_false,e1,e2,e3,show (r + w + z = (Q.length : Int)) = True from eq_true (by omega),if_true,show ((P.length : Int) = w + z) = True from eq_true (by omega),show decide ((W.length : Int) > (P.length : Int)) = false from decide_eq_false (by omega)];refine Ev.succ ?_;simp only [Ff.j3,Bool.false_eq_true,if_false];exact T3 hu W hWl P hP hm P.length 0 (by omega)
 | succ d ih =>
  intro i z hi z0 z1 hn;rw [Y5] at hn;have hlt : i < Q.length := by omega
  obtain ⟨g1,g2,g3⟩ := h3 i hlt;have hq := Yc hz hlt;have hR := Zu (Xy Q i).f0 (Xy Q i).f1 (by omega);have hS := Zt (Xy Q i).f0 (Xy Q i).f1 (by omega);rw [Gq g1] at hR hS;have hiff := Yk Q A h i hlt;have hj2 : Ev (fun k => Ff.j2 k x1 Q A r w W P z (i : Int) Q (Q.length : Int) (i : Int) false) true := by
   refine Ev.succ ?_;simp only [Ff.j2,Bool.false_eq_true,if_false,Xa,if_true,show ((i : Int) < (A.length : Int)) = True from eq_true (by omega),Yf,Xb (show i < 4611686018427387904 by omega)];by_cases hneg : A.getD i 0 < 0
   ·rw [if_pos hneg] at hn;simp only [eq_true hneg,if_true];rw [Xc (by omega) (by omega)];exact ih (i + 1) (z + 1) (by omega) (by omega) (by omega) (by omega)
   ·rw [if_neg hneg] at hn;simp only [eq_false hneg,if_false];exact ih (i + 1) z (by omega) z0 (by omega) (by omega)
  refine Ev.succ ?_;simp only [Ff.l0,show ((i : Int) < (Q.length : Int)) = True from eq_true (by omega),if_true,Xa,Gs];refine Ev.bind hR ?_;refine Ev.bind hS ?_;simp only [if_true,show ((i : Int) < (A.length : Int)) = True from eq_true (by omega),Yf];cases hra : Xi Q A i with
  | true =>
   simp only [eq_true (hiff.2 hra),if_true];exact hj2
  | false =>
   have hx : ¬ (A.getD i 0 = Xt (Xy Q i).f1 (Xy Q i).f0 (Xy Q i).f1.length 0) := fun e => by rw [hiff.1 e] at hra;cases hra
   simp only [eq_false hx,if_false];refine Ev.bind (Jv W (by omega) _) ?_;simp only [decide_eq_true (hW i hlt hra),Bool.not_true];exact hj2
theorem FnAnswers : Ff.Pure := by
 intro l0 l1 h0 hb0 h1 hb1;have u0 : U8 l0 := ⟨hb0,by omega⟩;have u1 : U8 l1 := ⟨hb1,by omega⟩;refine Ev.rounds ?_;unfold Ff.f;obtain ⟨b,hb⟩ : ∃ b,Ln.f l0 l1 = some b := by unfold Ln.f;split <;> exact ⟨_,rfl⟩
 rw [hb];simp only [Option.bind_some];cases b with
 | true =>
  simp only [if_true];exact Ev.now _
 | false =>
  simp only [Bool.false_eq_true,if_false];obtain ⟨Q,A,hD,hQ,hA,hz⟩ := Uu u0;obtain ⟨W,w1,w2,w3,w4,w5⟩ := Jx Q A (by omega) (by omega) hz;obtain ⟨f1,f2⟩ := Um Q A hz;have hi := Yd Q A (by omega) (by omega) hz;have hs := Vu Q A (by omega) (by omega) hz;have e3 : (Yo Q A).2.2 = Xx Q A := by unfold Yo;split <;> simp_all
  have e4 : (X2 Q A).2 = Xx Q A := by unfold X2;split <;> simp_all
  refine Ev.bind hD ?_;refine Ev.bind hi ?_;refine Ev.bind hs ?_;refine Ev.bind w2 ?_;refine Ev.bind w3 ?_;refine Ev.bind (V2 Q A (by omega) (by omega) hz) ?_;refine Ev.bind (Vy Q A (by omega) (by omega) hz) ?_;simp only [bne_self_eq_false,Bool.false_eq_true,if_false,if_true];refine Ev.bind (Z3 _ (by omega)) ?_;simp only [if_true];refine Ev.bind (J2 _ (by omega) f2) ?_;simp only [if_true,w4,e3,e4,bne_self_eq_false,Bool.false_eq_true,if_false];refine Ev.succ ?_;simp only [Ff.j0,Bool.false_eq_true,if_false];cases h : Xx Q A with
  | false =>
   simp only [Bool.false_eq_true,if_false];exact Tx u1
  | true =>
   obtain ⟨h20,hla,_⟩ := Xg h;obtain ⟨m1,m2⟩ := w5 h;obtain ⟨c1,c2,c3,c4⟩ := Uv Q A Q.length 0 0 0;obtain ⟨b0,b1⟩ := Xr Q A Q.length 0 0 0 (by omega) (by omega);have s1 := X0 false Q A Q.length 0;have s2 := X0 true Q A Q.length 0;have es : Yo Q A = ((Xh Q A Q.length 0 0 0).1,(Xh Q A Q.length 0 0 0).2,true) := by unfold Yo;rw [if_pos h]
   have er : X2 Q A = (Xo false Q A Q.length 0 ++ Xo true Q A Q.length 0,true) := by unfold X2;rw [if_pos h]
   simp only [if_true,es,er];refine T4 u1 Q A hz h _ _ W.1 w1 _ (by rw [List.length_append];omega) (fun x hx => ?_) (by rw [List.length_append];omega) (fun i hi hr => ?_) (by omega) (by omega) (by omega) (by rw [List.length_append];omega) Q.length 0 0 (by omega) (by omega) (by omega) (by omega)
   ·rw [m1];rcases List.mem_append.1 hx with hx | hx
    ·exact Y3 _ Q A _ _ x hx
    ·exact Y3 _ Q A _ _ x hx
   ·rw [m1];exact G4 Q A Q.length 0 i (by omega) (by omega) hr
end Go.Proofs.YtgnijnlgbelifaaGreat.Pure
