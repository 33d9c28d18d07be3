/- For all bytes: of the keys that are drawn out of them,keys that are put are there,mirrored ones are mirrored back,and held parts do not change;the program answers as the reference does. No condition but that the library's table stands. -/
import Derived.Test.YtkobnljfoedmnaaDoorQLawsFnKeys
import Derived.Laws.BitsLemmas
import Derived.Lib.Slices
import Derived.Lib.ItoaNum
import Derived.Lib.Join
set_option linter.unusedVariables false
set_option linter.unusedSimpArgs false
namespace Go.Proofs.YtkobnljfoedmnaaDoor.Pure
open Go.RowKit Go.Proofs.YtkobnljfoedmnaaDoor.Q Go.Proofs.YtkobnljfoedmnaaDoorW.PrintLast Go.Proofs.YtkobnljfoedmnaaDoorW.PrintWords
theorem Ev.succ {α : Type} {g : Nat -> Option α} {r : α} (h : Ev (fun k => g (k + 1)) r) : Ev g r := Ev.step (fun _ => rfl) h
theorem Ev.k {α : Type} {g : Nat -> Option α} {o : Option α} {r : α} (hg : ∀ k,g k = o) (h : o = some r) : Ev g r := ⟨0,fun k _ => (hg k).trans h⟩
theorem Ev.eq {α : Type} {g : Nat -> Option α} {r r' : α} (h : Ev g r) (e : r = r') : Ev g r' := e ▸ h
theorem Ev.upto {β : Type} {L : Nat -> Nat -> Option β} {r : β} {n : Nat} (hend : Ev (fun k => L k n) r)
    (hstep : ∀ j,j < n -> Ev (fun k => L k (j + 1)) r -> Ev (fun k => L k j) r) : ∀ i,i <= n -> Ev (fun k => L k i) r := by
  intro i hi;obtain ⟨d,hd⟩ : ∃ d,n = i + d := ⟨n - i,by omega⟩
  induction d generalizing i with
  | zero => simp at hd;subst hd;exact hend
  | succ d ih => exact hstep i (by omega) (ih (i + 1) (by omega) (by omega))
theorem Ev.all {β : Type} {L : Nat -> Nat -> Option β} {P : Nat -> Bool} {n : Nat} {a b : β} (hend : Ev (fun k => L k n) a)
    (hyes : ∀ j r,j < n -> P j = true -> Ev (fun k => L k (j + 1)) r -> Ev (fun k => L k j) r) (hno : ∀ j,j < n -> P j = false -> Ev (fun k => L k j) b) :
    ∀ i,i <= n -> Ev (fun k => L k i) (if (List.range' i (n - i)).all P then a else b) := by
  intro i hi;obtain ⟨d,hd⟩ : ∃ d,n = i + d := ⟨n - i,by omega⟩
  induction d generalizing i with
  | zero => simp at hd;subst hd;simpa using hend
  | succ d ih =>
    have h1 : n - i = (n - (i + 1)) + 1 := by omega
    rw [h1,List.range'_succ];simp only [List.all_cons];rcases Bool.eq_false_or_eq_true (P i) with hP | hP
    · simp only [hP,Bool.true_and]
      exact hyes i _ (by omega) hP (ih (i + 1) (by omega) (by omega))
    · simpa [hP] using hno i (by omega) hP
theorem Ev.all0 {β : Type} {L : Nat -> Nat -> Option β} {P : Nat -> Bool} {n : Nat} {a b : β} (hend : Ev (fun k => L k n) a)
    (hyes : ∀ j r,j < n -> P j = true -> Ev (fun k => L k (j + 1)) r -> Ev (fun k => L k j) r) (hno : ∀ j,j < n -> P j = false -> Ev (fun k => L k j) b) :
    Ev (fun k => L k 0) (if (List.range n).all P then a else b) := by
  have := Ev.all hend hyes hno 0 (Nat.zero_le _)
  rwa [Nat.sub_zero,<- List.range_eq_range'] at this
theorem Xb {x : Int} (h0 : -9223372036854775808 <= x) (h1 : x <= 9223372036854775807) : wrap64 x = x := by
  unfold wrap64;omega
theorem Xd {n : Nat} (h : n < 4611686018427387904) : wrap64 ((n : Int) + 1) = ((n + 1 : Nat) : Int) := by
  rw [Xb (by omega) (by omega)];omega
theorem Xm {n : Nat} (h0 : 0 < n) (h : n < 4611686018427387904) : wrap64 ((n : Int) - 1) = ((n - 1 : Nat) : Int) := by
  rw [Xb (by omega) (by omega)];omega
theorem Xa (n : Nat) : (0 <= (n : Int)) = True := eq_true (Int.natCast_nonneg n)
structure U8 (l : List Int) : Prop where
  b : ∀ y,y ∈ l -> (Lit.int .u8 y).wf = true
  n : l.length <= 140737488351232
theorem Vt {y : Int} (h : (Lit.int .u8 y).wf = true) : 0 <= y ∧ y <= 255 := by
  simp [Lit.wf,IntKind.min,IntKind.max,IntKind.bits,IntKind.signed] at h;omega
theorem Uj (x : Int) : 0 <= Go.bits .and .u64 x 255 ∧ Go.bits .and .u64 x 255 <= 255 := by
  have h : ((BitVec.ofInt 64 x &&& BitVec.ofInt 64 255).toNat : Nat) <= 255 := by
    rw [BitVec.toNat_and];exact Nat.le_trans Nat.and_le_right (by decide)
  have e : Go.bits .and .u64 x 255 = ((((BitVec.ofInt 64 x &&& BitVec.ofInt 64 255).toNat : Nat) : Int) % 18446744073709551616) := by
    unfold Go.bits IntKind.wrap;simp only [IntKind.signed,Bool.false_and,Bool.false_eq_true,if_false];rfl
  rw [e];generalize (BitVec.ofInt 64 x &&& BitVec.ofInt 64 255).toNat = n at h;omega
def Uq {α : Type} (f : Option (α × Int × Int)) (a n : Int) (P : α -> Prop) : Prop := ∃ r a' s',f = some (r,a',s') ∧ P r ∧ a <= a' ∧ a' <= a + n
theorem Z1 {l : List Int} (hu : U8 l) {a : Int} (s : Int) (h0 : 0 <= a) (h1 : a <= 1000000000000) : Uq (spec_l1Cur_next.f l a s) a 1 (fun r => 0 <= r ∧ r <= 255) := by
  have hw : wrap64 (a + 1) = a + 1 := Xb (by omega) (by omega);unfold spec_l1Cur_next.f;rw [hw];have low : ∀ x : Int,0 <= wrap64 (Go.bits .and .u64 x 255) ∧ wrap64 (Go.bits .and .u64 x 255) <= 255 := fun x => by
    have := Uj x;rw [Xb (by omega) (by omega)];exact this
  by_cases h2 : a < (l.length : Int)
  · have hr : 0 <= rd l a ∧ rd l a <= 255 := by
      have hlt : a.toNat < l.length := by omega
      have e : rd l a = l[a.toNat] := by
        show l.getD a.toNat 0 = _;rw [List.getD_eq_getElem?_getD,List.getElem?_eq_getElem hlt];rfl
      rw [e];exact Vt (hu.b _ (List.getElem_mem _))
    have hwr : wrap64 (rd l a) = rd l a := Xb (by omega) (by omega);rw [if_pos h2,if_pos h0,hwr];by_cases h3 : a + 1 <= (l.length : Int)
    · rw [if_pos h3]
      exact ⟨_,_,_,rfl,hr,by omega,by omega⟩
    · rw [if_neg h3]
      refine ⟨_,_,_,rfl,?_,by omega,by omega⟩;exact low _
  · rw [if_neg h2]
    by_cases h3 : a + 1 <= (l.length : Int)
    · rw [if_pos h3]
      exact ⟨_,_,_,rfl,⟨by decide,by decide⟩,by omega,by omega⟩
    · rw [if_neg h3]
      exact ⟨_,_,_,rfl,low _,by omega,by omega⟩
theorem Xn {l : List Int} (hu : U8 l) {a : Int} (s : Int) (h0 : 0 <= a) (h1 : a <= 999999999990) (n : Int) (hn : 1 <= n) (hm : n <= 1000000) : Uq (spec_l1Cur_pick.f l a s n) a 2 (fun r => 0 <= r ∧ r < n) := by
  unfold spec_l1Cur_pick.f;by_cases h2 : n <= 1
  · rw [if_pos h2]
    exact ⟨_,_,_,rfl,⟨by omega,by omega⟩,by omega,by omega⟩
  · rw [if_neg h2]
    obtain ⟨x,a1,s1,e1,⟨x0,x1⟩,p1,p2⟩ := Z1 hu s h0 (by omega);rw [e1];simp only [Option.bind_some,eq_false (show ¬ n = 0 by omega),if_false];by_cases h3 : n > 200
    · obtain ⟨y,a2,s2,e2,⟨y0,y1⟩,q1,q2⟩ := Z1 hu s1 (a := a1) (by omega) (by omega)
      simp only [eq_true h3,if_true,e2,Option.bind_some];refine ⟨_,_,_,rfl,?_,by omega,by omega⟩;rw [Xb (x := x * 256) (by omega) (by omega),Xb (by omega) (by omega),Int.tmod_eq_emod_of_nonneg (by omega)];exact ⟨Int.emod_nonneg _ (by omega),Int.emod_lt_of_pos _ (by omega)⟩
    · simp only [eq_false h3,if_false]
      refine ⟨_,_,_,rfl,?_,by omega,by omega⟩;rw [Int.tmod_eq_emod_of_nonneg (by omega)];exact ⟨Int.emod_nonneg _ (by omega),Int.emod_lt_of_pos _ (by omega)⟩
theorem Y6 {l : List Int} (hu : U8 l) {a : Int} (s : Int) (h0 : 0 <= a) (h1 : a <= 999999999990) (n : Int) (hn : 1 <= n) (hm : n <= 1000000) : Uq (spec_l1Cur_one.f l a s n) a 2 (fun _ => True) := by
  obtain ⟨x,a1,s1,e1,_,p1,p2⟩ := Xn hu s h0 h1 n hn hm;unfold spec_l1Cur_one.f;rw [e1];exact ⟨_,_,_,rfl,trivial,p1,p2⟩
theorem Xg {l : List Int} (hu : U8 l) {a : Int} (s : Int) (h0 : 0 <= a) (h1 : a <= 999999999990) (L : List Int) (hn : 0 < L.length) (hm : L.length <= 1000000) : Uq (spec_l1Cur_among.f l a s L) a 2 (fun r => r ∈ L) := by
  obtain ⟨x,a1,s1,e1,⟨x0,x1⟩,p1,p2⟩ := Xn hu s h0 h1 (L.length : Int) (by omega) (by omega);unfold spec_l1Cur_among.f;rw [e1];simp only [Option.bind_some,eq_true x0,eq_true x1,if_true];refine ⟨_,_,_,rfl,?_,p1,p2⟩;have hlt : x.toNat < L.length := by omega
  have e : rd L x = L[x.toNat] := by
    show L.getD x.toNat 0 = _;rw [List.getD_eq_getElem?_getD,List.getElem?_eq_getElem hlt];rfl
  rw [e];exact List.getElem_mem _
def Yi (a b c : Int) : Bool := decide (b <= a ∧ a <= c)
theorem Z7 (a b c : Int) : spec_l1In.f a b c = some (Yi a b c) := by
  unfold spec_l1In.f Yi
  split <;> simp <;> omega
theorem Xy (a b c : Int) : impl_within.f a b c = some (Yi a b c) := by
  unfold impl_within.f Yi
  split <;> simp <;> omega
def Ym (a b c d e : Int) : Bool := Yi a 0 9999 && (Yi b (-90) 180 && (Yi c 0 150 && (Yi d (-70) 70 && Yi e 0 90)))
theorem Yv (a b c d e : Int) : impl_IsKey.f a b c d e = some (Ym a b c d e) := by
  unfold impl_IsKey.f Ym;simp only [Xy,Option.bind_some];cases Yi a 0 9999 <;> cases Yi b (-90) 180 <;> cases Yi c 0 150 <;> cases Yi d (-70) 70 <;> simp
theorem Ys (a b c d e : Int) : spec_avOne.f a b c d e = some (Ym a b c d e) := by
  unfold spec_avOne.f spec_avFrame.f Ym;simp only [Z7,Option.bind_some];cases Yi a 0 9999 <;> cases Yi b (-90) 180 <;> cases Yi c 0 150 <;> cases Yi d (-70) 70 <;> simp
theorem rdK (l : List S25) (j : Nat) : rd_T25 l (j : Int) = l.getD j z25 := by simp [rd_T25]
def Xc (l : List S25) (j : Nat) : S25 := l.getD j z25
theorem Yf (l : List S25) (j : Nat) : rd_T25 l (j : Int) = Xc l j := rdK l j
def V4 (x : S25) : Bool := Ym x.f0 x.f1 x.f2 x.f3 x.f4
def X4 (l : List S25) (i : Nat) : Bool := V4 (Xc l i) && (decide (i = 0) || decide ((Xc l (i - 1)).f0 < (Xc l i).f0))
def Xe (l : List S25) : Bool := if (List.range l.length).all (X4 l) then decide (l.length <= 15) else false
theorem Xk (l : List S25) (hl : l.length < 4611686018427387904) : Ev (fun k => spec_avGood.f k l) (Xe l) := by
  unfold spec_avGood.f Xe;refine Ev.all0 (L := fun k j => spec_avGood.l0 k l l (l.length : Int) (j : Int)) (P := X4 l) (n := l.length) ?_ ?_ ?_
  · refine Ev.succ ?_
    simp only [spec_avGood.l0,Int.lt_irrefl,if_false];refine Ev.eq (Ev.now _) ?_;rw [decide_eq_decide];omega
  · intro j r hj hP h
    refine Ev.succ ?_;have h1 : ((j : Int) < (l.length : Int)) = True := eq_true (by omega);simp only [X4,Bool.and_eq_true,Bool.or_eq_true,decide_eq_true_eq,V4] at hP;simp only [spec_avGood.l0,Ys,Option.bind_some,h1,if_true,Xa,Yf,Xd (show j < 4611686018427387904 by omega),hP.1];by_cases h0 : j = 0
    · subst h0
      exact h
    · have h2 : ((j : Int) > 0) = True := eq_true (by omega)
      have h3 : (((j - 1 : Nat) : Int) < (l.length : Int)) = True := eq_true (by omega);have h4 : ((Xc l (j - 1)).f0 >= (Xc l j).f0) = False := eq_false (by have := hP.2.resolve_left h0;omega);simp only [h2,if_true,Xm (show 0 < j by omega) (show j < 4611686018427387904 by omega),Xa,h3,Yf,h4,if_false];exact h
  · intro j hj hP
    refine Ev.succ ?_;have h1 : ((j : Int) < (l.length : Int)) = True := eq_true (by omega);simp only [X4,V4] at hP;simp only [spec_avGood.l0,Ys,Option.bind_some,h1,if_true,Xa,Yf,Xd (show j < 4611686018427387904 by omega)];rcases Bool.eq_false_or_eq_true (Ym (Xc l j).f0 (Xc l j).f1 (Xc l j).f2 (Xc l j).f3 (Xc l j).f4) with hk | hk
    · simp only [hk,if_true]
      simp only [hk,Bool.true_and,Bool.or_eq_false_iff,decide_eq_false_iff_not] at hP;have h2 : ((j : Int) > 0) = True := eq_true (by omega);have h3 : (((j - 1 : Nat) : Int) < (l.length : Int)) = True := eq_true (by omega);have h4 : ((Xc l (j - 1)).f0 >= (Xc l j).f0) = True := eq_true (by omega);simp only [h2,if_true,Xm (show 0 < j by omega) (show j < 4611686018427387904 by omega),Xa,h3,Yf,h4];exact Ev.now _
    · simp only [hk]
      exact Ev.now _
theorem Xf (l : List S25) (hl : l.length < 4611686018427387904) : Ev (fun k => impl_AreKeys.f k l) (Xe l) := by
  unfold impl_AreKeys.f Xe;refine Ev.all0 (L := fun k j => impl_AreKeys.l0 k l l (l.length : Int) (j : Int)) (P := X4 l) (n := l.length) ?_ ?_ ?_
  · refine Ev.succ ?_
    simp only [impl_AreKeys.l0,Int.lt_irrefl,if_false];refine Ev.eq (Ev.now _) ?_;rw [decide_eq_decide];omega
  · intro j r hj hP h
    refine Ev.succ ?_;have h1 : ((j : Int) < (l.length : Int)) = True := eq_true (by omega);simp only [X4,Bool.and_eq_true,Bool.or_eq_true,decide_eq_true_eq,V4] at hP;simp only [impl_AreKeys.l0,Yv,Option.bind_some,h1,if_true,Xa,Yf,Xd (show j < 4611686018427387904 by omega),hP.1];by_cases h0 : j = 0
    · subst h0
      exact h
    · have h2 : ((j : Int) > 0) = True := eq_true (by omega)
      have h3 : (((j - 1 : Nat) : Int) < (l.length : Int)) = True := eq_true (by omega);have h4 : ((Xc l j).f0 <= (Xc l (j - 1)).f0) = False := eq_false (by have := hP.2.resolve_left h0;omega);simp only [h2,if_true,Xm (show 0 < j by omega) (show j < 4611686018427387904 by omega),Xa,h3,Yf,h4,if_false];exact h
  · intro j hj hP
    refine Ev.succ ?_;have h1 : ((j : Int) < (l.length : Int)) = True := eq_true (by omega);simp only [X4,V4] at hP;simp only [impl_AreKeys.l0,Yv,Option.bind_some,h1,if_true,Xa,Yf,Xd (show j < 4611686018427387904 by omega)];rcases Bool.eq_false_or_eq_true (Ym (Xc l j).f0 (Xc l j).f1 (Xc l j).f2 (Xc l j).f3 (Xc l j).f4) with hk | hk
    · simp only [hk,if_true]
      simp only [hk,Bool.true_and,Bool.or_eq_false_iff,decide_eq_false_iff_not] at hP;have h2 : ((j : Int) > 0) = True := eq_true (by omega);have h3 : (((j - 1 : Nat) : Int) < (l.length : Int)) = True := eq_true (by omega);have h4 : ((Xc l j).f0 <= (Xc l (j - 1)).f0) = True := eq_true (by omega);simp only [h2,if_true,Xm (show 0 < j by omega) (show j < 4611686018427387904 by omega),Xa,h3,Yf,h4];exact Ev.now _
    · simp only [hk]
      exact Ev.now _
structure Good (l : List S25) : Prop where
  len : l.length <= 15
  key : ∀ i,i < l.length -> (0 <= (Xc l i).f0 ∧ (Xc l i).f0 <= 9999) ∧ (-90 <= (Xc l i).f1 ∧ (Xc l i).f1 <= 180) ∧ (0 <= (Xc l i).f2 ∧ (Xc l i).f2 <= 150) ∧ (-70 <= (Xc l i).f3 ∧ (Xc l i).f3 <= 70) ∧ (0 <= (Xc l i).f4 ∧ (Xc l i).f4 <= 90)
  inc : ∀ i,i + 1 < l.length -> (Xc l i).f0 < (Xc l (i + 1)).f0
theorem Y5 (x : S25) : V4 x = true ↔ (0 <= x.f0 ∧ x.f0 <= 9999) ∧ (-90 <= x.f1 ∧ x.f1 <= 180) ∧ (0 <= x.f2 ∧ x.f2 <= 150) ∧ (-70 <= x.f3 ∧ x.f3 <= 70) ∧ (0 <= x.f4 ∧ x.f4 <= 90) := by
  simp [V4,Ym,Yi]
theorem Xl (l : List S25) : Xe l = true ↔ Good l := by
  unfold Xe
  constructor
  · intro h
    split at h
    · rename_i ha
      have ha' : ∀ i,i < l.length -> X4 l i = true := fun i hi => List.all_eq_true.1 ha i (List.mem_range.2 hi)
      refine ⟨of_decide_eq_true h,fun i hi => ?_,fun i hi => ?_⟩
      · have := ha' i hi
        simp only [X4,Bool.and_eq_true] at this;exact (Y5 _).1 this.1
      · have := ha' (i + 1) hi
        simp only [X4,Bool.and_eq_true,Bool.or_eq_true,decide_eq_true_eq] at this;have h2 := this.2.resolve_left (by omega)
        simpa using h2
    · cases h
  · intro h
    rw [if_pos ?_]
    · exact decide_eq_true h.len
    · refine List.all_eq_true.2 fun i hi => ?_
      have hi := List.mem_range.1 hi;simp only [X4,Bool.and_eq_true,Bool.or_eq_true,decide_eq_true_eq];refine ⟨(Y5 _).2 (h.key i hi),?_⟩;by_cases h0 : i = 0
      · exact .inl h0
      · refine .inr ?_
        have := h.inc (i - 1) (by omega)
        rwa [show i - 1 + 1 = i by omega] at this
theorem Zw {l : List Int} (hu : U8 l) {a : Int} (s : Int) (h0 : 0 <= a) (h1 : a <= 999999999900) (fr : Int) : ∃ x1 x2 x3 x4 a' s',Ev (fun k => spec_l1Cur_key.f k l a s fr) (fr,x1,x2,x3,x4,a',s') ∧ a <= a' ∧ a' <= a + 12 := by
  obtain ⟨y1,a1,s1,e1,_,p1,q1⟩ := Xg hu s h0 (by omega) [0,45,90,(-90),180] (by decide) (by decide);obtain ⟨y2,a2,s2,e2,_,p2,q2⟩ := Xg hu s1 (a := a1) (by omega) (by omega) [0,30,90,150] (by decide) (by decide);obtain ⟨y3,a3,s3,e3,_,p3,q3⟩ := Xg hu s2 (a := a2) (by omega) (by omega) [0,(-20),35,70,(-70)] (by decide) (by decide);obtain ⟨y4,a4,s4,e4,_,p4,q4⟩ := Xg hu s3 (a := a3) (by omega) (by omega) [0,5,45,90] (by decide) (by decide);obtain ⟨n,a5,s5,e5,_,p5,q5⟩ := Xn hu s4 (a := a4) (by omega) (by omega) 60 (by decide) (by decide);unfold spec_l1Cur_key.f;simp only [e1,e2,e3,e4,e5,Option.bind_some];by_cases c0 : n = 0
  · obtain ⟨z,a6,s6,e6,_,p6,q6⟩ := Xg hu s5 (a := a5) (by omega) (by omega) [(-91),181,(-9223372036854775808)] (by decide) (by decide)
    refine ⟨z,y2,y3,y4,a6,s6,?_,by omega,by omega⟩;simp only [eq_true c0,if_true,e6,Option.bind_some];exact Ev.succ (by simp only [spec_l1Cur_key.j0];exact Ev.now _)
  · by_cases c1 : n = 1
    · obtain ⟨z,a6,s6,e6,_,p6,q6⟩ := Xg hu s5 (a := a5) (by omega) (by omega) [(-1),151] (by decide) (by decide)
      refine ⟨y1,z,y3,y4,a6,s6,?_,by omega,by omega⟩;simp only [eq_false c0,if_false,eq_true c1,if_true,e6,Option.bind_some,show ((1 : Int) = 0) = False from eq_false (by decide)];exact Ev.succ (by simp only [spec_l1Cur_key.j0];exact Ev.now _)
    · by_cases c2 : n = 2
      · obtain ⟨z,a6,s6,e6,_,p6,q6⟩ := Xg hu s5 (a := a5) (by omega) (by omega) [(-71),71,(-9223372036854775808)] (by decide) (by decide)
        refine ⟨y1,y2,z,y4,a6,s6,?_,by omega,by omega⟩;simp only [eq_false c0,eq_false c1,if_false,eq_true c2,if_true,e6,Option.bind_some,show ((2 : Int) = 0) = False from eq_false (by decide),show ((2 : Int) = 1) = False from eq_false (by decide)];exact Ev.succ (by simp only [spec_l1Cur_key.j0];exact Ev.now _)
      · by_cases c3 : n = 3
        · obtain ⟨z,a6,s6,e6,_,p6,q6⟩ := Xg hu s5 (a := a5) (by omega) (by omega) [(-1),91] (by decide) (by decide)
          refine ⟨y1,y2,y3,z,a6,s6,?_,by omega,by omega⟩;simp only [eq_false c0,eq_false c1,eq_false c2,if_false,eq_true c3,if_true,e6,Option.bind_some,show ((3 : Int) = 0) = False from eq_false (by decide),show ((3 : Int) = 1) = False from eq_false (by decide),show ((3 : Int) = 2) = False from eq_false (by decide)];exact Ev.succ (by simp only [spec_l1Cur_key.j0];exact Ev.now _)
        · refine ⟨y1,y2,y3,y4,a5,s5,?_,by omega,by omega⟩
          simp only [eq_false c0,eq_false c1,eq_false c2,eq_false c3,if_false];exact Ev.succ (by simp only [spec_l1Cur_key.j0];exact Ev.now _)
theorem Zd {l : List Int} (hu : U8 l) {a : Int} (s : Int) (h0 : 0 <= a) (h1 : a <= 999999999900) : Uq (spec_l1Cur_keyFrame.f l a s) a 6 (fun _ => True) := by
  obtain ⟨n,a1,s1,e1,_,p1,q1⟩ := Xn hu s h0 (by omega) 60 (by decide) (by decide);obtain ⟨y2,a2,s2,e2,_,p2,q2⟩ := Xg hu s1 (a := a1) (by omega) (by omega) [7,(-1),10000] (by decide) (by decide);obtain ⟨y3,a3,s3,e3,_,p3,q3⟩ := Xg hu s2 (a := a2) (by omega) (by omega) [0,3,5,10,n,9999,y2] (by simp) (by simp);unfold spec_l1Cur_keyFrame.f;simp only [e1,e2,e3,Option.bind_some];exact ⟨_,_,_,rfl,trivial,by omega,by omega⟩
theorem Z8 {l : List Int} (hu : U8 l) (x3 : List S25) (b : Bool) {a : Int} (s : Int) (h0 : 0 <= a) (h1 : a <= 999999999000) (hn : x3.length <= 16) (hb : b = true -> 0 < x3.length) : ∃ L a' s',Ev (fun k => spec_l1Cur_keys.j2 k x3 (x3.length : Int) b l a s) (L,a',s') ∧ L.length <= 16 ∧ a <= a' ∧ a' <= a + 4 := by
  cases b with
  | false =>
    refine ⟨x3,a,s,Ev.succ ?_,hn,by omega,by omega⟩;simp only [spec_l1Cur_keys.j2,Bool.false_eq_true,if_false];exact Ev.now _
  | true =>
    have hp := hb rfl;obtain ⟨n,a1,s1,e1,⟨n0,n1⟩,p1,q1⟩ := Xn hu s h0 (by omega) (x3.length : Int) (by omega) (by omega);obtain ⟨y2,a2,s2,e2,_,p2,q2⟩ := Xg hu s1 (a := a1) (by omega) (by omega) [(-1),9999,10000,0] (by decide) (by decide);refine ⟨x3.set n.toNat (⟨y2,(rd_T25 x3 n).f1,(rd_T25 x3 n).f2,(rd_T25 x3 n).f3,(rd_T25 x3 n).f4⟩ : S25),a2,s2,Ev.succ ?_,by rw [List.length_set];exact hn,by omega,by omega⟩;simp only [spec_l1Cur_keys.j2,if_true,e1,e2,Option.bind_some,eq_true n0,eq_true n1];exact Ev.now _
theorem Va {l : List Int} (hu : U8 l) (N : Nat) (hN : N <= 16) : ∀ (d : Nat) (x3 : List S25) (x4 a s : Int),x3.length + d = N -> 0 <= a -> a + 20 * d <= 999999998000 -> ∃ L a' s',Ev (fun k => spec_l1Cur_keys.l0 k x3 x4 (N : Int) l a s) (L,a',s') ∧ L.length <= 16 ∧ a <= a' ∧ a' <= a + 20 * d + 10 := by
  intro d
  induction d with
  | zero =>
    intro x3 x4 a s hd h0 h1;have e : (N : Int) = (x3.length : Int) := by omega
    rw [e];by_cases hp : (x3.length : Int) > 0
    · obtain ⟨b,a1,s1,e1,_,p1,q1⟩ := Y6 hu s h0 (by omega) 24 (by decide) (by decide)
      obtain ⟨L,a',s',hE,hL,r1,r2⟩ := Z8 hu x3 b (a := a1) s1 (by omega) (by omega) (by omega) (fun _ => by omega);refine ⟨L,a',s',Ev.succ ?_,hL,by omega,by omega⟩;simp only [spec_l1Cur_keys.l0,show ((x3.length : Int) < (x3.length : Int)) = False from eq_false (by omega),if_false,eq_true hp,if_true,e1,Option.bind_some];exact hE
    · obtain ⟨L,a',s',hE,hL,r1,r2⟩ := Z8 hu x3 false (a := a) s (by omega) (by omega) (by omega) (fun h => by cases h)
      refine ⟨L,a',s',Ev.succ ?_,hL,by omega,by omega⟩;simp only [spec_l1Cur_keys.l0,show ((x3.length : Int) < (x3.length : Int)) = False from eq_false (by omega),if_false,eq_false hp];exact hE
  | succ d ih =>
    intro x3 x4 a s hd h0 h1;obtain ⟨z1,z2,z3,z4,a1,s1,e1,p1,q1⟩ := Zw hu s h0 (by omega) x4;have hlt : ((x3.length : Int) < (N : Int)) = True := eq_true (by omega);have hsm : (x3.length < 3518437208883) = True := eq_true (by omega);by_cases hp : (x3.length : Int) > 0
    · obtain ⟨b,a2,s2,e2,_,p2,q2⟩ := Y6 hu s1 (a := a1) (by omega) (by omega) 5 (by decide) (by decide)
      obtain ⟨y,a3,s3,e3,_,p3,q3⟩ := Xg hu s2 (a := a2) (by omega) (by omega) [1,5,10,10,25] (by decide) (by decide);cases b with
      | true =>
        have hw : wrap64 ((x3.length : Int) - 1) = ((x3.length - 1 : Nat) : Int) := Xm (by omega) (by omega);obtain ⟨L,a',s',hE,hL,r1,r2⟩ := ih (x3 ++ [(⟨x4,(rd_T25 x3 ((x3.length - 1 : Nat) : Int)).f1,(rd_T25 x3 ((x3.length - 1 : Nat) : Int)).f2,(rd_T25 x3 ((x3.length - 1 : Nat) : Int)).f3,(rd_T25 x3 ((x3.length - 1 : Nat) : Int)).f4⟩ : S25)]) (wrap64 (x4 + y)) a3 s3 (by rw [List.length_append,List.length_singleton];omega) (by omega) (by omega);refine ⟨L,a',s',Ev.succ ?_,hL,by omega,by omega⟩;simp only [spec_l1Cur_keys.l0,hlt,if_true];refine Ev.bind e1 ?_;simp only [if_true,Option.bind_some,eq_true hp,e2,hw,Xa,show (((x3.length - 1 : Nat) : Int) < (x3.length : Int)) = True from eq_true (by omega),hsm,e3];exact hE
      | false =>
        obtain ⟨L,a',s',hE,hL,r1,r2⟩ := ih (x3 ++ [(⟨x4,z1,z2,z3,z4⟩ : S25)]) (wrap64 (x4 + y)) a3 s3 (by rw [List.length_append,List.length_singleton];omega) (by omega) (by omega);refine ⟨L,a',s',Ev.succ ?_,hL,by omega,by omega⟩;simp only [spec_l1Cur_keys.l0,hlt,if_true];refine Ev.bind e1 ?_;simp only [if_true,Option.bind_some,eq_true hp,e2,Bool.false_eq_true,if_false,hsm,e3];exact hE
    · obtain ⟨y,a3,s3,e3,_,p3,q3⟩ := Xg hu s1 (a := a1) (by omega) (by omega) [1,5,10,10,25] (by decide) (by decide)
      obtain ⟨L,a',s',hE,hL,r1,r2⟩ := ih (x3 ++ [(⟨x4,z1,z2,z3,z4⟩ : S25)]) (wrap64 (x4 + y)) a3 s3 (by rw [List.length_append,List.length_singleton];omega) (by omega) (by omega);refine ⟨L,a',s',Ev.succ ?_,hL,by omega,by omega⟩;simp only [spec_l1Cur_keys.l0,hlt,if_true];refine Ev.bind e1 ?_;simp only [if_true,Option.bind_some,eq_false hp,if_false,hsm,e3];exact hE
theorem Y9 {l : List Int} (hu : U8 l) {a : Int} (s : Int) (h0 : 0 <= a) (h1 : a <= 999999997000) : ∃ L a' s',Ev (fun k => spec_l1Cur_keys.f k l a s) (L,a',s') ∧ L.length <= 16 ∧ a <= a' ∧ a' <= a + 400 := by
  obtain ⟨f,a1,s1,e1,_,p1,q1⟩ := Xn hu s h0 (by omega) 5 (by decide) (by decide);obtain ⟨n,a2,s2,e2,⟨n0,n1⟩,p2,q2⟩ := Xn hu s1 (a := a1) (by omega) (by omega) 6 (by decide) (by decide);obtain ⟨b,a3,s3,e3,_,p3,q3⟩ := Y6 hu s2 (a := a2) (by omega) (by omega) 12 (by decide) (by decide);unfold spec_l1Cur_keys.f;simp only [e1,e2,e3,Option.bind_some];cases b with
  | true =>
    obtain ⟨m,a4,s4,e4,⟨m0,m1⟩,p4,q4⟩ := Xn hu s3 (a := a3) (by omega) (by omega) 2 (by decide) (by decide);obtain ⟨N,hN⟩ : ∃ N : Nat,15 + m = (N : Int) := ⟨(15 + m).toNat,by omega⟩;obtain ⟨L,a',s',hE,hL,r1,r2⟩ := Va hu N (by omega) N [] f a4 s4 (by simp) (by omega) (by omega);refine ⟨L,a',s',?_,hL,by omega,by omega⟩;simp only [if_true,e4,Option.bind_some];rw [Xb (by omega) (by omega),hN];refine Ev.succ ?_;simp only [spec_l1Cur_keys.j0];exact hE
  | false =>
    obtain ⟨N,hN⟩ : ∃ N : Nat,n = (N : Int) := ⟨n.toNat,by omega⟩;obtain ⟨L,a',s',hE,hL,r1,r2⟩ := Va hu N (by omega) N [] f a3 s3 (by simp) (by omega) (by omega);refine ⟨L,a',s',?_,hL,by omega,by omega⟩;simp only [Bool.false_eq_true,if_false];rw [hN];refine Ev.succ ?_;simp only [spec_l1Cur_keys.j0];exact hE
theorem Vn (l : List Int) (hl : l.length < 4611686018427387904) : Ev (fun k => laws_qInts.f k l l) true := by
  unfold laws_qInts.f;simp only [if_true];exact Ev.upto (L := fun k j => laws_qInts.l0 k l l (l.length : Int) (j : Int)) (r := true) (n := l.length)
    (by
      refine Ev.succ ?_;simp only [laws_qInts.l0,Int.lt_irrefl,if_false];exact Ev.now _)
    (by
      intro j hj h;refine Ev.succ ?_;simp only [laws_qInts.l0,show ((j : Int) < (l.length : Int)) = True from eq_true (by omega),if_true,Xa,Xd (show j < 4611686018427387904 by omega)];exact h)
    0 (Nat.zero_le _)
theorem V2 (l : List Int) (hl : l.length < 4611686018427387904) (x : Int) : Ev (fun k => laws_qHas.f k l x) (decide (x ∈ l)) := by
  unfold laws_qHas.f;have key : ∀ d j,j + d = l.length -> Ev (fun k => laws_qHas.l0 k x l (l.length : Int) (j : Int)) (decide (x ∈ l.drop j)) := by
    intro d
    induction d with
    | zero =>
      intro j hj;refine Ev.succ ?_;simp only [laws_qHas.l0,show ((j : Int) < (l.length : Int)) = False from eq_false (by omega),if_false];rw [List.drop_of_length_le (by omega)];exact Ev.now _
    | succ d ih =>
      intro j hj;have hlt : j < l.length := by omega
      have e : rd l (j : Int) = l[j] := by
        show l.getD ((j : Int)).toNat 0 = _;rw [Int.toNat_natCast,List.getD_eq_getElem?_getD,List.getElem?_eq_getElem hlt];rfl
      refine Ev.succ ?_;simp only [laws_qHas.l0,show ((j : Int) < (l.length : Int)) = True from eq_true (by omega),if_true,Xa,e,Xd (show j < 4611686018427387904 by omega)];rw [List.drop_eq_getElem_cons hlt];by_cases hx : l[j] = x
      · simp only [eq_true hx,if_true]
        refine Ev.eq (Ev.now _) ?_;rw [hx];simp
      · simp only [eq_false hx,if_false]
        refine Ev.eq (ih (j + 1) (by omega)) ?_;rw [decide_eq_decide,List.mem_cons];exact ⟨.inr,fun h => h.resolve_left (fun h2 => hx h2.symm)⟩
  exact key l.length 0 (by omega)
theorem X6 (l : List S25) (hl : l.length < 4611686018427387904) : Ev (fun k => laws_qKeys.f k l l) true := by
  unfold laws_qKeys.f;simp only [if_true];exact Ev.upto (L := fun k j => laws_qKeys.l0 k l l (l.length : Int) (j : Int)) (r := true) (n := l.length)
    (by
      refine Ev.succ ?_;simp only [laws_qKeys.l0,Int.lt_irrefl,if_false];exact Ev.now _)
    (by
      intro j hj h;refine Ev.succ ?_;simp only [laws_qKeys.l0,show ((j : Int) < (l.length : Int)) = True from eq_true (by omega),if_true,Xa,beq_self_eq_true,Bool.not_true,Bool.or_self,Bool.false_eq_true,if_false,Xd (show j < 4611686018427387904 by omega)];exact h)
    0 (Nat.zero_le _)
def Up (c m : Int) : Int := if Int.tmod c m < 0 then Int.tdiv c m - 1 else Int.tdiv c m
theorem Zs (d n : Int) (hd : -1000 <= d ∧ d <= 1000) (hn : -100000 <= n ∧ n <= 100000) : -100000000 <= d * n ∧ d * n <= 100000000 := by
  have h : (d * n).natAbs <= 1000 * 100000 := by
    rw [Int.natAbs_mul];exact Nat.mul_le_mul (by omega) (by omega)
  omega
theorem Zu (c m : Int) : (Int.tdiv c m).natAbs <= c.natAbs := by
  rw [Int.natAbs_tdiv];exact Nat.div_le_self _ _
def Y3 (p q n m : Int) : Int := p + Up ((q - p) * n) m
theorem Yj (p q fr a b : Int) (hp : -400 <= p ∧ p <= 400) (hq : -400 <= q ∧ q <= 400) (ha : 0 <= a ∧ a <= fr) (hb : fr <= b ∧ b <= 9999) : impl_between.even p q fr a b = Y3 p q (fr - a) (b - a) := by
  have h1 := Zs (q - p) (fr - a) (by omega) (by omega);unfold impl_between.even impl_between.div Y3 Up;rw [Xb (x := q - p) (by omega) (by omega),Xb (x := fr - a) (by omega) (by omega),Xb (x := b - a) (by omega) (by omega),Xb (x := (q - p) * (fr - a)) (by omega) (by omega)];generalize (q - p) * (fr - a) = c at *;have h2 := Zu c (b - a);rw [Xb (x := Int.tdiv c (b - a)) (by omega) (by omega),Xb (x := Int.tdiv c (b - a) - 1) (by omega) (by omega)]
  split <;> rw [Xb (by omega) (by omega)]
def Um (x y : S25) (a : Int) : Int × Int × Int × Int × Int × Bool := (a,Y3 x.f1 y.f1 (a - x.f0) (y.f0 - x.f0),Y3 x.f2 y.f2 (a - x.f0) (y.f0 - x.f0),Y3 x.f3 y.f3 (a - x.f0) (y.f0 - x.f0),Y3 x.f4 y.f4 (a - x.f0) (y.f0 - x.f0),true)
def Yh (l : List S25) (a : Int) : Nat -> Nat -> Int × Int × Int × Int × Int × Bool
  | 0,_ => (0,0,0,0,0,false)
  | d + 1,j => if (Xc l j).f0 = a then ((Xc l j).f0,(Xc l j).f1,(Xc l j).f2,(Xc l j).f3,(Xc l j).f4,true) else if j + 1 < l.length ∧ (Xc l j).f0 < a ∧ a < (Xc l (j + 1)).f0 then Um (Xc l j) (Xc l (j + 1)) a else Yh l a d (j + 1)
theorem Zb {l : List S25} (hG : Good l) (a : Int) : ∀ d j,j + d = l.length -> (0 < j -> (Xc l (j - 1)).f0 ≠ a ∧ ¬ (j < l.length ∧ (Xc l (j - 1)).f0 < a ∧ a < (Xc l j).f0)) -> Ev (fun k => impl_PoseAt.l0 k l a l (l.length : Int) (j : Int)) (Yh l a d j) := by
  have hlen := hG.len;intro d
  induction d with
  | zero =>
    intro j hj _;refine Ev.succ ?_;have h1 : ((j : Int) < (l.length : Int)) = False := eq_false (by omega);simp only [impl_PoseAt.l0,h1,if_false,Yh];exact Ev.now _
  | succ d ih =>
    intro j hj hinv;refine Ev.succ ?_;have h1 : ((j : Int) < (l.length : Int)) = True := eq_true (by omega);simp only [impl_PoseAt.l0,h1,if_true,Xa,Yf,Xd (show j < 4611686018427387904 by omega),Yh,Xy,Option.bind_some];by_cases h2 : (Xc l j).f0 = a
    · simp only [eq_true h2,if_true]
      exact Ev.now _
    · simp only [eq_false h2,if_false]
      have rest : Ev (fun k => impl_PoseAt.l0 k l a l (l.length : Int) ((j + 1 : Nat) : Int)) (if j + 1 < l.length ∧ (Xc l j).f0 < a ∧ a < (Xc l (j + 1)).f0 then Um (Xc l j) (Xc l (j + 1)) a else Yh l a d (j + 1)) := by
        by_cases h3 : j + 1 < l.length ∧ (Xc l j).f0 < a ∧ a < (Xc l (j + 1)).f0
        · rw [if_pos h3]
          obtain ⟨h4,h5,h6⟩ := h3;have hx := hG.key j (by omega);have hy := hG.key (j + 1) (by omega);refine Ev.succ ?_;have g1 : (((j + 1 : Nat) : Int) < (l.length : Int)) = True := eq_true (by omega);have g2 : ((Xc l (j + 1)).f0 = a) = False := eq_false (by omega);have g3 : (((j + 1 : Nat) : Int) > 0) = True := eq_true (by omega);have g4 : Yi a (Xc l j).f0 (Xc l (j + 1)).f0 = true := by simp [Yi];omega
          have g5 : (wrap64 ((Xc l (j + 1)).f0 - (Xc l j).f0) = 0) = False := by rw [Xb (by omega) (by omega)];exact eq_false (by omega)
          simp only [impl_PoseAt.l0,g1,g2,g3,if_true,if_false,Xa,Yf,Xm (show 0 < j + 1 by omega) (show j + 1 < 4611686018427387904 by omega),Nat.add_sub_cancel,h1,Xy,Option.bind_some,g4,impl_between.f,g5];rw [Yj _ _ _ _ _ (by omega) (by omega) (by omega) (by omega),Yj _ _ _ _ _ (by omega) (by omega) (by omega) (by omega),Yj _ _ _ _ _ (by omega) (by omega) (by omega) (by omega),Yj _ _ _ _ _ (by omega) (by omega) (by omega) (by omega)];exact Ev.now _
        · rw [if_neg h3]
          exact ih (j + 1) (by omega) (fun _ => ⟨by simpa using h2,by simpa using h3⟩)
      by_cases h0 : j = 0
      · subst h0
        have g3 : (((0 : Nat) : Int) > 0) = False := eq_false (by omega);simp only [g3,if_false];exact rest
      · have g3 : ((j : Int) > 0) = True := eq_true (by omega)
        have hi := hinv (by omega);have g4 : Yi a (Xc l (j - 1)).f0 (Xc l j).f0 = false := by
          simp only [Yi,decide_eq_false_iff_not];intro h;exact hi.2 ⟨by omega,by omega,by omega⟩
        have g6 : (((j - 1 : Nat) : Int) < (l.length : Int)) = True := eq_true (by omega);simp only [g3,if_true,Xm (show 0 < j by omega) (show j < 4611686018427387904 by omega),Xa,g6,Yf,g4];exact rest
def Zy (l : List S25) (a : Int) : Int × Int × Int × Int × Int × Bool := if Xe l then Yh l a l.length 0 else (0,0,0,0,0,false)
theorem Y0 (l : List S25) (a : Int) (hl : l.length < 4611686018427387904) : Ev (fun k => impl_PoseAt.f k l a) (Zy l a) := by
  unfold impl_PoseAt.f Zy;refine Ev.bind (Xf l hl) ?_;rcases Bool.eq_false_or_eq_true (Xe l) with hg | hg
  · have hG := (Xl l).1 hg
    simp only [hg,if_true];exact Zb hG a _ 0 (by omega) (fun h => by omega)
  · simp only [hg]
    exact Ev.now _
def Zj (l : List S25) : Prop := l.Pairwise fun a b => a.f0 < b.f0
theorem Zi {s t : List S25} (hs : Zj s) (ht : Zj t) (h : ∀ x,x ∈ s ↔ x ∈ t) : s = t := by
  have n1 : s.Nodup := hs.imp (fun h e => by rw [e] at h;exact absurd h (Int.lt_irrefl _));have n2 : t.Nodup := ht.imp (fun h e => by rw [e] at h;exact absurd h (Int.lt_irrefl _));have hp : s.Perm t := (List.perm_ext_iff_of_nodup n1 n2).2 h;exact List.Perm.eq_of_pairwise (le := fun (a b : S25) => a.f0 < b.f0) (fun a b _ _ (h1 : a.f0 < b.f0) (h2 : b.f0 < a.f0) => absurd h1 (by omega)) hs ht hp
def Xz (l : List S25) (k : S25) : List S25 := (l.filter fun x => decide (x.f0 < k.f0)) ++ [k] ++ (l.filter fun x => decide (k.f0 < x.f0))
theorem Yt (l : List S25) (k x : S25) : x ∈ Xz l k ↔ x = k ∨ (x ∈ l ∧ x.f0 ≠ k.f0) := by
  unfold Xz;simp only [List.mem_append,List.mem_filter,List.mem_singleton,decide_eq_true_eq]
  constructor
  · rintro ((⟨h,h2⟩ | h) | ⟨h,h2⟩)
    · exact .inr ⟨h,by omega⟩
    · exact .inl h
    · exact .inr ⟨h,by omega⟩
  · rintro (h | ⟨h,h2⟩)
    · exact .inl (.inr h)
    · rcases Int.lt_or_gt_of_ne h2 with h3 | h3
      · exact .inl (.inl ⟨h,h3⟩)
      · exact .inr ⟨h,h3⟩
theorem Yq {l : List S25} (k : S25) (h : Zj l) : Zj (Xz l k) := by
  unfold Zj Xz;rw [List.pairwise_append,List.pairwise_append];refine ⟨⟨h.sublist List.filter_sublist,List.pairwise_singleton _ _,fun a ha b hb => ?_⟩,h.sublist List.filter_sublist,fun a ha b hb => ?_⟩
  · rw [List.mem_singleton.1 hb]
    exact of_decide_eq_true (List.mem_filter.1 ha).2
  · have h2 := of_decide_eq_true (List.mem_filter.1 hb).2
    rcases List.mem_append.1 ha with ha | ha
    · have h1 := of_decide_eq_true (List.mem_filter.1 ha).2
      omega
    · rw [List.mem_singleton.1 ha];exact h2
theorem Yd (l : List S25) (k : S25) (hi : Zj l) : (Xz l k).length <= l.length + 1 := by
  have h : (Xz l k).Nodup := (Yq k hi).imp (fun h e => by rw [e] at h;exact absurd h (Int.lt_irrefl _));have h2 : (l.filter fun x => decide (x.f0 < k.f0)).length + (l.filter fun x => decide (k.f0 < x.f0)).length <= l.length := by
    clear h hi
    induction l with
    | nil => simp
    | cons x l ih =>
      rw [List.filter_cons,List.filter_cons];by_cases h1 : x.f0 < k.f0
      · have h3 : ¬ k.f0 < x.f0 := by omega
        simp only [h1,h3,decide_true,decide_false,if_true,Bool.false_eq_true,if_false,List.length_cons];omega
      · by_cases h3 : k.f0 < x.f0
        · simp only [h1,h3,decide_true,decide_false,if_true,Bool.false_eq_true,if_false,List.length_cons];omega
        · simp only [h1,h3,decide_false,Bool.false_eq_true,if_false,List.length_cons];omega
  unfold Xz;rw [List.length_append,List.length_append,List.length_singleton];omega
theorem X5 {l : List S25} (h : Xe l = true) : Zj l ∧ l.length <= 15 ∧ ∀ x,x ∈ l -> V4 x = true := by
  unfold Xe at h
  split at h
  · rename_i h1
    have h2 := of_decide_eq_true h;have hk : ∀ i,i < l.length -> X4 l i = true := by simpa using h1
    have hg : ∀ i (hi : i < l.length),Xc l i = l[i] := fun i hi => by unfold Xc;rw [List.getD_eq_getElem?_getD,List.getElem?_eq_getElem hi];rfl
    refine ⟨?_,h2,fun x hx => ?_⟩
    · unfold Zj
      rw [List.pairwise_iff_getElem];intro i j hi hj hij;obtain ⟨d,rfl⟩ : ∃ d,j = i + 1 + d := ⟨j - (i + 1),by omega⟩;clear hij;have step : ∀ i (hi : i + 1 < l.length),(l[i]'(by omega)).f0 < l[i + 1].f0 := fun i hi => by
        have := hk (i + 1) hi;unfold X4 at this;rw [Bool.and_eq_true,Nat.add_sub_cancel,hg (i + 1) hi,hg i (by omega)] at this
        simpa using this.2
      induction d with
      | zero => exact step i hj
      | succ d ih => exact Int.lt_trans (ih (by omega) step) (step (i + 1 + d) hj)
    · obtain ⟨i,hi,rfl⟩ := List.mem_iff_getElem.1 hx
      have := hk i hi;unfold X4 at this;rw [Bool.and_eq_true,hg i hi] at this;exact this.1
  · cases h
def Yx (t : List S25) : List S25 × Bool := if Xe t = true then (t,true) else ([],false)
theorem Za (t : List S25) : (Yx t).1.length <= t.length := by
  unfold Yx
  split
  · exact Nat.le_refl _
  · simp
theorem Uh (l : List S25) (n : Nat) (hn : n <= l.length) (hl : l.length <= 15) (y : S25) (D : List S25) (hD : D.length <= 15) (a b c d e : Int) : Ev (fun k => spec_PutKey.j3 k l (n : Int) (y :: D) true a b c d e) (Yx (l.take n ++ [⟨a,b,c,d,e⟩] ++ D)) := by
  refine Ev.succ ?_;have l1 : (l.take n).length = n := by rw [List.length_take];omega
  have l2 : (l.take n ++ [(⟨a,b,c,d,e⟩ : S25)]).length = n + 1 := by rw [List.length_append,l1,List.length_singleton]
  simp only [spec_PutKey.j3,if_true,List.length_cons,show ((1 : Int) <= ((D.length + 1 : Nat) : Int)) = True from eq_true (by omega),Option.bind_some,List.drop_succ_cons,List.drop_zero,Xa,show ((n : Int) <= (l.length : Int)) = True from eq_true (by omega),Int.toNat_natCast,List.nil_append,List.length_nil,Nat.zero_add,l1,l2,
    show (n < 3518437208883) = True from eq_true (by omega),show (0 + 1 < 3518437208883) = True from eq_true (by omega),show (n + 1 < 3518437208883) = True from eq_true (by omega),show (n + 1 + D.length < 3518437208883) = True from eq_true (by omega)]
  refine Ev.bind (Xk _ (by rw [List.length_append,l2];omega)) ?_;unfold Yx
  split
  · exact Ev.now _
  · exact Ev.now _
theorem Vy (l : List S25) (n : Nat) (hn : n <= l.length) (hl : l.length <= 15) (D : List S25) (hD : D.length <= 15) (a b c d e : Int) : Ev (fun k => spec_PutKey.j3 k l (n : Int) D false a b c d e) (Yx (l.take n ++ [⟨a,b,c,d,e⟩] ++ D)) := by
  refine Ev.succ ?_;have l1 : (l.take n).length = n := by rw [List.length_take];omega
  have l2 : (l.take n ++ [(⟨a,b,c,d,e⟩ : S25)]).length = n + 1 := by rw [List.length_append,l1,List.length_singleton]
  simp only [spec_PutKey.j3,Bool.false_eq_true,if_false,if_true,Option.bind_some,Xa,show ((n : Int) <= (l.length : Int)) = True from eq_true (by omega),Int.toNat_natCast,List.nil_append,List.length_nil,Nat.zero_add,List.length_singleton,l1,l2,
    show (n < 3518437208883) = True from eq_true (by omega),show (0 + 1 < 3518437208883) = True from eq_true (by omega),show (n + 1 < 3518437208883) = True from eq_true (by omega),show (n + 1 + D.length < 3518437208883) = True from eq_true (by omega)]
  refine Ev.bind (Xk _ (by rw [List.length_append,l2];omega)) ?_;unfold Yx
  split
  · exact Ev.now _
  · exact Ev.now _
theorem Z0 (l : List S25) (hi : Zj l) (hl : l.length <= 15) (a b c d e : Int) (n : Nat) (hn : n <= l.length) (h1 : ∀ x,x ∈ l.take n -> x.f0 < a) (h2 : ∀ x,x ∈ l.drop n -> ¬ x.f0 < a) : Ev (fun k => spec_PutKey.j2 k l (n : Int) a b c d e) (Yx (Xz l ⟨a,b,c,d,e⟩)) := by
  have hsplit := List.take_append_drop n l;have hdl : (l.drop n).length <= 15 := by rw [List.length_drop];omega
  have hid : Zj (l.drop n) := hi.sublist (List.drop_sublist _ _);have hit : Zj (l.take n) := hi.sublist (List.take_sublist _ _)
  -- what is made is in order, and holds what Xz holds
  have same : ∀ D : List S25,Zj D -> (∀ x,x ∈ D ↔ x ∈ l.drop n ∧ x.f0 ≠ a) -> l.take n ++ [⟨a,b,c,d,e⟩] ++ D = Xz l ⟨a,b,c,d,e⟩ := by
    intro D hD hm;refine Zi ?_ (Yq _ hi) fun x => ?_
    · unfold Zj
      rw [List.pairwise_append,List.pairwise_append];refine ⟨⟨hit,List.pairwise_singleton _ _,fun x hx y hy => by rw [List.mem_singleton.1 hy];exact h1 x hx⟩,hD,fun x hx y hy => ?_⟩;obtain ⟨y1,y2⟩ := (hm y).1 hy;have y3 := h2 y y1;rcases List.mem_append.1 hx with hx | hx
      · have := h1 x hx;omega
      · rw [List.mem_singleton.1 hx];show a < y.f0;omega
    · rw [Yt,List.mem_append,List.mem_append,List.mem_singleton,hm]
      show _ ↔ x = _ ∨ (x ∈ l ∧ x.f0 ≠ a);rw [<- hsplit,List.mem_append,List.take_append_drop]
      constructor
      · rintro ((h | h) | ⟨h,h3⟩)
        · exact .inr ⟨.inl h,by have := h1 x h;omega⟩
        · exact .inl h
        · exact .inr ⟨.inr h,h3⟩
      · rintro (h | ⟨h | h,h3⟩)
        · exact .inl (.inr h)
        · exact .inl (.inl h)
        · exact .inr ⟨h,h3⟩
  refine Ev.succ ?_;simp only [spec_PutKey.j2,Xa,show ((n : Int) <= (l.length : Int)) = True from eq_true (by omega),if_true,Option.bind_some,Int.toNat_natCast];cases hd : l.drop n with
  | nil =>
    simp only [List.length_nil,Int.natCast_zero,show ((0 : Int) > 0) = False from eq_false (Int.lt_irrefl _),if_false];rw [<- same [] List.Pairwise.nil (fun x => by rw [hd];simp)];exact Vy l n hn hl [] (by simp) a b c d e
  | cons y D =>
    rw [hd] at hdl hid h2 same;obtain ⟨hy,hD⟩ := List.pairwise_cons.1 hid;rw [List.length_cons] at hdl;have hrd : rd_T25 (y :: D) 0 = y := by
      have := Yf (y :: D) 0;exact this
    simp only [List.length_cons,show (((D.length + 1 : Nat) : Int) > 0) = True from eq_true (by omega),show ((0 : Int) < ((D.length + 1 : Nat) : Int)) = True from eq_true (by omega),if_true,hrd];by_cases hq : y.f0 = a
    · rw [beq_iff_eq.2 hq,<- same D hD (fun x => ?_)]
      · exact Uh l n hn hl y D (by omega) a b c d e
      · constructor
        · intro h;exact ⟨List.mem_cons_of_mem _ h,by have := hy x h;omega⟩
        · rintro ⟨h,h3⟩
          rcases List.mem_cons.1 h with rfl | h
          · exact absurd hq h3
          · exact h
    · rw [beq_eq_false_iff_ne.2 hq,<- same (y :: D) hid (fun x => ?_)]
      · exact Vy l n hn hl (y :: D) (by rw [List.length_cons];omega) a b c d e
      · refine ⟨fun h => ⟨h,?_⟩,fun h => h.1⟩
        rcases List.mem_cons.1 h with rfl | h
        · exact hq
        · have h5 := hy x h
          have h6 := h2 y (List.mem_cons_self ..);omega
theorem V7 (l : List S25) (hi : Zj l) (hl : l.length <= 15) (a b c d e : Int) : ∀ m n,n + m = l.length -> (∀ x,x ∈ l.take n -> x.f0 < a) -> Ev (fun k => spec_PutKey.l0 k l (n : Int) a b c d e) (Yx (Xz l ⟨a,b,c,d,e⟩)) := by
  intro m
  induction m with
  | zero =>
    intro n hn h1;refine Ev.succ ?_;simp only [spec_PutKey.l0,show ((n : Int) < (l.length : Int)) = False from eq_false (by omega),if_false];exact Z0 l hi hl a b c d e n (by omega) h1 (by rw [List.drop_of_length_le (by omega)];intro x hx;cases hx)
  | succ m ih =>
    intro n hn h1;have hlt : n < l.length := by omega
    have hk : Xc l n = l[n] := by unfold Xc;rw [List.getD_eq_getElem?_getD,List.getElem?_eq_getElem hlt];rfl
    refine Ev.succ ?_;simp only [spec_PutKey.l0,show ((n : Int) < (l.length : Int)) = True from eq_true (by omega),if_true,Xa,Yf,hk,Xd (show n < 4611686018427387904 by omega)];by_cases h : l[n].f0 < a
    · simp only [eq_true h,if_true]
      refine ih (n + 1) (by omega) (fun x hx => ?_);rw [List.take_succ_eq_append_getElem hlt] at hx;rcases List.mem_append.1 hx with hx | hx
      · exact h1 x hx
      · rw [List.mem_singleton.1 hx];exact h
    · simp only [eq_false h,if_false]
      refine Z0 l hi hl a b c d e n (by omega) h1 (fun x hx => ?_);have hid : Zj (l.drop n) := hi.sublist (List.drop_sublist _ _);rw [List.drop_eq_getElem_cons hlt] at hx hid;rcases List.mem_cons.1 hx with rfl | hx
      · exact h
      · have := (List.pairwise_cons.1 hid).1 x hx
        omega
theorem V3 (l : List S25) (k : S25) (hi : Zj l) (hok : slices_SortFunc_impl_Key.okB ((l.filter fun x => !(decide (x.f0 = k.f0))) ++ [k]) = true) : slices_SortFunc_impl_Key.srt ((l.filter fun x => !(decide (x.f0 = k.f0))) ++ [k]) = Xz l k := by
  have hm : ∀ x,x ∈ (l.filter fun x => !(decide (x.f0 = k.f0))) ++ [k] ↔ x ∈ Xz l k := by
    intro x;rw [Yt,List.mem_append,List.mem_singleton,List.mem_filter];simp only [Bool.not_eq_true',decide_eq_false_iff_not];exact ⟨fun h => h.elim (fun h => .inr h) .inl,fun h => h.elim .inr .inl⟩
  have hd : ((l.filter fun x => !(decide (x.f0 = k.f0))) ++ [k]).Pairwise fun a b => a.f0 ≠ b.f0 := by
    rw [List.pairwise_append];refine ⟨(hi.sublist List.filter_sublist).imp fun h => by omega,List.pairwise_singleton _ _,fun x hx y hy => ?_⟩;rw [List.mem_singleton.1 hy]
    simpa using (List.mem_filter.1 hx).2
  generalize (l.filter fun x => !(decide (x.f0 = k.f0))) ++ [k] = G at hok hm hd ⊢;have hv := slices_SortFunc_impl_Key.sub_val G hok;unfold slices_SortFunc_impl_Key.srt;obtain ⟨_,f2,f3⟩ := Go.Proofs.YtkobnljfoedmnaaDoorW.GSrt.srt_facts (fun (a b : {x : S25 // slices_SortFunc_impl_Key.okp x}) => slices_SortFunc_impl_Key.cf a.1 b.1) slices_SortFunc_impl_Key.swo (slices_SortFunc_impl_Key.sub G);generalize Go.Proofs.YtkobnljfoedmnaaDoorW.GSrt.srt (fun (a b : {x : S25 // slices_SortFunc_impl_Key.okp x}) => slices_SortFunc_impl_Key.cf a.1 b.1) (slices_SortFunc_impl_Key.sub G) = Z at f2 f3 ⊢;have hp : (Z.map (·.1)).Perm G := by
    have := f2.map (·.1);rw [hv] at this;exact this
  refine Zi ?_ (Yq k hi) (fun x => (hp.mem_iff).trans (hm x));have w1 : (Z.map (·.1)).Pairwise fun a b => ¬ b.f0 < a.f0 := by
    rw [List.pairwise_map];refine f3.imp fun h => ?_
    rw [slices_SortFunc_impl_Key.lt] at h;exact of_decide_eq_false h
  have w2 : (Z.map (·.1)).Pairwise fun a b => a.f0 ≠ b.f0 := (hp.pairwise_iff (fun {a b} h => fun e => h e.symm)).2 hd
  exact (w1.and w2).imp fun h => by omega
theorem Vg (l : List S25) (hl : l.length < 3518437208883) : slices_Clone_impl_Key.f l = some l := by
  unfold slices_Clone_impl_Key.f;simp only [Option.bind_some,List.length_nil,Nat.zero_add,List.nil_append];rw [if_pos hl]
def Yc (l : List S25) (a b c d e : Int) : List S25 × Bool := if Xe l && Ym a b c d e then Yx (Xz l ⟨a,b,c,d,e⟩) else ([],false)
theorem Yg (l : List S25) (a b c d e : Int) : (Yc l a b c d e).1.length <= l.length + 1 := by
  unfold Yc
  split
  · rename_i h
    rw [Bool.and_eq_true] at h;exact Nat.le_trans (Za _) (Yd l _ (X5 h.1).1)
  · simp
theorem Zr (l : List S25) (a b c d e : Int) (hl : l.length <= 3518437208780) : Ev (fun k => spec_PutKey.f k l a b c d e) (Yc l a b c d e) := by
  unfold spec_PutKey.f Yc;have bad : Ev (fun k => spec_PutKey.j0 k l true a b c d e) (([],false) : List S25 × Bool) := by
    refine Ev.succ ?_;simp only [spec_PutKey.j0,if_true];exact Ev.now _
  refine Ev.bind (Xk l (by omega)) ?_;rcases Bool.eq_false_or_eq_true (Xe l) with hg | hg
  · simp only [hg,if_true,Bool.true_and,Ys,Option.bind_some]
    rcases Bool.eq_false_or_eq_true (Ym a b c d e) with h2 | h2
    · simp only [h2,Bool.not_true,if_true]
      obtain ⟨g1,g2,_⟩ := X5 hg;refine Ev.succ ?_;simp only [spec_PutKey.j0,Bool.false_eq_true,if_false];exact V7 l g1 g2 a b c d e l.length 0 (by omega) (by simp)
    · simp only [h2,Bool.not_false,Bool.false_eq_true,if_false]
      exact bad
  · simp only [hg,Bool.false_and,Bool.false_eq_true,if_false]
    exact bad
theorem Zt (l : List S25) (a b c d e : Int) (hl : l.length <= 3518437208780) : Ev (fun k => impl_PutKey.f k l a b c d e) (Yc l a b c d e) := by
  unfold impl_PutKey.f Yc;have bad : Ev (fun k => impl_PutKey.j0 k l true a b c d e) (([],false) : List S25 × Bool) := by
    refine Ev.succ ?_;simp only [impl_PutKey.j0,if_true];exact Ev.now _
  refine Ev.bind (Xf l (by omega)) ?_;rcases Bool.eq_false_or_eq_true (Xe l) with hg | hg
  · simp only [hg,if_true,Bool.true_and,Yv,Option.bind_some]
    rcases Bool.eq_false_or_eq_true (Ym a b c d e) with h2 | h2
    · simp only [h2,Bool.not_true,if_true]
      obtain ⟨g1,g2,g3⟩ := X5 hg;have hF : (l.filter fun x => !(decide (x.f0 = a))).length <= 15 := Nat.le_trans (List.length_filter_le _ _) g2;have hok : slices_SortFunc_impl_Key.okB ((l.filter fun x => !(decide (x.f0 = (⟨a,b,c,d,e⟩ : S25).f0))) ++ [⟨a,b,c,d,e⟩]) = true := by
        unfold slices_SortFunc_impl_Key.okB slices_SortFunc_impl_Key.okp;rw [List.all_eq_true];intro x hx;have hx2 : V4 x = true := by
          rcases List.mem_append.1 hx with hx | hx
          · exact g3 x (List.mem_filter.1 hx).1
          · rw [List.mem_singleton.1 hx];exact h2
        have := (Y5 x).1 hx2;exact decide_eq_true ⟨by omega,by omega⟩
      have hs := V3 l ⟨a,b,c,d,e⟩ g1 hok;have hf : slices_SortFunc_impl_Key.f ((l.filter fun x => !(decide (x.f0 = a))) ++ [⟨a,b,c,d,e⟩]) = some (Xz l ⟨a,b,c,d,e⟩) := by
        unfold slices_SortFunc_impl_Key.f;rw [if_pos (by rw [List.length_append,List.length_singleton];omega)];have hok' : slices_SortFunc_impl_Key.okB ((l.filter fun x => !(decide (x.f0 = a))) ++ [⟨a,b,c,d,e⟩]) = true := hok;rw [if_pos hok'];exact congrArg some hs
      refine Ev.succ ?_;simp only [impl_PutKey.j0,Bool.false_eq_true,if_false,Vg l (by omega),Option.bind_some,slices_DeleteFunc_impl_Key.f,List.length_singleton,show ((l.filter fun x => !(decide (x.f0 = a))).length + 1 < 3518437208883) = True from eq_true (by omega),if_true,hf];refine Ev.bind (Xf _ (by have := Yd l ⟨a,b,c,d,e⟩ g1;omega)) ?_;unfold Yx
      split
      · exact Ev.now _
      · exact Ev.now _
    · simp only [h2,Bool.not_false,Bool.false_eq_true,if_false]
      exact bad
  · simp only [hg,Bool.false_and,Bool.false_eq_true,if_false]
    exact bad
def ad (x y : Int) : Int := mx (x - y) (y - x)
theorem Ue (x y : Int) : x <= mx x y ∧ y <= mx x y ∧ (mx x y = x ∨ mx x y = y) := by unfold mx;split <;> omega
theorem Xq (x y : Int) : 0 <= ad x y := by have := Ue (x - y) (y - x);unfold ad;omega
def Vl (a b : S25) : List Int := [ad a.f1 b.f1,ad a.f2 b.f2,ad a.f3 b.f3,ad a.f4 b.f4]
def Uk (x : S25) : Prop := (0 <= x.f0 ∧ x.f0 <= 9999) ∧ (-90 <= x.f1 ∧ x.f1 <= 180) ∧ (0 <= x.f2 ∧ x.f2 <= 150) ∧ (-70 <= x.f3 ∧ x.f3 <= 70) ∧ (0 <= x.f4 ∧ x.f4 <= 90)
theorem Ug (a b c d : Int) : rd [a,b,c,d] (0 : Int) = a := rfl
theorem Ud (a b c d : Int) : rd [a,b,c,d] (1 : Int) = b := rfl
theorem Ub (a b c d : Int) : rd [a,b,c,d] (2 : Int) = c := rfl
theorem Uf (a b c d : Int) : rd [a,b,c,d] (3 : Int) = d := rfl
theorem w1 : wrap64 ((0 : Int) + 1) = 1 := by rw [Xb (by decide) (by decide)];rfl
theorem w2 : wrap64 ((1 : Int) + 1) = 2 := by rw [Xb (by decide) (by decide)];rfl
theorem w3 : wrap64 ((2 : Int) + 1) = 3 := by rw [Xb (by decide) (by decide)];rfl
theorem w4 : wrap64 ((3 : Int) + 1) = 4 := by rw [Xb (by decide) (by decide)];rfl
theorem Yk (x y : Int) (h : -1000 <= x ∧ x <= 1000) (h' : -1000 <= y ∧ y <= 1000) : impl_distance.f x y = some (ad x y) := by
  unfold impl_distance.f ad;rw [Xb (by omega) (by omega),Xb (by omega) (by omega)]
theorem X7 (x y : Int) (h : -1000 <= x ∧ x <= 1000) (h' : -1000 <= y ∧ y <= 1000) : spec_l1Abs.f (wrap64 (x - y)) = some (ad x y) := by
  unfold spec_l1Abs.f spec_l1Most.f ad mx;rw [Xb (x := x - y) (by omega) (by omega),Xb (by omega) (by omega)]
  split <;> split <;> simp <;> omega
theorem Yw (l : List S25) (i : Nat) (hi : i + 1 < l.length) (hl : l.length < 4611686018427387904) (ha : Uk (Xc l i)) (hb : Uk (Xc l (i + 1))) :
    Ev (fun k => impl_partChanges.f k l (i : Int)) (Vl (Xc l i) (Xc l (i + 1))) := by
  obtain ⟨_,a1,a2,a3,a4⟩ := ha;obtain ⟨_,b1,b2,b3,b4⟩ := hb;have h1 : ((i : Int) < (l.length : Int)) = True := eq_true (by omega);have h2 : (((i + 1 : Nat) : Int) < (l.length : Int)) = True := eq_true (by omega);unfold impl_partChanges.f Vl;simp only [Xa,h1,if_true,impl_Key_angles.f,Option.bind_some,Yf,List.length_cons,List.length_nil];refine Ev.succ (Ev.succ (Ev.succ (Ev.succ (Ev.succ ?_))));simp only [impl_partChanges.l0,Xd (show i < 4611686018427387904 by omega),Xa,h2,if_true,impl_Key_angles.f,Option.bind_some,Yf,List.length_cons,List.length_nil,Ug,Ud,Ub,Uf,w1,w2,w3,w4,List.nil_append,List.cons_append,
    Yk _ _ (show -1000 <= (Xc l i).f1 ∧ (Xc l i).f1 <= 1000 by omega) (show -1000 <= (Xc l (i + 1)).f1 ∧ (Xc l (i + 1)).f1 <= 1000 by omega),
    Yk _ _ (show -1000 <= (Xc l i).f2 ∧ (Xc l i).f2 <= 1000 by omega) (show -1000 <= (Xc l (i + 1)).f2 ∧ (Xc l (i + 1)).f2 <= 1000 by omega),
    Yk _ _ (show -1000 <= (Xc l i).f3 ∧ (Xc l i).f3 <= 1000 by omega) (show -1000 <= (Xc l (i + 1)).f3 ∧ (Xc l (i + 1)).f3 <= 1000 by omega),
    Yk _ _ (show -1000 <= (Xc l i).f4 ∧ (Xc l i).f4 <= 1000 by omega) (show -1000 <= (Xc l (i + 1)).f4 ∧ (Xc l (i + 1)).f4 <= 1000 by omega)]
  simp;exact Ev.now _
def Xp (s : Int × Int) (i n : Int) : Int × Int := if n > s.2 then (i,n) else s
def X0 (a b c d : Int) : Int × Int := Xp (Xp (Xp (Xp (0,-1) 0 a) 1 b) 2 c) 3 d
def Zv (x y : S25) : Int × Int := X0 (ad x.f1 y.f1) (ad x.f2 y.f2) (ad x.f3 y.f3) (ad x.f4 y.f4)
theorem Vd (x y : S25) (ha : Uk x) (hb : Uk y) : Ev (fun k => spec_avTurn.f k x.f0 x.f1 x.f2 x.f3 x.f4 y.f0 y.f1 y.f2 y.f3 y.f4) (Zv x y) := by
  obtain ⟨_,a1,a2,a3,a4⟩ := ha;obtain ⟨_,b1,b2,b3,b4⟩ := hb;unfold spec_avTurn.f Zv X0;simp only [spec_avAngles.f,Option.bind_some,List.length_cons,List.length_nil];have e1 := X7 x.f1 y.f1 (by omega) (by omega);have e2 := X7 x.f2 y.f2 (by omega) (by omega);have e3 := X7 x.f3 y.f3 (by omega) (by omega);have e4 := X7 x.f4 y.f4 (by omega) (by omega);generalize ad x.f1 y.f1 = p1 at *;generalize ad x.f2 y.f2 = p2 at *;generalize ad x.f3 y.f3 = p3 at *;generalize ad x.f4 y.f4 = p4 at *;have step : ∀ (s : Int × Int) (i : Int) (n : Int) (g : Nat -> Int × Int -> Option (Int × Int)) (r : Int × Int),Ev (fun k => g k (Xp s i n)) r -> Ev (fun k => if n > s.2 then g k (i,n) else g k s) r := by
    intro s i n g r h;unfold Xp at h;by_cases hc : n > s.2
    · simpa only [eq_true hc,if_true] using h
    · simpa only [eq_false hc,if_false] using h
  refine Ev.succ ?_;simp only [spec_avTurn.l0,List.length_cons,List.length_nil,Ug,e1,Option.bind_some,w1];refine step (0,-1) 0 p1 (fun k s => spec_avTurn.l0 k [x.f1,x.f2,x.f3,x.f4] [y.f1,y.f2,y.f3,y.f4] s.1 s.2 _ 1) _ ?_;refine Ev.succ ?_;simp only [spec_avTurn.l0,List.length_cons,List.length_nil,Ud,e2,Option.bind_some,w2];refine step (Xp (0,-1) 0 p1) 1 p2 (fun k s => spec_avTurn.l0 k [x.f1,x.f2,x.f3,x.f4] [y.f1,y.f2,y.f3,y.f4] s.1 s.2 _ 2) _ ?_;refine Ev.succ ?_;simp only [spec_avTurn.l0,List.length_cons,List.length_nil,Ub,e3,Option.bind_some,w3];refine step (Xp (Xp (0,-1) 0 p1) 1 p2) 2 p3 (fun k s => spec_avTurn.l0 k [x.f1,x.f2,x.f3,x.f4] [y.f1,y.f2,y.f3,y.f4] s.1 s.2 _ 3) _ ?_;refine Ev.succ ?_;simp only [spec_avTurn.l0,List.length_cons,List.length_nil,Uf,e4,Option.bind_some,w4];refine step (Xp (Xp (Xp (0,-1) 0 p1) 1 p2) 2 p3) 3 p4 (fun k s => spec_avTurn.l0 k [x.f1,x.f2,x.f3,x.f4] [y.f1,y.f2,y.f3,y.f4] s.1 s.2 _ 4) _ ?_;refine Ev.succ ?_;simp only [spec_avTurn.l0];exact Ev.now _
def Y1 (x y : S25) : Int := Lib.maxOf (Vl x y)
theorem Zx (a b c d : Int) (ha : 0 <= a) (hb : 0 <= b) (hc : 0 <= c) (hd : 0 <= d) :
    (X0 a b c d).2 = Lib.maxOf [a,b,c,d] ∧ 0 <= (X0 a b c d).1 ∧ (X0 a b c d).1 <= 3 ∧
    (if Lib.maxOf [a,b,c,d] = a then (X0 a b c d).1 = 0 else if Lib.maxOf [a,b,c,d] = b then (X0 a b c d).1 = 1 else if Lib.maxOf [a,b,c,d] = c then (X0 a b c d).1 = 2 else (X0 a b c d).1 = 3) ∧ (Lib.maxOf [a,b,c,d] = a ∨ Lib.maxOf [a,b,c,d] = b ∨ Lib.maxOf [a,b,c,d] = c ∨ Lib.maxOf [a,b,c,d] = d) := by
  have e : Lib.maxOf [a,b,c,d] = max (max (max (max a a) b) c) d := rfl;rw [e];unfold X0 Xp;by_cases h1 : b > a <;> by_cases h2 : c > b <;> by_cases h3 : c > a <;> by_cases h4 : d > c <;> by_cases h5 : d > b <;> by_cases h6 : d > a <;>
    first
    | (exfalso;omega)
    | (have h7 : max (max (max (max a a) b) c) d = d := by omega
       rw [h7];simp [show a > -1 by omega,h1,h2,h3,h4,h5,h6]
       done)
    | (have h7 : max (max (max (max a a) b) c) d = d := by omega
       rw [h7];simp [show a > -1 by omega,h1,h2,h3,h4,h5,h6];omega)
    | (have h7 : max (max (max (max a a) b) c) d = c := by omega
       rw [h7];simp [show a > -1 by omega,h1,h2,h3,h4,h5,h6]
       done)
    | (have h7 : max (max (max (max a a) b) c) d = c := by omega
       rw [h7];simp [show a > -1 by omega,h1,h2,h3,h4,h5,h6];omega)
    | (have h7 : max (max (max (max a a) b) c) d = b := by omega
       rw [h7];simp [show a > -1 by omega,h1,h2,h3,h4,h5,h6]
       done)
    | (have h7 : max (max (max (max a a) b) c) d = b := by omega
       rw [h7];simp [show a > -1 by omega,h1,h2,h3,h4,h5,h6];omega)
    | (have h7 : max (max (max (max a a) b) c) d = a := by omega
       rw [h7];simp [show a > -1 by omega,h1,h2,h3,h4,h5,h6]
       done)
    | (have h7 : max (max (max (max a a) b) c) d = a := by omega
       rw [h7];simp [show a > -1 by omega,h1,h2,h3,h4,h5,h6];omega)
def sp (l : List S25) (i : Nat) : Int := (Y1 (Xc l i) (Xc l (i + 1)) + ((Xc l (i + 1)).f0 - (Xc l i).f0) - 1) / ((Xc l (i + 1)).f0 - (Xc l i).f0)
theorem Xx (x y : S25) (ha : Uk x) (hb : Uk y) : 0 <= Y1 x y ∧ Y1 x y <= 270 := by
  obtain ⟨_,a1,a2,a3,a4⟩ := ha;obtain ⟨_,b1,b2,b3,b4⟩ := hb;have e : Y1 x y = max (max (max (max (ad x.f1 y.f1) (ad x.f1 y.f1)) (ad x.f2 y.f2)) (ad x.f3 y.f3)) (ad x.f4 y.f4) := rfl;rw [e];have h1 : 0 <= ad x.f1 y.f1 ∧ ad x.f1 y.f1 <= 270 := by unfold ad mx;split <;> omega
  have h2 : 0 <= ad x.f2 y.f2 ∧ ad x.f2 y.f2 <= 270 := by unfold ad mx;split <;> omega
  have h3 : 0 <= ad x.f3 y.f3 ∧ ad x.f3 y.f3 <= 270 := by unfold ad mx;split <;> omega
  have h4 : 0 <= ad x.f4 y.f4 ∧ ad x.f4 y.f4 <= 270 := by unfold ad mx;split <;> omega
  omega
theorem Vz (x y : S25) : (Zv x y).2 = Y1 x y := (Zx _ _ _ _ (Xq _ _) (Xq _ _) (Xq _ _) (Xq _ _)).1
theorem Vs {a b : Int} (ha : 0 <= a) : Int.tdiv a b = a / b := Int.tdiv_eq_ediv_of_nonneg ha
theorem Ye (m f : Int) (hm : 0 <= m ∧ m <= 270) (hf : 0 < f ∧ f <= 9999) : wrap64 (Int.tdiv (wrap64 (wrap64 (m + f) - 1)) f) = (m + f - 1) / f := by
  rw [Xb (x := m + f) (by omega) (by omega),Xb (x := m + f - 1) (by omega) (by omega),Vs (by omega)];have h1 : 0 <= (m + f - 1) / f := Int.ediv_nonneg (by omega) (by omega);have h2 : (m + f - 1) / f <= m + f - 1 := Int.ediv_le_self _ (by omega);exact Xb (by omega) (by omega)
theorem Vu {l : List S25} (hg : Good l) (i : Nat) (hi : i + 1 < l.length) : Ev (fun k => impl_speed.f k l (i : Int)) (sp l i) := by
  have hlen := hg.len;have h1 : ((i : Int) < (l.length : Int)) = True := eq_true (by omega);have h2 : (((i + 1 : Nat) : Int) < (l.length : Int)) = True := eq_true (by omega);have ha := hg.key i (by omega);have hb := hg.key (i + 1) hi;have hc := hg.inc i hi;have hd := Xx _ _ ha hb;have he : wrap64 ((Xc l (i + 1)).f0 - (Xc l i).f0) = (Xc l (i + 1)).f0 - (Xc l i).f0 := Xb (by omega) (by omega);unfold impl_speed.f;simp only [Xd (show i < 4611686018427387904 by omega),Xa,h1,h2,if_true];refine Ev.bind (Yw l i hi (by omega) ha hb) ?_;have hmax : slices_Max_int.f (Vl (Xc l i) (Xc l (i + 1))) = some (Y1 (Xc l i) (Xc l (i + 1))) := by
    unfold slices_Max_int.f Vl Y1;simp [Vl]
  simp only [hmax,Option.bind_some,Yf,he,show ((Xc l (i + 1)).f0 - (Xc l i).f0 = 0) = False from eq_false (by omega),if_false,Ye _ _ hd (show 0 < (Xc l (i + 1)).f0 - (Xc l i).f0 ∧ (Xc l (i + 1)).f0 - (Xc l i).f0 <= 9999 by omega)];exact Ev.now _
theorem Zp {l : List S25} (hg : Good l) (i : Nat) (hi : i + 1 < l.length) : Ev (fun k => spec_avSpeed.f k l (i : Int)) (sp l i) := by
  have hlen := hg.len;have h1 : ((i : Int) < (l.length : Int)) = True := eq_true (by omega);have h2 : (((i + 1 : Nat) : Int) < (l.length : Int)) = True := eq_true (by omega);have ha := hg.key i (by omega);have hb := hg.key (i + 1) hi;have hc := hg.inc i hi;have hd := Xx _ _ ha hb;have he : wrap64 ((Xc l (i + 1)).f0 - (Xc l i).f0) = (Xc l (i + 1)).f0 - (Xc l i).f0 := Xb (by omega) (by omega);unfold spec_avSpeed.f;simp only [Xd (show i < 4611686018427387904 by omega),Xa,h1,h2,if_true,Yf];refine Ev.bind (Vd _ _ ha hb) ?_;simp only [Vz,he,show ((Xc l (i + 1)).f0 - (Xc l i).f0 = 0) = False from eq_false (by omega),if_false,Ye _ _ hd (show 0 < (Xc l (i + 1)).f0 - (Xc l i).f0 ∧ (Xc l (i + 1)).f0 - (Xc l i).f0 <= 9999 by omega)];exact Ev.now _
theorem Zh (l : List S25) (hl : l.length < 3518437208883) : slices_Clone_impl_Key.f l = some l := by
  unfold slices_Clone_impl_Key.f;simp [hl]
def Zn (x : S25) : S25 := ⟨x.f0,x.f1,x.f2,wrap64 (-x.f3),x.f4⟩
def Z3 (t : Int) (x : S25) : S25 := ⟨wrap64 (x.f0 * t),x.f1,x.f2,x.f3,x.f4⟩
theorem Z4 {β : Type} (f : S25 -> S25) (l : List S25) (L : Nat -> List S25 -> Int -> Option β) (r : β)
    (hstep : ∀ j,j < l.length -> ∀ k,L (k + 1) ((l.map f).take j) (j : Int) = L k ((l.map f).take j ++ [f (Xc l j)]) ((j + 1 : Nat) : Int))
    (hend : Ev (fun k => L k (l.map f) (l.length : Int)) r) : Ev (fun k => L k [] 0) r := by
  have key := Ev.upto (L := fun k j => L k ((l.map f).take j) (j : Int)) (n := l.length) (r := r)
    (by rw [List.take_of_length_le (by simp)];exact hend)
    (by
      intro j hj h;refine Ev.succ ?_;simp only [hstep j hj];have e : (l.map f).take j ++ [f (Xc l j)] = (l.map f).take (j + 1) := by
        rw [List.take_succ_eq_append_getElem (by simpa using hj)];simp [Xc,List.getD_eq_getElem?_getD,List.getElem?_eq_getElem hj]
      rw [e];exact h)
    0 (Nat.zero_le _)
  simpa using key
theorem Zz {β : Type} (f : S25 -> S25) (l : List S25) (L : Nat -> List S25 -> Int -> Option β) (r : β)
    (hstep : ∀ j,j < l.length -> ∀ k (s : List S25),s.length = l.length -> Xc s j = Xc l j -> L (k + 1) s (j : Int) = L k (s.set j (f (Xc l j))) ((j + 1 : Nat) : Int))
    (hend : Ev (fun k => L k (l.map f) (l.length : Int)) r) : Ev (fun k => L k l 0) r := by
  have key := Ev.upto (L := fun k j => L k ((l.map f).take j ++ l.drop j) (j : Int)) (n := l.length) (r := r)
    (by rw [List.take_of_length_le (by simp),List.drop_length,List.append_nil];exact hend)
    (by
      intro j hj h;refine Ev.succ ?_;have hlen : ((l.map f).take j ++ l.drop j).length = l.length := by simp;omega
      have hk : Xc ((l.map f).take j ++ l.drop j) j = Xc l j := by
        unfold Xc;rw [List.getD_eq_getElem?_getD,List.getElem?_append_right (by simp;omega)];simp [Nat.min_eq_left (Nat.le_of_lt hj),List.getD_eq_getElem?_getD]
      simp only [hstep j hj _ _ hlen hk];have e : ((l.map f).take j ++ l.drop j).set j (f (Xc l j)) = (l.map f).take (j + 1) ++ l.drop (j + 1) := by
        rw [List.set_append_right _ _ (by simp;omega)];have e2 : j - ((l.map f).take j).length = 0 := by simp;omega
        rw [e2,List.drop_eq_getElem_cons hj,List.set_cons_zero,List.take_succ_eq_append_getElem (by simpa using hj)];simp [Xc,List.getD_eq_getElem?_getD,List.getElem?_eq_getElem hj]
      rw [e];exact h)
    0 (Nat.zero_le _)
  simpa using key
def Vk (l : List S25) (t : Int) : List S25 × Bool := if Xe (l.map (Z3 t)) then (l.map (Z3 t),true) else ([],false)
def Xw (l : List S25) (t : Int) : List S25 × Bool := if Xe l && Yi t 1 20 then Vk l t else ([],false)
theorem Y8 (l : List S25) (t : Int) (hl : l.length <= 3518437208780) : Ev (fun k => spec_avStretch.f k l t) (Vk l t) := by
  unfold spec_avStretch.f;refine Z4 (Z3 t) l (fun k s j => spec_avStretch.l0 k t s l (l.length : Int) j) _ ?_ ?_
  · intro j hj k
    have h1 : ((j : Int) < (l.length : Int)) = True := eq_true (by omega);have h2 : (((l.map (Z3 t)).take j).length < 3518437208883) = True := eq_true (by simp;omega);simp only [spec_avStretch.l0,h1,if_true,Xa,h2,Yf,Xd (show j < 4611686018427387904 by omega)];rfl
  · refine Ev.succ ?_
    simp only [spec_avStretch.l0,Int.lt_irrefl,if_false];refine Ev.bind (Xk _ (by simp;omega)) ?_;unfold Vk;rcases Bool.eq_false_or_eq_true (Xe (l.map (Z3 t))) with hg | hg <;> simp only [hg] <;> exact Ev.now _
theorem Yp (l : List S25) (t : Int) (hl : l.length <= 3518437208780) : Ev (fun k => impl_StretchKeys.f k l t) (Xw l t) := by
  unfold impl_StretchKeys.f Xw;refine Ev.bind (Xf l (by omega)) ?_;rcases Bool.eq_false_or_eq_true (Xe l) with hg | hg
  · simp only [hg,if_true,Xy,Option.bind_some]
    refine Ev.succ ?_;rcases Bool.eq_false_or_eq_true (Yi t 1 20) with hm | hm
    · simp only [impl_StretchKeys.j0,hm,Zh l (by omega),Option.bind_some]
      refine Zz (Z3 t) l (fun k s j => impl_StretchKeys.l0 k t s (l.length : Int) j) _ ?_ ?_
      · intro j hj k s hs hk
        have h1 : ((j : Int) < (l.length : Int)) = True := eq_true (by omega);simp only [impl_StretchKeys.l0,h1,if_true,Xa,Yf,hs,hk,Int.toNat_natCast,Xd (show j < 4611686018427387904 by omega)];rfl
      · refine Ev.succ ?_
        simp only [impl_StretchKeys.l0,Int.lt_irrefl,if_false];refine Ev.bind (Xf _ (by simp;omega)) ?_;simp only [Bool.true_and,if_true,Vk];rcases Bool.eq_false_or_eq_true (Xe (l.map (Z3 t))) with hg2 | hg2 <;> simp only [hg2] <;> exact Ev.now _
    · simp only [impl_StretchKeys.j0,hm]
      exact Ev.now _
  · simp only [hg]
    refine Ev.succ ?_;simp only [impl_StretchKeys.j0];exact Ev.now _
theorem Zf (l : List S25) (t : Int) : (Xw l t).1.length <= l.length := by
  unfold Xw Vk
  split
  · split <;> simp
  · simp
def Xu (l : List S25) : List S25 × Bool := if Xe l then (l.map Zn,true) else ([],false)
theorem Yy (l : List S25) (hl : l.length <= 3518437208780) : Ev (fun k => spec_MirrorKeys.f k l) (Xu l) := by
  unfold spec_MirrorKeys.f Xu;refine Ev.bind (Xk l (by omega)) ?_;rcases Bool.eq_false_or_eq_true (Xe l) with hg | hg
  · simp only [hg,if_true]
    refine Z4 Zn l (fun k s j => spec_MirrorKeys.l0 k s l (l.length : Int) j) _ ?_ ?_
    · intro j hj k
      have h1 : ((j : Int) < (l.length : Int)) = True := eq_true (by omega);have h2 : (((l.map Zn).take j).length < 3518437208883) = True := eq_true (by simp;omega);simp only [spec_MirrorKeys.l0,h1,if_true,Xa,h2,Yf,Xd (show j < 4611686018427387904 by omega)];rfl
    · refine Ev.succ ?_
      simp only [spec_MirrorKeys.l0,Int.lt_irrefl,if_false];exact Ev.now _
  · simp only [hg]
    exact Ev.now _
theorem X1 (l : List S25) (hl : l.length <= 3518437208780) : Ev (fun k => impl_MirrorKeys.f k l) (Xu l) := by
  unfold impl_MirrorKeys.f Xu;refine Ev.bind (Xf l (by omega)) ?_;rcases Bool.eq_false_or_eq_true (Xe l) with hg | hg
  · simp only [hg,if_true,Zh l (by omega),Option.bind_some]
    refine Zz Zn l (fun k s j => impl_MirrorKeys.l0 k s (l.length : Int) j) _ ?_ ?_
    · intro j hj k s hs hk
      have h1 : ((j : Int) < (l.length : Int)) = True := eq_true (by omega);simp only [impl_MirrorKeys.l0,h1,if_true,Xa,Yf,hs,hk,Int.toNat_natCast,Xd (show j < 4611686018427387904 by omega)];rfl
    · refine Ev.succ ?_
      simp only [impl_MirrorKeys.l0,Int.lt_irrefl,if_false];exact Ev.now _
  · simp only [hg]
    exact Ev.now _
theorem Zk (l : List S25) : (Xu l).1.length <= l.length := by
  unfold Xu
  split <;> simp
theorem Vo {l : List S25} (h : l.length < 4611686018427387904) : wrap64 ((l.length : Int) - 1) = (l.length : Int) - 1 := Xb (by omega) (by omega)
def Xj (l : List S25) (j : Nat) : List Int := ((List.range j).filter fun i => decide (sp l i = 0)).map fun i : Nat => (i : Int)
theorem Yo (l : List S25) (j : Nat) : Xj l (j + 1) = if sp l j = 0 then Xj l j ++ [(j : Int)] else Xj l j := by
  unfold Xj;rw [List.range_succ,List.filter_append]
  split <;> rename_i h <;> simp [h]
theorem Xo (l : List S25) (j : Nat) : (Xj l j).length <= j := by
  unfold Xj;rw [List.length_map];exact Nat.le_trans (List.length_filter_le _ _) (by simp)
theorem Zc {l : List S25} (hg : Good l) : Ev (fun k => spec_HeldParts.l0 k l [] 0) (Xj l (l.length - 1),true) := by
  have hlen := hg.len;have key := Ev.upto (L := fun k j => spec_HeldParts.l0 k l (Xj l j) (j : Int)) (n := l.length - 1) (r := (Xj l (l.length - 1),true))
    (by
      refine Ev.succ ?_;have h1 : (((l.length - 1 + 1 : Nat) : Int) < (l.length : Int)) = False := eq_false (by omega);simp only [spec_HeldParts.l0,Xd (show l.length - 1 < 4611686018427387904 by omega),h1,if_false];exact Ev.now _)
    (by
      intro j hj h;refine Ev.succ ?_;have h1 : (((j + 1 : Nat) : Int) < (l.length : Int)) = True := eq_true (by omega);have h2 : ((Xj l j).length < 17592186044416) = True := eq_true (by have := Xo l j;omega);simp only [spec_HeldParts.l0,Xd (show j < 4611686018427387904 by omega),h1,if_true,h2];refine Ev.bind (Zp hg j (by omega)) ?_;rw [Yo] at h;by_cases hc : sp l j = 0
      · rw [if_pos hc] at h
        simp only [eq_true hc,if_true];exact h
      · rw [if_neg hc] at h
        simp only [eq_false hc,if_false];exact h)
    0 (Nat.zero_le _)
  simpa [Xj] using key
theorem Ze {l : List S25} (hg : Good l) : Ev (fun k => impl_HeldParts.l0 k l [] (wrap64 ((l.length : Int) - 1)) 0) (Xj l (l.length - 1),true) := by
  have hlen := hg.len;rw [Vo (by omega)];have key := Ev.upto (L := fun k j => impl_HeldParts.l0 k l (Xj l j) ((l.length : Int) - 1) (j : Int)) (n := l.length - 1) (r := (Xj l (l.length - 1),true))
    (by
      refine Ev.succ ?_;have h1 : (((l.length - 1 : Nat) : Int) < (l.length : Int) - 1) = False := eq_false (by omega);simp only [impl_HeldParts.l0,h1,if_false];exact Ev.now _)
    (by
      intro j hj h;refine Ev.succ ?_;have h1 : ((j : Int) < (l.length : Int) - 1) = True := eq_true (by omega);have h2 : ((Xj l j).length < 17592186044416) = True := eq_true (by have := Xo l j;omega);simp only [impl_HeldParts.l0,Xd (show j < 4611686018427387904 by omega),h1,if_true,h2];refine Ev.bind (Vu hg j (by omega)) ?_;rw [Yo] at h;by_cases hc : sp l j = 0
      · rw [if_pos hc] at h
        simp only [eq_true hc,if_true];exact h
      · rw [if_neg hc] at h
        simp only [eq_false hc,if_false];exact h)
    0 (Nat.zero_le _)
  simpa [Xj] using key
def Xs (l : List S25) : List Int × Bool := if Xe l then (Xj l (l.length - 1),true) else ([],false)
theorem Yb (l : List S25) (hl : l.length < 4611686018427387904) : Ev (fun k => spec_HeldParts.f k l) (Xs l) := by
  unfold spec_HeldParts.f Xs;refine Ev.bind (Xk l hl) ?_;rcases Bool.eq_false_or_eq_true (Xe l) with hg | hg
  · simp only [hg,if_true]
    exact Zc ((Xl l).1 hg)
  · simp only [hg]
    exact Ev.now _
theorem Ya (l : List S25) (hl : l.length < 4611686018427387904) : Ev (fun k => impl_HeldParts.f k l) (Xs l) := by
  unfold impl_HeldParts.f Xs;refine Ev.bind (Xf l hl) ?_;rcases Bool.eq_false_or_eq_true (Xe l) with hg | hg
  · simp only [hg,if_true]
    exact Ze ((Xl l).1 hg)
  · simp only [hg]
    exact Ev.now _
theorem Y7 (l : List S25) : (Xs l).1.length <= l.length := by
  unfold Xs
  split
  · have := Xo l (l.length - 1)
    show (Xj l (l.length - 1)).length <= _;omega
  · simp
def Vm (u : Nat) : ByteArray := ⟨(Go.Lib.decDigits u).toArray⟩
theorem V9 (u : Nat) : (Go.Lib.decDigits u).length <= u + 1 := by
  induction u using Nat.strongRecOn with
  | _ u ih =>
    rw [Go.Lib.decDigits]
    split
    · simp
    · rename_i h
      have := ih (u / 10) (by omega);rw [List.length_append,List.length_singleton];omega
theorem X8 (u : Nat) : (Vm u).size <= u + 1 := by
  have := V9 u;unfold Vm;show (Go.Lib.decDigits u).toArray.size <= u + 1
  simpa using this
theorem Z5 {u : Nat} (h : u < 10) : strOfNums [(wrap64 (48 + (u : Int))) % 256] = ⟨#[UInt8.ofNat (48 + u)]⟩ := by
  have e : (wrap64 (48 + (u : Int))) % 256 = ((48 + u : Nat) : Int) := by
    rw [Xb (by omega) (by omega)];omega
  rw [e];rfl
theorem Yn (u : Nat) (hu : u <= 1099511627776) : Ev (fun k => spec_l1Num.f k (u : Int)) (Vm u) := by
  induction u using Nat.strongRecOn with
  | _ u ih =>
    refine Ev.succ ?_;by_cases h : u < 10
    · simp only [spec_l1Num.f,show ((u : Int) < 10) = True from eq_true (by omega),if_true]
      refine Ev.eq (Ev.now _) ?_;rw [Z5 h];unfold Vm;rw [Go.Lib.decDigits,dif_pos h]
    · have e1 : wrap64 (Int.tdiv (u : Int) 10) = ((u / 10 : Nat) : Int) := by
        rw [Int.tdiv_eq_ediv_of_nonneg (by omega),Xb (by omega) (by omega)];omega
      have e2 : Int.tmod (u : Int) 10 = ((u % 10 : Nat) : Int) := by
        rw [Int.tmod_eq_emod_of_nonneg (by omega)];omega
      have h3 : u % 10 < 10 := Nat.mod_lt _ (by decide);simp only [spec_l1Num.f,show ((u : Int) < 10) = False from eq_false (by omega),if_false,e1,e2];refine Ev.bind (ih (u / 10) (by omega) (by omega)) ?_;have hs := X8 (u / 10);simp only [Option.bind_some,Z5 h3];have h4 : ((Vm (u / 10)).size + (⟨#[UInt8.ofNat (48 + u % 10)]⟩ : ByteArray).size <= 9223372036854775807) = True := eq_true (by
        show (Vm (u / 10)).size + 1 <= _;omega)
      simp only [h4,if_true];refine Ev.eq (Ev.now _) ?_;unfold Vm;rw [Go.Lib.decDigits.eq_1 u,dif_neg h];apply ByteArray.ext;simp
theorem Ui {a b : ByteArray} (h : a.data.toList = b.data.toList) : a = b := by
  cases a;cases b
  congr 1
  exact Array.toList_inj.1 h
def Xh (n : Int) : ByteArray := if n < 0 then (⟨#[45]⟩ : ByteArray) ++ Vm n.natAbs else Vm n.toNat
theorem Xi {n : Int} (h1 : -200 <= n) (h2 : n <= 10000) : (Xh n).size <= 20000 := by
  have l1 : (⟨#[45]⟩ : ByteArray).size = 1 := rfl;have hs1 := X8 n.natAbs;have hs2 := X8 n.toNat;unfold Xh
  split
  · rw [ByteArray.size_append,l1];omega
  · omega
theorem Zl {n : Int} (h1 : -200 <= n) (h2 : n <= 10000) : Ev (fun k => spec_l1Int.f k n) (Xh n) := by
  unfold spec_l1Int.f Xh;by_cases h : n < 0
  · simp only [eq_true h,if_true]
    have e : wrap64 (-n) = ((n.natAbs : Nat) : Int) := by rw [Xb (by omega) (by omega)];omega
    rw [e];refine Ev.bind (Yn n.natAbs (by omega)) ?_;have hs1 := X8 n.natAbs;simp only [show (1 + (Vm n.natAbs).size <= 9223372036854775807) = True from eq_true (by omega),if_true];exact Ev.now _
  · simp only [eq_false h,if_false]
    have e : n = ((n.toNat : Nat) : Int) := by omega
    have k := Yn n.toNat (by omega);rw [<- e] at k;refine Ev.bind k ?_;exact Ev.now _
theorem Zg {n : Int} (h1 : -200 <= n) (h2 : n <= 10000) : strconv_Itoa.f n = some (Xh n) := by
  unfold strconv_Itoa.f Xh Vm Go.Lib.itoa;rw [if_pos ⟨by omega,by omega⟩];by_cases h : n < 0
  · rw [if_pos h,if_pos h]
    refine congrArg some (Ui ?_);simp
  · rw [if_neg h,if_neg h]
def com : ByteArray := ⟨#[44]⟩
theorem V0 : (⟨#[44]⟩ : ByteArray) = com := rfl
theorem X3 : com.size = 1 := rfl
def Xt (a b c d : Int) : ByteArray := Xh a ++ (com ++ (Xh b ++ (com ++ (Xh c ++ (com ++ Xh d)))))
def Zm (x : S25) : ByteArray := ((Xh x.f0 ++ (⟨#[58]⟩ : ByteArray)) ++ Xt x.f1 x.f2 x.f3 x.f4) ++ (⟨#[59]⟩ : ByteArray)
def Y4 : List S25 -> ByteArray -> ByteArray
  | [],t => t
  | x :: l,t => Y4 l (t ++ Zm x)
theorem Vi (a b c d : Int) : strings_Join.f [Xh a,Xh b,Xh c,Xh d] com = (if (Xt a b c d).size <= 140737488355328 then some (Xt a b c d) else none) := by
  have e : Go.Lib.join ([Xh a,Xh b,Xh c,Xh d].map (·.data.toList)) com.data.toList = (Xt a b c d).data.toList := by
    simp only [List.map_cons,List.map_nil];rw [Go.Lib.join_cons];unfold Go.Lib.joinTail Xt;simp
  unfold strings_Join.f;rw [e,if_pos (by simp)];have e2 : (Xt a b c d).data.toList.length = (Xt a b c d).size := by rw [Array.length_toList];rfl
  rw [e2]
theorem X9 {a b c d : Int} (ha : -200 <= a ∧ a <= 10000) (hb : -200 <= b ∧ b <= 10000) (hc : -200 <= c ∧ c <= 10000) (hd : -200 <= d ∧ d <= 10000) : (Xt a b c d).size <= 80003 := by
  have h1 := Xi ha.1 ha.2;have h2 := Xi hb.1 hb.2;have h3 := Xi hc.1 hc.2;have h4 := Xi hd.1 hd.2;unfold Xt;simp only [ByteArray.size_append,X3];omega
structure KB (x : S25) : Prop where
  b0 : 0 <= x.f0 ∧ x.f0 <= 10000
  b1 : -200 <= x.f1 ∧ x.f1 <= 10000
  b2 : -200 <= x.f2 ∧ x.f2 <= 10000
  b3 : -200 <= x.f3 ∧ x.f3 <= 10000
  b4 : -200 <= x.f4 ∧ x.f4 <= 10000
theorem Z2 {l : List S25} (hg : Xe l = true) : l.length <= 15 ∧ ∀ x,x ∈ l -> KB x := by
  have g := (Xl l).1 hg;refine ⟨g.len,fun x hx => ?_⟩;obtain ⟨i,hi,rfl⟩ := List.mem_iff_getElem.1 hx;have hk : Xc l i = l[i] := by unfold Xc;rw [List.getD_eq_getElem?_getD,List.getElem?_eq_getElem hi];rfl
  obtain ⟨h0,h1,h2,h3,h4⟩ := g.key i hi;rw [hk] at h0 h1 h2 h3 h4;exact ⟨⟨by omega,by omega⟩,⟨by omega,by omega⟩,⟨by omega,by omega⟩,⟨by omega,by omega⟩,⟨by omega,by omega⟩⟩
theorem Y2 {x : S25} (h : KB x) : (Zm x).size <= 200000 := by
  have l1 : (⟨#[58]⟩ : ByteArray).size = 1 := rfl;have l2 : (⟨#[59]⟩ : ByteArray).size = 1 := rfl;have h0 := Xi (n := x.f0) (by have := h.b0;omega) h.b0.2;have h1 := X9 h.b1 h.b2 h.b3 h.b4;unfold Zm;simp only [ByteArray.size_append,l1,l2];omega
theorem Vr (a b c d : Int) : rd [a,b,c,d] 0 = a ∧ rd [a,b,c,d] 1 = b ∧ rd [a,b,c,d] 2 = c ∧ rd [a,b,c,d] 3 = d := ⟨rfl,rfl,rfl,rfl⟩
theorem Z6 (a b c d : Int) : (([a,b,c,d] : List Int).length : Int) = 4 := rfl
theorem w01 : wrap64 (0 + 1) = 1 := Xb (by omega) (by omega)
theorem w12 : wrap64 (1 + 1) = 2 := Xb (by omega) (by omega)
theorem w23 : wrap64 (2 + 1) = 3 := Xb (by omega) (by omega)
theorem w34 : wrap64 (3 + 1) = 4 := Xb (by omega) (by omega)
theorem X2 {l : List S25} {x13 x14 : Int} {A : List Int} {r : ByteArray × Bool} {t : ByteArray} (i j : Int) (v : Int) (hi0 : 0 < i) (hi : i < 4) (hj : wrap64 (i + 1) = j) (hA : (A.length : Int) = 4) (hr : rd A i = v) (hv : -200 <= v ∧ v <= 10000) (ht : t.size <= 1099511627776) (h : Ev (fun k => spec_KeysText.l1 k ((t ++ com) ++ Xh v) l x13 x14 A 4 j) r) : Ev (fun k => spec_KeysText.l1 k t l x13 x14 A 4 i) r := by
  have hs := Xi hv.1 hv.2;refine Ev.succ ?_;simp only [spec_KeysText.l1,show (i < 4) = True from eq_true hi,show (0 <= i) = True from eq_true (by omega),hA,show (i > 0) = True from eq_true hi0,if_true,show (t.size + 1 <= 9223372036854775807) = True from eq_true (by omega),hr,hj,V0];refine Ev.bind (Zl hv.1 hv.2) ?_;simp only [show ((t ++ com).size + (Xh v).size <= 9223372036854775807) = True from eq_true (by rw [ByteArray.size_append,X3];omega),if_true];exact h
theorem Vw {l : List S25} {x13 x14 : Int} {r : ByteArray × Bool} {t : ByteArray} {a b c d : Int} (ha : -200 <= a ∧ a <= 10000) (hb : -200 <= b ∧ b <= 10000) (hc : -200 <= c ∧ c <= 10000) (hd : -200 <= d ∧ d <= 10000) (ht : t.size <= 1000000000) (h : Ev (fun k => spec_KeysText.l0 k ((t ++ Xt a b c d) ++ (⟨#[59]⟩ : ByteArray)) l x13 (wrap64 (x14 + 1))) r) : Ev (fun k => spec_KeysText.l1 k t l x13 x14 [a,b,c,d] 4 0) r := by
  have h1 := Xi ha.1 ha.2;have h2 := Xi hb.1 hb.2;have h3 := Xi hc.1 hc.2;have h4 := Xi hd.1 hd.2;obtain ⟨r0,r1,r2,r3⟩ := Vr a b c d;have hn := Z6 a b c d;refine Ev.succ ?_;simp only [spec_KeysText.l1,show ((0 : Int) < 4) = True from eq_true (by omega),show ((0 : Int) <= 0) = True from eq_true (by omega),hn,show ((0 : Int) > 0) = False from eq_false (by omega),if_true,if_false,r0,w01];refine Ev.bind (Zl ha.1 ha.2) ?_;simp only [show (t.size + (Xh a).size <= 9223372036854775807) = True from eq_true (by omega),if_true];refine X2 1 2 b (by omega) (by omega) w12 hn r1 hb (by simp only [ByteArray.size_append];omega) ?_;refine X2 2 3 c (by omega) (by omega) w23 hn r2 hc (by simp only [ByteArray.size_append,X3];omega) ?_;refine X2 3 4 d (by omega) (by omega) w34 hn r3 hd (by simp only [ByteArray.size_append,X3];omega) ?_;have e : (((((((t ++ Xh a) ++ com) ++ Xh b) ++ com) ++ Xh c) ++ com) ++ Xh d) = t ++ Xt a b c d := by
    unfold Xt;simp only [ByteArray.append_assoc]
  rw [e];have hz := X9 ha hb hc hd;refine Ev.succ ?_;simp only [spec_KeysText.l1,show ((4 : Int) < 4) = False from eq_false (by omega),if_false,show ((t ++ Xt a b c d).size + 1 <= 9223372036854775807) = True from eq_true (by rw [ByteArray.size_append];omega),if_true];exact h
theorem Vj (l : List S25) (hl : l.length <= 15) (hg : ∀ x,x ∈ l -> KB x) : ∀ d j (t : ByteArray),j + d = l.length -> t.size <= j * 200000 -> Ev (fun k => spec_KeysText.l0 k t l (l.length : Int) (j : Int)) (Y4 (l.drop j) t,true) := by
  intro d
  induction d with
  | zero =>
    intro j t hj ht;refine Ev.succ ?_;simp only [spec_KeysText.l0,show ((j : Int) < (l.length : Int)) = False from eq_false (by omega),if_false];rw [List.drop_of_length_le (by omega)];exact Ev.now _
  | succ d ih =>
    intro j t hj ht;have hlt : j < l.length := by omega
    have hk : Xc l j = l[j] := by unfold Xc;rw [List.getD_eq_getElem?_getD,List.getElem?_eq_getElem hlt];rfl
    have e1 : l.drop j = Xc l j :: l.drop (j + 1) := by rw [hk];exact List.drop_eq_getElem_cons hlt
    have hx : KB (Xc l j) := by rw [hk];exact hg _ (List.getElem_mem hlt)
    have hT := Y2 hx;have key := ih (j + 1) (t ++ Zm (Xc l j)) (by omega) (by rw [ByteArray.size_append];omega);rw [e1];unfold Y4;obtain ⟨x,hxe⟩ : ∃ x,Xc l j = x := ⟨_,rfl⟩;rw [hxe] at hx key hT ⊢;have e2 : x.f0 = ((x.f0.toNat : Nat) : Int) := by have := hx.b0;omega
    have e3 : Xh x.f0 = Vm x.f0.toNat := by unfold Xh;rw [if_neg (by have := hx.b0;omega)]
    have hs := Xi (n := x.f0) (by have := hx.b0;omega) hx.b0.2;have l1 : (⟨#[58]⟩ : ByteArray).size = 1 := rfl;refine Ev.succ ?_;simp only [spec_KeysText.l0,show ((j : Int) < (l.length : Int)) = True from eq_true (by omega),if_true,Xa,Yf,hxe];have kn : Ev (fun k => spec_l1Num.f k x.f0) (Xh x.f0) := by
      have k := Yn x.f0.toNat (by have := hx.b0;omega);rw [<- e2,<- e3] at k;exact k
    refine Ev.bind kn ?_;simp only [show ((Xh x.f0).size + 1 <= 9223372036854775807) = True from eq_true (by omega),show (t.size + (Xh x.f0 ++ (⟨#[58]⟩ : ByteArray)).size <= 9223372036854775807) = True from eq_true (by rw [ByteArray.size_append,l1];omega),if_true,spec_avAngles.f,Option.bind_some,Z6];refine Vw hx.b1 hx.b2 hx.b3 hx.b4 (by simp only [ByteArray.size_append,l1];omega) ?_;rw [Xd (show j < 4611686018427387904 by omega)];have e4 : ((t ++ (Xh x.f0 ++ (⟨#[58]⟩ : ByteArray))) ++ Xt x.f1 x.f2 x.f3 x.f4) ++ (⟨#[59]⟩ : ByteArray) = t ++ Zm x := by
      unfold Zm;simp only [ByteArray.append_assoc]
    rw [e4];exact key
theorem Xr {l : List S25} {t : ByteArray} {W : List ByteArray} {x13 x14 : Int} {A : List Int} {y0 y1 y2 y3 y4 : Int} {r : ByteArray × Bool} (i j : Int) (v : Int) (hi0 : 0 <= i) (hi : i < 4) (hj : wrap64 (i + 1) = j) (hA : (A.length : Int) = 4) (hr : rd A i = v) (hv : -200 <= v ∧ v <= 10000) (hW : W.length < 4) (h : Ev (fun k => impl_KeysText.l1 k t (W ++ [Xh v]) l x13 x14 A 4 j y0 y1 y2 y3 y4) r) : Ev (fun k => impl_KeysText.l1 k t W l x13 x14 A 4 i y0 y1 y2 y3 y4) r := by
  refine Ev.succ ?_;simp only [impl_KeysText.l1,show (i < 4) = True from eq_true hi,show (0 <= i) = True from eq_true hi0,hA,if_true,hr,hj,Zg hv.1 hv.2,Option.bind_some,show (W.length < 8796093022208) = True from eq_true (by omega)];exact h
theorem Vv {l : List S25} {x13 x14 : Int} {r : ByteArray × Bool} {t : ByteArray} {x : S25} (hx : KB x) (ht : t.size <= 1000000000) (h : Ev (fun k => impl_KeysText.l0 k (t ++ Zm x) l x13 (wrap64 (x14 + 1))) r) : Ev (fun k => impl_KeysText.l1 k t ([] : List ByteArray) l x13 x14 [x.f1,x.f2,x.f3,x.f4] 4 0 x.f0 x.f1 x.f2 x.f3 x.f4) r := by
  obtain ⟨r0,r1,r2,r3⟩ := Vr x.f1 x.f2 x.f3 x.f4;have hn := Z6 x.f1 x.f2 x.f3 x.f4;refine Xr 0 1 x.f1 (by omega) (by omega) w01 hn r0 hx.b1 (by simp) ?_;refine Xr 1 2 x.f2 (by omega) (by omega) w12 hn r1 hx.b2 (by simp) ?_;refine Xr 2 3 x.f3 (by omega) (by omega) w23 hn r2 hx.b3 (by simp) ?_;refine Xr 3 4 x.f4 (by omega) (by omega) w34 hn r3 hx.b4 (by simp) ?_;have e : ((([] ++ [Xh x.f1]) ++ [Xh x.f2]) ++ [Xh x.f3]) ++ [Xh x.f4] = [Xh x.f1,Xh x.f2,Xh x.f3,Xh x.f4] := rfl;rw [e];have hz := X9 hx.b1 hx.b2 hx.b3 hx.b4;have hs := Xi (n := x.f0) (by have := hx.b0;omega) hx.b0.2;have l1 : (⟨#[58]⟩ : ByteArray).size = 1 := rfl;have l2 : (⟨#[59]⟩ : ByteArray).size = 1 := rfl;refine Ev.succ ?_;simp only [impl_KeysText.l1,show ((4 : Int) < 4) = False from eq_false (by omega),if_false,Zg (n := x.f0) (by have := hx.b0;omega) hx.b0.2,Option.bind_some,show ((Xh x.f0).size + 1 <= 9223372036854775807) = True from eq_true (by omega),if_true,V0,Vi,show ((Xt x.f1 x.f2 x.f3 x.f4).size <= 140737488355328) = True from eq_true (by omega)];simp only [show ((Xh x.f0 ++ (⟨#[58]⟩ : ByteArray)).size + (Xt x.f1 x.f2 x.f3 x.f4).size <= 9223372036854775807) = True from eq_true (by simp only [ByteArray.size_append,l1];omega),show (((Xh x.f0 ++ (⟨#[58]⟩ : ByteArray)) ++ Xt x.f1 x.f2 x.f3 x.f4).size + 1 <= 9223372036854775807) = True from eq_true (by simp only [ByteArray.size_append,l1];omega),show (t.size + (((Xh x.f0 ++ (⟨#[58]⟩ : ByteArray)) ++ Xt x.f1 x.f2 x.f3 x.f4) ++ (⟨#[59]⟩ : ByteArray)).size <= 9223372036854775807) = True from eq_true (by simp only [ByteArray.size_append,l1,l2];omega),if_true];exact h
theorem Vc (l : List S25) (hl : l.length <= 15) (hg : ∀ x,x ∈ l -> KB x) : ∀ d j (t : ByteArray),j + d = l.length -> t.size <= j * 200000 -> Ev (fun k => impl_KeysText.l0 k t l (l.length : Int) (j : Int)) (Y4 (l.drop j) t,true) := by
  intro d
  induction d with
  | zero =>
    intro j t hj ht;refine Ev.succ ?_;simp only [impl_KeysText.l0,show ((j : Int) < (l.length : Int)) = False from eq_false (by omega),if_false];rw [List.drop_of_length_le (by omega)];exact Ev.now _
  | succ d ih =>
    intro j t hj ht;have hlt : j < l.length := by omega
    have hk : Xc l j = l[j] := by unfold Xc;rw [List.getD_eq_getElem?_getD,List.getElem?_eq_getElem hlt];rfl
    have e1 : l.drop j = Xc l j :: l.drop (j + 1) := by rw [hk];exact List.drop_eq_getElem_cons hlt
    have hx : KB (Xc l j) := by rw [hk];exact hg _ (List.getElem_mem hlt)
    have hT := Y2 hx;have key := ih (j + 1) (t ++ Zm (Xc l j)) (by omega) (by rw [ByteArray.size_append];omega);rw [e1];unfold Y4;obtain ⟨x,hxe⟩ : ∃ x,Xc l j = x := ⟨_,rfl⟩;rw [hxe] at hx key hT ⊢;refine Ev.succ ?_;simp only [impl_KeysText.l0,show ((j : Int) < (l.length : Int)) = True from eq_true (by omega),if_true,Xa,Yf,hxe,impl_Key_angles.f,Option.bind_some,Z6];refine Vv hx (by omega) ?_;rw [Xd (show j < 4611686018427387904 by omega)];exact key
def Ul (l : List S25) : ByteArray × Bool := if Xe l then (Y4 l (⟨#[]⟩ : ByteArray),true) else ((⟨#[]⟩ : ByteArray),false)
theorem Vf (l : List S25) (hl : l.length <= 1048576) : Ev (fun k => spec_KeysText.f k l) (Ul l) := by
  unfold spec_KeysText.f Ul;refine Ev.bind (Xk l (by omega)) ?_;rcases Bool.eq_false_or_eq_true (Xe l) with hg | hg
  · simp only [hg,if_true]
    obtain ⟨g2,g3⟩ := Z2 hg;exact Vj l g2 g3 l.length 0 _ (by omega) (by simp [ByteArray.size])
  · simp only [hg,Bool.false_eq_true,if_false]
    exact Ev.now _
theorem Vh (l : List S25) (hl : l.length <= 1048576) : Ev (fun k => impl_KeysText.f k l) (Ul l) := by
  unfold impl_KeysText.f Ul;refine Ev.bind (Xf l (by omega)) ?_;rcases Bool.eq_false_or_eq_true (Xe l) with hg | hg
  · simp only [hg,if_true]
    obtain ⟨g2,g3⟩ := Z2 hg;exact Vc l g2 g3 l.length 0 _ (by omega) (by simp [ByteArray.size])
  · simp only [hg,Bool.false_eq_true,if_false]
    exact Ev.now _
theorem Yu (l : List S25) (t : Int) (hl : l.length <= 3518437208780) : Ev (fun k => spec_StretchKeys.f k l t) (Xw l t) := by
  unfold spec_StretchKeys.f Xw;refine Ev.bind (Xk l (by omega)) ?_;rcases Bool.eq_false_or_eq_true (Xe l) with hg | hg
  · simp only [hg,if_true,Z7,Option.bind_some]
    rcases Bool.eq_false_or_eq_true (Yi t 1 20) with hm | hm
    · simp only [hm,if_true]
      refine Ev.bind (Y8 l t hl) ?_;exact Ev.now _
    · simp only [hm]
      exact Ev.now _
  · simp only [hg]
    exact Ev.now _
end Go.Proofs.YtkobnljfoedmnaaDoor.Pure
namespace Go.Proofs.YtkobnljfoedmnaaDoor.Pure
open Go.RowKit Go.Proofs.YtkobnljfoedmnaaDoor.Q Go.Proofs.YtkobnljfoedmnaaDoorW.PrintWords Go.Proofs.YtkobnljfoedmnaaDoorW.PrintLast
theorem Zq {l : List Int} (hu : U8 l) : ∃ L,Ev (fun k => spec_DrawAreKeys.f k l) L ∧ L.length <= 16 := by
  obtain ⟨L,a',s',hE,hL,_,_⟩ := Y9 hu (a := 0) 0 (by decide) (by decide);exact ⟨L,by unfold spec_DrawAreKeys.f;exact Ev.bind hE (Ev.now _),hL⟩
theorem Yz {l : List Int} (hu : U8 l) : ∃ L,Ev (fun k => spec_DrawMirrorKeys.f k l) L ∧ L.length <= 16 := by
  obtain ⟨L,hE,hL⟩ := Zq hu;exact ⟨L,by unfold spec_DrawMirrorKeys.f;exact Ev.bind hE (Ev.now _),hL⟩
theorem Yr {l : List Int} (hu : U8 l) : ∃ L m,Ev (fun k => spec_DrawStretchKeys.f k l) (L,m) ∧ L.length <= 16 := by
  obtain ⟨L,a',s',hE,hL,p,q⟩ := Y9 hu (a := 0) 0 (by decide) (by decide);obtain ⟨y2,a2,s2,e2,_,p2,q2⟩ := Xg hu s' (a := a') (by omega) (by omega) [3,0,21] (by decide) (by decide);obtain ⟨y3,a3,s3,e3,_,p3,q3⟩ := Xg hu s2 (a := a2) (by omega) (by omega) [1,2,5,20,y2] (by simp) (by simp);refine ⟨L,y3,?_,hL⟩;unfold spec_DrawStretchKeys.f;refine Ev.bind hE ?_;simp only [e2,e3,Option.bind_some];exact Ev.now _
theorem Vb {l : List Int} (hu : U8 l) (L : List S25) (hL : L.length <= 16) (b : Bool) (hb : b = true -> 0 < L.length) {a : Int} (s : Int) (h0 : 0 <= a) (h1 : a <= 999999990000) : ∃ x0 x1 x2 x3 x4,Ev (fun k => spec_DrawPutKey.j0 k L (L.length : Int) b l a s) (L,x0,x1,x2,x3,x4) := by
  cases b with
  | true =>
    have hp := hb rfl;obtain ⟨n,a1,s1,e1,⟨n0,n1⟩,p1,q1⟩ := Xn hu s h0 (by omega) (L.length : Int) (by omega) (by omega);obtain ⟨x1,x2,x3,x4,a2,s2,e2,p2,q2⟩ := Zw hu s1 (a := a1) (by omega) (by omega) ((rd_T25 L n).f0);refine ⟨(rd_T25 L n).f0,x1,x2,x3,x4,Ev.succ ?_⟩;simp only [spec_DrawPutKey.j0,if_true,e1,Option.bind_some,eq_true n0,eq_true n1];exact Ev.bind e2 (Ev.now _)
  | false =>
    obtain ⟨fr,a1,s1,e1,_,p1,q1⟩ := Zd hu s h0 (by omega);obtain ⟨x1,x2,x3,x4,a2,s2,e2,p2,q2⟩ := Zw hu s1 (a := a1) (by omega) (by omega) fr;refine ⟨fr,x1,x2,x3,x4,Ev.succ ?_⟩;simp only [spec_DrawPutKey.j0,Bool.false_eq_true,if_false,e1,Option.bind_some];exact Ev.bind e2 (Ev.now _)
theorem Zo {l : List Int} (hu : U8 l) : ∃ L x0 x1 x2 x3 x4,Ev (fun k => spec_DrawPutKey.f k l) (L,x0,x1,x2,x3,x4) ∧ L.length <= 16 := by
  obtain ⟨L,a',s',hE,hL,p,q⟩ := Y9 hu (a := 0) 0 (by decide) (by decide);by_cases hp : (L.length : Int) > 0
  · obtain ⟨b,a1,s1,e1,_,p1,q1⟩ := Y6 hu s' (a := a') (by omega) (by omega) 3 (by decide) (by decide)
    obtain ⟨x0,x1,x2,x3,x4,hJ⟩ := Vb hu L hL b (fun _ => by omega) (a := a1) s1 (by omega) (by omega);refine ⟨L,x0,x1,x2,x3,x4,?_,hL⟩;unfold spec_DrawPutKey.f;refine Ev.bind hE ?_;simp only [eq_true hp,if_true,e1,Option.bind_some];exact hJ
  · obtain ⟨x0,x1,x2,x3,x4,hJ⟩ := Vb hu L hL false (fun h => by cases h) (a := a') s' (by omega) (by omega)
    refine ⟨L,x0,x1,x2,x3,x4,?_,hL⟩;unfold spec_DrawPutKey.f;refine Ev.bind hE ?_;simp only [eq_false hp,if_false];exact hJ
theorem V5 {l : List S25} (hG : Good l) (hI : Zj l) (x : S25) (hx : x ∈ l) : Zy l x.f0 = (x.f0,x.f1,x.f2,x.f3,x.f4,true) := by
  obtain ⟨i,hi,rfl⟩ := List.mem_iff_getElem.1 hx;have hk : ∀ j (hj : j < l.length),Xc l j = l[j] := fun j hj => by unfold Xc;rw [List.getD_eq_getElem?_getD,List.getElem?_eq_getElem hj];rfl
  have lt : ∀ j j' (hj : j < l.length) (hj' : j' < l.length),j < j' -> l[j].f0 < l[j'].f0 := fun j j' hj hj' h => List.pairwise_iff_getElem.1 hI j j' hj hj' h
  have key : ∀ d j,j + d = l.length -> j <= i -> Yh l l[i].f0 d j = (l[i].f0,l[i].f1,l[i].f2,l[i].f3,l[i].f4,true) := by
    intro d
    induction d with
    | zero => intro j h1 h2;omega
    | succ d ih =>
      intro j h1 h2;rw [Yh];by_cases e : j = i
      · subst e
        rw [hk j hi,if_pos rfl]
      · have h3 := lt j i (by omega) hi (by omega)
        rw [hk j (by omega),if_neg (by omega),if_neg ?_]
        · exact ih (j + 1) (by omega) (by omega)
        · rintro ⟨g1,g2,g3⟩
          rw [hk (j + 1) g1] at g3;rcases Nat.lt_or_ge (j + 1) i with h4 | h4
          · have := lt (j + 1) i g1 hi h4;omega
          · have e2 : j + 1 = i := by omega
            subst e2;omega
  unfold Zy;rw [if_pos ((Xl l).2 hG)];exact key l.length 0 (by omega) (by omega)
theorem Vq (l : List S25) (k : S25) : k ∈ Xz l k := (Yt l k k).2 (.inl rfl)
theorem V8 {l : List S25} {a b c d e : Int} (h : (Yc l a b c d e).2 = true) : Xe (Yc l a b c d e).1 = true ∧ (⟨a,b,c,d,e⟩ : S25) ∈ (Yc l a b c d e).1 := by
  unfold Yc at h ⊢
  split at h
  · rename_i hc
    rw [if_pos hc];unfold Yx at h ⊢
    split at h
    · rename_i hg
      rw [if_pos hg];exact ⟨hg,Vq _ _⟩
    · cases h
  · cases h
theorem V6 {x : S25} (h : -70 <= x.f3 ∧ x.f3 <= 70) : Zn (Zn x) = x := by
  show (⟨x.f0,x.f1,x.f2,wrap64 (-(wrap64 (-x.f3))),x.f4⟩ : S25) = x;rw [Xb (x := -x.f3) (by omega) (by omega),Int.neg_neg,Xb (by omega) (by omega)]
theorem Xv (l : List S25) (i : Nat) (hi : i < l.length) : Xc (l.map Zn) i = Zn (Xc l i) := by
  unfold Xc;rw [List.getD_eq_getElem?_getD,List.getD_eq_getElem?_getD,List.getElem?_eq_getElem hi,List.getElem?_eq_getElem (by simpa using hi)];simp
theorem Vp {l : List S25} (hG : Good l) : Good (l.map Zn) := by
  refine ⟨by rw [List.length_map];exact hG.len,fun i hi => ?_,fun i hi => ?_⟩
  · rw [List.length_map] at hi
    obtain ⟨h0,h1,h2,h3,h4⟩ := hG.key i hi;rw [Xv l i hi];unfold Zn;refine ⟨h0,h1,h2,?_,h4⟩;show -70 <= wrap64 (-(Xc l i).f3) ∧ wrap64 (-(Xc l i).f3) <= 70;rw [Xb (by omega) (by omega)];omega
  · rw [List.length_map] at hi
    rw [Xv l i (by omega),Xv l (i + 1) hi];exact hG.inc i hi
theorem Vx {l : List S25} (hG : Good l) : (l.map Zn).map Zn = l := by
  rw [List.map_map];refine (List.map_congr_left fun x hx => ?_).trans (List.map_id l);obtain ⟨i,hi,rfl⟩ := List.mem_iff_getElem.1 hx;have hk : Xc l i = l[i] := by unfold Xc;rw [List.getD_eq_getElem?_getD,List.getElem?_eq_getElem hi];rfl
  have h := (hG.key i hi).2.2.2.1;rw [hk] at h;exact V6 h
theorem Yl (x y : Int) : ad x y = 0 ↔ x = y := by
  have h := Ue (x - y) (y - x);unfold ad
  constructor
  · intro e;omega
  · intro e;subst e;rcases h.2.2 with h | h <;> omega
theorem Z9 (x y : Int) : 0 <= ad x y := Xq x y
theorem Ve (x y : S25) : Y1 x y = 0 ↔ (x.f1 = y.f1 ∧ x.f2 = y.f2 ∧ x.f3 = y.f3 ∧ x.f4 = y.f4) := by
  have e : Y1 x y = max (max (max (max (ad x.f1 y.f1) (ad x.f1 y.f1)) (ad x.f2 y.f2)) (ad x.f3 y.f3)) (ad x.f4 y.f4) := rfl;have n1 := Z9 x.f1 y.f1;have n2 := Z9 x.f2 y.f2;have n3 := Z9 x.f3 y.f3;have n4 := Z9 x.f4 y.f4;rw [<- Yl x.f1,<- Yl x.f2,<- Yl x.f3,<- Yl x.f4,e];omega
theorem Ua {l : List S25} (hG : Good l) (i : Nat) (hi : i + 1 < l.length) : sp l i = 0 ↔ ((Xc l i).f1 = (Xc l (i + 1)).f1 ∧ (Xc l i).f2 = (Xc l (i + 1)).f2 ∧ (Xc l i).f3 = (Xc l (i + 1)).f3 ∧ (Xc l i).f4 = (Xc l (i + 1)).f4) := by
  rw [<- Ve];have hinc := hG.inc i hi;have hd := Xx (Xc l i) (Xc l (i + 1)) (hG.key i (by omega)) (hG.key (i + 1) hi);unfold sp;generalize Y1 (Xc l i) (Xc l (i + 1)) = m at hd;have hf : 0 < (Xc l (i + 1)).f0 - (Xc l i).f0 := by omega
  generalize (Xc l (i + 1)).f0 - (Xc l i).f0 = f at hf
  constructor
  · intro h
    have h1 : ¬ f <= m + f - 1 := fun h2 => by
      have : 1 <= (m + f - 1) / f := (Int.le_ediv_iff_mul_le hf).2 (by omega);omega
    omega
  · intro h
    rw [h];exact Int.ediv_eq_zero_of_lt (by omega) (by omega)
theorem V1 (l : List S25) (n i : Nat) (hi : i < n) : ((i : Int) ∈ Xj l n) ↔ sp l i = 0 := by
  unfold Xj;rw [List.mem_map]
  constructor
  · rintro ⟨j,hj,e⟩
    have e2 : j = i := by omega
    subst e2;exact of_decide_eq_true (List.mem_filter.1 hj).2
  · intro h
    exact ⟨i,List.mem_filter.2 ⟨List.mem_range.2 hi,decide_eq_true h⟩,rfl⟩
theorem Us {v : List S25} (hv : v.length <= 16) (t : Int) : ∀ d j,j + d = v.length -> Ev (fun k => laws_FnKeys.l1 k v t (v.map (Z3 t)) ((v.map (Z3 t)).length : Int) (j : Int)) true := by
  have hlen : (v.map (Z3 t)).length = v.length := by simp
  intro d
  induction d with
  | zero =>
    intro j hj;refine Ev.succ ?_;simp only [laws_FnKeys.l1,hlen,show ((j : Int) < (v.length : Int)) = False from eq_false (by omega),if_false];exact Ev.now _
  | succ d ih =>
    intro j hj;have hlt : j < v.length := by omega
    have key := ih (j + 1) (by omega);rw [hlen] at key;have e1 : (rd_T25 (v.map (Z3 t)) (j : Int)).f0 = wrap64 (t * (rd_T25 v (j : Int)).f0) := by
      rw [Yf,Yf];have : Xc (v.map (Z3 t)) j = Z3 t (Xc v j) := by
        unfold Xc;rw [List.getD_eq_getElem?_getD,List.getD_eq_getElem?_getD,List.getElem?_eq_getElem hlt,List.getElem?_eq_getElem (by simpa using hlt)];simp
      rw [this];show wrap64 ((Xc v j).f0 * t) = _;rw [Int.mul_comm]
    refine Ev.succ ?_;simp only [laws_FnKeys.l1,hlen,show ((j : Int) < (v.length : Int)) = True from eq_true (by omega),if_true,Xa,eq_true e1,Xd (show j < 4611686018427387904 by omega)];exact key
theorem Uc {v : List S25} (hv : v.length <= 16) (t : Int) : Ev (fun k => laws_FnKeys.j4 k v t (Xw v t).2 (Xw v t).1) true := by
  refine Ev.succ ?_;rcases Bool.eq_false_or_eq_true (Xw v t).2 with h | h
  · simp only [laws_FnKeys.j4,h,if_true]
    have e : (Xw v t).1 = v.map (Z3 t) := by
      unfold Xw Vk at h ⊢
      split at h
      · rename_i hc
        rw [if_pos hc]
        split at h
        · rename_i hg
          rw [if_pos hg]
        · cases h
      · cases h
    rw [e];exact Us hv t v.length 0 (by omega)
  · simp only [laws_FnKeys.j4,h,Bool.false_eq_true,if_false]
    exact Ev.now _
theorem Un {u v : List S25} (hG : Good u) (hu : u.length <= 16) (hv : v.length <= 16) (t : Int) : ∀ d j,j + d + 1 = u.length ∨ (u.length = 0 ∧ d = 0 ∧ j = 0) -> Ev (fun k => laws_FnKeys.l0 k u (Xj u (u.length - 1)) v t (Xw v t).2 (Xw v t).1 (j : Int)) true := by
  have hheld : (Xj u (u.length - 1)).length < 4611686018427387904 := Nat.lt_of_le_of_lt (Xo u (u.length - 1)) (by omega);intro d
  induction d with
  | zero =>
    intro j hj;refine Ev.succ ?_;simp only [laws_FnKeys.l0,Xd (show j < 4611686018427387904 by omega),show (((j + 1 : Nat) : Int) < (u.length : Int)) = False from eq_false (by omega),if_false];exact Uc hv t
  | succ d ih =>
    intro j hj;have key := ih (j + 1) (by omega);have hlt : j + 1 < u.length := by omega
    have hz := Ua hG j hlt;have hm := V1 u (u.length - 1) j (by omega);refine Ev.succ ?_;simp only [laws_FnKeys.l0,Xd (show j < 4611686018427387904 by omega),show (((j + 1 : Nat) : Int) < (u.length : Int)) = True from eq_true (by omega),if_true,Xa,show ((j : Int) < (u.length : Int)) = True from eq_true (by omega),Yf];refine Ev.bind (V2 _ hheld (j : Int)) ?_;have eb : decide ((j : Int) ∈ Xj u (u.length - 1)) = ((Xc u j).f1 == (Xc u (j + 1)).f1 && ((Xc u j).f2 == (Xc u (j + 1)).f2 && ((Xc u j).f3 == (Xc u (j + 1)).f3 && (Xc u j).f4 == (Xc u (j + 1)).f4))) := by
      rw [Bool.eq_iff_iff,decide_eq_true_eq,hm,hz];simp only [Bool.and_eq_true,beq_iff_eq]
    rw [eb];simp only [bne_self_eq_false,Bool.false_eq_true,if_false];exact key
theorem Ur {u v : List S25} (hu : u.length <= 16) (hv : v.length <= 16) (t : Int) : Ev (fun k => laws_FnKeys.j1 k u (Xu u).1 (Xu u).2 (Xs u).1 v t (Xw v t).2 (Xw v t).1) true := by
  refine Ev.succ ?_;rcases Bool.eq_false_or_eq_true (Xe u) with hg | hg
  · have hG := (Xl u).1 hg
    have e1 : Xu u = (u.map Zn,true) := by unfold Xu;rw [if_pos hg]
    have hg2 : Xe (u.map Zn) = true := (Xl _).2 (Vp hG);have e2 : Xu (u.map Zn) = (u,true) := by unfold Xu;rw [if_pos hg2,Vx hG]
    have e3 : (Xs u).1 = Xj u (u.length - 1) := by unfold Xs;rw [if_pos hg]
    have hl2 : (u.map Zn).length <= 16 := by rw [List.length_map];exact hu
    rw [e1,e3];simp only [laws_FnKeys.j1,if_true];refine Ev.bind (X1 _ (by omega)) ?_;rw [e2];simp only [if_true];refine Ev.bind (X6 u (by omega)) ?_;simp only [if_true];refine Ev.bind (Xf _ (by omega)) ?_;rw [hg2];refine Ev.succ ?_;simp only [laws_FnKeys.j2,Bool.not_true,Bool.false_eq_true,if_false];exact Un hG hu hv t (u.length - 1) 0 (by omega)
  · have e1 : Xu u = ([],false) := by unfold Xu;rw [if_neg (by rw [hg];decide)]
    rw [e1];simp only [laws_FnKeys.j1,Bool.false_eq_true,if_false];exact Uc hv t
theorem Uo {l u v : List S25} (hl : l.length <= 16) (hu : u.length <= 16) (hv : v.length <= 16) (t x0 x1 x2 x3 x4 : Int) : Ev (fun k => laws_FnKeys.j0 k (Yc l x0 x1 x2 x3 x4).1 (Yc l x0 x1 x2 x3 x4).2 u (Xu u).1 (Xu u).2 (Xs u).1 v t (Xw v t).2 (Xw v t).1 false x0 x1 x2 x3 x4) true := by
  have rest := Ur hu hv t;have hpl := Yg l x0 x1 x2 x3 x4;refine Ev.succ ?_;rcases Bool.eq_false_or_eq_true (Yc l x0 x1 x2 x3 x4).2 with h | h
  · obtain ⟨hg,hm⟩ := V8 h
    have hp := V5 ((Xl _).1 hg) (X5 hg).1 _ hm;simp only [laws_FnKeys.j0,Bool.false_eq_true,if_false,h,if_true];refine Ev.bind (Y0 _ x0 (by omega)) ?_;rw [hp];simp only [if_true,beq_self_eq_true,Bool.not_true,Bool.or_self,Bool.false_eq_true,if_false];refine Ev.bind (Xf _ (by omega)) ?_;rw [hg];simp only [if_true];exact rest
  · simp only [laws_FnKeys.j0,Bool.false_eq_true,if_false,h]
    exact rest
theorem FnKeys : laws_FnKeys.Pure := by
  intro l0 l1 h0 hb0 h1 hb1;have u0 : U8 l0 := ⟨hb0,by omega⟩;have u1 : U8 l1 := ⟨hb1,by omega⟩;refine Ev.rounds ?_;unfold laws_FnKeys.f;by_cases hs : wrap64 ((l0.length : Int) + (l1.length : Int)) > 1048576
  · simp only [eq_true hs,if_true]
    exact Ev.now _
  simp only [eq_false hs,if_false];obtain ⟨L,x0,x1,x2,x3,x4,hL,hLn⟩ := Zo u0;obtain ⟨U,hU,hUn⟩ := Yz u1;obtain ⟨V,t,hV,hVn⟩ := Yr u1;have hpl := Yg L x0 x1 x2 x3 x4;have hml := Zk U;have hhl := Y7 U;have hsl := Zf V t;refine Ev.bind hL ?_;refine Ev.bind (Zt L x0 x1 x2 x3 x4 (by omega)) ?_;refine Ev.bind (Zr L x0 x1 x2 x3 x4 (by omega)) ?_;refine Ev.bind hU ?_;refine Ev.bind (X1 U (by omega)) ?_;refine Ev.bind (Yy U (by omega)) ?_;refine Ev.bind (Ya U (by omega)) ?_;refine Ev.bind (Yb U (by omega)) ?_;refine Ev.bind (Vh U (by omega)) ?_;refine Ev.bind (Vf U (by omega)) ?_;refine Ev.bind hV ?_;refine Ev.bind (Yp V t (by omega)) ?_;refine Ev.bind (Yu V t (by omega)) ?_;simp only [bne_self_eq_false,Bool.false_eq_true,if_false];refine Ev.bind (X6 _ (by omega)) ?_;simp only [if_true];refine Ev.bind (X6 _ (by omega)) ?_;simp only [if_true];refine Ev.bind (Vn _ (by omega)) ?_;simp only [if_true];refine Ev.bind (X6 _ (by omega)) ?_;simp only [if_true];refine Ev.bind (Xf U (by omega)) ?_;have m2 : (Xu U).2 = Xe U := by unfold Xu;split <;> simp_all
  have n2 : (Xs U).2 = Xe U := by unfold Xs;split <;> simp_all
  have k2 : (Ul U).2 = Xe U := by unfold Ul;split <;> simp_all
  have key := Uo (l := L) hLn hUn hVn t x0 x1 x2 x3 x4;rw [m2] at key ⊢;rw [n2,k2];simp only [bne_self_eq_false,Bool.false_eq_true,if_false];exact key
end Go.Proofs.YtkobnljfoedmnaaDoor.Pure
