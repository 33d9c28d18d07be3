/- For all bytes: of the words that are drawn out of them,lessons that are made are good ones,no fewer lessons are enough than told,and where there are none a cycle is told;the program answers as the reference does. No condition. -/
import Derived.Test.YtgnijnlgbelifaaQBImplAreLessons
import Derived.Test.YtgnijnlgbelifaaQBImplHasNeeds1
import Derived.Test.YtgnijnlgbelifaaQBLawsBig
import Derived.Test.YtgnijnlgbelifaaQBSlicesCloneInt
import Derived.Test.YtgnijnlgbelifaaQBSpecDrawCycleOf
import Derived.Test.YtgnijnlgbelifaaQBSpecDrawLessonsOf
import Derived.Test.YtgnijnlgbelifaaQBSpecL1In
import Derived.Test.YtgnijnlgbelifaaQBSpecLeOrder
import Derived.Test.YtgnijnlgbelifaaQBSpecLeShortest
import Derived.Test.YtgnijnlgbelifaaQImplAllOfInt
import Derived.Test.YtgnijnlgbelifaaQImplAllWithin
import Derived.Test.YtgnijnlgbelifaaQImplAreWords
import Derived.Test.YtgnijnlgbelifaaQImplFirstUntaught
import Derived.Test.YtgnijnlgbelifaaQImplLessonsOf
import Derived.Test.YtgnijnlgbelifaaQImplMostUsed
import Derived.Test.YtgnijnlgbelifaaQLawsFnLessons
import Derived.Test.YtgnijnlgbelifaaQSlicesContainsFuncImplWord
import Derived.Test.YtgnijnlgbelifaaQSpecL1CurWords
import Derived.Test.YtgnijnlgbelifaaQSpecLeBest
import Derived.Test.YtgnijnlgbelifaaQSpecLeCycle
import Derived.Test.YtgnijnlgbelifaaQ0
import Derived.Test.YtgnijnlgbelifaaWWords
import Derived.Laws.BitsLemmas
import Derived.Lib.Bytealg
import Derived.Lib.SlicesCompact
import Derived.Test.YtgnijnlgbelifaaGIdx
set_option linter.unusedVariables false
set_option linter.unusedSimpArgs false
namespace Go.Proofs.Ytgnijnlgbelifaa.Pure
open Go.RowKit Go.Proofs.Ytgnijnlgbelifaa.Q Go.Proofs.YtgnijnlgbelifaaW.PrintLast Go.Proofs.YtgnijnlgbelifaaW.PrintWords
theorem Ev.succ {α : Type} {g : Nat → Option α} {r : α} (h : Ev (fun k => g (k + 1)) r) : Ev g r := Ev.step (fun _ => rfl) h
theorem Ev.k {α : Type} {g : Nat → Option α} {o : Option α} {r : α} (hg : ∀ k,g k = o) (h : o = some r) : Ev g r := ⟨0,fun k _ => (hg k).trans h⟩
theorem Ev.eq {α : Type} {g : Nat → Option α} {r r' : α} (h : Ev g r) (e : r = r') : Ev g r' := e ▸ h
/-- From round i up to round n. -/
theorem Ev.upto {β : Type} {L : Nat → Nat → Option β} {r : β} {n : Nat} (hend : Ev (fun k => L k n) r)
  (hstep : ∀ j,j < n → Ev (fun k => L k (j + 1)) r → Ev (fun k => L k j) r) : ∀ i,i ≤ n → Ev (fun k => L k i) r := by
 intro i hi
 obtain ⟨d,hd⟩ : ∃ d,n = i + d := ⟨n - i,by omega⟩
 induction d generalizing i with
 | zero => simp at hd;subst hd;exact hend
 | succ d ih => exact hstep i (by omega) (ih (i + 1) (by omega) (by omega))
/-- A loop that ends early where P fails. -/
theorem Ev.all {β : Type} {L : Nat → Nat → Option β} {P : Nat → Bool} {n : Nat} {a b : β} (hend : Ev (fun k => L k n) a)
  (hyes : ∀ j r,j < n → P j = true → Ev (fun k => L k (j + 1)) r → Ev (fun k => L k j) r) (hno : ∀ j,j < n → P j = false → Ev (fun k => L k j) b) :
  ∀ i,i ≤ n → Ev (fun k => L k i) (if (List.range' i (n - i)).all P then a else b) := by
 intro i hi
 obtain ⟨d,hd⟩ : ∃ d,n = i + d := ⟨n - i,by omega⟩
 induction d generalizing i with
 | zero => simp at hd;subst hd;simpa using hend
 | succ d ih =>
  have h1 : n - i = (n - (i + 1)) + 1 := by omega
  rw [h1,List.range'_succ]
  simp only [List.all_cons]
  rcases Bool.eq_false_or_eq_true (P i) with hP | hP
  ·simp only [hP,Bool.true_and]
   exact hyes i _ (by omega) hP (ih (i + 1) (by omega) (by omega))
  ·simpa [hP] using hno i (by omega) hP
theorem Ev.all0 {β : Type} {L : Nat → Nat → Option β} {P : Nat → Bool} {n : Nat} {a b : β} (hend : Ev (fun k => L k n) a)
  (hyes : ∀ j r,j < n → P j = true → Ev (fun k => L k (j + 1)) r → Ev (fun k => L k j) r) (hno : ∀ j,j < n → P j = false → Ev (fun k => L k j) b) :
  Ev (fun k => L k 0) (if (List.range n).all P then a else b) := by
 have := Ev.all hend hyes hno 0 (Nat.zero_le _)
 rwa [Nat.sub_zero,← List.range_eq_range'] at this

theorem wrap_id {x : Int} (h0 : -9223372036854775808 ≤ x) (h1 : x ≤ 9223372036854775807) : wrap64 x = x := by
 unfold wrap64
 omega
theorem wrap_succ {n : Nat} (h : n < 4611686018427387904) : wrap64 ((n : Int) + 1) = ((n + 1 : Nat) : Int) := by
 rw [wrap_id (by omega) (by omega)]
 omega
theorem wrap_pred {n : Nat} (h0 : 0 < n) (h : n < 4611686018427387904) : wrap64 ((n : Int) - 1) = ((n - 1 : Nat) : Int) := by
 rw [wrap_id (by omega) (by omega)]
 omega
theorem nat_nonneg (n : Nat) : (0 ≤ (n : Int)) = True := eq_true (Int.natCast_nonneg n)
/-- Bytes, and not too many. -/
structure U8 (l : List Int) : Prop where
 b : ∀ y,y ∈ l → (Lit.int .u8 y).wf = true
 n : l.length ≤ 140737488351232
theorem u8_bound {y : Int} (h : (Lit.int .u8 y).wf = true) : 0 ≤ y ∧ y ≤ 255 := by
 simp [Lit.wf,IntKind.min,IntKind.max,IntKind.bits,IntKind.signed] at h
 omega
theorem and255 (x : Int) : 0 ≤ Go.bits .and .u64 x 255 ∧ Go.bits .and .u64 x 255 ≤ 255 := by
 have h : ((BitVec.ofInt 64 x &&& BitVec.ofInt 64 255).toNat : Nat) ≤ 255 := by
  rw [BitVec.toNat_and]
  exact Nat.le_trans Nat.and_le_right (by decide)
 have e : Go.bits .and .u64 x 255 = ((((BitVec.ofInt 64 x &&& BitVec.ofInt 64 255).toNat : Nat) : Int) % 18446744073709551616) := by
  unfold Go.bits IntKind.wrap
  simp only [IntKind.signed,Bool.false_and,Bool.false_eq_true,if_false]
  rfl
 rw [e]
 generalize (BitVec.ofInt 64 x &&& BitVec.ofInt 64 255).toNat = n at h
 omega
/-- The reader at a answers what P says and goes on by no more than n. -/
def Res {α : Type} (f : Option (α × Int × Int)) (a n : Int) (P : α → Prop) : Prop := ∃ r a' s',f = some (r,a',s') ∧ P r ∧ a ≤ a' ∧ a' ≤ a + n
theorem next_ok {l : List Int} (hu : U8 l) {a : Int} (s : Int) (h0 : 0 ≤ a) (h1 : a ≤ 1000000000000) : Res (spec_l1Cur_next.f l a s) a 1 (fun r => 0 ≤ r ∧ r ≤ 255) := by
 have hw : wrap64 (a + 1) = a + 1 := wrap_id (by omega) (by omega)
 unfold spec_l1Cur_next.f
 rw [hw]
 have low : ∀ x : Int,0 ≤ wrap64 (Go.bits .and .u64 x 255) ∧ wrap64 (Go.bits .and .u64 x 255) ≤ 255 := fun x => by
  have := and255 x
  rw [wrap_id (by omega) (by omega)]
  exact this
 by_cases h2 : a < (l.length : Int)
 ·have hr : 0 ≤ rd l a ∧ rd l a ≤ 255 := by
   have hlt : a.toNat < l.length := by omega
   have e : rd l a = l[a.toNat] := by
    show l.getD a.toNat 0 = _
    rw [List.getD_eq_getElem?_getD,List.getElem?_eq_getElem hlt]
    rfl
   rw [e]
   exact u8_bound (hu.b _ (List.getElem_mem _))
  have hwr : wrap64 (rd l a) = rd l a := wrap_id (by omega) (by omega)
  rw [if_pos h2,if_pos h0,hwr]
  by_cases h3 : a + 1 ≤ (l.length : Int)
  ·rw [if_pos h3]
   exact ⟨_,_,_,rfl,hr,by omega,by omega⟩
  ·rw [if_neg h3]
   refine ⟨_,_,_,rfl,?_,by omega,by omega⟩
   exact low _
 ·rw [if_neg h2]
  by_cases h3 : a + 1 ≤ (l.length : Int)
  ·rw [if_pos h3]
   exact ⟨_,_,_,rfl,⟨by decide,by decide⟩,by omega,by omega⟩
  ·rw [if_neg h3]
   exact ⟨_,_,_,rfl,low _,by omega,by omega⟩
theorem pick_ok {l : List Int} (hu : U8 l) {a : Int} (s : Int) (h0 : 0 ≤ a) (h1 : a ≤ 999999999990) (n : Int) (hn : 1 ≤ n) (hm : n ≤ 1000000) : Res (spec_l1Cur_pick.f l a s n) a 2 (fun r => 0 ≤ r ∧ r < n) := by
 unfold spec_l1Cur_pick.f
 by_cases h2 : n ≤ 1
 ·rw [if_pos h2]
  exact ⟨_,_,_,rfl,⟨by omega,by omega⟩,by omega,by omega⟩
 ·rw [if_neg h2]
  obtain ⟨x,a1,s1,e1,⟨x0,x1⟩,p1,p2⟩ := next_ok hu s h0 (by omega)
  rw [e1]
  simp only [Option.bind_some,eq_false (show ¬ n = 0 by omega),if_false]
  by_cases h3 : n > 200
  ·obtain ⟨y,a2,s2,e2,⟨y0,y1⟩,q1,q2⟩ := next_ok hu s1 (a := a1) (by omega) (by omega)
   simp only [eq_true h3,if_true,e2,Option.bind_some]
   refine ⟨_,_,_,rfl,?_,by omega,by omega⟩
   rw [wrap_id (x := x * 256) (by omega) (by omega),wrap_id (by omega) (by omega),Int.tmod_eq_emod_of_nonneg (by omega)]
   exact ⟨Int.emod_nonneg _ (by omega),Int.emod_lt_of_pos _ (by omega)⟩
  ·simp only [eq_false h3,if_false]
   refine ⟨_,_,_,rfl,?_,by omega,by omega⟩
   rw [Int.tmod_eq_emod_of_nonneg (by omega)]
   exact ⟨Int.emod_nonneg _ (by omega),Int.emod_lt_of_pos _ (by omega)⟩
theorem one_ok {l : List Int} (hu : U8 l) {a : Int} (s : Int) (h0 : 0 ≤ a) (h1 : a ≤ 999999999990) (n : Int) (hn : 1 ≤ n) (hm : n ≤ 1000000) : Res (spec_l1Cur_one.f l a s n) a 2 (fun _ => True) := by
 obtain ⟨x,a1,s1,e1,_,p1,p2⟩ := pick_ok hu s h0 h1 n hn hm
 unfold spec_l1Cur_one.f
 rw [e1]
 exact ⟨_,_,_,rfl,trivial,p1,p2⟩
theorem among_ok {l : List Int} (hu : U8 l) {a : Int} (s : Int) (h0 : 0 ≤ a) (h1 : a ≤ 999999999990) (L : List Int) (hn : 0 < L.length) (hm : L.length ≤ 1000000) : Res (spec_l1Cur_among.f l a s L) a 2 (fun r => r ∈ L) := by
 obtain ⟨x,a1,s1,e1,⟨x0,x1⟩,p1,p2⟩ := pick_ok hu s h0 h1 (L.length : Int) (by omega) (by omega)
 unfold spec_l1Cur_among.f
 rw [e1]
 simp only [Option.bind_some,eq_true x0,eq_true x1,if_true]
 refine ⟨_,_,_,rfl,?_,p1,p2⟩
 have hlt : x.toNat < L.length := by omega
 have e : rd L x = L[x.toNat] := by
  show L.getD x.toNat 0 = _
  rw [List.getD_eq_getElem?_getD,List.getElem?_eq_getElem hlt]
  rfl
 rw [e]
 exact List.getElem_mem _
def inB (a b c : Int) : Bool := decide (b ≤ a ∧ a ≤ c)
theorem l1In_eq (a b c : Int) : spec_l1In.f a b c = some (inB a b c) := by
 unfold spec_l1In.f inB
 split <;> simp <;> omega
theorem within_eq (a b c : Int) : impl_within.f a b c = some (inB a b c) := by
 unfold impl_within.f inB
 split <;> simp <;> omega
def capAt (s : ByteArray) (j : Nat) : Bool := decide (65 ≤ bt s j ∧ bt s j ≤ 90)
def glossB (s : ByteArray) : Bool := inB s.size 1 8 && (List.range s.size).all (capAt s)
def caps : ByteArray := ⟨#[65,66,67,68,69,70,71,72,73,74,75,76,77,78,79,80,81,82,83,84,85,86,87,88,89,90]⟩
theorem caps_all : ((List.range 256).all fun n => decide (Lib.indexByte caps.data.toList n.toUInt8 < 0) == !(decide (65 ≤ n ∧ n ≤ 90))) = true := by decide +kernel
theorem caps_index (b : Int) (h0 : 0 ≤ b) (h1 : b ≤ 255) : (Lib.indexByte caps.data.toList b.toNat.toUInt8 < 0) ↔ ¬ (65 ≤ b ∧ b ≤ 90) := by
 have h := List.all_eq_true.1 caps_all b.toNat (List.mem_range.2 (by omega))
 simp only [beq_iff_eq] at h
 by_cases hc : 65 ≤ b ∧ b ≤ 90
 ·have h2 : decide (65 ≤ b.toNat ∧ b.toNat ≤ 90) = true := decide_eq_true (by omega)
  rw [h2] at h
  exact ⟨fun h3 => absurd h3 (of_decide_eq_false h),fun h3 => absurd hc h3⟩
 ·have h2 : decide (65 ≤ b.toNat ∧ b.toNat ≤ 90) = false := decide_eq_false (by omega)
  rw [h2] at h
  exact ⟨fun _ => hc,fun _ => of_decide_eq_true h⟩
theorem hasOnly_ev (s : ByteArray) (hs : s.size < 4611686018427387904) : Ev (fun k => impl_hasOnly.f k s caps) ((List.range s.size).all (capAt s)) := by
 unfold impl_hasOnly.f
 refine Ev.eq (Ev.all0 (L := fun k j => impl_hasOnly.l0 k s caps (s.size : Int) (j : Int)) (P := capAt s) (n := s.size) (a := true) (b := false) ?_ ?_ ?_) (by split <;> simp_all)
 ·refine Ev.succ ?_
  simp only [impl_hasOnly.l0,Int.lt_irrefl,if_false]
  exact Ev.now _
 ·intro j r hj hP h
  refine Ev.succ ?_
  have h1 : ((j : Int) < (s.size : Int)) = True := eq_true (by omega)
  have hb := bt_range s (j : Int)
  have h2 : (Lib.indexByte caps.data.toList (bt s (j : Int)).toNat.toUInt8 < 0) = False := eq_false (fun hc => (caps_index _ hb.1 hb.2).1 hc (of_decide_eq_true hP))
  simp only [impl_hasOnly.l0,strings_IndexByte.f,Option.bind_some,h1,if_true,nat_nonneg,h2,if_false,wrap_succ (show j < 4611686018427387904 by omega)]
  exact h
 ·intro j hj hP
  refine Ev.succ ?_
  have h1 : ((j : Int) < (s.size : Int)) = True := eq_true (by omega)
  have hb := bt_range s (j : Int)
  have h2 : (Lib.indexByte caps.data.toList (bt s (j : Int)).toNat.toUInt8 < 0) = True := eq_true ((caps_index _ hb.1 hb.2).2 (of_decide_eq_false hP))
  simp only [impl_hasOnly.l0,strings_IndexByte.f,Option.bind_some,h1,if_true,nat_nonneg,h2]
  exact Ev.now _
theorem isGloss_ev (s : ByteArray) (hs : s.size < 4611686018427387904) : Ev (fun k => impl_IsGloss.f k s) (glossB s) := by
 unfold impl_IsGloss.f impl_isWordOf.f glossB
 refine Ev.bind (a := inB s.size 1 8 && (List.range s.size).all (capAt s)) ?_ (Ev.now _)
 simp only [within_eq,Option.bind_some]
 rcases Bool.eq_false_or_eq_true (inB s.size 1 8) with h | h
 ·simp only [h,if_true,Bool.true_and]
  exact Ev.bind (hasOnly_ev s hs) (Ev.now _)
 ·simp only [h]
  exact Ev.now _
theorem of_ok {l : List Int} (hu : U8 l) {a : Int} (s : Int) (h0 : 0 ≤ a) (h1 : a ≤ 999999999990) (L : List ByteArray) (hn : 0 < L.length) (hm : L.length ≤ 1000000) : Res (spec_l1Cur_of.f l a s L) a 2 (fun r => r ∈ L) := by
 obtain ⟨x,a1,s1,e1,⟨x0,x1⟩,p1,p2⟩ := pick_ok hu s h0 h1 (L.length : Int) (by omega) (by omega)
 unfold spec_l1Cur_of.f
 rw [e1]
 simp only [Option.bind_some,eq_true x0,eq_true x1,if_true]
 refine ⟨_,_,_,rfl,?_,p1,p2⟩
 have hlt : x.toNat < L.length := by omega
 have e : rdOf ByteArray.empty L x = L[x.toNat] := by
  show L.getD x.toNat ByteArray.empty = _
  rw [List.getD_eq_getElem?_getD,List.getElem?_eq_getElem hlt]
  rfl
 rw [e]
 exact List.getElem_mem _
def Short (g : ByteArray) : Prop := g.size ≤ 10
theorem short_cons {g : ByteArray} {L : List ByteArray} (h : Short g) (hL : ∀ x,x ∈ L → Short x) : ∀ x,x ∈ g :: L → Short x := fun x hx => by
 rcases List.mem_cons.1 hx with rfl | hx
 ·exact h
 ·exact hL x hx
theorem short_nil : ∀ x : ByteArray,x ∈ ([] : List ByteArray) → Short x := fun _ h => by cases h
theorem short_dec {g : ByteArray} (h : g.size ≤ 10) : Short g := h
theorem rdJ (l : List Int) (j : Nat) : rd l (j : Int) = l.getD j 0 := by simp [rd]
/-- The first place of x among d elements from j on, or -1. -/
def idxD (l : List Int) (x : Int) : Nat → Nat → Int
 | 0,_ => -1
 | d + 1,j => if l.getD j 0 = x then (j : Int) else idxD l x d (j + 1)
theorem idxD_nonneg (l : List Int) (x : Int) : ∀ d j,(0 ≤ idxD l x d j) ↔ ∃ i,j ≤ i ∧ i < j + d ∧ l.getD i 0 = x := by
 intro d
 induction d with
 | zero => intro j;simp only [idxD];constructor <;> intro h <;> omega
 | succ d ih =>
  intro j
  rw [idxD]
  by_cases h : l.getD j 0 = x
  ·rw [if_pos h]
   exact ⟨fun _ => ⟨j,by omega,by omega,h⟩,fun _ => by omega⟩
  ·rw [if_neg h,ih]
   constructor
   ·rintro ⟨i,h1,h2,h3⟩
    exact ⟨i,by omega,by omega,h3⟩
   ·rintro ⟨i,h1,h2,h3⟩
    have : i ≠ j := fun e => h (e ▸ h3)
    exact ⟨i,by omega,by omega,h3⟩
theorem getD_mem_iff (l : List Int) (x : Int) : (∃ i,0 ≤ i ∧ i < 0 + l.length ∧ l.getD i 0 = x) ↔ x ∈ l := by
 rw [List.mem_iff_getElem]
 constructor
 ·rintro ⟨i,_,h2,h3⟩
  refine ⟨i,by omega,?_⟩
  rw [← h3,List.getD_eq_getElem?_getD,List.getElem?_eq_getElem (by omega)]
  rfl
 ·rintro ⟨i,h2,h3⟩
  refine ⟨i,by omega,by omega,?_⟩
  rw [List.getD_eq_getElem?_getD,List.getElem?_eq_getElem h2]
  exact h3
theorem idxD_mem (l : List Int) (x : Int) : decide (idxD l x l.length 0 ≥ 0) = decide (x ∈ l) := by
 rw [decide_eq_decide]
 exact (idxD_nonneg l x l.length 0).trans (getD_mem_iff l x)
theorem index_l0 (l : List Int) (x : Int) (hl : l.length < 4611686018427387904) : ∀ d j,j + d = l.length → Ev (fun k => slices_Index_int.l0 k l x (l.length : Int) (j : Int)) (idxD l x d j) := by
 intro d
 induction d with
 | zero =>
  intro j hj
  refine Ev.succ ?_
  have h1 : ((j : Int) < (l.length : Int)) = False := eq_false (by omega)
  simp only [slices_Index_int.l0,h1,if_false,idxD]
  exact Ev.now _
 | succ d ih =>
  intro j hj
  refine Ev.succ ?_
  have h1 : ((j : Int) < (l.length : Int)) = True := eq_true (by omega)
  simp only [slices_Index_int.l0,h1,if_true,nat_nonneg,rdJ,wrap_succ (show j < 4611686018427387904 by omega),idxD]
  by_cases h : l.getD j 0 = x
  ·simp only [eq_true h,eq_true h.symm,if_true]
   exact Ev.now _
  ·simp only [eq_false h,eq_false (fun e : x = l.getD j 0 => h e.symm),if_false]
   exact ih (j + 1) (by omega)
theorem index_ev (l : List Int) (x : Int) (hl : l.length < 4611686018427387904) : Ev (fun k => slices_Index_int.f k l x) (idxD l x l.length 0) := by
 unfold slices_Index_int.f
 exact index_l0 l x hl l.length 0 (by omega)
theorem contains_ev (l : List Int) (x : Int) (hl : l.length < 4611686018427387904) : Ev (fun k => slices_Contains_int.f k l x) (decide (x ∈ l)) := by
 unfold slices_Contains_int.f
 refine Ev.bind (index_ev l x hl) ?_
 rw [idxD_mem]
 exact Ev.now _
theorem l1Has_l0 (l : List Int) (x : Int) (hl : l.length < 4611686018427387904) : ∀ d j,j + d = l.length → Ev (fun k => spec_l1Has.l0 k x l (l.length : Int) (j : Int)) (decide (idxD l x d j ≥ 0)) := by
 intro d
 induction d with
 | zero =>
  intro j hj
  refine Ev.succ ?_
  have h1 : ((j : Int) < (l.length : Int)) = False := eq_false (by omega)
  simp only [spec_l1Has.l0,h1,if_false,idxD]
  exact Ev.now _
 | succ d ih =>
  intro j hj
  refine Ev.succ ?_
  have h1 : ((j : Int) < (l.length : Int)) = True := eq_true (by omega)
  simp only [spec_l1Has.l0,h1,if_true,nat_nonneg,rdJ,wrap_succ (show j < 4611686018427387904 by omega),idxD]
  by_cases h : l.getD j 0 = x
  ·simp only [eq_true h,if_true]
   refine Ev.eq (Ev.now _) ?_
   simp
  ·simp only [eq_false h,if_false]
   exact ih (j + 1) (by omega)
theorem l1Has_ev (l : List Int) (x : Int) (hl : l.length < 4611686018427387904) : Ev (fun k => spec_l1Has.f k l x) (decide (x ∈ l)) := by
 unfold spec_l1Has.f
 rw [← idxD_mem]
 exact l1Has_l0 l x hl l.length 0 (by omega)
theorem pairs_lt (zs : List Int) (h : ∀ j,0 < j → (hj : j < zs.length) → zs[j - 1]'(by omega) < zs[j]) : ∀ (d i : Nat) (hi : i + d + 1 < zs.length),zs[i]'(by omega) < zs[i + d + 1] := by
 intro d
 induction d with
 | zero => intro i hi;exact h (i + 1) (by omega) hi
 | succ d ih =>
  intro i hi
  have h1 := ih i (by omega)
  have h2 := h (i + d + 1 + 1) (by omega) hi
  have h3 : zs[i + d + 1 + 1 - 1]'(by omega) = zs[i + d + 1]'(by omega) := by congr 1
  have h4 : zs[i + (d + 1) + 1] = zs[i + d + 1 + 1] := by congr 1
  omega
theorem compact_len_iff (zs : List Int) (hs : zs.Pairwise (· ≤ ·)) : (Lib.compact zs).length = zs.length ↔ zs.Nodup := by
 have e : (Lib.compact zs).length = ((List.range zs.length).filter (Lib.keeps zs.toArray)).length := by simp [Lib.compact,Lib.compactUpTo]
 rw [e]
 have e2 : ((List.range zs.length).filter (Lib.keeps zs.toArray)).length = zs.length ↔ ∀ j,j < zs.length → Lib.keeps zs.toArray j = true := by
  constructor
  ·intro h j hj
   have h' : ((List.range zs.length).filter (Lib.keeps zs.toArray)).length = (List.range zs.length).length := by rw [h,List.length_range]
   exact List.length_filter_eq_length_iff.1 h' j (List.mem_range.2 hj)
  ·intro h
   have := List.length_filter_eq_length_iff.2 (fun j hj => h j (List.mem_range.1 hj))
   rw [this,List.length_range]
 rw [e2]
 have hle := List.pairwise_iff_getElem.1 hs
 constructor
 ·intro h
  have hlt : ∀ j,0 < j → (hj : j < zs.length) → zs[j - 1]'(by omega) < zs[j] := by
   intro j h0 hj
   have h1 := hle (j - 1) j (by omega) hj (by omega)
   have h2 := h j hj
   have h3 : zs[j - 1]'(by omega) ≠ zs[j] := by
    intro e3
    have := Lib.keeps_neg (d := zs.toArray) h0 (by simp [getElem!_pos,show j < zs.length by omega,show j - 1 < zs.length by omega,e3])
    rw [this] at h2
    cases h2
   omega
  rw [List.Nodup,List.pairwise_iff_getElem]
  intro i j hi hj hij
  have := pairs_lt zs hlt (j - i - 1) i (by omega)
  have e4 : zs[i + (j - i - 1) + 1]'(by omega) = zs[j] := by congr 1;omega
  omega
 ·intro h j hj
  rw [List.Nodup,List.pairwise_iff_getElem] at h
  by_cases h0 : j = 0
  ·subst h0;exact Lib.keeps_lt_one _ 0 (by omega)
  ·refine Lib.keeps_pos ?_
   have := h (j - 1) j (by omega) hj (by omega)
   simp [getElem!_pos,show j < zs.length by omega,show j - 1 < zs.length by omega]
   exact fun e => this e.symm
theorem distinct_len (l : List Int) (hl : l.length < 17592186044416) : ∃ r,impl_distinct_int.f l = some r ∧ (r.length = l.length ↔ l.Nodup) := by
 unfold impl_distinct_int.f slices_Clone_int.f
 simp only [Option.bind_some,List.length_nil,Nat.zero_add,List.nil_append,eq_true hl,if_true]
 refine ⟨_,rfl,?_⟩
 have hp : (impl_distinct_int.sorted l).Perm l := List.mergeSort_perm _ _
 have hs : (impl_distinct_int.sorted l).Pairwise (· ≤ ·) := by
  have := List.pairwise_mergeSort (le := fun x y : Int => decide (x ≤ y)) (by intro a b c;simp;omega) (by intro a b;simp;omega) l
  exact this.imp (fun h => of_decide_eq_true h)
 rw [← hp.length_eq,compact_len_iff _ hs]
 exact hp.nodup_iff
theorem enGloss_ev (s : ByteArray) (hs : s.size < 4611686018427387904) : Ev (fun k => spec_enGloss.f k s) (glossB s) := by
 unfold spec_enGloss.f
 refine Ev.eq (Ev.all0 (L := fun k j => spec_enGloss.l0 k s (j : Int)) (P := capAt s) (n := s.size) (a := inB s.size 1 8) (b := false) ?_ ?_ ?_) (by unfold glossB;split <;> simp_all)
 ·refine Ev.succ ?_
  simp only [spec_enGloss.l0,Int.lt_irrefl,if_false,l1In_eq,Option.bind_some]
  exact Ev.now _
 ·intro j r hj hP h
  refine Ev.succ ?_
  have h1 : ((j : Int) < (s.size : Int)) = True := eq_true (by omega)
  have hP' := of_decide_eq_true hP
  simp only [spec_enGloss.l0,h1,if_true,nat_nonneg,show (bt s (j : Int) < 65) = False from eq_false (by omega),show (bt s (j : Int) > 90) = False from eq_false (by omega),if_false,wrap_succ (show j < 4611686018427387904 by omega)]
  exact h
 ·intro j hj hP
  refine Ev.succ ?_
  have h1 : ((j : Int) < (s.size : Int)) = True := eq_true (by omega)
  have hP' := of_decide_eq_false hP
  simp only [spec_enGloss.l0,h1,if_true,nat_nonneg]
  by_cases h2 : bt s (j : Int) < 65
  ·simp only [eq_true h2,if_true]
   exact Ev.now _
  ·simp only [eq_false h2,if_false,show (bt s (j : Int) > 90) = True from eq_true (by omega),if_true]
   exact Ev.now _
def wat (l : List S43) (j : Nat) : S43 := l.getD j z43
theorem rdw (l : List S43) (j : Nat) : rd_T43 l (j : Int) = wat l j := by simp [rd_T43,wat]
theorem wat_get (l : List S43) (j : Nat) (h : j < l.length) : wat l j = l[j] := by unfold wat;rw [List.getD_eq_getElem?_getD,List.getElem?_eq_getElem h];rfl
/-- All needs and glosses are few and short enough. -/
def WSz (l : List S43) : Prop := ∀ q,q ∈ l → q.f1.length ≤ 1048576 ∧ q.f0.size ≤ 1048576
theorem wsz_at {l : List S43} (hz : WSz l) {j : Nat} (hj : j < l.length) : (wat l j).f1.length ≤ 1048576 ∧ (wat l j).f0.size ≤ 1048576 := by rw [wat_get l j hj];exact hz _ (List.getElem_mem hj)
/-! strictly rising numbers within bounds -/
def riseAt (l : List Int) (a b : Int) (j : Nat) : Bool := inB (l.getD j 0) a b && (decide (j = 0) || decide (l.getD (j - 1) 0 < l.getD j 0))
def riseB (l : List Int) (a b : Int) : Bool := (List.range l.length).all (riseAt l a b)
theorem l1Rising_ev (l : List Int) (a b : Int) (hl : l.length < 4611686018427387904) : Ev (fun k => spec_l1Rising.f k l a b) (riseB l a b) := by
 unfold spec_l1Rising.f riseB
 refine Ev.eq (Ev.all0 (L := fun k j => spec_l1Rising.l0 k l a b l (l.length : Int) (j : Int)) (P := riseAt l a b) (n := l.length) (a := true) (b := false) ?_ ?_ ?_) (by split <;> simp_all)
 ·refine Ev.succ ?_
  simp only [spec_l1Rising.l0,Int.lt_irrefl,if_false]
  exact Ev.now _
 ·intro j r hj hP h
  refine Ev.succ ?_
  have h1 : ((j : Int) < (l.length : Int)) = True := eq_true (by omega)
  unfold riseAt at hP
  rw [Bool.and_eq_true] at hP
  simp only [spec_l1Rising.l0,h1,if_true,nat_nonneg,rdJ,l1In_eq,Option.bind_some,hP.1,wrap_succ (show j < 4611686018427387904 by omega)]
  by_cases h0 : j = 0
  ·subst h0
   simp only [Int.natCast_zero,gt_iff_lt,Int.lt_irrefl,if_false]
   exact h
  ·have h2 : ((j : Int) > 0) = True := eq_true (by omega)
   have h3 : (((j - 1 : Nat) : Int) < (l.length : Int)) = True := eq_true (by omega)
   have h4 := hP.2
   simp only [h0,decide_false,Bool.false_or,decide_eq_true_eq] at h4
   have h5 : (l.getD (j - 1) 0 ≥ l.getD j 0) = False := eq_false (by omega)
   simp only [h2,if_true,wrap_pred (show 0 < j by omega) (show j < 4611686018427387904 by omega),nat_nonneg,h3,rdJ,h5,if_false]
   exact h
 ·intro j hj hP
  refine Ev.succ ?_
  have h1 : ((j : Int) < (l.length : Int)) = True := eq_true (by omega)
  unfold riseAt at hP
  simp only [spec_l1Rising.l0,h1,if_true,nat_nonneg,rdJ,l1In_eq,Option.bind_some]
  rcases Bool.eq_false_or_eq_true (inB (l.getD j 0) a b) with hb | hb
  ·rw [hb,Bool.true_and,Bool.or_eq_false_iff,decide_eq_false_iff_not,decide_eq_false_iff_not] at hP
   have h2 : ((j : Int) > 0) = True := eq_true (by have := hP.1;omega)
   have h3 : (((j - 1 : Nat) : Int) < (l.length : Int)) = True := eq_true (by omega)
   have h5 : (l.getD (j - 1) 0 ≥ l.getD j 0) = True := eq_true (by have := hP.2;omega)
   simp only [hb,if_true,h2,wrap_pred (show 0 < j by have := hP.1;omega) (show j < 4611686018427387904 by omega),nat_nonneg,h3,rdJ,h5]
   exact Ev.now _
  ·simp only [hb,Bool.false_eq_true,if_false]
   exact Ev.now _
/-! the program's test of an order -/
def sortAt (l : List Int) (j : Nat) : Bool := decide (j = 0) || decide (l.getD (j - 1) 0 ≤ l.getD j 0)
def sortB (l : List Int) : Bool := (List.range l.length).all (sortAt l)
theorem less_eq (a b : Int) : cmp_Less_int.f a b = some (decide (a < b)) := by
 unfold cmp_Less_int.f cmp_isNaN_int.f
 simp
theorem isSorted_l0 (l : List Int) (hl : l.length < 4611686018427387904) : ∀ j,j < l.length → Ev (fun k => slices_IsSorted_int.l0 k l (j : Int)) ((List.range (j + 1)).all (sortAt l)) := by
 intro j
 induction j with
 | zero =>
  intro _
  refine Ev.succ ?_
  simp only [slices_IsSorted_int.l0,Int.natCast_zero,gt_iff_lt,Int.lt_irrefl,if_false]
  refine Ev.eq (Ev.now _) ?_
  simp [sortAt]
 | succ j ih =>
  intro hj
  refine Ev.succ ?_
  have h1 : (((j + 1 : Nat) : Int) > 0) = True := eq_true (by omega)
  have h2 : (((j + 1 : Nat) : Int) < (l.length : Int)) = True := eq_true (by omega)
  have h3 : ((j : Int) < (l.length : Int)) = True := eq_true (by omega)
  have h4 : wrap64 (((j + 1 : Nat) : Int) - 1) = (j : Int) := by rw [wrap_id (by omega) (by omega)];omega
  simp only [slices_IsSorted_int.l0,h1,h2,if_true,nat_nonneg,h4,h3,rdJ,less_eq,Option.bind_some]
  rw [List.range_succ,List.all_append]
  by_cases h5 : l.getD (j + 1) 0 < l.getD j 0
  ·simp only [h5,decide_true,if_true]
   refine Ev.eq (Ev.now _) ?_
   have : sortAt l (j + 1) = false := by
    unfold sortAt
    simp only [Nat.add_sub_cancel,Bool.or_eq_false_iff,decide_eq_false_iff_not]
    exact ⟨by omega,by omega⟩
   simp [this]
  ·simp only [h5,decide_false,Bool.false_eq_true,if_false]
   refine Ev.eq (ih (by omega)) ?_
   have : sortAt l (j + 1) = true := by
    unfold sortAt
    simp only [Nat.add_sub_cancel,Bool.or_eq_true,decide_eq_true_eq]
    exact Or.inr (by omega)
   simp [this]
theorem isSorted_ev (l : List Int) (hl : l.length < 4611686018427387904) : Ev (fun k => slices_IsSorted_int.f k l) (sortB l) := by
 unfold slices_IsSorted_int.f sortB
 by_cases h0 : l.length = 0
 ·rw [h0]
  refine Ev.succ ?_
  simp only [slices_IsSorted_int.l0,show (wrap64 (((0 : Nat) : Int) - 1) > 0) = False from eq_false (by unfold wrap64;omega),if_false]
  exact Ev.now _
 ·rw [wrap_pred (by omega) (by omega)]
  refine Ev.eq (isSorted_l0 l hl (l.length - 1) (by omega)) ?_
  rw [show l.length - 1 + 1 = l.length by omega]
theorem rise_eq (l : List Int) (a b : Int) : riseB l a b = (l.all (fun x => decide (a ≤ x ∧ x ≤ b)) && (decide l.Nodup && sortB l)) := by
 have hg : ∀ i (hi : i < l.length),l.getD i 0 = l[i] := fun i hi => by rw [List.getD_eq_getElem?_getD,List.getElem?_eq_getElem hi];rfl
 rw [Bool.eq_iff_iff,Bool.and_eq_true,Bool.and_eq_true,riseB,sortB,List.all_eq_true,List.all_eq_true,List.all_eq_true,decide_eq_true_eq]
 constructor
 ·intro h
  have hlt : ∀ j,0 < j → (hj : j < l.length) → l[j - 1]'(by omega) < l[j] := by
   intro j h0 hj
   have h2 := h j (List.mem_range.2 hj)
   rw [riseAt,Bool.and_eq_true,Bool.or_eq_true,decide_eq_true_eq,decide_eq_true_eq,hg j hj,hg (j - 1) (by omega)] at h2
   rcases h2.2 with h3 | h3
   ·omega
   ·exact h3
  refine ⟨fun x hx => ?_,?_,fun j hj => ?_⟩
  ·obtain ⟨i,hi,rfl⟩ := List.getElem_of_mem hx
   have := h i (List.mem_range.2 hi)
   rw [riseAt,hg i hi,Bool.and_eq_true] at this
   exact this.1
  ·rw [List.Nodup,List.pairwise_iff_getElem]
   intro i j hi hj hij
   have := pairs_lt l hlt (j - i - 1) i (by omega)
   have e4 : l[i + (j - i - 1) + 1]'(by omega) = l[j] := by congr 1;omega
   omega
  ·have hj' := List.mem_range.1 hj
   rw [sortAt,Bool.or_eq_true,decide_eq_true_eq,decide_eq_true_eq]
   by_cases h0 : j = 0
   ·exact Or.inl h0
   ·refine Or.inr ?_
    rw [hg j hj',hg (j - 1) (by omega)]
    exact Int.le_of_lt (hlt j (by omega) hj')
 ·rintro ⟨h1,h2,h3⟩ j hj
  have hj' := List.mem_range.1 hj
  rw [riseAt,Bool.and_eq_true,hg j hj']
  refine ⟨h1 _ (List.getElem_mem hj'),?_⟩
  rw [Bool.or_eq_true,decide_eq_true_eq,decide_eq_true_eq]
  by_cases h0 : j = 0
  ·exact Or.inl h0
  ·have h4 := h3 j hj
   rw [sortAt,Bool.or_eq_true,decide_eq_true_eq,decide_eq_true_eq,hg j hj',hg (j - 1) (by omega)] at h4
   rw [List.Nodup,List.pairwise_iff_getElem] at h2
   have h5 := h2 (j - 1) j (by omega) hj' (by omega)
   rw [hg (j - 1) (by omega)]
   rcases h4 with h4 | h4
   ·exact absurd h4 h0
   ·exact Or.inr (by omega)
/-! words -/
def dupW (l : List S43) (s : ByteArray) : Bool := l.any fun x => decide (x.f0.toList = s.toList)
def topW (l : List S43) : Int := wrap64 ((l.length : Int) - 1)
def goodAt (l : List S43) (j : Nat) : Bool := glossB (wat l j).f0 && (riseB (wat l j).f1 0 (topW l) && (!(decide ((j : Int) ∈ (wat l j).f1)) && (inB (wat l j).f2 0 99999 && !(dupW (l.take j) (wat l j).f0))))
def wordsB (l : List S43) : Bool := (List.range l.length).all (goodAt l) && decide (l.length ≤ 16)
theorem leGood_l1 (l y : List S43) (j : Nat) (s : ByteArray) (n : List Int) (u : Int) (r : Bool) (hy : y.length < 4611686018427387904) (hc : dupW y s = false → Ev (fun k => spec_leGood.l0 k l l (l.length : Int) (wrap64 ((j : Int) + 1))) r) : ∀ d i,i + d = y.length → dupW (y.take i) s = false → Ev (fun k => spec_leGood.l1 k l l (l.length : Int) (j : Int) y (y.length : Int) (i : Int) s n u) (if dupW (y.drop i) s then false else r) := by
 intro d
 induction d with
 | zero =>
  intro i hi h0
  refine Ev.succ ?_
  have h1 : ((i : Int) < (y.length : Int)) = False := eq_false (by omega)
  rw [List.take_of_length_le (by omega)] at h0
  simp only [spec_leGood.l1,h1,if_false]
  rw [List.drop_of_length_le (by omega)]
  exact hc h0
 | succ d ih =>
  intro i hi h0
  refine Ev.succ ?_
  have hlt : i < y.length := by omega
  have h1 : ((i : Int) < (y.length : Int)) = True := eq_true (by omega)
  simp only [spec_leGood.l1,h1,if_true,nat_nonneg,rdw,wrap_succ (show i < 4611686018427387904 by omega)]
  have hdup : dupW (y.drop i) s = (decide (y[i].f0.toList = s.toList) || dupW (y.drop (i + 1)) s) := by rw [List.drop_eq_getElem_cons hlt];unfold dupW;rw [List.any_cons]
  rw [hdup,wat_get y i hlt]
  by_cases h2 : y[i].f0.toList = s.toList
  ·simp only [eq_true h2,if_true,decide_true,Bool.true_or]
   exact Ev.now _
  ·simp only [eq_false h2,if_false,decide_false,Bool.false_or]
   refine ih (i + 1) (by omega) ?_
   rw [List.take_succ_eq_append_getElem hlt]
   unfold dupW at h0 ⊢
   rw [List.any_append,h0]
   simp [h2]
theorem leGood_j1 (l : List S43) (j : Nat) (b : Bool) (r : Bool) (s : ByteArray) (n : List Int) (u : Int) (hl : l.length ≤ 1048576) (hj : j < l.length) (hc : b = false → dupW (l.take j) s = false → Ev (fun k => spec_leGood.l0 k l l (l.length : Int) (wrap64 ((j : Int) + 1))) r) : Ev (fun k => spec_leGood.j1 k l (j : Int) l (l.length : Int) (j : Int) b s n u) (if b || dupW (l.take j) s then false else r) := by
 refine Ev.succ ?_
 cases b with
 | true =>
  simp only [spec_leGood.j1,if_true]
  exact Ev.now _
 | false =>
  have h2 : ((j : Int) ≤ (l.length : Int)) = True := eq_true (by omega)
  simp only [spec_leGood.j1,Bool.false_eq_true,if_false,nat_nonneg,h2,if_true,Option.bind_some,Int.toNat_natCast,Bool.false_or]
  have := leGood_l1 l (l.take j) j s n u r (by rw [List.length_take];omega) (hc rfl) (l.take j).length 0 (by omega) (by simp [dupW])
  rw [List.drop_zero] at this
  exact this
theorem leGood_step (l : List S43) (j : Nat) (r : Bool) (hl : l.length ≤ 1048576) (hz : WSz l) (hj : j < l.length) (hc : goodAt l j = true → Ev (fun k => spec_leGood.l0 k l l (l.length : Int) ((j + 1 : Nat) : Int)) r) : Ev (fun k => spec_leGood.l0 k l l (l.length : Int) (j : Int)) (if goodAt l j then r else false) := by
 refine Ev.succ ?_
 have h1 : ((j : Int) < (l.length : Int)) = True := eq_true (by omega)
 obtain ⟨z1,z0⟩ := wsz_at hz hj
 rw [← wrap_succ (show j < 4611686018427387904 by omega)] at hc
 simp only [spec_leGood.l0,h1,if_true,nat_nonneg,rdw]
 refine Ev.bind (enGloss_ev _ (by omega)) ?_
 cases hg : glossB (wat l j).f0 with
 | false =>
  have e : goodAt l j = false := by unfold goodAt;rw [hg,Bool.false_and]
  rw [e]
  simp only [Bool.false_eq_true,if_false]
  exact Ev.eq (leGood_j1 l j true r _ _ _ hl hj (fun h => nomatch h)) rfl
 | true =>
  simp only [if_true]
  refine Ev.bind (l1Rising_ev _ _ _ (by omega)) ?_
  change Ev (fun k => if riseB (wat l j).f1 0 (topW l) = true then _ else _) _
  cases hr : riseB (wat l j).f1 0 (topW l) with
  | false =>
   have e : goodAt l j = false := by unfold goodAt;rw [hg,hr,Bool.false_and,Bool.and_false]
   rw [e]
   simp only [Bool.false_eq_true,if_false]
   exact Ev.eq (leGood_j1 l j true r _ _ _ hl hj (fun h => nomatch h)) rfl
  | true =>
   simp only [if_true]
   refine Ev.bind (l1Has_ev _ _ (by omega)) ?_
   cases hh : decide ((j : Int) ∈ (wat l j).f1) with
   | true =>
    have e : goodAt l j = false := by unfold goodAt;rw [hg,hr,hh];rfl
    rw [e]
    simp only [if_true]
    exact Ev.eq (leGood_j1 l j true r _ _ _ hl hj (fun h => nomatch h)) rfl
   | false =>
    simp only [Bool.false_eq_true,if_false,l1In_eq,Option.bind_some]
    cases hi : inB (wat l j).f2 0 99999 with
    | false =>
     have e : goodAt l j = false := by unfold goodAt;rw [hg,hr,hh,hi];rfl
     rw [e]
     exact Ev.eq (leGood_j1 l j true r _ _ _ hl hj (fun h => nomatch h)) rfl
    | true =>
     have e : goodAt l j = !(dupW (l.take j) (wat l j).f0) := by unfold goodAt;rw [hg,hr,hh,hi];rfl
     rw [e] at hc ⊢
     refine Ev.eq (leGood_j1 l j false r _ _ _ hl hj (fun _ h => hc (by rw [h];rfl))) ?_
     cases dupW (l.take j) (wat l j).f0 <;> rfl
theorem leGood_ev (l : List S43) (hl : l.length ≤ 1048576) (hz : WSz l) : Ev (fun k => spec_leGood.f k l) (wordsB l) := by
 unfold spec_leGood.f wordsB
 refine Ev.eq (Ev.all0 (L := fun k j => spec_leGood.l0 k l l (l.length : Int) (j : Int)) (P := goodAt l) (n := l.length) (a := decide (l.length ≤ 16)) (b := false) ?_ ?_ ?_) (by cases (List.range l.length).all (goodAt l) <;> simp)
 ·refine Ev.succ ?_
  simp only [spec_leGood.l0,Int.lt_irrefl,if_false]
  refine Ev.eq (Ev.now _) ?_
  rw [decide_eq_decide]
  omega
 ·intro j r hj hP h
  have := leGood_step l j r hl hz hj (fun _ => h)
  rw [hP,if_pos rfl] at this
  exact this
 ·intro j hj hP
  have := leGood_step l j false hl hz hj (fun h => by rw [hP] at h;cases h)
  rw [hP] at this
  exact this
theorem areWords_j2 (l : List S43) (j : Nat) (b : Bool) (r : Bool) (s : ByteArray) (n : List Int) (u : Int) (hj : j < l.length) (hc : b = false → dupW (l.take j) s = false → Ev (fun k => impl_AreWords.l0 k l l (l.length : Int) (wrap64 ((j : Int) + 1))) r) : Ev (fun k => impl_AreWords.j2 k l (j : Int) l (l.length : Int) (j : Int) b s n u) (if b || dupW (l.take j) s then false else r) := by
 refine Ev.succ ?_
 cases b with
 | true =>
  simp only [impl_AreWords.j2,if_true]
  exact Ev.now _
 | false =>
  have h2 : ((j : Int) ≤ (l.length : Int)) = True := eq_true (by omega)
  simp only [impl_AreWords.j2,Bool.false_eq_true,if_false,nat_nonneg,h2,if_true,Option.bind_some,Int.toNat_natCast,Bool.false_or,slices_ContainsFunc_impl_Word.f]
  change Ev (fun k => if dupW (l.take j) s = true then _ else _) _
  cases h3 : dupW (l.take j) s with
  | true => simp only [if_true];exact Ev.now _
  | false => simp only [Bool.false_eq_true,if_false];exact hc rfl h3
theorem areWords_j1 (l : List S43) (j : Nat) (b : Bool) (r : Bool) (s : ByteArray) (n : List Int) (u : Int) (hn : n.length ≤ 1048576) (hj : j < l.length) (hc : b = false → (decide n.Nodup && sortB n) = true → dupW (l.take j) s = false → Ev (fun k => impl_AreWords.l0 k l l (l.length : Int) (wrap64 ((j : Int) + 1))) r) : Ev (fun k => impl_AreWords.j1 k l (j : Int) l (l.length : Int) (j : Int) b s n u) (if b || (!(decide n.Nodup && sortB n) || dupW (l.take j) s) then false else r) := by
 refine Ev.succ ?_
 cases b with
 | true =>
  simp only [impl_AreWords.j1,if_true]
  exact Ev.now _
 | false =>
  obtain ⟨t,ht,hd⟩ := distinct_len n (by omega)
  simp only [impl_AreWords.j1,Bool.false_eq_true,if_false,ht,Option.bind_some,Bool.false_or]
  by_cases h3 : n.Nodup
  ·have h4 : ((t.length : Int) = (n.length : Int)) = True := eq_true (by have := hd.2 h3;omega)
   simp only [h4,if_true]
   refine Ev.bind (isSorted_ev n (by omega)) ?_
   refine Ev.eq (areWords_j2 l j (!sortB n) r s n u hj (fun h => hc rfl (by simp [h3];simpa using h))) ?_
   simp [h3]
  ·have h4 : ((t.length : Int) = (n.length : Int)) = False := eq_false (fun e => h3 (hd.1 (by omega)))
   simp only [h4,if_false]
   refine Ev.eq (areWords_j2 l j true r s n u hj (fun h => nomatch h)) ?_
   simp [h3]
theorem areWords_step (l : List S43) (j : Nat) (r : Bool) (hz : WSz l) (hj : j < l.length) (hl : l.length ≤ 1048576) (hc : goodAt l j = true → Ev (fun k => impl_AreWords.l0 k l l (l.length : Int) ((j + 1 : Nat) : Int)) r) : Ev (fun k => impl_AreWords.l0 k l l (l.length : Int) (j : Int)) (if goodAt l j then r else false) := by
 refine Ev.succ ?_
 have h1 : ((j : Int) < (l.length : Int)) = True := eq_true (by omega)
 obtain ⟨z1,z0⟩ := wsz_at hz hj
 rw [← wrap_succ (show j < 4611686018427387904 by omega)] at hc
 simp only [impl_AreWords.l0,h1,if_true,nat_nonneg,rdw,impl_allWithin.f,within_eq,Option.bind_some]
 refine Ev.bind (isGloss_ev _ (by omega)) ?_
 have hE : goodAt l j = (glossB (wat l j).f0 && (((wat l j).f1.all (fun x => decide (0 ≤ x ∧ x ≤ topW l)) && (decide (wat l j).f1.Nodup && sortB (wat l j).f1)) && (!(decide ((j : Int) ∈ (wat l j).f1)) && (inB (wat l j).f2 0 99999 && !(dupW (l.take j) (wat l j).f0))))) := by unfold goodAt;rw [rise_eq]
 change Ev (fun k => if glossB (wat l j).f0 = true then (if inB (wat l j).f2 0 99999 = true then (if ((wat l j).f1.all fun x => decide (0 ≤ x ∧ x ≤ topW l)) = true then _ else _) else _) else _) _
 cases hg : glossB (wat l j).f0 with
 | false =>
  have e : goodAt l j = false := by rw [hE,hg,Bool.false_and]
  rw [e]
  simp only [Bool.false_eq_true,if_false]
  exact Ev.eq (areWords_j1 l j true r _ _ _ z1 hj (fun h => nomatch h)) rfl
 | true =>
  simp only [if_true]
  cases hi : inB (wat l j).f2 0 99999 with
  | false =>
   have e : goodAt l j = false := by rw [hE,hi,Bool.false_and,Bool.and_false,Bool.and_false,Bool.and_false]
   rw [e]
   simp only [Bool.false_eq_true,if_false]
   exact Ev.eq (areWords_j1 l j true r _ _ _ z1 hj (fun h => nomatch h)) rfl
  | true =>
   simp only [if_true]
   cases hw : ((wat l j).f1.all fun x => decide (0 ≤ x ∧ x ≤ topW l)) with
   | false =>
    have e : goodAt l j = false := by rw [hE,hw,Bool.false_and,Bool.false_and,Bool.and_false]
    rw [e]
    simp only [Bool.false_eq_true,if_false]
    exact Ev.eq (areWords_j1 l j true r _ _ _ z1 hj (fun h => nomatch h)) rfl
   | true =>
    simp only [if_true]
    refine Ev.bind (contains_ev _ _ (by omega)) ?_
    rw [hE,hg,hi,hw] at hc
    rw [hE,hg,hi,hw]
    refine Ev.eq (areWords_j1 l j _ r _ _ _ z1 hj (fun h1 h2 h3 => hc (by rw [h1,h2,h3];rfl))) ?_
    cases decide ((j : Int) ∈ (wat l j).f1) <;> cases (decide (wat l j).f1.Nodup && sortB (wat l j).f1) <;> cases dupW (l.take j) (wat l j).f0 <;> rfl
theorem areWords_ev (l : List S43) (hl : l.length ≤ 1048576) (hz : WSz l) : Ev (fun k => impl_AreWords.f k l) (wordsB l) := by
 unfold impl_AreWords.f wordsB
 refine Ev.eq (Ev.all0 (L := fun k j => impl_AreWords.l0 k l l (l.length : Int) (j : Int)) (P := goodAt l) (n := l.length) (a := decide (l.length ≤ 16)) (b := false) ?_ ?_ ?_) (by cases (List.range l.length).all (goodAt l) <;> simp)
 ·refine Ev.succ ?_
  simp only [impl_AreWords.l0,Int.lt_irrefl,if_false]
  refine Ev.eq (Ev.now _) ?_
  rw [decide_eq_decide]
  omega
 ·intro j r hj hP h
  have := areWords_step l j r hz hj hl (fun _ => h)
  rw [hP,if_pos rfl] at this
  exact this
 ·intro j hj hP
  have := areWords_step l j false hz hj hl (fun h => by rw [hP] at h;cases h)
  rw [hP] at this
  exact this
/-- Into any row. -/
theorem putA_l0 (l : List Int) (x : Int) (hl : l.length ≤ 4000000) : ∀ d j,j + d = l.length → ∃ r : List Int,Ev (fun k => spec_l1Put.l0 k l x (j : Int)) r ∧ r.length ≤ l.length + 1 := by
 intro d
 induction d with
 | zero =>
  intro j hj
  refine ⟨l.take j ++ [x] ++ l.drop j,Ev.succ ?_,by simp only [List.length_append,List.length_take,List.length_drop,List.length_singleton];omega⟩
  have h1 : ((j : Int) < (l.length : Int)) = False := eq_false (by omega)
  have h2 : ((j : Int) ≤ (l.length : Int)) = True := eq_true (by omega)
  have h3 : (0 + (l.take j).length < 17592186044416) = True := eq_true (by rw [List.length_take];omega)
  have h4 : ((l.take j).length < 17592186044416) = True := eq_true (by rw [List.length_take];omega)
  have h5 : ((l.take j ++ [x]).length + (l.drop j).length < 17592186044416) = True := eq_true (by simp only [List.length_append,List.length_take,List.length_drop,List.length_singleton];omega)
  simp only [spec_l1Put.l0,h1,if_false,Option.bind_some,nat_nonneg,if_true,h2,Int.toNat_natCast,List.length_nil,h3,List.nil_append,h4,h5]
  exact Ev.now _
 | succ d ih =>
  intro j hj
  have hlt : j < l.length := by omega
  have h1 : ((j : Int) < (l.length : Int)) = True := eq_true (by omega)
  have h2 : ((j : Int) ≤ (l.length : Int)) = True := eq_true (by omega)
  have hg : l.getD j 0 = l[j] := by rw [List.getD_eq_getElem?_getD,List.getElem?_eq_getElem hlt];rfl
  by_cases h6 : l[j] < x
  ·obtain ⟨r,hr,hn⟩ := ih (j + 1) (by omega)
   refine ⟨r,Ev.succ ?_,hn⟩
   simp only [spec_l1Put.l0,h1,if_true,nat_nonneg,rdJ,hg,eq_true h6,wrap_succ (show j < 4611686018427387904 by omega)]
   exact hr
  ·by_cases h7 : l[j] = x
   ·refine ⟨l,Ev.succ ?_,by omega⟩
    simp only [spec_l1Put.l0,h1,if_true,nat_nonneg,rdJ,hg,eq_false h6,if_false,eq_true h7]
    exact Ev.now _
   ·refine ⟨l.take j ++ [x] ++ l.drop j,Ev.succ ?_,by simp only [List.length_append,List.length_take,List.length_drop,List.length_singleton];omega⟩
    have h3 : (0 + (l.take j).length < 17592186044416) = True := eq_true (by rw [List.length_take];omega)
    have h4 : ((l.take j).length < 17592186044416) = True := eq_true (by rw [List.length_take];omega)
    have h5 : ((l.take j ++ [x]).length + (l.drop j).length < 17592186044416) = True := eq_true (by simp only [List.length_append,List.length_take,List.length_drop,List.length_singleton];omega)
    simp only [spec_l1Put.l0,h1,if_true,nat_nonneg,rdJ,hg,eq_false h6,eq_false h7,if_false,Option.bind_some,h2,Int.toNat_natCast,List.length_nil,h3,List.nil_append,h4,h5]
    exact Ev.now _
theorem putA_ev (l : List Int) (x : Int) (hl : l.length ≤ 4000000) : ∃ r : List Int,Ev (fun k => spec_l1Put.f k l x) r ∧ r.length ≤ l.length + 1 := by
 unfold spec_l1Put.f
 exact putA_l0 l x hl l.length 0 (by omega)
def WSh (n : Nat) (l : List S43) : Prop := ∀ q,q ∈ l → q.f1.length ≤ n ∧ Short q.f0
theorem WSh.wsz {n : Nat} {l : List S43} (h : WSh n l) (hn : n ≤ 1048576) : WSz l := fun q hq => by
 obtain ⟨h1,h2⟩ := h q hq
 unfold Short at h2
 exact ⟨by omega,by omega⟩
theorem WSh.mono {n m : Nat} {l : List S43} (h : WSh n l) (hn : n ≤ m) : WSh m l := fun q hq => ⟨Nat.le_trans (h q hq).1 hn,(h q hq).2⟩
theorem WSh.snoc {n : Nat} {l : List S43} (h : WSh n l) {x : S43} (h1 : x.f1.length ≤ n) (h2 : Short x.f0) : WSh n (l ++ [x]) := fun y hy => by
 rcases List.mem_append.1 hy with hy | hy
 ·exact h y hy
 ·rw [List.mem_singleton.1 hy];exact ⟨h1,h2⟩
theorem WSh.set {n : Nat} {l : List S43} (h : WSh n l) {x : S43} (i : Nat) (h1 : x.f1.length ≤ n) (h2 : Short x.f0) : WSh n (l.set i x) := fun y hy => by
 rcases List.mem_or_eq_of_mem_set hy with hy | hy
 ·exact h y hy
 ·rw [hy];exact ⟨h1,h2⟩
theorem WSh.at {n : Nat} {l : List S43} (h : WSh n l) (i : Int) : (rd_T43 l i).f1.length ≤ n ∧ Short (rd_T43 l i).f0 := by
 have e : rd_T43 l i = wat l i.toNat := rfl
 rw [e]
 by_cases hi : i.toNat < l.length
 ·rw [wat_get l _ hi]
  exact h _ (List.getElem_mem hi)
 ·unfold wat
  rw [List.getD_eq_getElem?_getD,List.getElem?_eq_none (by omega)]
  exact ⟨Nat.zero_le _,Nat.zero_le _⟩
def letters17 : ByteArray := ⟨#[65,66,67,68,69,70,71,72,73,74,75,76,77,78,79,80,81]⟩
theorem words_l2 {l : List Int} {a s : Int} (N : Nat) (hN : N ≤ 17) : ∀ (d : Nat) (x3 : List S43),x3.length + d = N → WSh 10 x3 → ∃ L,Ev (fun k => spec_l1Cur_words.l2 k x3 (N : Int) l a s) (L,a,s) ∧ L.length ≤ 17 ∧ WSh 10 L := by
 intro d
 induction d with
 | zero =>
  intro x3 hd hs
  refine ⟨x3,Ev.succ ?_,by omega,hs⟩
  simp only [spec_l1Cur_words.l2,show ((x3.length : Int) < (N : Int)) = False from eq_false (by omega),if_false]
  exact Ev.now _
 | succ d ih =>
  intro x3 hd hs
  have e1 : (letters17.extract x3.length (x3.length + 1)).size = 1 := by
   rw [ByteArray.size_extract]
   have : letters17.size = 17 := rfl
   omega
  have hw : wrap64 ((x3.length : Int) + 1) = ((x3.length + 1 : Nat) : Int) := wrap_succ (by omega)
  have hlet : (⟨#[65,66,67,68,69,70,71,72,73,74,75,76,77,78,79,80,81]⟩ : ByteArray) = letters17 := rfl
  obtain ⟨L,hE,hL,hS⟩ := ih (x3 ++ [(⟨(⟨#[88]⟩ : ByteArray) ++ letters17.extract x3.length (x3.length + 1),([] : List Int),5⟩ : S43)]) (by rw [List.length_append,List.length_singleton];omega) (hs.snoc (by simp) (by
   show (_ ++ _ : ByteArray).size ≤ 10
   rw [ByteArray.size_append,e1]
   decide))
  refine ⟨L,Ev.succ ?_,hL,hS⟩
  simp only [spec_l1Cur_words.l2,show ((x3.length : Int) < (N : Int)) = True from eq_true (by omega),if_true,nat_nonneg,hw,hlet,e1,show ((x3.length : Int) ≤ ((x3.length + 1 : Nat) : Int)) = True from eq_true (by omega),show (((x3.length + 1 : Nat) : Int) ≤ 17) = True from eq_true (by omega),show (1 + 1 ≤ 9223372036854775807) = True from eq_true (by decide),show (x3.length < 2932031007402) = True from eq_true (by omega)]
  exact hE
def names7 : List ByteArray := [(⟨#[83,85,78]⟩ : ByteArray),(⟨#[72,79,85,83,69]⟩ : ByteArray),(⟨#[84,82,69,69]⟩ : ByteArray),(⟨#[82,65,73,78]⟩ : ByteArray),(⟨#[66,79,79,75]⟩ : ByteArray),(⟨#[69,73,71,72,84,76,69,84]⟩ : ByteArray),(⟨#[65]⟩ : ByteArray)]
theorem names7_short : ∀ x,x ∈ names7 → Short x := short_cons (short_dec (by decide)) (short_cons (short_dec (by decide)) (short_cons (short_dec (by decide)) (short_cons (short_dec (by decide)) (short_cons (short_dec (by decide)) (short_cons (short_dec (by decide)) (short_cons (short_dec (by decide)) short_nil))))))
theorem anyGloss_ok {l : List Int} (hu : U8 l) {a : Int} (s : Int) (h0 : 0 ≤ a) (h1 : a ≤ 999999999900) : Res (spec_l1Cur_anyGloss.f l a s) a 4 Short := by
 obtain ⟨y2,a2,s2,e2,m2,p2,q2⟩ := of_ok hu s h0 (by omega) [(⟨#[]⟩ : ByteArray),(⟨#[115,117,110]⟩ : ByteArray),(⟨#[78,73,78,69,76,69,84,84,69]⟩ : ByteArray),(⟨#[65,49]⟩ : ByteArray),(⟨#[90,79,79]⟩ : ByteArray),(⟨#[65]⟩ : ByteArray)] (by simp) (by simp)
 obtain ⟨y3,a3,s3,e3,m3,p3,q3⟩ := of_ok hu s2 (a := a2) (by omega) (by omega) [(⟨#[83,85,78]⟩ : ByteArray),(⟨#[72,79,85,83,69]⟩ : ByteArray),(⟨#[84,82,69,69]⟩ : ByteArray),(⟨#[82,65,73,78]⟩ : ByteArray),(⟨#[66,79,79,75]⟩ : ByteArray),(⟨#[83,85,78]⟩ : ByteArray),y2] (by simp) (by simp)
 have h2 : Short y2 := short_cons (short_dec (by decide)) (short_cons (short_dec (by decide)) (short_cons (short_dec (by decide)) (short_cons (short_dec (by decide)) (short_cons (short_dec (by decide)) (short_cons (short_dec (by decide)) short_nil))))) _ m2
 have h3 : Short y3 := short_cons (short_dec (by decide)) (short_cons (short_dec (by decide)) (short_cons (short_dec (by decide)) (short_cons (short_dec (by decide)) (short_cons (short_dec (by decide)) (short_cons (short_dec (by decide)) (short_cons h2 short_nil)))))) _ m3
 unfold spec_l1Cur_anyGloss.f
 simp only [e2,e3,Option.bind_some]
 exact ⟨_,_,_,rfl,h3,by omega,by omega⟩
theorem words_l1 {l : List Int} (hu : U8 l) (x3 : List S43) (n : Int) (i : Nat) (g : ByteArray) (us a0 B : Int) (P : List S43 × Int × Int → Prop) (hx : x3.length ≤ 100) (hi : i ≤ 100) (h00 : 0 ≤ a0) (hB : B ≤ 999999999000)
  (hc : ∀ (nd : List Int) (a s : Int),nd.length ≤ i → a0 ≤ a → a ≤ B → ∃ r,Ev (fun k => spec_l1Cur_words.l0 k (x3 ++ [(⟨g,nd,us⟩ : S43)]) names7 n ((i + 1 : Nat) : Int) l a s) r ∧ P r) :
  ∀ (d q : Nat) (nd : List Int) (a s : Int),q + d = i → nd.length ≤ q → a0 ≤ a → a + 2 * d ≤ B → ∃ r,Ev (fun k => spec_l1Cur_words.l1 k x3 names7 n (i : Int) (q : Int) l a s g nd us) r ∧ P r := by
 intro d
 induction d with
 | zero =>
  intro q nd a s hq hn h0 h1
  obtain rfl : q = i := by omega
  obtain ⟨r,hE,hP⟩ := hc nd a s hn h0 (by omega)
  refine ⟨r,Ev.succ ?_,hP⟩
  simp only [spec_l1Cur_words.l1,show ((q : Int) < (q : Int)) = False from eq_false (by omega),if_false,show (x3.length < 2932031007402) = True from eq_true (by omega),if_true,wrap_succ (show q < 4611686018427387904 by omega)]
  exact hE
 | succ d ih =>
  intro q nd a s hq hn h0 h1
  obtain ⟨b,a1,s1,e1,_,p1,q1⟩ := one_ok hu s (a := a) (by omega) (by omega) 3 (by decide) (by decide)
  have hw : wrap64 ((q : Int) + 1) = ((q + 1 : Nat) : Int) := wrap_succ (by omega)
  have hlt : ((q : Int) < (i : Int)) = True := eq_true (by omega)
  cases b with
  | true =>
   obtain ⟨r,hE,hP⟩ := ih (q + 1) (nd ++ [(q : Int)]) a1 s1 (by omega) (by rw [List.length_append,List.length_singleton];omega) (by omega) (by omega)
   refine ⟨r,Ev.succ ?_,hP⟩
   simp only [spec_l1Cur_words.l1,hlt,if_true,e1,Option.bind_some,show (nd.length < 17592186044416) = True from eq_true (by omega),hw]
   exact hE
  | false =>
   obtain ⟨r,hE,hP⟩ := ih (q + 1) nd a1 s1 (by omega) (by omega) (by omega) (by omega)
   refine ⟨r,Ev.succ ?_,hP⟩
   simp only [spec_l1Cur_words.l1,hlt,if_true,e1,Option.bind_some,Bool.false_eq_true,if_false,hw]
   exact hE
theorem words_end {l : List Int} (hu : U8 l) (n : Nat) (hn : n ≤ 7) (x3 : List S43) (a s : Int) (hx : x3.length = n) (hs : WSh 7 x3) (h0 : 0 ≤ a) (h1 : a ≤ 999999998000) :
  ∃ r,Ev (fun k => spec_l1Cur_words.l0 k x3 names7 (n : Int) (n : Int) l a s) r ∧ (r.1.length ≤ 17 ∧ WSh 10 r.1 ∧ a ≤ r.2.1 ∧ r.2.1 ≤ a + 20) := by
 have hs10 := hs.mono (show 7 ≤ 10 by decide)
 by_cases hp : (n : Int) > 0
 ·obtain ⟨i,a1,s1,e1,⟨i0,i1⟩,p1,q1⟩ := pick_ok hu s h0 (by omega) (n : Int) (by omega) (by omega)
  obtain ⟨m,a2,s2,e2,_,p2,q2⟩ := pick_ok hu s1 (a := a1) (by omega) (by omega) 16 (by decide) (by decide)
  have hi : (i < (x3.length : Int)) = True := eq_true (by omega)
  obtain ⟨w1,w2⟩ := hs.at i
  by_cases c0 : m = 0
  ·obtain ⟨y,a3,s3,e3,_,p3,q3⟩ := pick_ok hu s2 (a := a2) (by omega) (by omega) (n : Int) (by omega) (by omega)
   obtain ⟨z,hz,hzl⟩ := putA_ev (rd_T43 x3 i).f1 y (by omega)
   refine ⟨(x3.set (i : Int).toNat (⟨(rd_T43 x3 i).f0,z,(rd_T43 x3 i).f2⟩ : S43),a3,s3),Ev.succ ?_,?_,hs10.set _ (by show z.length ≤ 10;omega) w2,by show a ≤ a3;omega,by show a3 ≤ a + 20;omega⟩
   ·simp only [spec_l1Cur_words.l0,show ((n : Int) < (n : Int)) = False from eq_false (by omega),if_false,eq_true hp,if_true,e1,e2,Option.bind_some,eq_true c0,eq_true i0,hi,e3]
    exact Ev.bind hz (Ev.now _)
   ·show (x3.set _ _).length ≤ 17
    rw [List.length_set];omega
  by_cases c1 : m = 1
  ·obtain ⟨y,a3,s3,e3,_,p3,q3⟩ := among_ok hu s2 (a := a2) (by omega) (by omega) [(-1),(n : Int),0] (by simp) (by simp)
   refine ⟨(x3.set (i : Int).toNat (⟨(rd_T43 x3 i).f0,(rd_T43 x3 i).f1 ++ [y],(rd_T43 x3 i).f2⟩ : S43),a3,s3),Ev.succ ?_,?_,hs10.set _ (by show (_ ++ _ : List Int).length ≤ 10;rw [List.length_append,List.length_singleton];omega) w2,by show a ≤ a3;omega,by show a3 ≤ a + 20;omega⟩
   ·simp only [spec_l1Cur_words.l0,show ((n : Int) < (n : Int)) = False from eq_false (by omega),if_false,eq_true hp,if_true,e1,e2,Option.bind_some,eq_false c0,eq_true c1,eq_true i0,hi,e3,eq_false c0,show ((rd_T43 x3 i).f1.length < 17592186044416) = True from eq_true (by omega)]
    exact Ev.now _
   ·show (x3.set _ _).length ≤ 17
    rw [List.length_set];omega
  by_cases c2 : m = 2
  ·obtain ⟨y,a3,s3,e3,hy,p3,q3⟩ := anyGloss_ok hu s2 (a := a2) (by omega) (by omega)
   refine ⟨(x3.set (i : Int).toNat (⟨y,(rd_T43 x3 i).f1,(rd_T43 x3 i).f2⟩ : S43),a3,s3),Ev.succ ?_,?_,hs10.set _ (by show (rd_T43 x3 i).f1.length ≤ 10;omega) hy,by show a ≤ a3;omega,by show a3 ≤ a + 20;omega⟩
   ·simp only [spec_l1Cur_words.l0,show ((n : Int) < (n : Int)) = False from eq_false (by omega),if_false,eq_true hp,if_true,e1,e2,Option.bind_some,eq_true c2,eq_true i0,hi,e3,eq_false c0,eq_false c1]
    exact Ev.now _
   ·show (x3.set _ _).length ≤ 17
    rw [List.length_set];omega
  by_cases c3 : m = 3
  ·obtain ⟨y,a3,s3,e3,hy,p3,q3⟩ := among_ok hu s2 (a := a2) (by omega) (by omega) [(-1),100000] (by simp) (by simp)
   refine ⟨(x3.set (i : Int).toNat (⟨(rd_T43 x3 i).f0,(rd_T43 x3 i).f1,y⟩ : S43),a3,s3),Ev.succ ?_,?_,hs10.set _ (by show (rd_T43 x3 i).f1.length ≤ 10;omega) w2,by show a ≤ a3;omega,by show a3 ≤ a + 20;omega⟩
   ·simp only [spec_l1Cur_words.l0,show ((n : Int) < (n : Int)) = False from eq_false (by omega),if_false,eq_true hp,if_true,e1,e2,Option.bind_some,eq_true c3,eq_true i0,hi,e3,eq_false c0,eq_false c1,eq_false c2]
    exact Ev.now _
   ·show (x3.set _ _).length ≤ 17
    rw [List.length_set];omega
  by_cases c4 : m = 4
  ·obtain ⟨y,a3,s3,e3,⟨y0,y1⟩,p3,q3⟩ := pick_ok hu s2 (a := a2) (by omega) (by omega) 2 (by decide) (by decide)
   obtain ⟨N,hN⟩ : ∃ N : Nat,16 + y = (N : Int) := ⟨(16 + y).toNat,by omega⟩
   obtain ⟨L,hE,hL,hS⟩ := words_l2 (l := l) (a := a3) (s := s3) N (by omega) N [] (by simp) (fun x hx => by cases hx)
   refine ⟨(L,a3,s3),Ev.succ ?_,hL,hS,by show a ≤ a3;omega,by show a3 ≤ a + 20;omega⟩
   simp only [spec_l1Cur_words.l0,show ((n : Int) < (n : Int)) = False from eq_false (by omega),if_false,eq_true hp,if_true,e1,e2,Option.bind_some,eq_true c4,e3,eq_false c0,eq_false c1,eq_false c2,eq_false c3]
   rw [wrap_id (by omega) (by omega),hN]
   exact hE
  ·refine ⟨(x3,a2,s2),Ev.succ ?_,by show x3.length ≤ 17;omega,hs10,by show a ≤ a2;omega,by show a2 ≤ a + 20;omega⟩
   simp only [spec_l1Cur_words.l0,show ((n : Int) < (n : Int)) = False from eq_false (by omega),if_false,eq_true hp,if_true,e1,e2,Option.bind_some,eq_false c0,eq_false c1,eq_false c2,eq_false c3,eq_false c4]
   exact Ev.now _
 ·refine ⟨(x3,a,s),Ev.succ ?_,by show x3.length ≤ 17;omega,hs10,Int.le_refl _,by show a ≤ a + 20;omega⟩
  simp only [spec_l1Cur_words.l0,show ((n : Int) < (n : Int)) = False from eq_false (by omega),if_false,eq_false hp]
  exact Ev.now _
theorem words_l0 {l : List Int} (hu : U8 l) (n : Nat) (hn : n ≤ 7) : ∀ (d j : Nat) (x3 : List S43) (a s : Int),j + d = n → x3.length = j → WSh 7 x3 → 0 ≤ a → a + 20 * d ≤ 999999998000 → ∃ r,Ev (fun k => spec_l1Cur_words.l0 k x3 names7 (n : Int) (j : Int) l a s) r ∧ (r.1.length ≤ 17 ∧ WSh 10 r.1 ∧ a ≤ r.2.1 ∧ r.2.1 ≤ a + 20 * d + 20) := by
 intro d
 induction d with
 | zero =>
  intro j x3 a s hd hl hs h0 h1
  obtain rfl : j = n := by omega
  obtain ⟨r,hE,h2,h3,h4,h5⟩ := words_end hu j hn x3 a s hl hs h0 (by omega)
  exact ⟨r,hE,h2,h3,h4,by omega⟩
 | succ d ih =>
  intro j x3 a s hd hl hs h0 h1
  obtain ⟨us,a1,s1,e1,_,p1,q1⟩ := among_ok hu s h0 (by omega) [0,1,10,10,50,500,99999] (by decide) (by decide)
  have hj : ((j : Int) < (n : Int)) = True := eq_true (by omega)
  have hn7 : ((j : Int) < (names7.length : Int)) = True := eq_true (by show (j : Int) < 7;omega)
  have hm : rdOf ByteArray.empty names7 (j : Int) ∈ names7 := by
   have hlt : j < names7.length := by show j < 7;omega
   have e : rdOf ByteArray.empty names7 (j : Int) = names7[j] := by
    show names7.getD ((j : Int)).toNat ByteArray.empty = _
    rw [Int.toNat_natCast,List.getD_eq_getElem?_getD,List.getElem?_eq_getElem hlt]
    rfl
   rw [e]
   exact List.getElem_mem _
  obtain ⟨r,hE,hP⟩ := words_l1 hu x3 (n : Int) j (rdOf ByteArray.empty names7 (j : Int)) us a1 (a1 + 2 * j) (fun r => r.1.length ≤ 17 ∧ WSh 10 r.1 ∧ a ≤ r.2.1 ∧ r.2.1 ≤ a + 20 * ((d + 1 : Nat) : Int) + 20) (by omega) (by omega) (by omega) (by omega)
   (fun nd a2 s2 hnd h2 h3 => by
    obtain ⟨r,hE,g1,g2,g3,g4⟩ := ih (j + 1) (x3 ++ [(⟨rdOf ByteArray.empty names7 (j : Int),nd,us⟩ : S43)]) a2 s2 (by omega) (by rw [List.length_append,List.length_singleton];omega) (hs.snoc (by show nd.length ≤ 7;omega) (names7_short _ hm)) (by omega) (by omega)
    exact ⟨r,hE,g1,g2,by omega,by omega⟩)
   j 0 [] a1 s1 (by omega) (by simp) (Int.le_refl _) (by omega)
  refine ⟨r,Ev.succ ?_,hP⟩
  simp only [spec_l1Cur_words.l0,hj,if_true,nat_nonneg,hn7,e1,Option.bind_some]
  exact hE
theorem words_ok {l : List Int} (hu : U8 l) {a : Int} (s : Int) (h0 : 0 ≤ a) (h1 : a ≤ 999999997000) : ∃ L a' s',Ev (fun k => spec_l1Cur_words.f k l a s) (L,a',s') ∧ L.length ≤ 17 ∧ WSh 10 L ∧ a ≤ a' ∧ a' ≤ a + 200 := by
 obtain ⟨n,a1,s1,e1,⟨n0,n1⟩,p1,q1⟩ := pick_ok hu s h0 (by omega) 8 (by decide) (by decide)
 obtain ⟨m,rfl⟩ : ∃ m : Nat,n = (m : Int) := ⟨n.toNat,by omega⟩
 obtain ⟨⟨L,a',s'⟩,hE,g1,g2,g3,g4⟩ := words_l0 hu m (by omega) m 0 [] a1 s1 (by omega) rfl (fun x hx => by cases hx) (by omega) (by omega)
 refine ⟨L,a',s',?_,g1,g2,by have : a1 ≤ a' := g3;omega,by have : a' ≤ a1 + 20 * (m : Int) + 20 := g4;omega⟩
 unfold spec_l1Cur_words.f
 have hn7 : ([(⟨#[83,85,78]⟩ : ByteArray),(⟨#[72,79,85,83,69]⟩ : ByteArray),(⟨#[84,82,69,69]⟩ : ByteArray),(⟨#[82,65,73,78]⟩ : ByteArray),(⟨#[66,79,79,75]⟩ : ByteArray),(⟨#[69,73,71,72,84,76,69,84]⟩ : ByteArray),(⟨#[65]⟩ : ByteArray)] : List ByteArray) = names7 := rfl
 have e8 : wrap64 ((names7.length : Int) + 1) = 8 := by show wrap64 (((7 : Nat) : Int) + 1) = 8;exact wrap_id (by decide) (by decide)
 simp only [hn7,Option.bind_some,e8,e1]
 exact hE
theorem anyO_ev {α : Type} {p : Nat → α → Option Bool} {f : α → Bool} : ∀ {l : List α},(∀ x,x ∈ l → Ev (fun k => p k x) (f x)) → Ev (fun k => Go.Proofs.YtgnijnlgbelifaaW.GIdx.anyO (p k) l) (l.any f)
 | [],_ => Ev.now _
 | x :: l,h => by
  unfold Go.Proofs.YtgnijnlgbelifaaW.GIdx.anyO
  refine Ev.bind (h x (List.mem_cons_self ..)) ?_
  rw [List.any_cons]
  cases f x with
  | true => exact Ev.now _
  | false => simpa using anyO_ev (l := l) fun y hy => h y (List.mem_cons_of_mem _ hy)
theorem ev_map {α β : Type} {g : Nat → Option α} {r : α} (h : Ev g r) (f : α → β) : Ev (fun k => (g k).map f) (f r) := by
 obtain ⟨K,h⟩ := h
 exact ⟨K,fun k hk => by show (g k).map f = some (f r);rw [h k hk];rfl⟩
theorem any_not {α : Type} (l : List α) (f : α → Bool) : (!l.any fun x => !f x) = l.all f := by
 induction l with
 | nil => rfl
 | cons x l ih => rw [List.any_cons,List.all_cons,← ih,Bool.not_or,Bool.not_not]
theorem allO_ev {α : Type} {p : Nat → α → Option Bool} {f : α → Bool} {l : List α} (h : ∀ x,x ∈ l → Ev (fun k => p k x) (f x)) : Ev (fun k => Go.Proofs.YtgnijnlgbelifaaW.GIdx.allO (p k) l) (l.all f) := by
 unfold Go.Proofs.YtgnijnlgbelifaaW.GIdx.allO
 have h1 := anyO_ev (p := fun k x => (p k x).map (!·)) (f := fun x => !f x) (l := l) (fun x hx => ev_map (h x hx) _)
 have h2 := ev_map h1 (fun b => !b)
 rw [any_not] at h2
 exact h2
theorem rdLx (l : List (List Int)) (j : Nat) : rd_L2 l (j : Int) = l.getD j [] := by simp [rd_L2]
theorem getL (l : List (List Int)) (j : Nat) (h : j < l.length) : l.getD j [] = l[j] := by rw [List.getD_eq_getElem?_getD,List.getElem?_eq_getElem h];rfl
theorem flatLe {l : List (List Int)} {y : List Int} (h : y ∈ l) : y.length ≤ l.flatten.length := by
 obtain ⟨a,b,rfl⟩ := List.append_of_mem h
 rw [List.flatten_append,List.flatten_cons,List.length_append,List.length_append]
 omega
theorem takeFlat (l : List (List Int)) (n : Nat) : (l.take n).flatten.length ≤ l.flatten.length := by
 have : l.flatten.length = (l.take n).flatten.length + (l.drop n).flatten.length := by
  rw [← List.length_append,← List.flatten_append,List.take_append_drop]
 omega
theorem takeFlatSucc (l : List (List Int)) (n : Nat) (h : n < l.length) : (l.take (n + 1)).flatten = (l.take n).flatten ++ l[n] := by rw [List.take_succ_eq_append_getElem h,List.flatten_append];simp
theorem topW_eq (l : List S43) (hl : l.length ≤ 1048576) : topW l = (l.length : Int) - 1 := by
 unfold topW
 rw [wrap_id (by omega) (by omega)]
/-! lists,one behind the other -/
theorem concat_l1 (ls : List (List Int)) (hs : ls.flatten.length ≤ 1048576) (hl : ls.length ≤ 1048576) : ∀ d n,n + d = ls.length → Ev (fun k => slices_Concat_int.l1 k (ls.take n).flatten ls (ls.length : Int) (n : Int)) ls.flatten := by
 intro d
 induction d with
 | zero =>
  intro n hn
  refine Ev.succ ?_
  have h1 : ((n : Int) < (ls.length : Int)) = False := eq_false (by omega)
  simp only [slices_Concat_int.l1,h1,if_false]
  rw [List.take_of_length_le (by omega)]
  exact Ev.now _
 | succ d ih =>
  intro n hn
  refine Ev.succ ?_
  have hlt : n < ls.length := by omega
  have h1 : ((n : Int) < (ls.length : Int)) = True := eq_true (by omega)
  have hy := flatLe (List.getElem_mem hlt)
  have ht := takeFlat ls n
  have h2 : ((ls.take n).flatten.length + ls[n].length < 17592186044416) = True := eq_true (by omega)
  simp only [slices_Concat_int.l1,h1,if_true,nat_nonneg,rdLx,getL ls n hlt,h2,wrap_succ (show n < 4611686018427387904 by omega)]
  rw [← takeFlatSucc ls n hlt]
  exact ih (n + 1) (by omega)
theorem concat_l0 (ls : List (List Int)) (hs : ls.flatten.length ≤ 1048576) (hl : ls.length ≤ 1048576) : ∀ d n,n + d = ls.length → Ev (fun k => slices_Concat_int.l0 k ls ((ls.take n).flatten.length : Int) ls (ls.length : Int) (n : Int)) ls.flatten := by
 intro d
 induction d with
 | zero =>
  intro n hn
  refine Ev.succ ?_
  have h1 : ((n : Int) < (ls.length : Int)) = False := eq_false (by omega)
  have ht := takeFlat ls n
  simp only [slices_Concat_int.l0,h1,if_false,slices_Grow_int.f,nat_nonneg,if_true,show (((ls.take n).flatten.length : Int) < 17592186044416) = True from eq_true (by omega),Option.bind_some]
  exact concat_l1 ls hs hl ls.length 0 (by omega)
 | succ d ih =>
  intro n hn
  refine Ev.succ ?_
  have hlt : n < ls.length := by omega
  have h1 : ((n : Int) < (ls.length : Int)) = True := eq_true (by omega)
  have hy := flatLe (List.getElem_mem hlt)
  have ht := takeFlat ls n
  have e : wrap64 (((ls.take n).flatten.length : Int) + (ls[n].length : Int)) = ((ls.take (n + 1)).flatten.length : Int) := by
   rw [wrap_id (by omega) (by omega),takeFlatSucc ls n hlt,List.length_append]
   omega
  have h2 : (((ls.take (n + 1)).flatten.length : Int) < 0) = False := eq_false (by omega)
  simp only [slices_Concat_int.l0,h1,if_true,nat_nonneg,rdLx,getL ls n hlt,e,h2,if_false,wrap_succ (show n < 4611686018427387904 by omega)]
  exact ih (n + 1) (by omega)
theorem concat_ev (ls : List (List Int)) (hs : ls.flatten.length ≤ 1048576) (hl : ls.length ≤ 1048576) : Ev (fun k => slices_Concat_int.f k ls) ls.flatten := by
 unfold slices_Concat_int.f
 exact concat_l0 ls hs hl ls.length 0 (by omega)
/-! what a word needs -/
def readyB (l : List S43) (done : List Int) (i : Int) : Bool := (wat l i.toNat).f1.all fun x => decide (x ∈ done)
theorem rdwI (l : List S43) (i : Int) : rd_T43 l i = wat l i.toNat := rfl
theorem all_range (l : List Int) (p : Int → Bool) : (List.range l.length).all (fun j => p (l.getD j 0)) = l.all p := by
 have hg : ∀ i (hi : i < l.length),l.getD i 0 = l[i] := fun i hi => by rw [List.getD_eq_getElem?_getD,List.getElem?_eq_getElem hi];rfl
 rw [Bool.eq_iff_iff,List.all_eq_true,List.all_eq_true]
 constructor
 ·intro h x hx
  obtain ⟨i,hi,rfl⟩ := List.getElem_of_mem hx
  have := h i (List.mem_range.2 hi)
  rwa [hg i hi] at this
 ·intro h j hj
  rw [hg j (List.mem_range.1 hj)]
  exact h _ (List.getElem_mem _)
theorem leReady_ev (l : List S43) (done : List Int) (i : Int) (hz : WSz l) (hd : done.length ≤ 1048576) (h0 : 0 ≤ i) (h1 : i < l.length) : Ev (fun k => spec_leReady.f k l done i) (readyB l done i) := by
 unfold spec_leReady.f readyB
 have hn := (wsz_at hz (show i.toNat < l.length by omega)).1
 simp only [eq_true h0,eq_true h1,if_true,rdwI]
 generalize (wat l i.toNat).f1 = n at hn
 refine Ev.eq (Ev.all0 (L := fun k j => spec_leReady.l0 k done n (n.length : Int) (j : Int)) (P := fun j => decide (n.getD j 0 ∈ done)) (n := n.length) (a := true) (b := false) ?_ ?_ ?_) (by rw [all_range n (fun x => decide (x ∈ done))];cases n.all fun x => decide (x ∈ done) <;> rfl)
 ·refine Ev.succ ?_
  simp only [spec_leReady.l0,Int.lt_irrefl,if_false]
  exact Ev.now _
 ·intro j r hj hP h
  refine Ev.succ ?_
  have h1 : ((j : Int) < (n.length : Int)) = True := eq_true (by omega)
  simp only [spec_leReady.l0,h1,if_true,nat_nonneg,rdJ,wrap_succ (show j < 4611686018427387904 by omega)]
  refine Ev.bind (l1Has_ev _ _ (by omega)) ?_
  simp only [hP,if_true]
  exact h
 ·intro j hj hP
  refine Ev.succ ?_
  have h1 : ((j : Int) < (n.length : Int)) = True := eq_true (by omega)
  simp only [spec_leReady.l0,h1,if_true,nat_nonneg,rdJ]
  refine Ev.bind (l1Has_ev _ _ (by omega)) ?_
  simp only [hP,Bool.false_eq_true,if_false]
  exact Ev.now _
theorem hasNeeds_ev (w : S43) (done : List Int) (hd : done.length ≤ 1048576) : Ev (fun k => impl_hasNeeds.f k w.f0 w.f1 w.f2 done) (w.f1.all fun x => decide (x ∈ done)) := by
 unfold impl_hasNeeds.f impl_hasNeeds_1.f impl_allOf_int.f
 exact Ev.bind (allO_ev (fun x _ => contains_ev done x (by omega))) (Ev.now _)
theorem areLessons1_ev (l : List S43) (y done : List Int) (hd : done.length ≤ 1048576) (hy : ∀ x,x ∈ y → 0 ≤ x ∧ x < l.length) : Ev (fun k => impl_areLessons_1.f k y l done) (y.all (readyB l done)) := by
 unfold impl_areLessons_1.f impl_allOf_int.f
 refine allO_ev (fun x hx => ?_)
 obtain ⟨h0,h1⟩ := hy x hx
 simp only [eq_true h0,eq_true h1,if_true,rdwI]
 exact hasNeeds_ev (wat l x.toNat) done hd
/-! lists of good indices,none of them twice -/
def okFrom (l : List S43) : List Int → List Int → Bool
 | _,[] => true
 | acc,x :: t => inB x 0 (topW l) && (!(decide (x ∈ acc)) && okFrom l (acc ++ [x]) t)
theorem okFrom_iff (l : List S43) : ∀ (t acc : List Int),okFrom l acc t = true ↔ (∀ x,x ∈ t → 0 ≤ x ∧ x ≤ topW l) ∧ t.Nodup ∧ ∀ x,x ∈ t → x ∉ acc
 | [],acc => by simp [okFrom]
 | x :: t,acc => by
  unfold okFrom inB
  rw [Bool.and_eq_true,Bool.and_eq_true,okFrom_iff l t (acc ++ [x]),decide_eq_true_eq,Bool.not_eq_true',decide_eq_false_iff_not,List.nodup_cons]
  constructor
  ·rintro ⟨h1,h2,h3,h4,h5⟩
   refine ⟨fun z hz => ?_,⟨fun hx => ?_,h4⟩,fun z hz => ?_⟩
   ·rcases List.mem_cons.1 hz with rfl | hz
    ·exact h1
    ·exact h3 z hz
   ·exact h5 x hx (by simp)
   ·rcases List.mem_cons.1 hz with rfl | hz
    ·exact h2
    ·exact fun h => h5 z hz (by simp [h])
  ·rintro ⟨h1,⟨h2,h3⟩,h4⟩
   refine ⟨h1 x (List.mem_cons_self ..),h4 x (List.mem_cons_self ..),fun z hz => h1 z (List.mem_cons_of_mem _ hz),h3,fun z hz h => ?_⟩
   rcases List.mem_append.1 h with h | h
   ·exact h4 z (List.mem_cons_of_mem _ hz) h
   ·rw [List.mem_singleton] at h
    subst h
    exact h2 hz
theorem okFrom_flat (l : List S43) (t : List Int) : okFrom l [] t = (t.all (fun x => decide (0 ≤ x ∧ x ≤ topW l)) && decide t.Nodup) := by
 rw [Bool.eq_iff_iff,okFrom_iff,Bool.and_eq_true,List.all_eq_true,decide_eq_true_eq]
 constructor
 ·rintro ⟨h1,h2,_⟩
  exact ⟨fun x hx => decide_eq_true (h1 x hx),h2⟩
 ·rintro ⟨h1,h2⟩
  exact ⟨fun x hx => of_decide_eq_true (h1 x hx),h2,fun x _ h => nomatch h⟩
def fairB (l : List S43) (ls : List (List Int)) : Bool := okFrom l [] ls.flatten && decide (ls.length ≤ 16)
def unt (l : List S43) : List Int → Nat → List (List Int) → Int × Int
 | _,_,[] => (-1,-1)
 | done,n,y :: t => match y.find? (fun x => !readyB l done x) with
  | some x => ((n : Int),x)
  | none => unt l (done ++ y) (n + 1) t
def stepsB (l : List S43) : List Int → List (List Int) → Bool
 | _,[] => true
 | done,y :: t => decide (y.length ≠ 0) && (y.all (readyB l done) && stepsB l (done ++ y) t)
theorem find_all (y : List Int) (p : Int → Bool) : (y.find? (fun x => !p x) = none) ↔ y.all p = true := by
 rw [List.find?_eq_none,List.all_eq_true]
 simp
theorem steps_eq (l : List S43) : ∀ (ls : List (List Int)) (done : List Int) (n : Nat),stepsB l done ls = (ls.all (fun y => decide (y.length ≠ 0)) && decide ((unt l done n ls).1 < 0))
 | [],done,n => by simp [stepsB,unt]
 | y :: t,done,n => by
  unfold stepsB unt
  rw [List.all_cons,steps_eq l t (done ++ y) (n + 1)]
  cases hf : y.find? (fun x => !readyB l done x) with
  | none =>
   rw [(find_all y (readyB l done)).1 hf,Bool.true_and,Bool.and_assoc]
  | some x =>
   have : y.all (readyB l done) = false := by
    rw [← Bool.not_eq_true]
    intro h
    rw [(find_all y (readyB l done)).2 h] at hf
    cases hf
   rw [this,Bool.false_and,Bool.and_false]
   have h2 : ¬ ((n : Int) < 0) := by omega
   simp [h2]
def lessB (l : List S43) (ls : List (List Int)) : Bool := decide (ls.flatten.length = l.length) && (okFrom l [] ls.flatten && stepsB l [] ls)
theorem ok_range {l : List S43} {t : List Int} (hl0 : l.length ≤ 1048576) (h : okFrom l [] t = true) : ∀ x,x ∈ t → 0 ≤ x ∧ x < l.length := by
 intro x hx
 have := ((okFrom_iff l t []).1 h).1 x hx
 rw [topW_eq l hl0] at this
 omega
theorem areLessons_l0 (l : List S43) (ls : List (List Int)) (hs : ls.flatten.length ≤ 1048576) (hl : ls.length ≤ 1048576) (hy : ∀ x,x ∈ ls.flatten → 0 ≤ x ∧ x < l.length) : ∀ d n,n + d = ls.length → Ev (fun k => impl_areLessons.l0 k ls ls (ls.length : Int) (n : Int) l) (stepsB l (ls.take n).flatten (ls.drop n)) := by
 intro d
 induction d with
 | zero =>
  intro n hn
  refine Ev.succ ?_
  have h1 : ((n : Int) < (ls.length : Int)) = False := eq_false (by omega)
  rw [List.drop_of_length_le (by omega)]
  simp only [impl_areLessons.l0,h1,if_false,stepsB]
  exact Ev.now _
 | succ d ih =>
  intro n hn
  refine Ev.succ ?_
  have hlt : n < ls.length := by omega
  have h1 : ((n : Int) < (ls.length : Int)) = True := eq_true (by omega)
  have h2 : ((n : Int) ≤ (ls.length : Int)) = True := eq_true (by omega)
  have ht := takeFlat ls n
  simp only [impl_areLessons.l0,h1,h2,if_true,nat_nonneg,rdLx,getL ls n hlt,Int.toNat_natCast,wrap_succ (show n < 4611686018427387904 by omega)]
  refine Ev.bind (concat_ev (ls.take n) (by omega) (by rw [List.length_take];omega)) ?_
  have e : stepsB l (ls.take n).flatten (ls.drop n) = (decide (ls[n].length ≠ 0) && (ls[n].all (readyB l (ls.take n).flatten) && stepsB l ((ls.take n).flatten ++ ls[n]) (ls.drop (n + 1)))) := by rw [List.drop_eq_getElem_cons hlt];rfl
  rw [e]
  by_cases h3 : ls[n].length = 0
  ·have h4 : ((ls[n].length : Int) = 0) = True := eq_true (by omega)
   simp only [h4,if_true,h3,ne_eq,not_true_eq_false,decide_false,Bool.false_and]
   exact Ev.now _
  ·have h4 : ((ls[n].length : Int) = 0) = False := eq_false (by omega)
   simp only [h4,if_false,h3,ne_eq,not_false_eq_true,decide_true,Bool.true_and]
   refine Ev.bind (areLessons1_ev l ls[n] (ls.take n).flatten (by omega) (fun x hx => hy x (List.mem_flatten.2 ⟨_,List.getElem_mem hlt,hx⟩))) ?_
   cases ls[n].all (readyB l (ls.take n).flatten) with
   | true =>
    simp only [if_true,Bool.true_and]
    rw [← takeFlatSucc ls n hlt]
    exact ih (n + 1) (by omega)
   | false =>
    simp only [Bool.false_eq_true,if_false,Bool.false_and]
    exact Ev.now _
theorem areLessons_ev (l : List S43) (ls : List (List Int)) (hl0 : l.length ≤ 1048576) (hs : ls.flatten.length ≤ 1048576) (hl : ls.length ≤ 1048576) : Ev (fun k => impl_areLessons.f k l ls) (lessB l ls) := by
 unfold impl_areLessons.f lessB
 refine Ev.bind (concat_ev ls hs hl) ?_
 by_cases h1 : ls.flatten.length = l.length
 ·have h2 : ((ls.flatten.length : Int) = (l.length : Int)) = True := eq_true (by omega)
  simp only [h2,h1,if_true,decide_true,Bool.true_and,impl_allWithin.f,Option.bind_some]
  have ho := okFrom_flat l ls.flatten
  change Ev (fun k => if (ls.flatten.all fun x => decide (0 ≤ x ∧ x ≤ topW l)) = true then _ else _) _
  cases h3 : (ls.flatten.all fun x => decide (0 ≤ x ∧ x ≤ topW l)) with
  | false =>
   rw [h3,Bool.false_and] at ho
   rw [ho]
   simp only [Bool.false_eq_true,if_false,Bool.false_and]
   refine Ev.succ ?_
   simp only [impl_areLessons.j0,if_true]
   exact Ev.now _
  | true =>
   rw [h3,Bool.true_and] at ho
   simp only [if_true]
   obtain ⟨t,ht,hd⟩ := distinct_len ls.flatten (by omega)
   simp only [ht,Option.bind_some]
   refine Ev.succ ?_
   by_cases h4 : ls.flatten.Nodup
   ·have h5 : (((t.length : Int)) != ((ls.flatten.length : Int))) = false := by have := hd.2 h4;simp [this]
    rw [decide_eq_true h4] at ho
    rw [ho]
    rw [h1] at h5
    simp only [impl_areLessons.j0,h5,Bool.false_eq_true,if_false,Bool.true_and]
    exact areLessons_l0 l ls hs hl (ok_range hl0 ho) ls.length 0 (by omega)
   ·have h5 : (((t.length : Int)) != ((ls.flatten.length : Int))) = true := by
     have : t.length ≠ ls.flatten.length := fun e => h4 (hd.1 e)
     rw [bne_iff_ne]
     intro e
     exact this (by omega)
    rw [decide_eq_false h4] at ho
    rw [ho]
    rw [h1] at h5
    simp only [impl_areLessons.j0,h5,if_true,Bool.false_and]
    exact Ev.now _
 ·have h2 : ((ls.flatten.length : Int) = (l.length : Int)) = False := eq_false (by omega)
  simp only [h2,h1,if_false,decide_false,Bool.false_and]
  refine Ev.succ ?_
  simp only [impl_areLessons.j0,if_true]
  exact Ev.now _
theorem sameInts_ev (l : List Int) (hl : l.length < 4611686018427387904) : Ev (fun k => laws_sameInts.f k l l) true := by
 unfold laws_sameInts.f
 simp only [if_true]
 exact Ev.upto (L := fun k j => laws_sameInts.l0 k l l (l.length : Int) (j : Int)) (r := true) (n := l.length)
  (by
   refine Ev.succ ?_
   simp only [laws_sameInts.l0,Int.lt_irrefl,if_false]
   exact Ev.now _)
  (by
   intro j hj h
   refine Ev.succ ?_
   simp only [laws_sameInts.l0,show ((j : Int) < (l.length : Int)) = True from eq_true (by omega),if_true,nat_nonneg,wrap_succ (show j < 4611686018427387904 by omega)]
   exact h)
  0 (Nat.zero_le _)
theorem sameLists_ev (l : List (List Int)) (hl : l.length < 4611686018427387904) (hs : ∀ y,y ∈ l → y.length < 4611686018427387904) : Ev (fun k => laws_sameLists.f k l l) true := by
 unfold laws_sameLists.f
 simp only [if_true]
 exact Ev.upto (L := fun k j => laws_sameLists.l0 k l l (l.length : Int) (j : Int)) (r := true) (n := l.length)
  (by
   refine Ev.succ ?_
   simp only [laws_sameLists.l0,Int.lt_irrefl,if_false]
   exact Ev.now _)
  (by
   intro j hj h
   refine Ev.succ ?_
   simp only [laws_sameLists.l0,show ((j : Int) < (l.length : Int)) = True from eq_true (by omega),if_true,nat_nonneg,wrap_succ (show j < 4611686018427387904 by omega),rdLx,getL l j hj]
   refine Ev.bind (sameInts_ev _ (hs _ (List.getElem_mem hj))) ?_
   simp only [if_true]
   exact h)
  0 (Nat.zero_le _)
theorem pIn_ev (l : List Int) (hl : l.length < 4611686018427387904) (x : Int) : Ev (fun k => laws_pIn.f k l x) (decide (x ∈ l)) := by
 unfold laws_pIn.f
 have key : ∀ d j,j + d = l.length → Ev (fun k => laws_pIn.l0 k x l (l.length : Int) (j : Int)) (decide (x ∈ l.drop j)) := by
  intro d
  induction d with
  | zero =>
   intro j hj
   refine Ev.succ ?_
   simp only [laws_pIn.l0,show ((j : Int) < (l.length : Int)) = False from eq_false (by omega),if_false]
   rw [List.drop_of_length_le (by omega)]
   exact Ev.now _
  | succ d ih =>
   intro j hj
   have hlt : j < l.length := by omega
   have e : rd l (j : Int) = l[j] := by
    show l.getD ((j : Int)).toNat 0 = _
    rw [Int.toNat_natCast,List.getD_eq_getElem?_getD,List.getElem?_eq_getElem hlt]
    rfl
   refine Ev.succ ?_
   simp only [laws_pIn.l0,show ((j : Int) < (l.length : Int)) = True from eq_true (by omega),if_true,nat_nonneg,e,wrap_succ (show j < 4611686018427387904 by omega)]
   rw [List.drop_eq_getElem_cons hlt]
   by_cases hx : l[j] = x
   ·simp only [eq_true hx,if_true]
    refine Ev.eq (Ev.now _) ?_
    rw [hx]
    simp
   ·simp only [eq_false hx,if_false]
    refine Ev.eq (ih (j + 1) (by omega)) ?_
    rw [decide_eq_decide,List.mem_cons]
    exact ⟨.inr,fun h => h.resolve_left (fun h2 => hx h2.symm)⟩
 exact key l.length 0 (by omega)
/-- Each word stands behind all that it needs. -/
def Teach (need : Int → List Int) : List Int → List Int → Prop
 | _,[] => True
 | done,x :: t => (∀ k,k ∈ need x → k ∈ done) ∧ Teach need (done ++ [x]) t
theorem teach_append {need : Int → List Int} : ∀ (a b done : List Int),Teach need done (a ++ b) ↔ Teach need done a ∧ Teach need (done ++ a) b
 | [],b,done => by simp [Teach]
 | x :: a,b,done => by
  show (_ ∧ Teach need (done ++ [x]) (a ++ b)) ↔ (_ ∧ Teach need (done ++ [x]) a) ∧ _
  rw [teach_append a b (done ++ [x]),List.append_assoc,List.singleton_append,and_assoc]
/-- What can be taught lies in what is stuck. -/
theorem teach_stuck {need : Int → List Int} {P : Int → Prop} {D : List Int} (hs : ∀ i,P i → i ∉ D → ∃ k,k ∈ need i ∧ k ∉ D) :
  ∀ (t done : List Int),Teach need done t → (∀ x,x ∈ done → x ∈ D) → (∀ x,x ∈ t → P x) → ∀ x,x ∈ t → x ∈ D
 | [],_,_,_,_,x,hx => nomatch hx
 | y :: t,done,ht,hd,hp,x,hx => by
  have hy : y ∈ D := by
   by_cases h : y ∈ D
   ·exact h
   ·obtain ⟨k,hk,hn⟩ := hs y (hp y (List.mem_cons_self ..)) h
    exact absurd (hd k (ht.1 k hk)) hn
  rcases List.mem_cons.1 hx with rfl | hx
  ·exact hy
  ·refine teach_stuck hs t (done ++ [y]) ht.2 (fun z hz => ?_) (fun z hz => hp z (List.mem_cons_of_mem _ hz)) x hx
   rcases List.mem_append.1 hz with hz | hz
   ·exact hd z hz
   ·rw [List.mem_singleton] at hz;subst hz;exact hy
theorem nodup_len : ∀ (a b : List Int),a.Nodup → (∀ x,x ∈ a → x ∈ b) → a.length ≤ b.length
 | [],b,_,_ => by simp
 | x :: a,b,hn,hs => by
  obtain ⟨hx,ha⟩ := List.nodup_cons.1 hn
  obtain ⟨p,q,rfl⟩ := List.append_of_mem (hs x (List.mem_cons_self ..))
  have := nodup_len a (p ++ q) ha (fun y hy => by
   have h1 := hs y (List.mem_cons_of_mem _ hy)
   simp only [List.mem_append,List.mem_cons] at h1 ⊢
   rcases h1 with h1 | rfl | h1
   ·exact Or.inl h1
   ·exact absurd hy hx
   ·exact Or.inr h1)
  simp only [List.length_append,List.length_cons] at this ⊢
  omega
theorem same_len {a b : List Int} (ha : a.Nodup) (hb : b.Nodup) (h : ∀ x,x ∈ a ↔ x ∈ b) : a.length = b.length :=
 Nat.le_antisymm (nodup_len a b ha (fun x => (h x).1)) (nodup_len b a hb (fun x => (h x).2))
theorem all_mem (n : Nat) : ∀ x : Int,x ∈ (List.range n).map Int.ofNat ↔ 0 ≤ x ∧ x < n := by
 intro x
 rw [List.mem_map]
 constructor
 ·rintro ⟨i,hi,rfl⟩
  have := List.mem_range.1 hi
  exact ⟨Int.natCast_nonneg i,by show (i : Int) < n;omega⟩
 ·rintro ⟨h0,h1⟩
  exact ⟨x.toNat,List.mem_range.2 (by omega),by show (x.toNat : Int) = x;omega⟩
theorem range_le {n : Nat} {a : List Int} (ha : a.Nodup) (hr : ∀ x,x ∈ a → 0 ≤ x ∧ x < n) : a.length ≤ n := by
 have := nodup_len a ((List.range n).map Int.ofNat) ha (fun x hx => (all_mem n x).2 (hr x hx))
 simpa using this
/-- As many as there are: all of them. -/
theorem range_full {n : Nat} {a : List Int} (ha : a.Nodup) (hr : ∀ x,x ∈ a → 0 ≤ x ∧ x < n) (hl : n ≤ a.length) : ∀ x : Int,0 ≤ x → x < n → x ∈ a := by
 intro x h0 h1
 by_cases h : x ∈ a
 ·exact h
 ·have := range_le (n := n) (a := x :: a) (List.nodup_cons.2 ⟨h,ha⟩) (fun y hy => by
   rcases List.mem_cons.1 hy with rfl | hy
   ·exact ⟨h0,h1⟩
   ·exact hr y hy)
  simp only [List.length_cons] at this
  omega
/-- Two stuck orders are of one length. -/
theorem stuck_same {need : Int → List Int} {P : Int → Prop} {D E : List Int} (hD : D.Nodup) (hE : E.Nodup) (tD : Teach need [] D) (tE : Teach need [] E)
  (pD : ∀ x,x ∈ D → P x) (pE : ∀ x,x ∈ E → P x) (sD : ∀ i,P i → i ∉ D → ∃ k,k ∈ need i ∧ k ∉ D) (sE : ∀ i,P i → i ∉ E → ∃ k,k ∈ need i ∧ k ∉ E) : D.length = E.length :=
 same_len hD hE (fun x => ⟨teach_stuck sE D [] tD (fun _ h => nomatch h) pD x,teach_stuck sD E [] tE (fun _ h => nomatch h) pE x⟩)
/-- The place of a word in an order. -/
theorem teach_idx {need : Int → List Int} : ∀ (t done : List Int),Teach need done t → t.Nodup → (∀ x,x ∈ t → x ∉ done) → ∀ x k,x ∈ t → k ∈ need x → k ∈ t → t.idxOf k < t.idxOf x
 | [],_,_,_,_,x,_,hx,_,_ => nomatch hx
 | y :: t,done,ht,hn,hd,x,k,hx,hk,hkt => by
  obtain ⟨hy,hn'⟩ := List.nodup_cons.1 hn
  by_cases exy : x = y
  ·subst exy
   exact absurd (ht.1 k hk) (hd k hkt)
  ·have hx' : x ∈ t := by
    rcases List.mem_cons.1 hx with h | h
    ·exact absurd h exy
    ·exact h
   have e1 : (y :: t).idxOf x = t.idxOf x + 1 := by
    rw [List.idxOf_cons]
    have : (y == x) = false := by simpa using fun h => exy h.symm
    simp [this]
   rw [e1]
   by_cases eky : k = y
   ·subst eky
    rw [List.idxOf_cons]
    simp
   ·have e2 : (y :: t).idxOf k = t.idxOf k + 1 := by
     rw [List.idxOf_cons]
     have : (y == k) = false := by simpa using fun h => eky h.symm
     simp [this]
    rw [e2]
    have hkt' : k ∈ t := by
     rcases List.mem_cons.1 hkt with h | h
     ·exact absurd h eky
     ·exact h
    have := teach_idx t (done ++ [y]) ht.2 hn' (fun z hz h => by
     rcases List.mem_append.1 h with h | h
     ·exact hd z (List.mem_cons_of_mem _ hz) h
     ·rw [List.mem_singleton] at h;subst h;exact hy hz) x k hx' hk hkt'
    omega
/-- The first place with the most uses of those for which p holds, from place j on; b: the best so far, or -1. -/
def bestD (us : Int → Int) (p : Int → Bool) : Nat → Nat → Int → Int
 | 0,_,b => b
 | d + 1,j,b => bestD us p d (j + 1) (if p (j : Int) && (decide (b < 0) || decide (us (j : Int) > us b)) then (j : Int) else b)
theorem best_facts (us : Int → Int) (p : Int → Bool) (N : Nat) : ∀ d j (b : Int),j + d = N → (b = -1 ∧ (∀ i : Nat,i < j → p i = false) ∨ 0 ≤ b ∧ b < N ∧ p b = true) →
  (bestD us p d j b = -1 ∧ (∀ i : Nat,i < N → p i = false)) ∨ (0 ≤ bestD us p d j b ∧ bestD us p d j b < N ∧ p (bestD us p d j b) = true) := by
 intro d
 induction d with
 | zero =>
  intro j b hj h
  rw [Nat.add_zero] at hj
  subst hj
  exact h
 | succ d ih =>
  intro j b hj h
  unfold bestD
  refine ih (j + 1) _ (by omega) ?_
  by_cases hp : p (j : Int) = true
  ·by_cases hc : (decide (b < 0) || decide (us (j : Int) > us b)) = true
   ·simp only [hp,hc,Bool.true_and,if_true]
    exact Or.inr ⟨by omega,by omega,by first|exact hp | trivial⟩
   ·simp only [hp,hc,Bool.true_and,Bool.false_eq_true,if_false]
    rcases h with ⟨rfl,_⟩ | h
    ·simp at hc
    ·exact Or.inr h
  ·rw [Bool.not_eq_true] at hp
   simp only [hp,Bool.false_and,Bool.false_eq_true,if_false]
   rcases h with ⟨rfl,h⟩ | h
   ·refine Or.inl ⟨rfl,fun i hi => ?_⟩
    by_cases e : i = j
    ·subst e;exact hp
    ·exact h i (by omega)
   ·exact Or.inr h
def best (us : Int → Int) (p : Int → Bool) (N : Nat) : Int := bestD us p N 0 (-1)
theorem best_or (us : Int → Int) (p : Int → Bool) (N : Nat) : (best us p N = -1 ∧ ∀ i : Nat,i < N → p i = false) ∨ (0 ≤ best us p N ∧ best us p N < N ∧ p (best us p N) = true) :=
 best_facts us p N N 0 (-1) (by omega) (Or.inl ⟨rfl,fun i hi => absurd hi (by omega)⟩)
theorem bestD_congr (us : Int → Int) (p q : Int → Bool) : ∀ d j (b : Int),(∀ i : Nat,j ≤ i → i < j + d → p i = q i) → bestD us p d j b = bestD us q d j b
 | 0,_,_,_ => rfl
 | d + 1,j,b,h => by
  unfold bestD
  rw [h j (by omega) (by omega)]
  exact bestD_congr us p q d (j + 1) _ (fun i h1 h2 => h i (by omega) (by omega))
theorem best_congr (us : Int → Int) (p q : Int → Bool) (N : Nat) (h : ∀ i : Nat,i < N → p i = q i) : best us p N = best us q N := bestD_congr us p q N 0 (-1) (fun i _ h2 => h i (by omega))
/-- All that a word needs is among some. -/
def rdy (nd : Int → List Int) (D : List Int) (i : Int) : Bool := (nd i).all fun k => decide (k ∈ D)
theorem rdy_iff (nd : Int → List Int) (D : List Int) (i : Int) : rdy nd D i = true ↔ ∀ k,k ∈ nd i → k ∈ D := by
 unfold rdy
 rw [List.all_eq_true]
 simp
/-- What may be taken next: not there yet, not in the lesson under way, all needs there. -/
def nextP (nd : Int → List Int) (D L : List Int) (i : Int) : Bool := !(decide (i ∈ D)) && (!(decide (i ∈ L)) && rdy nd D i)
theorem nextP_iff (nd : Int → List Int) (D L : List Int) (i : Int) : nextP nd D L i = true ↔ i ∉ D ∧ i ∉ L ∧ ∀ k,k ∈ nd i → k ∈ D := by
 unfold nextP
 rw [Bool.and_eq_true,Bool.and_eq_true,rdy_iff]
 simp
/-- The lesson that follows D: at most f more words behind L. -/
def pickD (us : Int → Int) (nd : Int → List Int) (N : Nat) (D : List Int) : Nat → List Int → List Int
 | 0,L => L
 | f + 1,L => if best us (nextP nd D L) N < 0 then L else pickD us nd N D f (L ++ [best us (nextP nd D L) N])
/-- An order, as far as there is one: at most f more words. -/
def orderD (us : Int → Int) (nd : Int → List Int) (N : Nat) : Nat → List Int → List Int
 | 0,D => D
 | f + 1,D => if best us (nextP nd D []) N < 0 then D else orderD us nd N f (D ++ [best us (nextP nd D []) N])
structure Good (nd : Int → List Int) (N : Nat) (D : List Int) : Prop where
 nodup : D.Nodup
 range : ∀ x,x ∈ D → 0 ≤ x ∧ x < N
 teach : Teach nd [] D
def Stuck (nd : Int → List Int) (N : Nat) (D : List Int) : Prop := ∀ i : Int,0 ≤ i ∧ i < N → i ∉ D → ∃ k,k ∈ nd i ∧ k ∉ D
theorem good_nil (nd : Int → List Int) (N : Nat) : Good nd N [] := ⟨List.nodup_nil,fun _ h => absurd h (List.not_mem_nil),trivial⟩
theorem stuck_of_none {us : Int → Int} {nd : Int → List Int} {N : Nat} {D : List Int} (h : best us (nextP nd D []) N < 0) : Stuck nd N D := by
 rcases best_or us (nextP nd D []) N with ⟨_,h2⟩ | ⟨h0,_⟩
 ·intro i hi hn
  have := h2 i.toNat (by omega)
  rw [show ((i.toNat : Nat) : Int) = i by omega] at this
  have hr : rdy nd D i = false := by
   by_cases hr : rdy nd D i = true
   ·have : nextP nd D [] i = true := (nextP_iff nd D [] i).2 ⟨hn,by simp,(rdy_iff nd D i).1 hr⟩
    simp_all
   ·simpa using hr
  unfold rdy at hr
  rw [List.all_eq_false] at hr
  obtain ⟨k,hk,hk2⟩ := hr
  exact ⟨k,hk,by simpa using hk2⟩
 ·omega
theorem good_snoc {us : Int → Int} {nd : Int → List Int} {N : Nat} {D : List Int} (hg : Good nd N D) (h : ¬ best us (nextP nd D []) N < 0) : Good nd N (D ++ [best us (nextP nd D []) N]) := by
 rcases best_or us (nextP nd D []) N with ⟨h1,_⟩ | ⟨h0,h1,h2⟩
 ·omega
 ·obtain ⟨a1,_,a3⟩ := (nextP_iff nd D [] _).1 h2
  refine ⟨?_,?_,?_⟩
  ·rw [List.nodup_append]
   refine ⟨hg.nodup,by simp,?_⟩
   intro x hx y hy
   rw [List.mem_singleton] at hy
   subst hy
   intro e
   subst e
   exact a1 hx
  ·intro x hx
   rcases List.mem_append.1 hx with hx | hx
   ·exact hg.range x hx
   ·rw [List.mem_singleton] at hx
    subst hx
    exact ⟨h0,h1⟩
  ·rw [teach_append]
   exact ⟨hg.teach,fun k hk => by simpa using a3 k hk,trivial⟩
theorem order_facts (us : Int → Int) (nd : Int → List Int) (N : Nat) : ∀ f D,Good nd N D → N ≤ D.length + f → Good nd N (orderD us nd N f D) ∧ Stuck nd N (orderD us nd N f D)
 | 0,D,hg,hf => ⟨hg,fun i hi hn => absurd (range_full hg.nodup hg.range (by omega) i hi.1 hi.2) hn⟩
 | f + 1,D,hg,hf => by
  unfold orderD
  by_cases h : best us (nextP nd D []) N < 0
  ·rw [if_pos h]
   exact ⟨hg,stuck_of_none h⟩
  ·rw [if_neg h]
   exact order_facts us nd N f _ (good_snoc hg h) (by simp;omega)
theorem stuck_len {nd : Int → List Int} {N : Nat} {D E : List Int} (gD : Good nd N D) (gE : Good nd N E) (sD : Stuck nd N D) (sE : Stuck nd N E) : D.length = E.length :=
 stuck_same (P := fun i => 0 ≤ i ∧ i < N) gD.nodup gE.nodup gD.teach gE.teach gD.range gE.range sD sE
/-- What a lesson under way is. -/
structure Pick (nd : Int → List Int) (N : Nat) (D L : List Int) : Prop where
 nodup : L.Nodup
 out : ∀ x,x ∈ L → x ∉ D
 range : ∀ x,x ∈ L → 0 ≤ x ∧ x < N
 ready : ∀ x,x ∈ L → ∀ k,k ∈ nd x → k ∈ D
theorem pick_nil (nd : Int → List Int) (N : Nat) (D : List Int) : Pick nd N D [] := ⟨List.nodup_nil,fun _ h => absurd h (List.not_mem_nil),fun _ h => absurd h (List.not_mem_nil),fun _ h => absurd h (List.not_mem_nil)⟩
theorem pick_snoc {us : Int → Int} {nd : Int → List Int} {N : Nat} {D L : List Int} (hg : Pick nd N D L) (h : ¬ best us (nextP nd D L) N < 0) : Pick nd N D (L ++ [best us (nextP nd D L) N]) := by
 rcases best_or us (nextP nd D L) N with ⟨h1,_⟩ | ⟨h0,h1,h2⟩
 ·omega
 ·obtain ⟨a1,a2,a3⟩ := (nextP_iff nd D L _).1 h2
  have hm : ∀ x,x ∈ L ++ [best us (nextP nd D L) N] → x ∈ L ∨ x = best us (nextP nd D L) N := fun x hx => by simpa using hx
  refine ⟨?_,fun x hx => ?_,fun x hx => ?_,fun x hx => ?_⟩
  ·rw [List.nodup_append]
   refine ⟨hg.nodup,by simp,?_⟩
   intro x hx y hy
   rw [List.mem_singleton] at hy
   subst hy
   intro e
   subst e
   exact a2 hx
  ·rcases hm x hx with hx | rfl
   ·exact hg.out x hx
   ·exact a1
  ·rcases hm x hx with hx | rfl
   ·exact hg.range x hx
   ·exact ⟨h0,h1⟩
  ·rcases hm x hx with hx | rfl
   ·exact hg.ready x hx
   ·exact a3
theorem pickD_facts (us : Int → Int) (nd : Int → List Int) (N : Nat) (D : List Int) : ∀ f L,Pick nd N D L → Pick nd N D (pickD us nd N D f L) ∧ (pickD us nd N D f L).length ≤ L.length + f ∧ L.length ≤ (pickD us nd N D f L).length
 | 0,L,h => ⟨h,by simp [pickD],by simp [pickD]⟩
 | f + 1,L,h => by
  unfold pickD
  by_cases h1 : best us (nextP nd D L) N < 0
  ·rw [if_pos h1]
   exact ⟨h,by omega,by omega⟩
  ·rw [if_neg h1]
   obtain ⟨a,b,c⟩ := pickD_facts us nd N D f _ (pick_snoc h h1)
   simp only [List.length_append,List.length_singleton] at b c
   exact ⟨a,by omega,by omega⟩
/-- A lesson without words: there is no word any more. -/
theorem pick_empty {us : Int → Int} {nd : Int → List Int} {N : Nat} {D : List Int} {f : Nat} (hf : 0 < f) (h : pickD us nd N D f [] = []) : Stuck nd N D := by
 obtain ⟨f,rfl⟩ : ∃ g,f = g + 1 := ⟨f - 1,by omega⟩
 unfold pickD at h
 by_cases h1 : best us (nextP nd D []) N < 0
 ·exact stuck_of_none h1
 ·rw [if_neg h1] at h
  obtain ⟨_,_,c⟩ := pickD_facts us nd N D f _ (pick_snoc (pick_nil nd N D) h1)
  rw [h] at c
  simp at c
theorem pick_full {us : Int → Int} {nd : Int → List Int} {N : Nat} {D : List Int} {f : Nat} (hg : Good nd N D) (h : N ≤ D.length) : pickD us nd N D f [] = [] := by
 cases f with
 | zero => rfl
 | succ f =>
  unfold pickD
  rcases best_or us (nextP nd D []) N with ⟨h1,_⟩ | ⟨h0,h1,h2⟩
  ·rw [if_pos (by omega)]
  ·exact absurd (range_full hg.nodup hg.range h _ h0 h1) ((nextP_iff nd D [] _).1 h2).1
theorem good_lesson {nd : Int → List Int} {N : Nat} {D L : List Int} (hg : Good nd N D) (hp : Pick nd N D L) : Good nd N (D ++ L) := by
 refine ⟨?_,?_,?_⟩
 ·rw [List.nodup_append]
  exact ⟨hg.nodup,hp.nodup,fun x hx y hy e => hp.out y hy (e ▸ hx)⟩
 ·intro x hx
  rcases List.mem_append.1 hx with hx | hx
  ·exact hg.range x hx
  ·exact hp.range x hx
 ·rw [teach_append]
  refine ⟨hg.teach,?_⟩
  have : ∀ (t E : List Int),(∀ x,x ∈ t → ∀ k,k ∈ nd x → k ∈ E) → Teach nd E t := by
   intro t
   induction t with
   | nil => intro E _;trivial
   | cons y t ih => intro E h;exact ⟨h y (List.mem_cons_self ..),ih _ (fun x hx k hk => List.mem_append_left _ (h x (List.mem_cons_of_mem _ hx) k hk))⟩
  exact this L ([] ++ D) (by simpa using hp.ready)
theorem pick_perm {nd : Int → List Int} {N : Nat} {D L M : List Int} (hp : Pick nd N D L) (hM : M.Nodup) (h : ∀ x,x ∈ M ↔ x ∈ L) : Pick nd N D M :=
 ⟨hM,fun x hx => hp.out x ((h x).1 hx),fun x hx => hp.range x ((h x).1 hx),fun x hx => hp.ready x ((h x).1 hx)⟩
/-- All lessons behind D, at most f more; srt: how each is written. -/
def lessD (us : Int → Int) (nd : Int → List Int) (N s : Nat) (srt : List Int → List Int) : Nat → List Int → List (List Int) × List Int
 | 0,D => ([],D)
 | f + 1,D => if pickD us nd N D s [] = [] then ([],D) else ((srt (pickD us nd N D s []) :: (lessD us nd N s srt f (D ++ srt (pickD us nd N D s []))).1),(lessD us nd N s srt f (D ++ srt (pickD us nd N D s []))).2)
theorem less_facts (us : Int → Int) (nd : Int → List Int) (N s : Nat) (srt : List Int → List Int) (hs : 0 < s) (hsr : ∀ L : List Int,L.Nodup → (srt L).Nodup ∧ (∀ x,x ∈ srt L ↔ x ∈ L) ∧ (srt L).length = L.length) : ∀ f D,Good nd N D → N ≤ D.length + f → Good nd N (lessD us nd N s srt f D).2 ∧ Stuck nd N (lessD us nd N s srt f D).2
 | 0,D,hg,hf => ⟨hg,fun i hi hn => absurd (range_full hg.nodup hg.range (by omega) i hi.1 hi.2) hn⟩
 | f + 1,D,hg,hf => by
  unfold lessD
  by_cases h : pickD us nd N D s [] = []
  ·rw [if_pos h]
   exact ⟨hg,pick_empty hs h⟩
  ·rw [if_neg h]
   obtain ⟨a,_,_⟩ := pickD_facts us nd N D s [] (pick_nil nd N D)
   obtain ⟨b1,b2,b3⟩ := hsr _ a.nodup
   have h4 : 0 < (pickD us nd N D s []).length := List.length_pos_iff.2 h
   exact less_facts us nd N s srt hs hsr f _ (good_lesson hg (pick_perm a b1 b2)) (by rw [List.length_append,b3];omega)
/-- Links of a chain: each needs the next one. -/
def Links (nd : Int → List Int) : List Int → Prop
 | [] => True
 | [_] => True
 | a :: b :: t => b ∈ nd a ∧ Links nd (b :: t)
theorem links_idx {nd : Int → List Int} {D : List Int} (hD : D.Nodup) (hT : Teach nd [] D) : ∀ (c : List Int) (a : Int),(∀ x,x ∈ a :: c → x ∈ D) → Links nd (a :: c) → D.idxOf ((a :: c).getLast (by simp)) ≤ D.idxOf a
 | [],a,_,_ => by simp
 | b :: c,a,hm,hl => by
  have h1 := links_idx hD hT c b (fun x hx => hm x (List.mem_cons_of_mem _ hx)) hl.2
  have h2 := teach_idx D [] hT hD (fun _ _ h => nomatch h) a b (hm a (List.mem_cons_self ..)) hl.1 (hm b (by simp))
  rw [List.getLast_cons (by simp)]
  omega
/-- Where all can be taught no chain closes. -/
theorem no_cycle {nd : Int → List Int} {D : List Int} (hD : D.Nodup) (hT : Teach nd [] D) (c : List Int) (a : Int) (hm : ∀ x,x ∈ a :: c → x ∈ D) (hl : Links nd (a :: c)) (hc : a ∈ nd ((a :: c).getLast (by simp))) : False := by
 have h1 := links_idx hD hT c a hm hl
 have h2 := teach_idx D [] hT hD (fun _ _ h => nomatch h) _ a (hm _ (List.getLast_mem _)) hc (hm a (List.mem_cons_self ..))
 omega
def usW (l : List S43) (i : Int) : Int := (wat l i.toNat).f2
def ndW (l : List S43) (i : Int) : List Int := (wat l i.toNat).f1
theorem ready_rdy (l : List S43) (D : List Int) (i : Int) : readyB l D i = rdy (ndW l) D i := rfl
theorem nd_range {l : List S43} (h : wordsB l = true) : ∀ i : Int,0 ≤ i → i < l.length → ∀ k,k ∈ ndW l i → 0 ≤ k ∧ k < l.length := by
 intro i h0 h1 k hk
 unfold wordsB at h
 rw [Bool.and_eq_true,List.all_eq_true,decide_eq_true_eq] at h
 have hl := h.2
 have hg := h.1 i.toNat (List.mem_range.2 (by omega))
 unfold goodAt at hg
 rw [Bool.and_eq_true,Bool.and_eq_true] at hg
 have hr := hg.2.1
 rw [rise_eq,Bool.and_eq_true,List.all_eq_true] at hr
 have := of_decide_eq_true (hr.1 k hk)
 rw [topW_eq l (by omega)] at this
 omega
theorem leBest_l0 (l : List S43) (D L : List Int) (hz : WSz l) (hl : l.length ≤ 1048576) (hD : D.length ≤ 1048576) (hL : L.length ≤ 1048576) : ∀ d j (b : Int),j + d = l.length → (b = -1 ∨ 0 ≤ b ∧ b < l.length) → Ev (fun k => spec_leBest.l0 k l D L b l (l.length : Int) (j : Int)) (bestD (usW l) (nextP (ndW l) D L) d j b) := by
 intro d
 induction d with
 | zero =>
  intro j b hj hb
  refine Ev.succ ?_
  have h1 : ((j : Int) < (l.length : Int)) = False := eq_false (by omega)
  simp only [spec_leBest.l0,h1,if_false,bestD]
  exact Ev.now _
 | succ d ih =>
  intro j b hj hb
  refine Ev.succ ?_
  have hlt : j < l.length := by omega
  have h1 : ((j : Int) < (l.length : Int)) = True := eq_true (by omega)
  have e4 : wrap64 ((j : Int) + 1) = ((j + 1 : Nat) : Int) := wrap_succ (by omega)
  have hu : usW l (j : Int) = (wat l j).f2 := by unfold usW;rw [Int.toNat_natCast]
  have hp : nextP (ndW l) D L (j : Int) = (!(decide ((j : Int) ∈ D)) && (!(decide ((j : Int) ∈ L)) && rdy (ndW l) D (j : Int))) := rfl
  unfold bestD
  rw [hp]
  simp only [spec_leBest.l0,h1,if_true,nat_nonneg,e4]
  refine Ev.bind (l1Has_ev D (j : Int) (by omega)) ?_
  cases decide ((j : Int) ∈ D) with
  | true =>
   simp only [if_true,Bool.not_true,Bool.false_and,Bool.false_eq_true,if_false]
   exact ih (j + 1) b (by omega) hb
  | false =>
   simp only [Bool.false_eq_true,if_false,Bool.not_false,Bool.true_and]
   refine Ev.bind (l1Has_ev L (j : Int) (by omega)) ?_
   cases decide ((j : Int) ∈ L) with
   | true =>
    simp only [if_true,Bool.not_true,Bool.false_and,Bool.false_eq_true,if_false]
    exact ih (j + 1) b (by omega) hb
   | false =>
    simp only [Bool.false_eq_true,if_false,Bool.not_false,Bool.true_and]
    refine Ev.bind (leReady_ev l D (j : Int) hz (by omega) (by omega) (by omega)) ?_
    rw [ready_rdy]
    cases rdy (ndW l) D (j : Int) with
    | false =>
     simp only [Bool.false_eq_true,if_false,Bool.false_and]
     exact ih (j + 1) b (by omega) hb
    | true =>
     simp only [if_true,Bool.true_and]
     have key := fun b' (hb' : b' = -1 ∨ 0 ≤ b' ∧ b' < (l.length : Int)) => ih (j + 1) b' (by omega) hb'
     by_cases h2 : b < 0
     ·simp only [eq_true h2,if_true,decide_true,Bool.true_or]
      exact key (j : Int) (Or.inr ⟨by omega,by omega⟩)
     ·have hb2 : 0 ≤ b ∧ b < (l.length : Int) := by omega
      have hub : usW l b = (wat l b.toNat).f2 := rfl
      simp only [eq_false h2,if_false,decide_false,Bool.false_or,eq_true hb2.1,eq_true hb2.2,if_true,rdw,rdwI,Int.toNat_natCast,hu,hub]
      by_cases h3 : (wat l j).f2 > (wat l b.toNat).f2
      ·simp only [eq_true h3,if_true,decide_true]
       exact key (j : Int) (Or.inr ⟨by omega,by omega⟩)
      ·simp only [eq_false h3,if_false,decide_false,Bool.false_eq_true]
       exact key b hb
theorem leBest_ev (l : List S43) (D L : List Int) (hz : WSz l) (hl : l.length ≤ 1048576) (hD : D.length ≤ 1048576) (hL : L.length ≤ 1048576) : Ev (fun k => spec_leBest.f k l D L) (best (usW l) (nextP (ndW l) D L) l.length) := by
 unfold spec_leBest.f best
 exact leBest_l0 l D L hz hl hD hL l.length 0 (-1) (by omega) (Or.inl rfl)
theorem leOrder_l0 (l : List S43) (hz : WSz l) (hl : l.length ≤ 1048576) : ∀ f D,Good (ndW l) l.length D → l.length ≤ D.length + f → Ev (fun k => spec_leOrder.l0 k l D) (orderD (usW l) (ndW l) l.length f D) := by
 intro f
 induction f with
 | zero =>
  intro D hg hf
  have hD := range_le hg.nodup hg.range
  refine Ev.succ ?_
  simp only [spec_leOrder.l0]
  refine Ev.bind (leBest_ev l D [] hz hl (by omega) (by simp)) ?_
  have h1 : best (usW l) (nextP (ndW l) D []) l.length < 0 := by
   rcases best_or (usW l) (nextP (ndW l) D []) l.length with ⟨h1,_⟩ | ⟨h0,h1,h2⟩
   ·omega
   ·exact absurd (range_full hg.nodup hg.range (by omega) _ h0 h1) ((nextP_iff _ D [] _).1 h2).1
  simp only [eq_true h1,if_true,orderD]
  exact Ev.now _
 | succ f ih =>
  intro D hg hf
  have hD := range_le hg.nodup hg.range
  refine Ev.succ ?_
  unfold orderD
  simp only [spec_leOrder.l0]
  refine Ev.bind (leBest_ev l D [] hz hl (by omega) (by simp)) ?_
  by_cases h1 : best (usW l) (nextP (ndW l) D []) l.length < 0
  ·simp only [eq_true h1,if_true]
   exact Ev.now _
  ·simp only [eq_false h1,if_false,eq_true (show D.length < 17592186044416 by omega),if_true]
   exact ih _ (good_snoc hg h1) (by rw [List.length_append];simp;omega)
def ordW (l : List S43) : List Int := orderD (usW l) (ndW l) l.length l.length []
theorem leOrder_ev (l : List S43) (hz : WSz l) (hl : l.length ≤ 1048576) : Ev (fun k => spec_leOrder.f k l) (ordW l) := by
 unfold spec_leOrder.f ordW
 exact leOrder_l0 l hz hl l.length [] (good_nil _ _) (by simp)
theorem ordW_facts (l : List S43) : Good (ndW l) l.length (ordW l) ∧ Stuck (ndW l) l.length (ordW l) := order_facts _ _ _ _ [] (good_nil _ _) (by simp)
def la (c : List Int) : Int := c.getD (c.length - 1) 0
def hd (c : List Int) : Int := c.getD 0 0
theorem hd_snoc (c : List Int) (k : Int) (h : 0 < c.length) : hd (c ++ [k]) = hd c := by
 unfold hd
 rw [List.getD_eq_getElem?_getD,List.getD_eq_getElem?_getD,List.getElem?_append_left h]
theorem hd_mem (c : List Int) (h : 0 < c.length) : hd c ∈ c := by
 unfold hd
 rw [List.getD_eq_getElem?_getD,List.getElem?_eq_getElem h]
 exact List.getElem_mem h
theorem la_mem (c : List Int) (h : 0 < c.length) : la c ∈ c := by
 unfold la
 rw [List.getD_eq_getElem?_getD,List.getElem?_eq_getElem (show c.length - 1 < c.length by omega)]
 exact List.getElem_mem _
theorem la_getLast (a : Int) (c : List Int) : (a :: c).getLast (by simp) = la (a :: c) := by
 unfold la
 rw [List.getLast_eq_getElem,List.getD_eq_getElem?_getD,List.getElem?_eq_getElem (by simp)]
 rfl
theorem links_snoc (nd : Int → List Int) : ∀ (c : List Int) (k : Int),Links nd c → (0 < c.length → k ∈ nd (la c)) → Links nd (c ++ [k])
 | [],k,_,_ => trivial
 | [a],k,_,h => ⟨by simpa [la] using h (by simp),trivial⟩
 | a :: b :: t,k,hl,h => by
  refine ⟨hl.1,links_snoc nd (b :: t) k hl.2 (fun _ => ?_)⟩
  have := h (by simp)
  have e : la (a :: b :: t) = la (b :: t) := by rw [← la_getLast,← la_getLast,List.getLast_cons (by simp)]
  rwa [e] at this
/-- A chain to be carried on by d more words to a cycle. -/
def cyc (nd : Int → List Int) : Nat → List Int → Option (List Int)
 | 0,c => if hd c ∈ nd (la c) then some c else none
 | d + 1,c => (nd (la c)).findSome? fun k => if decide (k > hd c) && !(decide (k ∈ c)) then cyc nd d (c ++ [k]) else none
theorem cyc_some (nd : Int → List Int) (P : Int → Prop) (hP : ∀ i,P i → ∀ k,k ∈ nd i → P k) : ∀ d c r,0 < c.length → (∀ x,x ∈ c → P x) → Links nd c → cyc nd d c = some r → 0 < r.length ∧ r.length = c.length + d ∧ (∀ x,x ∈ r → P x) ∧ Links nd r ∧ hd r ∈ nd (la r)
 | 0,c,r,h0,hp,hl,h => by
  unfold cyc at h
  split at h
  ·rename_i hm
   obtain rfl := Option.some.inj h
   exact ⟨h0,rfl,hp,hl,hm⟩
  ·cases h
 | d + 1,c,r,h0,hp,hl,h => by
  unfold cyc at h
  obtain ⟨k,hk,h2⟩ := List.exists_of_findSome?_eq_some h
  split at h2
  ·obtain ⟨a1,a2,a3,a4,a5⟩ := cyc_some nd P hP d (c ++ [k]) r (by simp) (fun x hx => by
    rcases List.mem_append.1 hx with hx | hx
    ·exact hp x hx
    ·rw [List.mem_singleton] at hx;subst hx;exact hP _ (hp _ (la_mem c h0)) _ hk) (links_snoc nd c k hl (fun _ => hk)) h2
   exact ⟨a1,by rw [a2,List.length_append,List.length_singleton];omega,a3,a4,a5⟩
  ·cases h2
theorem cyc_len (nd : Int → List Int) : ∀ d c r,cyc nd d c = some r → r.length = c.length + d
 | 0,c,r,h => by
  unfold cyc at h
  split at h
  ·obtain rfl := Option.some.inj h
   rfl
  ·cases h
 | d + 1,c,r,h => by
  unfold cyc at h
  obtain ⟨k,hk,h2⟩ := List.exists_of_findSome?_eq_some h
  split at h2
  ·have := cyc_len nd d (c ++ [k]) r h2
   rw [this,List.length_append,List.length_singleton]
   omega
  ·cases h2
theorem wordsB_len {l : List S43} (h : wordsB l = true) : l.length ≤ 16 := by
 unfold wordsB at h
 rw [Bool.and_eq_true,decide_eq_true_eq] at h
 exact h.2
theorem cloneC_eq (l : List Int) (hl : l.length < 17592186044416) : slices_Clone_int.f l = some l := by
 unfold slices_Clone_int.f
 simp only [Option.bind_some,List.length_nil,Nat.zero_add,List.nil_append,eq_true hl,if_true]
theorem ownC_eq (l : List Int) (hl : l.length < 17592186044416) : spec_l1Own.f l = some l := by
 unfold spec_l1Own.f
 simp only [Option.bind_some,List.length_nil,Nat.zero_add,List.nil_append,eq_true hl,if_true]
/-- From word i on, d more; then cycles of more words. -/
def shI (nd : Int → List Int) (n : Nat) : Nat → Nat → Option (List Int)
 | 0,_ => none
 | d + 1,i => match cyc nd (n - 1) [(i : Int)] with
  | some r => some r
  | none => shI nd n d (i + 1)
def shO (nd : Int → List Int) (N : Nat) : Nat → Nat → Option (List Int)
 | 0,_ => none
 | e + 1,n => match shI nd n N 0 with
  | some r => some r
  | none => shO nd N e (n + 1)
theorem shI_some (nd : Int → List Int) (n N : Nat) (hP : ∀ i : Int,(0 ≤ i ∧ i < N) → ∀ k,k ∈ nd i → 0 ≤ k ∧ k < N) : ∀ d i r,i + d ≤ N → shI nd n d i = some r → (∀ x,x ∈ r → 0 ≤ x ∧ x < N) ∧ 0 < r.length ∧ r.length ≤ n + 1 ∧ Links nd r ∧ hd r ∈ nd (la r)
 | 0,i,r,_,h => by cases h
 | d + 1,i,r,hi,h => by
  unfold shI at h
  split at h
  ·rename_i r' hr
   obtain rfl := Option.some.inj h
   obtain ⟨a1,a2,a3,a4,a5⟩ := cyc_some nd (fun x => 0 ≤ x ∧ x < N) hP (n - 1) [(i : Int)] r' (by simp) (fun x hx => by rw [List.mem_singleton] at hx;subst hx;omega) trivial hr
   exact ⟨a3,a1,by rw [a2,List.length_singleton];omega,a4,a5⟩
  ·exact shI_some nd n N hP d (i + 1) r (by omega) h
theorem shO_some (nd : Int → List Int) (N : Nat) (hP : ∀ i : Int,(0 ≤ i ∧ i < N) → ∀ k,k ∈ nd i → 0 ≤ k ∧ k < N) : ∀ e n r,shO nd N e n = some r → (∀ x,x ∈ r → 0 ≤ x ∧ x < N) ∧ 0 < r.length ∧ r.length ≤ n + e ∧ Links nd r ∧ hd r ∈ nd (la r)
 | 0,n,r,h => by cases h
 | e + 1,n,r,h => by
  unfold shO at h
  split at h
  ·rename_i r' hr
   obtain rfl := Option.some.inj h
   obtain ⟨a1,a2,a3,a4⟩ := shI_some nd n N hP N 0 r' (by omega) hr
   exact ⟨a1,a2,by omega,a4⟩
  ·obtain ⟨a1,a2,a3,a4⟩ := shO_some nd N hP e (n + 1) r h
   exact ⟨a1,a2,by omega,a4⟩
/-- No cycle where all can be taught. -/
theorem sh_none (nd : Int → List Int) (N : Nat) (hP : ∀ i : Int,(0 ≤ i ∧ i < N) → ∀ k,k ∈ nd i → 0 ≤ k ∧ k < N) (D : List Int) (hg : Good nd N D) (hl : N ≤ D.length) (e n : Nat) : shO nd N e n = none := by
 cases h : shO nd N e n with
 | none => rfl
 | some r =>
  obtain ⟨a1,a2,_,a4,a5⟩ := shO_some nd N hP e n r h
  cases r with
  | nil => simp at a2
  | cons a c =>
   exact (no_cycle hg.nodup hg.teach c a (fun x hx => range_full hg.nodup hg.range hl x (a1 x hx).1 (a1 x hx).2) a4 (by rw [la_getLast];exact a5)).elim
def sh (l : List S43) : Option (List Int) := shO (ndW l) l.length (l.length - 1) 2
def cycR (l : List S43) : List Int × Bool := if wordsB l then (match sh l with | some r => (r,true) | none => ([],false)) else ([],false)
theorem rd_hd (c : List Int) : rd c 0 = hd c := rdJ c 0
theorem rd_la (c : List Int) (h : 0 < c.length) (hl : c.length ≤ 1048576) : wrap64 ((c.length : Int) - 1) = ((c.length - 1 : Nat) : Int) ∧ rd c ((c.length - 1 : Nat) : Int) = la c := by
 have e : wrap64 ((c.length : Int) - 1) = ((c.length - 1 : Nat) : Int) := by rw [wrap_id (by omega) (by omega)];omega
 exact ⟨e,by rw [rdJ];rfl⟩
theorem shO_succ (nd : Int → List Int) (N e n : Nat) : shO nd N (e + 1) n = match shI nd n N 0 with
  | some r => some r
  | none => shO nd N e (n + 1) := rfl
def opt0 (o : Option (List Int)) : List Int := match o with
 | some r => r
 | none => []
/-! the program's -/
theorem implCyc_ev (l : List S43) (hw : wordsB l = true) (hz : WSz l) : ∀ (d : Nat) (c : List Int),0 < c.length → c.length + d ≤ 1000 → (∀ x,x ∈ c → 0 ≤ x ∧ x < l.length) → Ev (fun k => impl_cycleFrom.f k l c ((c.length + d : Nat) : Int)) (opt0 (cyc (ndW l) d c)) := by
 have hl16 := (wordsB_len hw)
 intro d
 induction d with
 | zero =>
  intro c h0 hb hr
  obtain ⟨e1,e2⟩ := rd_la c h0 (by omega)
  have hlr := hr _ (la_mem c h0)
  have hnd := (wsz_at hz (show (la c).toNat < l.length by omega)).1
  refine Ev.succ ?_
  unfold cyc
  have hcond : (0 < c.length ∧ 0 ≤ ((c.length - 1 : Nat) : Int) ∧ ((c.length - 1 : Nat) : Int) < (c.length : Int) ∧ 0 ≤ la c ∧ la c < (l.length : Int)) = True := eq_true ⟨h0,by omega,by omega,hlr.1,hlr.2⟩
  simp only [impl_cycleFrom.f,e1,e2,rd_hd,rdwI,Nat.add_zero,hcond,if_true]
  refine Ev.bind (contains_ev _ (hd c) (by show (wat l (la c).toNat).f1.length < _;omega)) ?_
  show Ev (fun _ => if decide (hd c ∈ ndW l (la c)) = true then some c else some []) _
  by_cases hm : hd c ∈ ndW l (la c)
  ·simp only [decide_eq_true hm,if_true,if_pos hm,opt0]
   exact Ev.now _
  ·simp only [decide_eq_false hm,Bool.false_eq_true,if_false,if_neg hm,opt0]
   exact Ev.now _
 | succ d ih =>
  intro c h0 hb hr
  obtain ⟨e1,e2⟩ := rd_la c h0 (by omega)
  have hlr := hr _ (la_mem c h0)
  have hnd := (wsz_at hz (show (la c).toNat < l.length by omega)).1
  have hnr := nd_range hw (la c) hlr.1 hlr.2
  refine Ev.succ ?_
  have hne : ¬ (c.length : Int) = ((c.length + (d + 1) : Nat) : Int) := by omega
  unfold cyc
  have hcond : (0 < c.length ∧ 0 ≤ ((c.length - 1 : Nat) : Int) ∧ ((c.length - 1 : Nat) : Int) < (c.length : Int) ∧ 0 ≤ la c ∧ la c < (l.length : Int)) = True := eq_true ⟨h0,by omega,by omega,hlr.1,hlr.2⟩
  simp only [impl_cycleFrom.f,e1,e2,rd_hd,rdwI,hcond,if_true,eq_false hne,if_false]
  show Ev (fun k => impl_cycleFrom.l0 k l c ((c.length + (d + 1) : Nat) : Int) (ndW l (la c)) 0) _
  generalize hn : ndW l (la c) = n at *
  have hnl : n.length ≤ 1048576 := by rw [← hn];exact hnd
  have key : ∀ e j,j + e = n.length → Ev (fun k => impl_cycleFrom.l0 k l c ((c.length + (d + 1) : Nat) : Int) n (j : Int)) (opt0 ((n.drop j).findSome? fun k => if decide (k > hd c) && !(decide (k ∈ c)) then cyc (ndW l) d (c ++ [k]) else none)) := by
   intro e
   induction e with
   | zero =>
    intro j hj
    refine Ev.succ ?_
    have g1 : ((j : Int) < (n.length : Int)) = False := eq_false (by omega)
    rw [List.drop_of_length_le (by omega)]
    simp only [impl_cycleFrom.l0,g1,if_false,List.findSome?_nil,opt0]
    exact Ev.now _
   | succ e ih2 =>
    intro j hj
    refine Ev.succ ?_
    have hlt : j < n.length := by omega
    have g1 : ((j : Int) < (n.length : Int)) = True := eq_true (by omega)
    have hg : n.getD j 0 = n[j] := by rw [List.getD_eq_getElem?_getD,List.getElem?_eq_getElem hlt];rfl
    have e4 : wrap64 ((j : Int) + 1) = ((j + 1 : Nat) : Int) := wrap_succ (by omega)
    have hjr := hnr n[j] (List.getElem_mem hlt)
    rw [List.drop_eq_getElem_cons hlt,List.findSome?_cons]
    simp only [impl_cycleFrom.l0,g1,if_true,nat_nonneg,rdJ,hg,rd_hd,e4]
    by_cases h1 : n[j] < hd c
    ·have h2 : decide (n[j] > hd c) = false := decide_eq_false (by omega)
     simp only [eq_true h1,if_true,h2,Bool.false_and,Bool.false_eq_true,if_false]
     exact ih2 (j + 1) (by omega)
    ·simp only [eq_false h1,if_false]
     refine Ev.bind (contains_ev c n[j] (by omega)) ?_
     by_cases h3 : n[j] ∈ c
     ·simp only [decide_eq_true h3,if_true,Bool.not_true,Bool.and_false,Bool.false_eq_true,if_false]
      exact ih2 (j + 1) (by omega)
     ·have h2 : decide (n[j] > hd c) = true := decide_eq_true (by
       have : n[j] ≠ hd c := fun e => h3 (e ▸ hd_mem c h0)
       omega)
      simp only [decide_eq_false h3,Bool.false_eq_true,if_false,h2,Bool.not_false,Bool.and_true,if_true,cloneC_eq c (by omega),Option.bind_some,eq_true (show c.length < 17592186044416 by omega)]
      have hrec := ih (c ++ [n[j]]) (by simp) (by rw [List.length_append,List.length_singleton];omega) (fun x hx => by
       rcases List.mem_append.1 hx with hx | hx
       ·exact hr x hx
       ·rw [List.mem_singleton] at hx;subst hx;exact hjr)
      have e5 : (((c ++ [n[j]]).length + d : Nat) : Int) = ((c.length + (d + 1) : Nat) : Int) := by rw [List.length_append,List.length_singleton];omega
      rw [e5] at hrec
      refine Ev.bind hrec ?_
      cases hc : cyc (ndW l) d (c ++ [n[j]]) with
      | none =>
       simp only [opt0,List.length_nil,if_true]
       exact ih2 (j + 1) (by omega)
      | some r =>
       have hpos := cyc_len (ndW l) d (c ++ [n[j]]) r hc
       rw [List.length_append,List.length_singleton] at hpos
       simp only [opt0,eq_false (show ¬ r.length = 0 by omega),if_false]
       exact Ev.now _
  have := key n.length 0 (by omega)
  rw [List.drop_zero] at this
  exact this
theorem implSh_l1 (l : List S43) (hw : wordsB l = true) (hz : WSz l) (n : Nat) (r : List Int × Bool) (hn : 1 ≤ n) (hn2 : n ≤ 100) (hc : shI (ndW l) n l.length 0 = none ∨ True) (hnext : Ev (fun k => impl_CycleOf.l0 k l (wrap64 ((n : Int) + 1))) r) : ∀ d i,i + d = l.length → Ev (fun k => impl_CycleOf.l1 k l (n : Int) (i : Int)) (match shI (ndW l) n d i with | some x => (x,true) | none => r) := by
 have hl16 := wordsB_len hw
 intro d
 induction d with
 | zero =>
  intro i hi
  refine Ev.succ ?_
  have g1 : ((i : Int) < (l.length : Int)) = False := eq_false (by omega)
  simp only [impl_CycleOf.l1,g1,if_false,shI]
  exact hnext
 | succ d ih =>
  intro i hi
  refine Ev.succ ?_
  have g1 : ((i : Int) < (l.length : Int)) = True := eq_true (by omega)
  have e4 : wrap64 ((i : Int) + 1) = ((i + 1 : Nat) : Int) := wrap_succ (by omega)
  have hrec := implCyc_ev l hw hz (n - 1) [(i : Int)] (by simp) (by simp;omega) (fun x hx => by rw [List.mem_singleton] at hx;subst hx;omega)
  have e5 : ((([(i : Int)] : List Int).length + (n - 1) : Nat) : Int) = (n : Int) := by simp;omega
  rw [e5] at hrec
  simp only [impl_CycleOf.l1,g1,if_true,e4]
  refine Ev.bind hrec ?_
  unfold shI
  cases hc : cyc (ndW l) (n - 1) [(i : Int)] with
  | none =>
   simp only [opt0,List.length_nil,if_true]
   exact ih (i + 1) (by omega)
  | some x =>
   have hpos := cyc_len (ndW l) (n - 1) [(i : Int)] x hc
   rw [List.length_singleton] at hpos
   simp only [opt0,eq_false (show ¬ x.length = 0 by omega),if_false]
   exact Ev.now _
theorem implSh_l0 (l : List S43) (hw : wordsB l = true) (hz : WSz l) : ∀ (e n : Nat),2 ≤ n → n ≤ 50 → n + e = max 2 (l.length + 1) → Ev (fun k => impl_CycleOf.l0 k l (n : Int)) (match shO (ndW l) l.length e n with | some x => (x,true) | none => ([],false)) := by
 have hl16 := wordsB_len hw
 intro e
 induction e with
 | zero =>
  intro n h2 h50 hn
  refine Ev.succ ?_
  have g1 : ((n : Int) ≤ (l.length : Int)) = False := eq_false (by omega)
  simp only [impl_CycleOf.l0,g1,if_false,shO]
  exact Ev.now _
 | succ e ih =>
  intro n h2 h50 hn
  refine Ev.succ ?_
  have g1 : ((n : Int) ≤ (l.length : Int)) = True := eq_true (by omega)
  have hnext := ih (n + 1) (by omega) (by omega) (by omega)
  simp only [impl_CycleOf.l0,g1,if_true]
  refine Ev.eq (implSh_l1 l hw hz n _ (by omega) (by omega) (Or.inr trivial) (by rw [wrap_succ (show n < 4611686018427387904 by omega)];exact hnext) l.length 0 (by omega)) ?_
  rw [shO_succ]
  cases shI (ndW l) n l.length 0 <;> rfl
theorem implCycle_ev (l : List S43) (hl : l.length ≤ 1048576) (hz : WSz l) : Ev (fun k => impl_CycleOf.f k l) (cycR l) := by
 unfold impl_CycleOf.f cycR
 refine Ev.bind (areWords_ev l hl hz) ?_
 cases hw : wordsB l with
 | false =>
  simp only [Bool.false_eq_true,if_false]
  exact Ev.now _
 | true =>
  have hl16 := wordsB_len hw
  simp only [if_true]
  exact implSh_l0 l hw hz (l.length - 1) 2 (by omega) (by omega) (by omega)
/-! the reference's -/
theorem specCyc_ev (l : List S43) (hw : wordsB l = true) (hz : WSz l) : ∀ (d : Nat) (c : List Int),0 < c.length → c.length + d ≤ 1000 → (∀ x,x ∈ c → 0 ≤ x ∧ x < l.length) → ∃ R : List Int × Bool,Ev (fun k => spec_leCycle.f k l c ((c.length + d : Nat) : Int)) R ∧ (∀ x,cyc (ndW l) d c = some x → R = (x,true)) ∧ (cyc (ndW l) d c = none → R.2 = false) := by
 have hl16 := wordsB_len hw
 intro d
 induction d with
 | zero =>
  intro c h0 hb hr
  obtain ⟨e1,e2⟩ := rd_la c h0 (by omega)
  have hlr := hr _ (la_mem c h0)
  have hnd := (wsz_at hz (show (la c).toNat < l.length by omega)).1
  refine ⟨(c,decide (hd c ∈ ndW l (la c))),Ev.succ ?_,?_,?_⟩
  ·simp only [spec_leCycle.f,e1,e2,rd_hd,rdwI,Nat.add_zero,nat_nonneg,if_true,eq_true (show ((c.length - 1 : Nat) : Int) < (c.length : Int) by omega),eq_true hlr.1,eq_true hlr.2,eq_true (show (0 : Int) < (c.length : Int) by omega)]
   refine Ev.bind (l1Has_ev _ (hd c) (by show (wat l (la c).toNat).f1.length < _;omega)) ?_
   exact Ev.now _
  ·intro x hx
   unfold cyc at hx
   split at hx
   ·rename_i hm
    obtain rfl := Option.some.inj hx
    rw [decide_eq_true hm]
   ·cases hx
  ·intro hx
   unfold cyc at hx
   split at hx
   ·cases hx
   ·rename_i hm
    exact decide_eq_false hm
 | succ d ih =>
  intro c h0 hb hr
  obtain ⟨e1,e2⟩ := rd_la c h0 (by omega)
  have hlr := hr _ (la_mem c h0)
  have hnd := (wsz_at hz (show (la c).toNat < l.length by omega)).1
  have hnr := nd_range hw (la c) hlr.1 hlr.2
  have hne : ¬ (c.length : Int) = ((c.length + (d + 1) : Nat) : Int) := by omega
  have key : ∀ e j,j + e = (ndW l (la c)).length → ∃ R : List Int × Bool,Ev (fun k => spec_leCycle.l0 k l c ((c.length + (d + 1) : Nat) : Int) (ndW l (la c)) ((ndW l (la c)).length : Int) (j : Int)) R ∧ (∀ x,(((ndW l (la c)).drop j).findSome? fun k => if decide (k > hd c) && !(decide (k ∈ c)) then cyc (ndW l) d (c ++ [k]) else none) = some x → R = (x,true)) ∧ ((((ndW l (la c)).drop j).findSome? fun k => if decide (k > hd c) && !(decide (k ∈ c)) then cyc (ndW l) d (c ++ [k]) else none) = none → R.2 = false) := by
   have hnl : (ndW l (la c)).length ≤ 1048576 := hnd
   generalize ndW l (la c) = n at *
   intro e
   induction e with
   | zero =>
    intro j hj
    refine ⟨([],false),Ev.succ ?_,fun x hx => ?_,fun _ => rfl⟩
    ·have g1 : ((j : Int) < (n.length : Int)) = False := eq_false (by omega)
     simp only [spec_leCycle.l0,g1,if_false]
     exact Ev.now _
    ·rw [List.drop_of_length_le (by omega)] at hx
     cases hx
   | succ e ih2 =>
    intro j hj
    have hlt : j < n.length := by omega
    have g1 : ((j : Int) < (n.length : Int)) = True := eq_true (by omega)
    have hg : n.getD j 0 = n[j] := by rw [List.getD_eq_getElem?_getD,List.getElem?_eq_getElem hlt];rfl
    have e4 : wrap64 ((j : Int) + 1) = ((j + 1 : Nat) : Int) := wrap_succ (by omega)
    have hjr := hnr n[j] (List.getElem_mem hlt)
    have g2 : ((0 : Int) < (c.length : Int)) = True := eq_true (by omega)
    obtain ⟨R,hR,hR1,hR2⟩ := ih2 (j + 1) (by omega)
    rw [List.drop_eq_getElem_cons hlt,List.findSome?_cons]
    by_cases h1 : n[j] > hd c
    ·by_cases h3 : n[j] ∈ c
     ·refine ⟨R,Ev.succ ?_,fun x hx => hR1 x ?_,fun hx => hR2 ?_⟩
      ·simp only [spec_leCycle.l0,g1,g2,if_true,nat_nonneg,rdJ,hg,rd_hd,eq_true h1]
       refine Ev.bind (l1Has_ev c n[j] (by omega)) ?_
       refine Ev.succ ?_
       simp only [spec_leCycle.j1,decide_eq_true h3,Bool.not_true,Bool.false_eq_true,if_false,e4]
       exact hR
      ·simpa only [decide_eq_true h1,decide_eq_true h3,Bool.not_true,Bool.and_false,Bool.false_eq_true,if_false] using hx
      ·simpa only [decide_eq_true h1,decide_eq_true h3,Bool.not_true,Bool.and_false,Bool.false_eq_true,if_false] using hx
     ·obtain ⟨Q,hQ,hQ1,hQ2⟩ := ih (c ++ [n[j]]) (by simp) (by rw [List.length_append,List.length_singleton];omega) (fun x hx => by
       rcases List.mem_append.1 hx with hx | hx
       ·exact hr x hx
       ·rw [List.mem_singleton] at hx;subst hx;exact hjr)
      have e5 : (((c ++ [n[j]]).length + d : Nat) : Int) = ((c.length + (d + 1) : Nat) : Int) := by rw [List.length_append,List.length_singleton];omega
      rw [e5] at hQ
      have stepQ : ∀ R',Ev (fun k => if Q.2 = true then some (Q.1,true) else spec_leCycle.l0 k l c ((c.length + (d + 1) : Nat) : Int) n (n.length : Int) ((j + 1 : Nat) : Int)) R' → Ev (fun k => spec_leCycle.l0 k l c ((c.length + (d + 1) : Nat) : Int) n (n.length : Int) (j : Int)) R' := by
       intro R' h'
       refine Ev.succ ?_
       simp only [spec_leCycle.l0,g1,g2,if_true,nat_nonneg,rdJ,hg,rd_hd,eq_true h1]
       refine Ev.bind (l1Has_ev c n[j] (by omega)) ?_
       refine Ev.succ ?_
       simp only [spec_leCycle.j1,decide_eq_false h3,Bool.not_false,if_true,ownC_eq c (by omega),Option.bind_some,eq_true (show c.length < 17592186044416 by omega),e4]
       exact Ev.bind hQ h'
      cases hc : cyc (ndW l) d (c ++ [n[j]]) with
      | some x =>
       have hq := hQ1 x hc
       refine ⟨(x,true),stepQ _ ?_,fun y hy => ?_,fun hy => ?_⟩
       ·rw [hq]
        simp only [if_true]
        exact Ev.now _
       ·have h9 : some x = some y := by simpa only [decide_eq_true h1,decide_eq_false h3,Bool.not_false,Bool.and_true,Bool.true_and,if_true,hc] using hy
        rw [Option.some.inj h9]
       ·have h9 : some x = none := by simpa only [decide_eq_true h1,decide_eq_false h3,Bool.not_false,Bool.and_true,Bool.true_and,if_true,hc] using hy
        cases h9
      | none =>
       have hq := hQ2 hc
       refine ⟨R,stepQ _ ?_,fun y hy => hR1 y ?_,fun hy => hR2 ?_⟩
       ·rw [hq]
        simp only [Bool.false_eq_true,if_false]
        exact hR
       ·simpa only [decide_eq_true h1,decide_eq_false h3,Bool.not_false,Bool.and_true,Bool.true_and,if_true,hc] using hy
       ·simpa only [decide_eq_true h1,decide_eq_false h3,Bool.not_false,Bool.and_true,Bool.true_and,if_true,hc] using hy
    ·refine ⟨R,Ev.succ ?_,fun x hx => hR1 x ?_,fun hx => hR2 ?_⟩
     ·simp only [spec_leCycle.l0,g1,g2,if_true,nat_nonneg,rdJ,hg,rd_hd,eq_false h1,if_false]
      refine Ev.succ ?_
      simp only [spec_leCycle.j1,Bool.false_eq_true,if_false,e4]
      exact hR
     ·simpa only [decide_eq_false h1,Bool.false_and,Bool.false_eq_true,if_false] using hx
     ·simpa only [decide_eq_false h1,Bool.false_and,Bool.false_eq_true,if_false] using hx
  obtain ⟨R,hR,hR1,hR2⟩ := key (ndW l (la c)).length 0 (by omega)
  refine ⟨R,Ev.succ ?_,hR1,hR2⟩
  simp only [spec_leCycle.f,e1,e2,rd_hd,rdwI,nat_nonneg,if_true,eq_true (show ((c.length - 1 : Nat) : Int) < (c.length : Int) by omega),eq_true hlr.1,eq_true hlr.2,eq_false hne,if_false]
  exact hR
theorem specSh_l1 (l : List S43) (hw : wordsB l = true) (hz : WSz l) (n : Nat) (r : List Int × Bool) (hn : 1 ≤ n) (hn2 : n ≤ 100) (hnext : Ev (fun k => spec_leShortest.l0 k l (wrap64 ((n : Int) + 1))) r) : ∀ d i,i + d = l.length → Ev (fun k => spec_leShortest.l1 k l (n : Int) (l.length : Int) (i : Int)) (match shI (ndW l) n d i with | some x => (x,true) | none => r) := by
 have hl16 := wordsB_len hw
 intro d
 induction d with
 | zero =>
  intro i hi
  refine Ev.succ ?_
  have g1 : ((i : Int) < (l.length : Int)) = False := eq_false (by omega)
  simp only [spec_leShortest.l1,g1,if_false,shI]
  exact hnext
 | succ d ih =>
  intro i hi
  refine Ev.succ ?_
  have g1 : ((i : Int) < (l.length : Int)) = True := eq_true (by omega)
  have e4 : wrap64 ((i : Int) + 1) = ((i + 1 : Nat) : Int) := wrap_succ (by omega)
  obtain ⟨Q,hQ,hQ1,hQ2⟩ := specCyc_ev l hw hz (n - 1) [(i : Int)] (by simp) (by simp;omega) (fun x hx => by rw [List.mem_singleton] at hx;subst hx;omega)
  have e5 : ((([(i : Int)] : List Int).length + (n - 1) : Nat) : Int) = (n : Int) := by simp;omega
  rw [e5] at hQ
  simp only [spec_leShortest.l1,g1,if_true,e4]
  refine Ev.bind hQ ?_
  unfold shI
  cases hc : cyc (ndW l) (n - 1) [(i : Int)] with
  | none =>
   rw [hQ2 hc]
   simp only [Bool.false_eq_true,if_false]
   exact ih (i + 1) (by omega)
  | some x =>
   rw [hQ1 x hc]
   simp only [if_true]
   exact Ev.now _
theorem specSh_l0 (l : List S43) (hw : wordsB l = true) (hz : WSz l) : ∀ (e n : Nat),2 ≤ n → n ≤ 50 → n + e = max 2 (l.length + 1) → Ev (fun k => spec_leShortest.l0 k l (n : Int)) (match shO (ndW l) l.length e n with | some x => (x,true) | none => ([],false)) := by
 have hl16 := wordsB_len hw
 intro e
 induction e with
 | zero =>
  intro n h2 h50 hn
  refine Ev.succ ?_
  have g1 : ((n : Int) ≤ (l.length : Int)) = False := eq_false (by omega)
  simp only [spec_leShortest.l0,g1,if_false,shO]
  exact Ev.now _
 | succ e ih =>
  intro n h2 h50 hn
  refine Ev.succ ?_
  have g1 : ((n : Int) ≤ (l.length : Int)) = True := eq_true (by omega)
  have hnext := ih (n + 1) (by omega) (by omega) (by omega)
  simp only [spec_leShortest.l0,g1,if_true]
  refine Ev.eq (specSh_l1 l hw hz n _ (by omega) (by omega) (by rw [wrap_succ (show n < 4611686018427387904 by omega)];exact hnext) l.length 0 (by omega)) ?_
  rw [shO_succ]
  cases shI (ndW l) n l.length 0 <;> rfl
theorem specCycle_ev (l : List S43) (hl : l.length ≤ 1048576) (hz : WSz l) : Ev (fun k => spec_CycleOf.f k l) (cycR l) := by
 unfold spec_CycleOf.f cycR
 refine Ev.bind (leGood_ev l hl hz) ?_
 cases hw : wordsB l with
 | false =>
  simp only [Bool.false_eq_true,if_false]
  exact Ev.now _
 | true =>
  have hl16 := wordsB_len hw
  simp only [if_true]
  refine Ev.bind (leOrder_ev l hz hl) ?_
  obtain ⟨hg,hs⟩ := ordW_facts l
  by_cases h : (ordW l).length = l.length
  ·have h2 : (((ordW l).length : Int) = (l.length : Int)) = True := eq_true (by omega)
   simp only [h2,if_true]
   unfold sh
   rw [sh_none (ndW l) l.length (fun i hi => nd_range hw i hi.1 hi.2) (ordW l) hg (by omega)]
   exact Ev.now _
  ·have h2 : (((ordW l).length : Int) = (l.length : Int)) = False := eq_false (by omega)
   simp only [h2,if_false]
   unfold sh
   have := specSh_l0 l hw hz (l.length - 1) 2 (by omega) (by omega) (by omega)
   refine Ev.bind (show Ev (fun k => spec_leShortest.f k l) _ from this) ?_
   exact Ev.now _
theorem pick_all {us : Int → Int} {nd : Int → List Int} {N : Nat} {D : List Int} : ∀ (f : Nat) (L : List Int),Pick nd N D L → N ≤ L.length + f → ∀ x : Int,0 ≤ x → x < N → x ∉ D → (∀ k,k ∈ nd x → k ∈ D) → x ∈ pickD us nd N D f L
 | 0,L,hp,hf,x,h0,h1,_,_ => range_full hp.nodup hp.range (by omega) x h0 h1
 | f + 1,L,hp,hf,x,h0,h1,h2,h3 => by
  unfold pickD
  by_cases h : best us (nextP nd D L) N < 0
  ·rw [if_pos h]
   rcases best_or us (nextP nd D L) N with ⟨_,h4⟩ | ⟨h4,_⟩
   ·by_cases hx : x ∈ L
    ·exact hx
    ·have h5 := h4 x.toNat (by omega)
     rw [show ((x.toNat : Nat) : Int) = x by omega,(nextP_iff nd D L x).2 ⟨h2,hx,h3⟩] at h5
     cases h5
   ·omega
  ·rw [if_neg h]
   exact pick_all f _ (pick_snoc hp h) (by rw [List.length_append,List.length_singleton];omega) x h0 h1 h2 h3
/-- A plan of lessons of any size has no fewer lessons than that of full ones. -/
theorem less_fewest (us us2 : Int → Int) (nd : Int → List Int) (N s S : Nat) (srt : List Int → List Int) (hS : N ≤ S) (hsr : ∀ L : List Int,L.Nodup → (srt L).Nodup ∧ (∀ x,x ∈ srt L ↔ x ∈ L) ∧ (srt L).length = L.length) :
  ∀ (f g : Nat) (D E : List Int),Good nd N D → Good nd N E → (∀ x,x ∈ D → x ∈ E) → N ≤ (lessD us nd N s srt f D).2.length → (lessD us2 nd N S srt g E).1.length ≤ (lessD us nd N s srt f D).1.length
 | _,0,D,E,_,_,_,_ => Nat.zero_le _
 | 0,g + 1,D,E,gD,gE,hDE,hN => by
  have h1 : N ≤ D.length := hN
  have h2 : N ≤ E.length := Nat.le_trans h1 (nodup_len D E gD.nodup hDE)
  unfold lessD
  rw [pick_full gE h2,if_pos rfl]
  exact Nat.zero_le _
 | f + 1,g + 1,D,E,gD,gE,hDE,hN => by
  by_cases h : pickD us nd N D s [] = []
  ·have e1 : lessD us nd N s srt (f + 1) D = ([],D) := by rw [lessD,if_pos h]
   rw [e1] at hN ⊢
   have h1 : N ≤ D.length := hN
   have h2 : N ≤ E.length := Nat.le_trans h1 (nodup_len D E gD.nodup hDE)
   unfold lessD
   rw [pick_full gE h2,if_pos rfl]
   exact Nat.le_refl _
  ·obtain ⟨a,_,_⟩ := pickD_facts us nd N D s [] (pick_nil nd N D)
   obtain ⟨b1,b2,b3⟩ := hsr _ a.nodup
   obtain ⟨c,_,_⟩ := pickD_facts us2 nd N E S [] (pick_nil nd N E)
   obtain ⟨d1,d2,d3⟩ := hsr _ c.nodup
   have e1 : lessD us nd N s srt (f + 1) D = ((srt (pickD us nd N D s []) :: (lessD us nd N s srt f (D ++ srt (pickD us nd N D s []))).1),(lessD us nd N s srt f (D ++ srt (pickD us nd N D s []))).2) := by rw [lessD,if_neg h]
   rw [e1] at hN ⊢
   have hsub : ∀ x,x ∈ D ++ srt (pickD us nd N D s []) → x ∈ E ++ srt (pickD us2 nd N E S []) := by
    intro x hx
    rw [List.mem_append] at hx ⊢
    rcases hx with hx | hx
    ·exact Or.inl (hDE x hx)
    ·have hx' := (b2 x).1 hx
     by_cases hE : x ∈ E
     ·exact Or.inl hE
     ·exact Or.inr ((d2 x).2 (pick_all S [] (pick_nil nd N E) (by omega) x (a.range x hx').1 (a.range x hx').2 hE (fun k hk => hDE k (a.ready x hx' k hk))))
   by_cases h2 : pickD us2 nd N E S [] = []
   ·rw [lessD,if_pos h2]
    exact Nat.zero_le _
   ·rw [lessD,if_neg h2]
    have := less_fewest us us2 nd N s S srt hS hsr f g _ _ (good_lesson gD (pick_perm a b1 b2)) (good_lesson gE (pick_perm c d1 d2)) hsub hN
    exact Nat.succ_le_succ this
/-! cycles -/
theorem links_tail (nd : Int → List Int) : ∀ (p s : List Int),Links nd (p ++ s) → Links nd s
 | [],s,h => h
 | [a],[],_ => trivial
 | [a],b :: t,h => h.2
 | a :: b :: p,s,h => links_tail nd (b :: p) s h.2
theorem links_init (nd : Int → List Int) : ∀ (p s : List Int),Links nd (p ++ s) → Links nd p
 | [],s,h => trivial
 | [a],s,h => trivial
 | a :: b :: p,s,h => ⟨h.1,links_init nd (b :: p) s h.2⟩
theorem la_cons (a b : Int) (t : List Int) : la (a :: b :: t) = la (b :: t) := by
 rw [← la_getLast,← la_getLast,List.getLast_cons (by simp)]
theorem la_app : ∀ (a b : List Int),b ≠ [] → la (a ++ b) = la b
 | [],b,_ => rfl
 | [x],y :: b,_ => la_cons x y b
 | x :: z :: a,b,h => by
  show la (x :: z :: (a ++ b)) = la b
  rw [la_cons]
  exact la_app (z :: a) b h
 | [x],[],h => absurd rfl h
theorem links_mid (nd : Int → List Int) : ∀ (p s : List Int),Links nd (p ++ s) → p ≠ [] → s ≠ [] → hd s ∈ nd (la p)
 | [],_,_,h,_ => absurd rfl h
 | [a],[],_,_,h => absurd rfl h
 | [a],b :: t,h,_,_ => h.1
 | a :: b :: p,s,h,_,hs => by
  rw [la_cons]
  exact links_mid nd (b :: p) s h.2 (by simp) hs
theorem links_join (nd : Int → List Int) : ∀ (p s : List Int),Links nd p → Links nd s → (p ≠ [] → s ≠ [] → hd s ∈ nd (la p)) → Links nd (p ++ s)
 | [],s,_,h,_ => h
 | [a],[],_,_,_ => trivial
 | [a],b :: t,_,h2,h3 => ⟨h3 (by simp) (by simp),h2⟩
 | a :: b :: p,s,h1,h2,h3 => ⟨h1.1,links_join nd (b :: p) s h1.2 h2 (fun _ hs => by
   have := h3 (by simp) hs
   rwa [la_cons] at this)⟩
theorem links_get (nd : Int → List Int) : ∀ (r : List Int) (j : Nat),Links nd r → j + 1 < r.length → r.getD (j + 1) 0 ∈ nd (r.getD j 0)
 | [],j,_,h => by simp at h
 | [a],j,_,h => by simp at h
 | a :: b :: t,0,h,_ => h.1
 | a :: b :: t,j + 1,h,hj => links_get nd (b :: t) j h.2 (by simpa using hj)
theorem min_mem : ∀ (s : List Int),s ≠ [] → ∃ m,m ∈ s ∧ ∀ y,y ∈ s → m ≤ y
 | [],h => absurd rfl h
 | [a],_ => ⟨a,by simp,fun y hy => by rw [List.mem_singleton] at hy;omega⟩
 | a :: b :: t,_ => by
  obtain ⟨m,h1,h2⟩ := min_mem (b :: t) (by simp)
  by_cases h : a ≤ m
  ·exact ⟨a,List.mem_cons_self ..,fun y hy => by
    rcases List.mem_cons.1 hy with rfl | hy
    ·exact Int.le_refl _
    ·have := h2 y hy;omega⟩
  ·exact ⟨m,List.mem_cons_of_mem _ h1,fun y hy => by
    rcases List.mem_cons.1 hy with rfl | hy
    ·omega
    ·exact h2 y hy⟩
/-- What the search looks for. -/
structure Cyc (nd : Int → List Int) (N : Nat) (t : List Int) : Prop where
 two : 2 ≤ t.length
 nodup : t.Nodup
 range : ∀ x,x ∈ t → 0 ≤ x ∧ x < N
 links : Links nd t
 back : hd t ∈ nd (la t)
 least : ∀ x,x ∈ t → hd t ≤ x
/-- What it finds. -/
structure Cyc' (nd : Int → List Int) (N : Nat) (t : List Int) : Prop where
 two : 2 ≤ t.length
 few : t.length ≤ 100
 range : ∀ x,x ∈ t → 0 ≤ x ∧ x < N
 links : Links nd t
 back : hd t ∈ nd (la t)
 least : ∀ x,x ∈ t → hd t ≤ x
/-- A chain that cannot go on but into itself. -/
theorem closing {nd : Int → List Int} {N : Nat} {D : List Int} (hs : Stuck nd N D) (hP : ∀ i : Int,(0 ≤ i ∧ i < N) → ∀ k,k ∈ nd i → 0 ≤ k ∧ k < N) :
  ∀ (f : Nat) (c : List Int),c ≠ [] → c.Nodup → Links nd c → (∀ x,x ∈ c → (0 ≤ x ∧ x < N) ∧ x ∉ D) → N < c.length + f → ∃ c',c' ≠ [] ∧ c'.Nodup ∧ Links nd c' ∧ (∀ x,x ∈ c' → (0 ≤ x ∧ x < N) ∧ x ∉ D) ∧ ∃ x,x ∈ c' ∧ x ∈ nd (la c')
 | 0,c,_,hn,_,hr,hl => by
  have := range_le hn (fun x hx => (hr x hx).1)
  omega
 | f + 1,c,h0,hn,hk,hr,hl => by
  have hlm := la_mem c (List.length_pos_iff.2 h0)
  obtain ⟨k,hk1,hk2⟩ := hs (la c) (hr _ hlm).1 (hr _ hlm).2
  by_cases hc : k ∈ c
  ·exact ⟨c,h0,hn,hk,hr,k,hc,hk1⟩
  ·refine closing hs hP f (c ++ [k]) (by simp) ?_ (links_snoc nd c k hk (fun _ => hk1)) (fun x hx => ?_) (by rw [List.length_append,List.length_singleton];omega)
   ·rw [List.nodup_append]
    refine ⟨hn,by simp,fun a ha b hb e => ?_⟩
    rw [List.mem_singleton] at hb
    subst hb
    exact hc (e ▸ ha)
   ·rcases List.mem_append.1 hx with hx | hx
    ·exact hr x hx
    ·rw [List.mem_singleton] at hx
     subst hx
     exact ⟨hP _ (hr _ hlm).1 _ hk1,hk2⟩
theorem stuck_cycle {nd : Int → List Int} {N : Nat} {D : List Int} (hs : Stuck nd N D) (hP : ∀ i : Int,(0 ≤ i ∧ i < N) → ∀ k,k ∈ nd i → 0 ≤ k ∧ k < N) (hself : ∀ i : Int,(0 ≤ i ∧ i < N) → i ∉ nd i) {i0 : Int} (hi : 0 ≤ i0 ∧ i0 < N) (hD : i0 ∉ D) : ∃ t,Cyc nd N t := by
 obtain ⟨c,h0,hn,hk,hr,x,hx,hxl⟩ := closing hs hP N [i0] (by simp) (by simp) trivial (fun x hx => by rw [List.mem_singleton] at hx;subst hx;exact ⟨hi,hD⟩) (by rw [List.length_singleton];omega)
 obtain ⟨p,q,rfl⟩ := List.append_of_mem hx
 have hs1 : Links nd (x :: q) := links_tail nd p _ hk
 have hs2 : (x :: q).Nodup := (List.nodup_append.1 hn).2.1
 have hs3 : hd (x :: q) ∈ nd (la (x :: q)) := by rwa [la_app p (x :: q) (by simp)] at hxl
 have hs4 : ∀ y,y ∈ x :: q → 0 ≤ y ∧ y < N := fun y hy => (hr y (List.mem_append_right _ hy)).1
 obtain ⟨m,hm,hmin⟩ := min_mem (x :: q) (by simp)
 obtain ⟨A,B,e⟩ := List.append_of_mem hm
 rw [e] at hs1 hs2 hs3 hs4 hmin
 have hperm : (m :: B ++ A).Perm (A ++ m :: B) := List.perm_append_comm
 have hmem : ∀ y,y ∈ m :: B ++ A → y ∈ A ++ m :: B := fun y hy => hperm.mem_iff.1 hy
 have hlm : Links nd (m :: B ++ A) := links_join nd (m :: B) A (links_tail nd A _ hs1) (links_init nd A _ hs1) (fun _ hA => by
  have e1 : la (A ++ m :: B) = la (m :: B) := la_app A (m :: B) (by simp)
  have e2 : hd (A ++ m :: B) = hd A := by
   cases A with
   | nil => exact absurd rfl hA
   | cons a A => rfl
  rwa [e1,e2] at hs3)
 have hback : hd (m :: B ++ A) ∈ nd (la (m :: B ++ A)) := by
  show m ∈ nd (la (m :: B ++ A))
  by_cases hA : A = []
  ·subst hA
   rw [List.append_nil]
   exact hs3
  ·rw [la_app (m :: B) A hA]
   exact links_mid nd A (m :: B) hs1 hA (by simp)
 refine ⟨m :: B ++ A,?_,hperm.nodup_iff.2 hs2,fun y hy => hs4 y (hmem y hy),hlm,hback,fun y hy => hmin y (hmem y hy)⟩
 cases hlen : m :: B ++ A with
 | nil => simp at hlen
 | cons a t =>
  cases t with
  | nil =>
   rw [hlen] at hback
   have ha : a ∈ m :: B ++ A := by rw [hlen];simp
   exact absurd hback (hself a (hs4 a (hmem a ha)))
  | cons b t => simp
/-- The search goes along any such cycle. -/
theorem cyc_finds {nd : Int → List Int} {N : Nat} {t : List Int} (ht : Cyc nd N t) : ∀ (d j : Nat),j + d = t.length → 1 ≤ j → (cyc nd d (t.take j)).isSome = true := by
 intro d
 induction d with
 | zero =>
  intro j hj h1
  rw [List.take_of_length_le (by omega)]
  unfold cyc
  rw [if_pos ht.back]
  rfl
 | succ d ih =>
  intro j hj h1
  have hlt : j < t.length := by omega
  have hlen : (t.take j).length = j := by rw [List.length_take];omega
  have hla : la (t.take j) = t.getD (j - 1) 0 := by
   unfold la
   rw [hlen,List.getD_eq_getElem?_getD,List.getD_eq_getElem?_getD,List.getElem?_take]
   rw [if_pos (by omega)]
  have hhd : hd (t.take j) = hd t := by
   unfold hd
   rw [List.getD_eq_getElem?_getD,List.getD_eq_getElem?_getD,List.getElem?_take]
   rw [if_pos (by omega)]
  have hg : t.getD j 0 = t[j] := by rw [List.getD_eq_getElem?_getD,List.getElem?_eq_getElem hlt];rfl
  have hk : t[j] ∈ nd (la (t.take j)) := by
   have := links_get nd t (j - 1) ht.links (by omega)
   rw [hla,← hg]
   rwa [show j - 1 + 1 = j by omega] at this
  have hnot : t[j] ∉ t.take j := fun h => by
   have h2 := ht.nodup
   rw [← List.take_append_drop j t,List.drop_eq_getElem_cons hlt,List.nodup_append] at h2
   exact h2.2.2 _ h _ (List.mem_cons_self ..) rfl
  have hgt : t[j] > hd (t.take j) := by
   rw [hhd]
   have h3 := ht.least _ (List.getElem_mem hlt)
   have h4 : hd t ≠ t[j] := fun e => hnot (by
    rw [← e,← hhd]
    exact hd_mem _ (by omega))
   omega
  unfold cyc
  rw [List.findSome?_isSome_iff]
  refine ⟨t[j],hk,?_⟩
  rw [decide_eq_true hgt,decide_eq_false hnot]
  have := ih (j + 1) (by omega) (by omega)
  rw [List.take_succ_eq_append_getElem hlt] at this
  simpa using this
theorem shI_finds (nd : Int → List Int) (n : Nat) : ∀ (d i j : Nat),i ≤ j → j < i + d → (cyc nd (n - 1) [(j : Int)]).isSome = true → (shI nd n d i).isSome = true
 | 0,i,j,h0,h1,_ => by omega
 | d + 1,i,j,h0,h1,h => by
  unfold shI
  cases hc : cyc nd (n - 1) [(i : Int)] with
  | some r => rfl
  | none =>
   have : i ≠ j := fun e => by subst e;rw [hc] at h;cases h
   exact shI_finds nd n d (i + 1) j (by omega) (by omega) h
theorem shO_finds (nd : Int → List Int) (N : Nat) : ∀ (e n m : Nat),n ≤ m → m < n + e → (shI nd m N 0).isSome = true → (shO nd N e n).isSome = true
 | 0,n,m,h0,h1,_ => by omega
 | e + 1,n,m,h0,h1,h => by
  unfold shO
  cases hc : shI nd n N 0 with
  | some r => rfl
  | none =>
   have : n ≠ m := fun e => by subst e;rw [hc] at h;cases h
   exact shO_finds nd N e (n + 1) m (by omega) (by omega) h
theorem cyc_found {nd : Int → List Int} {N : Nat} {t : List Int} (ht : Cyc nd N t) : (shO nd N (N - 1) 2).isSome = true := by
 have h2 := ht.two
 have hN := range_le ht.nodup ht.range
 have hm : hd t ∈ t := hd_mem t (by omega)
 have hr := ht.range _ hm
 have h1 := cyc_finds ht (t.length - 1) 1 (by omega) (by omega)
 have e : t.take 1 = [((hd t).toNat : Int)] := by
  cases t with
  | nil => simp at h2
  | cons a t =>
   have : (a.toNat : Int) = a := by have : 0 ≤ a := hr.1;omega
   show [a] = [(a.toNat : Int)]
   rw [this]
 rw [e] at h1
 exact shO_finds nd N (N - 1) 2 t.length h2 (by omega) (shI_finds nd t.length N 0 (hd t).toNat (by omega) (by omega) h1)
/-! what is found -/
theorem cyc_ge (nd : Int → List Int) : ∀ (d : Nat) (c r : List Int),c ≠ [] → cyc nd d c = some r → hd r = hd c ∧ ∀ x,x ∈ r → x ∈ c ∨ hd c < x
 | 0,c,r,h0,h => by
  unfold cyc at h
  split at h
  ·obtain rfl := Option.some.inj h
   exact ⟨rfl,fun x hx => Or.inl hx⟩
  ·cases h
 | d + 1,c,r,h0,h => by
  unfold cyc at h
  obtain ⟨k,hk,h2⟩ := List.exists_of_findSome?_eq_some h
  split at h2
  ·rename_i hc
   obtain ⟨a1,a2⟩ := cyc_ge nd d (c ++ [k]) r (by simp) h2
   rw [hd_snoc c k (List.length_pos_iff.2 h0)] at a1 a2
   rw [Bool.and_eq_true,decide_eq_true_eq] at hc
   refine ⟨a1,fun x hx => ?_⟩
   rcases a2 x hx with h3 | h3
   ·rcases List.mem_append.1 h3 with h3 | h3
    ·exact Or.inl h3
    ·rw [List.mem_singleton] at h3
     subst h3
     exact Or.inr hc.1
   ·exact Or.inr h3
  ·cases h2
theorem shI_least (nd : Int → List Int) (n : Nat) (hn : 2 ≤ n) : ∀ (d i : Nat) (r : List Int),shI nd n d i = some r → 2 ≤ r.length ∧ ∀ x,x ∈ r → hd r ≤ x
 | 0,i,r,h => by cases h
 | d + 1,i,r,h => by
  unfold shI at h
  split at h
  ·rename_i r' hr
   obtain rfl := Option.some.inj h
   obtain ⟨a1,a2⟩ := cyc_ge nd (n - 1) [(i : Int)] r' (by simp) hr
   have a3 := cyc_len nd (n - 1) [(i : Int)] r' hr
   refine ⟨by rw [a3,List.length_singleton];omega,fun x hx => ?_⟩
   rw [a1]
   rcases a2 x hx with h3 | h3
   ·rw [List.mem_singleton] at h3
    subst h3
    exact Int.le_refl _
   ·exact Int.le_of_lt h3
  ·exact shI_least nd n hn d (i + 1) r h
theorem shO_least (nd : Int → List Int) (N : Nat) : ∀ (e n : Nat) (r : List Int),2 ≤ n → shO nd N e n = some r → 2 ≤ r.length ∧ ∀ x,x ∈ r → hd r ≤ x
 | 0,n,r,_,h => by cases h
 | e + 1,n,r,hn,h => by
  unfold shO at h
  split at h
  ·rename_i r' hr
   obtain rfl := Option.some.inj h
   exact shI_least nd n hn N 0 r' hr
  ·exact shO_least nd N e (n + 1) r (by omega) h
theorem upI_unique {n m : List Int} (hn : n.Pairwise (· < ·)) (hm : m.Pairwise (· < ·)) (h : ∀ x,x ∈ n ↔ x ∈ m) : n = m := by
 have nd : ∀ {l : List Int},l.Pairwise (· < ·) → l.Nodup := fun {l} hl => List.Pairwise.imp (S := fun a b : Int => a ≠ b) (fun {a b} (hlt : a < b) e => by omega) hl
 have hp := (List.perm_ext_iff_of_nodup (nd hn) (nd hm)).2 h
 exact List.Perm.eq_of_pairwise (le := fun a b : Int => a < b) (fun a b _ _ h1 h2 => by omega) hn hm hp
/-- Into a rising row. -/
theorem putI_l0 (l : List Int) (x : Int) (hl : l.length ≤ 4000000) (hu : l.Pairwise (· < ·)) : ∀ d j,j + d = l.length → (∀ y,y ∈ l.take j → y < x) → ∃ r : List Int,Ev (fun k => spec_l1Put.l0 k l x (j : Int)) r ∧ r.Pairwise (· < ·) ∧ (∀ y,y ∈ r ↔ y ∈ l ∨ y = x) ∧ r.length ≤ l.length + 1 := by
 have ins : ∀ j,j ≤ l.length → (∀ y,y ∈ l.take j → y < x) → (∀ y,y ∈ l.drop j → x < y) → (l.take j ++ [x] ++ l.drop j).Pairwise (· < ·) ∧ (∀ y,y ∈ l.take j ++ [x] ++ l.drop j ↔ y ∈ l ∨ y = x) ∧ (l.take j ++ [x] ++ l.drop j).length ≤ l.length + 1 := by
  intro j hj hb ha
  have e : ∀ y,y ∈ l ↔ y ∈ l.take j ∨ y ∈ l.drop j := fun y => by rw [← List.mem_append,List.take_append_drop]
  refine ⟨?_,fun y => ?_,?_⟩
  ·rw [List.append_assoc,List.pairwise_append,List.singleton_append,List.pairwise_cons]
   refine ⟨hu.sublist (List.take_sublist _ _),⟨ha,hu.sublist (List.drop_sublist _ _)⟩,fun a h1 b h2 => ?_⟩
   have h3 := hb a h1
   rcases List.mem_cons.1 h2 with rfl | h2
   ·exact h3
   ·have := ha b h2
    omega
  ·rw [e]
   simp only [List.mem_append,List.mem_singleton]
   constructor
   ·rintro ((h | h) | h)
    ·exact Or.inl (Or.inl h)
    ·exact Or.inr h
    ·exact Or.inl (Or.inr h)
   ·rintro ((h | h) | h)
    ·exact Or.inl (Or.inl h)
    ·exact Or.inr h
    ·exact Or.inl (Or.inr h)
  ·simp only [List.length_append,List.length_take,List.length_drop,List.length_singleton]
   omega
 intro d
 induction d with
 | zero =>
  intro j hj hb
  obtain ⟨i0,i1,i2⟩ := ins j (by omega) hb (by rw [List.drop_of_length_le (by omega)];intro y hy;cases hy)
  refine ⟨l.take j ++ [x] ++ l.drop j,Ev.succ ?_,i0,i1,i2⟩
  have h1 : ((j : Int) < (l.length : Int)) = False := eq_false (by omega)
  have h2 : ((j : Int) ≤ (l.length : Int)) = True := eq_true (by omega)
  have h3 : (0 + (l.take j).length < 17592186044416) = True := eq_true (by rw [List.length_take];omega)
  have h4 : ((l.take j).length < 17592186044416) = True := eq_true (by rw [List.length_take];omega)
  have h5 : ((l.take j ++ [x]).length + (l.drop j).length < 17592186044416) = True := eq_true (by simp only [List.length_append,List.length_take,List.length_drop,List.length_singleton];omega)
  simp only [spec_l1Put.l0,h1,if_false,Option.bind_some,nat_nonneg,if_true,h2,Int.toNat_natCast,List.length_nil,h3,List.nil_append,h4,h5]
  exact Ev.now _
 | succ d ih =>
  intro j hj hb
  have hlt : j < l.length := by omega
  have h1 : ((j : Int) < (l.length : Int)) = True := eq_true (by omega)
  have h2 : ((j : Int) ≤ (l.length : Int)) = True := eq_true (by omega)
  have hg : l.getD j 0 = l[j] := by rw [List.getD_eq_getElem?_getD,List.getElem?_eq_getElem hlt];rfl
  by_cases h6 : l[j] < x
  ·obtain ⟨r,hr,h0,hm,hn⟩ := ih (j + 1) (by omega) (fun y hy => by
    rw [List.take_succ_eq_append_getElem hlt,List.mem_append,List.mem_singleton] at hy
    rcases hy with hy | rfl
    ·exact hb y hy
    ·exact h6)
   refine ⟨r,Ev.succ ?_,h0,hm,hn⟩
   simp only [spec_l1Put.l0,h1,if_true,nat_nonneg,rdJ,hg,eq_true h6,wrap_succ (show j < 4611686018427387904 by omega)]
   exact hr
  ·by_cases h7 : l[j] = x
   ·refine ⟨l,Ev.succ ?_,hu,fun y => ⟨fun h => Or.inl h,fun h => h.elim id (fun e => by rw [e,← h7];exact List.getElem_mem hlt)⟩,by omega⟩
    simp only [spec_l1Put.l0,h1,if_true,nat_nonneg,rdJ,hg,eq_false h6,if_false,eq_true h7]
    exact Ev.now _
   ·obtain ⟨i0,i1,i2⟩ := ins j (by omega) hb (fun y hy => by
     rw [List.drop_eq_getElem_cons hlt] at hy
     rcases List.mem_cons.1 hy with rfl | hy
     ·omega
     ·have h8 : (l.drop j).Pairwise (· < ·) := hu.sublist (List.drop_sublist _ _)
      rw [List.drop_eq_getElem_cons hlt,List.pairwise_cons] at h8
      have := h8.1 y hy
      omega)
    refine ⟨l.take j ++ [x] ++ l.drop j,Ev.succ ?_,i0,i1,i2⟩
    have h3 : (0 + (l.take j).length < 17592186044416) = True := eq_true (by rw [List.length_take];omega)
    have h4 : ((l.take j).length < 17592186044416) = True := eq_true (by rw [List.length_take];omega)
    have h5 : ((l.take j ++ [x]).length + (l.drop j).length < 17592186044416) = True := eq_true (by simp only [List.length_append,List.length_take,List.length_drop,List.length_singleton];omega)
    simp only [spec_l1Put.l0,h1,if_true,nat_nonneg,rdJ,hg,eq_false h6,eq_false h7,if_false,Option.bind_some,h2,Int.toNat_natCast,List.length_nil,h3,List.nil_append,h4,h5]
    exact Ev.now _
theorem putI_ev (l : List Int) (x : Int) (hl : l.length ≤ 4000000) (hu : l.Pairwise (· < ·)) : ∃ r : List Int,Ev (fun k => spec_l1Put.f k l x) r ∧ r.Pairwise (· < ·) ∧ (∀ y,y ∈ r ↔ y ∈ l ∨ y = x) ∧ r.length ≤ l.length + 1 := by
 unfold spec_l1Put.f
 exact putI_l0 l x hl hu l.length 0 (by omega) (by intro y hy;simp at hy)
def srtI (l : List Int) : List Int := l.mergeSort fun x y => decide (x ≤ y)
theorem srtI_len (l : List Int) : (srtI l).length = l.length := by simp [srtI]
theorem srtI_perm (l : List Int) : (srtI l).Perm l := List.mergeSort_perm _ _
theorem srtI_up (l : List Int) (hn : l.Nodup) : (srtI l).Pairwise (· < ·) := by
 have hs : (srtI l).Pairwise (fun x y => decide (x ≤ y) = true) := List.pairwise_mergeSort (le := fun x y : Int => decide (x ≤ y)) (by intro a b c;simp;omega) (by intro a b;simp;omega) l
 have hn2 : (srtI l).Nodup := (srtI_perm l).nodup_iff.2 hn
 have h2 : (srtI l).Pairwise (· ≠ ·) := hn2
 refine (hs.and h2).imp ?_
 rintro a b ⟨h1,h3⟩
 have := of_decide_eq_true h1
 omega
theorem Ev.next {α : Type} {g : Nat → Option α} {r : α} (h : Ev g r) : Ev (fun k => g (k + 1)) r := by
 obtain ⟨K,h⟩ := h
 exact ⟨K,fun k hk => h (k + 1) (by omega)⟩
theorem mostUsed_l0 (l : List S43) (hl : l.length ≤ 1048576) (q : Int → Bool) : ∀ d (P : Nat → Int → Option Bool) (j : Nat) (b : Int),(∀ i : Int,0 ≤ i → i < l.length → Ev (fun k => P k i) (q i)) → j + d = l.length → (b = -1 ∨ 0 ≤ b ∧ b < l.length) → Ev (fun k => impl_mostUsed.l0 (P k) k l b l (l.length : Int) (j : Int)) (bestD (usW l) q d j b) := by
 intro d
 induction d with
 | zero =>
  intro P j b hP hj hb
  refine Ev.succ ?_
  have h1 : ((j : Int) < (l.length : Int)) = False := eq_false (by omega)
  simp only [impl_mostUsed.l0,h1,if_false,bestD]
  exact Ev.now _
 | succ d ih =>
  intro P j b hP hj hb
  refine Ev.succ ?_
  have hlt : j < l.length := by omega
  have h1 : ((j : Int) < (l.length : Int)) = True := eq_true (by omega)
  have e4 : wrap64 ((j : Int) + 1) = ((j + 1 : Nat) : Int) := wrap_succ (by omega)
  have hu : usW l (j : Int) = (wat l j).f2 := by unfold usW;rw [Int.toNat_natCast]
  have key := fun b' (hb' : b' = -1 ∨ 0 ≤ b' ∧ b' < (l.length : Int)) => ih (fun k => P (k + 1)) (j + 1) b' (fun i h0 h1 => Ev.next (hP i h0 h1)) (by omega) hb'
  unfold bestD
  simp only [impl_mostUsed.l0,h1,if_true,nat_nonneg,e4]
  refine Ev.bind (Ev.next (hP (j : Int) (by omega) (by omega))) ?_
  cases q (j : Int) with
  | false =>
   simp only [Bool.false_eq_true,if_false,Bool.false_and]
   exact key b hb
  | true =>
   simp only [if_true,Bool.true_and]
   by_cases h2 : b < 0
   ·simp only [eq_true h2,if_true,decide_true,Bool.true_or]
    exact key (j : Int) (Or.inr ⟨by omega,by omega⟩)
   ·have hb2 : 0 ≤ b ∧ b < (l.length : Int) := by omega
    have hub : usW l b = (wat l b.toNat).f2 := rfl
    simp only [eq_false h2,if_false,decide_false,Bool.false_or,eq_true hb2.1,eq_true hb2.2,if_true,rdw,rdwI,Int.toNat_natCast,hu,hub]
    by_cases h3 : (wat l j).f2 > (wat l b.toNat).f2
    ·simp only [eq_true h3,if_true,decide_true]
     exact key (j : Int) (Or.inr ⟨by omega,by omega⟩)
    ·simp only [eq_false h3,if_false,decide_false,Bool.false_eq_true]
     exact key b hb
theorem mostUsed_ev (l : List S43) (hl : l.length ≤ 1048576) (q : Int → Bool) (P : Nat → Int → Option Bool) (hP : ∀ i : Int,0 ≤ i → i < l.length → Ev (fun k => P k i) (q i)) : Ev (fun k => impl_mostUsed.f (P k) k l) (best (usW l) q l.length) := by
 unfold impl_mostUsed.f best
 exact mostUsed_l0 l hl q l.length P 0 (-1) hP (by omega) (Or.inl rfl)
theorem lessP_ev (l : List S43) (D L : List Int) (hD : D.length ≤ 1048576) (hL : L.length ≤ 1048576) (i : Int) (h0 : 0 ≤ i) (h1 : i < l.length) : Ev (fun k => impl_LessonsOf.p k l D L i) (nextP (ndW l) D L i) := by
 unfold impl_LessonsOf.p
 have hp : nextP (ndW l) D L i = (!(decide (i ∈ D)) && (!(decide (i ∈ L)) && rdy (ndW l) D i)) := rfl
 rw [hp]
 refine Ev.bind (contains_ev D i (by omega)) ?_
 cases decide (i ∈ D) with
 | true =>
  simp only [if_true,Bool.not_true,Bool.false_and]
  exact Ev.now _
 | false =>
  simp only [Bool.false_eq_true,if_false,Bool.not_false,Bool.true_and]
  refine Ev.bind (contains_ev L i (by omega)) ?_
  cases decide (i ∈ L) with
  | true =>
   simp only [if_true,Bool.not_true,Bool.false_and]
   exact Ev.now _
  | false =>
   simp only [Bool.false_eq_true,if_false,Bool.not_false,Bool.true_and,eq_true h0,eq_true h1,if_true,rdwI]
   exact hasNeeds_ev (wat l i.toNat) D hD
/-! the program's -/
theorem implLess_l1 (l : List S43) (s : Nat) (D : List Int) (hl : l.length ≤ 1048576) (hD : D.length ≤ 1048576) : ∀ f L,Pick (ndW l) l.length D L → L.length + f = s → Ev (fun k => impl_LessonsOf.l1 k l (s : Int) D L) (pickD (usW l) (ndW l) l.length D f L) := by
 intro f
 induction f with
 | zero =>
  intro L hp hs
  refine Ev.succ ?_
  simp only [impl_LessonsOf.l1,show ((L.length : Int) < (s : Int)) = False from eq_false (by omega),if_false,pickD]
  exact Ev.now _
 | succ f ih =>
  intro L hp hs
  refine Ev.succ ?_
  have hL := range_le hp.nodup hp.range
  unfold pickD
  simp only [impl_LessonsOf.l1,show ((L.length : Int) < (s : Int)) = True from eq_true (by omega),if_true]
  refine Ev.bind (mostUsed_ev l hl (nextP (ndW l) D L) (fun k => impl_LessonsOf.p k l D L) (fun i h0 h1 => lessP_ev l D L hD (by omega) i h0 h1)) ?_
  by_cases h1 : best (usW l) (nextP (ndW l) D L) l.length < 0
  ·simp only [eq_true h1,if_true]
   exact Ev.now _
  ·simp only [eq_false h1,if_false,eq_true (show L.length < 17592186044416 by omega),if_true]
   exact ih _ (pick_snoc hp h1) (by rw [List.length_append,List.length_singleton];omega)
def lesD (l : List S43) (s : Nat) (f : Nat) (D : List Int) : List (List Int) × List Int := lessD (usW l) (ndW l) l.length s srtI f D
theorem srtI_facts (L : List Int) (h : L.Nodup) : (srtI L).Nodup ∧ (∀ x,x ∈ srtI L ↔ x ∈ L) ∧ (srtI L).length = L.length := ⟨(srtI_perm L).nodup_iff.2 h,fun _ => (srtI_perm L).mem_iff,srtI_len L⟩
theorem implLess_l0 (l : List S43) (s : Nat) (hl : l.length ≤ 1048576) : ∀ f D (out : List (List Int)),Good (ndW l) l.length D → l.length ≤ D.length + f → out.length + f ≤ 4000000 → Ev (fun k => impl_LessonsOf.l0 k l (s : Int) out D) (if l.length ≤ (lesD l s f D).2.length then (out ++ (lesD l s f D).1,true) else ([],false)) := by
 intro f
 induction f with
 | zero =>
  intro D out hg hf ho
  refine Ev.succ ?_
  have e : lesD l s 0 D = ([],D) := rfl
  rw [e]
  simp only [impl_LessonsOf.l0,show ((D.length : Int) < (l.length : Int)) = False from eq_false (by omega),if_false,eq_true (show l.length ≤ D.length by omega),if_true,List.append_nil]
  exact Ev.now _
 | succ f ih =>
  intro D out hg hf ho
  refine Ev.succ ?_
  have hD := range_le hg.nodup hg.range
  by_cases h1 : l.length ≤ D.length
  ·have e : lesD l s (f + 1) D = ([],D) := by unfold lesD lessD;rw [pick_full hg h1,if_pos rfl]
   rw [e]
   simp only [impl_LessonsOf.l0,show ((D.length : Int) < (l.length : Int)) = False from eq_false (by omega),if_false,eq_true h1,if_true,List.append_nil]
   exact Ev.now _
  ·simp only [impl_LessonsOf.l0,show ((D.length : Int) < (l.length : Int)) = True from eq_true (by omega),if_true]
   refine Ev.bind (implLess_l1 l s D hl (by omega) s [] (pick_nil _ _ _) (by simp)) ?_
   obtain ⟨hp,_,_⟩ := pickD_facts (usW l) (ndW l) l.length D s [] (pick_nil _ _ _)
   by_cases h2 : pickD (usW l) (ndW l) l.length D s [] = []
   ·have e : lesD l s (f + 1) D = ([],D) := by unfold lesD lessD;rw [if_pos h2]
    rw [e,h2]
    simp only [List.length_nil,Int.ofNat_zero,if_true,eq_false h1,if_false]
    exact Ev.now _
   ·have e : lesD l s (f + 1) D = ((srtI (pickD (usW l) (ndW l) l.length D s []) :: (lesD l s f (D ++ srtI (pickD (usW l) (ndW l) l.length D s []))).1),(lesD l s f (D ++ srtI (pickD (usW l) (ndW l) l.length D s []))).2) := by
     show lessD _ _ _ _ _ _ _ = _
     rw [lessD,if_neg h2]
     rfl
    rw [e]
    generalize pickD (usW l) (ndW l) l.length D s [] = P at hp h2
    have hP := range_le hp.nodup hp.range
    have h3 : 0 < P.length := List.length_pos_iff.2 h2
    obtain ⟨b1,b2,b3⟩ := srtI_facts P hp.nodup
    have hi := ih (D ++ srtI P) (out ++ [srtI P]) (good_lesson hg (pick_perm hp b1 b2)) (by rw [List.length_append,b3];omega) (by rw [List.length_append,List.length_singleton];omega)
    simp only [show ((P.length : Int) = 0) = False from eq_false (by omega),if_false,slices_Sort_int.f,show (P.length < 4611686018427387904) = True from eq_true (by omega),if_true,Option.bind_some,show (out.length < 4398046511104) = True from eq_true (by omega)]
    have e5 : (D.length + (srtI P).length < 17592186044416) = True := eq_true (by rw [b3];omega)
    change Ev (fun k => if D.length + (srtI P).length < 17592186044416 then impl_LessonsOf.l0 k l (s : Int) (out ++ [srtI P]) (D ++ srtI P) else none) _
    simp only [e5,if_true]
    rw [List.append_assoc] at hi
    exact hi
/-! the reference's -/
theorem specLess_l1 (l : List S43) (s : Nat) (out : List (List Int)) (D : List Int) (r : List (List Int)) (hz : WSz l) (hl : l.length ≤ 1048576) (hD : D.length ≤ 1048576) (ho : out.length ≤ 4000000) :
  ∀ f L now,Pick (ndW l) l.length D L → L.length + f = s → now.Pairwise (· < ·) → (∀ x,x ∈ now ↔ x ∈ L) → now.length = L.length →
   (pickD (usW l) (ndW l) l.length D f L = [] → r = out) → (pickD (usW l) (ndW l) l.length D f L ≠ [] → Ev (fun k => spec_leLessons.l0 k l (s : Int) (out ++ [srtI (pickD (usW l) (ndW l) l.length D f L)]) (D ++ srtI (pickD (usW l) (ndW l) l.length D f L))) r) →
   Ev (fun k => spec_leLessons.l1 k l (s : Int) out D now) r := by
 intro f
 have fin : ∀ (L now : List Int),Pick (ndW l) l.length D L → now.Pairwise (· < ·) → (∀ x,x ∈ now ↔ x ∈ L) → now.length = L.length → (L = [] → r = out) → (L ≠ [] → Ev (fun k => spec_leLessons.l0 k l (s : Int) (out ++ [srtI L]) (D ++ srtI L)) r) →
   Ev (fun k => if (now.length : Int) = 0 then some out else if out.length < 5864062014805 then if D.length + now.length < 17592186044416 then spec_leLessons.l0 k l (s : Int) (out ++ [now]) (D ++ now) else none else none) r := by
  intro L now hp hu hm hlen h1 h2
  have hL := range_le hp.nodup hp.range
  by_cases h3 : L = []
  ·rw [h1 h3]
   have : now.length = 0 := by rw [hlen,h3];rfl
   simp only [show ((now.length : Int) = 0) = True from eq_true (by omega),if_true]
   exact Ev.now _
  ·have h4 : 0 < L.length := List.length_pos_iff.2 h3
   have e : now = srtI L := upI_unique hu (srtI_up L hp.nodup) (fun x => by rw [hm,(srtI_perm L).mem_iff])
   simp only [show ((now.length : Int) = 0) = False from eq_false (by omega),if_false,show (out.length < 5864062014805) = True from eq_true (by omega),if_true,show (D.length + now.length < 17592186044416) = True from eq_true (by omega)]
   rw [e]
   exact h2 h3
 induction f with
 | zero =>
  intro L now hp hs hu hm hlen h1 h2
  refine Ev.succ ?_
  simp only [spec_leLessons.l1,show ((now.length : Int) < (s : Int)) = False from eq_false (by omega),if_false]
  exact fin L now hp hu hm hlen h1 h2
 | succ f ih =>
  intro L now hp hs hu hm hlen h1 h2
  refine Ev.succ ?_
  have hL := range_le hp.nodup hp.range
  have eb : best (usW l) (nextP (ndW l) D now) l.length = best (usW l) (nextP (ndW l) D L) l.length := best_congr _ _ _ _ (fun i _ => by
   have : decide ((i : Int) ∈ now) = decide ((i : Int) ∈ L) := decide_eq_decide.2 (hm _)
   unfold nextP
   rw [this])
  unfold pickD at h1 h2
  simp only [spec_leLessons.l1,show ((now.length : Int) < (s : Int)) = True from eq_true (by omega),if_true]
  refine Ev.bind (leBest_ev l D now hz hl hD (by omega)) ?_
  rw [eb]
  by_cases h3 : best (usW l) (nextP (ndW l) D L) l.length < 0
  ·rw [if_pos h3] at h1 h2
   simp only [eq_true h3,if_true]
   exact fin L now hp hu hm hlen h1 h2
  ·rw [if_neg h3] at h1 h2
   simp only [eq_false h3,if_false]
   obtain ⟨y,hy1,hy2,hy3,hy4⟩ := putI_ev now (best (usW l) (nextP (ndW l) D L) l.length) (by omega) hu
   have hp2 := pick_snoc hp h3
   have hm2 : ∀ x,x ∈ y ↔ x ∈ L ++ [best (usW l) (nextP (ndW l) D L) l.length] := fun x => by rw [hy3,List.mem_append,List.mem_singleton,hm]
   have hyn : y.Nodup := List.Pairwise.imp (S := fun a b : Int => a ≠ b) (fun {a b} (hlt : a < b) e => by omega) hy2
   refine Ev.bind hy1 ?_
   exact ih _ y hp2 (by rw [List.length_append,List.length_singleton];omega) hy2 hm2 (same_len hyn hp2.nodup hm2) h1 h2
theorem specLess_l0 (l : List S43) (s : Nat) (hz : WSz l) (hl : l.length ≤ 1048576) : ∀ f D (out : List (List Int)),Good (ndW l) l.length D → l.length ≤ D.length + f → out.length + f ≤ 4000000 → Ev (fun k => spec_leLessons.l0 k l (s : Int) out D) (out ++ (lesD l s f D).1) := by
 intro f
 induction f with
 | zero =>
  intro D out hg hf ho
  refine Ev.succ ?_
  have hD := range_le hg.nodup hg.range
  have e : lesD l s 0 D = ([],D) := rfl
  have e2 := pick_full (us := usW l) (f := s) hg (by omega)
  rw [e]
  simp only [spec_leLessons.l0]
  exact specLess_l1 l s out D _ hz hl (by omega) (by omega) s [] [] (pick_nil _ _ _) (by simp) List.Pairwise.nil (by simp) rfl (fun _ => by rw [List.append_nil]) (fun h => absurd e2 h)
 | succ f ih =>
  intro D out hg hf ho
  refine Ev.succ ?_
  have hD := range_le hg.nodup hg.range
  obtain ⟨hp,_,_⟩ := pickD_facts (usW l) (ndW l) l.length D s [] (pick_nil _ _ _)
  simp only [spec_leLessons.l0]
  refine specLess_l1 l s out D _ hz hl (by omega) (by omega) s [] [] (pick_nil _ _ _) (by simp) List.Pairwise.nil (by simp) rfl ?_ ?_
  ·intro h2
   have e : lesD l s (f + 1) D = ([],D) := by unfold lesD lessD;rw [if_pos h2]
   rw [e,List.append_nil]
  ·intro h2
   have e : lesD l s (f + 1) D = ((srtI (pickD (usW l) (ndW l) l.length D s []) :: (lesD l s f (D ++ srtI (pickD (usW l) (ndW l) l.length D s []))).1),(lesD l s f (D ++ srtI (pickD (usW l) (ndW l) l.length D s []))).2) := by
    show lessD _ _ _ _ _ _ _ = _
    rw [lessD,if_neg h2]
    rfl
   rw [e]
   generalize pickD (usW l) (ndW l) l.length D s [] = P at hp h2
   have hP := range_le hp.nodup hp.range
   have h3 : 0 < P.length := List.length_pos_iff.2 h2
   obtain ⟨b1,b2,b3⟩ := srtI_facts P hp.nodup
   have hi := ih (D ++ srtI P) (out ++ [srtI P]) (good_lesson hg (pick_perm hp b1 b2)) (by rw [List.length_append,b3];omega) (by rw [List.length_append,List.length_singleton];omega)
   rw [List.append_assoc] at hi
   exact hi
/-! both -/
theorem lesD_size (l : List S43) (s : Nat) : ∀ f D,(lesD l s f D).2 = D ++ (lesD l s f D).1.flatten ∧ (lesD l s f D).1.length ≤ f := by
 intro f
 induction f with
 | zero => intro D;exact ⟨by show D = D ++ [].flatten;simp,by show ([] : List (List Int)).length ≤ 0;simp⟩
 | succ f ih =>
  intro D
  by_cases h2 : pickD (usW l) (ndW l) l.length D s [] = []
  ·have e : lesD l s (f + 1) D = ([],D) := by unfold lesD lessD;rw [if_pos h2]
   rw [e]
   simp
  ·have e : lesD l s (f + 1) D = ((srtI (pickD (usW l) (ndW l) l.length D s []) :: (lesD l s f (D ++ srtI (pickD (usW l) (ndW l) l.length D s []))).1),(lesD l s f (D ++ srtI (pickD (usW l) (ndW l) l.length D s []))).2) := by
    show lessD _ _ _ _ _ _ _ = _
    rw [lessD,if_neg h2]
    rfl
   rw [e]
   obtain ⟨a,b⟩ := ih (D ++ srtI (pickD (usW l) (ndW l) l.length D s []))
   refine ⟨?_,by simp only [List.length_cons];omega⟩
   simp only [a,List.flatten_cons,List.append_assoc]
def lessR (l : List S43) (s : Int) : List (List Int) × Bool := if wordsB l && inB s 1 16 then (if (ordW l).length < l.length then ([],false) else ((lesD l s.toNat l.length []).1,true)) else ([],false)
theorem lessR_size (l : List S43) (s : Int) : (lessR l s).1.length ≤ l.length ∧ (lessR l s).1.flatten.length ≤ l.length := by
 unfold lessR
 split
 ·rename_i h
  split
  ·simp
  ·rw [Bool.and_eq_true] at h
   have hs : 0 < s.toNat := by have := h.2;unfold inB at this;simp at this;omega
   obtain ⟨a,b⟩ := lesD_size l s.toNat l.length []
   have hg := (less_facts (usW l) (ndW l) l.length s.toNat srtI hs srtI_facts l.length [] (good_nil _ _) (by simp)).1
   have hr := range_le hg.nodup hg.range
   refine ⟨b,?_⟩
   change (lesD l s.toNat l.length []).2.length ≤ _ at hr
   rw [a,List.nil_append] at hr
   exact hr
 ·simp
theorem implLess_ev (l : List S43) (s : Int) (hl : l.length ≤ 1048576) (hz : WSz l) : Ev (fun k => impl_LessonsOf.f k l s) (lessR l s) := by
 unfold impl_LessonsOf.f lessR
 refine Ev.bind (areWords_ev l hl hz) ?_
 cases wordsB l with
 | false =>
  simp only [Bool.false_eq_true,if_false,Bool.false_and]
  exact Ev.now _
 | true =>
  simp only [if_true,Bool.true_and,within_eq,Option.bind_some]
  by_cases hb : inB s 1 16 = true
  ·simp only [hb,if_true]
   have hs : 0 < s.toNat ∧ ((s.toNat : Nat) : Int) = s := by unfold inB at hb;simp at hb;omega
   have h1 := implLess_l0 l s.toNat hl l.length [] [] (good_nil _ _) (by simp) (by simp;omega)
   rw [hs.2,List.nil_append] at h1
   obtain ⟨hg,hk⟩ := less_facts (usW l) (ndW l) l.length s.toNat srtI hs.1 srtI_facts l.length [] (good_nil _ _) (by simp)
   obtain ⟨og,ok⟩ := ordW_facts l
   have e : (lesD l s.toNat l.length []).2.length = (ordW l).length := stuck_len hg og hk ok
   rw [e] at h1
   by_cases h2 : (ordW l).length < l.length
   ·rw [if_neg (by omega)] at h1
    rw [if_pos h2]
    exact h1
   ·rw [if_pos (by omega)] at h1
    rw [if_neg h2]
    exact h1
  ·simp only [hb,Bool.false_eq_true,if_false]
   exact Ev.now _
theorem specLess_ev (l : List S43) (s : Int) (hl : l.length ≤ 1048576) (hz : WSz l) : Ev (fun k => spec_LessonsOf.f k l s) (lessR l s) := by
 unfold spec_LessonsOf.f lessR
 refine Ev.bind (leGood_ev l hl hz) ?_
 cases wordsB l with
 | false =>
  simp only [Bool.false_eq_true,if_false,Bool.false_and]
  exact Ev.now _
 | true =>
  simp only [if_true,Bool.true_and,l1In_eq,Option.bind_some]
  by_cases hb : inB s 1 16 = true
  ·simp only [hb,if_true]
   have hs : ((s.toNat : Nat) : Int) = s := by unfold inB at hb;simp at hb;omega
   refine Ev.bind (leOrder_ev l hz hl) ?_
   by_cases h2 : (ordW l).length < l.length
   ·simp only [show (((ordW l).length : Int) < (l.length : Int)) = True from eq_true (by omega),if_true,eq_true h2]
    exact Ev.now _
   ·simp only [show (((ordW l).length : Int) < (l.length : Int)) = False from eq_false (by omega),if_false,eq_false h2]
    have h1 := specLess_l0 l s.toNat hz hl l.length [] [] (good_nil _ _) (by simp) (by simp;omega)
    rw [hs,List.nil_append] at h1
    unfold spec_leLessons.f
    exact Ev.bind h1 (Ev.now _)
  ·simp only [hb,Bool.false_eq_true,if_false]
   exact Ev.now _
theorem nd_self {l : List S43} (h : wordsB l = true) : ∀ i : Int,(0 ≤ i ∧ i < l.length) → i ∉ ndW l i := by
 intro i hi hk
 unfold wordsB at h
 rw [Bool.and_eq_true,List.all_eq_true] at h
 have hg := h.1 i.toNat (List.mem_range.2 (by omega))
 unfold goodAt at hg
 rw [Bool.and_eq_true,Bool.and_eq_true,Bool.and_eq_true,Bool.not_eq_true',decide_eq_false_iff_not] at hg
 refine hg.2.2.1 ?_
 rw [show ((i.toNat : Nat) : Int) = i by omega]
 exact hk
/-- The lessons behind D. -/
theorem lesD_steps (l : List S43) (s : Nat) : ∀ (f : Nat) (D : List Int),Good (ndW l) l.length D → stepsB l D (lesD l s f D).1 = true ∧ ∀ y,y ∈ (lesD l s f D).1 → y.length ≤ s := by
 intro f
 induction f with
 | zero => intro D _;exact ⟨rfl,fun y hy => by cases hy⟩
 | succ f ih =>
  intro D hg
  by_cases h2 : pickD (usW l) (ndW l) l.length D s [] = []
  ·have e : lesD l s (f + 1) D = ([],D) := by unfold lesD lessD;rw [if_pos h2]
   rw [e]
   exact ⟨rfl,fun y hy => by cases hy⟩
  ·have e : lesD l s (f + 1) D = ((srtI (pickD (usW l) (ndW l) l.length D s []) :: (lesD l s f (D ++ srtI (pickD (usW l) (ndW l) l.length D s []))).1),(lesD l s f (D ++ srtI (pickD (usW l) (ndW l) l.length D s []))).2) := by
    show lessD _ _ _ _ _ _ _ = _
    rw [lessD,if_neg h2]
    rfl
   rw [e]
   obtain ⟨a,b,_⟩ := pickD_facts (usW l) (ndW l) l.length D s [] (pick_nil _ _ _)
   obtain ⟨b1,b2,b3⟩ := srtI_facts _ a.nodup
   have h3 : 0 < (pickD (usW l) (ndW l) l.length D s []).length := List.length_pos_iff.2 h2
   obtain ⟨g1,g2⟩ := ih _ (good_lesson hg (pick_perm a b1 b2))
   refine ⟨?_,fun y hy => ?_⟩
   ·show (decide ((srtI _).length ≠ 0) && (List.all _ _ && stepsB l _ _)) = true
    rw [g1,b3,decide_eq_true (by omega),Bool.true_and,Bool.and_true,List.all_eq_true]
    intro x hx
    rw [ready_rdy,rdy_iff]
    exact a.ready x ((b2 x).1 hx)
   ·rcases List.mem_cons.1 hy with rfl | hy
    ·rw [b3]
     simpa using b
    ·exact g2 y hy
theorem less_len_eq {l : List S43} {s : Int} (h : (lessR l s).2 = true) : wordsB l = true ∧ inB s 1 16 = true ∧ ¬ (ordW l).length < l.length ∧ lessR l s = ((lesD l s.toNat l.length []).1,true) := by
 unfold lessR at h ⊢
 split at h
 ·rename_i hc
  rw [Bool.and_eq_true] at hc
  split at h
  ·cases h
  ·rename_i ho
   rw [if_pos (by rw [hc.1,hc.2];rfl),if_neg ho]
   exact ⟨hc.1,hc.2,ho,rfl⟩
 ·cases h
theorem lesD_whole {l : List S43} (s : Nat) (hs : 0 < s) (ho : ¬ (ordW l).length < l.length) : Good (ndW l) l.length (lesD l s l.length []).2 ∧ l.length ≤ (lesD l s l.length []).2.length := by
 obtain ⟨hg,hk⟩ := less_facts (usW l) (ndW l) l.length s srtI hs srtI_facts l.length [] (good_nil _ _) (by simp)
 obtain ⟨og,ok⟩ := ordW_facts l
 refine ⟨hg,?_⟩
 have e : (lesD l s l.length []).2.length = (ordW l).length := stuck_len hg og hk ok
 omega
/-- Made lessons are good lessons. -/
theorem less_good {l : List S43} (hl0 : l.length ≤ 1048576) (s : Nat) (hs : 0 < s) (ho : ¬ (ordW l).length < l.length) : lessB l (lesD l s l.length []).1 = true := by
 obtain ⟨hg,hN⟩ := lesD_whole s hs ho
 obtain ⟨e,_⟩ := lesD_size l s l.length []
 rw [List.nil_append] at e
 obtain ⟨g1,_⟩ := lesD_steps l s l.length [] (good_nil _ _)
 have hle := range_le hg.nodup hg.range
 rw [e] at hg hN hle
 unfold lessB
 rw [g1,decide_eq_true (show (lesD l s l.length []).1.flatten.length = l.length by omega),Bool.true_and,Bool.and_true,okFrom_iff]
 refine ⟨fun x hx => ?_,hg.nodup,fun x _ h => nomatch h⟩
 have := hg.range x hx
 rw [topW_eq l hl0]
 omega
theorem unt_none {l : List S43} {ls : List (List Int)} (h : lessB l ls = true) : (unt l [] 0 ls).1 < 0 := by
 unfold lessB at h
 rw [Bool.and_eq_true,Bool.and_eq_true,steps_eq l ls [] 0,Bool.and_eq_true,decide_eq_true_eq (p := (unt l [] 0 ls).1 < 0)] at h
 exact h.2.2.2
theorem lesD_fewest {l : List S43} (s : Nat) (hs : 0 < s) (ho : ¬ (ordW l).length < l.length) (h16 : l.length ≤ 16) : (lesD l 16 l.length []).1.length ≤ (lesD l s l.length []).1.length :=
 less_fewest (usW l) (usW l) (ndW l) l.length s 16 srtI h16 srtI_facts l.length l.length [] [] (good_nil _ _) (good_nil _ _) (fun _ h => h) (lesD_whole s hs ho).2
/-- There is a cycle just where not all can be taught. -/
theorem cyc_iff {l : List S43} (hw : wordsB l = true) : (sh l).isSome = decide ((ordW l).length < l.length) := by
 obtain ⟨hg,hs⟩ := ordW_facts l
 by_cases h : (ordW l).length < l.length
 ·rw [decide_eq_true h]
  have hex : ∃ i : Int,(0 ≤ i ∧ i < l.length) ∧ i ∉ ordW l := by
   apply Classical.byContradiction
   intro hn
   have hall : ∀ x,x ∈ (List.range l.length).map Int.ofNat → x ∈ ordW l := fun x hx => Classical.byContradiction fun h2 => hn ⟨x,(all_mem l.length x).1 hx,h2⟩
   have := nodup_len _ _ (by
    have hnd : (List.range l.length).Nodup := List.nodup_range
    exact List.Pairwise.map Int.ofNat (fun a b hab e => hab (by injection e)) hnd) hall
   rw [List.length_map,List.length_range] at this
   omega
  obtain ⟨i,hi,hi2⟩ := hex
  obtain ⟨t,ht⟩ := stuck_cycle hs (fun i hi => nd_range hw i hi.1 hi.2) (nd_self hw) hi hi2
  exact cyc_found ht
 ·rw [decide_eq_false h]
  unfold sh
  rw [sh_none (ndW l) l.length (fun i hi => nd_range hw i hi.1 hi.2) (ordW l) hg (by omega)]
  rfl
theorem sh_facts {l : List S43} (hw : wordsB l = true) {r : List Int} (h : sh l = some r) : Cyc' (ndW l) l.length r := by
 obtain ⟨a1,a2,a3,a4,a5⟩ := shO_some (ndW l) l.length (fun i hi => nd_range hw i hi.1 hi.2) (l.length - 1) 2 r h
 obtain ⟨b1,b2⟩ := shO_least (ndW l) l.length (l.length - 1) 2 r (by decide) h
 exact ⟨b1,by have := wordsB_len hw;omega,a1,a4,a5,b2⟩
/-- What all closed sets hold. -/
def Reach (nd : Int → List Int) (i x : Int) : Prop := ∀ S : Int → Prop,(∀ z,z ∈ nd i → S z) → (∀ y,S y → ∀ z,z ∈ nd y → S z) → S x
theorem Reach.step {nd : Int → List Int} {i y x : Int} (h : Reach nd i y) (hx : x ∈ nd y) : Reach nd i x := fun S h0 h1 => h1 y (h S h0 h1) x hx
theorem nd_nodup {l : List S43} (h : wordsB l = true) {i : Int} (h0 : 0 ≤ i) (h1 : i < l.length) : (ndW l i).Nodup := by
 unfold wordsB at h
 rw [Bool.and_eq_true,List.all_eq_true,decide_eq_true_eq] at h
 have hg := h.1 i.toNat (List.mem_range.2 (by omega))
 unfold goodAt at hg
 rw [Bool.and_eq_true,Bool.and_eq_true] at hg
 have hr := hg.2.1
 rw [rise_eq,Bool.and_eq_true,Bool.and_eq_true,decide_eq_true_eq] at hr
 exact hr.2.1
theorem teachP_ev (l : List S43) (D : List Int) (hD : D.length ≤ 1048576) (i : Int) (h0 : 0 ≤ i) (h1 : i < l.length) : Ev (fun k => impl_TeachOrder.p k l D i) (nextP (ndW l) D [] i) := by
 unfold impl_TeachOrder.p
 have hp : nextP (ndW l) D [] i = (!(decide (i ∈ D)) && (!(decide (i ∈ ([] : List Int))) && rdy (ndW l) D i)) := rfl
 rw [hp,decide_eq_false (show i ∉ ([] : List Int) by simp),Bool.not_false,Bool.true_and]
 refine Ev.bind (contains_ev D i (by omega)) ?_
 cases decide (i ∈ D) with
 | true =>
  simp only [if_true,Bool.not_true,Bool.false_and]
  exact Ev.now _
 | false =>
  simp only [Bool.false_eq_true,if_false,Bool.not_false,Bool.true_and,eq_true h0,eq_true h1,if_true,rdwI]
  exact hasNeeds_ev (wat l i.toNat) D hD
theorem teach_l0 (l : List S43) (hl : l.length ≤ 1048576) : ∀ f D,Good (ndW l) l.length D → l.length ≤ D.length + f → Ev (fun k => impl_TeachOrder.l0 k l D) (if (orderD (usW l) (ndW l) l.length f D).length < l.length then ([],false) else (orderD (usW l) (ndW l) l.length f D,true)) := by
 intro f
 induction f with
 | zero =>
  intro D hg hf
  refine Ev.succ ?_
  simp only [impl_TeachOrder.l0,show ((D.length : Int) < (l.length : Int)) = False from eq_false (by omega),if_false,orderD,show (D.length < l.length) = False from eq_false (by omega)]
  exact Ev.now _
 | succ f ih =>
  intro D hg hf
  refine Ev.succ ?_
  have hD := range_le hg.nodup hg.range
  unfold orderD
  by_cases h1 : l.length ≤ D.length
  ·have hb : best (usW l) (nextP (ndW l) D []) l.length < 0 := by
    rcases best_or (usW l) (nextP (ndW l) D []) l.length with ⟨h2,_⟩ | ⟨h0,h2,h3⟩
    ·omega
    ·exact absurd (range_full hg.nodup hg.range h1 _ h0 h2) ((nextP_iff _ D [] _).1 h3).1
   simp only [impl_TeachOrder.l0,show ((D.length : Int) < (l.length : Int)) = False from eq_false (by omega),if_false,eq_true hb,if_true,show (D.length < l.length) = False from eq_false (by omega)]
   exact Ev.now _
  ·simp only [impl_TeachOrder.l0,show ((D.length : Int) < (l.length : Int)) = True from eq_true (by omega),if_true]
   refine Ev.bind (mostUsed_ev l hl (nextP (ndW l) D []) (fun k => impl_TeachOrder.p k l D) (fun i h0 h1 => teachP_ev l D (by omega) i h0 h1)) ?_
   by_cases h2 : best (usW l) (nextP (ndW l) D []) l.length < 0
   ·simp only [eq_true h2,if_true,show (D.length < l.length) = True from eq_true (by omega)]
    exact Ev.now _
   ·simp only [eq_false h2,if_false,show (D.length < 17592186044416) = True from eq_true (by omega),if_true]
    exact ih _ (good_snoc hg h2) (by rw [List.length_append,List.length_singleton];omega)
def teachR (l : List S43) : List Int × Bool := if wordsB l then (if (ordW l).length < l.length then ([],false) else (ordW l,true)) else ([],false)
theorem teach_ev (l : List S43) (hl : l.length ≤ 1048576) (hz : WSz l) : Ev (fun k => impl_TeachOrder.f k l) (teachR l) := by
 unfold impl_TeachOrder.f teachR
 refine Ev.bind (areWords_ev l hl hz) ?_
 cases wordsB l with
 | false => simp only [Bool.false_eq_true,if_false];exact Ev.now _
 | true =>
  simp only [if_true]
  exact teach_l0 l hl l.length [] (good_nil _ _) (by simp)
/-! one step -/
def firstR (l : List S43) (ls : List (List Int)) : Int × Int × Bool := if wordsB l && fairB l ls then (if (unt l [] 0 ls).1 < 0 then (0,0,false) else ((unt l [] 0 ls).1,(unt l [] 0 ls).2,true)) else (0,0,false)
theorem implFirst_l1 (l : List S43) (ls : List (List Int)) (n : Nat) (y : List Int) (r : Int × Int × Bool) (hn : n < ls.length) (hs : ls.flatten.length ≤ 1048576) (hl : ls.length ≤ 1048576) (hyl : y.length ≤ 1048576) (hy : ∀ x,x ∈ y → 0 ≤ x ∧ x < l.length) (hc : Ev (fun k => impl_FirstUntaught.l0 k l ls ls (ls.length : Int) (wrap64 ((n : Int) + 1))) r) : ∀ d i,i + d = y.length → Ev (fun k => impl_FirstUntaught.l1 k l ls (n : Int) ls (ls.length : Int) (n : Int) y (y.length : Int) (i : Int)) (match (y.drop i).find? (fun x => !readyB l (ls.take n).flatten x) with | some x => ((n : Int),x,true) | none => r) := by
 intro d
 induction d with
 | zero =>
  intro i hi
  refine Ev.succ ?_
  have h1 : ((i : Int) < (y.length : Int)) = False := eq_false (by omega)
  rw [List.drop_of_length_le (by omega)]
  simp only [impl_FirstUntaught.l1,h1,if_false,List.find?_nil]
  exact hc
 | succ d ih =>
  intro i hi
  refine Ev.succ ?_
  have hlt : i < y.length := by omega
  have h1 : ((i : Int) < (y.length : Int)) = True := eq_true (by omega)
  have h2 : ((n : Int) ≤ (ls.length : Int)) = True := eq_true (by omega)
  have hg : y.getD i 0 = y[i] := by rw [List.getD_eq_getElem?_getD,List.getElem?_eq_getElem hlt];rfl
  have hb := hy y[i] (List.getElem_mem hlt)
  have ht := takeFlat ls n
  rw [List.drop_eq_getElem_cons hlt,List.find?_cons]
  simp only [impl_FirstUntaught.l1,h1,h2,if_true,nat_nonneg,rdJ,hg,eq_true hb.1,eq_true hb.2,Int.toNat_natCast,wrap_succ (show i < 4611686018427387904 by omega),rdwI]
  refine Ev.bind (concat_ev (ls.take n) (by omega) (by rw [List.length_take];omega)) ?_
  refine Ev.bind (hasNeeds_ev (wat l y[i].toNat) (ls.take n).flatten (by omega)) ?_
  change Ev (fun k => if readyB l (ls.take n).flatten y[i] = true then _ else _) _
  cases readyB l (ls.take n).flatten y[i] with
  | true =>
   simp only [if_true,Bool.not_true]
   exact ih (i + 1) (by omega)
  | false =>
   simp only [Bool.false_eq_true,if_false,Bool.not_false]
   exact Ev.now _
theorem implFirst_l0 (l : List S43) (ls : List (List Int)) (hs : ls.flatten.length ≤ 1048576) (hl : ls.length ≤ 1048576) (hy : ∀ x,x ∈ ls.flatten → 0 ≤ x ∧ x < l.length) : ∀ d n,n + d = ls.length → Ev (fun k => impl_FirstUntaught.l0 k l ls ls (ls.length : Int) (n : Int)) (if (unt l (ls.take n).flatten n (ls.drop n)).1 < 0 then (0,0,false) else ((unt l (ls.take n).flatten n (ls.drop n)).1,(unt l (ls.take n).flatten n (ls.drop n)).2,true)) := by
 intro d
 induction d with
 | zero =>
  intro n hn
  refine Ev.succ ?_
  have h1 : ((n : Int) < (ls.length : Int)) = False := eq_false (by omega)
  rw [List.drop_of_length_le (by omega)]
  simp only [impl_FirstUntaught.l0,h1,if_false,unt]
  exact Ev.now _
 | succ d ih =>
  intro n hn
  refine Ev.succ ?_
  have hlt : n < ls.length := by omega
  have h1 : ((n : Int) < (ls.length : Int)) = True := eq_true (by omega)
  have hle := flatLe (List.getElem_mem hlt)
  simp only [impl_FirstUntaught.l0,h1,if_true,nat_nonneg,rdLx,getL ls n hlt]
  have h2 := ih (n + 1) (by omega)
  rw [takeFlatSucc ls n hlt] at h2
  have h3 := implFirst_l1 l ls n ls[n] _ hlt hs hl (by omega) (fun x hx => hy x (List.mem_flatten.2 ⟨_,List.getElem_mem hlt,hx⟩)) (by rw [wrap_succ (show n < 4611686018427387904 by omega)];exact h2) ls[n].length 0 (by omega)
  rw [List.drop_zero] at h3
  rw [List.drop_eq_getElem_cons hlt]
  refine Ev.eq h3 ?_
  have e : unt l (ls.take n).flatten n (ls[n] :: ls.drop (n + 1)) = match ls[n].find? (fun x => !readyB l (ls.take n).flatten x) with
   | some x => ((n : Int),x)
   | none => unt l ((ls.take n).flatten ++ ls[n]) (n + 1) (ls.drop (n + 1)) := rfl
  rw [e]
  cases ls[n].find? (fun x => !readyB l (ls.take n).flatten x) with
  | none => rfl
  | some x =>
   have h4 : ¬ ((n : Int) < 0) := by omega
   simp only [h4,if_false]
theorem implFirst_ev (l : List S43) (ls : List (List Int)) (hl0 : l.length ≤ 1048576) (hz : WSz l) (hs : ls.flatten.length ≤ 1048576) (hl : ls.length ≤ 1048576) : Ev (fun k => impl_FirstUntaught.f k l ls) (firstR l ls) := by
 unfold impl_FirstUntaught.f firstR
 refine Ev.bind (concat_ev ls hs hl) ?_
 refine Ev.bind (areWords_ev l hl0 hz) ?_
 have bad : Ev (fun k => impl_FirstUntaught.j0 k l ls true) (0,0,false) := by
  refine Ev.succ ?_
  simp only [impl_FirstUntaught.j0,if_true]
  exact Ev.now _
 cases wordsB l with
 | false =>
  simp only [Bool.false_eq_true,if_false,Bool.false_and]
  exact bad
 | true =>
  simp only [if_true,Bool.true_and]
  unfold fairB
  have ho := okFrom_flat l ls.flatten
  by_cases h16 : ls.length ≤ 16
  ·have g1 : ((ls.length : Int) > 16) = False := eq_false (by omega)
   simp only [g1,if_false,h16,decide_true,Bool.and_true,impl_allWithin.f,Option.bind_some]
   change Ev (fun k => if (ls.flatten.all fun x => decide (0 ≤ x ∧ x ≤ topW l)) = true then _ else _) _
   cases h3 : (ls.flatten.all fun x => decide (0 ≤ x ∧ x ≤ topW l)) with
   | false =>
    rw [h3,Bool.false_and] at ho
    rw [ho]
    simp only [Bool.false_eq_true,if_false]
    exact bad
   | true =>
    rw [h3,Bool.true_and] at ho
    simp only [if_true]
    obtain ⟨t,ht,hd⟩ := distinct_len ls.flatten (by omega)
    simp only [ht,Option.bind_some]
    by_cases h4 : ls.flatten.Nodup
    ·have h5 : (((t.length : Int)) != ((ls.flatten.length : Int))) = false := by have := hd.2 h4;simp [this]
     rw [decide_eq_true h4] at ho
     rw [ho,h5]
     simp only [if_true]
     refine Ev.succ ?_
     simp only [impl_FirstUntaught.j0,Bool.false_eq_true,if_false]
     have := implFirst_l0 l ls hs hl (ok_range hl0 ho) ls.length 0 (by omega)
     rwa [List.take_zero,List.drop_zero,List.flatten_nil] at this
    ·have h5 : (((t.length : Int)) != ((ls.flatten.length : Int))) = true := by
      have : t.length ≠ ls.flatten.length := fun e => h4 (hd.1 e)
      rw [bne_iff_ne]
      intro e
      exact this (by omega)
     rw [decide_eq_false h4] at ho
     rw [ho,h5]
     simp only [Bool.false_eq_true,if_false]
     exact bad
  ·have g1 : ((ls.length : Int) > 16) = True := eq_true (by omega)
   simp only [g1,if_true,h16,decide_false,Bool.and_false,Bool.false_eq_true,if_false]
   exact bad

def areR (l : List S43) (ls : List (List Int)) : Bool × Bool := if wordsB l && decide (ls.length ≤ 16) then (lessB l ls,true) else (false,false)
theorem implAreLessons_ev (l : List S43) (ls : List (List Int)) (hl0 : l.length ≤ 1048576) (hz : WSz l) (hs : ls.flatten.length ≤ 1048576) (hl : ls.length ≤ 1048576) : Ev (fun k => impl_AreLessons.f k l ls) (areR l ls) := by
 unfold impl_AreLessons.f areR
 refine Ev.bind (areWords_ev l hl0 hz) ?_
 cases wordsB l with
 | false =>
  simp only [Bool.false_eq_true,if_false,Bool.false_and]
  exact Ev.now _
 | true =>
  simp only [if_true,Bool.true_and]
  by_cases h : ls.length ≤ 16
  ·have h2 : ((ls.length : Int) > 16) = False := eq_false (by omega)
   simp only [h2,h,if_false,if_true,decide_true]
   exact Ev.bind (areLessons_ev l ls hl0 hs hl) (Ev.now _)
  ·have h2 : ((ls.length : Int) > 16) = True := eq_true (by omega)
   simp only [h2,h,if_false,if_true,decide_false,Bool.false_eq_true]
   exact Ev.now _

end Go.Proofs.Ytgnijnlgbelifaa.Pure
namespace Go.Proofs.Ytgnijnlgbelifaa.Pure
open Go.RowKit Go.Proofs.Ytgnijnlgbelifaa.Q Go.Proofs.YtgnijnlgbelifaaW.PrintWords Go.Proofs.YtgnijnlgbelifaaW.PrintLast

/-! ### Draws -/
theorem drawLess_ok {l : List Int} (hu : U8 l) : ∃ L s,Ev (fun k => spec_DrawLessonsOf.f k l) (L,s) ∧ L.length ≤ 17 ∧ WSh 10 L := by
 obtain ⟨L,a1,s1,hE,h1,h2,p1,q1⟩ := words_ok hu (a := 0) 0 (by decide) (by decide)
 obtain ⟨y2,a2,s2,e2,_,p2,q2⟩ := among_ok hu s1 (a := a1) (by omega) (by omega) [2,0,17] (by decide) (by decide)
 obtain ⟨y3,a3,s3,e3,_,p3,q3⟩ := among_ok hu s2 (a := a2) (by omega) (by omega) [1,2,3,16,y2] (by simp) (by simp)
 refine ⟨L,y3,?_,h1,h2⟩
 unfold spec_DrawLessonsOf.f
 refine Ev.bind hE ?_
 simp only [e2,e3,Option.bind_some]
 exact Ev.now _
theorem drawCyc_l0 {l : List Int} (hu : U8 l) : ∀ (d j : Nat) (x : List S43) (a s : Int),j + d = 2 → x.length ≤ 17 → WSh (10 + j) x → 0 ≤ a → a ≤ 999999998000 + 10 * j → ∃ r,Ev (fun k => spec_DrawCycleOf.l0 k x (j : Int) l a s) r ∧ r.length ≤ 17 ∧ WSh 12 r := by
 intro d
 induction d with
 | zero =>
  intro j x a s hj hx hw h0 h1
  refine ⟨x,Ev.succ ?_,hx,hw.mono (by omega)⟩
  simp only [spec_DrawCycleOf.l0,show ((j : Int) < 2) = False from eq_false (by omega),if_false]
  refine Ev.succ ?_
  simp only [spec_DrawCycleOf.j1,Bool.false_eq_true,if_false]
  exact Ev.now _
 | succ d ih =>
  intro j x a s hj hx hw h0 h1
  have hlt : ((j : Int) < 2) = True := eq_true (by omega)
  by_cases h2 : (x.length : Int) > 1
  ·by_cases h3 : (x.length : Int) < 9
   ·obtain ⟨i,a1,s1,e1,⟨i0,i1⟩,p1,q1⟩ := pick_ok hu s h0 (by omega) (x.length : Int) (by omega) (by omega)
    obtain ⟨n,a2,s2,e2,_,p2,q2⟩ := pick_ok hu s1 (a := a1) (by omega) (by omega) (x.length : Int) (by omega) (by omega)
    obtain ⟨w1,w2⟩ := hw.at i
    by_cases h4 : i = n
    ·obtain ⟨r,hr,g1,g2⟩ := ih (j + 1) x a2 s2 (by omega) hx (hw.mono (by omega)) (by omega) (by omega)
     refine ⟨r,Ev.succ ?_,g1,g2⟩
     simp only [spec_DrawCycleOf.l0,hlt,if_true,eq_true h2,decide_eq_true h3]
     refine Ev.succ ?_
     simp only [spec_DrawCycleOf.j1,if_true,e1,e2,Option.bind_some,eq_true h4,wrap_succ (show j < 4611686018427387904 by omega)]
     exact hr
    ·obtain ⟨z,hz,hzl⟩ := putA_ev (rd_T43 x i).f1 n (by omega)
     obtain ⟨r,hr,g1,g2⟩ := ih (j + 1) (x.set (i : Int).toNat (⟨(rd_T43 x i).f0,z,(rd_T43 x i).f2⟩ : S43)) a2 s2 (by omega) (by rw [List.length_set];exact hx) ((hw.mono (by omega)).set _ (by show z.length ≤ _;omega) w2) (by omega) (by omega)
     refine ⟨r,Ev.succ ?_,g1,g2⟩
     simp only [spec_DrawCycleOf.l0,hlt,if_true,eq_true h2,decide_eq_true h3]
     refine Ev.succ ?_
     simp only [spec_DrawCycleOf.j1,if_true,e1,e2,Option.bind_some,eq_false h4,if_false,eq_true i0,eq_true i1,wrap_succ (show j < 4611686018427387904 by omega)]
     exact Ev.bind hz hr
   ·refine ⟨x,Ev.succ ?_,hx,hw.mono (by omega)⟩
    simp only [spec_DrawCycleOf.l0,hlt,if_true,eq_true h2,decide_eq_false h3]
    refine Ev.succ ?_
    simp only [spec_DrawCycleOf.j1,Bool.false_eq_true,if_false]
    exact Ev.now _
  ·refine ⟨x,Ev.succ ?_,hx,hw.mono (by omega)⟩
   simp only [spec_DrawCycleOf.l0,hlt,if_true,eq_false h2,if_false]
   refine Ev.succ ?_
   simp only [spec_DrawCycleOf.j1,Bool.false_eq_true,if_false]
   exact Ev.now _
theorem drawCyc_ok {l : List Int} (hu : U8 l) : ∃ L,Ev (fun k => spec_DrawCycleOf.f k l) L ∧ L.length ≤ 17 ∧ WSh 12 L := by
 obtain ⟨L,a1,s1,hE,h1,h2,p1,q1⟩ := words_ok hu (a := 0) 0 (by decide) (by decide)
 obtain ⟨r,hr,g1,g2⟩ := drawCyc_l0 hu 2 0 L a1 s1 (by decide) h1 h2 (by omega) (by omega)
 refine ⟨r,?_,g1,g2⟩
 unfold spec_DrawCycleOf.f
 exact Ev.bind hE hr
/-! ### What is asked of both -/
def fewR (l : List S43) : Int × Bool := (((lessR l 16).1.length : Int),(lessR l 16).2)
theorem implFew_ev (l : List S43) (hl : l.length ≤ 1048576) (hz : WSz l) : Ev (fun k => impl_FewestLessons.f k l) (fewR l) := by
 unfold impl_FewestLessons.f
 exact Ev.bind (implLess_ev l 16 hl hz) (Ev.now _)
theorem specFew_ev (l : List S43) (hl : l.length ≤ 1048576) (hz : WSz l) : Ev (fun k => spec_FewestLessons.f k l) (fewR l) := by
 unfold spec_FewestLessons.f fewR lessR
 refine Ev.bind (leGood_ev l hl hz) ?_
 cases wordsB l with
 | false =>
  simp only [Bool.false_eq_true,if_false,Bool.false_and]
  exact Ev.now _
 | true =>
  have h16 : inB 16 1 16 = true := by decide
  simp only [if_true,h16,Bool.and_true]
  refine Ev.bind (leOrder_ev l hz hl) ?_
  by_cases h2 : (ordW l).length < l.length
  ·simp only [show (((ordW l).length : Int) < (l.length : Int)) = True from eq_true (by omega),if_true,eq_true h2]
   exact Ev.now _
  ·simp only [show (((ordW l).length : Int) < (l.length : Int)) = False from eq_false (by omega),if_false,eq_false h2]
   have h1 := specLess_l0 l 16 hz hl l.length [] [] (good_nil _ _) (by simp) (by simp;omega)
   rw [List.nil_append] at h1
   refine Ev.bind (show Ev (fun k => spec_leLessons.f k l 16) _ from h1) ?_
   exact Ev.now _
theorem specTeach_ev (l : List S43) (hl : l.length ≤ 1048576) (hz : WSz l) : Ev (fun k => spec_TeachOrder.f k l) (teachR l) := by
 unfold spec_TeachOrder.f teachR
 refine Ev.bind (leGood_ev l hl hz) ?_
 cases wordsB l with
 | false =>
  simp only [Bool.false_eq_true,if_false]
  exact Ev.now _
 | true =>
  simp only [if_true]
  refine Ev.bind (leOrder_ev l hz hl) ?_
  by_cases h2 : (ordW l).length < l.length
  ·simp only [show (((ordW l).length : Int) < (l.length : Int)) = True from eq_true (by omega),if_true,eq_true h2]
   exact Ev.now _
  ·simp only [show (((ordW l).length : Int) < (l.length : Int)) = False from eq_false (by omega),if_false,eq_false h2]
   exact Ev.bind (leOrder_ev l hz hl) (Ev.now _)
def okL (l : List S43) : Bool := wordsB l && !(decide ((ordW l).length < l.length))
theorem teachR_2 (l : List S43) : (teachR l).2 = okL l := by
 unfold teachR okL
 cases wordsB l with
 | false => rfl
 | true =>
  by_cases h : (ordW l).length < l.length
  ·rw [if_pos rfl,if_pos h,decide_eq_true h];rfl
  ·rw [if_pos rfl,if_neg h,decide_eq_false h];rfl
theorem lessR_2 (l : List S43) (s : Int) : (lessR l s).2 = (okL l && inB s 1 16) := by
 unfold lessR okL
 cases wordsB l with
 | false => rfl
 | true =>
  cases inB s 1 16 with
  | false => simp
  | true =>
   by_cases h : (ordW l).length < l.length
   ·rw [Bool.true_and,if_pos rfl,if_pos h,decide_eq_true h];rfl
   ·rw [Bool.true_and,if_pos rfl,if_neg h,decide_eq_false h];rfl
theorem fewR_2 (l : List S43) : (fewR l).2 = okL l := by
 show (lessR l 16).2 = _
 rw [lessR_2,show inB 16 1 16 = true by decide,Bool.and_true]
theorem okL_facts {l : List S43} (h : okL l = true) : wordsB l = true ∧ ¬ (ordW l).length < l.length := by
 unfold okL at h
 rw [Bool.and_eq_true,Bool.not_eq_true',decide_eq_false_iff_not] at h
 exact h
theorem cycR_2 (l : List S43) : (cycR l).2 = (wordsB l && !(teachR l).2) := by
 rw [teachR_2]
 unfold cycR okL
 cases hw : wordsB l with
 | false => rfl
 | true =>
  have h := cyc_iff hw
  cases hs : sh l with
  | none =>
   rw [hs] at h
   rw [← h]
   rfl
  | some r =>
   rw [hs] at h
   rw [← h]
   rfl
/-! ### The law's steps -/
theorem fl_l4 (u : List S43) (hw : WSh 12 u) (r : List Int) (hc : Cyc' (ndW u) u.length r) : ∀ d j,j + d = r.length → Ev (fun k => laws_FnLessons.l4 k u r r (r.length : Int) (j : Int)) true := by
 have h100 := hc.few
 have h2 := hc.two
 intro d
 induction d with
 | zero =>
  intro j hj
  refine Ev.succ ?_
  simp only [laws_FnLessons.l4,show ((j : Int) < (r.length : Int)) = False from eq_false (by omega),if_false]
  exact Ev.now _
 | succ d ih =>
  intro j hj
  have hlt : j < r.length := by omega
  have hg : r.getD j 0 = r[j] := by rw [List.getD_eq_getElem?_getD,List.getElem?_eq_getElem hlt];rfl
  have hr := hc.range _ (List.getElem_mem hlt)
  have hle := hc.least _ (List.getElem_mem hlt)
  obtain ⟨m,hm,hm2⟩ : ∃ m : Nat,Int.tmod (((j + 1 : Nat) : Int)) (r.length : Int) = (m : Int) ∧ m < r.length ∧ r.getD m 0 ∈ ndW u r[j] := by
   by_cases h3 : j + 1 < r.length
   ·refine ⟨j + 1,?_,h3,?_⟩
    ·rw [Int.tmod_eq_emod_of_nonneg (by omega)]
     exact Int.emod_eq_of_lt (by omega) (by omega)
    ·rw [← hg]
     exact links_get (ndW u) r j hc.links h3
   ·have h4 : j + 1 = r.length := by omega
    refine ⟨0,?_,by omega,?_⟩
    ·rw [h4,Int.tmod_self]
     rfl
    ·have h5 := hc.back
     unfold la at h5
     rw [show r.length - 1 = j by omega,hg] at h5
     exact h5
  have hn : (wat u r[j].toNat).f1 = ndW u r[j] := rfl
  have hlen : (ndW u r[j]).length ≤ 12 := (hw.at r[j]).1
  refine Ev.succ ?_
  simp only [laws_FnLessons.l4,show ((j : Int) < (r.length : Int)) = True from eq_true (by omega),if_true,nat_nonneg,rdJ,hg,eq_true hr.1,eq_true hr.2,show ((r.length : Int) = 0) = False from eq_false (by omega),if_false,wrap_succ (show j < 4611686018427387904 by omega),hm,show ((m : Int) < (r.length : Int)) = True from eq_true (by omega),rdwI,hn]
  refine Ev.bind (pIn_ev (ndW u r[j]) (by omega) (r.getD m 0)) ?_
  have e0 : rd r 0 = hd r := rdJ r 0
  simp only [decide_eq_true hm2.2,if_true,show ((0 : Int) < (r.length : Int)) = True from eq_true (by omega),e0,show (r[j] < hd r) = False from eq_false (by omega),if_false]
  exact ih (j + 1) (by omega)
theorem fl_j7 {l1 : List Int} (hu : U8 l1) : Ev (fun k => laws_FnLessons.j7 k l1) true := by
 obtain ⟨u,hE,hul,hw⟩ := drawCyc_ok hu
 have hz : WSz u := hw.wsz (by decide)
 refine Ev.succ ?_
 simp only [laws_FnLessons.j7]
 refine Ev.bind hE ?_
 refine Ev.bind (implCycle_ev u (by omega) hz) ?_
 refine Ev.bind (specCycle_ev u (by omega) hz) ?_
 refine Ev.bind (teach_ev u (by omega) hz) ?_
 have hlen : (cycR u).1.length < 4611686018427387904 := by
  unfold cycR
  split
  ·rename_i hwb
   cases hs : sh u with
   | none => decide
   | some r => have := (sh_facts hwb hs).few;show r.length < _;omega
  ·decide
 simp only [bne_self_eq_false,Bool.false_eq_true,if_false]
 refine Ev.bind (sameInts_ev _ hlen) ?_
 simp only [if_true]
 refine Ev.bind (areWords_ev u (by omega) hz) ?_
 have h2 := cycR_2 u
 have fin : Ev (fun k => laws_FnLessons.j8 k u (cycR u).2 (cycR u).1 false) true := by
  refine Ev.succ ?_
  unfold cycR
  cases hwb : wordsB u with
  | false =>
   simp only [laws_FnLessons.j8,Bool.false_eq_true,if_false]
   exact Ev.now _
  | true =>
   cases hs : sh u with
   | none =>
    simp only [laws_FnLessons.j8,Bool.false_eq_true,if_false,if_true]
    exact Ev.now _
   | some r =>
    have hc := sh_facts hwb hs
    have := hc.two
    simp only [laws_FnLessons.j8,Bool.false_eq_true,if_false,if_true,show ((r.length : Int) < 2) = False from eq_false (by omega)]
    exact fl_l4 u hw r hc r.length 0 (by omega)
 cases hwb : wordsB u with
 | false =>
  rw [hwb,Bool.false_and] at h2
  simp only [Bool.false_eq_true,if_false]
  rw [h2] at fin ⊢
  exact fin
 | true =>
  rw [hwb,Bool.true_and] at h2
  simp only [if_true]
  rw [← h2,bne_self_eq_false]
  exact fin
theorem fl_l2 {l1 : List Int} (hu : U8 l1) (L : List S43) (hw : wordsB L = true) (ho : ¬ (ordW L).length < L.length) (p : List Int) (hpl : p.length = L.length) (hp : ∀ i,i < (ordW L).length → p.getD ((ordW L).getD i 0).toNat 0 = (i : Int)) :
  ∀ d j,j + d = L.length → Ev (fun k => laws_FnLessons.l2 k l1 L (ordW L) p L (L.length : Int) (j : Int)) true := by
 obtain ⟨og,ok⟩ := ordW_facts L
 have h16 := wordsB_len hw
 have hle := range_le og.nodup og.range
 have hin : ∀ x : Int,0 ≤ x → x < L.length → x ∈ ordW L := range_full og.nodup og.range (by omega)
 have hpx : ∀ x : Int,0 ≤ x → x < L.length → rd p x = ((ordW L).idxOf x : Int) := by
  intro x h0 h1
  have hm := hin x h0 h1
  have hi := List.idxOf_lt_length_of_mem hm
  have h2 := hp _ hi
  have e : (ordW L).getD ((ordW L).idxOf x) 0 = x := by
   rw [List.getD_eq_getElem?_getD,List.getElem?_eq_getElem hi]
   exact List.getElem_idxOf hi
  rw [e] at h2
  exact h2
 intro d
 induction d with
 | zero =>
  intro j hj
  refine Ev.succ ?_
  simp only [laws_FnLessons.l2,show ((j : Int) < (L.length : Int)) = False from eq_false (by omega),if_false,show (((ordW L).length : Int) = (L.length : Int)) = True from eq_true (by omega),if_true]
  exact fl_j7 hu
 | succ d ih =>
  intro j hj
  have key := ih (j + 1) (by omega)
  have hlt : j < L.length := by omega
  have hn : (rd_T43 L (j : Int)).f1 = ndW L (j : Int) := by rw [rdw];unfold ndW;rw [Int.toNat_natCast]
  have hlen : (ndW L (j : Int)).length ≤ 100 := by
   have := range_le (nd_nodup hw (i := (j : Int)) (by omega) (by omega)) (nd_range hw (j : Int) (by omega) (by omega))
   omega
  refine Ev.succ ?_
  simp only [laws_FnLessons.l2,show ((j : Int) < (L.length : Int)) = True from eq_true (by omega),if_true,nat_nonneg,hn]
  have l3 : ∀ e q,q + e = (ndW L (j : Int)).length → Ev (fun k => laws_FnLessons.l3 k l1 L (ordW L) p (j : Int) L (L.length : Int) (j : Int) (ndW L (j : Int)) ((ndW L (j : Int)).length : Int) (q : Int)) true := by
   intro e
   induction e with
   | zero =>
    intro q hq
    refine Ev.succ ?_
    simp only [laws_FnLessons.l3,show ((q : Int) < ((ndW L (j : Int)).length : Int)) = False from eq_false (by omega),if_false,wrap_succ (show j < 4611686018427387904 by omega)]
    exact key
   | succ e ihe =>
    intro q hq
    have hqlt : q < (ndW L (j : Int)).length := by omega
    have hg : (ndW L (j : Int)).getD q 0 = (ndW L (j : Int))[q] := by rw [List.getD_eq_getElem?_getD,List.getElem?_eq_getElem hqlt];rfl
    have hm := List.getElem_mem hqlt
    have hr := nd_range hw (j : Int) (by omega) (by omega) _ hm
    have hidx := teach_idx (ordW L) [] og.teach og.nodup (fun _ _ h => nomatch h) (j : Int) _ (hin _ (by omega) (by omega)) hm (hin _ hr.1 hr.2)
    generalize (ndW L (j : Int))[q] = x at hg hm hr hidx
    have hx := hpx x hr.1 hr.2
    have hj2 := hpx (j : Int) (by omega) (by omega)
    refine Ev.succ ?_
    simp only [laws_FnLessons.l3,show ((q : Int) < ((ndW L (j : Int)).length : Int)) = True from eq_true (by omega),if_true,nat_nonneg,rdJ (ndW L (j : Int)) q,hg,eq_true hr.1,hpl,eq_true hr.2,show ((j : Int) < (L.length : Int)) = True from eq_true (by omega),hx,hj2,show (((ordW L).idxOf x : Int) ≥ ((ordW L).idxOf (j : Int) : Int)) = False from eq_false (by omega),if_false,wrap_succ (show q < 4611686018427387904 by omega)]
    exact ihe (q + 1) (by omega)
  exact l3 (ndW L (j : Int)).length 0 (by omega)
theorem fl_l1 {l1 : List Int} (hu : U8 l1) (L : List S43) (hw : wordsB L = true) (ho : ¬ (ordW L).length < L.length) :
  ∀ d j (p : List Int),j + d = (ordW L).length → p.length = L.length → (∀ i,i < j → p.getD ((ordW L).getD i 0).toNat 0 = (i : Int)) → Ev (fun k => laws_FnLessons.l1 k l1 L (ordW L) p (ordW L) ((ordW L).length : Int) (j : Int)) true := by
 obtain ⟨og,ok⟩ := ordW_facts L
 have h16 := wordsB_len hw
 have hle := range_le og.nodup og.range
 intro d
 induction d with
 | zero =>
  intro j p hj hpl hp
  refine Ev.succ ?_
  simp only [laws_FnLessons.l1,show ((j : Int) < ((ordW L).length : Int)) = False from eq_false (by omega),if_false]
  exact fl_l2 hu L hw ho p hpl (fun i hi => hp i (by omega)) L.length 0 (by omega)
 | succ d ih =>
  intro j p hj hpl hp
  have hlt : j < (ordW L).length := by omega
  have hg : (ordW L).getD j 0 = (ordW L)[j] := by rw [List.getD_eq_getElem?_getD,List.getElem?_eq_getElem hlt];rfl
  have hr := og.range _ (List.getElem_mem hlt)
  have hnd := og.nodup
  have hne : ∀ i (hi : i < j),(ordW L)[i]'(by omega) ≠ (ordW L)[j] := fun i hi => List.pairwise_iff_getElem.1 hnd i j (by omega) hlt hi
  have key := ih (j + 1) (p.set ((ordW L)[j]).toNat (j : Int)) (by omega) (by rw [List.length_set];exact hpl) (fun i hi => by
   by_cases e : i = j
   ·subst e
    rw [hg,List.getD_eq_getElem?_getD,List.getElem?_set_self (by omega)]
    rfl
   ·have hi2 : i < j := by omega
    have hgi : (ordW L).getD i 0 = (ordW L)[i]'(by omega) := by rw [List.getD_eq_getElem?_getD,List.getElem?_eq_getElem (show i < (ordW L).length by omega)];rfl
    have hri := og.range _ (List.getElem_mem (show i < (ordW L).length by omega))
    have h1 := hp i hi2
    have h2 := hne i hi2
    rw [hgi] at h1 ⊢
    rw [List.getD_eq_getElem?_getD] at h1 ⊢
    rw [List.getElem?_set_ne (by omega)]
    exact h1)
  refine Ev.succ ?_
  simp only [laws_FnLessons.l1,show ((j : Int) < ((ordW L).length : Int)) = True from eq_true (by omega),if_true,nat_nonneg,rdJ (ordW L) j,hg,show ((ordW L)[j] < 0) = False from eq_false (by omega),if_false,show ((ordW L)[j] ≥ (L.length : Int)) = False from eq_false (by omega),eq_true hr.1,hpl,eq_true hr.2,wrap_succ (show j < 4611686018427387904 by omega)]
  exact key
theorem fl_j3 {l1 : List Int} (hu : U8 l1) (L : List S43) : Ev (fun k => laws_FnLessons.j3 k l1 L (teachR L).2 (teachR L).1) true := by
 refine Ev.succ ?_
 rcases Bool.eq_false_or_eq_true (okL L) with h | h
 ·obtain ⟨hw,ho⟩ := okL_facts h
  have h16 := wordsB_len hw
  have e : teachR L = (ordW L,true) := by unfold teachR;rw [if_pos hw,if_neg ho]
  rw [e]
  simp only [laws_FnLessons.j3,if_true,nat_nonneg,Int.toNat_natCast,show (L.length ≤ 35184372088832) = True from eq_true (by omega)]
  exact fl_l1 hu L hw ho (ordW L).length 0 (List.replicate L.length 0) (by omega) (by simp) (fun i hi => absurd hi (by omega))
 ·rw [teachR_2,h]
  simp only [laws_FnLessons.j3,Bool.false_eq_true,if_false]
  exact fl_j7 hu
theorem fl_j0 {l1 : List Int} (hu : U8 l1) (L : List S43) (s : Int) (hl : L.length ≤ 17) (hz : WSz L) : Ev (fun k => laws_FnLessons.j0 k l1 L s (lessR L s).1 (lessR L s).2 (lessR L s).1 (fewR L).1 (teachR L).2 (teachR L).1 false) true := by
 refine Ev.succ ?_
 rcases Bool.eq_false_or_eq_true (lessR L s).2 with h | h
 ·obtain ⟨hw,hb,ho,e⟩ := less_len_eq h
  obtain ⟨g1,g2⟩ := lessR_size L s
  have hs : 0 < s.toNat ∧ ((s.toNat : Nat) : Int) = s := by unfold inB at hb;simp at hb;omega
  have hg := less_good (by omega) s.toNat hs.1 ho
  have h16 := wordsB_len hw
  have hsteps := (lesD_steps L s.toNat L.length [] (good_nil _ _)).2
  have hfew := lesD_fewest s.toNat hs.1 ho h16
  have efew : (fewR L).1 = (((lesD L 16 L.length []).1.length : Nat) : Int) := by
   have h2 : (lessR L 16).2 = true := by
    rw [lessR_2,show inB 16 1 16 = true by decide,Bool.and_true]
    unfold okL
    rw [hw,decide_eq_false ho]
    rfl
   obtain ⟨_,_,_,e16⟩ := less_len_eq h2
   show ((lessR L 16).1.length : Int) = _
   rw [e16]
   rfl
  rw [e] at g1 g2 ⊢
  rw [efew]
  generalize (lesD L s.toNat L.length []).1 = G at g1 g2 hg hsteps hfew
  have g1' : G.length ≤ L.length := g1
  have g2' : G.flatten.length ≤ L.length := g2
  have hfair : fairB L G = true := by
   unfold lessB at hg
   rw [Bool.and_eq_true,Bool.and_eq_true] at hg
   unfold fairB
   rw [hg.2.1,decide_eq_true (by omega)]
   rfl
  have hare : areR L G = (true,true) := by
   unfold areR
   rw [hw,decide_eq_true (by omega),hg]
   rfl
  have hfirst : firstR L G = (0,0,false) := by
   unfold firstR
   rw [hw,hfair,Bool.true_and,if_pos rfl,if_pos (unt_none hg)]
  simp only [laws_FnLessons.j0,Bool.false_eq_true,if_false,if_true]
  refine Ev.bind (implAreLessons_ev L G (by omega) hz (by omega) (by omega)) ?_
  rw [hare]
  simp only [if_true]
  refine Ev.succ ?_
  simp only [laws_FnLessons.j1,decide_eq_false (show ¬ ((G.length : Int) < (((lesD L 16 L.length []).1.length : Nat) : Int)) by omega),Bool.false_eq_true,if_false]
  have l0 : ∀ d j,j + d = G.length → Ev (fun k => laws_FnLessons.l0 k l1 L s G (teachR L).2 (teachR L).1 G (G.length : Int) (j : Int)) true := by
   intro d
   induction d with
   | zero =>
    intro j hj
    refine Ev.succ ?_
    simp only [laws_FnLessons.l0,show ((j : Int) < (G.length : Int)) = False from eq_false (by omega),if_false]
    refine Ev.bind (implFirst_ev L G (by omega) hz (by omega) (by omega)) ?_
    rw [hfirst]
    simp only [Bool.false_eq_true,if_false]
    exact fl_j3 hu L
   | succ d ih =>
    intro j hj
    have hlt : j < G.length := by omega
    have hsz := hsteps _ (List.getElem_mem hlt)
    refine Ev.succ ?_
    simp only [laws_FnLessons.l0,show ((j : Int) < (G.length : Int)) = True from eq_true (by omega),if_true,nat_nonneg,rdLx,getL G j hlt,show ((G[j].length : Int) > s) = False from eq_false (by omega),if_false,wrap_succ (show j < 4611686018427387904 by omega)]
    exact ih (j + 1) (by omega)
  exact l0 G.length 0 (by omega)
 ·rw [h]
  simp only [laws_FnLessons.j0,Bool.false_eq_true,if_false]
  exact fl_j3 hu L
theorem FnLessons : laws_FnLessons.Pure := by
 intro l0 l1 h0 hb0 h1 hb1
 have u0 : U8 l0 := ⟨hb0,by omega⟩
 have u1 : U8 l1 := ⟨hb1,by omega⟩
 refine Ev.rounds ?_
 unfold laws_FnLessons.f
 obtain ⟨b,hb⟩ : ∃ b,laws_big.f l0 l1 = some b := by unfold laws_big.f;split <;> exact ⟨_,rfl⟩
 rw [hb]
 simp only [Option.bind_some]
 cases b with
 | true =>
  simp only [if_true]
  exact Ev.now _
 | false =>
  simp only [Bool.false_eq_true,if_false]
  obtain ⟨L,s,hE,hl,hw⟩ := drawLess_ok u0
  have hz : WSz L := hw.wsz (by decide)
  obtain ⟨g1,g2⟩ := lessR_size L s
  have hy : ∀ y,y ∈ (lessR L s).1 → y.length < 4611686018427387904 := fun y hy => by have := flatLe hy;omega
  have ht : (teachR L).1.length < 4611686018427387904 := by
   have := range_le (ordW_facts L).1.nodup (ordW_facts L).1.range
   unfold teachR
   split
   ·split
    ·decide
    ·show (ordW L).length < _;omega
   ·decide
  refine Ev.bind hE ?_
  refine Ev.bind (implLess_ev L s (by omega) hz) ?_
  refine Ev.bind (specLess_ev L s (by omega) hz) ?_
  refine Ev.bind (implFew_ev L (by omega) hz) ?_
  refine Ev.bind (specFew_ev L (by omega) hz) ?_
  refine Ev.bind (teach_ev L (by omega) hz) ?_
  refine Ev.bind (specTeach_ev L (by omega) hz) ?_
  simp only [bne_self_eq_false,Bool.false_eq_true,if_false]
  refine Ev.bind (sameLists_ev _ (by omega) hy) ?_
  simp only [if_true]
  refine Ev.bind (sameInts_ev _ ht) ?_
  have key := fl_j0 u1 L s hl hz
  have e1 := lessR_2 L s
  have e2 : ((fewR L).2 != (teachR L).2) = false := by rw [fewR_2,teachR_2,bne_self_eq_false]
  have e3 := fewR_2 L
  simp only [if_true,e2,Bool.false_eq_true,if_false]
  rcases Bool.eq_false_or_eq_true (okL L) with h | h
  ·rw [h] at e3
   have hwb := (okL_facts h).1
   have aw := areWords_ev L (by omega) hz
   rw [hwb] at aw
   rcases Bool.eq_false_or_eq_true (lessR L s).2 with h2 | h2
   ·simp only [h2,e3,if_true]
    refine Ev.bind aw ?_
    rw [h2] at key
    exact key
   ·simp only [h2,e3,if_true,Bool.false_eq_true,if_false]
    refine Ev.bind aw ?_
    rw [h2] at key
    exact key
  ·rw [h] at e3
   rw [h,Bool.false_and] at e1
   simp only [e1,e3,Bool.false_eq_true,if_false]
   rw [e1] at key
   exact key
end Go.Proofs.Ytgnijnlgbelifaa.Pure
