-- Written for the seat Ytgnijnlgbelifaa by a program of this session (wip/tool/gx.py) out of the translation. Lean checks it.
import Derived.Test.YtgnijnlgbelifaaQ0
import Derived.Test.YtgnijnlgbelifaaGPeel
import Derived.Test.YtgnijnlgbelifaaGCall
import Derived.Test.YtgnijnlgbelifaaQBImplHasNeeds1
import Derived.Test.YtgnijnlgbelifaaQBLawsBig
import Derived.Test.YtgnijnlgbelifaaQBSpecDrawLessonsOf
import Derived.Test.YtgnijnlgbelifaaQBSpecL1In
import Derived.Test.YtgnijnlgbelifaaQImplAllOfInt
import Derived.Test.YtgnijnlgbelifaaQImplAreWords
import Derived.Test.YtgnijnlgbelifaaQImplLessonsOf
import Derived.Test.YtgnijnlgbelifaaQImplMostUsed
import Derived.Test.YtgnijnlgbelifaaQSpecLeBest
import Derived.Test.YtgnijnlgbelifaaGVal
import Derived.Test.YtgnijnlgbelifaaWTab
import Derived.Test.YtgnijnlgbelifaaWKept
import Derived.Test.YtgnijnlgbelifaaWRepsOne
import Derived.Test.YtgnijnlgbelifaaGDel
import Derived.StillTailTactics
import Derived.Test.YtgnijnlgbelifaaWTab
import Derived.Test.YtgnijnlgbelifaaWApart
import Derived.Test.YtgnijnlgbelifaaWZeros
import Derived.Test.YtgnijnlgbelifaaWFoot
import Derived.Test.YtgnijnlgbelifaaWKept
import Derived.Test.YtgnijnlgbelifaaWShare
import Derived.Test.YtgnijnlgbelifaaWN
import Derived.Test.YtgnijnlgbelifaaWRepsOne
import Derived.Test.YtgnijnlgbelifaaWNEv
namespace Go.Proofs.Ytgnijnlgbelifaa.Q
open Go.RowKit Go.Proofs.YtgnijnlgbelifaaW.PrintWords Go.Proofs.YtgnijnlgbelifaaW.PrintLast Go.Proofs.YtgnijnlgbelifaaW.PrintMore Go.Proofs.YtgnijnlgbelifaaW.GCall
attribute [local go_sem] max2_int min2_int max_two min_two max_three min_three max_four min_four   -- for this text's walks alone
set_option linter.unusedVariables false
set_option linter.unusedSimpArgs false

/-! ### spec_leOrder: function 31 -/
def spec_leOrder.l0 : Nat → List (S43) → List Int → Option (List Int)
 | 0,_,_ => none
 | k + 1,x0,x3 => (spec_leBest.f k x0 x3 ([] : List Int)).bind fun t101 => (if t101 < 0 then (some x3) else (if x3.length < 17592186044416 then (spec_leOrder.l0 k x0 (x3 ++ [t101])) else (none)))
def spec_leOrder.f (k : Nat) (l0 : List (S43)) : Option (List Int) := spec_leOrder.l0 k l0 ([] : List Int)
theorem spec_leOrder.mono_l : ∀ k,(∀ y0 y1,LeO (spec_leOrder.l0 k y0 y1) (spec_leOrder.l0 (k + 1) y0 y1))
 | 0 => fun _ _ r h => by simp [spec_leOrder.l0] at h
 | k + 1 => by
  have ih0 := spec_leOrder.mono_l k
  intro y0 y1
  unfold spec_leOrder.l0
  with_reducible repeat' first|apply ih0|apply spec_leBest.mono|apply LeO.refl|apply LeO.none|refine LeO.ite ?_ ?_|refine LeO.bind ?_ (fun _ => ?_)
theorem spec_leOrder.mono : ∀ a0 k,LeO (spec_leOrder.f k a0) (spec_leOrder.f (k + 1) a0) := by
 intro a0 k
 have ih0 := spec_leOrder.mono_l k
 unfold spec_leOrder.f
 with_reducible repeat' first|apply ih0|apply spec_leBest.mono|apply LeO.refl|apply LeO.none|refine LeO.ite ?_ ?_|refine LeO.bind ?_ (fun _ => ?_)
set_option maxHeartbeats 3000000 in
set_option maxRecDepth 100000 in
theorem spec_leOrder.calls (k : Nat) (A0 : Option Addr) (c0 : Nat) (l0 : List (S43)) (r : List Int) (w : World) (hr0 : Kd.C k43 w A0 l0.length l0) (hc0 : l0.length ≤ c0) (h : spec_leOrder.f k l0 = some r) :
  Calls Try.prog 31 #[.slice A0 l0.length c0] w fun e w' => ∃ v0_ : Value,e = .returned (v0_) ∧ Kd.R (Kd.int .i64) 3 w' w.heap.size (fun _ => True) v0_ r ∧ Below w.heap.size w w' := by
 have HR0 := Aside0.mk hr0
 have HC0 := Aside0.mk hc0
 clear hr0 hc0
 have HB := Aside0.mk (Below.refl w.heap.size w)
 have H : (spec_leOrder.l0 k l0 ([] : List Int)) = some r := h
 clear h
 have H' := Aside0.mk H
 clear H
 go_enter Try.func31,Try.ntmps31
 go_wp2
 go_loopg [3] k (fun kq v3 w' => ∃ (x3_1 : List Int),Aside0 (spec_leOrder.l0 kq l0 x3_1 = some r) ∧ Aside0 (kq ≤ k) ∧ Aside0 (Kd.R (Kd.int .i64) 3 w' w.heap.size (fun _ => True) v3 x3_1) ∧ Aside0 (Below w.heap.size w w'))
 case atStart => exact ⟨(([] : List Int)),H',⟨Nat.le_refl _⟩,⟨by first|exact Kd.R_nil _ _ _ _ _|exact Kd.N_nil _ _ _ _ _|exact Kd.V_nil _ _ _ _ _|exact Kd.Q_nil _ _ _ _ _|exact Kd.S_nil _ _ _ _ _⟩,⟨ZQ HB⟩⟩
 case round =>
  clear H'
  obtain ⟨x3_1,HA,HK1,HO_3,HB⟩ := hrel
  cases gk with
  | zero => exact absurd HA.out (by simp [spec_leOrder.l0])
  | succ k1 =>
   have H := HA.out
   clear HA
   simp only [spec_leOrder.l0] at H
   replace H := Option.bind_eq_some_iff.mp H
   obtain ⟨t101,A20,H⟩ := H
   try dsimp only at H
   have A2 := Aside0.mk A20
   clear A20
   by_cases c3 : t101 < 0
   ·rw [if_pos c3] at H
    have c3b0 := decide_eq_true c3
    clear c3
    obtain rfl := Option.some.inj H
    obtain ⟨Ao4,co4,eo4⟩ := Kd.R_slice HO_3.out
    subst eo4
    go_wp2_with (first|((with_reducible refine gate_callee (f := 56) rfl ?_);refine goesM_ (some 7) Try.func56 #[.slice A0 l0.length c0,.slice Ao4 x3_1.length co4,.slice none 0 0] ?_;(refine (spec_leBest.calls k1 _ _ l0 _ _ x3_1 _ _ ([] : List Int) t101 _ ?side1 ?side2 ?side3 ?side4 ?side5 ?side6 A2.out).mono ?_);(case side1 => exact ZR (Kd.C_below HR0.out HB.out));(case side2 => exact HC0.out);(case side3 => exact ZR (Kd.R_reads' HO_3.out).2.2);(case side4 => exact (Kd.R_reads' HO_3.out).2.1);(case side5 => exact Kd.C_nil _ _);(case side6 => exact Nat.le_refl _);rintro e w5 ⟨rfl,hb⟩;refine ⟨_,rfl,?_⟩;replace HO_3 := ZBR HO_3 hb;replace HB := Aside0.mk (below_step (ZQ HB) hb);(try clear hb)))
    go_ret
    exact ⟨_,by first|rfl|(simp [*,errW_none,errW_some] <;> rfl),ZK HO_3,ZQ HB⟩
   rw [if_neg c3] at H
   have c3b0 := decide_eq_false c3
   clear c3
   by_cases c6 : x3_1.length < 17592186044416;rotate_left
   ·rw [if_neg c6] at H
    exact absurd H (by simp)

   rw [if_pos c6] at H
   have LMc6 := Aside0.mk c6
   clear c6
   obtain ⟨y102,hy102⟩ : ∃ y_ : List Int,y_ = (x3_1 ++ [t101]) := ⟨_,rfl⟩
   replace H : (spec_leOrder.l0 k1 l0 y102) = some r := by first|(rw [hy102];with_reducible exact H)|(have H2_ := (Option.bind_some _ _).symm.trans H;rw [hy102];with_reducible exact H2_)|(have H2_ := (Option.bind_some _ _).symm.trans H;with_reducible exact H2_)|with_reducible exact H|(rw [hy102];exact H)|exact H
   have Ny102 := Aside0.mk hy102
   clear hy102
   have H' := Aside0.mk H
   clear H
   obtain ⟨Ao7,co7,eo7⟩ := Kd.R_slice HO_3.out
   subst eo7
   go_wp2_with (first|((with_reducible refine gate_callee (f := 56) rfl ?_);refine goesM_ (some 7) Try.func56 #[.slice A0 l0.length c0,.slice Ao7 x3_1.length co7,.slice none 0 0] ?_;(refine (spec_leBest.calls k1 _ _ l0 _ _ x3_1 _ _ ([] : List Int) t101 _ ?side1 ?side2 ?side3 ?side4 ?side5 ?side6 A2.out).mono ?_);(case side1 => exact ZR (Kd.C_below HR0.out HB.out));(case side2 => exact HC0.out);(case side3 => exact ZR (Kd.R_reads' HO_3.out).2.2);(case side4 => exact (Kd.R_reads' HO_3.out).2.1);(case side5 => exact Kd.C_nil _ _);(case side6 => exact Nat.le_refl _);rintro e w8 ⟨rfl,hb⟩;refine ⟨_,rfl,?_⟩;replace HO_3 := ZBR HO_3 hb;replace HB := Aside0.mk (below_step (ZQ HB) hb);(try clear hb))|((with_reducible refine gate_builtin (b := .append) (xs := #[.tmp 11,.tmp 13]) rfl ?_);at_builtin;refine Kd.R_append (Kd.int .i64) (w0 := w) w.heap.size rfl (.tmp 11) (.tmp 13) 32 3 (.int .i64 0) 8 rfl Try.underlying32 info3 rfl (by decide) (by omega) (.slice Ao7 x3_1.length co7) x3_1 t101 [.int .i64 t101] (fun _ => True) (fun _ => False) rfl rfl ?aP (fun _ hk => hk.elim) ?aF ?aO ?aB ?aS ?aL ?_;(case aP => exact rfl);(case aB => exact (ZQ HB));(case aF => exact (fun _ _ => trivial));(case aO => exact (ZK HO_3));(case aS => exact (below_size (ZQ HB)));(case aL => have := LMc6.out;omega);intro v103 w9 ho hb hg hat;rw [← Ny102.out] at ho;replace HB := Aside0.mk (hb);have HO104 := Aside0.mk (ho);clear HO_3;clear ho hb hg hat))
   go_roundg k1
   case measure => have := HK1.out;omega
   case rel => exact ⟨(y102),H',⟨by have := HK1.out;omega⟩,⟨ZK HO104⟩,⟨ZQ HB⟩⟩
/-! ### spec_leLessons: function 32 -/
mutual
def spec_leLessons.l0 : Nat → List (S43) → Int → List (List Int) → List Int → Option ((List (List Int)))
 | 0,_,_,_,_ => none
 | k + 1,x0,x1,x5,x6 => spec_leLessons.l1 k x0 x1 x5 x6 ([] : List Int)
def spec_leLessons.l1 : Nat → List (S43) → Int → List (List Int) → List Int → List Int → Option ((List (List Int)))
 | 0,_,_,_,_,_ => none
 | k + 1,x0,x1,x5,x6,x7 => if (x7.length : Int) < x1 then ((spec_leBest.f k x0 x6 x7).bind fun t107 => (if t107 < 0 then (if (x7.length : Int) = 0 then (some x5) else (if x5.length < 5864062014805 then (if x6.length + x7.length < 17592186044416 then (spec_leLessons.l0 k x0 x1 (x5 ++ [x7]) (x6 ++ x7)) else (none)) else (none))) else ((spec_l1Put.f k x7 t107).bind fun t114 => (spec_leLessons.l1 k x0 x1 x5 x6 t114)))) else (if (x7.length : Int) = 0 then (some x5) else (if x5.length < 5864062014805 then (if x6.length + x7.length < 17592186044416 then (spec_leLessons.l0 k x0 x1 (x5 ++ [x7]) (x6 ++ x7)) else (none)) else (none)))
end
def spec_leLessons.f (k : Nat) (l0 : List (S43)) (a1 : Int) : Option ((List (List Int))) := spec_leLessons.l0 k l0 a1 ([] : List (List Int)) ([] : List Int)
theorem spec_leLessons.mono_l : ∀ k,(∀ y0 y1 y2 y3,LeO (spec_leLessons.l0 k y0 y1 y2 y3) (spec_leLessons.l0 (k + 1) y0 y1 y2 y3)) ∧ (∀ y0 y1 y2 y3 y4,LeO (spec_leLessons.l1 k y0 y1 y2 y3 y4) (spec_leLessons.l1 (k + 1) y0 y1 y2 y3 y4))
 | 0 => ⟨fun _ _ _ _ r h => by simp [spec_leLessons.l0] at h,fun _ _ _ _ _ r h => by simp [spec_leLessons.l1] at h⟩
 | k + 1 => by
  obtain ⟨ih0,ih1⟩ := spec_leLessons.mono_l k
  refine ⟨?_,?_⟩ <;> intros
  all_goals first|unfold spec_leLessons.l0|unfold spec_leLessons.l1
  with_reducible repeat' first|apply ih0|apply ih1|apply spec_l1Put.mono|apply spec_leBest.mono|apply LeO.refl|apply LeO.none|refine LeO.ite ?_ ?_|refine LeO.bind ?_ (fun _ => ?_)
theorem spec_leLessons.mono : ∀ a0 a1 k,LeO (spec_leLessons.f k a0 a1) (spec_leLessons.f (k + 1) a0 a1) := by
 intro a0 a1 k
 obtain ⟨ih0,ih1⟩ := spec_leLessons.mono_l k
 unfold spec_leLessons.f
 with_reducible repeat' first|apply ih0|apply ih1|apply spec_l1Put.mono|apply spec_leBest.mono|apply LeO.refl|apply LeO.none|refine LeO.ite ?_ ?_|refine LeO.bind ?_ (fun _ => ?_)
set_option maxHeartbeats 3000000 in
set_option maxRecDepth 100000 in
theorem spec_leLessons.calls (k : Nat) (A0 : Option Addr) (c0 : Nat) (l0 : List (S43)) (a1 : Int) (r : List (List Int)) (w : World) (hr0 : Kd.C k43 w A0 l0.length l0) (hc0 : l0.length ≤ c0) (h : spec_leLessons.f k l0 a1 = some r) :
  Calls Try.prog 32 #[.slice A0 l0.length c0,.int .i64 a1] w fun e w' => ∃ v0_ : Value,e = .returned (v0_) ∧ Kd.N (Kd.slice 3 (Kd.int .i64)) 32 w' w.heap.size (fun k_ => (w.heap.size ≤ k_)) v0_ r ∧ Below w.heap.size w w' := by
 have HR0 := Aside0.mk hr0
 have HC0 := Aside0.mk hc0
 clear hr0 hc0
 have HB := Aside0.mk (Below.refl w.heap.size w)
 have H : (spec_leLessons.l0 k l0 a1 ([] : List (List Int)) ([] : List Int)) = some r := h
 clear h
 have H' := Aside0.mk H
 clear H
 go_enter Try.func32,Try.ntmps32
 go_wp2
 go_loopg [5,6] k (fun kq v5 v6 w' => ∃ (x5_1 : List (List Int)) (x6_1 : List Int),Aside0 (spec_leLessons.l0 kq l0 a1 x5_1 x6_1 = some r) ∧ Aside0 (kq ≤ k) ∧ Aside0 (Kd.N (Kd.slice 3 (Kd.int .i64)) 32 w' w.heap.size (fun k_ => (w.heap.size ≤ k_) ∧ some k_ ≠ (v6 : Value).ownBlock) v5 x5_1) ∧ Aside0 (Kd.R (Kd.int .i64) 3 w' w.heap.size (fun k_ => (w.heap.size ≤ k_)) v6 x6_1) ∧ Aside0 (Below w.heap.size w w'))
 case atStart => exact ⟨(([] : List (List Int))),(([] : List Int)),H',⟨Nat.le_refl _⟩,⟨by first|exact Kd.S_nil _ _ _ _ _|exact Kd.N_nil _ _ _ _ _|exact Kd.V_nil _ _ _ _ _|exact Kd.Q_nil _ _ _ _ _|exact Kd.R_nil _ _ _ _ _⟩,⟨by first|exact Kd.R_nil _ _ _ _ _|exact Kd.N_nil _ _ _ _ _|exact Kd.V_nil _ _ _ _ _|exact Kd.Q_nil _ _ _ _ _|exact Kd.S_nil _ _ _ _ _⟩,⟨ZQ HB⟩⟩
 case round =>
  clear H'
  obtain ⟨x5_1,x6_1,HA,HK1,HO_5,HO_6,HB⟩ := hrel
  cases gk with
  | zero => exact absurd HA.out (by simp [spec_leLessons.l0])
  | succ k1 =>
   have H := HA.out
   clear HA
   simp only [spec_leLessons.l0] at H
   have H' := Aside0.mk H
   clear H
   go_wp2
   go_loopg [7] k1 (fun kq v7 w' => ∃ (x7_2 : List Int),Aside0 (spec_leLessons.l1 kq l0 a1 x5_1 x6_1 x7_2 = some r) ∧ Aside0 (kq ≤ k1) ∧ Aside0 (Kd.N (Kd.slice 3 (Kd.int .i64)) 32 w' w.heap.size (fun k_ => (w.heap.size ≤ k_) ∧ some k_ ≠ (u6 : Value).ownBlock) u5 x5_1) ∧ Aside0 (Kd.R (Kd.int .i64) 3 w' w.heap.size (fun k_ => (w.heap.size ≤ k_)) u6 x6_1) ∧ Aside0 (Kd.V (Kd.int .i64) 3 w' w.heap.size (fun k_ => (w.heap.size ≤ k_) ∧ some k_ ≠ (u5 : Value).ownBlock ∧ some k_ ≠ (u6 : Value).ownBlock) v7 x7_2) ∧ Aside0 (Below w.heap.size w w'))
   case atStart => exact ⟨(([] : List Int)),H',⟨Nat.le_refl _⟩,⟨ZKN HO_5⟩,⟨ZK HO_6⟩,⟨Kd.V_nil _ _ _ _ _⟩,⟨ZQ HB⟩⟩
   case round =>
    clear H'
    obtain ⟨x7_2,HA,HK2,HO_5,HO_6,HO_7,HB⟩ := hrel
    cases gk with
    | zero => exact absurd HA.out (by simp [spec_leLessons.l1])
    | succ k2 =>
     have H := HA.out
     clear HA
     simp only [spec_leLessons.l1] at H
     by_cases c3 : (x7_2.length : Int) < a1;rotate_left
     ·rw [if_neg c3] at H
      have c3b0 : decide ((x7_2.length : Int) < a1) = false := decide_eq_false c3
      clear c3
      by_cases c22 : (x7_2.length : Int) = 0
      ·rw [if_pos c22] at H
       have c22b0 : ((x7_2.length : Int) == 0) = true := beq_iff_eq.mpr c22
       have c22b1 : ((x7_2.length : Int) != 0) = false := bne_eq_false_iff_eq.mpr c22
       clear c22
       obtain rfl := Option.some.inj H
       obtain ⟨Ao23,co23,eo23⟩ := Kd.V_slice HO_7.out
       subst eo23
       go_wp2
       go_ret
       exact ⟨_,by first|rfl|(simp [*,errW_none,errW_some] <;> rfl),ZKN ⟨Kd.N_mono HO_5.out (fun _ hk => hk.1)⟩,ZQ HB⟩
      rw [if_neg c22] at H
      have c22b0 : ((x7_2.length : Int) == 0) = false := beq_eq_false_iff_ne.mpr c22
      have c22b1 : ((x7_2.length : Int) != 0) = true := bne_iff_ne.mpr c22
      have c22b2 : ¬ (x7_2 = []) := fun h_ => c22 (by rw [h_];rfl)
      by_cases c24 : x5_1.length < 5864062014805;rotate_left
      ·rw [if_neg c24] at H
       exact absurd H (by simp)


      rw [if_pos c24] at H
      have LMc24 := Aside0.mk c24
      clear c24
      obtain ⟨y101,hy101⟩ : ∃ y_ : List (List Int),y_ = (x5_1 ++ [x7_2]) := ⟨_,rfl⟩
      replace H : (if x6_1.length + x7_2.length < 17592186044416 then (spec_leLessons.l0 k2 l0 a1 y101 (x6_1 ++ x7_2)) else (none)) = some r := by first|(rw [hy101];with_reducible exact H)|(have H2_ := (Option.bind_some _ _).symm.trans H;rw [hy101];with_reducible exact H2_)|(have H2_ := (Option.bind_some _ _).symm.trans H;with_reducible exact H2_)|with_reducible exact H|(rw [hy101];exact H)|exact H
      have Ny101 := Aside0.mk hy101
      clear hy101
      by_cases c25 : x6_1.length + x7_2.length < 17592186044416;rotate_left
      ·rw [if_neg c25] at H
       exact absurd H (by simp)
      rw [if_pos c25] at H
      have LMc25 := Aside0.mk c25
      clear c25
      obtain ⟨y104,hy104⟩ : ∃ y_ : List Int,y_ = (x6_1 ++ x7_2) := ⟨_,rfl⟩
      replace H : (spec_leLessons.l0 k2 l0 a1 y101 y104) = some r := by first|(rw [hy104];with_reducible exact H)|(have H2_ := (Option.bind_some _ _).symm.trans H;rw [hy104];with_reducible exact H2_)|(have H2_ := (Option.bind_some _ _).symm.trans H;with_reducible exact H2_)|with_reducible exact H|(rw [hy104];exact H)|exact H
      have Ny104 := Aside0.mk hy104
      clear hy104
      have H' := Aside0.mk H
      clear H
      obtain ⟨Ao26,co26,eo26⟩ := Kd.V_slice HO_7.out
      subst eo26
      go_wp2_with (first|((with_reducible refine gate_builtin (b := .append) (xs := #[.tmp 26,.tmp 28]) rfl ?_);at_builtin;refine Kd.N_append (Kd.slice 3 (Kd.int .i64)) (w0 := w) w.heap.size rfl (.tmp 26) (.tmp 28) 27 32 (.slice none 0 0) 24 rfl Try.underlying27 info32 rfl (by decide) (by omega) u5 x5_1 x7_2 [.slice Ao26 x7_2.length co26] (fun k_ => (w.heap.size ≤ k_) ∧ some k_ ≠ (u6 : Value).ownBlock) (fun k_ => ((fun k_ => (w.heap.size ≤ k_) ∧ some k_ ≠ (u6 : Value).ownBlock)) k_ ∧ some k_ ≠ (u5 : Value).ownBlock) rfl rfl ?aP (fun _ hk => hk) ?aF ?aO ?aB ?aS ?aL ?_;(case aP => exact (Kd.FK_slice_mk (Kd.V_reads' (Kd.V_mono (ok' := (fun k_ => ((fun k_ => (w.heap.size ≤ k_) ∧ some k_ ≠ (u6 : Value).ownBlock)) k_ ∧ some k_ ≠ (u5 : Value).ownBlock)) (HO_7.out) (fun k_ hk => ⟨⟨hk.1,hk.2.2⟩,hk.2.1⟩))).2.1 (Kd.V_F (Kd.V_mono (ok' := (fun k_ => ((fun k_ => (w.heap.size ≤ k_) ∧ some k_ ≠ (u6 : Value).ownBlock)) k_ ∧ some k_ ≠ (u5 : Value).ownBlock)) (HO_7.out) (fun k_ hk => ⟨⟨hk.1,hk.2.2⟩,hk.2.1⟩)))));(case aB => exact (ZQ HB));(case aF => exact (fun k_ hk => ⟨(Nat.le_trans (below_size (ZQ HB)) hk),Kd.fresh' (Kd.R_lt (ZK HO_6)) k_ hk⟩));(case aO => exact (ZKN HO_5));(case aS => exact (below_size (ZQ HB)));(case aL => have := LMc24.out;omega);intro v102 w27 ho hb hg hat;rw [← Ny101.out] at ho;replace HO_6 := Aside0.mk (Kd.R_over' (ZK HO_6) (Kd.N_typed (ZKN HO_5)) (by decide) hg);replace HO_7 := Aside0.mk (Kd.V_afterv (ok := (fun k_ => (w.heap.size ≤ k_) ∧ some k_ ≠ (u6 : Value).ownBlock)) (ZKV ⟨Kd.V_mono HO_7.out (fun _ hk => ⟨⟨hk.1,hk.2.2⟩,hk.2.1⟩)⟩) hg hat);replace HB := Aside0.mk (hb);have HO103 := Aside0.mk (ho);clear HO_5;clear ho hb hg hat)|((with_reducible refine gate_builtin (b := .append) (xs := #[.tmp 30,.tmp 31]) rfl ?_);at_builtin;refine Kd.R_append_rows (Kd.int .i64) (w0 := w) w.heap.size rfl (.tmp 30) (.tmp 31) 32 3 (.int .i64 0) 8 rfl Try.underlying32 info3 rfl (by decide) (by omega) u6 x6_1 x7_2 _ _ _ (fun k_ => (w.heap.size ≤ k_)) (fun _ => False) rfl rfl ?aO ?aR (fun _ _ h => h) (fun _ h => h.elim) ?aF ?aB ?aS ?aL ?_;(case aR => exact ZR (Kd.V_reads' HO_7.out).2.2);(case aB => exact (ZQ HB));(case aF => exact (fun k_ hk => (Nat.le_trans (below_size (ZQ HB)) hk)));(case aO => exact (ZK HO_6));(case aS => exact (below_size (ZQ HB)));(case aL => have := LMc25.out;omega);intro v105 w28 ho hb hg hat;rw [← Ny104.out] at ho;replace HO_7 := Aside0.mk (Kd.V_afterv (ok := (fun k_ => (w.heap.size ≤ k_) ∧ some k_ ≠ (v102 : Value).ownBlock)) (ZKV ⟨Kd.V_mono HO_7.out (fun _ hk => ⟨⟨hk.1.1,hk.2⟩,hk.1.2⟩)⟩) hg hat);replace HO103 := Aside0.mk (Kd.N_afterv (ok := (fun k_ => (w.heap.size ≤ k_))) (ZKN HO103) hg hat);replace HB := Aside0.mk (hb);have HO106 := Aside0.mk (ho);clear HO_6;clear ho hb hg hat))
      go_roundg k2
      case measure => have := HK1.out;have := HK2.out;omega
      case rel => exact ⟨(y101),(y104),H',⟨by have := HK1.out;have := HK2.out;omega⟩,⟨ZKN HO103⟩,⟨ZK HO106⟩,⟨ZQ HB⟩⟩
     rw [if_pos c3] at H
     have c3b0 : decide ((x7_2.length : Int) < a1) = true := decide_eq_true c3
     clear c3
     replace H := Option.bind_eq_some_iff.mp H
     obtain ⟨t107,A40,H⟩ := H
     try dsimp only at H
     have A4 := Aside0.mk A40
     clear A40
     by_cases c5 : t107 < 0;rotate_left
     ·rw [if_neg c5] at H
      have c5b0 : decide (t107 < 0) = false := decide_eq_false c5
      clear c5
      replace H := Option.bind_eq_some_iff.mp H
      obtain ⟨t114,A170,H⟩ := H
      try dsimp only at H
      have A17 := Aside0.mk A170
      clear A170
      have H' := Aside0.mk H
      clear H
      obtain ⟨Ao18,co18,eo18⟩ := Kd.V_slice HO_7.out
      subst eo18
      obtain ⟨Ao19,co19,eo19⟩ := Kd.R_slice HO_6.out
      subst eo19
      go_wp2_with (first|((with_reducible refine gate_callee (f := 56) rfl ?_);refine goesM_ (some 16) Try.func56 #[.slice A0 l0.length c0,.slice Ao19 x6_1.length co19,.slice Ao18 x7_2.length co18] ?_;(with_reducible refine (spec_leBest.calls k2 _ _ l0 _ _ x6_1 _ _ x7_2 t107 _ ?side1 ?side2 ?side3 ?side4 ?side5 ?side6 A4.out).mono ?_);(case side1 => exact ZR (Kd.C_below HR0.out HB.out));(case side2 => exact HC0.out);(case side3 => exact ZR (Kd.R_reads' HO_6.out).2.2);(case side4 => exact (Kd.R_reads' HO_6.out).2.1);(case side5 => exact ZR (Kd.V_reads' HO_7.out).2.2);(case side6 => exact (Kd.V_reads' HO_7.out).2.1);rintro e w20 ⟨rfl,hb⟩;refine ⟨_,rfl,?_⟩;replace HO_5 := ZBN HO_5 hb;replace HO_6 := ZBR HO_6 hb;replace HO_7 := ZBV HO_7 hb;replace HB := Aside0.mk (below_step (ZQ HB) hb);(try clear hb))|((with_reducible refine gate_callee (f := 43) rfl ?_);refine goesM_ (some 21) Try.func43 #[.slice Ao18 x7_2.length co18,.int .i64 t107] ?_;(with_reducible refine (spec_l1Put.calls k2 (fun k_ => ((w.heap.size ≤ k_) ∧ (some k_ ≠ (u5 : Value).ownBlock ∧ some k_ ≠ (.slice Ao19 x6_1.length co19 : Value).ownBlock))) _ _ x7_2 t107 t114 _ ?side1 A17.out).mono ?_);(case side1 => exact HO_7.out);rintro e w21 ⟨v115,rfl,ho0,hb⟩;refine ⟨_,rfl,?_⟩;replace HO_7 := ZBV HO_7 hb;have HO116 := Aside0.mk (Kd.V_lower (Kd.V_mono (ok' := fun k_ => (w.heap.size ≤ k_) ∧ some k_ ≠ (u5 : Value).ownBlock ∧ some k_ ≠ (.slice Ao19 x6_1.length co19 : Value).ownBlock) ho0 (fun k_ hk_ => ⟨Or.elim hk_ (fun hs_ => hs_.1) (fun hn_ => (Nat.le_trans (below_size (ZQ HB)) hn_)),Or.elim hk_ (fun hs_ => hs_.2.1) (fun hn_ => (Kd.fresh' (Kd.N_lt (ZKN HO_5)) k_ hn_)),Or.elim hk_ (fun hs_ => hs_.2.2) (fun hn_ => (Kd.fresh' (Kd.R_lt (ZK HO_6)) k_ hn_))⟩)) (below_size (ZQ HB)));replace HO_5 := ZBN HO_5 hb;replace HO_6 := ZBR HO_6 hb;replace HB := Aside0.mk (below_step (ZQ HB) hb);(try clear hb);(try clear ho0)))
      go_roundg k2
      case measure => have := HK1.out;have := HK2.out;omega
      case rel => exact ⟨(t114),H',⟨by have := HK1.out;have := HK2.out;omega⟩,⟨ZKN HO_5⟩,⟨ZK HO_6⟩,⟨ZKV HO116⟩,⟨ZQ HB⟩⟩
     rw [if_pos c5] at H
     have c5b0 : decide (t107 < 0) = true := decide_eq_true c5
     clear c5
     by_cases c6 : (x7_2.length : Int) = 0
     ·rw [if_pos c6] at H
      have c6b0 : ((x7_2.length : Int) == 0) = true := beq_iff_eq.mpr c6
      have c6b1 : ((x7_2.length : Int) != 0) = false := bne_eq_false_iff_eq.mpr c6
      clear c6
      obtain rfl := Option.some.inj H
      obtain ⟨Ao7,co7,eo7⟩ := Kd.V_slice HO_7.out
      subst eo7
      obtain ⟨Ao8,co8,eo8⟩ := Kd.R_slice HO_6.out
      subst eo8
      go_wp2_with (first|((with_reducible refine gate_callee (f := 56) rfl ?_);refine goesM_ (some 16) Try.func56 #[.slice A0 l0.length c0,.slice Ao8 x6_1.length co8,.slice Ao7 x7_2.length co7] ?_;(with_reducible refine (spec_leBest.calls k2 _ _ l0 _ _ x6_1 _ _ x7_2 t107 _ ?side1 ?side2 ?side3 ?side4 ?side5 ?side6 A4.out).mono ?_);(case side1 => exact ZR (Kd.C_below HR0.out HB.out));(case side2 => exact HC0.out);(case side3 => exact ZR (Kd.R_reads' HO_6.out).2.2);(case side4 => exact (Kd.R_reads' HO_6.out).2.1);(case side5 => exact ZR (Kd.V_reads' HO_7.out).2.2);(case side6 => exact (Kd.V_reads' HO_7.out).2.1);rintro e w9 ⟨rfl,hb⟩;refine ⟨_,rfl,?_⟩;replace HO_5 := ZBN HO_5 hb;replace HO_6 := ZBR HO_6 hb;replace HO_7 := ZBV HO_7 hb;replace HB := Aside0.mk (below_step (ZQ HB) hb);(try clear hb)))
      go_ret
      exact ⟨_,by first|rfl|(simp [*,errW_none,errW_some] <;> rfl),ZKN ⟨Kd.N_mono HO_5.out (fun _ hk => hk.1)⟩,ZQ HB⟩
     rw [if_neg c6] at H
     have c6b0 : ((x7_2.length : Int) == 0) = false := beq_eq_false_iff_ne.mpr c6
     have c6b1 : ((x7_2.length : Int) != 0) = true := bne_iff_ne.mpr c6
     have c6b2 : ¬ (x7_2 = []) := fun h_ => c6 (by rw [h_];rfl)
     by_cases c10 : x5_1.length < 5864062014805;rotate_left
     ·rw [if_neg c10] at H
      exact absurd H (by simp)
     rw [if_pos c10] at H
     have LMc10 := Aside0.mk c10
     clear c10
     obtain ⟨y108,hy108⟩ : ∃ y_ : List (List Int),y_ = (x5_1 ++ [x7_2]) := ⟨_,rfl⟩
     replace H : (if x6_1.length + x7_2.length < 17592186044416 then (spec_leLessons.l0 k2 l0 a1 y108 (x6_1 ++ x7_2)) else (none)) = some r := by first|(rw [hy108];with_reducible exact H)|(have H2_ := (Option.bind_some _ _).symm.trans H;rw [hy108];with_reducible exact H2_)|(have H2_ := (Option.bind_some _ _).symm.trans H;with_reducible exact H2_)|with_reducible exact H|(rw [hy108];exact H)|exact H
     have Ny108 := Aside0.mk hy108
     clear hy108
     by_cases c11 : x6_1.length + x7_2.length < 17592186044416;rotate_left
     ·rw [if_neg c11] at H
      exact absurd H (by simp)
     rw [if_pos c11] at H
     have LMc11 := Aside0.mk c11
     clear c11
     obtain ⟨y111,hy111⟩ : ∃ y_ : List Int,y_ = (x6_1 ++ x7_2) := ⟨_,rfl⟩
     replace H : (spec_leLessons.l0 k2 l0 a1 y108 y111) = some r := by first|(rw [hy111];with_reducible exact H)|(have H2_ := (Option.bind_some _ _).symm.trans H;rw [hy111];with_reducible exact H2_)|(have H2_ := (Option.bind_some _ _).symm.trans H;with_reducible exact H2_)|with_reducible exact H|(rw [hy111];exact H)|exact H
     have Ny111 := Aside0.mk hy111
     clear hy111
     have H' := Aside0.mk H
     clear H
     obtain ⟨Ao12,co12,eo12⟩ := Kd.V_slice HO_7.out
     subst eo12
     obtain ⟨Ao13,co13,eo13⟩ := Kd.R_slice HO_6.out
     subst eo13
     go_wp2_with (first|((with_reducible refine gate_callee (f := 56) rfl ?_);refine goesM_ (some 16) Try.func56 #[.slice A0 l0.length c0,.slice Ao13 x6_1.length co13,.slice Ao12 x7_2.length co12] ?_;(with_reducible refine (spec_leBest.calls k2 _ _ l0 _ _ x6_1 _ _ x7_2 t107 _ ?side1 ?side2 ?side3 ?side4 ?side5 ?side6 A4.out).mono ?_);(case side1 => exact ZR (Kd.C_below HR0.out HB.out));(case side2 => exact HC0.out);(case side3 => exact ZR (Kd.R_reads' HO_6.out).2.2);(case side4 => exact (Kd.R_reads' HO_6.out).2.1);(case side5 => exact ZR (Kd.V_reads' HO_7.out).2.2);(case side6 => exact (Kd.V_reads' HO_7.out).2.1);rintro e w14 ⟨rfl,hb⟩;refine ⟨_,rfl,?_⟩;replace HO_5 := ZBN HO_5 hb;replace HO_6 := ZBR HO_6 hb;replace HO_7 := ZBV HO_7 hb;replace HB := Aside0.mk (below_step (ZQ HB) hb);(try clear hb))|((with_reducible refine gate_builtin (b := .append) (xs := #[.tmp 26,.tmp 28]) rfl ?_);at_builtin;refine Kd.N_append (Kd.slice 3 (Kd.int .i64)) (w0 := w) w.heap.size rfl (.tmp 26) (.tmp 28) 27 32 (.slice none 0 0) 24 rfl Try.underlying27 info32 rfl (by decide) (by omega) u5 x5_1 x7_2 [.slice Ao12 x7_2.length co12] (fun k_ => (w.heap.size ≤ k_) ∧ some k_ ≠ (.slice Ao13 x6_1.length co13 : Value).ownBlock) (fun k_ => ((fun k_ => (w.heap.size ≤ k_) ∧ some k_ ≠ (.slice Ao13 x6_1.length co13 : Value).ownBlock)) k_ ∧ some k_ ≠ (u5 : Value).ownBlock) rfl rfl ?aP (fun _ hk => hk) ?aF ?aO ?aB ?aS ?aL ?_;(case aP => exact (Kd.FK_slice_mk (Kd.V_reads' (Kd.V_mono (ok' := (fun k_ => ((fun k_ => (w.heap.size ≤ k_) ∧ some k_ ≠ (.slice Ao13 x6_1.length co13 : Value).ownBlock)) k_ ∧ some k_ ≠ (u5 : Value).ownBlock)) (HO_7.out) (fun k_ hk => ⟨⟨hk.1,hk.2.2⟩,hk.2.1⟩))).2.1 (Kd.V_F (Kd.V_mono (ok' := (fun k_ => ((fun k_ => (w.heap.size ≤ k_) ∧ some k_ ≠ (.slice Ao13 x6_1.length co13 : Value).ownBlock)) k_ ∧ some k_ ≠ (u5 : Value).ownBlock)) (HO_7.out) (fun k_ hk => ⟨⟨hk.1,hk.2.2⟩,hk.2.1⟩)))));(case aB => exact (ZQ HB));(case aF => exact (fun k_ hk => ⟨(Nat.le_trans (below_size (ZQ HB)) hk),Kd.fresh' (Kd.R_lt (ZK HO_6)) k_ hk⟩));(case aO => exact (ZKN HO_5));(case aS => exact (below_size (ZQ HB)));(case aL => have := LMc10.out;omega);intro v109 w15 ho hb hg hat;rw [← Ny108.out] at ho;replace HO_6 := Aside0.mk (Kd.R_over' (ZK HO_6) (Kd.N_typed (ZKN HO_5)) (by decide) hg);replace HO_7 := Aside0.mk (Kd.V_afterv (ok := (fun k_ => (w.heap.size ≤ k_) ∧ some k_ ≠ (.slice Ao13 x6_1.length co13 : Value).ownBlock)) (ZKV ⟨Kd.V_mono HO_7.out (fun _ hk => ⟨⟨hk.1,hk.2.2⟩,hk.2.1⟩)⟩) hg hat);replace HB := Aside0.mk (hb);have HO110 := Aside0.mk (ho);clear HO_5;clear ho hb hg hat)|((with_reducible refine gate_builtin (b := .append) (xs := #[.tmp 30,.tmp 31]) rfl ?_);at_builtin;refine Kd.R_append_rows (Kd.int .i64) (w0 := w) w.heap.size rfl (.tmp 30) (.tmp 31) 32 3 (.int .i64 0) 8 rfl Try.underlying32 info3 rfl (by decide) (by omega) (.slice Ao13 x6_1.length co13) x6_1 x7_2 _ _ _ (fun k_ => (w.heap.size ≤ k_)) (fun _ => False) rfl rfl ?aO ?aR (fun _ _ h => h) (fun _ h => h.elim) ?aF ?aB ?aS ?aL ?_;(case aR => exact ZR (Kd.V_reads' HO_7.out).2.2);(case aB => exact (ZQ HB));(case aF => exact (fun k_ hk => (Nat.le_trans (below_size (ZQ HB)) hk)));(case aO => exact (ZK HO_6));(case aS => exact (below_size (ZQ HB)));(case aL => have := LMc11.out;omega);intro v112 w16 ho hb hg hat;rw [← Ny111.out] at ho;replace HO_7 := Aside0.mk (Kd.V_afterv (ok := (fun k_ => (w.heap.size ≤ k_) ∧ some k_ ≠ (v109 : Value).ownBlock)) (ZKV ⟨Kd.V_mono HO_7.out (fun _ hk => ⟨⟨hk.1.1,hk.2⟩,hk.1.2⟩)⟩) hg hat);replace HO110 := Aside0.mk (Kd.N_afterv (ok := (fun k_ => (w.heap.size ≤ k_))) (ZKN HO110) hg hat);replace HB := Aside0.mk (hb);have HO113 := Aside0.mk (ho);clear HO_6;clear ho hb hg hat))
     go_roundg k2
     case measure => have := HK1.out;have := HK2.out;omega
     case rel => exact ⟨(y108),(y111),H',⟨by have := HK1.out;have := HK2.out;omega⟩,⟨ZKN HO110⟩,⟨ZK HO113⟩,⟨ZQ HB⟩⟩
/-! ### spec_LessonsOf: function 7 -/
def spec_LessonsOf.f (k : Nat) (l0 : List (S43)) (a1 : Int) : Option ((List (List Int)) × Bool) := (spec_leGood.f k l0).bind fun t101 => (if t101 = true then ((spec_l1In.f a1 1 16).bind fun t102 => (if t102 = true then ((spec_leOrder.f k l0).bind fun t103 => (if (t103.length : Int) < (l0.length : Int) then (some (([] : List (List Int)),false)) else ((spec_leLessons.f k l0 a1).bind fun t106 => (some (t106,true))))) else (some (([] : List (List Int)),false)))) else (some (([] : List (List Int)),false)))
theorem spec_LessonsOf.mono : ∀ a0 a1 k,LeO (spec_LessonsOf.f k a0 a1) (spec_LessonsOf.f (k + 1) a0 a1) := by
 intro a0 a1 k
 unfold spec_LessonsOf.f
 with_reducible repeat' first|apply spec_leGood.mono|apply spec_leLessons.mono|apply spec_leOrder.mono|apply LeO.refl|apply LeO.none|refine LeO.ite ?_ ?_|refine LeO.bind ?_ (fun _ => ?_)
set_option maxHeartbeats 3000000 in
set_option maxRecDepth 100000 in
theorem spec_LessonsOf.calls (k : Nat) (A0 : Option Addr) (c0 : Nat) (l0 : List (S43)) (a1 : Int) (r1 : List (List Int)) (r2 : Bool) (w : World) (hr0 : Kd.C k43 w A0 l0.length l0) (hc0 : l0.length ≤ c0) (h : spec_LessonsOf.f k l0 a1 = some (r1,r2)) :
  Calls Try.prog 7 #[.slice A0 l0.length c0,.int .i64 a1] w fun e w' => ∃ v0_ : Value,e = .returned (.tuple #[v0_,.bool r2]) ∧ Kd.N (Kd.slice 3 (Kd.int .i64)) 32 w' w.heap.size (fun k_ => (w.heap.size ≤ k_)) v0_ r1 ∧ Below w.heap.size w w' := by
 have HR0 := Aside0.mk hr0
 have HC0 := Aside0.mk hc0
 clear hr0 hc0
 have HB := Aside0.mk (Below.refl w.heap.size w)
 have H : ((spec_leGood.f k l0).bind fun t101 => (if t101 = true then ((spec_l1In.f a1 1 16).bind fun t102 => (if t102 = true then ((spec_leOrder.f k l0).bind fun t103 => (if (t103.length : Int) < (l0.length : Int) then (some (([] : List (List Int)),false)) else ((spec_leLessons.f k l0 a1).bind fun t106 => (some (t106,true))))) else (some (([] : List (List Int)),false)))) else (some (([] : List (List Int)),false)))) = some (r1,r2) := h
 clear h
 replace H := Option.bind_eq_some_iff.mp H
 obtain ⟨t101,A30,H⟩ := H
 try dsimp only at H
 have A3 := Aside0.mk A30
 clear A30
 by_cases c4 : t101 = true;rotate_left
 ·replace c4 := Bool.eq_false_iff.mpr c4
  subst c4
  rw [if_neg (show ¬ (false = true) by decide)] at H
  simp only [Option.some.injEq,Prod.mk.injEq] at H
  obtain ⟨rfl,rfl⟩ := H
  go_enter Try.func7,Try.ntmps7
  go_wp2_with (first|((with_reducible refine gate_callee (f := 29) rfl ?_);refine goesM_ (some 7) Try.func29 #[.slice A0 l0.length c0] ?_;(with_reducible refine (spec_leGood.calls k _ _ l0 false _ ?side1 ?side2 A3.out).mono ?_);(case side1 => exact ZR HR0.out);(case side2 => exact HC0.out);rintro e w18 ⟨rfl,hb⟩;refine ⟨_,rfl,?_⟩;replace HB := Aside0.mk (below_step (ZQ HB) hb);(try clear hb)))
  go_ret2
  exact ⟨_,by first|rfl|(simp [*,errW_none,errW_some] <;> rfl),by first|exact Kd.S_nil _ _ _ _ _|exact Kd.N_nil _ _ _ _ _|exact Kd.V_nil _ _ _ _ _|exact Kd.Q_nil _ _ _ _ _|exact Kd.R_nil _ _ _ _ _,ZQ HB⟩

 subst c4
 rw [if_pos rfl] at H
 replace H := Option.bind_eq_some_iff.mp H
 obtain ⟨t102,A50,H⟩ := H
 try dsimp only at H
 have A5 := Aside0.mk A50
 clear A50
 by_cases c6 : t102 = true;rotate_left
 ·replace c6 := Bool.eq_false_iff.mpr c6
  subst c6
  rw [if_neg (show ¬ (false = true) by decide)] at H
  simp only [Option.some.injEq,Prod.mk.injEq] at H
  obtain ⟨rfl,rfl⟩ := H
  go_enter Try.func7,Try.ntmps7
  go_wp2_with (first|((with_reducible refine gate_callee (f := 29) rfl ?_);refine goesM_ (some 7) Try.func29 #[.slice A0 l0.length c0] ?_;(with_reducible refine (spec_leGood.calls k _ _ l0 true _ ?side1 ?side2 A3.out).mono ?_);(case side1 => exact ZR HR0.out);(case side2 => exact HC0.out);rintro e w17 ⟨rfl,hb⟩;refine ⟨_,rfl,?_⟩;replace HB := Aside0.mk (below_step (ZQ HB) hb);(try clear hb))|(go_at_call 30;(with_reducible refine (spec_l1In.calls a1 1 16 false _ A5.out).mono ?_);rintro e w' ⟨rfl,⟨nd,rfl⟩⟩))
  go_ret2
  exact ⟨_,by first|rfl|(simp [*,errW_none,errW_some] <;> rfl),by first|exact Kd.S_nil _ _ _ _ _|exact Kd.N_nil _ _ _ _ _|exact Kd.V_nil _ _ _ _ _|exact Kd.Q_nil _ _ _ _ _|exact Kd.R_nil _ _ _ _ _,ZQ HB⟩
 subst c6
 rw [if_pos rfl] at H
 replace H := Option.bind_eq_some_iff.mp H
 obtain ⟨t103,A70,H⟩ := H
 try dsimp only at H
 have A7 := Aside0.mk A70
 clear A70
 by_cases c8 : (t103.length : Int) < (l0.length : Int)
 ·rw [if_pos c8] at H
  have c8b0 := decide_eq_true c8
  have c8b1 : decide (t103.length < l0.length) = true := decide_eq_true (Int.ofNat_lt.mp c8)
  clear c8
  simp only [Option.some.injEq,Prod.mk.injEq] at H
  obtain ⟨rfl,rfl⟩ := H
  go_enter Try.func7,Try.ntmps7
  go_wp2_with (first|((with_reducible refine gate_callee (f := 29) rfl ?_);refine goesM_ (some 7) Try.func29 #[.slice A0 l0.length c0] ?_;(with_reducible refine (spec_leGood.calls k _ _ l0 true _ ?side1 ?side2 A3.out).mono ?_);(case side1 => exact ZR HR0.out);(case side2 => exact HC0.out);rintro e w9 ⟨rfl,hb⟩;refine ⟨_,rfl,?_⟩;replace HB := Aside0.mk (below_step (ZQ HB) hb);(try clear hb))|(go_at_call 30;(with_reducible refine (spec_l1In.calls a1 1 16 true _ A5.out).mono ?_);rintro e w' ⟨rfl,⟨nd,rfl⟩⟩)|(go_at_call 31;(with_reducible refine (spec_leOrder.calls k _ _ l0 t103 _ ?side1 ?side2 A7.out).mono ?_);(case side1 => exact ZR (Kd.C_below HR0.out (ZQ HB)));(case side2 => exact HC0.out);rintro e w10 ⟨v104,rfl,ho0,hb⟩;have HO105 := Aside0.mk (Kd.R_lower (Kd.R_newM (M := fun k_ => (w.heap.size ≤ k_)) ho0 (below_size (ZQ HB)) (fun k_ h_ => h_)) (below_size (ZQ HB)));replace HB := Aside0.mk (below_step (ZQ HB) hb);(try clear hb);(try clear ho0);obtain ⟨Ao11,co11,eo11⟩ := Kd.R_slice HO105.out;subst eo11))
  go_ret2
  exact ⟨_,by first|rfl|(simp [*,errW_none,errW_some] <;> rfl),by first|exact Kd.S_nil _ _ _ _ _|exact Kd.N_nil _ _ _ _ _|exact Kd.V_nil _ _ _ _ _|exact Kd.Q_nil _ _ _ _ _|exact Kd.R_nil _ _ _ _ _,ZQ HB⟩
 rw [if_neg c8] at H
 have c8b0 := decide_eq_false c8
 have c8b1 : decide (t103.length < l0.length) = false := decide_eq_false (fun h => c8 (Int.ofNat_lt.mpr h))
 clear c8
 replace H := Option.bind_eq_some_iff.mp H
 obtain ⟨t106,A120,H⟩ := H
 try dsimp only at H
 have A12 := Aside0.mk A120
 clear A120
 simp only [Option.some.injEq,Prod.mk.injEq] at H
 obtain ⟨rfl,rfl⟩ := H
 go_enter Try.func7,Try.ntmps7
 go_wp2_with (first|((with_reducible refine gate_callee (f := 29) rfl ?_);refine goesM_ (some 7) Try.func29 #[.slice A0 l0.length c0] ?_;(with_reducible refine (spec_leGood.calls k _ _ l0 true _ ?side1 ?side2 A3.out).mono ?_);(case side1 => exact ZR HR0.out);(case side2 => exact HC0.out);rintro e w13 ⟨rfl,hb⟩;refine ⟨_,rfl,?_⟩;replace HB := Aside0.mk (below_step (ZQ HB) hb);(try clear hb))|(go_at_call 30;(with_reducible refine (spec_l1In.calls a1 1 16 true _ A5.out).mono ?_);rintro e w' ⟨rfl,⟨nd,rfl⟩⟩)|(go_at_call 31;(with_reducible refine (spec_leOrder.calls k _ _ l0 t103 _ ?side1 ?side2 A7.out).mono ?_);(case side1 => exact ZR (Kd.C_below HR0.out (ZQ HB)));(case side2 => exact HC0.out);rintro e w14 ⟨v104,rfl,ho0,hb⟩;have HO105 := Aside0.mk (Kd.R_lower (Kd.R_newM (M := fun k_ => (w.heap.size ≤ k_)) ho0 (below_size (ZQ HB)) (fun k_ h_ => h_)) (below_size (ZQ HB)));replace HB := Aside0.mk (below_step (ZQ HB) hb);(try clear hb);(try clear ho0);obtain ⟨Ao15,co15,eo15⟩ := Kd.R_slice HO105.out;subst eo15)|((with_reducible refine gate_callee (f := 32) rfl ?_);refine goesM_ (some 24) Try.func32 #[.slice A0 l0.length c0,.int .i64 a1] ?_;(with_reducible refine (spec_leLessons.calls k _ _ l0 a1 t106 _ ?side1 ?side2 A12.out).mono ?_);(case side1 => exact ZR (Kd.C_below HR0.out HB.out));(case side2 => exact HC0.out);rintro e w16 ⟨v107,rfl,ho0,hb⟩;refine ⟨_,rfl,?_⟩;have HO108 := Aside0.mk (Kd.N_lower (Kd.N_mono (ok' := fun k_ => (w.heap.size ≤ k_) ∧ some k_ ≠ (.slice Ao15 t103.length co15 : Value).ownBlock) ho0 (fun k_ hk_ => ⟨(Nat.le_trans (below_size (ZQ HB)) hk_),(Kd.fresh' (Kd.R_lt (ZK HO105)) k_ hk_)⟩)) (below_size (ZQ HB)));replace HO105 := ZBR HO105 hb;replace HB := Aside0.mk (below_step (ZQ HB) hb);(try clear hb);(try clear ho0)))
 go_ret2
 exact ⟨_,by first|rfl|(simp [*,errW_none,errW_some] <;> rfl),ZKN ⟨Kd.N_mono HO108.out (fun _ hk => hk.1)⟩,ZQ HB⟩
/-! ### impl_FewestLessons: function 8 -/
def impl_FewestLessons.f (k : Nat) (l0 : List (S43)) : Option (Int × Bool) := (impl_LessonsOf.f k l0 16).bind fun bt101 => (some ((bt101.1.length : Int),bt101.2))
theorem impl_FewestLessons.mono : ∀ a0 k,LeO (impl_FewestLessons.f k a0) (impl_FewestLessons.f (k + 1) a0) := by
 intro a0 k
 unfold impl_FewestLessons.f
 with_reducible repeat' first|apply impl_LessonsOf.mono|apply LeO.refl|apply LeO.none|refine LeO.ite ?_ ?_|refine LeO.bind ?_ (fun _ => ?_)
set_option maxHeartbeats 3000000 in
set_option maxRecDepth 100000 in
theorem impl_FewestLessons.calls (k : Nat) (A0 : Option Addr) (c0 : Nat) (l0 : List (S43)) (r1 : Int) (r2 : Bool) (w : World) (hr0 : Kd.C k43 w A0 l0.length l0) (hc0 : l0.length ≤ c0) (h : impl_FewestLessons.f k l0 = some (r1,r2)) :
  Calls Try.prog 8 #[.slice A0 l0.length c0] w fun e w' => e = .returned (.tuple #[.int .i64 r1,.bool r2]) ∧ Below w.heap.size w w' := by
 have HR0 := Aside0.mk hr0
 have HC0 := Aside0.mk hc0
 clear hr0 hc0
 have HB := Aside0.mk (Below.refl w.heap.size w)
 have H : ((impl_LessonsOf.f k l0 16).bind fun bt101 => (some ((bt101.1.length : Int),bt101.2))) = some (r1,r2) := h
 clear h
 replace H := Option.bind_eq_some_iff.mp H
 obtain ⟨⟨t101,t102⟩,A20,H⟩ := H
 try dsimp only at H
 have A2 := Aside0.mk A20
 clear A20
 simp only [Option.some.injEq,Prod.mk.injEq] at H
 obtain ⟨rfl,rfl⟩ := H
 go_enter Try.func8,Try.ntmps8
 go_wp2_with (first|((with_reducible refine gate_callee (f := 6) rfl ?_);refine goesM_ (some 8) Try.func6 #[.slice A0 l0.length c0,.int .i64 16] ?_;(with_reducible refine (impl_LessonsOf.calls k _ _ l0 16 t101 t102 _ ?side1 ?side2 A2.out).mono ?_);(case side1 => exact ZR HR0.out);(case side2 => exact HC0.out);rintro e w3 ⟨v103,rfl,ho0,hb⟩;refine ⟨_,rfl,?_⟩;have HO104 := Aside0.mk (Kd.S_lower ho0 (below_size (ZQ HB)));replace HB := Aside0.mk (below_step (ZQ HB) hb);(try clear hb);(try clear ho0);obtain ⟨Ao4,co4,eo4⟩ := Kd.S_slice HO104.out;subst eo4))
 go_ret2
 exact ⟨by first|rfl|(simp [*,errW_none,errW_some] <;> rfl),ZQ HB⟩

/-! ### spec_FewestLessons: function 9 -/
def spec_FewestLessons.f (k : Nat) (l0 : List (S43)) : Option (Int × Bool) := (spec_leGood.f k l0).bind fun t101 => (if t101 = true then ((spec_leOrder.f k l0).bind fun t102 => (if (t102.length : Int) < (l0.length : Int) then (some (0,false)) else ((spec_leLessons.f k l0 16).bind fun t105 => (some ((t105.length : Int),true))))) else (some (0,false)))
theorem spec_FewestLessons.mono : ∀ a0 k,LeO (spec_FewestLessons.f k a0) (spec_FewestLessons.f (k + 1) a0) := by
 intro a0 k
 unfold spec_FewestLessons.f
 with_reducible repeat' first|apply spec_leGood.mono|apply spec_leLessons.mono|apply spec_leOrder.mono|apply LeO.refl|apply LeO.none|refine LeO.ite ?_ ?_|refine LeO.bind ?_ (fun _ => ?_)
set_option maxHeartbeats 3000000 in
set_option maxRecDepth 100000 in
theorem spec_FewestLessons.calls (k : Nat) (A0 : Option Addr) (c0 : Nat) (l0 : List (S43)) (r1 : Int) (r2 : Bool) (w : World) (hr0 : Kd.C k43 w A0 l0.length l0) (hc0 : l0.length ≤ c0) (h : spec_FewestLessons.f k l0 = some (r1,r2)) :
  Calls Try.prog 9 #[.slice A0 l0.length c0] w fun e w' => e = .returned (.tuple #[.int .i64 r1,.bool r2]) ∧ Below w.heap.size w w' := by
 have HR0 := Aside0.mk hr0
 have HC0 := Aside0.mk hc0
 clear hr0 hc0
 have HB := Aside0.mk (Below.refl w.heap.size w)
 have H : ((spec_leGood.f k l0).bind fun t101 => (if t101 = true then ((spec_leOrder.f k l0).bind fun t102 => (if (t102.length : Int) < (l0.length : Int) then (some (0,false)) else ((spec_leLessons.f k l0 16).bind fun t105 => (some ((t105.length : Int),true))))) else (some (0,false)))) = some (r1,r2) := h
 clear h
 replace H := Option.bind_eq_some_iff.mp H
 obtain ⟨t101,A20,H⟩ := H
 try dsimp only at H
 have A2 := Aside0.mk A20
 clear A20
 by_cases c3 : t101 = true;rotate_left
 ·replace c3 := Bool.eq_false_iff.mpr c3
  subst c3
  rw [if_neg (show ¬ (false = true) by decide)] at H
  simp only [Option.some.injEq,Prod.mk.injEq] at H
  obtain ⟨rfl,rfl⟩ := H
  go_enter Try.func9,Try.ntmps9
  go_wp2_with (first|((with_reducible refine gate_callee (f := 29) rfl ?_);refine goesM_ (some 5) Try.func29 #[.slice A0 l0.length c0] ?_;(with_reducible refine (spec_leGood.calls k _ _ l0 false _ ?side1 ?side2 A2.out).mono ?_);(case side1 => exact ZR HR0.out);(case side2 => exact HC0.out);rintro e w15 ⟨rfl,hb⟩;refine ⟨_,rfl,?_⟩;replace HB := Aside0.mk (below_step (ZQ HB) hb);(try clear hb)))
  go_ret2
  exact ⟨by first|rfl|(simp [*,errW_none,errW_some] <;> rfl),ZQ HB⟩

 subst c3
 rw [if_pos rfl] at H
 replace H := Option.bind_eq_some_iff.mp H
 obtain ⟨t102,A40,H⟩ := H
 try dsimp only at H
 have A4 := Aside0.mk A40
 clear A40
 by_cases c5 : (t102.length : Int) < (l0.length : Int)
 ·rw [if_pos c5] at H
  have c5b0 := decide_eq_true c5
  have c5b1 : decide (t102.length < l0.length) = true := decide_eq_true (Int.ofNat_lt.mp c5)
  clear c5
  simp only [Option.some.injEq,Prod.mk.injEq] at H
  obtain ⟨rfl,rfl⟩ := H
  go_enter Try.func9,Try.ntmps9
  go_wp2_with (first|((with_reducible refine gate_callee (f := 29) rfl ?_);refine goesM_ (some 5) Try.func29 #[.slice A0 l0.length c0] ?_;(with_reducible refine (spec_leGood.calls k _ _ l0 true _ ?side1 ?side2 A2.out).mono ?_);(case side1 => exact ZR HR0.out);(case side2 => exact HC0.out);rintro e w6 ⟨rfl,hb⟩;refine ⟨_,rfl,?_⟩;replace HB := Aside0.mk (below_step (ZQ HB) hb);(try clear hb))|(go_at_call 31;(with_reducible refine (spec_leOrder.calls k _ _ l0 t102 _ ?side1 ?side2 A4.out).mono ?_);(case side1 => exact ZR (Kd.C_below HR0.out HB.out));(case side2 => exact HC0.out);rintro e w7 ⟨v103,rfl,ho0,hb⟩;have HO104 := Aside0.mk (Kd.R_lower ho0 (below_size (ZQ HB)));replace HB := Aside0.mk (below_step (ZQ HB) hb);(try clear hb);(try clear ho0);obtain ⟨Ao8,co8,eo8⟩ := Kd.R_slice HO104.out;subst eo8))
  go_ret2
  exact ⟨by first|rfl|(simp [*,errW_none,errW_some] <;> rfl),ZQ HB⟩
 rw [if_neg c5] at H
 have c5b0 := decide_eq_false c5
 have c5b1 : decide (t102.length < l0.length) = false := decide_eq_false (fun h => c5 (Int.ofNat_lt.mpr h))
 clear c5
 replace H := Option.bind_eq_some_iff.mp H
 obtain ⟨t105,A90,H⟩ := H
 try dsimp only at H
 have A9 := Aside0.mk A90
 clear A90
 simp only [Option.some.injEq,Prod.mk.injEq] at H
 obtain ⟨rfl,rfl⟩ := H
 go_enter Try.func9,Try.ntmps9
 go_wp2_with (first|((with_reducible refine gate_callee (f := 29) rfl ?_);refine goesM_ (some 5) Try.func29 #[.slice A0 l0.length c0] ?_;(with_reducible refine (spec_leGood.calls k _ _ l0 true _ ?side1 ?side2 A2.out).mono ?_);(case side1 => exact ZR HR0.out);(case side2 => exact HC0.out);rintro e w10 ⟨rfl,hb⟩;refine ⟨_,rfl,?_⟩;replace HB := Aside0.mk (below_step (ZQ HB) hb);(try clear hb))|(go_at_call 31;(with_reducible refine (spec_leOrder.calls k _ _ l0 t102 _ ?side1 ?side2 A4.out).mono ?_);(case side1 => exact ZR (Kd.C_below HR0.out HB.out));(case side2 => exact HC0.out);rintro e w11 ⟨v103,rfl,ho0,hb⟩;have HO104 := Aside0.mk (Kd.R_lower ho0 (below_size (ZQ HB)));replace HB := Aside0.mk (below_step (ZQ HB) hb);(try clear hb);(try clear ho0);obtain ⟨Ao12,co12,eo12⟩ := Kd.R_slice HO104.out;subst eo12)|((with_reducible refine gate_callee (f := 32) rfl ?_);refine goesM_ (some 16) Try.func32 #[.slice A0 l0.length c0,.int .i64 16] ?_;(with_reducible refine (spec_leLessons.calls k _ _ l0 16 t105 _ ?side1 ?side2 A9.out).mono ?_);(case side1 => exact ZR (Kd.C_below HR0.out HB.out));(case side2 => exact HC0.out);rintro e w13 ⟨v106,rfl,ho0,hb⟩;refine ⟨_,rfl,?_⟩;have HO107 := Aside0.mk (Kd.N_lower (Kd.N_mono (ok' := fun k_ => some k_ ≠ (.slice Ao12 t102.length co12 : Value).ownBlock) ho0 (fun k_ hk_ => (Kd.fresh' (Kd.R_lt (ZK HO104)) k_ hk_))) (below_size (ZQ HB)));replace HO104 := ZBR HO104 hb;replace HB := Aside0.mk (below_step (ZQ HB) hb);(try clear hb);(try clear ho0);obtain ⟨Ao14,co14,eo14⟩ := Kd.N_slice HO107.out;subst eo14))
 go_ret2
 exact ⟨by first|rfl|(simp [*,errW_none,errW_some] <;> rfl),ZQ HB⟩
/-! ### impl_TeachOrder: function 10 -/
def impl_TeachOrder.p (k : Nat) (l0 : List S43) (t : List Int) (x : Int) : Option Bool := (slices_Contains_int.f k t x).bind fun a => if a = true then some false else (if 0 ≤ x then (if x < (l0.length : Int) then impl_hasNeeds.f k (rd_T43 l0 x).f0 (rd_T43 l0 x).f1 (rd_T43 l0 x).f2 t else none) else none)
theorem impl_TeachOrder.p_mono (k : Nat) (l0 : List S43) (t : List Int) (x : Int) : LeO (impl_TeachOrder.p k l0 t x) (impl_TeachOrder.p (k + 1) l0 t x) := LeO.bind (slices_Contains_int.mono _ _ _) (fun _ => LeO.ite (LeO.refl _) (LeO.ite (LeO.ite (impl_hasNeeds.mono _ _ _ _ _) (LeO.refl _)) (LeO.refl _)))
def impl_TeachOrder.l0 : Nat → List S43 → List Int → Option (List Int × Bool)
 | 0,_,_ => none
 | k + 1,l0,t => if (t.length : Int) < (l0.length : Int) then ((impl_mostUsed.f (impl_TeachOrder.p k l0 t) k l0).bind fun n => if n < 0 then some ([],false) else if t.length < 17592186044416 then impl_TeachOrder.l0 k l0 (t ++ [n]) else none) else some (t,true)
def impl_TeachOrder.f (k : Nat) (l0 : List S43) : Option (List Int × Bool) := (impl_AreWords.f k l0).bind fun a => if a = true then impl_TeachOrder.l0 k l0 [] else some ([],false)
theorem impl_TeachOrder.mono_l : ∀ k,∀ y0 y1,LeO (impl_TeachOrder.l0 k y0 y1) (impl_TeachOrder.l0 (k + 1) y0 y1)
 | 0 => fun _ _ r h => by simp [impl_TeachOrder.l0] at h
 | k + 1 => by
  intro y0 y1
  rw [impl_TeachOrder.l0,impl_TeachOrder.l0]
  exact LeO.ite (LeO.bind (impl_mostUsed.mono _ _ (fun x => impl_TeachOrder.p_mono k y0 y1 x) _ _) (fun _ => LeO.ite (LeO.refl _) (LeO.ite (impl_TeachOrder.mono_l k _ _) (LeO.refl _)))) (LeO.refl _)
theorem impl_TeachOrder.mono : ∀ a0 k,LeO (impl_TeachOrder.f k a0) (impl_TeachOrder.f (k + 1) a0) := by
 intro a0 k
 unfold impl_TeachOrder.f
 exact LeO.bind (impl_AreWords.mono _ _) (fun _ => LeO.ite (impl_TeachOrder.mono_l k _ _) (LeO.refl _))
set_option maxHeartbeats 1000000
open Go.RowKit Go.Lib Go.Proofs.YtgnijnlgbelifaaW.PrintWords Go.Proofs.YtgnijnlgbelifaaW.PrintLast Go.Proofs.YtgnijnlgbelifaaW.PrintMore Go.Proofs.YtgnijnlgbelifaaW Go.Proofs.Ytgnijnlgbelifaa.Q Go.Proofs.YtgnijnlgbelifaaW.GCall
def impl_TeachOrder.T1 : Bool × List (List Nat × List Nat) := (true,[([],[]),([],[]),([0,1],[0,1]),([2],[2]),([3,2],[3]),([4],[4]),([4],[4]),([5,6,4],[4,5,6]),([7,4],[4,7]),([4],[4]),([8,9,4,4],[4,8,9]),([4,10],[4,10]),([11,10,0,1,2,3,4,5,6,7,8,9,10,11],[11])])
def impl_TeachOrder.B1 : List Nat := [0,0,3,7,15,31,31,127,255,31,1023,2047,4095]
theorem impl_TeachOrder.tab1 : rtab .any (opsOf Try.f33 1) = impl_TeachOrder.T1 := by kernel_rfl
theorem impl_TeachOrder.bits1 : waitsOk impl_TeachOrder.T1.2 impl_TeachOrder.B1 = true := by kernel_rfl
set_option maxHeartbeats 4000000 in
set_option maxRecDepth 100000 in
theorem impl_TeachOrder.lit (k : Nat) (A0 : Option Addr) (c0 : Nat) (l0 : List S43) (At : Option Addr) (ct : Nat) (t : List Int) (x : Int) (b : Bool) (gt gb : Nat) (W : World) (hr0 : Kd.C k43 W A0 l0.length l0) (hrt : Kd.C (Kd.int .i64) W At t.length t) (hct : t.length ≤ ct) (hbt : W.cell? ⟨gt,0,none⟩ = some (.slice At t.length ct)) (hbb : W.cell? ⟨gb,0,none⟩ = some (.slice A0 l0.length c0)) (h : impl_TeachOrder.p k l0 t x = some b) :
  Calls Try.prog 33 #[.int .i64 x,.pointer (some ⟨gt,0,none⟩),.pointer (some ⟨gb,0,none⟩)] W fun e w' => e = .returned (.bool b) ∧ Below W.heap.size W w' := by
 have hu := Try.underlying43
 have HRT := Aside0.mk hrt
 have HCT := Aside0.mk hct
 clear hrt hct
 unfold impl_TeachOrder.p at h
 obtain ⟨a,A1,h⟩ := Option.bind_eq_some_iff.mp h
 replace A1 := Aside0.mk A1
 cases a with
 | true =>
  rw [if_pos rfl] at h
  obtain rfl := Option.some.inj h
  clear hr0
  go_enter Try.func33,Try.ntmps33
  go_wp2
  refine start_ (n := 13) (S := fun w' => w'.cell? ⟨gt,0,none⟩ = some (.slice At t.length ct) ∧ w'.cell? ⟨gb,0,none⟩ = some (.slice A0 l0.length c0)) (ds := []) #[X,X,X,X,X,X,X,X,X,X,X,X,X] (by kernel_rfl) rfl rfl ⟨hbt,hbb⟩ (fun hHeld => ?_);refine with_tabW impl_TeachOrder.tab1 impl_TeachOrder.bits1 (fun HT_ HW_ => ?_)
  have HBB := Aside0.mk (below_drew1 (Below.refl W.heap.size W))
  clear hbt hbb
  generalize W.drew = w2 at HBB hHeld ⊢
  refine YT 0 5 #[Y,X,X,X,X,X,X,X,X,X,X,X,X] rfl rfl HT_ HW_ hHeld ?_
  refine YP 1 6 #[Y,Y,X,X,X,X,X,X,X,X,X,X,X] rfl rfl HT_ ?_
  refine ZO 2 7 #[Y,Y,Y,X,X,X,X,X,X,X,X,X,X] rfl rfl HT_ fun K hK => ?_
  refine goes_ Try.func26 (by kernel_rfl) rfl #[.slice At t.length ct,.int .i64 x] (by rfl) rfl rfl (by (try simp only [List.map_toArray,List.map_cons,List.map_nil]);first|done|rfl|(simp only [List.length_drop,List.length_take];rfl)) ?_
  with_reducible refine (slices_Contains_int.calls k _ _ t x true _ (Kd.C_below HRT.out HBB.out) HCT.out A1.out).mono ?_
  rintro e w' ⟨rfl,nd_,rfl⟩
  refine ⟨_,rfl,?_⟩
  replace HBB := Aside0.mk (pw_below_drewN HBB.out nd_)
  refine hK.out _ _ hHeld (fun hHeld => ?_)
  clear hK K
  refine norm_ (a' := ?_) ?_ ?_
  rotate_left
  ·show Act.put _ (some 7) _ = _
   simp only [Act.put,zuA,zuB,zuC,i64_w,i32_w]
   rfl
  generalize World.drewN _ nd_ = w2 at HBB hHeld ⊢
  refine YP 3 8 #[Y,Y,Y,Y,X,X,X,X,X,X,X,X,X] rfl rfl HT_ ?_
  refine YP 4 9 #[Y,Y,Y,Y,Y,X,X,X,X,X,X,X,X] rfl rfl HT_ ?_
  refine YU 5 10 #[Y,Y,Y,Y,Y,Y,X,X,X,X,X,X,X] rfl rfl HT_ ?_
  refine YU 6 11 #[Y,Y,Y,Y,Y,Y,Y,X,X,X,X,X,X] rfl rfl HT_ ?_
  refine YU 7 12 #[Y,Y,Y,Y,Y,Y,Y,Y,X,X,X,X,X] rfl rfl HT_ ?_
  refine YU 8 13 #[Y,Y,Y,Y,Y,Y,Y,Y,Y,X,X,X,X] rfl rfl HT_ ?_
  refine YU 9 14 #[Y,Y,Y,Y,Y,Y,Y,Y,Y,Y,X,X,X] rfl rfl HT_ ?_
  refine YU 10 15 #[Y,Y,Y,Y,Y,Y,Y,Y,Y,Y,Y,X,X] rfl rfl HT_ ?_
  refine YP 11 16 #[Y,Y,Y,Y,Y,Y,Y,Y,Y,Y,Y,Y,X] rfl rfl HT_ ?_
  refine YP 12 4 #[Y,Y,Y,Y,Y,Y,Y,Y,Y,Y,Y,Y,Y] rfl rfl HT_ ?_
  refine done_ (done_of HT_.out (by kernel_rfl)) ?_
  try go_wp2
  go_ret
  exact ⟨rfl,HBB.out⟩
 | false =>
  rw [if_neg (by decide)] at h
  split at h
  case isFalse => cases h
  rename_i p101
  split at h
  case isFalse => cases h
  rename_i q101
  obtain ⟨ad101,A101_1,c101_1,e101,hx101_0,hx101_1,hx101_2,hl101_1,hi101_1⟩ := at_T43 hr0 x p101 q101
  cases e101
  have hcon := fun W' (hW : Below W.heap.size W W') => (impl_hasNeeds.calls k (rd_T43 l0 x).f0 A101_1 c101_1 (rd_T43 l0 x).f1 (rd_T43 l0 x).f2 At ct t b W' (Kd.C_below hi101_1 hW) hl101_1 (Kd.C_below HRT.out hW) HCT.out h)
  have HN := Aside0.mk hcon
  have P101 := eq_true p101
  have Q101 := eq_true q101
  clear hcon hr0 h hi101_1 p101 q101
  generalize (rd_T43 l0 x).f0 = y0 at hx101_0 HN
  generalize (rd_T43 l0 x).f2 = y2 at hx101_2 HN
  generalize (rd_T43 l0 x).f1 = y1 at hx101_1 HN hl101_1
  go_enter Try.func33,Try.ntmps33
  go_wp2
  refine start_ (n := 13) (S := fun w' => w'.cell? ⟨gt,0,none⟩ = some (.slice At t.length ct) ∧ w'.cell? ⟨gb,0,none⟩ = some (.slice (some ad101) l0.length c0) ∧ w'.cell? (ad101.add ((x).toNat * 3)) = some (.string y0) ∧ w'.cell? ⟨(ad101.add ((x).toNat * 3)).block,(ad101.add ((x).toNat * 3)).off + 1,none⟩ = some (.slice A101_1 y1.length c101_1) ∧ w'.cell? ⟨(ad101.add ((x).toNat * 3)).block,(ad101.add ((x).toNat * 3)).off + 2,none⟩ = some (.int .i64 y2)) (ds := []) #[X,X,X,X,X,X,X,X,X,X,X,X,X] (by kernel_rfl) rfl rfl ⟨hbt,hbb,hx101_0,hx101_1,hx101_2⟩ (fun hHeld => ?_);refine with_tabW impl_TeachOrder.tab1 impl_TeachOrder.bits1 (fun HT_ HW_ => ?_)
  have HBB := Aside0.mk (below_drew1 (Below.refl W.heap.size W))
  clear hbt hbb hx101_0 hx101_1 hx101_2
  generalize W.drew = w2 at HBB hHeld ⊢
  refine YT 0 5 #[Y,X,X,X,X,X,X,X,X,X,X,X,X] rfl rfl HT_ HW_ hHeld ?_
  refine YP 1 6 #[Y,Y,X,X,X,X,X,X,X,X,X,X,X] rfl rfl HT_ ?_
  refine ZO 2 7 #[Y,Y,Y,X,X,X,X,X,X,X,X,X,X] rfl rfl HT_ fun K hK => ?_
  refine goes_ Try.func26 (by kernel_rfl) rfl #[.slice At t.length ct,.int .i64 x] (by rfl) rfl rfl (by (try simp only [List.map_toArray,List.map_cons,List.map_nil]);first|done|rfl|(simp only [List.length_drop,List.length_take];rfl)) ?_
  with_reducible refine (slices_Contains_int.calls k _ _ t x false _ (Kd.C_below HRT.out HBB.out) HCT.out A1.out).mono ?_
  rintro e w' ⟨rfl,nd_,rfl⟩
  refine ⟨_,rfl,?_⟩
  replace HBB := Aside0.mk (pw_below_drewN HBB.out nd_)
  refine hK.out _ _ hHeld (fun hHeld => ?_)
  clear hK K
  refine norm_ (a' := ?_) ?_ ?_
  rotate_left
  ·show Act.put _ (some 7) _ = _
   simp only [Act.put,zuA,zuB,zuC,i64_w,i32_w]
   rfl
  generalize World.drewN _ nd_ = w2 at HBB hHeld ⊢
  refine YP 3 8 #[Y,Y,Y,Y,X,X,X,X,X,X,X,X,X] rfl rfl HT_ ?_
  refine YP 4 9 #[Y,Y,Y,Y,Y,X,X,X,X,X,X,X,X] rfl rfl HT_ ?_
  refine YT 5 10 #[Y,Y,Y,Y,Y,Y,X,X,X,X,X,X,X] rfl rfl HT_ HW_ hHeld ?_
  refine YP 6 11 #[Y,Y,Y,Y,Y,Y,Y,X,X,X,X,X,X] rfl rfl HT_ ?_
  refine YP 7 12 #[Y,Y,Y,Y,Y,Y,Y,Y,X,X,X,X,X] rfl rfl HT_ ?_
  refine YT 8 13 #[Y,Y,Y,Y,Y,Y,Y,Y,Y,X,X,X,X] rfl rfl HT_ HW_ hHeld ?_
  refine YT 9 14 #[Y,Y,Y,Y,Y,Y,Y,Y,Y,Y,X,X,X] rfl rfl HT_ HW_ hHeld ?_
  refine ZO 10 15 #[Y,Y,Y,Y,Y,Y,Y,Y,Y,Y,Y,X,X] rfl rfl HT_ fun K hK => ?_
  refine goes_ Try.func27 (by kernel_rfl) rfl #[.agg #[.string y0,.slice A101_1 y1.length c101_1,.int .i64 y2],.slice At t.length ct] (by rfl) rfl rfl (by (try simp only [List.map_toArray,List.map_cons,List.map_nil]);first|done|rfl|(simp only [List.length_drop,List.length_take];rfl)) ?_
  with_reducible refine (HN.out _ HBB.out).mono ?_
  rintro e w' ⟨rfl,hb'⟩
  refine ⟨_,rfl,?_⟩
  obtain ⟨s0,s1,s2,s3,s4⟩ := hHeld
  refine hK.out _ _ ⟨(hb'.cell (World.block_lt_of_cell? _ _ s0)).trans s0,(hb'.cell (World.block_lt_of_cell? _ _ s1)).trans s1,(hb'.cell (World.block_lt_of_cell? _ _ s2)).trans s2,(hb'.cell (World.block_lt_of_cell? _ _ s3)).trans s3,(hb'.cell (World.block_lt_of_cell? _ _ s4)).trans s4⟩ (fun hHeld => ?_)
  have n0_ := Aside0.mk (below_step HBB.out hb')
  clear HBB
  have HBB := n0_
  clear n0_ hb'
  clear hK K
  refine norm_ (a' := ?_) ?_ ?_
  rotate_left
  ·show Act.put _ (some 15) _ = _
   simp only [Act.put,zuA,zuB,zuC,i64_w,i32_w]
   rfl
  refine YP 11 16 #[Y,Y,Y,Y,Y,Y,Y,Y,Y,Y,Y,Y,X] rfl rfl HT_ ?_
  refine YP 12 4 #[Y,Y,Y,Y,Y,Y,Y,Y,Y,Y,Y,Y,Y] rfl rfl HT_ ?_
  refine done_ (done_of HT_.out (by kernel_rfl)) ?_
  try go_wp2
  go_ret
  exact ⟨rfl,HBB.out⟩
set_option maxHeartbeats 3000000 in
set_option maxRecDepth 100000 in
theorem impl_TeachOrder.calls (k : Nat) (A0 : Option Addr) (c0 : Nat) (l0 : List S43) (r1 : List Int) (r2 : Bool) (w : World) (hr0 : Kd.C k43 w A0 l0.length l0) (hc0 : l0.length ≤ c0) (h : impl_TeachOrder.f k l0 = some (r1,r2)) :
  Calls Try.prog 10 #[.slice A0 l0.length c0] w fun e w' => ∃ v0_ : Value,e = .returned (.tuple #[v0_,.bool r2]) ∧ Kd.R (Kd.int .i64) 3 w' w.heap.size (fun _ => True) v0_ r1 ∧ Below w.heap.size w w' := by
 have eg : ∀ args w,(callFunc 33 args).run Try.prog w = .ok (.enter 33 args) w := enters_of Try.func33 (by kernel_rfl) rfl
 have HR0 := Aside0.mk hr0
 have HC0 := Aside0.mk hc0
 clear hr0 hc0
 have HB := Aside0.mk (Below.refl w.heap.size w)
 unfold impl_TeachOrder.f at h
 obtain ⟨a,A1,h⟩ := Option.bind_eq_some_iff.mp h
 replace A1 := Aside0.mk A1
 cases a with
 | false =>
  rw [if_neg (by decide)] at h
  simp only [Option.some.injEq,Prod.mk.injEq] at h
  obtain ⟨rfl,rfl⟩ := h
  go_enter Try.func10,Try.ntmps10
  go_wp2_with (first|((with_reducible refine gate_dst (N := 1) rfl ?_);refine ZE 1 #[.slice A0 l0.length c0] 24 ?_;intro g2 hg w1 hbox hb;have BK2 := Aside0.mk hbox;have GE2 := Aside0.mk (show w.heap.size ≤ g2 from Nat.le_of_eq hg.symm);have n1_ := Aside0.mk (below_step HB.out hb);clear HB;have HB := n1_;clear n1_ hb hg hbox;have hx2 := (blk_cell BK2.out 0).trans (show (#[Value.slice A0 l0.length c0] : Array Value)[0]? = some (.slice A0 l0.length c0) from rfl))|(go_at_call 14;refine (impl_AreWords.calls k _ _ l0 false _ (Kd.C_below HR0.out HB.out) HC0.out A1.out).mono ?_;rintro e w5 ⟨rfl,hb⟩;have n0_ := Aside0.mk (below_step HB.out hb);have n1_ := Aside0.mk (blk_below BK2.out hb);clear HB BK2 hx2;have HB := n0_;have BK2 := n1_;clear n0_ n1_ hb;have hx2 := (blk_cell BK2.out 0).trans (show (#[Value.slice A0 l0.length c0] : Array Value)[0]? = some (.slice A0 l0.length c0) from rfl)))
  go_ret2
  exact ⟨.slice none 0 0,by first|rfl|(simp;done),Kd.R_nil _ _ _ _ _,HB.out⟩
 | true =>
  rw [if_pos rfl] at h
  have H' := Aside0.mk h
  clear h
  go_enter Try.func10,Try.ntmps10
  go_wp2_with (first|((with_reducible refine gate_dst (N := 1) rfl ?_);refine ZE 1 #[.slice A0 l0.length c0] 24 ?_;intro g2 hg w1 hbox hb;have BK2 := Aside0.mk hbox;have GE2 := Aside0.mk (show w.heap.size ≤ g2 from Nat.le_of_eq hg.symm);have n1_ := Aside0.mk (below_step HB.out hb);clear HB;have HB := n1_;clear n1_ hb hg hbox;have hx2 := (blk_cell BK2.out 0).trans (show (#[Value.slice A0 l0.length c0] : Array Value)[0]? = some (.slice A0 l0.length c0) from rfl))|(go_at_call 14;refine (impl_AreWords.calls k _ _ l0 true _ (Kd.C_below HR0.out HB.out) HC0.out A1.out).mono ?_;rintro e w5 ⟨rfl,hb⟩;have n0_ := Aside0.mk (below_step HB.out hb);have n1_ := Aside0.mk (blk_below BK2.out hb);clear HB BK2 hx2;have HB := n0_;have BK2 := n1_;clear n0_ n1_ hb;have hx2 := (blk_cell BK2.out 0).trans (show (#[Value.slice A0 l0.length c0] : Array Value)[0]? = some (.slice A0 l0.length c0) from rfl))|((with_reducible refine gate_dst (N := 4) rfl ?_);refine ZE 4 #[.slice none 0 0] 32 ?_;intro g7 hg w6 hbox hb;have n0_ := Aside0.mk (blk_below BK2.out hb);have NE27 := Aside0.mk (show g2 ≠ g7 from by have h_ := blk_lt BK2.out;rw [hg];exact Nat.ne_of_lt h_);have GE7 := Aside0.mk (show w.heap.size ≤ g7 from by rw [hg];exact below_size HB.out);have n1_ := Aside0.mk (below_step HB.out hb);have BK7 := Aside0.mk hbox;clear HB BK2 hx2 hb hg hbox;have HB := n1_;have BK2 := n0_;clear n0_ n1_))
  try simp only [Act.put,zuA,zuB,zuC]
  go_loopg [] k (fun kq w' => ∃ (t : List Int) (ut : Value),Aside0 (impl_TeachOrder.l0 kq l0 t = some (r1,r2)) ∧ Aside0 (kq ≤ k) ∧ Aside0 (w'.heap[g2]? = some (.cells #[.slice A0 l0.length c0] 24 (0,0))) ∧ Aside0 (w'.heap[g7]? = some (.cells #[ut] 32 (0,0))) ∧ Aside0 (Kd.R (Kd.int .i64) 3 w' w.heap.size (fun k_ => k_ ≠ g2 ∧ k_ ≠ g7) ut t) ∧ Aside0 (Below w.heap.size w w'))
  case atStart => exact ⟨[],.slice none 0 0,H',⟨Nat.le_refl _⟩,BK2,BK7,⟨Kd.R_nil _ _ _ _ _⟩,HB⟩
  case round =>
   clear H' HB BK2 BK7
   obtain ⟨t,ut,HA,HK1,BK2,BK7,HRT,HB⟩ := hrel
   obtain ⟨At,ct,rfl⟩ := Kd.R_slice HRT.out
   have hx2 := (blk_cell BK2.out 0).trans (show (#[Value.slice A0 l0.length c0] : Array Value)[0]? = some (.slice A0 l0.length c0) from rfl)
   have hx7 := (blk_cell BK7.out 0).trans (show (#[Value.slice At t.length ct] : Array Value)[0]? = some (.slice At t.length ct) from rfl)
   cases gk with
   | zero => exact absurd HA.out (by simp [impl_TeachOrder.l0])
   | succ k1 =>
    have H := HA.out
    clear HA
    rw [impl_TeachOrder.l0] at H
    by_cases c1 : (t.length : Int) < (l0.length : Int);rotate_left
    ·rw [if_neg c1] at H
     have c1b0 : decide ((t.length : Int) < (l0.length : Int)) = false := decide_eq_false c1
     have c1b1 : decide (t.length < l0.length) = false := decide_eq_false (by omega)
     have c1b2 : (t.length < l0.length) = False := eq_false (by omega)
     clear c1
     simp only [Option.some.injEq,Prod.mk.injEq] at H
     obtain ⟨rfl,rfl⟩ := H
     go_wp2
     go_ret2
     exact ⟨_,by first|rfl|(simp;done),Kd.R_mono HRT.out (fun _ _ => trivial),HB.out⟩


    rw [if_pos c1] at H
    have c1b0 : decide ((t.length : Int) < (l0.length : Int)) = true := decide_eq_true c1
    have c1b1 : decide (t.length < l0.length) = true := decide_eq_true (by omega)
    have c1b2 : (t.length < l0.length) = True := eq_true (by omega)
    clear c1
    obtain ⟨n,A6,H⟩ := Option.bind_eq_some_iff.mp H
    replace A6 := Aside0.mk A6
    by_cases c3 : n < 0
    ·rw [if_pos c3] at H
     have c3b0 := decide_eq_true c3
     simp only [Option.some.injEq,Prod.mk.injEq] at H
     obtain ⟨rfl,rfl⟩ := H
     clear c3
     go_wp2_with (first|(go_at_call 24;refine (impl_mostUsed.calls (impl_TeachOrder.p k1 l0 t) 33 #[.pointer (some ⟨g7,0,none⟩),.pointer (some ⟨g2,0,none⟩)] eg k1 _ _ l0 n _ ?hp_ (Kd.C_below HR0.out HB.out) HC0.out A6.out).mono ?_;(case hp_ => intro W x b hW px qx hpx;exact impl_TeachOrder.lit k1 A0 c0 l0 At ct t x b g7 g2 W (Kd.C_below HR0.out (below_step HB.out hW)) (Kd.C_below (Kd.R_reads' HRT.out).2.2 hW) (Kd.R_reads' HRT.out).2.1 ((hW.cell (World.block_lt_of_cell? _ _ hx7)).trans hx7) ((hW.cell (World.block_lt_of_cell? _ _ hx2)).trans hx2) hpx);rintro e w9 ⟨rfl,hb⟩;have n0_ := Aside0.mk (blk_below BK2.out hb);have n1_ := Aside0.mk (blk_below BK7.out hb);have n2_ := Aside0.mk (Kd.R_below HRT.out hb);have n3_ := Aside0.mk (below_step HB.out hb);clear BK2 BK7 HRT HB hx2 hx7;have BK2 := n0_;have BK7 := n1_;have HRT := n2_;have HB := n3_;clear n0_ n1_ n2_ n3_ hb;have hx2 := (blk_cell BK2.out 0).trans (show (#[Value.slice A0 l0.length c0] : Array Value)[0]? = some (.slice A0 l0.length c0) from rfl);have hx7 := (blk_cell BK7.out 0).trans (show (#[Value.slice At t.length ct] : Array Value)[0]? = some (.slice At t.length ct) from rfl)))
     go_ret2
     exact ⟨.slice none 0 0,by first|rfl|(simp;done),Kd.R_nil _ _ _ _ _,HB.out⟩
    rw [if_neg c3] at H
    have c3b0 := decide_eq_false c3
    clear c3
    by_cases c7 : t.length < 17592186044416
    case neg => rw [if_neg c7] at H;cases H
    rw [if_pos c7] at H
    have LM := Aside0.mk c7
    have H' := Aside0.mk H
    clear H c7
    go_wp2_with (first|(go_at_call 24;refine (impl_mostUsed.calls (impl_TeachOrder.p k1 l0 t) 33 #[.pointer (some ⟨g7,0,none⟩),.pointer (some ⟨g2,0,none⟩)] eg k1 _ _ l0 n _ ?hp_ (Kd.C_below HR0.out HB.out) HC0.out A6.out).mono ?_;(case hp_ => intro W x b hW px qx hpx;exact impl_TeachOrder.lit k1 A0 c0 l0 At ct t x b g7 g2 W (Kd.C_below HR0.out (below_step HB.out hW)) (Kd.C_below (Kd.R_reads' HRT.out).2.2 hW) (Kd.R_reads' HRT.out).2.1 ((hW.cell (World.block_lt_of_cell? _ _ hx7)).trans hx7) ((hW.cell (World.block_lt_of_cell? _ _ hx2)).trans hx2) hpx);rintro e w9 ⟨rfl,hb⟩;have n0_ := Aside0.mk (blk_below BK2.out hb);have n1_ := Aside0.mk (blk_below BK7.out hb);have n2_ := Aside0.mk (Kd.R_below HRT.out hb);have n3_ := Aside0.mk (below_step HB.out hb);clear BK2 BK7 HRT HB hx2 hx7;have BK2 := n0_;have BK7 := n1_;have HRT := n2_;have HB := n3_;clear n0_ n1_ n2_ n3_ hb;have hx2 := (blk_cell BK2.out 0).trans (show (#[Value.slice A0 l0.length c0] : Array Value)[0]? = some (.slice A0 l0.length c0) from rfl);have hx7 := (blk_cell BK7.out 0).trans (show (#[Value.slice At t.length ct] : Array Value)[0]? = some (.slice At t.length ct) from rfl))|((with_reducible refine gate_builtin (b := .append) (xs := #[.tmp 19,.tmp 21]) rfl ?_);at_builtin;refine Kd.R_append (Kd.int .i64) (w0 := w) w.heap.size rfl (.tmp 19) (.tmp 21) 32 3 (.int .i64 0) 8 rfl Try.underlying32 info3 rfl (by decide) (by omega) (.slice At t.length ct) t n [.int .i64 n] (fun k_ => k_ ≠ g2 ∧ k_ ≠ g7) (fun _ => False) rfl rfl ?aP (fun _ hk => hk.elim) ?aF ?aO ?aB ?aS ?aL ?_;(case aP => exact rfl);(case aB => exact HB.out);(case aF => exact (fun k_ hk => ⟨Kd.freshB BK2.out k_ hk,Kd.freshB BK7.out k_ hk⟩));(case aO => exact HRT.out);(case aS => exact below_size HB.out);(case aL => have := LM.out;omega);intro v10 w10 ho hb hg hat;obtain ⟨A10,n10,c10,rfl⟩ : ∃ (A_ : Option Addr) (n_ c_ : Nat),v10 = Value.slice A_ n_ c_ := (by obtain ⟨A_,c_,e_⟩ := Kd.R_slice ho;exact ⟨A_,_,c_,e_⟩);have n0_ := Aside0.mk (blk_grown BK7.out hg (Kd.R_away HRT.out (fun _ h_ => h_.2)));have n1_ := Aside0.mk (blk_grown BK2.out hg (Kd.R_away HRT.out (fun _ h_ => h_.1)));clear BK7 BK2 HRT HB hx2 hx7;have BK7 := n0_;have BK2 := n1_;have HRT := Aside0.mk ho;have HB := Aside0.mk hb;clear n0_ n1_ ho hb hg hat;have hz7 := (blk_cell BK7.out 0).trans (show (#[Value.slice At t.length ct] : Array Value)[0]? = some (.slice At t.length ct) from rfl);have hf7 := blk_frozen BK7.out 0))
    go_roundg k1
    case measure => have := HK1.out;omega
    case rel => exact ⟨t ++ [n],_,H',⟨by have := HK1.out;omega⟩,⟨blk_far BK2.out NE27.out _⟩,⟨blk_put BK7.out 0 _ rfl⟩,⟨Kd.R_far HRT.out (fun _ hk => hk.2) _⟩,⟨below_set HB.out GE7.out⟩⟩
/-! ### spec_TeachOrder: function 11 -/
def spec_TeachOrder.f (k : Nat) (l0 : List (S43)) : Option (List Int × Bool) := (spec_leGood.f k l0).bind fun t101 => (if t101 = true then ((spec_leOrder.f k l0).bind fun t102 => (if (t102.length : Int) < (l0.length : Int) then (some (([] : List Int),false)) else ((spec_leOrder.f k l0).bind fun t105 => (some (t105,true))))) else (some (([] : List Int),false)))
theorem spec_TeachOrder.mono : ∀ a0 k,LeO (spec_TeachOrder.f k a0) (spec_TeachOrder.f (k + 1) a0) := by
 intro a0 k
 unfold spec_TeachOrder.f
 with_reducible repeat' first|apply spec_leGood.mono|apply spec_leOrder.mono|apply LeO.refl|apply LeO.none|refine LeO.ite ?_ ?_|refine LeO.bind ?_ (fun _ => ?_)
set_option maxHeartbeats 3000000 in
set_option maxRecDepth 100000 in
theorem spec_TeachOrder.calls (k : Nat) (A0 : Option Addr) (c0 : Nat) (l0 : List (S43)) (r1 : List Int) (r2 : Bool) (w : World) (hr0 : Kd.C k43 w A0 l0.length l0) (hc0 : l0.length ≤ c0) (h : spec_TeachOrder.f k l0 = some (r1,r2)) :
  Calls Try.prog 11 #[.slice A0 l0.length c0] w fun e w' => ∃ v0_ : Value,e = .returned (.tuple #[v0_,.bool r2]) ∧ Kd.R (Kd.int .i64) 3 w' w.heap.size (fun _ => True) v0_ r1 ∧ Below w.heap.size w w' := by
 have HR0 := Aside0.mk hr0
 have HC0 := Aside0.mk hc0
 clear hr0 hc0
 have HB := Aside0.mk (Below.refl w.heap.size w)
 have H : ((spec_leGood.f k l0).bind fun t101 => (if t101 = true then ((spec_leOrder.f k l0).bind fun t102 => (if (t102.length : Int) < (l0.length : Int) then (some (([] : List Int),false)) else ((spec_leOrder.f k l0).bind fun t105 => (some (t105,true))))) else (some (([] : List Int),false)))) = some (r1,r2) := h
 clear h
 replace H := Option.bind_eq_some_iff.mp H
 obtain ⟨t101,A20,H⟩ := H
 try dsimp only at H
 have A2 := Aside0.mk A20
 clear A20
 by_cases c3 : t101 = true;rotate_left
 ·replace c3 := Bool.eq_false_iff.mpr c3
  subst c3
  rw [if_neg (show ¬ (false = true) by decide)] at H
  simp only [Option.some.injEq,Prod.mk.injEq] at H
  obtain ⟨rfl,rfl⟩ := H
  go_enter Try.func11,Try.ntmps11
  go_wp2_with (first|((with_reducible refine gate_callee (f := 29) rfl ?_);refine goesM_ (some 5) Try.func29 #[.slice A0 l0.length c0] ?_;(with_reducible refine (spec_leGood.calls k _ _ l0 false _ ?side1 ?side2 A2.out).mono ?_);(case side1 => exact ZR HR0.out);(case side2 => exact HC0.out);rintro e w14 ⟨rfl,hb⟩;refine ⟨_,rfl,?_⟩;replace HB := Aside0.mk (below_step (ZQ HB) hb);(try clear hb)))
  go_ret2
  exact ⟨_,by first|rfl|(simp [*,errW_none,errW_some] <;> rfl),by first|exact Kd.R_nil _ _ _ _ _|exact Kd.N_nil _ _ _ _ _|exact Kd.V_nil _ _ _ _ _|exact Kd.Q_nil _ _ _ _ _|exact Kd.S_nil _ _ _ _ _,ZQ HB⟩

 subst c3
 rw [if_pos rfl] at H
 replace H := Option.bind_eq_some_iff.mp H
 obtain ⟨t102,A40,H⟩ := H
 try dsimp only at H
 have A4 := Aside0.mk A40
 clear A40
 by_cases c5 : (t102.length : Int) < (l0.length : Int)
 ·rw [if_pos c5] at H
  have c5b0 := decide_eq_true c5
  have c5b1 : decide (t102.length < l0.length) = true := decide_eq_true (Int.ofNat_lt.mp c5)
  clear c5
  simp only [Option.some.injEq,Prod.mk.injEq] at H
  obtain ⟨rfl,rfl⟩ := H
  go_enter Try.func11,Try.ntmps11
  go_wp2_with (first|((with_reducible refine gate_callee (f := 29) rfl ?_);refine goesM_ (some 5) Try.func29 #[.slice A0 l0.length c0] ?_;(with_reducible refine (spec_leGood.calls k _ _ l0 true _ ?side1 ?side2 A2.out).mono ?_);(case side1 => exact ZR HR0.out);(case side2 => exact HC0.out);rintro e w6 ⟨rfl,hb⟩;refine ⟨_,rfl,?_⟩;replace HB := Aside0.mk (below_step (ZQ HB) hb);(try clear hb))|(go_at_call 31;(with_reducible refine (spec_leOrder.calls k _ _ l0 t102 _ ?side1 ?side2 A4.out).mono ?_);(case side1 => exact ZR (Kd.C_below HR0.out HB.out));(case side2 => exact HC0.out);rintro e w7 ⟨v103,rfl,ho0,hb⟩;have HO104 := Aside0.mk (Kd.R_lower ho0 (below_size (ZQ HB)));replace HB := Aside0.mk (below_step (ZQ HB) hb);(try clear hb);(try clear ho0);obtain ⟨Ao8,co8,eo8⟩ := Kd.R_slice HO104.out;subst eo8))
  go_ret2
  exact ⟨_,by first|rfl|(simp [*,errW_none,errW_some] <;> rfl),by first|exact Kd.R_nil _ _ _ _ _|exact Kd.N_nil _ _ _ _ _|exact Kd.V_nil _ _ _ _ _|exact Kd.Q_nil _ _ _ _ _|exact Kd.S_nil _ _ _ _ _,ZQ HB⟩
 rw [if_neg c5] at H
 have c5b0 := decide_eq_false c5
 have c5b1 : decide (t102.length < l0.length) = false := decide_eq_false (fun h => c5 (Int.ofNat_lt.mpr h))
 clear c5
 replace H := Option.bind_eq_some_iff.mp H
 obtain ⟨t105,A90,H⟩ := H
 try dsimp only at H
 have A9 := Aside0.mk A90
 clear A90
 simp only [Option.some.injEq,Prod.mk.injEq] at H
 obtain ⟨rfl,rfl⟩ := H
 go_enter Try.func11,Try.ntmps11
 go_wp2_with (first|((with_reducible refine gate_callee (f := 29) rfl ?_);refine goesM_ (some 5) Try.func29 #[.slice A0 l0.length c0] ?_;(with_reducible refine (spec_leGood.calls k _ _ l0 true _ ?side1 ?side2 A2.out).mono ?_);(case side1 => exact ZR HR0.out);(case side2 => exact HC0.out);rintro e w10 ⟨rfl,hb⟩;refine ⟨_,rfl,?_⟩;replace HB := Aside0.mk (below_step (ZQ HB) hb);(try clear hb))|(go_at_call 31;(with_reducible refine (spec_leOrder.calls k _ _ l0 t102 _ ?side1 ?side2 A4.out).mono ?_);(case side1 => exact ZR (Kd.C_below HR0.out HB.out));(case side2 => exact HC0.out);rintro e w11 ⟨v103,rfl,ho0,hb⟩;have HO104 := Aside0.mk (Kd.R_lower ho0 (below_size (ZQ HB)));replace HB := Aside0.mk (below_step (ZQ HB) hb);(try clear hb);(try clear ho0);obtain ⟨Ao12,co12,eo12⟩ := Kd.R_slice HO104.out;subst eo12)|((with_reducible refine gate_callee (f := 31) rfl ?_);refine goesM_ (some 16) Try.func31 #[.slice A0 l0.length c0] ?_;(with_reducible refine (spec_leOrder.calls k _ _ l0 t105 _ ?side1 ?side2 A9.out).mono ?_);(case side1 => exact ZR (Kd.C_below HR0.out HB.out));(case side2 => exact HC0.out);rintro e w13 ⟨v106,rfl,ho0,hb⟩;refine ⟨_,rfl,?_⟩;have HO107 := Aside0.mk (Kd.R_lower (Kd.R_new' ho0 (Kd.R_lt (ZK HO104))) (below_size (ZQ HB)));replace HO104 := Aside0.mk (Kd.R_elder' (ZK HO104) (Kd.R_base ho0) hb);replace HB := Aside0.mk (below_step (ZQ HB) hb);(try clear hb);(try clear ho0)))
 go_ret2
 exact ⟨_,by first|rfl|(simp [*,errW_none,errW_some] <;> rfl),ZK ⟨Kd.R_mono HO107.out (fun _ hk => trivial)⟩,ZQ HB⟩
/-! ### laws_sameInts: function 13 -/
def laws_sameInts.l0 : Nat → List Int → List Int → Int → Int → Option (Bool)
 | 0,_,_,_,_ => none
 | k + 1,x0,x1,x12,x13 => if x13 < x12 then (if 0 ≤ x13 then (if x13 < (x0.length : Int) then (if x13 < (x1.length : Int) then (if (rd x0 x13) = (rd x1 x13) then (laws_sameInts.l0 k x0 x1 x12 (wrap64 (x13 + 1))) else (some false)) else (none)) else (none)) else (none)) else (some true)
def laws_sameInts.f (k : Nat) (l0 : List Int) (l1 : List Int) : Option (Bool) := if (l0.length : Int) = (l1.length : Int) then (laws_sameInts.l0 k l0 l1 (l0.length : Int) 0) else (some false)
theorem laws_sameInts.mono_l : ∀ k,(∀ y0 y1 y2 y3,LeO (laws_sameInts.l0 k y0 y1 y2 y3) (laws_sameInts.l0 (k + 1) y0 y1 y2 y3))
 | 0 => fun _ _ _ _ r h => by simp [laws_sameInts.l0] at h
 | k + 1 => by
  have ih0 := laws_sameInts.mono_l k
  intro y0 y1 y2 y3
  unfold laws_sameInts.l0
  with_reducible repeat' first|apply ih0|apply LeO.refl|apply LeO.none|refine LeO.ite ?_ ?_|refine LeO.bind ?_ (fun _ => ?_)
theorem laws_sameInts.mono : ∀ a0 a1 k,LeO (laws_sameInts.f k a0 a1) (laws_sameInts.f (k + 1) a0 a1) := by
 intro a0 a1 k
 have ih0 := laws_sameInts.mono_l k
 unfold laws_sameInts.f
 with_reducible repeat' first|apply ih0|apply LeO.refl|apply LeO.none|refine LeO.ite ?_ ?_|refine LeO.bind ?_ (fun _ => ?_)
set_option maxHeartbeats 3000000 in
set_option maxRecDepth 100000 in
theorem laws_sameInts.calls (k : Nat) (A0 : Option Addr) (c0 : Nat) (l0 : List Int) (A1 : Option Addr) (c1 : Nat) (l1 : List Int) (r : Bool) (w : World) (hr0 : Kd.C (Kd.int .i64) w A0 l0.length l0) (hc0 : l0.length ≤ c0) (hr1 : Kd.C (Kd.int .i64) w A1 l1.length l1) (hc1 : l1.length ≤ c1) (h : laws_sameInts.f k l0 l1 = some r) :
  Calls Try.prog 13 #[.slice A0 l0.length c0,.slice A1 l1.length c1] w fun e w' => e = .returned (.bool r) ∧ Drawn0 w w' := by
 have HR0 := Aside0.mk hr0
 have HC0 := Aside0.mk hc0
 clear hr0 hc0
 have HR1 := Aside0.mk hr1
 have HC1 := Aside0.mk hc1
 clear hr1 hc1
 have H : (if (l0.length : Int) = (l1.length : Int) then (laws_sameInts.l0 k l0 l1 (l0.length : Int) 0) else (some false)) = some r := h
 clear h
 by_cases c3 : (l0.length : Int) = (l1.length : Int);rotate_left
 ·rw [if_neg c3] at H
  have c3b0 : ((l0.length : Int) == (l1.length : Int)) = false := beq_eq_false_iff_ne.mpr c3
  have c3b1 : ((l0.length : Int) != (l1.length : Int)) = true := bne_iff_ne.mpr c3
  have c3b2 : (l0.length == l1.length) = false := by first|simpa using c3|(simp at c3 ⊢;omega)
  obtain rfl := Option.some.inj H
  go_enter Try.func13,Try.ntmps13
  go_wp2
  repeat (go_quiet (fail);try go_wp2)
  go_ret
  exact ⟨by first|rfl|(simp;done)|(simp [*];done),by repeat (first|exact Drawn0.refl _|apply Drawn0.step)⟩

 rw [if_pos c3] at H
 have c3b0 : ((l0.length : Int) == (l1.length : Int)) = true := beq_iff_eq.mpr c3
 have c3b1 : ((l0.length : Int) != (l1.length : Int)) = false := bne_eq_false_iff_eq.mpr c3
 have c3b2 : (l0.length == l1.length) = true := by first|simpa using c3|(simp at c3 ⊢;omega)
 clear c3
 have H' := Aside0.mk H
 clear H
 go_enter Try.func13,Try.ntmps13
 go_wp2
 repeat (go_quiet (fail);try go_wp2)
 go_loopg [13] k (fun kq v13 w' => ∃ (x13_1 : Int),v13 = .int .i64 x13_1 ∧ Aside0 (laws_sameInts.l0 kq l0 l1 (l0.length : Int) x13_1 = some r) ∧ Aside0 (kq ≤ k) ∧ Drawn0 w w')
 case atStart => exact ⟨(0),(by first|rfl|(simp;done)|(simp [*];done)),H',⟨Nat.le_refl _⟩,by repeat (first|exact Drawn0.refl _|apply Drawn0.step)⟩
 case round =>
  clear H'
  obtain ⟨x13_1,rfl,HA,HK1,⟨m1,rfl⟩⟩ := hrel
  cases gk with
  | zero => exact absurd HA.out (by simp [laws_sameInts.l0])
  | succ k1 =>
   have H := HA.out
   clear HA
   simp only [laws_sameInts.l0] at H
   by_cases c4 : x13_1 < (l0.length : Int);rotate_left
   ·rw [if_neg c4] at H
    have c4b0 : decide (x13_1 < (l0.length : Int)) = false := decide_eq_false c4
    clear c4
    obtain rfl := Option.some.inj H
    go_wp2
    repeat (go_quiet (fail);try go_wp2)
    go_ret
    exact ⟨by first|rfl|(simp;done)|(simp [*];done),by repeat (first|exact Drawn0.refl _|apply Drawn0.step)⟩
   rw [if_pos c4] at H
   have c4b0 : decide (x13_1 < (l0.length : Int)) = true := decide_eq_true c4
   clear c4
   by_cases c5 : 0 ≤ x13_1;rotate_left
   ·rw [if_neg c5] at H
    exact absurd H (by simp)
   rw [if_pos c5] at H
   have c5b0 : decide (0 ≤ x13_1) = true := decide_eq_true c5
   clear c5
   by_cases c6 : x13_1 < (l0.length : Int);rotate_left
   ·rw [if_neg c6] at H
    exact absurd H (by simp)
   rw [if_pos c6] at H
   have c6b0 : decide (x13_1 < (l0.length : Int)) = true := decide_eq_true c6
   clear c6
   by_cases c7 : x13_1 < (l1.length : Int);rotate_left
   ·rw [if_neg c7] at H
    exact absurd H (by simp)
   rw [if_pos c7] at H
   have c7b0 : decide (x13_1 < (l1.length : Int)) = true := decide_eq_true c7
   clear c7
   by_cases c8 : (rd l0 x13_1) = (rd l1 x13_1);rotate_left
   ·rw [if_neg c8] at H
    have c8b0 : ((rd l0 x13_1) == (rd l1 x13_1)) = false := beq_eq_false_iff_ne.mpr c8
    have c8b1 : ((rd l0 x13_1) != (rd l1 x13_1)) = true := bne_iff_ne.mpr c8
    obtain rfl := Option.some.inj H
    have p101 : 0 ≤ (x13_1 : Int) := ZD
    have q101 : x13_1 < (l0.length : Int) := ZD
    obtain ⟨ad101,e101,hx101_0⟩ := Kd.at_int HR0.out x13_1 p101 q101
    cases e101
    replace p101 := eq_true p101
    replace q101 := eq_true q101
    have p102 : 0 ≤ (x13_1 : Int) := ZD
    have q102 : x13_1 < (l1.length : Int) := ZD
    obtain ⟨ad102,e102,hx102_0⟩ := Kd.at_int HR1.out x13_1 p102 q102
    cases e102
    replace p102 := eq_true p102
    replace q102 := eq_true q102
    go_wp2
    repeat (go_quiet (fail);try go_wp2)
    go_ret
    exact ⟨by first|rfl|(simp;done)|(simp [*];done),by repeat (first|exact Drawn0.refl _|apply Drawn0.step)⟩
   rw [if_pos c8] at H
   have c8b0 : ((rd l0 x13_1) == (rd l1 x13_1)) = true := beq_iff_eq.mpr c8
   have c8b1 : ((rd l0 x13_1) != (rd l1 x13_1)) = false := bne_eq_false_iff_eq.mpr c8
   clear c8
   have H' := Aside0.mk H
   clear H
   have p101 : 0 ≤ (x13_1 : Int) := ZD
   have q101 : x13_1 < (l0.length : Int) := ZD
   obtain ⟨ad101,e101,hx101_0⟩ := Kd.at_int HR0.out x13_1 p101 q101
   cases e101
   replace p101 := eq_true p101
   replace q101 := eq_true q101
   have p102 : 0 ≤ (x13_1 : Int) := ZD
   have q102 : x13_1 < (l1.length : Int) := ZD
   obtain ⟨ad102,e102,hx102_0⟩ := Kd.at_int HR1.out x13_1 p102 q102
   cases e102
   replace p102 := eq_true p102
   replace q102 := eq_true q102
   go_wp2
   repeat (go_quiet (fail);try go_wp2)
   go_roundg k1
   case measure => have := HK1.out;omega
   case rel => exact ⟨(wrap64 (x13_1 + 1)),(by first|rfl|(simp;done)|(simp [*];done)),H',⟨by have := HK1.out;omega⟩,by repeat (first|exact Drawn0.refl _|apply Drawn0.step)⟩
/-! ### laws_sameLists: function 12 -/
def laws_sameLists.l0 : Nat → List (List Int) → List (List Int) → Int → Int → Option (Bool)
 | 0,_,_,_,_ => none
 | k + 1,x0,x1,x12,x13 => if x13 < x12 then (if 0 ≤ x13 then (if x13 < (x0.length : Int) then (if x13 < (x1.length : Int) then ((laws_sameInts.f k (rd_L2 x0 x13) (rd_L2 x1 x13)).bind fun t103 => (if t103 = true then (laws_sameLists.l0 k x0 x1 x12 (wrap64 (x13 + 1))) else (some false))) else (none)) else (none)) else (none)) else (some true)
def laws_sameLists.f (k : Nat) (l0 : List (List Int)) (l1 : List (List Int)) : Option (Bool) := if (l0.length : Int) = (l1.length : Int) then (laws_sameLists.l0 k l0 l1 (l0.length : Int) 0) else (some false)
theorem laws_sameLists.mono_l : ∀ k,(∀ y0 y1 y2 y3,LeO (laws_sameLists.l0 k y0 y1 y2 y3) (laws_sameLists.l0 (k + 1) y0 y1 y2 y3))
 | 0 => fun _ _ _ _ r h => by simp [laws_sameLists.l0] at h
 | k + 1 => by
  have ih0 := laws_sameLists.mono_l k
  intro y0 y1 y2 y3
  unfold laws_sameLists.l0
  with_reducible repeat' first|apply ih0|apply laws_sameInts.mono|apply LeO.refl|apply LeO.none|refine LeO.ite ?_ ?_|refine LeO.bind ?_ (fun _ => ?_)
theorem laws_sameLists.mono : ∀ a0 a1 k,LeO (laws_sameLists.f k a0 a1) (laws_sameLists.f (k + 1) a0 a1) := by
 intro a0 a1 k
 have ih0 := laws_sameLists.mono_l k
 unfold laws_sameLists.f
 with_reducible repeat' first|apply ih0|apply laws_sameInts.mono|apply LeO.refl|apply LeO.none|refine LeO.ite ?_ ?_|refine LeO.bind ?_ (fun _ => ?_)
set_option maxHeartbeats 3000000 in
set_option maxRecDepth 100000 in
theorem laws_sameLists.calls (k : Nat) (A0 : Option Addr) (c0 : Nat) (l0 : List (List Int)) (A1 : Option Addr) (c1 : Nat) (l1 : List (List Int)) (r : Bool) (w : World) (hr0 : Kd.C (Kd.slice 3 (Kd.int .i64)) w A0 l0.length l0) (hc0 : l0.length ≤ c0) (hr1 : Kd.C (Kd.slice 3 (Kd.int .i64)) w A1 l1.length l1) (hc1 : l1.length ≤ c1) (h : laws_sameLists.f k l0 l1 = some r) :
  Calls Try.prog 12 #[.slice A0 l0.length c0,.slice A1 l1.length c1] w fun e w' => e = .returned (.bool r) ∧ Drawn0 w w' := by
 have HR0 := Aside0.mk hr0
 have HC0 := Aside0.mk hc0
 clear hr0 hc0
 have HR1 := Aside0.mk hr1
 have HC1 := Aside0.mk hc1
 clear hr1 hc1
 have H : (if (l0.length : Int) = (l1.length : Int) then (laws_sameLists.l0 k l0 l1 (l0.length : Int) 0) else (some false)) = some r := h
 clear h
 by_cases c3 : (l0.length : Int) = (l1.length : Int);rotate_left
 ·rw [if_neg c3] at H
  have c3b0 : ((l0.length : Int) == (l1.length : Int)) = false := beq_eq_false_iff_ne.mpr c3
  have c3b1 : ((l0.length : Int) != (l1.length : Int)) = true := bne_iff_ne.mpr c3
  have c3b2 : (l0.length == l1.length) = false := by first|simpa using c3|(simp at c3 ⊢;omega)
  obtain rfl := Option.some.inj H
  go_enter Try.func12,Try.ntmps12
  go_wp2
  repeat (go_quiet (fail);try go_wp2)
  go_ret
  exact ⟨by first|rfl|(simp;done)|(simp [*];done),by repeat (first|exact Drawn0.refl _|apply Drawn0.step)⟩

 rw [if_pos c3] at H
 have c3b0 : ((l0.length : Int) == (l1.length : Int)) = true := beq_iff_eq.mpr c3
 have c3b1 : ((l0.length : Int) != (l1.length : Int)) = false := bne_eq_false_iff_eq.mpr c3
 have c3b2 : (l0.length == l1.length) = true := by first|simpa using c3|(simp at c3 ⊢;omega)
 clear c3
 have H' := Aside0.mk H
 clear H
 go_enter Try.func12,Try.ntmps12
 go_wp2
 repeat (go_quiet (fail);try go_wp2)
 go_loopg [13] k (fun kq v13 w' => ∃ (x13_1 : Int),v13 = .int .i64 x13_1 ∧ Aside0 (laws_sameLists.l0 kq l0 l1 (l0.length : Int) x13_1 = some r) ∧ Aside0 (kq ≤ k) ∧ Drawn0 w w')
 case atStart => exact ⟨(0),(by first|rfl|(simp;done)|(simp [*];done)),H',⟨Nat.le_refl _⟩,by repeat (first|exact Drawn0.refl _|apply Drawn0.step)⟩
 case round =>
  clear H'
  obtain ⟨x13_1,rfl,HA,HK1,⟨m1,rfl⟩⟩ := hrel
  cases gk with
  | zero => exact absurd HA.out (by simp [laws_sameLists.l0])
  | succ k1 =>
   have H := HA.out
   clear HA
   simp only [laws_sameLists.l0] at H
   by_cases c4 : x13_1 < (l0.length : Int);rotate_left
   ·rw [if_neg c4] at H
    have c4b0 : decide (x13_1 < (l0.length : Int)) = false := decide_eq_false c4
    clear c4
    obtain rfl := Option.some.inj H
    go_wp2
    repeat (go_quiet (fail);try go_wp2)
    go_ret
    exact ⟨by first|rfl|(simp;done)|(simp [*];done),by repeat (first|exact Drawn0.refl _|apply Drawn0.step)⟩
   rw [if_pos c4] at H
   have c4b0 : decide (x13_1 < (l0.length : Int)) = true := decide_eq_true c4
   clear c4
   by_cases c5 : 0 ≤ x13_1;rotate_left
   ·rw [if_neg c5] at H
    exact absurd H (by simp)
   rw [if_pos c5] at H
   have c5b0 : decide (0 ≤ x13_1) = true := decide_eq_true c5
   clear c5
   by_cases c6 : x13_1 < (l0.length : Int);rotate_left
   ·rw [if_neg c6] at H
    exact absurd H (by simp)
   rw [if_pos c6] at H
   have c6b0 : decide (x13_1 < (l0.length : Int)) = true := decide_eq_true c6
   clear c6
   by_cases c7 : x13_1 < (l1.length : Int);rotate_left
   ·rw [if_neg c7] at H
    exact absurd H (by simp)
   rw [if_pos c7] at H
   have c7b0 : decide (x13_1 < (l1.length : Int)) = true := decide_eq_true c7
   clear c7
   replace H := Option.bind_eq_some_iff.mp H
   obtain ⟨t103,A80,H⟩ := H
   try dsimp only at H
   have A8 := Aside0.mk A80
   clear A80
   by_cases c9 : t103 = true;rotate_left
   ·replace c9 := Bool.eq_false_iff.mpr c9
    subst c9
    rw [if_neg (show ¬ (false = true) by decide)] at H
    obtain rfl := Option.some.inj H
    have p101 : 0 ≤ (x13_1 : Int) := ZD
    have q101 : x13_1 < (l0.length : Int) := ZD
    obtain ⟨ad101,A101_0,c101_0,e101,hx101_0,hl101_0,hi101_0⟩ := at_L2 HR0.out x13_1 p101 q101
    cases e101
    have HR101_0 := Aside0.mk hi101_0
    have HC101_0 := Aside0.mk hl101_0
    clear hi101_0 hl101_0
    replace p101 := eq_true p101
    replace q101 := eq_true q101
    have p102 : 0 ≤ (x13_1 : Int) := ZD
    have q102 : x13_1 < (l1.length : Int) := ZD
    obtain ⟨ad102,A102_0,c102_0,e102,hx102_0,hl102_0,hi102_0⟩ := at_L2 HR1.out x13_1 p102 q102
    cases e102
    have HR102_0 := Aside0.mk hi102_0
    have HC102_0 := Aside0.mk hl102_0
    clear hi102_0 hl102_0
    replace p102 := eq_true p102
    replace q102 := eq_true q102
    go_wp2_with (first|(go_at_call 13;(with_reducible refine (laws_sameInts.calls k1 _ _ (rd_L2 l0 x13_1) _ _ (rd_L2 l1 x13_1) false _ ?side1 ?side2 ?side3 ?side4 A8.out).mono ?_);(case side1 => exact ZR HR101_0.out);(case side2 => exact HC101_0.out);(case side3 => exact ZR HR102_0.out);(case side4 => exact HC102_0.out);rintro e w' ⟨rfl,⟨nd,rfl⟩⟩;(try first|exact ⟨rfl,_,World.drewN_drewN _ _ _⟩|exact ⟨rfl,_,Eq.trans (World.drewN_drewN _ _ _) (congrArg (World.drewN _) (Nat.add_assoc _ _ _))⟩)))
    repeat (go_quiet (first|(go_at_call 13;(with_reducible refine (laws_sameInts.calls k1 _ _ (rd_L2 l0 x13_1) _ _ (rd_L2 l1 x13_1) false _ ?side1 ?side2 ?side3 ?side4 A8.out).mono ?_);(case side1 => exact ZR HR101_0.out);(case side2 => exact HC101_0.out);(case side3 => exact ZR HR102_0.out);(case side4 => exact HC102_0.out);rintro e w' ⟨rfl,⟨nd,rfl⟩⟩;(try first|exact ⟨rfl,_,World.drewN_drewN _ _ _⟩|exact ⟨rfl,_,Eq.trans (World.drewN_drewN _ _ _) (congrArg (World.drewN _) (Nat.add_assoc _ _ _))⟩)));try go_wp2_with (first|(go_at_call 13;(with_reducible refine (laws_sameInts.calls k1 _ _ (rd_L2 l0 x13_1) _ _ (rd_L2 l1 x13_1) false _ ?side1 ?side2 ?side3 ?side4 A8.out).mono ?_);(case side1 => exact ZR HR101_0.out);(case side2 => exact HC101_0.out);(case side3 => exact ZR HR102_0.out);(case side4 => exact HC102_0.out);rintro e w' ⟨rfl,⟨nd,rfl⟩⟩;(try first|exact ⟨rfl,_,World.drewN_drewN _ _ _⟩|exact ⟨rfl,_,Eq.trans (World.drewN_drewN _ _ _) (congrArg (World.drewN _) (Nat.add_assoc _ _ _))⟩))))
    go_ret
    exact ⟨by first|rfl|(simp;done)|(simp [*];done),by repeat (first|exact Drawn0.refl _|apply Drawn0.step)⟩
   subst c9
   rw [if_pos rfl] at H
   have H' := Aside0.mk H
   clear H
   have p101 : 0 ≤ (x13_1 : Int) := ZD
   have q101 : x13_1 < (l0.length : Int) := ZD
   obtain ⟨ad101,A101_0,c101_0,e101,hx101_0,hl101_0,hi101_0⟩ := at_L2 HR0.out x13_1 p101 q101
   cases e101
   have HR101_0 := Aside0.mk hi101_0
   have HC101_0 := Aside0.mk hl101_0
   clear hi101_0 hl101_0
   replace p101 := eq_true p101
   replace q101 := eq_true q101
   have p102 : 0 ≤ (x13_1 : Int) := ZD
   have q102 : x13_1 < (l1.length : Int) := ZD
   obtain ⟨ad102,A102_0,c102_0,e102,hx102_0,hl102_0,hi102_0⟩ := at_L2 HR1.out x13_1 p102 q102
   cases e102
   have HR102_0 := Aside0.mk hi102_0
   have HC102_0 := Aside0.mk hl102_0
   clear hi102_0 hl102_0
   replace p102 := eq_true p102
   replace q102 := eq_true q102
   go_wp2_with (first|(go_at_call 13;(with_reducible refine (laws_sameInts.calls k1 _ _ (rd_L2 l0 x13_1) _ _ (rd_L2 l1 x13_1) true _ ?side1 ?side2 ?side3 ?side4 A8.out).mono ?_);(case side1 => exact ZR HR101_0.out);(case side2 => exact HC101_0.out);(case side3 => exact ZR HR102_0.out);(case side4 => exact HC102_0.out);rintro e w' ⟨rfl,⟨nd,rfl⟩⟩;(try first|exact ⟨rfl,_,World.drewN_drewN _ _ _⟩|exact ⟨rfl,_,Eq.trans (World.drewN_drewN _ _ _) (congrArg (World.drewN _) (Nat.add_assoc _ _ _))⟩)))
   repeat (go_quiet (first|(go_at_call 13;(with_reducible refine (laws_sameInts.calls k1 _ _ (rd_L2 l0 x13_1) _ _ (rd_L2 l1 x13_1) true _ ?side1 ?side2 ?side3 ?side4 A8.out).mono ?_);(case side1 => exact ZR HR101_0.out);(case side2 => exact HC101_0.out);(case side3 => exact ZR HR102_0.out);(case side4 => exact HC102_0.out);rintro e w' ⟨rfl,⟨nd,rfl⟩⟩;(try first|exact ⟨rfl,_,World.drewN_drewN _ _ _⟩|exact ⟨rfl,_,Eq.trans (World.drewN_drewN _ _ _) (congrArg (World.drewN _) (Nat.add_assoc _ _ _))⟩)));try go_wp2_with (first|(go_at_call 13;(with_reducible refine (laws_sameInts.calls k1 _ _ (rd_L2 l0 x13_1) _ _ (rd_L2 l1 x13_1) true _ ?side1 ?side2 ?side3 ?side4 A8.out).mono ?_);(case side1 => exact ZR HR101_0.out);(case side2 => exact HC101_0.out);(case side3 => exact ZR HR102_0.out);(case side4 => exact HC102_0.out);rintro e w' ⟨rfl,⟨nd,rfl⟩⟩;(try first|exact ⟨rfl,_,World.drewN_drewN _ _ _⟩|exact ⟨rfl,_,Eq.trans (World.drewN_drewN _ _ _) (congrArg (World.drewN _) (Nat.add_assoc _ _ _))⟩))))
   go_roundg k1
   case measure => have := HK1.out;omega
   case rel => exact ⟨(wrap64 (x13_1 + 1)),(by first|rfl|(simp;done)|(simp [*];done)),H',⟨by have := HK1.out;omega⟩,by repeat (first|exact Drawn0.refl _|apply Drawn0.step)⟩
/-! ### slices_Grow_int: function 65 -/
def slices_Grow_int.f (a1 : Int) : Option (List Int) := if 0 ≤ a1 then (if a1 < 17592186044416 then some [] else none) else none
set_option maxHeartbeats 1000000
open Go.RowKit Go.Lib Go.Proofs.YtgnijnlgbelifaaW.PrintWords Go.Proofs.YtgnijnlgbelifaaW.PrintLast Go.Proofs.YtgnijnlgbelifaaW.PrintMore Go.Proofs.YtgnijnlgbelifaaW Go.Proofs.Ytgnijnlgbelifaa.Q Go.Proofs.YtgnijnlgbelifaaW.GCall
set_option maxHeartbeats 1000000 in
set_option maxRecDepth 100000 in
theorem slices_Grow_int.calls (a1 : Int) (r : List Int) (w : World) (h : slices_Grow_int.f a1 = some r) :
  Calls Try.prog 65 #[.slice none 0 0,.int .i64 a1] w fun e w' => ∃ v0_ : Value,e = .returned v0_ ∧ Kd.R (Kd.int .i64) 3 w' w.heap.size (fun _ => True) v0_ r ∧ Below w.heap.size w w' := by
 unfold slices_Grow_int.f at h
 split at h
 ·rename_i h0
  split at h
  ·rename_i h1
   obtain rfl := Option.some.inj h
   have d0 : decide (a1 < 0) = false := decide_eq_false (by omega)
   have hw0 : wrap64 a1 = a1 := by unfold wrap64;omega
   have hw1 : IntKind.i64.wrap a1 = a1 := by rw [i64_w];exact hw0
   have HB := Aside0.mk (Below.refl w.heap.size w)
   by_cases h2 : 0 < a1;rotate_left
   ·have d1 : decide (0 < a1) = false := decide_eq_false h2
    clear h h0 h1 h2
    go_enter Try.func65,Try.ntmps65
    go_wp2
    go_ret
    exact ⟨_,rfl,Kd.R_nil _ _ _ _ _,(ZQ HB)⟩
   have d1 : decide (0 < a1) = true := decide_eq_true h2
   have H1 := Aside0.mk h1
   have H0 := Aside0.mk h0
   clear h h0 h1 h2
   go_enter Try.func65,Try.ntmps65
   go_wp2_with ((with_reducible refine gate_builtin (b := .append) (xs := #[.tmp 20,.tmp 21]) rfl ?_);at_builtin;refine Kd.R_append_zeros (Kd.int .i64) (w0 := w) w.heap.size rfl (.tmp 20) (.tmp 21) 32 3 3 (.int .i64 0) 8 rfl Try.underlying32 Try.underlying3 info3 rfl (by decide) (by omega) (.slice none 0 0) [] 0 a1 (fun _ => True) rfl rfl rfl (fun _ _ => trivial) (Kd.R_nil _ _ _ _ _) H0.out (ZQ HB) (below_size (ZQ HB)) (by have := H1.out;have := H0.out;simp;omega) ?_;intro v1 w1 ho hb hg hat;obtain ⟨g1,cap1,rfl,hc1⟩ : ∃ g1 cap1,v1 = .slice (some ⟨g1,0,none⟩) ([] ++ List.replicate a1.toNat (0 : Int)).length cap1 ∧ 0 ≤ cap1 := (by rcases GDel.R_size ho with ⟨h3,_⟩ | ⟨g1,cap1,h3,_⟩;(exfalso;have := congrArg List.length h3;have h9 := of_decide_eq_true d1;rw [← hw1] at h9;simp at this;omega);exact ⟨g1,cap1,h3,Nat.zero_le _⟩))
   go_ret
   exact ⟨_,rfl,GDel.R_cutoff ho (Nat.zero_le _),hb⟩
  cases h
 cases h


/-! ### slices_Concat_int: function 41 -/
mutual
def slices_Concat_int.l0 : Nat → List (List Int) → Int → List (List Int) → Int → Int → Option (List Int)
 | 0,_,_,_,_,_ => none
 | k + 1,x0,x3,x9,x10,x11 => if x11 < x10 then (if 0 ≤ x11 then (if x11 < (x9.length : Int) then (if (wrap64 (x3 + ((rd_L2 x9 x11).length : Int))) < 0 then (none) else (slices_Concat_int.l0 k x0 (wrap64 (x3 + ((rd_L2 x9 x11).length : Int))) x9 x10 (wrap64 (x11 + 1)))) else (none)) else (none)) else ((slices_Grow_int.f x3).bind fun t102 => (slices_Concat_int.l1 k t102 x0 (x0.length : Int) 0))
def slices_Concat_int.l1 : Nat → List Int → List (List Int) → Int → Int → Option (List Int)
 | 0,_,_,_,_ => none
 | k + 1,x6,x25,x26,x27 => if x27 < x26 then (if 0 ≤ x27 then (if x27 < (x25.length : Int) then (if x6.length + (rd_L2 x25 x27).length < 17592186044416 then (slices_Concat_int.l1 k (x6 ++ (rd_L2 x25 x27)) x25 x26 (wrap64 (x27 + 1))) else (none)) else (none)) else (none)) else (some x6)
end
def slices_Concat_int.f (k : Nat) (l0 : List (List Int)) : Option (List Int) := slices_Concat_int.l0 k l0 0 l0 (l0.length : Int) 0
theorem slices_Concat_int.mono_l : ∀ k,(∀ y0 y1 y2 y3 y4,LeO (slices_Concat_int.l0 k y0 y1 y2 y3 y4) (slices_Concat_int.l0 (k + 1) y0 y1 y2 y3 y4)) ∧ (∀ y0 y1 y2 y3,LeO (slices_Concat_int.l1 k y0 y1 y2 y3) (slices_Concat_int.l1 (k + 1) y0 y1 y2 y3))
 | 0 => ⟨fun _ _ _ _ _ r h => by simp [slices_Concat_int.l0] at h,fun _ _ _ _ r h => by simp [slices_Concat_int.l1] at h⟩
 | k + 1 => by
  obtain ⟨ih0,ih1⟩ := slices_Concat_int.mono_l k
  refine ⟨?_,?_⟩ <;> intros
  all_goals first|unfold slices_Concat_int.l0|unfold slices_Concat_int.l1
  with_reducible repeat' first|apply ih0|apply ih1|apply LeO.refl|apply LeO.none|refine LeO.ite ?_ ?_|refine LeO.bind ?_ (fun _ => ?_)
theorem slices_Concat_int.mono : ∀ a0 k,LeO (slices_Concat_int.f k a0) (slices_Concat_int.f (k + 1) a0) := by
 intro a0 k
 obtain ⟨ih0,ih1⟩ := slices_Concat_int.mono_l k
 unfold slices_Concat_int.f
 with_reducible repeat' first|apply ih0|apply ih1|apply LeO.refl|apply LeO.none|refine LeO.ite ?_ ?_|refine LeO.bind ?_ (fun _ => ?_)
set_option maxHeartbeats 3000000 in
set_option maxRecDepth 100000 in
theorem slices_Concat_int.calls (k : Nat) (A0 : Option Addr) (c0 : Nat) (l0 : List (List Int)) (r : List Int) (w : World) (hr0 : Kd.C (Kd.slice 3 (Kd.int .i64)) w A0 l0.length l0) (hc0 : l0.length ≤ c0) (h : slices_Concat_int.f k l0 = some r) :
  Calls Try.prog 41 #[.slice A0 l0.length c0] w fun e w' => ∃ v0_ : Value,e = .returned (v0_) ∧ Kd.R (Kd.int .i64) 3 w' w.heap.size (fun _ => True) v0_ r ∧ Below w.heap.size w w' := by
 have HR0 := Aside0.mk hr0
 have HC0 := Aside0.mk hc0
 clear hr0 hc0
 have HB := Aside0.mk (Below.refl w.heap.size w)
 have H : (slices_Concat_int.l0 k l0 0 l0 (l0.length : Int) 0) = some r := h
 clear h
 have H' := Aside0.mk H
 clear H
 go_enter Try.func41,Try.ntmps41
 go_wp2
 go_loopg [3,11] k (fun kq v3 v11 w' => ∃ (x3_1 : Int) (x11_1 : Int),v3 = .int .i64 x3_1 ∧ v11 = .int .i64 x11_1 ∧ Aside0 (slices_Concat_int.l0 kq l0 x3_1 l0 (l0.length : Int) x11_1 = some r) ∧ Aside0 (kq ≤ k) ∧ Aside0 (Below w.heap.size w w'))
 case atStart => exact ⟨(0),(0),(by first|rfl|(simp;done)|(simp [*];done)),(by first|rfl|(simp;done)|(simp [*];done)),H',⟨Nat.le_refl _⟩,⟨ZQ HB⟩⟩
 case round =>
  clear H'
  obtain ⟨x3_1,x11_1,rfl,rfl,HA,HK1,HB⟩ := hrel
  cases gk with
  | zero => exact absurd HA.out (by simp [slices_Concat_int.l0])
  | succ k1 =>
   have H := HA.out
   clear HA
   simp only [slices_Concat_int.l0] at H
   by_cases c2 : x11_1 < (l0.length : Int)
   ·rw [if_pos c2] at H
    have c2b0 := decide_eq_true c2
    clear c2
    by_cases c3 : 0 ≤ x11_1;rotate_left
    ·rw [if_neg c3] at H
     exact absurd H (by simp)
    rw [if_pos c3] at H
    have c3b0 : decide (0 ≤ x11_1) = true := decide_eq_true c3
    clear c3
    by_cases c4 : x11_1 < (l0.length : Int);rotate_left
    ·rw [if_neg c4] at H
     exact absurd H (by simp)
    rw [if_pos c4] at H
    have c4b0 : decide (x11_1 < (l0.length : Int)) = true := decide_eq_true c4
    clear c4
    by_cases c5 : (wrap64 (x3_1 + ((rd_L2 l0 x11_1).length : Int))) < 0
    ·rw [if_pos c5] at H
     exact absurd H (by simp)
    rw [if_neg c5] at H
    have c5b0 := decide_eq_false c5
    clear c5
    have H' := Aside0.mk H
    clear H
    have p101 : 0 ≤ (x11_1 : Int) := ZD
    have q101 : x11_1 < (l0.length : Int) := ZD
    obtain ⟨ad101,A101_0,c101_0,e101,hx101_0,hl101_0,hi101_0⟩ := at_L2 HR0.out x11_1 p101 q101
    cases e101
    replace hx101_0 := ZX HB hx101_0
    have HR101_0 := Aside0.mk hi101_0
    have HC101_0 := Aside0.mk hl101_0
    clear hi101_0 hl101_0
    replace p101 := eq_true p101
    replace q101 := eq_true q101
    go_wp2
    go_roundg k1
    case measure => have := HK1.out;omega
    case rel => exact ⟨(wrap64 (x3_1 + ((rd_L2 l0 x11_1).length : Int))),(wrap64 (x11_1 + 1)),(by first|rfl|(simp;done)|(simp [*];done)),(by first|rfl|(simp;done)|(simp [*];done)),H',⟨by have := HK1.out;omega⟩,⟨ZQ HB⟩⟩
   rw [if_neg c2] at H
   have c2b0 := decide_eq_false c2
   clear c2
   replace H := Option.bind_eq_some_iff.mp H
   obtain ⟨t102,A60,H⟩ := H
   try dsimp only at H
   have A6 := Aside0.mk A60
   clear A60
   have H' := Aside0.mk H
   clear H
   go_wp2_with (first|((with_reducible refine gate_callee (f := 65) rfl ?_);refine goesM_ (some 24) Try.func65 #[.slice none 0 0,.int .i64 x3_1] ?_;(with_reducible refine (slices_Grow_int.calls x3_1 t102 _ A6.out).mono ?_);rintro e w7 ⟨v103,rfl,ho0,hb⟩;refine ⟨_,rfl,?_⟩;have HO104 := Aside0.mk (Kd.R_lower ho0 (below_size (ZQ HB)));replace HB := Aside0.mk (below_step (ZQ HB) hb);(try clear hb);(try clear ho0)))
   go_loopg [6,27] k1 (fun kq v6 v27 w' => ∃ (x6_2 : List Int) (x27_2 : Int),v27 = .int .i64 x27_2 ∧ Aside0 (slices_Concat_int.l1 kq x6_2 l0 (l0.length : Int) x27_2 = some r) ∧ Aside0 (kq ≤ k1) ∧ Aside0 (Kd.R (Kd.int .i64) 3 w' w.heap.size (fun _ => True) v6 x6_2) ∧ Aside0 (Below w.heap.size w w'))
   case atStart => exact ⟨(t102),(0),(by first|rfl|(simp;done)|(simp [*];done)),H',⟨Nat.le_refl _⟩,⟨ZK HO104⟩,⟨ZQ HB⟩⟩
   case round =>
    clear H'
    obtain ⟨x6_2,x27_2,rfl,HA,HK2,HO_6,HB⟩ := hrel
    cases gk with
    | zero => exact absurd HA.out (by simp [slices_Concat_int.l1])
    | succ k2 =>
     have H := HA.out
     clear HA
     simp only [slices_Concat_int.l1] at H
     by_cases c8 : x27_2 < (l0.length : Int);rotate_left
     ·rw [if_neg c8] at H
      have c8b0 : decide (x27_2 < (l0.length : Int)) = false := decide_eq_false c8
      clear c8
      obtain rfl := Option.some.inj H
      go_wp2
      go_ret
      exact ⟨_,by first|rfl|(simp [*,errW_none,errW_some] <;> rfl),ZK HO_6,ZQ HB⟩

     rw [if_pos c8] at H
     have c8b0 : decide (x27_2 < (l0.length : Int)) = true := decide_eq_true c8
     clear c8
     by_cases c9 : 0 ≤ x27_2;rotate_left
     ·rw [if_neg c9] at H
      exact absurd H (by simp)
     rw [if_pos c9] at H
     have c9b0 : decide (0 ≤ x27_2) = true := decide_eq_true c9
     clear c9
     by_cases c10 : x27_2 < (l0.length : Int);rotate_left
     ·rw [if_neg c10] at H
      exact absurd H (by simp)
     rw [if_pos c10] at H
     have c10b0 : decide (x27_2 < (l0.length : Int)) = true := decide_eq_true c10
     clear c10
     by_cases c11 : x6_2.length + (rd_L2 l0 x27_2).length < 17592186044416;rotate_left
     ·rw [if_neg c11] at H
      exact absurd H (by simp)
     rw [if_pos c11] at H
     have LMc11 := Aside0.mk c11
     clear c11
     obtain ⟨y106,hy106⟩ : ∃ y_ : List Int,y_ = (x6_2 ++ (rd_L2 l0 x27_2)) := ⟨_,rfl⟩
     replace H : (slices_Concat_int.l1 k2 y106 l0 (l0.length : Int) (wrap64 (x27_2 + 1))) = some r := by first|(rw [hy106];with_reducible exact H)|(have H2_ := (Option.bind_some _ _).symm.trans H;rw [hy106];with_reducible exact H2_)|(have H2_ := (Option.bind_some _ _).symm.trans H;with_reducible exact H2_)|with_reducible exact H|(rw [hy106];exact H)|exact H
     have Ny106 := Aside0.mk hy106
     clear hy106
     have H' := Aside0.mk H
     clear H
     have p105 : 0 ≤ (x27_2 : Int) := ZD
     have q105 : x27_2 < (l0.length : Int) := ZD
     obtain ⟨ad105,A105_0,c105_0,e105,hx105_0,hl105_0,hi105_0⟩ := at_L2 HR0.out x27_2 p105 q105
     cases e105
     replace hx105_0 := ZX HB hx105_0
     have HR105_0 := Aside0.mk hi105_0
     have HC105_0 := Aside0.mk hl105_0
     clear hi105_0 hl105_0
     replace p105 := eq_true p105
     replace q105 := eq_true q105
     go_wp2_with (first|((with_reducible refine gate_builtin (b := .append) (xs := #[.tmp 31,.tmp 32]) rfl ?_);at_builtin;refine Kd.R_append_rows (Kd.int .i64) (w0 := w) w.heap.size rfl (.tmp 31) (.tmp 32) 32 3 (.int .i64 0) 8 rfl Try.underlying32 info3 rfl (by decide) (by omega) u6 x6_2 (rd_L2 l0 x27_2) _ _ _ (fun _ => True) (fun _ => False) rfl rfl ?aO ?aR (fun _ _ h => h) (fun _ h => h.elim) ?aF ?aB ?aS ?aL ?_;(case aR => exact ZR (Kd.C_below HR105_0.out HB.out));(case aB => exact (ZQ HB));(case aF => exact (fun _ _ => trivial));(case aO => exact (ZK HO_6));(case aS => exact (below_size (ZQ HB)));(case aL => have := LMc11.out;omega);intro v107 w12 ho hb hg hat;rw [← Ny106.out] at ho;replace HB := Aside0.mk (hb);have HO108 := Aside0.mk (ho);clear HO_6;clear ho hb hg hat))
     go_roundg k2
     case measure => have := HK1.out;have := HK2.out;omega
     case rel => exact ⟨(y106),(wrap64 (x27_2 + 1)),(by first|rfl|(simp;done)|(simp [*];done)),H',⟨by have := HK1.out;have := HK2.out;omega⟩,⟨ZK HO108⟩,⟨ZQ HB⟩⟩
/-! ### impl_areLessons_1: function 64 -/
def impl_areLessons_1.f (k : Nat) (l0 : List Int) (l1 : List S43) (l2 : List Int) : Option Bool := impl_allOf_int.f (fun x => if 0 ≤ x then (if x < (l1.length : Int) then impl_hasNeeds.f k (rd_T43 l1 x).f0 (rd_T43 l1 x).f1 (rd_T43 l1 x).f2 l2 else none) else none) l0
theorem impl_areLessons_1.mono : ∀ a0 a1 a2 k,LeO (impl_areLessons_1.f k a0 a1 a2) (impl_areLessons_1.f (k + 1) a0 a1 a2) := fun a0 a1 a2 k => Go.Proofs.YtgnijnlgbelifaaW.GIdx.allO_mono (fun x => LeO.ite (LeO.ite (impl_hasNeeds.mono _ _ _ _ _) (LeO.refl _)) (LeO.refl _)) a0
set_option maxHeartbeats 1000000
open Go.RowKit Go.Lib Go.Proofs.YtgnijnlgbelifaaW.PrintWords Go.Proofs.YtgnijnlgbelifaaW.PrintLast Go.Proofs.YtgnijnlgbelifaaW.PrintMore Go.Proofs.YtgnijnlgbelifaaW Go.Proofs.Ytgnijnlgbelifaa.Q Go.Proofs.YtgnijnlgbelifaaW.GCall
set_option maxHeartbeats 1000000 in
set_option maxRecDepth 100000 in
theorem impl_areLessons_1.calls (k : Nat) (A0 : Option Addr) (c0 : Nat) (l0 : List Int) (A1 : Option Addr) (c1 : Nat) (l1 : List S43) (A2 : Option Addr) (c2 : Nat) (l2 : List Int) (r : Bool) {gb gb2 : Nat} (w : World) (hr0 : Kd.C (Kd.int .i64) w A0 l0.length l0) (hc0 : l0.length ≤ c0) (hr1 : Kd.C k43 w A1 l1.length l1) (hc1 : l1.length ≤ c1) (hr2 : Kd.C (Kd.int .i64) w A2 l2.length l2) (hc2 : l2.length ≤ c2) (hbx : w.cell? ⟨gb,0,none⟩ = some (.slice A1 l1.length c1)) (hbx2 : w.cell? ⟨gb2,0,none⟩ = some (.slice A2 l2.length c2)) (h : impl_areLessons_1.f k l0 l1 l2 = some r) :
  Calls Try.prog 49 #[.slice A0 l0.length c0,.func (.func 64) #[] #[.pointer (some ⟨gb,0,none⟩),.pointer (some ⟨gb2,0,none⟩)]] w fun e w' => e = .returned (.bool r) ∧ Below w.heap.size w w' := by
 have eg : ∀ args w,(callFunc 64 args).run Try.prog w = .ok (.enter 64 args) w := enters_of Try.func64 (by kernel_rfl) rfl
 refine impl_allOf_int.calls (fun x => if 0 ≤ x then (if x < (l1.length : Int) then impl_hasNeeds.f k (rd_T43 l1 x).f0 (rd_T43 l1 x).f1 (rd_T43 l1 x).f2 l2 else none) else none) 64 #[.pointer (some ⟨gb,0,none⟩),.pointer (some ⟨gb2,0,none⟩)] eg A0 c0 l0 r w hr0 ?_ h
 intro W x b hb hx hp
 have hlt : gb < w.heap.size := World.block_lt_of_cell? w _ hbx
 have hlt2 : gb2 < w.heap.size := World.block_lt_of_cell? w _ hbx2
 have hcA : W.cell? ⟨gb,0,none⟩ = some (.slice A1 l1.length c1) := (hb.cell (p := ⟨gb,0,none⟩) hlt).trans hbx
 have hcB : W.cell? ⟨gb2,0,none⟩ = some (.slice A2 l2.length c2) := (hb.cell (p := ⟨gb2,0,none⟩) hlt2).trans hbx2
 split at hp
 ·rename_i p101
  split at hp
  ·rename_i q101
   obtain ⟨ad101,A101_1,c101_1,e101,hx101_0,hx101_1,hx101_2,hl101_1,hi101_1⟩ := at_T43 (Kd.C_below hr1 hb) x p101 q101
   cases e101
   have hcon := fun W' (hW : Below W.heap.size W W') => (impl_hasNeeds.calls k (rd_T43 l1 x).f0 A101_1 c101_1 (rd_T43 l1 x).f1 (rd_T43 l1 x).f2 A2 c2 l2 b W' (Kd.C_below hi101_1 hW) hl101_1 (Kd.C_below (Kd.C_below hr2 hb) hW) hc2 hp).mono (fun e w' h_ => (⟨h_.1,hW.trans (h_.2.mono hW.size)⟩ : e = .returned (.bool b) ∧ Below W.heap.size W w'))
   have HC := Aside0.mk hcon
   have hu := Try.underlying43
   have p1 := eq_true p101
   have q1 := eq_true q101
   clear hcon hb hbx hbx2 hp hr0 hr1 hr2 h hi101_1
   generalize (rd_T43 l1 x).f0 = y0 at hx101_0 HC
   generalize (rd_T43 l1 x).f2 = y2 at hx101_2 HC
   generalize (rd_T43 l1 x).f1 = y1 at hx101_1 HC hl101_1
   show Calls Try.prog 64 #[.int .i64 x,.pointer (some ⟨gb,0,none⟩),.pointer (some ⟨gb2,0,none⟩)] W _
   go_enter Try.func64,Try.ntmps64
   go_wp2
   go_still_tail 5,(by kernel_rfl)
   change wpList _ _ _ _ _ W.drew
   have HBB := Aside0.mk (below_drew1 (Below.refl W.heap.size W))
   generalize W.drew = w2 at *
   go_wp2_with (go_at_call 27;refine (HC.out _ HBB.out).mono ?_;rintro e w' ⟨rfl,hb'⟩)
   go_ret
   exact ⟨rfl,hb'⟩
  cases hp
 cases hp


end Go.Proofs.Ytgnijnlgbelifaa.Q
