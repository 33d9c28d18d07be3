-- Written for the seat Ytgnijnlgbelifaa by a program of this session (wip/tool/gx.py) out of the translation. Lean checks it.
import Derived.Test.YtgnijnlgbelifaaQ0
import Derived.Test.YtgnijnlgbelifaaGPeel
import Derived.Test.YtgnijnlgbelifaaGCall
import Derived.Test.YtgnijnlgbelifaaQBSlicesCloneInt
import Derived.Test.YtgnijnlgbelifaaQBSpecLeOrder
import Derived.Test.YtgnijnlgbelifaaQImplAllWithin
import Derived.Test.YtgnijnlgbelifaaQImplAreWords
import Derived.Test.YtgnijnlgbelifaaWApart
import Derived.Test.YtgnijnlgbelifaaWFoot
import Derived.Test.YtgnijnlgbelifaaWKept
import Derived.Test.YtgnijnlgbelifaaWShare
import Derived.Test.YtgnijnlgbelifaaWN
import Derived.Test.YtgnijnlgbelifaaWRepsOne
import Derived.Test.YtgnijnlgbelifaaWGuard
namespace Go.Proofs.Ytgnijnlgbelifaa.Q
open Go.RowKit Go.Proofs.YtgnijnlgbelifaaW.PrintWords Go.Proofs.YtgnijnlgbelifaaW.PrintLast Go.Proofs.YtgnijnlgbelifaaW.PrintMore Go.Proofs.YtgnijnlgbelifaaW.GCall
attribute [local go_sem] max2_int min2_int max_two min_two max_three min_three max_four min_four   -- for this text's walks alone
set_option linter.unusedVariables false
set_option linter.unusedSimpArgs false

/-! ### impl_areLessons: function 40 -/
mutual
def impl_areLessons.j0 : Nat → List (List Int) → Bool → List (S43) → Option (Bool)
 | 0,_,_,_ => none
 | k + 1,x1,x31,x102000 => if x31 = true then (some false) else (impl_areLessons.l0 k x1 x1 (x1.length : Int) 0 x102000)
def impl_areLessons.l0 : Nat → List (List Int) → List (List Int) → Int → Int → List (S43) → Option (Bool)
 | 0,_,_,_,_,_ => none
 | k + 1,x1,x32,x33,x34,x102000 => if x34 < x33 then (if 0 ≤ x34 then (if x34 < (x32.length : Int) then (if x34 ≤ (x1.length : Int) then ((slices_Concat_int.f k (x1.take (x34 : Int).toNat)).bind fun t114 => (if ((rd_L2 x32 x34).length : Int) = 0 then (some false) else ((impl_areLessons_1.f k (rd_L2 x32 x34) x102000 t114).bind fun t118 => (if t118 = true then (impl_areLessons.l0 k x1 x32 x33 (wrap64 (x34 + 1)) x102000) else (some false))))) else (none)) else (none)) else (none)) else (some true)
end
def impl_areLessons.f (k : Nat) (l0 : List (S43)) (l1 : List (List Int)) : Option (Bool) := (slices_Concat_int.f k l1).bind fun t102 => (if (t102.length : Int) = (l0.length : Int) then ((impl_allWithin.f t102 0 (wrap64 ((l0.length : Int) - 1))).bind fun t105 => (if t105 = true then ((impl_distinct_int.f t102).bind fun t106 => (impl_areLessons.j0 k l1 ((t106.length : Int) != (t102.length : Int)) l0)) else (impl_areLessons.j0 k l1 true l0))) else (impl_areLessons.j0 k l1 true l0))
theorem impl_areLessons.mono_l : ∀ k,(∀ y0 y1 y2,LeO (impl_areLessons.j0 k y0 y1 y2) (impl_areLessons.j0 (k + 1) y0 y1 y2)) ∧ (∀ y0 y1 y2 y3 y4,LeO (impl_areLessons.l0 k y0 y1 y2 y3 y4) (impl_areLessons.l0 (k + 1) y0 y1 y2 y3 y4))
 | 0 => ⟨fun _ _ _ r h => by simp [impl_areLessons.j0] at h,fun _ _ _ _ _ r h => by simp [impl_areLessons.l0] at h⟩
 | k + 1 => by
  obtain ⟨ih0,ih1⟩ := impl_areLessons.mono_l k
  refine ⟨?_,?_⟩ <;> intros
  all_goals first|unfold impl_areLessons.j0|unfold impl_areLessons.l0
  with_reducible repeat' first|apply ih0|apply ih1|apply impl_areLessons_1.mono|apply slices_Concat_int.mono|apply LeO.refl|apply LeO.none|refine LeO.ite ?_ ?_|refine LeO.bind ?_ (fun _ => ?_)
theorem impl_areLessons.mono : ∀ a0 a1 k,LeO (impl_areLessons.f k a0 a1) (impl_areLessons.f (k + 1) a0 a1) := by
 intro a0 a1 k
 obtain ⟨ih0,ih1⟩ := impl_areLessons.mono_l k
 unfold impl_areLessons.f
 with_reducible repeat' first|apply ih0|apply ih1|apply impl_areLessons_1.mono|apply slices_Concat_int.mono|apply LeO.refl|apply LeO.none|refine LeO.ite ?_ ?_|refine LeO.bind ?_ (fun _ => ?_)
set_option maxHeartbeats 3000000 in
set_option maxRecDepth 100000 in
theorem impl_areLessons.calls (k : Nat) (A0 : Option Addr) (c0 : Nat) (l0 : List (S43)) (A1 : Option Addr) (c1 : Nat) (l1 : List (List Int)) (r : Bool) (w : World) (hr0 : Kd.C k43 w A0 l0.length l0) (hc0 : l0.length ≤ c0) (hr1 : Kd.C (Kd.slice 3 (Kd.int .i64)) w A1 l1.length l1) (hc1 : l1.length ≤ c1) (h : impl_areLessons.f k l0 l1 = some r) :
  Calls Try.prog 40 #[.slice A0 l0.length c0,.slice A1 l1.length c1] w fun e w' => e = .returned (.bool r) ∧ Below w.heap.size w w' := by
 have HR0 := Aside0.mk hr0
 have HC0 := Aside0.mk hc0
 clear hr0 hc0
 have HR1 := Aside0.mk hr1
 have HC1 := Aside0.mk hc1
 clear hr1 hc1
 have HB := Aside0.mk (Below.refl w.heap.size w)
 have H : ((slices_Concat_int.f k l1).bind fun t102 => (if (t102.length : Int) = (l0.length : Int) then ((impl_allWithin.f t102 0 (wrap64 ((l0.length : Int) - 1))).bind fun t105 => (if t105 = true then ((impl_distinct_int.f t102).bind fun t106 => (impl_areLessons.j0 k l1 ((t106.length : Int) != (t102.length : Int)) l0)) else (impl_areLessons.j0 k l1 true l0))) else (impl_areLessons.j0 k l1 true l0))) = some r := h
 clear h
 replace H := Option.bind_eq_some_iff.mp H
 obtain ⟨t102,A30,H⟩ := H
 try dsimp only at H
 have A3 := Aside0.mk A30
 clear A30
 have HC4 := Aside0.mk H
 clear H
 go_enter Try.func40,Try.ntmps40
 go_upto_region 2 with (first|((with_reducible refine gate_dst (N := 2) rfl ?_);(try (refine gate_guard (by rfl) ?_;dsimp only));refine ZE 2 #[.slice A0 l0.length c0] 24 ?_;intro gb101 hg w5 hbox hb;have BK101 := Aside0.mk (hbox);have GW101 := Aside0.mk ((by rw [hg];exact (below_size (ZQ HB)) : w.heap.size ≤ gb101));have GE101 := Aside0.mk ((by rw [hg];exact (below_size (ZQ HB)) : w.heap.size ≤ gb101));replace HB := Aside0.mk (below_step (ZQ HB) hb);clear hb hbox hg)|((with_reducible refine gate_callee (f := 41) rfl ?_);refine goesM_ (some 10) Try.func41 #[.slice A1 l1.length c1] ?_;(with_reducible refine (slices_Concat_int.calls k _ _ l1 t102 _ ?side1 ?side2 A3.out).mono ?_);(case side1 => exact ZR (Kd.C_below HR1.out HB.out));(case side2 => exact HC1.out);rintro e w6 ⟨v103,rfl,ho0,hb⟩;refine ⟨_,rfl,?_⟩;have HO104 := Aside0.mk (Kd.R_lower ho0 (below_size (ZQ HB)));replace BK101 := Aside0.mk (blk_below (ZH BK101) hb);replace HB := Aside0.mk (below_step (ZQ HB) hb);(try clear hb);(try clear ho0)))
 (try simp only [Act.put,zuA,zuB,zuC])
 go_cut [31] (fun v31 wc => ∃ (kq : Nat) (x31_3 : Bool),v31 = .bool x31_3 ∧ Aside0 (impl_areLessons.j0 kq l1 x31_3 l0 = some r) ∧ Aside0 (kq ≤ k) ∧ Aside0 (wc.heap[gb101]? = some (.cells #[(.slice A0 l0.length c0)] 24 (0,0))) ∧ Aside0 (Below w.heap.size w wc))
 case first =>
  have H := HC4.out
  clear HC4
  by_cases c7 : (t102.length : Int) = (l0.length : Int);rotate_left
  ·rw [if_neg c7] at H
   have c7b0 : ((t102.length : Int) == (l0.length : Int)) = false := beq_eq_false_iff_ne.mpr c7
   have c7b1 : ((t102.length : Int) != (l0.length : Int)) = true := bne_iff_ne.mpr c7
   have c7b2 : (t102.length == l0.length) = false := by first|simpa using c7|(simp at c7 ⊢;omega)
   (first|rw [c7b0]|rw [c7b1]|(simp only [i64_w,i32_w];rw [c7b0])|skip)
   have H' := Aside0.mk H
   clear H
   obtain ⟨Ao19,co19,eo19⟩ := Kd.R_slice HO104.out
   subst eo19
   have hcz20_0 : w6.cell? ⟨gb101,0,none⟩ = some (.slice A0 l0.length c0) := ZC BK101 0 rfl
   have hfz20_0 := blk_frozen BK101.out 0
   go_wp2
   go_meet
   case rel => exact ⟨_,(true),(by first|rfl|(simp;done)|(simp [*];done)),H',⟨by first|omega|exact Nat.le_refl _⟩,⟨ZH BK101⟩,⟨ZQ HB⟩⟩
  rw [if_pos c7] at H
  have c7b0 : ((t102.length : Int) == (l0.length : Int)) = true := beq_iff_eq.mpr c7
  have c7b1 : ((t102.length : Int) != (l0.length : Int)) = false := bne_eq_false_iff_eq.mpr c7
  have c7b2 : (t102.length == l0.length) = true := by first|simpa using c7|(simp at c7 ⊢;omega)
  clear c7
  (first|rw [c7b0]|rw [c7b1]|(simp only [i64_w,i32_w];rw [c7b0])|skip)
  replace H := Option.bind_eq_some_iff.mp H
  obtain ⟨t105,A80,H⟩ := H
  try dsimp only at H
  have A8 := Aside0.mk A80
  clear A80
  by_cases c9 : t105 = true;rotate_left
  ·replace c9 := Bool.eq_false_iff.mpr c9
   subst c9
   rw [if_neg (show ¬ (false = true) by decide)] at H
   have H' := Aside0.mk H
   clear H
   obtain ⟨Ao16,co16,eo16⟩ := Kd.R_slice HO104.out
   subst eo16
   have hcz17_0 : w6.cell? ⟨gb101,0,none⟩ = some (.slice A0 l0.length c0) := ZC BK101 0 rfl
   have hfz17_0 := blk_frozen BK101.out 0
   go_wp2_with (first|(go_at_call 35;(with_reducible refine (impl_allWithin.calls _ _ t102 0 (wrap64 ((l0.length : Int) - 1)) false _ ?side1 ?side2 A8.out).mono ?_);(case side1 => exact ZR (Kd.R_reads' HO104.out).2.2);(case side2 => exact (Kd.R_reads' HO104.out).2.1);rintro e w18 ⟨rfl,hb⟩;replace HO104 := ZBR HO104 hb;replace BK101 := Aside0.mk (blk_below (ZH BK101) hb);replace HB := Aside0.mk (below_step (ZQ HB) hb);(try clear hb)))
   go_meet
   case rel => exact ⟨_,(true),(by first|rfl|(simp;done)|(simp [*];done)),H',⟨by first|omega|exact Nat.le_refl _⟩,⟨ZH BK101⟩,⟨ZQ HB⟩⟩
  subst c9
  rw [if_pos rfl] at H
  replace H := Option.bind_eq_some_iff.mp H
  obtain ⟨t106,A100,H⟩ := H
  try dsimp only at H
  have A10 := Aside0.mk A100
  clear A100
  have H' := Aside0.mk H
  clear H
  obtain ⟨Ao11,co11,eo11⟩ := Kd.R_slice HO104.out
  subst eo11
  have hcz12_0 : w6.cell? ⟨gb101,0,none⟩ = some (.slice A0 l0.length c0) := ZC BK101 0 rfl
  have hfz12_0 := blk_frozen BK101.out 0
  go_wp2_with (first|(go_at_call 35;(with_reducible refine (impl_allWithin.calls _ _ t102 0 (wrap64 ((l0.length : Int) - 1)) true _ ?side1 ?side2 A8.out).mono ?_);(case side1 => exact ZR (Kd.R_reads' HO104.out).2.2);(case side2 => exact (Kd.R_reads' HO104.out).2.1);rintro e w13 ⟨rfl,hb⟩;replace HO104 := ZBR HO104 hb;replace BK101 := Aside0.mk (blk_below (ZH BK101) hb);replace HB := Aside0.mk (below_step (ZQ HB) hb);(try clear hb))|(go_at_call 36;(with_reducible refine (impl_distinct_int.calls _ _ t102 t106 _ ?side1 ?side2 A10.out).mono ?_);(case side1 => exact ZR (Kd.R_reads' HO104.out).2.2);(case side2 => exact (Kd.R_reads' HO104.out).2.1);rintro e w14 ⟨v107,rfl,ho0,hb⟩;have HO108 := Aside0.mk (Kd.R_lower (Kd.R_new' ho0 (Kd.R_lt (ZK HO104))) (below_size (ZQ HB)));replace HO104 := Aside0.mk (Kd.R_elder' (ZK HO104) (Kd.R_base ho0) hb);replace BK101 := Aside0.mk (blk_below (ZH BK101) hb);replace HB := Aside0.mk (below_step (ZQ HB) hb);(try clear hb);(try clear ho0);obtain ⟨Ao15,co15,eo15⟩ := Kd.R_slice HO108.out;subst eo15))
  go_meet
  case rel => exact ⟨_,(((t106.length : Int) != (t102.length : Int))),(by first|rfl|(simp;done)|(simp [*];done)),H',⟨by first|omega|exact Nat.le_refl _⟩,⟨ZH BK101⟩,⟨ZQ HB⟩⟩
 case rest =>
  clear HC4
  obtain ⟨kq,x31_3,rfl,HA,HJ3,BK101,HB⟩ := hcut
  cases kq with
  | zero => exact absurd HA.out (by simp [impl_areLessons.j0])
  | succ kj3 =>
   have H := HA.out
   clear HA
   simp only [impl_areLessons.j0] at H
   by_cases c21 : x31_3 = true
   ·subst c21
    rw [if_pos rfl] at H
    obtain rfl := Option.some.inj H
    go_wp2
    go_ret
    exact ⟨by first|rfl|(simp [*,errW_none,errW_some] <;> rfl),ZQ HB⟩
   replace c21 := Bool.eq_false_iff.mpr c21
   subst c21
   rw [if_neg (show ¬ (false = true) by decide)] at H
   have H' := Aside0.mk H
   clear H
   go_wp2
   go_loopg [34] kj3 (fun kq v34 w' => ∃ (x34_2 : Int),v34 = .int .i64 x34_2 ∧ Aside0 (impl_areLessons.l0 kq l1 l1 (l1.length : Int) x34_2 l0 = some r) ∧ Aside0 (kq ≤ kj3) ∧ Aside0 (w'.heap[gb101]? = some (.cells #[(.slice A0 l0.length c0)] 24 (0,0))) ∧ Aside0 (Below w.heap.size w w'))
   case atStart => exact ⟨(0),(by first|rfl|(simp;done)|(simp [*];done)),H',⟨Nat.le_refl _⟩,⟨ZH BK101⟩,⟨ZQ HB⟩⟩
   case round =>
    clear H'
    obtain ⟨x34_2,rfl,HA,HK2,BK101,HB⟩ := hrel
    cases gk with
    | zero => exact absurd HA.out (by simp [impl_areLessons.l0])
    | succ k2 =>
     have H := HA.out
     clear HA
     simp only [impl_areLessons.l0] at H
     by_cases c22 : x34_2 < (l1.length : Int);rotate_left
     ·rw [if_neg c22] at H
      have c22b0 : decide (x34_2 < (l1.length : Int)) = false := decide_eq_false c22
      clear c22
      obtain rfl := Option.some.inj H
      go_wp2
      go_ret
      exact ⟨by first|rfl|(simp [*,errW_none,errW_some] <;> rfl),ZQ HB⟩

     rw [if_pos c22] at H
     have c22b0 : decide (x34_2 < (l1.length : Int)) = true := decide_eq_true c22
     clear c22
     by_cases c23 : 0 ≤ x34_2;rotate_left
     ·rw [if_neg c23] at H
      exact absurd H (by simp)
     rw [if_pos c23] at H
     have c23b0 : decide (0 ≤ x34_2) = true := decide_eq_true c23
     clear c23
     by_cases c24 : x34_2 < (l1.length : Int);rotate_left
     ·rw [if_neg c24] at H
      exact absurd H (by simp)
     rw [if_pos c24] at H
     have c24b0 : decide (x34_2 < (l1.length : Int)) = true := decide_eq_true c24
     clear c24
     have c25b0 := eq_true (ZD : 0 ≤ x34_2)
     by_cases c26 : x34_2 ≤ (l1.length : Int);rotate_left
     ·rw [if_neg c26] at H
      exact absurd H (by simp)
     rw [if_pos c26] at H
     have c26b0 := eq_true c26
     have c26b1 : decide (x34_2 ≤ (l1.length : Int)) = true := decide_eq_true c26
     clear c26
     obtain ⟨y110,hy110⟩ : ∃ y_ : List (List Int),y_ = (l1.take (x34_2 : Int).toNat) := ⟨_,rfl⟩
     replace H : ((slices_Concat_int.f k2 y110).bind fun t114 => (if ((rd_L2 l1 x34_2).length : Int) = 0 then (some false) else ((impl_areLessons_1.f k2 (rd_L2 l1 x34_2) l0 t114).bind fun t118 => (if t118 = true then (impl_areLessons.l0 k2 l1 l1 (l1.length : Int) (wrap64 (x34_2 + 1)) l0) else (some false))))) = some r := by first|(rw [hy110];with_reducible exact H)|(have H2_ := (Option.bind_some _ _).symm.trans H;rw [hy110];with_reducible exact H2_)|(have H2_ := (Option.bind_some _ _).symm.trans H;with_reducible exact H2_)|with_reducible exact H|(rw [hy110];exact H)|exact H
     have Ny110 := Aside0.mk hy110
     clear hy110
     replace H := Option.bind_eq_some_iff.mp H
     obtain ⟨t114,A270,H⟩ := H
     try dsimp only at H
     have A27 := Aside0.mk A270
     clear A270
     by_cases c28 : ((rd_L2 l1 x34_2).length : Int) = 0
     ·rw [if_pos c28] at H
      have c28b0 : (((rd_L2 l1 x34_2).length : Int) == 0) = true := beq_iff_eq.mpr c28
      have c28b1 : (((rd_L2 l1 x34_2).length : Int) != 0) = false := bne_eq_false_iff_eq.mpr c28
      clear c28
      obtain rfl := Option.some.inj H
      have p109 : 0 ≤ (x34_2 : Int) := ZD
      have q109 : x34_2 < (l1.length : Int) := ZD
      obtain ⟨ad109,A109_0,c109_0,e109,hx109_0,hl109_0,hi109_0⟩ := at_L2 HR1.out x34_2 p109 q109
      cases e109
      replace hx109_0 := ZX HB hx109_0
      have HR109_0 := Aside0.mk hi109_0
      have HC109_0 := Aside0.mk hl109_0
      clear hi109_0 hl109_0
      replace p109 := eq_true p109
      replace q109 := eq_true q109
      have q29 : (x34_2 : Int) ≤ ((l1.length : Int) : Int) := ZD
      obtain ⟨i029,hi029,_,hsz29,_⟩ := info_parts info32
      have hroom29 : l1.length ≤ c1 := HC1.out
      have hC29 : Kd.C (Kd.slice 3 (Kd.int .i64)) _ (some ad109) l1.length l1 := HR1.out
      have hcut29 := cut_to (P := Try.prog) 27 32 .i64 Try.underlying27 hi029 (some ad109) l1.length c1 x34_2 ZD q29 hroom29
      have hr29 := Kd.C_take (m := (x34_2 : Int).toNat) hC29 (by omega)
      have hy29 : y110.length = (x34_2 : Int).toNat := (by rw [Ny110.out,List.length_take];omega)
      rw [← Ny110.out] at hr29
      rw [← hy29] at hcut29
      have HR113 := Aside0.mk hr29
      have HC113 := Aside0.mk (show y110.length ≤ c1 from by omega)
      clear hr29 hC29 hroom29 hi029 hsz29
      have KY29 := Aside0.mk hy29
      clear hy29
      replace q29 := eq_true q29
      go_wp2_with (first|((with_reducible refine gate_callee (f := 41) rfl ?_);refine goesM_ (some 42) Try.func41 #[.slice (some ad109) y110.length c1] ?_;(with_reducible refine (slices_Concat_int.calls k2 _ _ y110 t114 _ ?side1 ?side2 A27.out).mono ?_);(case side1 => exact ZR (Kd.C_below HR113.out HB.out));(case side2 => exact HC113.out);rintro e w30 ⟨v115,rfl,ho0,hb⟩;refine ⟨_,rfl,?_⟩;have HO116 := Aside0.mk (Kd.R_lower ho0 (below_size (ZQ HB)));replace BK101 := Aside0.mk (blk_below (ZH BK101) hb);replace HB := Aside0.mk (below_step (ZQ HB) hb);(try clear hb);(try clear ho0))|((with_reducible refine gate_dst (N := 8) rfl ?_);(try (refine gate_guard (by rfl) ?_;dsimp only));refine ZE 8 #[.slice none 0 0] 32 ?_;intro gb117 hg w31 hbox hb;replace HO116 := ZBR HO116 hb;have BK117 := Aside0.mk (hbox);have GW117 := Aside0.mk ((by rw [hg];exact (below_size (ZQ HB)) : w.heap.size ≤ gb117));have GE117 := Aside0.mk ((by rw [hg];exact (below_size (ZQ HB)) : w.heap.size ≤ gb117));replace HB := Aside0.mk (below_step (ZQ HB) hb);have NB101_117 := Aside0.mk ((by rw [hg];exact Nat.ne_of_lt (blk_lt (g := gb101) (o := .cells #[.slice A0 l0.length c0] 24 (0,0)) (ZH BK101)) : gb101 ≠ gb117));have NB117_101 := Aside0.mk ((by rw [hg];exact Nat.ne_of_gt (blk_lt (g := gb101) (o := .cells #[.slice A0 l0.length c0] 24 (0,0)) (ZH BK101)) : gb117 ≠ gb101));replace BK101 := Aside0.mk (blk_below (ZH BK101) hb);clear hb hbox hg;obtain ⟨Ao32,co32,eo32⟩ := Kd.R_slice HO116.out;subst eo32;have hnb33 := NB117_101.out;have hnc33 := NB101_117.out;have hcz34_0 : w31.cell? ⟨gb117,0,none⟩ = some (.slice none 0 0) := ZC BK117 0 rfl;have hfz34_0 := blk_frozen BK117.out 0))
      go_ret
      exact ⟨by first|rfl|(simp [*,errW_none,errW_some] <;> rfl),ZQ HB⟩
     rw [if_neg c28] at H
     have c28b0 : (((rd_L2 l1 x34_2).length : Int) == 0) = false := beq_eq_false_iff_ne.mpr c28
     have c28b1 : (((rd_L2 l1 x34_2).length : Int) != 0) = true := bne_iff_ne.mpr c28
     have c28b2 : ¬ ((rd_L2 l1 x34_2) = []) := fun h_ => c28 (by rw [h_];rfl)
     replace H := Option.bind_eq_some_iff.mp H
     obtain ⟨t118,A350,H⟩ := H
     try dsimp only at H
     have A35 := Aside0.mk A350
     clear A350
     by_cases c36 : t118 = true;rotate_left
     ·replace c36 := Bool.eq_false_iff.mpr c36
      subst c36
      rw [if_neg (show ¬ (false = true) by decide)] at H
      obtain rfl := Option.some.inj H
      have p109 : 0 ≤ (x34_2 : Int) := ZD
      have q109 : x34_2 < (l1.length : Int) := ZD
      obtain ⟨ad109,A109_0,c109_0,e109,hx109_0,hl109_0,hi109_0⟩ := at_L2 HR1.out x34_2 p109 q109
      cases e109
      replace hx109_0 := ZX HB hx109_0
      have HR109_0 := Aside0.mk hi109_0
      have HC109_0 := Aside0.mk hl109_0
      clear hi109_0 hl109_0
      replace p109 := eq_true p109
      replace q109 := eq_true q109
      have q44 : (x34_2 : Int) ≤ ((l1.length : Int) : Int) := ZD
      obtain ⟨i044,hi044,_,hsz44,_⟩ := info_parts info32
      have hroom44 : l1.length ≤ c1 := HC1.out
      have hC44 : Kd.C (Kd.slice 3 (Kd.int .i64)) _ (some ad109) l1.length l1 := HR1.out
      have hcut44 := cut_to (P := Try.prog) 27 32 .i64 Try.underlying27 hi044 (some ad109) l1.length c1 x34_2 ZD q44 hroom44
      have hr44 := Kd.C_take (m := (x34_2 : Int).toNat) hC44 (by omega)
      have hy44 : y110.length = (x34_2 : Int).toNat := (by rw [Ny110.out,List.length_take];omega)
      rw [← Ny110.out] at hr44
      rw [← hy44] at hcut44
      have HR113 := Aside0.mk hr44
      have HC113 := Aside0.mk (show y110.length ≤ c1 from by omega)
      clear hr44 hC44 hroom44 hi044 hsz44
      have KY44 := Aside0.mk hy44
      clear hy44
      replace q44 := eq_true q44
      go_wp2_with (first|((with_reducible refine gate_callee (f := 41) rfl ?_);refine goesM_ (some 42) Try.func41 #[.slice (some ad109) y110.length c1] ?_;(with_reducible refine (slices_Concat_int.calls k2 _ _ y110 t114 _ ?side1 ?side2 A27.out).mono ?_);(case side1 => exact ZR (Kd.C_below HR113.out HB.out));(case side2 => exact HC113.out);rintro e w45 ⟨v115,rfl,ho0,hb⟩;refine ⟨_,rfl,?_⟩;have HO116 := Aside0.mk (Kd.R_lower ho0 (below_size (ZQ HB)));replace BK101 := Aside0.mk (blk_below (ZH BK101) hb);replace HB := Aside0.mk (below_step (ZQ HB) hb);(try clear hb);(try clear ho0))|((with_reducible refine gate_dst (N := 8) rfl ?_);(try (refine gate_guard (by rfl) ?_;dsimp only));refine ZE 8 #[.slice none 0 0] 32 ?_;intro gb117 hg w46 hbox hb;replace HO116 := ZBR HO116 hb;have BK117 := Aside0.mk (hbox);have GW117 := Aside0.mk ((by rw [hg];exact (below_size (ZQ HB)) : w.heap.size ≤ gb117));have GE117 := Aside0.mk ((by rw [hg];exact (below_size (ZQ HB)) : w.heap.size ≤ gb117));replace HB := Aside0.mk (below_step (ZQ HB) hb);have NB101_117 := Aside0.mk ((by rw [hg];exact Nat.ne_of_lt (blk_lt (g := gb101) (o := .cells #[.slice A0 l0.length c0] 24 (0,0)) (ZH BK101)) : gb101 ≠ gb117));have NB117_101 := Aside0.mk ((by rw [hg];exact Nat.ne_of_gt (blk_lt (g := gb101) (o := .cells #[.slice A0 l0.length c0] 24 (0,0)) (ZH BK101)) : gb117 ≠ gb101));replace BK101 := Aside0.mk (blk_below (ZH BK101) hb);clear hb hbox hg;obtain ⟨Ao47,co47,eo47⟩ := Kd.R_slice HO116.out;subst eo47;have hnb48 := NB117_101.out;have hnc48 := NB101_117.out;have hcz49_0 : w46.cell? ⟨gb117,0,none⟩ = some (.slice none 0 0) := ZC BK117 0 rfl;have hfz49_0 := blk_frozen BK117.out 0)|(go_at_call 49;(with_reducible refine (impl_areLessons_1.calls k2 _ _ (rd_L2 l1 x34_2) A0 c0 l0 Ao47 co47 t114 false _ ?side1 ?side2 ?side3 ?side4 ?side5 ?side6 ?side7 ?side8 A35.out).mono ?_);(case side1 => exact Kd.C_below HR109_0.out (ZQ HB));(case side2 => exact HC109_0.out);(case side3 => exact Kd.C_below HR0.out (ZQ HB));(case side4 => exact HC0.out);(case side5 => refine (Kd.R_reads' (e := 3) (base := w.heap.size) (ok := fun k_ => True) (n := t114.length) (c := co47) ?_).2.2;exact (ZK ⟨(Kd.R_mono (Kd.R_far (p := ⟨gb117,0,none⟩) (Kd.R_types HO116.out BK117.out (by decide)) (fun _ hk => hk.2) (.slice Ao47 t114.length co47)) (fun _ h_ => h_.1))⟩));(case side6 => exact (Kd.R_reads' HO116.out).2.1);(case side7 => exact (blk_cell (cs := #[.slice A0 l0.length c0]) (t := 24) (by (with_reducible repeat (first|apply zhA|apply zhB|apply zhC));refine blk_far ?_ NB101_117.out _;(with_reducible repeat (first|apply zhA|apply zhB|apply zhC));exact BK101.out) 0).trans rfl);(case side8 => exact (blk_cell (cs := #[.slice Ao47 t114.length co47]) (t := 32) (by (with_reducible repeat (first|apply zhA|apply zhB|apply zhC));refine blk_put (cs := #[.slice none 0 0]) ?_ 0 _ rfl;(with_reducible repeat (first|apply zhA|apply zhB|apply zhC));exact BK117.out) 0).trans rfl);rintro e w50 ⟨rfl,hb⟩;replace HO116 := Aside0.mk (Kd.R_below (ZK ⟨(Kd.R_mono (Kd.R_far (p := ⟨gb117,0,none⟩) (Kd.R_types HO116.out BK117.out (by decide)) (fun _ hk => hk.2) (.slice Ao47 t114.length co47)) (fun _ h_ => h_.1))⟩) hb);replace BK101 := Aside0.mk (blk_below (g := gb101) (o := .cells #[.slice A0 l0.length c0] 24 (0,0)) (by (with_reducible repeat (first|apply zhA|apply zhB|apply zhC));refine blk_far ?_ NB101_117.out _;(with_reducible repeat (first|apply zhA|apply zhB|apply zhC));exact BK101.out) hb);replace BK117 := Aside0.mk (blk_below (g := gb117) (o := .cells #[.slice Ao47 t114.length co47] 32 (0,0)) (by (with_reducible repeat (first|apply zhA|apply zhB|apply zhC));refine blk_put (cs := #[.slice none 0 0]) ?_ 0 _ rfl;(with_reducible repeat (first|apply zhA|apply zhB|apply zhC));exact BK117.out) hb);replace HB := Aside0.mk (below_step (ZQ HB) hb);(try clear hb)))
      go_ret
      exact ⟨by first|rfl|(simp [*,errW_none,errW_some] <;> rfl),ZQ HB⟩
     subst c36
     rw [if_pos rfl] at H
     have H' := Aside0.mk H
     clear H
     have p109 : 0 ≤ (x34_2 : Int) := ZD
     have q109 : x34_2 < (l1.length : Int) := ZD
     obtain ⟨ad109,A109_0,c109_0,e109,hx109_0,hl109_0,hi109_0⟩ := at_L2 HR1.out x34_2 p109 q109
     cases e109
     replace hx109_0 := ZX HB hx109_0
     have HR109_0 := Aside0.mk hi109_0
     have HC109_0 := Aside0.mk hl109_0
     clear hi109_0 hl109_0
     replace p109 := eq_true p109
     replace q109 := eq_true q109
     have q37 : (x34_2 : Int) ≤ ((l1.length : Int) : Int) := ZD
     obtain ⟨i037,hi037,_,hsz37,_⟩ := info_parts info32
     have hroom37 : l1.length ≤ c1 := HC1.out
     have hC37 : Kd.C (Kd.slice 3 (Kd.int .i64)) _ (some ad109) l1.length l1 := HR1.out
     have hcut37 := cut_to (P := Try.prog) 27 32 .i64 Try.underlying27 hi037 (some ad109) l1.length c1 x34_2 ZD q37 hroom37
     have hr37 := Kd.C_take (m := (x34_2 : Int).toNat) hC37 (by omega)
     have hy37 : y110.length = (x34_2 : Int).toNat := (by rw [Ny110.out,List.length_take];omega)
     rw [← Ny110.out] at hr37
     rw [← hy37] at hcut37
     have HR113 := Aside0.mk hr37
     have HC113 := Aside0.mk (show y110.length ≤ c1 from by omega)
     clear hr37 hC37 hroom37 hi037 hsz37
     have KY37 := Aside0.mk hy37
     clear hy37
     replace q37 := eq_true q37
     go_wp2_with (first|((with_reducible refine gate_callee (f := 41) rfl ?_);refine goesM_ (some 42) Try.func41 #[.slice (some ad109) y110.length c1] ?_;(with_reducible refine (slices_Concat_int.calls k2 _ _ y110 t114 _ ?side1 ?side2 A27.out).mono ?_);(case side1 => exact ZR (Kd.C_below HR113.out HB.out));(case side2 => exact HC113.out);rintro e w38 ⟨v115,rfl,ho0,hb⟩;refine ⟨_,rfl,?_⟩;have HO116 := Aside0.mk (Kd.R_lower ho0 (below_size (ZQ HB)));replace BK101 := Aside0.mk (blk_below (ZH BK101) hb);replace HB := Aside0.mk (below_step (ZQ HB) hb);(try clear hb);(try clear ho0))|((with_reducible refine gate_dst (N := 8) rfl ?_);(try (refine gate_guard (by rfl) ?_;dsimp only));refine ZE 8 #[.slice none 0 0] 32 ?_;intro gb117 hg w39 hbox hb;replace HO116 := ZBR HO116 hb;have BK117 := Aside0.mk (hbox);have GW117 := Aside0.mk ((by rw [hg];exact (below_size (ZQ HB)) : w.heap.size ≤ gb117));have GE117 := Aside0.mk ((by rw [hg];exact (below_size (ZQ HB)) : w.heap.size ≤ gb117));replace HB := Aside0.mk (below_step (ZQ HB) hb);have NB101_117 := Aside0.mk ((by rw [hg];exact Nat.ne_of_lt (blk_lt (g := gb101) (o := .cells #[.slice A0 l0.length c0] 24 (0,0)) (ZH BK101)) : gb101 ≠ gb117));have NB117_101 := Aside0.mk ((by rw [hg];exact Nat.ne_of_gt (blk_lt (g := gb101) (o := .cells #[.slice A0 l0.length c0] 24 (0,0)) (ZH BK101)) : gb117 ≠ gb101));replace BK101 := Aside0.mk (blk_below (ZH BK101) hb);clear hb hbox hg;obtain ⟨Ao40,co40,eo40⟩ := Kd.R_slice HO116.out;subst eo40;have hnb41 := NB117_101.out;have hnc41 := NB101_117.out;have hcz42_0 : w39.cell? ⟨gb117,0,none⟩ = some (.slice none 0 0) := ZC BK117 0 rfl;have hfz42_0 := blk_frozen BK117.out 0)|(go_at_call 49;(with_reducible refine (impl_areLessons_1.calls k2 _ _ (rd_L2 l1 x34_2) A0 c0 l0 Ao40 co40 t114 true _ ?side1 ?side2 ?side3 ?side4 ?side5 ?side6 ?side7 ?side8 A35.out).mono ?_);(case side1 => exact Kd.C_below HR109_0.out (ZQ HB));(case side2 => exact HC109_0.out);(case side3 => exact Kd.C_below HR0.out (ZQ HB));(case side4 => exact HC0.out);(case side5 => refine (Kd.R_reads' (e := 3) (base := w.heap.size) (ok := fun k_ => True) (n := t114.length) (c := co40) ?_).2.2;exact (ZK ⟨(Kd.R_mono (Kd.R_far (p := ⟨gb117,0,none⟩) (Kd.R_types HO116.out BK117.out (by decide)) (fun _ hk => hk.2) (.slice Ao40 t114.length co40)) (fun _ h_ => h_.1))⟩));(case side6 => exact (Kd.R_reads' HO116.out).2.1);(case side7 => exact (blk_cell (cs := #[.slice A0 l0.length c0]) (t := 24) (by (with_reducible repeat (first|apply zhA|apply zhB|apply zhC));refine blk_far ?_ NB101_117.out _;(with_reducible repeat (first|apply zhA|apply zhB|apply zhC));exact BK101.out) 0).trans rfl);(case side8 => exact (blk_cell (cs := #[.slice Ao40 t114.length co40]) (t := 32) (by (with_reducible repeat (first|apply zhA|apply zhB|apply zhC));refine blk_put (cs := #[.slice none 0 0]) ?_ 0 _ rfl;(with_reducible repeat (first|apply zhA|apply zhB|apply zhC));exact BK117.out) 0).trans rfl);rintro e w43 ⟨rfl,hb⟩;replace HO116 := Aside0.mk (Kd.R_below (ZK ⟨(Kd.R_mono (Kd.R_far (p := ⟨gb117,0,none⟩) (Kd.R_types HO116.out BK117.out (by decide)) (fun _ hk => hk.2) (.slice Ao40 t114.length co40)) (fun _ h_ => h_.1))⟩) hb);replace BK101 := Aside0.mk (blk_below (g := gb101) (o := .cells #[.slice A0 l0.length c0] 24 (0,0)) (by (with_reducible repeat (first|apply zhA|apply zhB|apply zhC));refine blk_far ?_ NB101_117.out _;(with_reducible repeat (first|apply zhA|apply zhB|apply zhC));exact BK101.out) hb);replace BK117 := Aside0.mk (blk_below (g := gb117) (o := .cells #[.slice Ao40 t114.length co40] 32 (0,0)) (by (with_reducible repeat (first|apply zhA|apply zhB|apply zhC));refine blk_put (cs := #[.slice none 0 0]) ?_ 0 _ rfl;(with_reducible repeat (first|apply zhA|apply zhB|apply zhC));exact BK117.out) hb);replace HB := Aside0.mk (below_step (ZQ HB) hb);(try clear hb)))
     go_roundg k2
     case measure => have := HJ3.out;have := HK2.out;omega
     case rel => exact ⟨(wrap64 (x34_2 + 1)),(by first|rfl|(simp;done)|(simp [*];done)),H',⟨by have := HJ3.out;have := HK2.out;omega⟩,⟨ZH BK101⟩,⟨ZQ HB⟩⟩
/-! ### impl_AreLessons: function 15 -/
def impl_AreLessons.f (k : Nat) (l0 : List (S43)) (l1 : List (List Int)) : Option (Bool × Bool) := (impl_AreWords.f k l0).bind fun t101 => (if t101 = true then (if (l1.length : Int) > 16 then (some (false,false)) else ((impl_areLessons.f k l0 l1).bind fun t102 => (some (t102,true)))) else (some (false,false)))
theorem impl_AreLessons.mono : ∀ a0 a1 k,LeO (impl_AreLessons.f k a0 a1) (impl_AreLessons.f (k + 1) a0 a1) := by
 intro a0 a1 k
 unfold impl_AreLessons.f
 with_reducible repeat' first|apply impl_AreWords.mono|apply impl_areLessons.mono|apply LeO.refl|apply LeO.none|refine LeO.ite ?_ ?_|refine LeO.bind ?_ (fun _ => ?_)
set_option maxHeartbeats 3000000 in
set_option maxRecDepth 100000 in
theorem impl_AreLessons.calls (k : Nat) (A0 : Option Addr) (c0 : Nat) (l0 : List (S43)) (A1 : Option Addr) (c1 : Nat) (l1 : List (List Int)) (r1 : Bool) (r2 : Bool) (w : World) (hr0 : Kd.C k43 w A0 l0.length l0) (hc0 : l0.length ≤ c0) (hr1 : Kd.C (Kd.slice 3 (Kd.int .i64)) w A1 l1.length l1) (hc1 : l1.length ≤ c1) (h : impl_AreLessons.f k l0 l1 = some (r1,r2)) :
  Calls Try.prog 15 #[.slice A0 l0.length c0,.slice A1 l1.length c1] w fun e w' => e = .returned (.tuple #[.bool r1,.bool r2]) ∧ Below w.heap.size w w' := by
 have HR0 := Aside0.mk hr0
 have HC0 := Aside0.mk hc0
 clear hr0 hc0
 have HR1 := Aside0.mk hr1
 have HC1 := Aside0.mk hc1
 clear hr1 hc1
 have HB := Aside0.mk (Below.refl w.heap.size w)
 have H : ((impl_AreWords.f k l0).bind fun t101 => (if t101 = true then (if (l1.length : Int) > 16 then (some (false,false)) else ((impl_areLessons.f k l0 l1).bind fun t102 => (some (t102,true)))) else (some (false,false)))) = some (r1,r2) := h
 clear h
 replace H := Option.bind_eq_some_iff.mp H
 obtain ⟨t101,A30,H⟩ := H
 try dsimp only at H
 have A3 := Aside0.mk A30
 clear A30
 by_cases c4 : t101 = true;rotate_left
 ·replace c4 := Bool.eq_false_iff.mpr c4
  subst c4
  rw [if_neg (show ¬ (false = true) by decide)] at H
  simp only [Option.some.injEq,Prod.mk.injEq] at H
  obtain ⟨rfl,rfl⟩ := H
  go_enter Try.func15,Try.ntmps15
  go_wp2_with (first|((with_reducible refine gate_callee (f := 14) rfl ?_);refine goesM_ (some 7) Try.func14 #[.slice A0 l0.length c0] ?_;(with_reducible refine (impl_AreWords.calls k _ _ l0 false _ ?side1 ?side2 A3.out).mono ?_);(case side1 => exact ZR HR0.out);(case side2 => exact HC0.out);rintro e w10 ⟨rfl,hb⟩;refine ⟨_,rfl,?_⟩;replace HB := Aside0.mk (below_step (ZQ HB) hb);(try clear hb)))
  go_ret2
  exact ⟨by first|rfl|(simp [*,errW_none,errW_some] <;> rfl),ZQ HB⟩

 subst c4
 rw [if_pos rfl] at H
 by_cases c5 : (l1.length : Int) > 16
 ·rw [if_pos c5] at H
  have c5b0 : decide (16 < (l1.length : Int)) = true := decide_eq_true c5
  have c5b1 : decide (16 < l1.length) = true := decide_eq_true (by omega)
  clear c5
  simp only [Option.some.injEq,Prod.mk.injEq] at H
  obtain ⟨rfl,rfl⟩ := H
  go_enter Try.func15,Try.ntmps15
  go_wp2_with (first|((with_reducible refine gate_callee (f := 14) rfl ?_);refine goesM_ (some 7) Try.func14 #[.slice A0 l0.length c0] ?_;(with_reducible refine (impl_AreWords.calls k _ _ l0 true _ ?side1 ?side2 A3.out).mono ?_);(case side1 => exact ZR HR0.out);(case side2 => exact HC0.out);rintro e w6 ⟨rfl,hb⟩;refine ⟨_,rfl,?_⟩;replace HB := Aside0.mk (below_step (ZQ HB) hb);(try clear hb)))
  go_ret2
  exact ⟨by first|rfl|(simp [*,errW_none,errW_some] <;> rfl),ZQ HB⟩
 rw [if_neg c5] at H
 have c5b0 : decide (16 < (l1.length : Int)) = false := decide_eq_false c5
 have c5b1 : decide (16 < l1.length) = false := decide_eq_false (by omega)
 clear c5
 replace H := Option.bind_eq_some_iff.mp H
 obtain ⟨t102,A70,H⟩ := H
 try dsimp only at H
 have A7 := Aside0.mk A70
 clear A70
 simp only [Option.some.injEq,Prod.mk.injEq] at H
 obtain ⟨rfl,rfl⟩ := H
 go_enter Try.func15,Try.ntmps15
 go_wp2_with (first|((with_reducible refine gate_callee (f := 14) rfl ?_);refine goesM_ (some 7) Try.func14 #[.slice A0 l0.length c0] ?_;(with_reducible refine (impl_AreWords.calls k _ _ l0 true _ ?side1 ?side2 A3.out).mono ?_);(case side1 => exact ZR HR0.out);(case side2 => exact HC0.out);rintro e w8 ⟨rfl,hb⟩;refine ⟨_,rfl,?_⟩;replace HB := Aside0.mk (below_step (ZQ HB) hb);(try clear hb))|((with_reducible refine gate_callee (f := 40) rfl ?_);refine goesM_ (some 16) Try.func40 #[.slice A0 l0.length c0,.slice A1 l1.length c1] ?_;(with_reducible refine (impl_areLessons.calls k _ _ l0 _ _ l1 t102 _ ?side1 ?side2 ?side3 ?side4 A7.out).mono ?_);(case side1 => exact ZR (Kd.C_below HR0.out HB.out));(case side2 => exact HC0.out);(case side3 => exact ZR (Kd.C_below HR1.out HB.out));(case side4 => exact HC1.out);rintro e w9 ⟨rfl,hb⟩;refine ⟨_,rfl,?_⟩;replace HB := Aside0.mk (below_step (ZQ HB) hb);(try clear hb)))
 go_ret2
 exact ⟨by first|rfl|(simp [*,errW_none,errW_some] <;> rfl),ZQ HB⟩
end Go.Proofs.Ytgnijnlgbelifaa.Q
