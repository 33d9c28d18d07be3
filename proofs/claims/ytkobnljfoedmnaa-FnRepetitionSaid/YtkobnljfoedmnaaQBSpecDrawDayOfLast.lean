-- Written for the seat Ytkobnljfoedmnaa by a program of this session (wip/tool/gx.py) out of the translation. Lean checks it.
import Derived.Test.YtkobnljfoedmnaaQ0
import Derived.Test.YtkobnljfoedmnaaGCall
import Derived.Test.YtkobnljfoedmnaaQBEq24
import Derived.Test.YtkobnljfoedmnaaQBImplAnswerCard
import Derived.Test.YtkobnljfoedmnaaWApart
import Derived.Test.YtkobnljfoedmnaaWFoot
import Derived.Test.YtkobnljfoedmnaaWKept
import Derived.Test.YtkobnljfoedmnaaWShare
import Derived.Test.YtkobnljfoedmnaaWN
import Derived.Test.YtkobnljfoedmnaaWRepsOne
namespace Go.Proofs.Ytkobnljfoedmnaa.Q
open Go.RowKit Go.Proofs.YtkobnljfoedmnaaW.PrintWords Go.Proofs.YtkobnljfoedmnaaW.PrintLast Go.Proofs.YtkobnljfoedmnaaW.PrintMore Go.Proofs.YtkobnljfoedmnaaW.GCall
attribute [local go_sem] max2_int min2_int max_two min_two max_three min_three max_four min_four   -- for this text's walks alone
set_option linter.unusedVariables false
set_option linter.unusedSimpArgs false

attribute [local go_sem high] eqA24
/-! ### spec_DrawDayOfLast: function 11 -/
def spec_DrawDayOfLast.f (k : Nat) (l0 : List Int) : Option (ByteArray × Int × Int × Int) := (spec_l1Cur_card.f k l0 0 0 (⟨#[71,79]⟩ : ByteArray)).bind fun bt103 => ((spec_l1Cur_cardDay.f l0 bt103.2.2.2.1 bt103.2.2.2.2).bind fun bt108 => (some (bt103.1,bt103.2.1,bt103.2.2.1,bt108.1)))
theorem spec_DrawDayOfLast.mono : ∀ a0 k,LeO (spec_DrawDayOfLast.f k a0) (spec_DrawDayOfLast.f (k + 1) a0) := by
 intro a0 k
 unfold spec_DrawDayOfLast.f
 repeat' first
   | (with_reducible exact spec_l1Cur_card.mono _ _ _ _ _)
   | (with_reducible exact LeO.refl _)
   | (with_reducible exact LeO.none _)
   | (with_reducible refine LeO.ite ?_ ?_)
   | (with_reducible refine LeO.bind ?_ (fun _ => ?_))
set_option maxHeartbeats 3000000 in
set_option maxRecDepth 100000 in
theorem spec_DrawDayOfLast.calls (k : Nat) (A0 : Option Addr) (c0 : Nat) (l0 : List Int) (r1 : ByteArray) (r2 : Int) (r3 : Int) (r4 : Int) (w : World) (hr0 : Kd.C (Kd.int .u8) w A0 l0.length l0) (hc0 : l0.length ≤ c0) (h : spec_DrawDayOfLast.f k l0 = some (r1,r2,r3,r4)) :
  Calls Try.prog 11 #[.slice A0 l0.length c0] w fun e w' => e = .returned (.tuple #[.agg #[.string r1,.int .i64 r2,.int .i64 r3],.int .i64 r4]) ∧ Below w.heap.size w w' := by
 have hu24 := Try.underlying24
 have hu67 := Try.underlying67
 have HR0 := Aside0.mk hr0
 have HC0 := Aside0.mk hc0
 clear hr0 hc0
 have HB := Aside0.mk (Below.refl w.heap.size w)
 have H : ((spec_l1Cur_card.f k l0 0 0 (⟨#[71,79]⟩ : ByteArray)).bind fun bt103 => ((spec_l1Cur_cardDay.f l0 bt103.2.2.2.1 bt103.2.2.2.2).bind fun bt108 => (some (bt103.1,bt103.2.1,bt103.2.2.1,bt108.1)))) = some (r1,r2,r3,r4) := h
 clear h
 replace H := Option.bind_eq_some_iff.mp H
 obtain ⟨⟨t103,t104,t105,t106,t107⟩,A20,H⟩ := H
 try dsimp only at H
 have A2 := Aside0.mk A20
 clear A20
 replace H := Option.bind_eq_some_iff.mp H
 obtain ⟨⟨t108,t109,t110⟩,A30,H⟩ := H
 try dsimp only at H
 have A3 := Aside0.mk A30
 clear A30
 simp only [Option.some.injEq,Prod.mk.injEq] at H
 obtain ⟨rfl,rfl,rfl,rfl⟩ := H
 go_enter Try.func11,Try.ntmps11
 go_wp2_with (first|((with_reducible refine gate_dst (N := 2) rfl ?_);refine box_event ?hg (N := 2) ?hd (cs := #[.string (⟨#[]⟩ : ByteArray),.int .i64 0,.int .i64 0]) (t := 24) ?hr ?_;(case hd => rfl);(case hg => rfl);(case hr => first|(go_simp;done)|(go_simp;rfl));intro gb101 hg w4 hbox hb;have n0_ := Aside0.mk (below_step (by repeat (first|exact HB.out | apply zbA | apply zbB | apply zbC)) hb);have n1_ := Aside0.mk (hbox);have n2_ := Aside0.mk ((by rw [hg];exact (below_size (by repeat (first|exact HB.out | apply zbA | apply zbB | apply zbC))) : w.heap.size ≤ gb101));have n3_ := Aside0.mk ((by rw [hg];exact (below_size (by repeat (first|exact HB.out | apply zbA | apply zbB | apply zbC))) : w.heap.size ≤ gb101));clear HB;have HB := n0_;have BK101 := n1_;have GW101 := n2_;have GE101 := n3_;clear n0_ n1_ n2_ n3_;clear hb hbox hg)|((with_reducible refine gate_dst (N := 7) rfl ?_);refine box_event ?hg (N := 7) ?hd (cs := #[.slice A0 l0.length c0,.int .i64 0,.int .u64 0]) (t := 67) ?hr ?_;(case hd => rfl);(case hg => rfl);(case hr => first|(go_simp;done)|(go_simp;rfl));intro gb102 hg w5 hbox hb;have n0_ := Aside0.mk (blk_below (g := gb101) (o := .cells #[.string (⟨#[]⟩ : ByteArray),.int .i64 0,.int .i64 0] 24 (0,0)) (by (with_reducible repeat (first|apply zhA | apply zhB | apply zhC));exact BK101.out) hb);have n1_ := Aside0.mk (below_step (by repeat (first|(with_reducible first|exact HB.out | apply zbA | apply zbB | apply zbC | refine below_set ?_ GE101.out) | exact HB.out)) hb);have n2_ := Aside0.mk ((⟨_,_,hbox,(by rw [hg];exact (below_size (by repeat (first|(with_reducible first|exact HB.out | apply zbA | apply zbB | apply zbC | refine below_set ?_ GE101.out) | exact HB.out)))),HR0.out⟩ : IsS67 w w5 gb102 l0 0 0));have n3_ := Aside0.mk ((by rw [hg];exact Nat.ne_of_lt (blk_lt (g := gb101) (o := .cells #[.string (⟨#[]⟩ : ByteArray),.int .i64 0,.int .i64 0] 24 (0,0)) (by (with_reducible repeat (first|apply zhA | apply zhB | apply zhC));exact BK101.out)) : gb101 ≠ gb102));have n4_ := Aside0.mk ((by rw [hg];exact Nat.ne_of_gt (blk_lt (g := gb101) (o := .cells #[.string (⟨#[]⟩ : ByteArray),.int .i64 0,.int .i64 0] 24 (0,0)) (by (with_reducible repeat (first|apply zhA | apply zhB | apply zhC));exact BK101.out)) : gb102 ≠ gb101));clear BK101;clear HB;have BK101 := n0_;have HB := n1_;have HI102 := n2_;have NB101_102 := n3_;have NB102_101 := n4_;clear n0_ n1_ n2_ n3_ n4_;clear hb hbox hg)|((with_reducible refine gate_callee (f := 31) rfl ?_);refine goesL_ (some 9) rfl rfl Try.func31 (by kernel_rfl) rfl #[.pointer (some ⟨gb102,0,none⟩),.string (⟨#[71,79]⟩ : ByteArray)] rfl (by (try simp only [List.map_toArray,List.map_cons,List.map_nil]);first|done | rfl | (simp only [List.length_drop,List.length_take];rfl)) ?_;(with_reducible refine (spec_l1Cur_card.calls k gb102 l0 0 0 (⟨#[71,79]⟩ : ByteArray) t103 t104 t105 t106 t107 w _ ?side1 ?side2 A2.out).mono ?_);(case side1 => repeat (first|(with_reducible first|exact HI102.out | apply zsA | apply zsB | apply zsC | apply zsD | apply zsE | apply zsF NB102_101.out) | exact HI102.out));(case side2 => repeat (first|(with_reducible first|exact HB.out | apply zbA | apply zbB | apply zbC | refine below_set ?_ (IsS67.ge HI102.out) | refine below_set ?_ GE101.out) | exact HB.out));rintro e w6 ⟨rfl,hi,hb,hk⟩;refine ⟨_,rfl,?_⟩;have n0_ := Aside0.mk (KeepBut.blk hk (g' := gb101) (o := .cells #[.string (⟨#[]⟩ : ByteArray),.int .i64 0,.int .i64 0] 24 (0,0)) (by (with_reducible repeat (first|apply zhA | apply zhB | apply zhC));exact BK101.out) NB101_102.out (by simp));have n1_ := Aside0.mk (hb);have n2_ := Aside0.mk (hi);clear BK101;clear HB;clear HI102;have BK101 := n0_;have HB := n1_;have HI102 := n2_;clear n0_ n1_ n2_;(try clear hb))|((with_reducible refine gate_callee (f := 33) rfl ?_);refine goesM_ (some 11) Try.func33 #[.pointer (some ⟨gb102,0,none⟩)] ?_;(with_reducible refine (spec_l1Cur_cardDay.calls gb102 l0 t106 t107 t108 t109 t110 w _ ?side1 ?side2 A3.out).mono ?_);(case side1 => repeat (first|(with_reducible first|exact HI102.out | apply zsA | apply zsB | apply zsC | apply zsD | apply zsE | apply zsF NB102_101.out) | exact HI102.out));(case side2 => repeat (first|(with_reducible first|exact HB.out | apply zbA | apply zbB | apply zbC | refine below_set ?_ (IsS67.ge HI102.out) | refine below_set ?_ GE101.out) | exact HB.out));rintro e w7 ⟨rfl,hi,hb,hk⟩;refine ⟨_,rfl,?_⟩;have n0_ := Aside0.mk (KeepBut.blk hk (g' := gb101) (o := .cells #[.string (⟨#[]⟩ : ByteArray),.int .i64 0,.int .i64 0] 24 (0,0)) (by (with_reducible repeat (first|apply zhA | apply zhB | apply zhC));exact BK101.out) NB101_102.out (by simp));have n1_ := Aside0.mk (hb);have n2_ := Aside0.mk (hi);clear BK101;clear HB;clear HI102;have BK101 := n0_;have HB := n1_;have HI102 := n2_;clear n0_ n1_ n2_;(try clear hb);have hnb8 := NB101_102.out;have hnc8 := NB102_101.out;have hcz9_0 : w7.cell? ⟨gb101,0,none⟩ = some (.string (⟨#[]⟩ : ByteArray)) := (blk_cell BK101.out 0).trans rfl;have hcz9_1 : w7.cell? ⟨gb101,1,none⟩ = some (.int .i64 0) := (blk_cell BK101.out 1).trans rfl;have hcz9_2 : w7.cell? ⟨gb101,2,none⟩ = some (.int .i64 0) := (blk_cell BK101.out 2).trans rfl;have hfz9_0 := blk_frozen BK101.out 0;have hfz9_1 := blk_frozen BK101.out 1;have hfz9_2 := blk_frozen BK101.out 2))
 refine bodyPost_ret (results_ct rfl _ _ gb101 24 #[.string t103,.int .i64 t104,.int .i64 t105] (0,0) _ rfl (by (with_reducible repeat (first|apply zhA | apply zhB | apply zhC));refine blk_put (cs := #[.string t103,.int .i64 t104,.int .i64 0]) ?_ 2 _ rfl;(with_reducible repeat (first|apply zhA | apply zhB | apply zhC));refine blk_put (cs := #[.string t103,.int .i64 0,.int .i64 0]) ?_ 1 _ rfl;(with_reducible repeat (first|apply zhA | apply zhB | apply zhC));refine blk_put (cs := #[.string (⟨#[]⟩ : ByteArray),.int .i64 0,.int .i64 0]) ?_ 0 _ rfl;(with_reducible repeat (first|apply zhA | apply zhB | apply zhC));exact BK101.out) Try.underlying24 rfl (by kernel_rfl)) rfl ?_
 exact ⟨by first|rfl | (simp [*,errW_none,errW_some] <;> rfl),by repeat (first|(with_reducible first|exact HB.out | apply zbA | apply zbB | apply zbC | refine below_set ?_ (IsS67.ge HI102.out) | refine below_set ?_ GE101.out) | exact HB.out)⟩

/-! ### impl_DayOfLast: function 12 -/
mutual
def impl_DayOfLast.j0 : Nat → Int → Bool → ByteArray → Int → Int → Option (Int × Bool)
 | 0,_,_,_,_,_ => none
 | k + 1,x1,x15,x102000,x102001,x102002 => if x15 = true then (some (0,false)) else (impl_DayOfLast.l0 k x1 x102002 x102001)
def impl_DayOfLast.l0 : Nat → Int → Int → Int → Option (Int × Bool)
 | 0,_,_,_ => none
 | k + 1,x1,x6,x7 => if x7 < 5 then ((impl_daysFor.f (wrap64 (x7 + 1))).bind fun t104 => (impl_DayOfLast.l0 k (mx x1 x6) (wrap64 ((mx x1 x6) + t104)) (wrap64 (x7 + 1)))) else ((impl_isFrame.f x1).bind fun t105 => (if t105 = true then (some (x1,true)) else (some (0,false))))
end
def impl_DayOfLast.f (k : Nat) (a0_0 : ByteArray) (a0_1 : Int) (a0_2 : Int) (a1 : Int) : Option (Int × Bool) := (impl_isCard.f k a0_0 a0_1 a0_2).bind fun t102 => (if t102 = true then ((impl_isFrame.f a1).bind fun t103 => (impl_DayOfLast.j0 k a1 (!t103) a0_0 a0_1 a0_2)) else (impl_DayOfLast.j0 k a1 true a0_0 a0_1 a0_2))
theorem impl_DayOfLast.mono_l : ∀ k,(∀ y0 y1 y2 y3 y4,LeO (impl_DayOfLast.j0 k y0 y1 y2 y3 y4) (impl_DayOfLast.j0 (k + 1) y0 y1 y2 y3 y4)) ∧ (∀ y0 y1 y2,LeO (impl_DayOfLast.l0 k y0 y1 y2) (impl_DayOfLast.l0 (k + 1) y0 y1 y2))
 | 0 => ⟨fun _ _ _ _ _ r h => by simp [impl_DayOfLast.j0] at h,fun _ _ _ r h => by simp [impl_DayOfLast.l0] at h⟩
 | k + 1 => by
  obtain ⟨ih0,ih1⟩ := impl_DayOfLast.mono_l k
  refine ⟨?_,?_⟩
  ·intro y0 y1 y2 y3 y4
   unfold impl_DayOfLast.j0
   repeat' first
   | (with_reducible exact ih0 _ _ _ _ _)
   | (with_reducible exact ih1 _ _ _)
   | (with_reducible exact impl_isCard.mono _ _ _ _)
   | (with_reducible exact LeO.refl _)
   | (with_reducible exact LeO.none _)
   | (with_reducible refine LeO.ite ?_ ?_)
   | (with_reducible refine LeO.bind ?_ (fun _ => ?_))
  ·intro y0 y1 y2
   unfold impl_DayOfLast.l0
   repeat' first
   | (with_reducible exact ih0 _ _ _ _ _)
   | (with_reducible exact ih1 _ _ _)
   | (with_reducible exact impl_isCard.mono _ _ _ _)
   | (with_reducible exact LeO.refl _)
   | (with_reducible exact LeO.none _)
   | (with_reducible refine LeO.ite ?_ ?_)
   | (with_reducible refine LeO.bind ?_ (fun _ => ?_))
theorem impl_DayOfLast.mono : ∀ a0 a1 a2 a3 k,LeO (impl_DayOfLast.f k a0 a1 a2 a3) (impl_DayOfLast.f (k + 1) a0 a1 a2 a3) := by
 intro a0 a1 a2 a3 k
 obtain ⟨ih0,ih1⟩ := impl_DayOfLast.mono_l k
 unfold impl_DayOfLast.f
 repeat' first
   | (with_reducible exact ih0 _ _ _ _ _)
   | (with_reducible exact ih1 _ _ _)
   | (with_reducible exact impl_isCard.mono _ _ _ _)
   | (with_reducible exact LeO.refl _)
   | (with_reducible exact LeO.none _)
   | (with_reducible refine LeO.ite ?_ ?_)
   | (with_reducible refine LeO.bind ?_ (fun _ => ?_))
set_option maxHeartbeats 3000000 in
set_option maxRecDepth 100000 in
theorem impl_DayOfLast.calls (k : Nat) (a0_0 : ByteArray) (a0_1 : Int) (a0_2 : Int) (a1 : Int) (r1 : Int) (r2 : Bool) (w : World) (h : impl_DayOfLast.f k a0_0 a0_1 a0_2 a1 = some (r1,r2)) :
  Calls Try.prog 12 #[.agg #[.string a0_0,.int .i64 a0_1,.int .i64 a0_2],.int .i64 a1] w fun e w' => e = .returned (.tuple #[.int .i64 r1,.bool r2]) ∧ Below w.heap.size w w' := by
 have hu24 := Try.underlying24
 have HB := Aside0.mk (Below.refl w.heap.size w)
 have H : ((impl_isCard.f k a0_0 a0_1 a0_2).bind fun t102 => (if t102 = true then ((impl_isFrame.f a1).bind fun t103 => (impl_DayOfLast.j0 k a1 (!t103) a0_0 a0_1 a0_2)) else (impl_DayOfLast.j0 k a1 true a0_0 a0_1 a0_2))) = some (r1,r2) := h
 clear h
 have HC3 := Aside0.mk H
 clear H
 go_enter Try.func12,Try.ntmps12
 go_upto_region 1 with (first|((with_reducible refine gate_dst (N := 2) rfl ?_);refine box_event ?hg (N := 2) ?hd (cs := #[.string a0_0,.int .i64 a0_1,.int .i64 a0_2]) (t := 24) ?hr ?_;(case hd => rfl);(case hg => rfl);(case hr => first|(go_simp;done)|(go_simp;rfl));intro gb101 hg w4 hbox hb;have n0_ := Aside0.mk (below_step (by repeat (first|exact HB.out | apply zbA | apply zbB | apply zbC)) hb);have n1_ := Aside0.mk (hbox);have n2_ := Aside0.mk ((by rw [hg];exact (below_size (by repeat (first|exact HB.out | apply zbA | apply zbB | apply zbC))) : w.heap.size ≤ gb101));have n3_ := Aside0.mk ((by rw [hg];exact (below_size (by repeat (first|exact HB.out | apply zbA | apply zbB | apply zbC))) : w.heap.size ≤ gb101));clear HB;have HB := n0_;have BK101 := n1_;have GW101 := n2_;have GE101 := n3_;clear n0_ n1_ n2_ n3_;clear hb hbox hg))
 (try simp only [Act.put,List.setIfInBounds_toArray,List.set_cons_zero,List.set_cons_succ])
 go_cut [15] (fun v15 wc => ∃ (kq : Nat) (x15_2 : Bool),v15 = .bool x15_2 ∧ Aside0 (impl_DayOfLast.j0 kq a1 x15_2 a0_0 a0_1 a0_2 = some (r1,r2)) ∧ Aside0 (kq ≤ k) ∧ Aside0 (wc.heap[gb101]? = some (.cells #[.string a0_0,.int .i64 a0_1,.int .i64 a0_2] 24 (0,0))) ∧ Aside0 (Below w.heap.size w wc))
 case first =>
  have H := HC3.out
  clear HC3
  replace H := Option.bind_eq_some_iff.mp H
  obtain ⟨t102,A50,H⟩ := H
  try dsimp only at H
  have A5 := Aside0.mk A50
  clear A50
  by_cases c6 : t102 = true
  ·subst c6
   rw [if_pos rfl] at H
   replace H := Option.bind_eq_some_iff.mp H
   obtain ⟨t103,A70,H⟩ := H
   try dsimp only at H
   have A7 := Aside0.mk A70
   clear A70
   have H' := Aside0.mk H
   clear H
   have hcz8_0 : w4.cell? ⟨gb101,0,none⟩ = some (.string a0_0) := (blk_cell BK101.out 0).trans rfl
   have hcz8_1 : w4.cell? ⟨gb101,1,none⟩ = some (.int .i64 a0_1) := (blk_cell BK101.out 1).trans rfl
   have hcz8_2 : w4.cell? ⟨gb101,2,none⟩ = some (.int .i64 a0_2) := (blk_cell BK101.out 2).trans rfl
   have hfz8_0 := blk_frozen BK101.out 0
   have hfz8_1 := blk_frozen BK101.out 1
   have hfz8_2 := blk_frozen BK101.out 2
   go_wp2_with (first|((with_reducible refine gate_callee (f := 35) rfl ?_);refine goesL_ (some 9) rfl rfl Try.func35 (by kernel_rfl) rfl #[.agg #[.string a0_0,.int .i64 a0_1,.int .i64 a0_2]] rfl (by (try simp only [List.map_toArray,List.map_cons,List.map_nil]);first|done | rfl | (simp only [List.length_drop,List.length_take];rfl)) ?_;(with_reducible refine (impl_isCard.calls k a0_0 a0_1 a0_2 true _ A5.out).mono ?_);rintro e w9 ⟨rfl,hb⟩;refine ⟨_,rfl,?_⟩;have n0_ := Aside0.mk (blk_below (g := gb101) (o := .cells #[.string a0_0,.int .i64 a0_1,.int .i64 a0_2] 24 (0,0)) (by (with_reducible repeat (first|apply zhA | apply zhB | apply zhC));exact BK101.out) hb);have n1_ := Aside0.mk (below_step (by repeat (first|(with_reducible first|exact HB.out | apply zbA | apply zbB | apply zbC | refine below_set ?_ GE101.out) | exact HB.out)) hb);clear BK101;clear HB;have BK101 := n0_;have HB := n1_;clear n0_ n1_;(try clear hb))|(go_at_call 36;(with_reducible refine (impl_isFrame.calls a1 t103 _ A7.out).mono ?_);rintro e w' ⟨rfl,⟨nd,rfl⟩⟩))
   go_meet
   case rel => exact ⟨_,(!t103),(by first|rfl | (simp;done)|(simp [*];done)),H',⟨by first|omega | exact Nat.le_refl _⟩,⟨by (with_reducible repeat (first|apply zhA | apply zhB | apply zhC));exact BK101.out⟩,⟨by repeat (first|(with_reducible first|exact HB.out | apply zbA | apply zbB | apply zbC | refine below_set ?_ GE101.out) | exact HB.out)⟩⟩
  ·replace c6 := Bool.eq_false_iff.mpr c6
   subst c6
   rw [if_neg (show ¬ (false = true) by decide)] at H
   have H' := Aside0.mk H
   clear H
   have hcz10_0 : w4.cell? ⟨gb101,0,none⟩ = some (.string a0_0) := (blk_cell BK101.out 0).trans rfl
   have hcz10_1 : w4.cell? ⟨gb101,1,none⟩ = some (.int .i64 a0_1) := (blk_cell BK101.out 1).trans rfl
   have hcz10_2 : w4.cell? ⟨gb101,2,none⟩ = some (.int .i64 a0_2) := (blk_cell BK101.out 2).trans rfl
   have hfz10_0 := blk_frozen BK101.out 0
   have hfz10_1 := blk_frozen BK101.out 1
   have hfz10_2 := blk_frozen BK101.out 2
   go_wp2_with (first|((with_reducible refine gate_callee (f := 35) rfl ?_);refine goesL_ (some 9) rfl rfl Try.func35 (by kernel_rfl) rfl #[.agg #[.string a0_0,.int .i64 a0_1,.int .i64 a0_2]] rfl (by (try simp only [List.map_toArray,List.map_cons,List.map_nil]);first|done | rfl | (simp only [List.length_drop,List.length_take];rfl)) ?_;(with_reducible refine (impl_isCard.calls k a0_0 a0_1 a0_2 false _ A5.out).mono ?_);rintro e w11 ⟨rfl,hb⟩;refine ⟨_,rfl,?_⟩;have n0_ := Aside0.mk (blk_below (g := gb101) (o := .cells #[.string a0_0,.int .i64 a0_1,.int .i64 a0_2] 24 (0,0)) (by (with_reducible repeat (first|apply zhA | apply zhB | apply zhC));exact BK101.out) hb);have n1_ := Aside0.mk (below_step (by repeat (first|(with_reducible first|exact HB.out | apply zbA | apply zbB | apply zbC | refine below_set ?_ GE101.out) | exact HB.out)) hb);clear BK101;clear HB;have BK101 := n0_;have HB := n1_;clear n0_ n1_;(try clear hb)))
   go_meet
   case rel => exact ⟨_,(true),(by first|rfl | (simp;done)|(simp [*];done)),H',⟨by first|omega | exact Nat.le_refl _⟩,⟨by (with_reducible repeat (first|apply zhA | apply zhB | apply zhC));exact BK101.out⟩,⟨by repeat (first|(with_reducible first|exact HB.out | apply zbA | apply zbB | apply zbC | refine below_set ?_ GE101.out) | exact HB.out)⟩⟩
 case rest =>
  clear HC3
  (try clear c1);(try clear p2);(try clear c3);(try clear c6);(try clear hcz10_0);(try clear hcz10_1);(try clear hcz10_2);(try clear hcz8_0);(try clear hcz8_1);(try clear hcz8_2);(try clear hfz10_0);(try clear hfz10_1);(try clear hfz10_2);(try clear hfz8_0);(try clear hfz8_1);(try clear hfz8_2)
  obtain ⟨kq,x15_2,rfl,HA,HJ2,BK101,HB⟩ := hcut
  cases kq with
  | zero => exact absurd HA.out (by simp [impl_DayOfLast.j0])
  | succ kj2 =>
   have H := HA.out
   clear HA
   simp only [impl_DayOfLast.j0] at H
   by_cases c12 : x15_2 = true
   ·subst c12
    rw [if_pos rfl] at H
    simp only [Option.some.injEq,Prod.mk.injEq] at H
    obtain ⟨rfl,rfl⟩ := H
    go_wp2
    go_ret2
    exact ⟨by first|rfl | (simp [*,errW_none,errW_some] <;> rfl),by repeat (first|(with_reducible first|exact HB.out | apply zbA | apply zbB | apply zbC | refine below_set ?_ GE101.out) | exact HB.out)⟩
   ·replace c12 := Bool.eq_false_iff.mpr c12
    subst c12
    rw [if_neg (show ¬ (false = true) by decide)] at H
    have H' := Aside0.mk H
    clear H
    have hcz13_0 : wc.cell? ⟨gb101,0,none⟩ = some (.string a0_0) := (blk_cell BK101.out 0).trans rfl
    have hcz13_1 : wc.cell? ⟨gb101,1,none⟩ = some (.int .i64 a0_1) := (blk_cell BK101.out 1).trans rfl
    have hcz13_2 : wc.cell? ⟨gb101,2,none⟩ = some (.int .i64 a0_2) := (blk_cell BK101.out 2).trans rfl
    have hfz13_0 := blk_frozen BK101.out 0
    have hfz13_1 := blk_frozen BK101.out 1
    have hfz13_2 := blk_frozen BK101.out 2
    go_wp2
    go_loopg [1,6,7] kj2 (fun kq v1 v6 v7 w' => ∃ (x1_2 : Int) (x6_2 : Int) (x7_2 : Int),v1 = .int .i64 x1_2 ∧ v6 = .int .i64 x6_2 ∧ v7 = .int .i64 x7_2 ∧ Aside0 (impl_DayOfLast.l0 kq x1_2 x6_2 x7_2 = some (r1,r2)) ∧ Aside0 (kq ≤ kj2) ∧ Aside0 (w'.heap[gb101]? = some (.cells #[.string a0_0,.int .i64 a0_1,.int .i64 a0_2] 24 (0,0))) ∧ Aside0 (Below w.heap.size w w'))
    case atStart => exact ⟨(a1),(a0_2),(a0_1),(by first|rfl | (simp;done)|(simp [*];done)),(by first|rfl | (simp;done)|(simp [*];done)),(by first|rfl | (simp;done)|(simp [*];done)),H',⟨Nat.le_refl _⟩,⟨by (with_reducible repeat (first|apply zhA | apply zhB | apply zhC));exact BK101.out⟩,⟨by repeat (first|(with_reducible first|exact HB.out | apply zbA | apply zbB | apply zbC | refine below_set ?_ GE101.out) | exact HB.out)⟩⟩
    case round =>
     clear H'
     (try clear c1);(try clear p2);(try clear c3);(try clear c6);(try clear c12);(try clear hcz10_0);(try clear hcz10_1);(try clear hcz10_2);(try clear hcz13_0);(try clear hcz13_1);(try clear hcz13_2);(try clear hcz8_0);(try clear hcz8_1);(try clear hcz8_2);(try clear hfz10_0);(try clear hfz10_1);(try clear hfz10_2);(try clear hfz13_0);(try clear hfz13_1);(try clear hfz13_2);(try clear hfz8_0);(try clear hfz8_1);(try clear hfz8_2);(try clear p2)
     obtain ⟨x1_2,x6_2,x7_2,rfl,rfl,rfl,HA,HK2,BK101,HB⟩ := hrel
     cases gk with
     | zero => exact absurd HA.out (by simp [impl_DayOfLast.l0])
     | succ k2 =>
      have H := HA.out
      clear HA
      simp only [impl_DayOfLast.l0] at H
      by_cases c14 : x7_2 < 5
      ·rw [if_pos c14] at H
       have c14b0 : decide (x7_2 < 5) = true := decide_eq_true c14
       clear c14
       obtain ⟨ji15,hji15⟩ : ∃ j_ : Int,(mx x1_2 x6_2) = j_ := ⟨_,rfl⟩
       replace H : ((impl_daysFor.f (wrap64 (x7_2 + 1))).bind fun t104 => (impl_DayOfLast.l0 k2 ji15 (wrap64 ((ji15) + t104)) (wrap64 (x7_2 + 1)))) = some (r1,r2) := by first|(rw [hji15] at H;exact H)|(simp only [hji15] at H ⊢;exact H)
       have hji15_ : (if x1_2 < x6_2 then x6_2 else x1_2) = ji15 := hji15
       replace H := Option.bind_eq_some_iff.mp H
       obtain ⟨t104,A160,H⟩ := H
       try dsimp only at H
       have A16 := Aside0.mk A160
       clear A160
       have H' := Aside0.mk H
       clear H
       go_wp2_with (first|((with_reducible refine gate_callee (f := 51) rfl ?_);refine goesM_ (some 30) Try.func51 #[.int .i64 (wrap64 (x7_2 + 1))] ?_;(with_reducible refine (impl_daysFor.calls (wrap64 (x7_2 + 1)) t104 _ A16.out).mono ?_);rintro e w' ⟨rfl,⟨nd,rfl⟩⟩;refine ⟨_,rfl,?_⟩))
       go_roundg k2
       case measure => have := HJ2.out;have := HK2.out;omega
       case rel => exact ⟨(ji15),(wrap64 ((ji15) + t104)),(wrap64 (x7_2 + 1)),(by first|rfl | (simp;done)|(simp only [← hji15] <;> (first|rfl | simp))|(simp [*];done)),(by first|rfl | (simp;done)|(simp only [← hji15] <;> (first|rfl | simp))|(simp [*];done)),(by first|rfl | (simp;done)|(simp [*];done)),H',⟨by have := HJ2.out;have := HK2.out;omega⟩,⟨by (with_reducible repeat (first|apply zhA | apply zhB | apply zhC));exact BK101.out⟩,⟨by repeat (first|(with_reducible first|exact HB.out | apply zbA | apply zbB | apply zbC | refine below_set ?_ GE101.out) | exact HB.out)⟩⟩
      ·rw [if_neg c14] at H
       have c14b0 : decide (x7_2 < 5) = false := decide_eq_false c14
       clear c14
       replace H := Option.bind_eq_some_iff.mp H
       obtain ⟨t105,A170,H⟩ := H
       try dsimp only at H
       have A17 := Aside0.mk A170
       clear A170
       by_cases c18 : t105 = true
       ·subst c18
        rw [if_pos rfl] at H
        simp only [Option.some.injEq,Prod.mk.injEq] at H
        obtain ⟨rfl,rfl⟩ := H
        go_wp2_with (first|((with_reducible refine gate_callee (f := 36) rfl ?_);refine goesM_ (some 33) Try.func36 #[.int .i64 x1_2] ?_;(with_reducible refine (impl_isFrame.calls x1_2 true _ A17.out).mono ?_);rintro e w' ⟨rfl,⟨nd,rfl⟩⟩;refine ⟨_,rfl,?_⟩))
        go_ret2
        exact ⟨by first|rfl | (simp [*,errW_none,errW_some] <;> rfl),by repeat (first|(with_reducible first|exact HB.out | apply zbA | apply zbB | apply zbC | refine below_set ?_ GE101.out) | exact HB.out)⟩
       ·replace c18 := Bool.eq_false_iff.mpr c18
        subst c18
        rw [if_neg (show ¬ (false = true) by decide)] at H
        simp only [Option.some.injEq,Prod.mk.injEq] at H
        obtain ⟨rfl,rfl⟩ := H
        go_wp2_with (first|((with_reducible refine gate_callee (f := 36) rfl ?_);refine goesM_ (some 33) Try.func36 #[.int .i64 x1_2] ?_;(with_reducible refine (impl_isFrame.calls x1_2 false _ A17.out).mono ?_);rintro e w' ⟨rfl,⟨nd,rfl⟩⟩;refine ⟨_,rfl,?_⟩))
        go_ret2
        exact ⟨by first|rfl | (simp [*,errW_none,errW_some] <;> rfl),by repeat (first|(with_reducible first|exact HB.out | apply zbA | apply zbB | apply zbC | refine below_set ?_ GE101.out) | exact HB.out)⟩

/-! ### spec_l1Most: function 52 -/
def spec_l1Most.f (a0 : Int) (a1 : Int) : Option (Int) := if a0 > a1 then (some a0) else (some a1)
set_option maxHeartbeats 3000000 in
set_option maxRecDepth 100000 in
theorem spec_l1Most.calls (a0 : Int) (a1 : Int) (r : Int) (w : World) (h : spec_l1Most.f a0 a1 = some r) :
  Calls Try.prog 52 #[.int .i64 a0,.int .i64 a1] w fun e w' => e = .returned (.int .i64 r) ∧ Drawn0 w w' := by
 have H : (if a0 > a1 then (some a0) else (some a1)) = some r := h
 clear h
 by_cases c3 : a0 > a1
 ·rw [if_pos c3] at H
  have c3b0 : decide (a1 < a0) = true := decide_eq_true c3
  clear c3
  obtain rfl := Option.some.inj H
  go_enter Try.func52,Try.ntmps52
  go_wp2
  go_ret
  exact ⟨by first|rfl | (simp;done)|(simp [*];done),by repeat (first|exact Drawn0.refl _ | apply Drawn0.step)⟩
 ·rw [if_neg c3] at H
  have c3b0 : decide (a1 < a0) = false := decide_eq_false c3
  clear c3
  obtain rfl := Option.some.inj H
  go_enter Try.func52,Try.ntmps52
  go_wp2
  go_ret
  exact ⟨by first|rfl | (simp;done)|(simp [*];done),by repeat (first|exact Drawn0.refl _ | apply Drawn0.step)⟩

/-! ### spec_DayOfLast: function 13 -/
mutual
def spec_DayOfLast.j0 : Nat → Int → Bool → ByteArray → Int → Int → Option (Int × Bool)
 | 0,_,_,_,_,_ => none
 | k + 1,x1,x13,x102000,x102001,x102002 => if x13 = true then (some (0,false)) else (spec_DayOfLast.l0 k x1 x102000 x102001 x102002)
def spec_DayOfLast.l0 : Nat → Int → ByteArray → Int → Int → Option (Int × Bool)
 | 0,_,_,_,_ => none
 | k + 1,x1,x102000,x102001,x102002 => if x102001 < 5 then ((spec_l1Most.f x1 x102002).bind fun t104 => ((spec_rpDay.f t104).bind fun t105 => (if t105 = true then (if 0 ≤ (IntKind.u64.wrap (wrap64 (x102001 + 1))) then (spec_DayOfLast.l0 k t104 x102000 (wrap64 (x102001 + 1)) (wrap64 (t104 + (shl .i64 1 (IntKind.u64.wrap (wrap64 (x102001 + 1))))))) else (none)) else (some (0,false))))) else (some (x1,true))
end
def spec_DayOfLast.f (k : Nat) (a0_0 : ByteArray) (a0_1 : Int) (a0_2 : Int) (a1 : Int) : Option (Int × Bool) := (spec_rpOne.f k a0_0 a0_1 a0_2).bind fun t102 => (if t102 = true then ((spec_rpDay.f a1).bind fun t103 => (spec_DayOfLast.j0 k a1 (!t103) a0_0 a0_1 a0_2)) else (spec_DayOfLast.j0 k a1 true a0_0 a0_1 a0_2))
theorem spec_DayOfLast.mono_l : ∀ k,(∀ y0 y1 y2 y3 y4,LeO (spec_DayOfLast.j0 k y0 y1 y2 y3 y4) (spec_DayOfLast.j0 (k + 1) y0 y1 y2 y3 y4)) ∧ (∀ y0 y1 y2 y3,LeO (spec_DayOfLast.l0 k y0 y1 y2 y3) (spec_DayOfLast.l0 (k + 1) y0 y1 y2 y3))
 | 0 => ⟨fun _ _ _ _ _ r h => by simp [spec_DayOfLast.j0] at h,fun _ _ _ _ r h => by simp [spec_DayOfLast.l0] at h⟩
 | k + 1 => by
  obtain ⟨ih0,ih1⟩ := spec_DayOfLast.mono_l k
  refine ⟨?_,?_⟩
  ·intro y0 y1 y2 y3 y4
   unfold spec_DayOfLast.j0
   repeat' first
   | (with_reducible exact ih0 _ _ _ _ _)
   | (with_reducible exact ih1 _ _ _ _)
   | (with_reducible exact spec_rpOne.mono _ _ _ _)
   | (with_reducible exact LeO.refl _)
   | (with_reducible exact LeO.none _)
   | (with_reducible refine LeO.ite ?_ ?_)
   | (with_reducible refine LeO.bind ?_ (fun _ => ?_))
  ·intro y0 y1 y2 y3
   unfold spec_DayOfLast.l0
   repeat' first
   | (with_reducible exact ih0 _ _ _ _ _)
   | (with_reducible exact ih1 _ _ _ _)
   | (with_reducible exact spec_rpOne.mono _ _ _ _)
   | (with_reducible exact LeO.refl _)
   | (with_reducible exact LeO.none _)
   | (with_reducible refine LeO.ite ?_ ?_)
   | (with_reducible refine LeO.bind ?_ (fun _ => ?_))
theorem spec_DayOfLast.mono : ∀ a0 a1 a2 a3 k,LeO (spec_DayOfLast.f k a0 a1 a2 a3) (spec_DayOfLast.f (k + 1) a0 a1 a2 a3) := by
 intro a0 a1 a2 a3 k
 obtain ⟨ih0,ih1⟩ := spec_DayOfLast.mono_l k
 unfold spec_DayOfLast.f
 repeat' first
   | (with_reducible exact ih0 _ _ _ _ _)
   | (with_reducible exact ih1 _ _ _ _)
   | (with_reducible exact spec_rpOne.mono _ _ _ _)
   | (with_reducible exact LeO.refl _)
   | (with_reducible exact LeO.none _)
   | (with_reducible refine LeO.ite ?_ ?_)
   | (with_reducible refine LeO.bind ?_ (fun _ => ?_))
set_option maxHeartbeats 3000000 in
set_option maxRecDepth 100000 in
theorem spec_DayOfLast.calls (k : Nat) (a0_0 : ByteArray) (a0_1 : Int) (a0_2 : Int) (a1 : Int) (r1 : Int) (r2 : Bool) (w : World) (h : spec_DayOfLast.f k a0_0 a0_1 a0_2 a1 = some (r1,r2)) :
  Calls Try.prog 13 #[.agg #[.string a0_0,.int .i64 a0_1,.int .i64 a0_2],.int .i64 a1] w fun e w' => e = .returned (.tuple #[.int .i64 r1,.bool r2]) ∧ Below w.heap.size w w' := by
 have hu24 := Try.underlying24
 have HB := Aside0.mk (Below.refl w.heap.size w)
 have H : ((spec_rpOne.f k a0_0 a0_1 a0_2).bind fun t102 => (if t102 = true then ((spec_rpDay.f a1).bind fun t103 => (spec_DayOfLast.j0 k a1 (!t103) a0_0 a0_1 a0_2)) else (spec_DayOfLast.j0 k a1 true a0_0 a0_1 a0_2))) = some (r1,r2) := h
 clear h
 have HC3 := Aside0.mk H
 clear H
 go_enter Try.func13,Try.ntmps13
 go_upto_region 1 with (first|((with_reducible refine gate_dst (N := 2) rfl ?_);refine box_event ?hg (N := 2) ?hd (cs := #[.string a0_0,.int .i64 a0_1,.int .i64 a0_2]) (t := 24) ?hr ?_;(case hd => rfl);(case hg => rfl);(case hr => first|(go_simp;done)|(go_simp;rfl));intro gb101 hg w4 hbox hb;have n0_ := Aside0.mk (below_step (by repeat (first|exact HB.out | apply zbA | apply zbB | apply zbC)) hb);have n1_ := Aside0.mk (hbox);have n2_ := Aside0.mk ((by rw [hg];exact (below_size (by repeat (first|exact HB.out | apply zbA | apply zbB | apply zbC))) : w.heap.size ≤ gb101));have n3_ := Aside0.mk ((by rw [hg];exact (below_size (by repeat (first|exact HB.out | apply zbA | apply zbB | apply zbC))) : w.heap.size ≤ gb101));clear HB;have HB := n0_;have BK101 := n1_;have GW101 := n2_;have GE101 := n3_;clear n0_ n1_ n2_ n3_;clear hb hbox hg))
 (try simp only [Act.put,List.setIfInBounds_toArray,List.set_cons_zero,List.set_cons_succ])
 go_cut [13] (fun v13 wc => ∃ (kq : Nat) (x13_2 : Bool),v13 = .bool x13_2 ∧ Aside0 (spec_DayOfLast.j0 kq a1 x13_2 a0_0 a0_1 a0_2 = some (r1,r2)) ∧ Aside0 (kq ≤ k) ∧ Aside0 (wc.heap[gb101]? = some (.cells #[.string a0_0,.int .i64 a0_1,.int .i64 a0_2] 24 (0,0))) ∧ Aside0 (Below w.heap.size w wc))
 case first =>
  have H := HC3.out
  clear HC3
  replace H := Option.bind_eq_some_iff.mp H
  obtain ⟨t102,A50,H⟩ := H
  try dsimp only at H
  have A5 := Aside0.mk A50
  clear A50
  by_cases c6 : t102 = true
  ·subst c6
   rw [if_pos rfl] at H
   replace H := Option.bind_eq_some_iff.mp H
   obtain ⟨t103,A70,H⟩ := H
   try dsimp only at H
   have A7 := Aside0.mk A70
   clear A70
   have H' := Aside0.mk H
   clear H
   have hcz8_0 : w4.cell? ⟨gb101,0,none⟩ = some (.string a0_0) := (blk_cell BK101.out 0).trans rfl
   have hcz8_1 : w4.cell? ⟨gb101,1,none⟩ = some (.int .i64 a0_1) := (blk_cell BK101.out 1).trans rfl
   have hcz8_2 : w4.cell? ⟨gb101,2,none⟩ = some (.int .i64 a0_2) := (blk_cell BK101.out 2).trans rfl
   have hfz8_0 := blk_frozen BK101.out 0
   have hfz8_1 := blk_frozen BK101.out 1
   have hfz8_2 := blk_frozen BK101.out 2
   go_wp2_with (first|((with_reducible refine gate_callee (f := 38) rfl ?_);refine goesL_ (some 7) rfl rfl Try.func38 (by kernel_rfl) rfl #[.agg #[.string a0_0,.int .i64 a0_1,.int .i64 a0_2]] rfl (by (try simp only [List.map_toArray,List.map_cons,List.map_nil]);first|done | rfl | (simp only [List.length_drop,List.length_take];rfl)) ?_;(with_reducible refine (spec_rpOne.calls k a0_0 a0_1 a0_2 true _ A5.out).mono ?_);rintro e w9 ⟨rfl,hb⟩;refine ⟨_,rfl,?_⟩;have n0_ := Aside0.mk (blk_below (g := gb101) (o := .cells #[.string a0_0,.int .i64 a0_1,.int .i64 a0_2] 24 (0,0)) (by (with_reducible repeat (first|apply zhA | apply zhB | apply zhC));exact BK101.out) hb);have n1_ := Aside0.mk (below_step (by repeat (first|(with_reducible first|exact HB.out | apply zbA | apply zbB | apply zbC | refine below_set ?_ GE101.out) | exact HB.out)) hb);clear BK101;clear HB;have BK101 := n0_;have HB := n1_;clear n0_ n1_;(try clear hb))|(go_at_call 39;(with_reducible refine (spec_rpDay.calls a1 t103 _ A7.out).mono ?_);rintro e w' ⟨rfl,⟨nd,rfl⟩⟩))
   go_meet
   case rel => exact ⟨_,(!t103),(by first|rfl | (simp;done)|(simp [*];done)),H',⟨by first|omega | exact Nat.le_refl _⟩,⟨by (with_reducible repeat (first|apply zhA | apply zhB | apply zhC));exact BK101.out⟩,⟨by repeat (first|(with_reducible first|exact HB.out | apply zbA | apply zbB | apply zbC | refine below_set ?_ GE101.out) | exact HB.out)⟩⟩
  ·replace c6 := Bool.eq_false_iff.mpr c6
   subst c6
   rw [if_neg (show ¬ (false = true) by decide)] at H
   have H' := Aside0.mk H
   clear H
   have hcz10_0 : w4.cell? ⟨gb101,0,none⟩ = some (.string a0_0) := (blk_cell BK101.out 0).trans rfl
   have hcz10_1 : w4.cell? ⟨gb101,1,none⟩ = some (.int .i64 a0_1) := (blk_cell BK101.out 1).trans rfl
   have hcz10_2 : w4.cell? ⟨gb101,2,none⟩ = some (.int .i64 a0_2) := (blk_cell BK101.out 2).trans rfl
   have hfz10_0 := blk_frozen BK101.out 0
   have hfz10_1 := blk_frozen BK101.out 1
   have hfz10_2 := blk_frozen BK101.out 2
   go_wp2_with (first|((with_reducible refine gate_callee (f := 38) rfl ?_);refine goesL_ (some 7) rfl rfl Try.func38 (by kernel_rfl) rfl #[.agg #[.string a0_0,.int .i64 a0_1,.int .i64 a0_2]] rfl (by (try simp only [List.map_toArray,List.map_cons,List.map_nil]);first|done | rfl | (simp only [List.length_drop,List.length_take];rfl)) ?_;(with_reducible refine (spec_rpOne.calls k a0_0 a0_1 a0_2 false _ A5.out).mono ?_);rintro e w11 ⟨rfl,hb⟩;refine ⟨_,rfl,?_⟩;have n0_ := Aside0.mk (blk_below (g := gb101) (o := .cells #[.string a0_0,.int .i64 a0_1,.int .i64 a0_2] 24 (0,0)) (by (with_reducible repeat (first|apply zhA | apply zhB | apply zhC));exact BK101.out) hb);have n1_ := Aside0.mk (below_step (by repeat (first|(with_reducible first|exact HB.out | apply zbA | apply zbB | apply zbC | refine below_set ?_ GE101.out) | exact HB.out)) hb);clear BK101;clear HB;have BK101 := n0_;have HB := n1_;clear n0_ n1_;(try clear hb)))
   go_meet
   case rel => exact ⟨_,(true),(by first|rfl | (simp;done)|(simp [*];done)),H',⟨by first|omega | exact Nat.le_refl _⟩,⟨by (with_reducible repeat (first|apply zhA | apply zhB | apply zhC));exact BK101.out⟩,⟨by repeat (first|(with_reducible first|exact HB.out | apply zbA | apply zbB | apply zbC | refine below_set ?_ GE101.out) | exact HB.out)⟩⟩
 case rest =>
  clear HC3
  (try clear c1);(try clear p2);(try clear c3);(try clear c6);(try clear hcz10_0);(try clear hcz10_1);(try clear hcz10_2);(try clear hcz8_0);(try clear hcz8_1);(try clear hcz8_2);(try clear hfz10_0);(try clear hfz10_1);(try clear hfz10_2);(try clear hfz8_0);(try clear hfz8_1);(try clear hfz8_2)
  obtain ⟨kq,x13_2,rfl,HA,HJ2,BK101,HB⟩ := hcut
  cases kq with
  | zero => exact absurd HA.out (by simp [spec_DayOfLast.j0])
  | succ kj2 =>
   have H := HA.out
   clear HA
   simp only [spec_DayOfLast.j0] at H
   by_cases c12 : x13_2 = true
   ·subst c12
    rw [if_pos rfl] at H
    simp only [Option.some.injEq,Prod.mk.injEq] at H
    obtain ⟨rfl,rfl⟩ := H
    go_wp2
    go_ret2
    exact ⟨by first|rfl | (simp [*,errW_none,errW_some] <;> rfl),by repeat (first|(with_reducible first|exact HB.out | apply zbA | apply zbB | apply zbC | refine below_set ?_ GE101.out) | exact HB.out)⟩
   ·replace c12 := Bool.eq_false_iff.mpr c12
    subst c12
    rw [if_neg (show ¬ (false = true) by decide)] at H
    have H' := Aside0.mk H
    clear H
    go_wp2
    go_loopg [1] kj2 (fun kq v1 w' => ∃ (x1_2 : Int) (x102001_2 : Int) (x102002_2 : Int),v1 = .int .i64 x1_2 ∧ Aside0 (spec_DayOfLast.l0 kq x1_2 a0_0 x102001_2 x102002_2 = some (r1,r2)) ∧ Aside0 (kq ≤ kj2) ∧ Aside0 (w'.heap[gb101]? = some (.cells #[.string a0_0,.int .i64 x102001_2,.int .i64 x102002_2] 24 (0,0))) ∧ Aside0 (Below w.heap.size w w'))
    case atStart => exact ⟨(a1),(a0_1),(a0_2),(by first|rfl | (simp;done)|(simp [*];done)),H',⟨Nat.le_refl _⟩,⟨by (with_reducible repeat (first|apply zhA | apply zhB | apply zhC));exact BK101.out⟩,⟨by repeat (first|(with_reducible first|exact HB.out | apply zbA | apply zbB | apply zbC | refine below_set ?_ GE101.out) | exact HB.out)⟩⟩
    case round =>
     clear H'
     (try clear c1);(try clear p2);(try clear c3);(try clear c6);(try clear c12);(try clear hcz10_0);(try clear hcz10_1);(try clear hcz10_2);(try clear hcz8_0);(try clear hcz8_1);(try clear hcz8_2);(try clear hfz10_0);(try clear hfz10_1);(try clear hfz10_2);(try clear hfz8_0);(try clear hfz8_1);(try clear hfz8_2);(try clear p2)
     obtain ⟨x1_2,x102001_2,x102002_2,rfl,HA,HK2,BK101,HB⟩ := hrel
     cases gk with
     | zero => exact absurd HA.out (by simp [spec_DayOfLast.l0])
     | succ k2 =>
      have H := HA.out
      clear HA
      simp only [spec_DayOfLast.l0] at H
      by_cases c13 : x102001_2 < 5
      ·rw [if_pos c13] at H
       have c13b0 : decide (x102001_2 < 5) = true := decide_eq_true c13
       clear c13
       replace H := Option.bind_eq_some_iff.mp H
       obtain ⟨t104,A140,H⟩ := H
       try dsimp only at H
       have A14 := Aside0.mk A140
       clear A140
       replace H := Option.bind_eq_some_iff.mp H
       obtain ⟨t105,A150,H⟩ := H
       try dsimp only at H
       have A15 := Aside0.mk A150
       clear A150
       by_cases c16 : t105 = true
       ·subst c16
        rw [if_pos rfl] at H
        obtain ⟨ji17,hji17⟩ : ∃ j_ : Int,(IntKind.u64.wrap (wrap64 (x102001_2 + 1))) = j_ := ⟨_,rfl⟩
        replace H : (if 0 ≤ (ji17) then (spec_DayOfLast.l0 k2 t104 a0_0 (wrap64 (x102001_2 + 1)) (wrap64 (t104 + (shl .i64 1 (ji17))))) else (none)) = some (r1,r2) := by first|(rw [hji17] at H;exact H)|(simp only [hji17] at H ⊢;exact H)
        (try rw [hji17] at A14)
        (try rw [hji17] at A15)
        by_cases c18 : 0 ≤ (ji17)
        ·rw [if_pos c18] at H
         have c18b0 := eq_true c18
         have c18b1 : decide (0 ≤ (ji17)) = true := decide_eq_true c18
         clear c18
         obtain ⟨ji19,hji19⟩ : ∃ j_ : Int,(shl .i64 1 (ji17)) = j_ := ⟨_,rfl⟩
         replace H : (spec_DayOfLast.l0 k2 t104 a0_0 (wrap64 (x102001_2 + 1)) (wrap64 (t104 + (ji19)))) = some (r1,r2) := by first|(rw [hji19] at H;exact H)|(simp only [hji19] at H ⊢;exact H)
         (try rw [hji19] at A14)
         (try rw [hji19] at A15)
         have hji19_ : (IntKind.i64.wrap (1 * 2 ^ min (ji17).toNat 64)) = ji19 := hji19
         have hji19z : (ji17) ≤ 64 → (IntKind.i64.wrap (1 * 2 ^ (ji17).toNat)) = ji19 := shl_small hji19
         have hji19u : (IntKind.i64.wrap (2 ^ min (ji17).toNat 64)) = ji19 := by have h_ := hji19_;rw [Int.one_mul] at h_;exact h_
         have hji19v : (ji17) ≤ 64 → (IntKind.i64.wrap (2 ^ (ji17).toNat)) = ji19 := fun hle_ => by have h_ := hji19z hle_;rw [Int.one_mul] at h_;exact h_
         have hji19y : (wrap64 (1 * 2 ^ min (ji17).toNat 64)) = ji19 := (i64_w _).symm.trans hji19_
         have hji19x : (ji17) ≤ 64 → (wrap64 (1 * 2 ^ (ji17).toNat)) = ji19 := fun h_ => (i64_w _).symm.trans (hji19z h_)
         have H' := Aside0.mk H
         clear H
         have hcz20_0 : wr.cell? ⟨gb101,0,none⟩ = some (.string a0_0) := (blk_cell BK101.out 0).trans rfl
         have hcz20_1 : wr.cell? ⟨gb101,1,none⟩ = some (.int .i64 x102001_2) := (blk_cell BK101.out 1).trans rfl
         have hcz20_2 : wr.cell? ⟨gb101,2,none⟩ = some (.int .i64 x102002_2) := (blk_cell BK101.out 2).trans rfl
         have hfz20_0 := blk_frozen BK101.out 0
         have hfz20_1 := blk_frozen BK101.out 1
         have hfz20_2 := blk_frozen BK101.out 2
         go_wp2_with (first|((with_reducible refine gate_callee (f := 52) rfl ?_);refine goesM_ (some 20) Try.func52 #[.int .i64 x1_2,.int .i64 x102002_2] ?_;(with_reducible refine (spec_l1Most.calls x1_2 x102002_2 t104 _ A14.out).mono ?_);rintro e w' ⟨rfl,⟨nd,rfl⟩⟩;refine ⟨_,rfl,?_⟩;(try (rw [drewN_self wr];generalize hq_ : World.drewN wr _ = wr;have n0_ : Aside0 (wr.heap[gb101]? = some (.cells #[.string a0_0,.int .i64 x102001_2,.int .i64 x102002_2] 24 (0,0))) := ⟨by rw [← hq_];exact (by (with_reducible repeat (first|apply zhA | apply zhB | apply zhC));exact BK101.out)⟩;have n1_ : Aside0 (Below w.heap.size w wr) := ⟨by rw [← hq_];exact (by repeat (first|(with_reducible first|exact HB.out | apply zbA | apply zbB | apply zbC | refine below_set ?_ GE101.out) | exact HB.out))⟩;clear BK101 HB hq_;have BK101 := n0_;have HB := n1_;clear n0_ n1_;have hczqgb101_0 : wr.cell? ⟨gb101,0,none⟩ = some (.string a0_0) := (blk_cell BK101.out 0).trans rfl;have hfzqgb101_0 := blk_frozen BK101.out 0;have hczqgb101_1 : wr.cell? ⟨gb101,1,none⟩ = some (.int .i64 x102001_2) := (blk_cell BK101.out 1).trans rfl;have hfzqgb101_1 := blk_frozen BK101.out 1;have hczqgb101_2 : wr.cell? ⟨gb101,2,none⟩ = some (.int .i64 x102002_2) := (blk_cell BK101.out 2).trans rfl;have hfzqgb101_2 := blk_frozen BK101.out 2)))|((with_reducible refine gate_callee (f := 39) rfl ?_);refine goesM_ (some 22) Try.func39 #[.int .i64 t104] ?_;(with_reducible refine (spec_rpDay.calls t104 true _ A15.out).mono ?_);rintro e w' ⟨rfl,⟨nd,rfl⟩⟩;refine ⟨_,rfl,?_⟩;(try (rw [drewN_self wr];generalize hq_ : World.drewN wr _ = wr;have n0_ : Aside0 (wr.heap[gb101]? = some (.cells #[.string a0_0,.int .i64 x102001_2,.int .i64 x102002_2] 24 (0,0))) := ⟨by rw [← hq_];exact (by (with_reducible repeat (first|apply zhA | apply zhB | apply zhC));exact BK101.out)⟩;have n1_ : Aside0 (Below w.heap.size w wr) := ⟨by rw [← hq_];exact (by repeat (first|(with_reducible first|exact HB.out | apply zbA | apply zbB | apply zbC | refine below_set ?_ GE101.out) | exact HB.out))⟩;clear BK101 HB hq_;have BK101 := n0_;have HB := n1_;clear n0_ n1_;have hczqgb101_0 : wr.cell? ⟨gb101,0,none⟩ = some (.string a0_0) := (blk_cell BK101.out 0).trans rfl;have hfzqgb101_0 := blk_frozen BK101.out 0;have hczqgb101_1 : wr.cell? ⟨gb101,1,none⟩ = some (.int .i64 x102001_2) := (blk_cell BK101.out 1).trans rfl;have hfzqgb101_1 := blk_frozen BK101.out 1;have hczqgb101_2 : wr.cell? ⟨gb101,2,none⟩ = some (.int .i64 x102002_2) := (blk_cell BK101.out 2).trans rfl;have hfzqgb101_2 := blk_frozen BK101.out 2))))
         go_roundg k2
         case measure => have := HJ2.out;have := HK2.out;omega
         case rel => exact ⟨(t104),(wrap64 (x102001_2 + 1)),(wrap64 (t104 + (ji19))),(by first|rfl | (simp;done)|(simp [*];done)),H',⟨by have := HJ2.out;have := HK2.out;omega⟩,⟨by (with_reducible repeat (first|apply zhA | apply zhB | apply zhC));refine blk_put (cs := #[.string a0_0,.int .i64 (wrap64 (x102001_2 + 1)),.int .i64 x102002_2]) ?_ 2 _ rfl;(with_reducible repeat (first|apply zhA | apply zhB | apply zhC));refine blk_put (cs := #[.string a0_0,.int .i64 x102001_2,.int .i64 x102002_2]) ?_ 1 _ rfl;(with_reducible repeat (first|apply zhA | apply zhB | apply zhC));exact BK101.out⟩,⟨by repeat (first|(with_reducible first|exact HB.out | apply zbA | apply zbB | apply zbC | refine below_set ?_ GE101.out) | exact HB.out)⟩⟩
        ·rw [if_neg c18] at H
         exact absurd H (by simp)
       ·replace c16 := Bool.eq_false_iff.mpr c16
        subst c16
        rw [if_neg (show ¬ (false = true) by decide)] at H
        simp only [Option.some.injEq,Prod.mk.injEq] at H
        obtain ⟨rfl,rfl⟩ := H
        have hcz21_0 : wr.cell? ⟨gb101,0,none⟩ = some (.string a0_0) := (blk_cell BK101.out 0).trans rfl
        have hcz21_1 : wr.cell? ⟨gb101,1,none⟩ = some (.int .i64 x102001_2) := (blk_cell BK101.out 1).trans rfl
        have hcz21_2 : wr.cell? ⟨gb101,2,none⟩ = some (.int .i64 x102002_2) := (blk_cell BK101.out 2).trans rfl
        have hfz21_0 := blk_frozen BK101.out 0
        have hfz21_1 := blk_frozen BK101.out 1
        have hfz21_2 := blk_frozen BK101.out 2
        go_wp2_with (first|((with_reducible refine gate_callee (f := 52) rfl ?_);refine goesM_ (some 20) Try.func52 #[.int .i64 x1_2,.int .i64 x102002_2] ?_;(with_reducible refine (spec_l1Most.calls x1_2 x102002_2 t104 _ A14.out).mono ?_);rintro e w' ⟨rfl,⟨nd,rfl⟩⟩;refine ⟨_,rfl,?_⟩)|((with_reducible refine gate_callee (f := 39) rfl ?_);refine goesM_ (some 22) Try.func39 #[.int .i64 t104] ?_;(with_reducible refine (spec_rpDay.calls t104 false _ A15.out).mono ?_);rintro e w' ⟨rfl,⟨nd,rfl⟩⟩;refine ⟨_,rfl,?_⟩))
        go_ret2
        exact ⟨by first|rfl | (simp [*,errW_none,errW_some] <;> rfl),by repeat (first|(with_reducible first|exact HB.out | apply zbA | apply zbB | apply zbC | refine below_set ?_ GE101.out) | exact HB.out)⟩
      ·rw [if_neg c13] at H
       have c13b0 : decide (x102001_2 < 5) = false := decide_eq_false c13
       clear c13
       simp only [Option.some.injEq,Prod.mk.injEq] at H
       obtain ⟨rfl,rfl⟩ := H
       have hcz22_0 : wr.cell? ⟨gb101,0,none⟩ = some (.string a0_0) := (blk_cell BK101.out 0).trans rfl
       have hcz22_1 : wr.cell? ⟨gb101,1,none⟩ = some (.int .i64 x102001_2) := (blk_cell BK101.out 1).trans rfl
       have hcz22_2 : wr.cell? ⟨gb101,2,none⟩ = some (.int .i64 x102002_2) := (blk_cell BK101.out 2).trans rfl
       have hfz22_0 := blk_frozen BK101.out 0
       have hfz22_1 := blk_frozen BK101.out 1
       have hfz22_2 := blk_frozen BK101.out 2
       go_wp2
       go_ret2
       exact ⟨by first|rfl | (simp [*,errW_none,errW_some] <;> rfl),by repeat (first|(with_reducible first|exact HB.out | apply zbA | apply zbB | apply zbC | refine below_set ?_ GE101.out) | exact HB.out)⟩

/-! ### laws_qCards: function 14 -/
def laws_qCards.l0 : Nat → List (S24) → List (S24) → Int → Int → Option (Bool)
 | 0,_,_,_,_ => none
 | k + 1,x0,x1,x12,x13 => if x13 < x12 then (if 0 ≤ x13 then (if x13 < (x0.length : Int) then (if x13 < (x1.length : Int) then (if (!((((rd_T24 x0 x13).f0).toList) == (((rd_T24 x1 x13).f0).toList)) || (!(((rd_T24 x0 x13).f1) == ((rd_T24 x1 x13).f1)) || (!(((rd_T24 x0 x13).f2) == ((rd_T24 x1 x13).f2))))) = true then (some false) else (laws_qCards.l0 k x0 x1 x12 (wrap64 (x13 + 1)))) else (none)) else (none)) else (none)) else (some true)
def laws_qCards.f (k : Nat) (l0 : List (S24)) (l1 : List (S24)) : Option (Bool) := if (l0.length : Int) = (l1.length : Int) then (laws_qCards.l0 k l0 l1 (l0.length : Int) 0) else (some false)
theorem laws_qCards.mono_l : ∀ k,(∀ y0 y1 y2 y3,LeO (laws_qCards.l0 k y0 y1 y2 y3) (laws_qCards.l0 (k + 1) y0 y1 y2 y3))
 | 0 => fun _ _ _ _ r h => by simp [laws_qCards.l0] at h
 | k + 1 => by
  have ih0 := laws_qCards.mono_l k
  ·intro y0 y1 y2 y3
   unfold laws_qCards.l0
   repeat' first
   | (with_reducible exact ih0 _ _ _ _)
   | (with_reducible exact LeO.refl _)
   | (with_reducible exact LeO.none _)
   | (with_reducible refine LeO.ite ?_ ?_)
   | (with_reducible refine LeO.bind ?_ (fun _ => ?_))
theorem laws_qCards.mono : ∀ a0 a1 k,LeO (laws_qCards.f k a0 a1) (laws_qCards.f (k + 1) a0 a1) := by
 intro a0 a1 k
 have ih0 := laws_qCards.mono_l k
 unfold laws_qCards.f
 repeat' first
   | (with_reducible exact ih0 _ _ _ _)
   | (with_reducible exact LeO.refl _)
   | (with_reducible exact LeO.none _)
   | (with_reducible refine LeO.ite ?_ ?_)
   | (with_reducible refine LeO.bind ?_ (fun _ => ?_))
set_option maxHeartbeats 3000000 in
set_option maxRecDepth 100000 in
theorem laws_qCards.calls (k : Nat) (A0 : Option Addr) (c0 : Nat) (l0 : List (S24)) (A1 : Option Addr) (c1 : Nat) (l1 : List (S24)) (r : Bool) (w : World) (hr0 : Kd.C k24 w A0 l0.length l0) (hc0 : l0.length ≤ c0) (hr1 : Kd.C k24 w A1 l1.length l1) (hc1 : l1.length ≤ c1) (h : laws_qCards.f k l0 l1 = some r) :
  Calls Try.prog 14 #[.slice A0 l0.length c0,.slice A1 l1.length c1] w fun e w' => e = .returned (.bool r) ∧ Drawn0 w w' := by
 have hu24 := Try.underlying24
 have HR0 := Aside0.mk hr0
 have HC0 := Aside0.mk hc0
 clear hr0 hc0
 have HR1 := Aside0.mk hr1
 have HC1 := Aside0.mk hc1
 clear hr1 hc1
 have H : (if (l0.length : Int) = (l1.length : Int) then (laws_qCards.l0 k l0 l1 (l0.length : Int) 0) else (some false)) = some r := h
 clear h
 by_cases c3 : (l0.length : Int) = (l1.length : Int)
 ·rw [if_pos c3] at H
  have c3b0 : ((l0.length : Int) == (l1.length : Int)) = true := beq_iff_eq.mpr c3
  have c3b1 : ((l0.length : Int) != (l1.length : Int)) = false := bne_eq_false_iff_eq.mpr c3
  have c3b2 : (l0.length == l1.length) = true := by first|simpa using c3 | (simp at c3 ⊢;omega)
  clear c3
  have H' := Aside0.mk H
  clear H
  go_enter Try.func14,Try.ntmps14
  go_wp2
  repeat (go_quiet (fail);try go_wp2)
  go_loopg [13] k (fun kq v13 w' => ∃ (x13_1 : Int),v13 = .int .i64 x13_1 ∧ Aside0 (laws_qCards.l0 kq l0 l1 (l0.length : Int) x13_1 = some r) ∧ Aside0 (kq ≤ k) ∧ Drawn0 w w')
  case atStart => exact ⟨(0),(by first|rfl | (simp;done)|(simp [*];done)),H',⟨Nat.le_refl _⟩,by repeat (first|exact Drawn0.refl _ | apply Drawn0.step)⟩
  case round =>
   clear H'
   (try clear c1);(try clear p2);(try clear c3);(try clear c3b0);(try clear c3b1);(try clear c3b2)
   obtain ⟨x13_1,rfl,HA,HK1,⟨m1,rfl⟩⟩ := hrel
   cases gk with
   | zero => exact absurd HA.out (by simp [laws_qCards.l0])
   | succ k1 =>
    have H := HA.out
    clear HA
    simp only [laws_qCards.l0] at H
    by_cases c4 : x13_1 < (l0.length : Int)
    ·rw [if_pos c4] at H
     have c4b0 : decide (x13_1 < (l0.length : Int)) = true := decide_eq_true c4
     clear c4
     by_cases c5 : 0 ≤ x13_1
     ·rw [if_pos c5] at H
      have c5b0 : decide (0 ≤ x13_1) = true := decide_eq_true c5
      clear c5
      by_cases c6 : x13_1 < (l0.length : Int)
      ·rw [if_pos c6] at H
       have c6b0 : decide (x13_1 < (l0.length : Int)) = true := decide_eq_true c6
       clear c6
       by_cases c7 : x13_1 < (l1.length : Int)
       ·rw [if_pos c7] at H
        have c7b0 : decide (x13_1 < (l1.length : Int)) = true := decide_eq_true c7
        clear c7
        by_cases c8 : (!((((rd_T24 l0 x13_1).f0).toList) == (((rd_T24 l1 x13_1).f0).toList)) || (!(((rd_T24 l0 x13_1).f1) == ((rd_T24 l1 x13_1).f1)) || (!(((rd_T24 l0 x13_1).f2) == ((rd_T24 l1 x13_1).f2))))) = true
        ·rw [if_pos c8] at H
         have c8b0 : (!((((rd_T24 l0 x13_1).f0).toList) == (((rd_T24 l1 x13_1).f0).toList)) || (!(((rd_T24 l0 x13_1).f1) == ((rd_T24 l1 x13_1).f1)) || (!(((rd_T24 l0 x13_1).f2) == ((rd_T24 l1 x13_1).f2))))) = true := c8
         clear c8
         obtain rfl := Option.some.inj H
         have p101 : 0 ≤ (x13_1 : Int) := of_decide_eq_true (by assumption)
         have q101 : x13_1 < (l0.length : Int) := of_decide_eq_true (by assumption)
         obtain ⟨ad101,e101,hx101_0,hx101_1,hx101_2⟩ := at_T24 HR0.out x13_1 p101 q101
         cases e101
         replace p101 := eq_true p101
         replace q101 := eq_true q101
         have p102 : 0 ≤ (x13_1 : Int) := of_decide_eq_true (by assumption)
         have q102 : x13_1 < (l1.length : Int) := of_decide_eq_true (by assumption)
         obtain ⟨ad102,e102,hx102_0,hx102_1,hx102_2⟩ := at_T24 HR1.out x13_1 p102 q102
         cases e102
         replace p102 := eq_true p102
         replace q102 := eq_true q102
         go_wp2
         repeat (go_quiet (fail);try go_wp2)
         go_ret
         exact ⟨by first|rfl | (simp;done)|(simp [*];done),by repeat (first|exact Drawn0.refl _ | apply Drawn0.step)⟩
        ·rw [if_neg c8] at H
         have c8b0 : (!((((rd_T24 l0 x13_1).f0).toList) == (((rd_T24 l1 x13_1).f0).toList)) || (!(((rd_T24 l0 x13_1).f1) == ((rd_T24 l1 x13_1).f1)) || (!(((rd_T24 l0 x13_1).f2) == ((rd_T24 l1 x13_1).f2))))) = false := by simpa using c8
         clear c8
         have H' := Aside0.mk H
         clear H
         have p101 : 0 ≤ (x13_1 : Int) := of_decide_eq_true (by assumption)
         have q101 : x13_1 < (l0.length : Int) := of_decide_eq_true (by assumption)
         obtain ⟨ad101,e101,hx101_0,hx101_1,hx101_2⟩ := at_T24 HR0.out x13_1 p101 q101
         cases e101
         replace p101 := eq_true p101
         replace q101 := eq_true q101
         have p102 : 0 ≤ (x13_1 : Int) := of_decide_eq_true (by assumption)
         have q102 : x13_1 < (l1.length : Int) := of_decide_eq_true (by assumption)
         obtain ⟨ad102,e102,hx102_0,hx102_1,hx102_2⟩ := at_T24 HR1.out x13_1 p102 q102
         cases e102
         replace p102 := eq_true p102
         replace q102 := eq_true q102
         go_wp2
         repeat (go_quiet (fail);try go_wp2)
         go_roundg k1
         case measure => have := HK1.out;omega
         case rel => exact ⟨(wrap64 (x13_1 + 1)),(by first|rfl | (simp;done)|(simp [*];done)),H',⟨by have := HK1.out;omega⟩,by repeat (first|exact Drawn0.refl _ | apply Drawn0.step)⟩
       ·rw [if_neg c7] at H
        exact absurd H (by simp)
      ·rw [if_neg c6] at H
       exact absurd H (by simp)
     ·rw [if_neg c5] at H
      exact absurd H (by simp)
    ·rw [if_neg c4] at H
     have c4b0 : decide (x13_1 < (l0.length : Int)) = false := decide_eq_false c4
     clear c4
     obtain rfl := Option.some.inj H
     go_wp2
     repeat (go_quiet (fail);try go_wp2)
     go_ret
     exact ⟨by first|rfl | (simp;done)|(simp [*];done),by repeat (first|exact Drawn0.refl _ | apply Drawn0.step)⟩
 ·rw [if_neg c3] at H
  have c3b0 : ((l0.length : Int) == (l1.length : Int)) = false := beq_eq_false_iff_ne.mpr c3
  have c3b1 : ((l0.length : Int) != (l1.length : Int)) = true := bne_iff_ne.mpr c3
  have c3b2 : (l0.length == l1.length) = false := by first|simpa using c3 | (simp at c3 ⊢;omega)
  obtain rfl := Option.some.inj H
  go_enter Try.func14,Try.ntmps14
  go_wp2
  repeat (go_quiet (fail);try go_wp2)
  go_ret
  exact ⟨by first|rfl | (simp;done)|(simp [*];done),by repeat (first|exact Drawn0.refl _ | apply Drawn0.step)⟩

/-! ### laws_qInts: function 15 -/
def laws_qInts.l0 : Nat → List Int → List Int → Int → Int → Option (Bool)
 | 0,_,_,_,_ => none
 | k + 1,x0,x1,x12,x13 => if x13 < x12 then (if 0 ≤ x13 then (if x13 < (x0.length : Int) then (if x13 < (x1.length : Int) then (if (rd x0 x13) = (rd x1 x13) then (laws_qInts.l0 k x0 x1 x12 (wrap64 (x13 + 1))) else (some false)) else (none)) else (none)) else (none)) else (some true)
def laws_qInts.f (k : Nat) (l0 : List Int) (l1 : List Int) : Option (Bool) := if (l0.length : Int) = (l1.length : Int) then (laws_qInts.l0 k l0 l1 (l0.length : Int) 0) else (some false)
theorem laws_qInts.mono_l : ∀ k,(∀ y0 y1 y2 y3,LeO (laws_qInts.l0 k y0 y1 y2 y3) (laws_qInts.l0 (k + 1) y0 y1 y2 y3))
 | 0 => fun _ _ _ _ r h => by simp [laws_qInts.l0] at h
 | k + 1 => by
  have ih0 := laws_qInts.mono_l k
  ·intro y0 y1 y2 y3
   unfold laws_qInts.l0
   repeat' first
   | (with_reducible exact ih0 _ _ _ _)
   | (with_reducible exact LeO.refl _)
   | (with_reducible exact LeO.none _)
   | (with_reducible refine LeO.ite ?_ ?_)
   | (with_reducible refine LeO.bind ?_ (fun _ => ?_))
theorem laws_qInts.mono : ∀ a0 a1 k,LeO (laws_qInts.f k a0 a1) (laws_qInts.f (k + 1) a0 a1) := by
 intro a0 a1 k
 have ih0 := laws_qInts.mono_l k
 unfold laws_qInts.f
 repeat' first
   | (with_reducible exact ih0 _ _ _ _)
   | (with_reducible exact LeO.refl _)
   | (with_reducible exact LeO.none _)
   | (with_reducible refine LeO.ite ?_ ?_)
   | (with_reducible refine LeO.bind ?_ (fun _ => ?_))
set_option maxHeartbeats 3000000 in
set_option maxRecDepth 100000 in
theorem laws_qInts.calls (k : Nat) (A0 : Option Addr) (c0 : Nat) (l0 : List Int) (A1 : Option Addr) (c1 : Nat) (l1 : List Int) (r : Bool) (w : World) (hr0 : Kd.C (Kd.int .i64) w A0 l0.length l0) (hc0 : l0.length ≤ c0) (hr1 : Kd.C (Kd.int .i64) w A1 l1.length l1) (hc1 : l1.length ≤ c1) (h : laws_qInts.f k l0 l1 = some r) :
  Calls Try.prog 15 #[.slice A0 l0.length c0,.slice A1 l1.length c1] w fun e w' => e = .returned (.bool r) ∧ Drawn0 w w' := by
 have HR0 := Aside0.mk hr0
 have HC0 := Aside0.mk hc0
 clear hr0 hc0
 have HR1 := Aside0.mk hr1
 have HC1 := Aside0.mk hc1
 clear hr1 hc1
 have H : (if (l0.length : Int) = (l1.length : Int) then (laws_qInts.l0 k l0 l1 (l0.length : Int) 0) else (some false)) = some r := h
 clear h
 by_cases c3 : (l0.length : Int) = (l1.length : Int)
 ·rw [if_pos c3] at H
  have c3b0 : ((l0.length : Int) == (l1.length : Int)) = true := beq_iff_eq.mpr c3
  have c3b1 : ((l0.length : Int) != (l1.length : Int)) = false := bne_eq_false_iff_eq.mpr c3
  have c3b2 : (l0.length == l1.length) = true := by first|simpa using c3 | (simp at c3 ⊢;omega)
  clear c3
  have H' := Aside0.mk H
  clear H
  go_enter Try.func15,Try.ntmps15
  go_wp2
  repeat (go_quiet (fail);try go_wp2)
  go_loopg [13] k (fun kq v13 w' => ∃ (x13_1 : Int),v13 = .int .i64 x13_1 ∧ Aside0 (laws_qInts.l0 kq l0 l1 (l0.length : Int) x13_1 = some r) ∧ Aside0 (kq ≤ k) ∧ Drawn0 w w')
  case atStart => exact ⟨(0),(by first|rfl | (simp;done)|(simp [*];done)),H',⟨Nat.le_refl _⟩,by repeat (first|exact Drawn0.refl _ | apply Drawn0.step)⟩
  case round =>
   clear H'
   (try clear c1);(try clear p2);(try clear c3);(try clear c3b0);(try clear c3b1);(try clear c3b2)
   obtain ⟨x13_1,rfl,HA,HK1,⟨m1,rfl⟩⟩ := hrel
   cases gk with
   | zero => exact absurd HA.out (by simp [laws_qInts.l0])
   | succ k1 =>
    have H := HA.out
    clear HA
    simp only [laws_qInts.l0] at H
    by_cases c4 : x13_1 < (l0.length : Int)
    ·rw [if_pos c4] at H
     have c4b0 : decide (x13_1 < (l0.length : Int)) = true := decide_eq_true c4
     clear c4
     by_cases c5 : 0 ≤ x13_1
     ·rw [if_pos c5] at H
      have c5b0 : decide (0 ≤ x13_1) = true := decide_eq_true c5
      clear c5
      by_cases c6 : x13_1 < (l0.length : Int)
      ·rw [if_pos c6] at H
       have c6b0 : decide (x13_1 < (l0.length : Int)) = true := decide_eq_true c6
       clear c6
       by_cases c7 : x13_1 < (l1.length : Int)
       ·rw [if_pos c7] at H
        have c7b0 : decide (x13_1 < (l1.length : Int)) = true := decide_eq_true c7
        clear c7
        by_cases c8 : (rd l0 x13_1) = (rd l1 x13_1)
        ·rw [if_pos c8] at H
         have c8b0 : ((rd l0 x13_1) == (rd l1 x13_1)) = true := beq_iff_eq.mpr c8
         have c8b1 : ((rd l0 x13_1) != (rd l1 x13_1)) = false := bne_eq_false_iff_eq.mpr c8
         clear c8
         have H' := Aside0.mk H
         clear H
         have p101 : 0 ≤ (x13_1 : Int) := of_decide_eq_true (by assumption)
         have q101 : x13_1 < (l0.length : Int) := of_decide_eq_true (by assumption)
         obtain ⟨ad101,e101,hx101_0⟩ := Kd.at_int HR0.out x13_1 p101 q101
         cases e101
         replace p101 := eq_true p101
         replace q101 := eq_true q101
         have p102 : 0 ≤ (x13_1 : Int) := of_decide_eq_true (by assumption)
         have q102 : x13_1 < (l1.length : Int) := of_decide_eq_true (by assumption)
         obtain ⟨ad102,e102,hx102_0⟩ := Kd.at_int HR1.out x13_1 p102 q102
         cases e102
         replace p102 := eq_true p102
         replace q102 := eq_true q102
         go_wp2
         repeat (go_quiet (fail);try go_wp2)
         go_roundg k1
         case measure => have := HK1.out;omega
         case rel => exact ⟨(wrap64 (x13_1 + 1)),(by first|rfl | (simp;done)|(simp [*];done)),H',⟨by have := HK1.out;omega⟩,by repeat (first|exact Drawn0.refl _ | apply Drawn0.step)⟩
        ·rw [if_neg c8] at H
         have c8b0 : ((rd l0 x13_1) == (rd l1 x13_1)) = false := beq_eq_false_iff_ne.mpr c8
         have c8b1 : ((rd l0 x13_1) != (rd l1 x13_1)) = true := bne_iff_ne.mpr c8
         obtain rfl := Option.some.inj H
         have p101 : 0 ≤ (x13_1 : Int) := of_decide_eq_true (by assumption)
         have q101 : x13_1 < (l0.length : Int) := of_decide_eq_true (by assumption)
         obtain ⟨ad101,e101,hx101_0⟩ := Kd.at_int HR0.out x13_1 p101 q101
         cases e101
         replace p101 := eq_true p101
         replace q101 := eq_true q101
         have p102 : 0 ≤ (x13_1 : Int) := of_decide_eq_true (by assumption)
         have q102 : x13_1 < (l1.length : Int) := of_decide_eq_true (by assumption)
         obtain ⟨ad102,e102,hx102_0⟩ := Kd.at_int HR1.out x13_1 p102 q102
         cases e102
         replace p102 := eq_true p102
         replace q102 := eq_true q102
         go_wp2
         repeat (go_quiet (fail);try go_wp2)
         go_ret
         exact ⟨by first|rfl | (simp;done)|(simp [*];done),by repeat (first|exact Drawn0.refl _ | apply Drawn0.step)⟩
       ·rw [if_neg c7] at H
        exact absurd H (by simp)
      ·rw [if_neg c6] at H
       exact absurd H (by simp)
     ·rw [if_neg c5] at H
      exact absurd H (by simp)
    ·rw [if_neg c4] at H
     have c4b0 : decide (x13_1 < (l0.length : Int)) = false := decide_eq_false c4
     clear c4
     obtain rfl := Option.some.inj H
     go_wp2
     repeat (go_quiet (fail);try go_wp2)
     go_ret
     exact ⟨by first|rfl | (simp;done)|(simp [*];done),by repeat (first|exact Drawn0.refl _ | apply Drawn0.step)⟩
 ·rw [if_neg c3] at H
  have c3b0 : ((l0.length : Int) == (l1.length : Int)) = false := beq_eq_false_iff_ne.mpr c3
  have c3b1 : ((l0.length : Int) != (l1.length : Int)) = true := bne_iff_ne.mpr c3
  have c3b2 : (l0.length == l1.length) = false := by first|simpa using c3 | (simp at c3 ⊢;omega)
  obtain rfl := Option.some.inj H
  go_enter Try.func15,Try.ntmps15
  go_wp2
  repeat (go_quiet (fail);try go_wp2)
  go_ret
  exact ⟨by first|rfl | (simp;done)|(simp [*];done),by repeat (first|exact Drawn0.refl _ | apply Drawn0.step)⟩

/-! ### laws_qHas: function 17 -/
def laws_qHas.l0 : Nat → Int → List Int → Int → Int → Option (Bool)
 | 0,_,_,_,_ => none
 | k + 1,x1,x7,x8,x9 => if x9 < x8 then (if 0 ≤ x9 then (if x9 < (x7.length : Int) then (if (rd x7 x9) = x1 then (some true) else (laws_qHas.l0 k x1 x7 x8 (wrap64 (x9 + 1)))) else (none)) else (none)) else (some false)
def laws_qHas.f (k : Nat) (l0 : List Int) (a1 : Int) : Option (Bool) := laws_qHas.l0 k a1 l0 (l0.length : Int) 0
theorem laws_qHas.mono_l : ∀ k,(∀ y0 y1 y2 y3,LeO (laws_qHas.l0 k y0 y1 y2 y3) (laws_qHas.l0 (k + 1) y0 y1 y2 y3))
 | 0 => fun _ _ _ _ r h => by simp [laws_qHas.l0] at h
 | k + 1 => by
  have ih0 := laws_qHas.mono_l k
  ·intro y0 y1 y2 y3
   unfold laws_qHas.l0
   repeat' first
   | (with_reducible exact ih0 _ _ _ _)
   | (with_reducible exact LeO.refl _)
   | (with_reducible exact LeO.none _)
   | (with_reducible refine LeO.ite ?_ ?_)
   | (with_reducible refine LeO.bind ?_ (fun _ => ?_))
theorem laws_qHas.mono : ∀ a0 a1 k,LeO (laws_qHas.f k a0 a1) (laws_qHas.f (k + 1) a0 a1) := by
 intro a0 a1 k
 have ih0 := laws_qHas.mono_l k
 unfold laws_qHas.f
 repeat' first
   | (with_reducible exact ih0 _ _ _ _)
   | (with_reducible exact LeO.refl _)
   | (with_reducible exact LeO.none _)
   | (with_reducible refine LeO.ite ?_ ?_)
   | (with_reducible refine LeO.bind ?_ (fun _ => ?_))
set_option maxHeartbeats 3000000 in
set_option maxRecDepth 100000 in
theorem laws_qHas.calls (k : Nat) (A0 : Option Addr) (c0 : Nat) (l0 : List Int) (a1 : Int) (r : Bool) (w : World) (hr0 : Kd.C (Kd.int .i64) w A0 l0.length l0) (hc0 : l0.length ≤ c0) (h : laws_qHas.f k l0 a1 = some r) :
  Calls Try.prog 17 #[.slice A0 l0.length c0,.int .i64 a1] w fun e w' => e = .returned (.bool r) ∧ Drawn0 w w' := by
 have HR0 := Aside0.mk hr0
 have HC0 := Aside0.mk hc0
 clear hr0 hc0
 have H : (laws_qHas.l0 k a1 l0 (l0.length : Int) 0) = some r := h
 clear h
 have H' := Aside0.mk H
 clear H
 go_enter Try.func17,Try.ntmps17
 go_wp2
 go_loopg [9] k (fun kq v9 w' => ∃ (x9_1 : Int),v9 = .int .i64 x9_1 ∧ Aside0 (laws_qHas.l0 kq a1 l0 (l0.length : Int) x9_1 = some r) ∧ Aside0 (kq ≤ k) ∧ Drawn0 w w')
 case atStart => exact ⟨(0),(by first|rfl | (simp;done)|(simp [*];done)),H',⟨Nat.le_refl _⟩,by repeat (first|exact Drawn0.refl _ | apply Drawn0.step)⟩
 case round =>
  clear H'
  (try clear c1);(try clear p2)
  obtain ⟨x9_1,rfl,HA,HK1,⟨m1,rfl⟩⟩ := hrel
  cases gk with
  | zero => exact absurd HA.out (by simp [laws_qHas.l0])
  | succ k1 =>
   have H := HA.out
   clear HA
   simp only [laws_qHas.l0] at H
   by_cases c3 : x9_1 < (l0.length : Int)
   ·rw [if_pos c3] at H
    have c3b0 : decide (x9_1 < (l0.length : Int)) = true := decide_eq_true c3
    clear c3
    by_cases c4 : 0 ≤ x9_1
    ·rw [if_pos c4] at H
     have c4b0 : decide (0 ≤ x9_1) = true := decide_eq_true c4
     clear c4
     by_cases c5 : x9_1 < (l0.length : Int)
     ·rw [if_pos c5] at H
      have c5b0 : decide (x9_1 < (l0.length : Int)) = true := decide_eq_true c5
      clear c5
      by_cases c6 : (rd l0 x9_1) = a1
      ·rw [if_pos c6] at H
       have c6b0 : ((rd l0 x9_1) == a1) = true := beq_iff_eq.mpr c6
       have c6b1 : ((rd l0 x9_1) != a1) = false := bne_eq_false_iff_eq.mpr c6
       clear c6
       obtain rfl := Option.some.inj H
       have p101 : 0 ≤ (x9_1 : Int) := of_decide_eq_true (by assumption)
       have q101 : x9_1 < (l0.length : Int) := of_decide_eq_true (by assumption)
       obtain ⟨ad101,e101,hx101_0⟩ := Kd.at_int HR0.out x9_1 p101 q101
       cases e101
       replace p101 := eq_true p101
       replace q101 := eq_true q101
       go_wp2
       go_ret
       exact ⟨by first|rfl | (simp;done)|(simp [*];done),by repeat (first|exact Drawn0.refl _ | apply Drawn0.step)⟩
      ·rw [if_neg c6] at H
       have c6b0 : ((rd l0 x9_1) == a1) = false := beq_eq_false_iff_ne.mpr c6
       have c6b1 : ((rd l0 x9_1) != a1) = true := bne_iff_ne.mpr c6
       have H' := Aside0.mk H
       clear H
       have p101 : 0 ≤ (x9_1 : Int) := of_decide_eq_true (by assumption)
       have q101 : x9_1 < (l0.length : Int) := of_decide_eq_true (by assumption)
       obtain ⟨ad101,e101,hx101_0⟩ := Kd.at_int HR0.out x9_1 p101 q101
       cases e101
       replace p101 := eq_true p101
       replace q101 := eq_true q101
       go_wp2
       go_roundg k1
       case measure => have := HK1.out;omega
       case rel => exact ⟨(wrap64 (x9_1 + 1)),(by first|rfl | (simp;done)|(simp [*];done)),H',⟨by have := HK1.out;omega⟩,by repeat (first|exact Drawn0.refl _ | apply Drawn0.step)⟩
     ·rw [if_neg c5] at H
      exact absurd H (by simp)
    ·rw [if_neg c4] at H
     exact absurd H (by simp)
   ·rw [if_neg c3] at H
    have c3b0 : decide (x9_1 < (l0.length : Int)) = false := decide_eq_false c3
    clear c3
    obtain rfl := Option.some.inj H
    go_wp2
    go_ret
    exact ⟨by first|rfl | (simp;done)|(simp [*];done),by repeat (first|exact Drawn0.refl _ | apply Drawn0.step)⟩

end Go.Proofs.Ytkobnljfoedmnaa.Q
