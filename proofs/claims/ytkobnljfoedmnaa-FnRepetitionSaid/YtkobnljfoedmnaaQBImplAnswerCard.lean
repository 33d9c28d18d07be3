-- Written for the seat Ytkobnljfoedmnaa by a program of this session (wip/tool/gx.py) out of the translation. Lean checks it.
import Derived.Test.YtkobnljfoedmnaaQ0
import Derived.Test.YtkobnljfoedmnaaGCall
import Derived.Test.YtkobnljfoedmnaaQBEq24
import Derived.Test.YtkobnljfoedmnaaQImplCardAnswered
import Derived.Laws.DeepStrings4
import Derived.Test.YtkobnljfoedmnaaWApart
import Derived.Test.YtkobnljfoedmnaaWFoot
import Derived.Test.YtkobnljfoedmnaaWKept
import Derived.Test.YtkobnljfoedmnaaWShare
import Derived.Test.YtkobnljfoedmnaaWN
import Derived.Test.YtkobnljfoedmnaaWRepsOne
namespace Go.Proofs.Ytkobnljfoedmnaa.Q
open Go.RowKit Go.Proofs.YtkobnljfoedmnaaW.PrintWords Go.Proofs.YtkobnljfoedmnaaW.PrintLast Go.Proofs.YtkobnljfoedmnaaW.PrintMore Go.Proofs.YtkobnljfoedmnaaW.GCall
attribute [local go_sem] max2_int min2_int max_two min_two max_three min_three max_four min_four   -- for this text's walks alone
set_option linter.unusedVariables false
set_option linter.unusedSimpArgs false

/-! ### impl_AnswerCard: function 6 -/
def impl_AnswerCard.f (k : Nat) (a0_0 : ByteArray) (a0_1 : Int) (a0_2 : Int) (a1 : Int) (a2 : Bool) : Option (ByteArray × Int × Int × Bool) := (impl_isCard.f k a0_0 a0_1 a0_2).bind fun t103 => (if t103 = true then ((impl_isFrame.f a1).bind fun t104 => (if t104 = true then ((impl_Card_answered.f k a0_0 a0_1 a0_2 a1 a2).bind fun bt105 => (some (bt105.1,bt105.2.1,bt105.2.2.1,bt105.2.2.2))) else (some ((⟨#[]⟩ : ByteArray),0,0,false)))) else (some ((⟨#[]⟩ : ByteArray),0,0,false)))
theorem impl_AnswerCard.mono : ∀ a0 a1 a2 a3 a4 k,LeO (impl_AnswerCard.f k a0 a1 a2 a3 a4) (impl_AnswerCard.f (k + 1) a0 a1 a2 a3 a4) := by
 intro a0 a1 a2 a3 a4 k
 unfold impl_AnswerCard.f
 repeat' first
   | (with_reducible exact impl_Card_answered.mono _ _ _ _ _ _)
   | (with_reducible exact impl_isCard.mono _ _ _ _)
   | (with_reducible exact LeO.refl _)
   | (with_reducible exact LeO.none _)
   | (with_reducible refine LeO.ite ?_ ?_)
   | (with_reducible refine LeO.bind ?_ (fun _ => ?_))
set_option maxHeartbeats 3000000 in
set_option maxRecDepth 100000 in
theorem impl_AnswerCard.calls (k : Nat) (a0_0 : ByteArray) (a0_1 : Int) (a0_2 : Int) (a1 : Int) (a2 : Bool) (r1 : ByteArray) (r2 : Int) (r3 : Int) (r4 : Bool) (w : World) (h : impl_AnswerCard.f k a0_0 a0_1 a0_2 a1 a2 = some (r1,r2,r3,r4)) :
  Calls Try.prog 6 #[.agg #[.string a0_0,.int .i64 a0_1,.int .i64 a0_2],.int .i64 a1,.bool a2] w fun e w' => e = .returned (.tuple #[.agg #[.string r1,.int .i64 r2,.int .i64 r3],.bool r4]) ∧ Below w.heap.size w w' := by
 have hu24 := Try.underlying24
 have HB := Aside0.mk (Below.refl w.heap.size w)
 have H : ((impl_isCard.f k a0_0 a0_1 a0_2).bind fun t103 => (if t103 = true then ((impl_isFrame.f a1).bind fun t104 => (if t104 = true then ((impl_Card_answered.f k a0_0 a0_1 a0_2 a1 a2).bind fun bt105 => (some (bt105.1,bt105.2.1,bt105.2.2.1,bt105.2.2.2))) else (some ((⟨#[]⟩ : ByteArray),0,0,false)))) else (some ((⟨#[]⟩ : ByteArray),0,0,false)))) = some (r1,r2,r3,r4) := h
 clear h
 replace H := Option.bind_eq_some_iff.mp H
 obtain ⟨t103,A40,H⟩ := H
 try dsimp only at H
 have A4 := Aside0.mk A40
 clear A40
 by_cases c5 : t103 = true
 ·subst c5
  rw [if_pos rfl] at H
  replace H := Option.bind_eq_some_iff.mp H
  obtain ⟨t104,A60,H⟩ := H
  try dsimp only at H
  have A6 := Aside0.mk A60
  clear A60
  by_cases c7 : t104 = true
  ·subst c7
   rw [if_pos rfl] at H
   replace H := Option.bind_eq_some_iff.mp H
   obtain ⟨⟨t105,t106,t107,t108⟩,A80,H⟩ := H
   try dsimp only at H
   have A8 := Aside0.mk A80
   clear A80
   simp only [Option.some.injEq,Prod.mk.injEq] at H
   obtain ⟨rfl,rfl,rfl,rfl⟩ := H
   go_enter Try.func6,Try.ntmps6
   go_wp2_with (first|((with_reducible refine gate_dst (N := 3) rfl ?_);refine box_event ?hg (N := 3) ?hd (cs := #[.string a0_0,.int .i64 a0_1,.int .i64 a0_2]) (t := 24) ?hr ?_;(case hd => rfl);(case hg => rfl);(case hr => first|(go_simp;done)|(go_simp;rfl));intro gb101 hg w9 hbox hb;have n0_ := Aside0.mk (below_step (by repeat (first|exact HB.out | apply zbA | apply zbB | apply zbC)) hb);have n1_ := Aside0.mk (hbox);have n2_ := Aside0.mk ((by rw [hg];exact (below_size (by repeat (first|exact HB.out | apply zbA | apply zbB | apply zbC))) : w.heap.size ≤ gb101));have n3_ := Aside0.mk ((by rw [hg];exact (below_size (by repeat (first|exact HB.out | apply zbA | apply zbB | apply zbC))) : w.heap.size ≤ gb101));clear HB;have HB := n0_;have BK101 := n1_;have GW101 := n2_;have GE101 := n3_;clear n0_ n1_ n2_ n3_;clear hb hbox hg)|((with_reducible refine gate_dst (N := 6) rfl ?_);refine box_event ?hg (N := 6) ?hd (cs := #[.string (⟨#[]⟩ : ByteArray),.int .i64 0,.int .i64 0]) (t := 24) ?hr ?_;(case hd => rfl);(case hg => rfl);(case hr => first|(go_simp;done)|(go_simp;rfl));intro gb102 hg w10 hbox hb;have n0_ := Aside0.mk (blk_below (g := gb101) (o := .cells #[.string a0_0,.int .i64 a0_1,.int .i64 a0_2] 24 (0,0)) (by (with_reducible repeat (first|apply zhA | apply zhB | apply zhC));exact BK101.out) hb);have n1_ := Aside0.mk (below_step (by repeat (first|(with_reducible first|exact HB.out | apply zbA | apply zbB | apply zbC | refine below_set ?_ GE101.out) | exact HB.out)) hb);have n2_ := Aside0.mk (hbox);have n3_ := Aside0.mk ((by rw [hg];exact (below_size (by repeat (first|(with_reducible first|exact HB.out | apply zbA | apply zbB | apply zbC | refine below_set ?_ GE101.out) | exact HB.out))) : w.heap.size ≤ gb102));have n4_ := Aside0.mk ((by rw [hg];exact (below_size (by repeat (first|(with_reducible first|exact HB.out | apply zbA | apply zbB | apply zbC | refine below_set ?_ GE101.out) | exact HB.out))) : w.heap.size ≤ gb102));have n5_ := Aside0.mk ((by rw [hg];exact Nat.ne_of_lt (blk_lt (g := gb101) (o := .cells #[.string a0_0,.int .i64 a0_1,.int .i64 a0_2] 24 (0,0)) (by (with_reducible repeat (first|apply zhA | apply zhB | apply zhC));exact BK101.out)) : gb101 ≠ gb102));have n6_ := Aside0.mk ((by rw [hg];exact Nat.ne_of_gt (blk_lt (g := gb101) (o := .cells #[.string a0_0,.int .i64 a0_1,.int .i64 a0_2] 24 (0,0)) (by (with_reducible repeat (first|apply zhA | apply zhB | apply zhC));exact BK101.out)) : gb102 ≠ gb101));clear BK101;clear HB;have BK101 := n0_;have HB := n1_;have BK102 := n2_;have GW102 := n3_;have GE102 := n4_;have NB101_102 := n5_;have NB102_101 := n6_;clear n0_ n1_ n2_ n3_ n4_ n5_ n6_;clear hb hbox hg;have hnb11 := NB101_102.out;have hnc11 := NB102_101.out;have hcz12_0 : w10.cell? ⟨gb101,0,none⟩ = some (.string a0_0) := (blk_cell BK101.out 0).trans rfl;have hcz12_1 : w10.cell? ⟨gb101,1,none⟩ = some (.int .i64 a0_1) := (blk_cell BK101.out 1).trans rfl;have hcz12_2 : w10.cell? ⟨gb101,2,none⟩ = some (.int .i64 a0_2) := (blk_cell BK101.out 2).trans rfl;have hfz12_0 := blk_frozen BK101.out 0;have hfz12_1 := blk_frozen BK101.out 1;have hfz12_2 := blk_frozen BK101.out 2)|((with_reducible refine gate_callee (f := 35) rfl ?_);refine goesL_ (some 9) rfl rfl Try.func35 (by kernel_rfl) rfl #[.agg #[.string a0_0,.int .i64 a0_1,.int .i64 a0_2]] rfl (by (try simp only [List.map_toArray,List.map_cons,List.map_nil]);first|done | rfl | (simp only [List.length_drop,List.length_take];rfl)) ?_;(with_reducible refine (impl_isCard.calls k a0_0 a0_1 a0_2 true _ A4.out).mono ?_);rintro e w13 ⟨rfl,hb⟩;refine ⟨_,rfl,?_⟩;have n0_ := Aside0.mk (blk_below (g := gb101) (o := .cells #[.string a0_0,.int .i64 a0_1,.int .i64 a0_2] 24 (0,0)) (by (with_reducible repeat (first|apply zhA | apply zhB | apply zhC));exact BK101.out) hb);have n1_ := Aside0.mk (blk_below (g := gb102) (o := .cells #[.string (⟨#[]⟩ : ByteArray),.int .i64 0,.int .i64 0] 24 (0,0)) (by (with_reducible repeat (first|apply zhA | apply zhB | apply zhC));exact BK102.out) hb);have n2_ := Aside0.mk (below_step (by repeat (first|(with_reducible first|exact HB.out | apply zbA | apply zbB | apply zbC | refine below_set ?_ GE101.out | refine below_set ?_ GE102.out) | exact HB.out)) hb);clear BK101;clear BK102;clear HB;have BK101 := n0_;have BK102 := n1_;have HB := n2_;clear n0_ n1_ n2_;(try clear hb))|(go_at_call 36;(with_reducible refine (impl_isFrame.calls a1 true _ A6.out).mono ?_);rintro e w' ⟨rfl,⟨nd,rfl⟩⟩;(try (rw [drewN_self w13];generalize hq_ : World.drewN w13 _ = w13;have n0_ : Aside0 (w13.heap[gb101]? = some (.cells #[.string a0_0,.int .i64 a0_1,.int .i64 a0_2] 24 (0,0))) := ⟨by rw [← hq_];exact (by (with_reducible repeat (first|apply zhA | apply zhB | apply zhC));exact BK101.out)⟩;have n1_ : Aside0 (w13.heap[gb102]? = some (.cells #[.string (⟨#[]⟩ : ByteArray),.int .i64 0,.int .i64 0] 24 (0,0))) := ⟨by rw [← hq_];exact (by (with_reducible repeat (first|apply zhA | apply zhB | apply zhC));exact BK102.out)⟩;have n2_ : Aside0 (Below w.heap.size w w13) := ⟨by rw [← hq_];exact (by repeat (first|(with_reducible first|exact HB.out | apply zbA | apply zbB | apply zbC | refine below_set ?_ GE101.out | refine below_set ?_ GE102.out) | exact HB.out))⟩;clear BK101 BK102 HB hq_;have BK101 := n0_;have BK102 := n1_;have HB := n2_;clear n0_ n1_ n2_;have hczqgb101_0 : w13.cell? ⟨gb101,0,none⟩ = some (.string a0_0) := (blk_cell BK101.out 0).trans rfl;have hfzqgb101_0 := blk_frozen BK101.out 0;have hczqgb101_1 : w13.cell? ⟨gb101,1,none⟩ = some (.int .i64 a0_1) := (blk_cell BK101.out 1).trans rfl;have hfzqgb101_1 := blk_frozen BK101.out 1;have hczqgb101_2 : w13.cell? ⟨gb101,2,none⟩ = some (.int .i64 a0_2) := (blk_cell BK101.out 2).trans rfl;have hfzqgb101_2 := blk_frozen BK101.out 2;have hczqgb102_0 : w13.cell? ⟨gb102,0,none⟩ = some (.string (⟨#[]⟩ : ByteArray)) := (blk_cell BK102.out 0).trans rfl;have hfzqgb102_0 := blk_frozen BK102.out 0;have hczqgb102_1 : w13.cell? ⟨gb102,1,none⟩ = some (.int .i64 0) := (blk_cell BK102.out 1).trans rfl;have hfzqgb102_1 := blk_frozen BK102.out 1;have hczqgb102_2 : w13.cell? ⟨gb102,2,none⟩ = some (.int .i64 0) := (blk_cell BK102.out 2).trans rfl;have hfzqgb102_2 := blk_frozen BK102.out 2));have hcz14_0 : w13.cell? ⟨gb101,0,none⟩ = some (.string a0_0) := (blk_cell BK101.out 0).trans rfl;have hcz14_1 : w13.cell? ⟨gb101,1,none⟩ = some (.int .i64 a0_1) := (blk_cell BK101.out 1).trans rfl;have hcz14_2 : w13.cell? ⟨gb101,2,none⟩ = some (.int .i64 a0_2) := (blk_cell BK101.out 2).trans rfl;have hfz14_0 := blk_frozen BK101.out 0;have hfz14_1 := blk_frozen BK101.out 1;have hfz14_2 := blk_frozen BK101.out 2)|((with_reducible refine gate_callee (f := 37) rfl ?_);refine goesL_ (some 20) rfl rfl Try.func37 (by kernel_rfl) rfl #[.agg #[.string a0_0,.int .i64 a0_1,.int .i64 a0_2],.int .i64 a1,.bool a2] rfl (by (try simp only [List.map_toArray,List.map_cons,List.map_nil]);first|done | rfl | (simp only [List.length_drop,List.length_take];rfl)) ?_;(with_reducible refine (impl_Card_answered.calls k a0_0 a0_1 a0_2 a1 a2 t105 t106 t107 t108 _ A8.out).mono ?_);rintro e w15 ⟨rfl,hb⟩;refine ⟨_,rfl,?_⟩;have n0_ := Aside0.mk (blk_below (g := gb101) (o := .cells #[.string a0_0,.int .i64 a0_1,.int .i64 a0_2] 24 (0,0)) (by (with_reducible repeat (first|apply zhA | apply zhB | apply zhC));exact BK101.out) hb);have n1_ := Aside0.mk (blk_below (g := gb102) (o := .cells #[.string (⟨#[]⟩ : ByteArray),.int .i64 0,.int .i64 0] 24 (0,0)) (by (with_reducible repeat (first|apply zhA | apply zhB | apply zhC));exact BK102.out) hb);have n2_ := Aside0.mk (below_step (by repeat (first|(with_reducible first|exact HB.out | apply zbA | apply zbB | apply zbC | refine below_set ?_ GE101.out | refine below_set ?_ GE102.out) | exact HB.out)) hb);clear BK101;clear BK102;clear HB;have BK101 := n0_;have BK102 := n1_;have HB := n2_;clear n0_ n1_ n2_;(try clear hb);have hcz16_0 : w15.cell? ⟨gb102,0,none⟩ = some (.string (⟨#[]⟩ : ByteArray)) := (blk_cell BK102.out 0).trans rfl;have hcz16_1 : w15.cell? ⟨gb102,1,none⟩ = some (.int .i64 0) := (blk_cell BK102.out 1).trans rfl;have hcz16_2 : w15.cell? ⟨gb102,2,none⟩ = some (.int .i64 0) := (blk_cell BK102.out 2).trans rfl;have hfz16_0 := blk_frozen BK102.out 0;have hfz16_1 := blk_frozen BK102.out 1;have hfz16_2 := blk_frozen BK102.out 2))
   refine bodyPost_ret (results_ct rfl _ _ gb102 24 #[.string t105,.int .i64 t106,.int .i64 t107] (0,0) _ rfl (by (with_reducible repeat (first|apply zhA | apply zhB | apply zhC));refine blk_put (cs := #[.string t105,.int .i64 t106,.int .i64 0]) ?_ 2 _ rfl;(with_reducible repeat (first|apply zhA | apply zhB | apply zhC));refine blk_put (cs := #[.string t105,.int .i64 0,.int .i64 0]) ?_ 1 _ rfl;(with_reducible repeat (first|apply zhA | apply zhB | apply zhC));refine blk_put (cs := #[.string (⟨#[]⟩ : ByteArray),.int .i64 0,.int .i64 0]) ?_ 0 _ rfl;(with_reducible repeat (first|apply zhA | apply zhB | apply zhC));exact BK102.out) Try.underlying24 rfl (by kernel_rfl)) rfl ?_
   exact ⟨by first|rfl | (simp [*,errW_none,errW_some] <;> rfl),by repeat (first|(with_reducible first|exact HB.out | apply zbA | apply zbB | apply zbC | refine below_set ?_ GE101.out | refine below_set ?_ GE102.out) | exact HB.out)⟩
  ·replace c7 := Bool.eq_false_iff.mpr c7
   subst c7
   rw [if_neg (show ¬ (false = true) by decide)] at H
   simp only [Option.some.injEq,Prod.mk.injEq] at H
   obtain ⟨rfl,rfl,rfl,rfl⟩ := H
   go_enter Try.func6,Try.ntmps6
   go_wp2_with (first|((with_reducible refine gate_dst (N := 3) rfl ?_);refine box_event ?hg (N := 3) ?hd (cs := #[.string a0_0,.int .i64 a0_1,.int .i64 a0_2]) (t := 24) ?hr ?_;(case hd => rfl);(case hg => rfl);(case hr => first|(go_simp;done)|(go_simp;rfl));intro gb101 hg w17 hbox hb;have n0_ := Aside0.mk (below_step (by repeat (first|exact HB.out | apply zbA | apply zbB | apply zbC)) hb);have n1_ := Aside0.mk (hbox);have n2_ := Aside0.mk ((by rw [hg];exact (below_size (by repeat (first|exact HB.out | apply zbA | apply zbB | apply zbC))) : w.heap.size ≤ gb101));have n3_ := Aside0.mk ((by rw [hg];exact (below_size (by repeat (first|exact HB.out | apply zbA | apply zbB | apply zbC))) : w.heap.size ≤ gb101));clear HB;have HB := n0_;have BK101 := n1_;have GW101 := n2_;have GE101 := n3_;clear n0_ n1_ n2_ n3_;clear hb hbox hg)|((with_reducible refine gate_dst (N := 6) rfl ?_);refine box_event ?hg (N := 6) ?hd (cs := #[.string (⟨#[]⟩ : ByteArray),.int .i64 0,.int .i64 0]) (t := 24) ?hr ?_;(case hd => rfl);(case hg => rfl);(case hr => first|(go_simp;done)|(go_simp;rfl));intro gb102 hg w18 hbox hb;have n0_ := Aside0.mk (blk_below (g := gb101) (o := .cells #[.string a0_0,.int .i64 a0_1,.int .i64 a0_2] 24 (0,0)) (by (with_reducible repeat (first|apply zhA | apply zhB | apply zhC));exact BK101.out) hb);have n1_ := Aside0.mk (below_step (by repeat (first|(with_reducible first|exact HB.out | apply zbA | apply zbB | apply zbC | refine below_set ?_ GE101.out) | exact HB.out)) hb);have n2_ := Aside0.mk (hbox);have n3_ := Aside0.mk ((by rw [hg];exact (below_size (by repeat (first|(with_reducible first|exact HB.out | apply zbA | apply zbB | apply zbC | refine below_set ?_ GE101.out) | exact HB.out))) : w.heap.size ≤ gb102));have n4_ := Aside0.mk ((by rw [hg];exact (below_size (by repeat (first|(with_reducible first|exact HB.out | apply zbA | apply zbB | apply zbC | refine below_set ?_ GE101.out) | exact HB.out))) : w.heap.size ≤ gb102));have n5_ := Aside0.mk ((by rw [hg];exact Nat.ne_of_lt (blk_lt (g := gb101) (o := .cells #[.string a0_0,.int .i64 a0_1,.int .i64 a0_2] 24 (0,0)) (by (with_reducible repeat (first|apply zhA | apply zhB | apply zhC));exact BK101.out)) : gb101 ≠ gb102));have n6_ := Aside0.mk ((by rw [hg];exact Nat.ne_of_gt (blk_lt (g := gb101) (o := .cells #[.string a0_0,.int .i64 a0_1,.int .i64 a0_2] 24 (0,0)) (by (with_reducible repeat (first|apply zhA | apply zhB | apply zhC));exact BK101.out)) : gb102 ≠ gb101));clear BK101;clear HB;have BK101 := n0_;have HB := n1_;have BK102 := n2_;have GW102 := n3_;have GE102 := n4_;have NB101_102 := n5_;have NB102_101 := n6_;clear n0_ n1_ n2_ n3_ n4_ n5_ n6_;clear hb hbox hg;have hnb19 := NB101_102.out;have hnc19 := NB102_101.out;have hcz20_0 : w18.cell? ⟨gb101,0,none⟩ = some (.string a0_0) := (blk_cell BK101.out 0).trans rfl;have hcz20_1 : w18.cell? ⟨gb101,1,none⟩ = some (.int .i64 a0_1) := (blk_cell BK101.out 1).trans rfl;have hcz20_2 : w18.cell? ⟨gb101,2,none⟩ = some (.int .i64 a0_2) := (blk_cell BK101.out 2).trans rfl;have hfz20_0 := blk_frozen BK101.out 0;have hfz20_1 := blk_frozen BK101.out 1;have hfz20_2 := blk_frozen BK101.out 2)|((with_reducible refine gate_callee (f := 35) rfl ?_);refine goesL_ (some 9) rfl rfl Try.func35 (by kernel_rfl) rfl #[.agg #[.string a0_0,.int .i64 a0_1,.int .i64 a0_2]] rfl (by (try simp only [List.map_toArray,List.map_cons,List.map_nil]);first|done | rfl | (simp only [List.length_drop,List.length_take];rfl)) ?_;(with_reducible refine (impl_isCard.calls k a0_0 a0_1 a0_2 true _ A4.out).mono ?_);rintro e w21 ⟨rfl,hb⟩;refine ⟨_,rfl,?_⟩;have n0_ := Aside0.mk (blk_below (g := gb101) (o := .cells #[.string a0_0,.int .i64 a0_1,.int .i64 a0_2] 24 (0,0)) (by (with_reducible repeat (first|apply zhA | apply zhB | apply zhC));exact BK101.out) hb);have n1_ := Aside0.mk (blk_below (g := gb102) (o := .cells #[.string (⟨#[]⟩ : ByteArray),.int .i64 0,.int .i64 0] 24 (0,0)) (by (with_reducible repeat (first|apply zhA | apply zhB | apply zhC));exact BK102.out) hb);have n2_ := Aside0.mk (below_step (by repeat (first|(with_reducible first|exact HB.out | apply zbA | apply zbB | apply zbC | refine below_set ?_ GE101.out | refine below_set ?_ GE102.out) | exact HB.out)) hb);clear BK101;clear BK102;clear HB;have BK101 := n0_;have BK102 := n1_;have HB := n2_;clear n0_ n1_ n2_;(try clear hb))|(go_at_call 36;(with_reducible refine (impl_isFrame.calls a1 false _ A6.out).mono ?_);rintro e w' ⟨rfl,⟨nd,rfl⟩⟩;(try (rw [drewN_self w21];generalize hq_ : World.drewN w21 _ = w21;have n0_ : Aside0 (w21.heap[gb101]? = some (.cells #[.string a0_0,.int .i64 a0_1,.int .i64 a0_2] 24 (0,0))) := ⟨by rw [← hq_];exact (by (with_reducible repeat (first|apply zhA | apply zhB | apply zhC));exact BK101.out)⟩;have n1_ : Aside0 (w21.heap[gb102]? = some (.cells #[.string (⟨#[]⟩ : ByteArray),.int .i64 0,.int .i64 0] 24 (0,0))) := ⟨by rw [← hq_];exact (by (with_reducible repeat (first|apply zhA | apply zhB | apply zhC));exact BK102.out)⟩;have n2_ : Aside0 (Below w.heap.size w w21) := ⟨by rw [← hq_];exact (by repeat (first|(with_reducible first|exact HB.out | apply zbA | apply zbB | apply zbC | refine below_set ?_ GE101.out | refine below_set ?_ GE102.out) | exact HB.out))⟩;clear BK101 BK102 HB hq_;have BK101 := n0_;have BK102 := n1_;have HB := n2_;clear n0_ n1_ n2_;have hczqgb101_0 : w21.cell? ⟨gb101,0,none⟩ = some (.string a0_0) := (blk_cell BK101.out 0).trans rfl;have hfzqgb101_0 := blk_frozen BK101.out 0;have hczqgb101_1 : w21.cell? ⟨gb101,1,none⟩ = some (.int .i64 a0_1) := (blk_cell BK101.out 1).trans rfl;have hfzqgb101_1 := blk_frozen BK101.out 1;have hczqgb101_2 : w21.cell? ⟨gb101,2,none⟩ = some (.int .i64 a0_2) := (blk_cell BK101.out 2).trans rfl;have hfzqgb101_2 := blk_frozen BK101.out 2;have hczqgb102_0 : w21.cell? ⟨gb102,0,none⟩ = some (.string (⟨#[]⟩ : ByteArray)) := (blk_cell BK102.out 0).trans rfl;have hfzqgb102_0 := blk_frozen BK102.out 0;have hczqgb102_1 : w21.cell? ⟨gb102,1,none⟩ = some (.int .i64 0) := (blk_cell BK102.out 1).trans rfl;have hfzqgb102_1 := blk_frozen BK102.out 1;have hczqgb102_2 : w21.cell? ⟨gb102,2,none⟩ = some (.int .i64 0) := (blk_cell BK102.out 2).trans rfl;have hfzqgb102_2 := blk_frozen BK102.out 2));have hcz22_0 : w21.cell? ⟨gb102,0,none⟩ = some (.string (⟨#[]⟩ : ByteArray)) := (blk_cell BK102.out 0).trans rfl;have hcz22_1 : w21.cell? ⟨gb102,1,none⟩ = some (.int .i64 0) := (blk_cell BK102.out 1).trans rfl;have hcz22_2 : w21.cell? ⟨gb102,2,none⟩ = some (.int .i64 0) := (blk_cell BK102.out 2).trans rfl;have hfz22_0 := blk_frozen BK102.out 0;have hfz22_1 := blk_frozen BK102.out 1;have hfz22_2 := blk_frozen BK102.out 2))
   refine bodyPost_ret (results_ct rfl _ _ gb102 24 #[.string (⟨#[]⟩ : ByteArray),.int .i64 0,.int .i64 0] (0,0) _ rfl (by (with_reducible repeat (first|apply zhA | apply zhB | apply zhC));refine blk_put (cs := #[.string (⟨#[]⟩ : ByteArray),.int .i64 0,.int .i64 0]) ?_ 2 _ rfl;(with_reducible repeat (first|apply zhA | apply zhB | apply zhC));refine blk_put (cs := #[.string (⟨#[]⟩ : ByteArray),.int .i64 0,.int .i64 0]) ?_ 1 _ rfl;(with_reducible repeat (first|apply zhA | apply zhB | apply zhC));refine blk_put (cs := #[.string (⟨#[]⟩ : ByteArray),.int .i64 0,.int .i64 0]) ?_ 0 _ rfl;(with_reducible repeat (first|apply zhA | apply zhB | apply zhC));exact BK102.out) Try.underlying24 rfl (by kernel_rfl)) rfl ?_
   exact ⟨by first|rfl | (simp [*,errW_none,errW_some] <;> rfl),by repeat (first|(with_reducible first|exact HB.out | apply zbA | apply zbB | apply zbC | refine below_set ?_ GE101.out | refine below_set ?_ GE102.out) | exact HB.out)⟩
 ·replace c5 := Bool.eq_false_iff.mpr c5
  subst c5
  rw [if_neg (show ¬ (false = true) by decide)] at H
  simp only [Option.some.injEq,Prod.mk.injEq] at H
  obtain ⟨rfl,rfl,rfl,rfl⟩ := H
  go_enter Try.func6,Try.ntmps6
  go_wp2_with (first|((with_reducible refine gate_dst (N := 3) rfl ?_);refine box_event ?hg (N := 3) ?hd (cs := #[.string a0_0,.int .i64 a0_1,.int .i64 a0_2]) (t := 24) ?hr ?_;(case hd => rfl);(case hg => rfl);(case hr => first|(go_simp;done)|(go_simp;rfl));intro gb101 hg w23 hbox hb;have n0_ := Aside0.mk (below_step (by repeat (first|exact HB.out | apply zbA | apply zbB | apply zbC)) hb);have n1_ := Aside0.mk (hbox);have n2_ := Aside0.mk ((by rw [hg];exact (below_size (by repeat (first|exact HB.out | apply zbA | apply zbB | apply zbC))) : w.heap.size ≤ gb101));have n3_ := Aside0.mk ((by rw [hg];exact (below_size (by repeat (first|exact HB.out | apply zbA | apply zbB | apply zbC))) : w.heap.size ≤ gb101));clear HB;have HB := n0_;have BK101 := n1_;have GW101 := n2_;have GE101 := n3_;clear n0_ n1_ n2_ n3_;clear hb hbox hg)|((with_reducible refine gate_dst (N := 6) rfl ?_);refine box_event ?hg (N := 6) ?hd (cs := #[.string (⟨#[]⟩ : ByteArray),.int .i64 0,.int .i64 0]) (t := 24) ?hr ?_;(case hd => rfl);(case hg => rfl);(case hr => first|(go_simp;done)|(go_simp;rfl));intro gb102 hg w24 hbox hb;have n0_ := Aside0.mk (blk_below (g := gb101) (o := .cells #[.string a0_0,.int .i64 a0_1,.int .i64 a0_2] 24 (0,0)) (by (with_reducible repeat (first|apply zhA | apply zhB | apply zhC));exact BK101.out) hb);have n1_ := Aside0.mk (below_step (by repeat (first|(with_reducible first|exact HB.out | apply zbA | apply zbB | apply zbC | refine below_set ?_ GE101.out) | exact HB.out)) hb);have n2_ := Aside0.mk (hbox);have n3_ := Aside0.mk ((by rw [hg];exact (below_size (by repeat (first|(with_reducible first|exact HB.out | apply zbA | apply zbB | apply zbC | refine below_set ?_ GE101.out) | exact HB.out))) : w.heap.size ≤ gb102));have n4_ := Aside0.mk ((by rw [hg];exact (below_size (by repeat (first|(with_reducible first|exact HB.out | apply zbA | apply zbB | apply zbC | refine below_set ?_ GE101.out) | exact HB.out))) : w.heap.size ≤ gb102));have n5_ := Aside0.mk ((by rw [hg];exact Nat.ne_of_lt (blk_lt (g := gb101) (o := .cells #[.string a0_0,.int .i64 a0_1,.int .i64 a0_2] 24 (0,0)) (by (with_reducible repeat (first|apply zhA | apply zhB | apply zhC));exact BK101.out)) : gb101 ≠ gb102));have n6_ := Aside0.mk ((by rw [hg];exact Nat.ne_of_gt (blk_lt (g := gb101) (o := .cells #[.string a0_0,.int .i64 a0_1,.int .i64 a0_2] 24 (0,0)) (by (with_reducible repeat (first|apply zhA | apply zhB | apply zhC));exact BK101.out)) : gb102 ≠ gb101));clear BK101;clear HB;have BK101 := n0_;have HB := n1_;have BK102 := n2_;have GW102 := n3_;have GE102 := n4_;have NB101_102 := n5_;have NB102_101 := n6_;clear n0_ n1_ n2_ n3_ n4_ n5_ n6_;clear hb hbox hg;have hnb25 := NB101_102.out;have hnc25 := NB102_101.out;have hcz26_0 : w24.cell? ⟨gb101,0,none⟩ = some (.string a0_0) := (blk_cell BK101.out 0).trans rfl;have hcz26_1 : w24.cell? ⟨gb101,1,none⟩ = some (.int .i64 a0_1) := (blk_cell BK101.out 1).trans rfl;have hcz26_2 : w24.cell? ⟨gb101,2,none⟩ = some (.int .i64 a0_2) := (blk_cell BK101.out 2).trans rfl;have hfz26_0 := blk_frozen BK101.out 0;have hfz26_1 := blk_frozen BK101.out 1;have hfz26_2 := blk_frozen BK101.out 2)|((with_reducible refine gate_callee (f := 35) rfl ?_);refine goesL_ (some 9) rfl rfl Try.func35 (by kernel_rfl) rfl #[.agg #[.string a0_0,.int .i64 a0_1,.int .i64 a0_2]] rfl (by (try simp only [List.map_toArray,List.map_cons,List.map_nil]);first|done | rfl | (simp only [List.length_drop,List.length_take];rfl)) ?_;(with_reducible refine (impl_isCard.calls k a0_0 a0_1 a0_2 false _ A4.out).mono ?_);rintro e w27 ⟨rfl,hb⟩;refine ⟨_,rfl,?_⟩;have n0_ := Aside0.mk (blk_below (g := gb101) (o := .cells #[.string a0_0,.int .i64 a0_1,.int .i64 a0_2] 24 (0,0)) (by (with_reducible repeat (first|apply zhA | apply zhB | apply zhC));exact BK101.out) hb);have n1_ := Aside0.mk (blk_below (g := gb102) (o := .cells #[.string (⟨#[]⟩ : ByteArray),.int .i64 0,.int .i64 0] 24 (0,0)) (by (with_reducible repeat (first|apply zhA | apply zhB | apply zhC));exact BK102.out) hb);have n2_ := Aside0.mk (below_step (by repeat (first|(with_reducible first|exact HB.out | apply zbA | apply zbB | apply zbC | refine below_set ?_ GE101.out | refine below_set ?_ GE102.out) | exact HB.out)) hb);clear BK101;clear BK102;clear HB;have BK101 := n0_;have BK102 := n1_;have HB := n2_;clear n0_ n1_ n2_;(try clear hb);have hcz28_0 : w27.cell? ⟨gb102,0,none⟩ = some (.string (⟨#[]⟩ : ByteArray)) := (blk_cell BK102.out 0).trans rfl;have hcz28_1 : w27.cell? ⟨gb102,1,none⟩ = some (.int .i64 0) := (blk_cell BK102.out 1).trans rfl;have hcz28_2 : w27.cell? ⟨gb102,2,none⟩ = some (.int .i64 0) := (blk_cell BK102.out 2).trans rfl;have hfz28_0 := blk_frozen BK102.out 0;have hfz28_1 := blk_frozen BK102.out 1;have hfz28_2 := blk_frozen BK102.out 2))
  refine bodyPost_ret (results_ct rfl _ _ gb102 24 #[.string (⟨#[]⟩ : ByteArray),.int .i64 0,.int .i64 0] (0,0) _ rfl (by (with_reducible repeat (first|apply zhA | apply zhB | apply zhC));refine blk_put (cs := #[.string (⟨#[]⟩ : ByteArray),.int .i64 0,.int .i64 0]) ?_ 2 _ rfl;(with_reducible repeat (first|apply zhA | apply zhB | apply zhC));refine blk_put (cs := #[.string (⟨#[]⟩ : ByteArray),.int .i64 0,.int .i64 0]) ?_ 1 _ rfl;(with_reducible repeat (first|apply zhA | apply zhB | apply zhC));refine blk_put (cs := #[.string (⟨#[]⟩ : ByteArray),.int .i64 0,.int .i64 0]) ?_ 0 _ rfl;(with_reducible repeat (first|apply zhA | apply zhB | apply zhC));exact BK102.out) Try.underlying24 rfl (by kernel_rfl)) rfl ?_
  exact ⟨by first|rfl | (simp [*,errW_none,errW_some] <;> rfl),by repeat (first|(with_reducible first|exact HB.out | apply zbA | apply zbB | apply zbC | refine below_set ?_ GE101.out | refine below_set ?_ GE102.out) | exact HB.out)⟩

/-! ### spec_l1In: function 74 -/
def spec_l1In.f (a0 : Int) (a1 : Int) (a2 : Int) : Option (Bool) := if a0 ≥ a1 then (some (decide (a0 ≤ a2))) else (some false)
set_option maxHeartbeats 3000000 in
set_option maxRecDepth 100000 in
theorem spec_l1In.calls (a0 : Int) (a1 : Int) (a2 : Int) (r : Bool) (w : World) (h : spec_l1In.f a0 a1 a2 = some r) :
  Calls Try.prog 74 #[.int .i64 a0,.int .i64 a1,.int .i64 a2] w fun e w' => e = .returned (.bool r) ∧ Drawn0 w w' := by
 have H : (if a0 ≥ a1 then (some (decide (a0 ≤ a2))) else (some false)) = some r := h
 clear h
 by_cases c4 : a0 ≥ a1
 ·rw [if_pos c4] at H
  have c4b0 : decide (a1 ≤ a0) = true := decide_eq_true c4
  clear c4
  obtain rfl := Option.some.inj H
  go_enter Try.func74,Try.ntmps74
  go_wp2
  go_ret
  exact ⟨by first|rfl | (simp;done)|(simp [*];done),by repeat (first|exact Drawn0.refl _ | apply Drawn0.step)⟩
 ·rw [if_neg c4] at H
  have c4b0 : decide (a1 ≤ a0) = false := decide_eq_false c4
  clear c4
  obtain rfl := Option.some.inj H
  go_enter Try.func74,Try.ntmps74
  go_wp2
  go_ret
  exact ⟨by first|rfl | (simp;done)|(simp [*];done),by repeat (first|exact Drawn0.refl _ | apply Drawn0.step)⟩

/-! ### spec_rpDay: function 39 -/
def spec_rpDay.f (a0 : Int) : Option (Bool) := (spec_l1In.f a0 0 99999).bind fun t101 => (some t101)
set_option maxHeartbeats 3000000 in
set_option maxRecDepth 100000 in
theorem spec_rpDay.calls (a0 : Int) (r : Bool) (w : World) (h : spec_rpDay.f a0 = some r) :
  Calls Try.prog 39 #[.int .i64 a0] w fun e w' => e = .returned (.bool r) ∧ Drawn0 w w' := by
 have H : ((spec_l1In.f a0 0 99999).bind fun t101 => (some t101)) = some r := h
 clear h
 replace H := Option.bind_eq_some_iff.mp H
 obtain ⟨t101,A20,H⟩ := H
 try dsimp only at H
 have A2 := Aside0.mk A20
 clear A20
 obtain rfl := Option.some.inj H
 go_enter Try.func39,Try.ntmps39
 go_wp2_with (first|((with_reducible refine gate_callee (f := 74) rfl ?_);refine goesM_ (some 4) Try.func74 #[.int .i64 a0,.int .i64 0,.int .i64 99999] ?_;(with_reducible refine (spec_l1In.calls a0 0 99999 t101 _ A2.out).mono ?_);rintro e w' ⟨rfl,⟨nd,rfl⟩⟩;refine ⟨_,rfl,?_⟩))
 go_ret
 exact ⟨by first|rfl | (simp;done)|(simp [*];done),by repeat (first|exact Drawn0.refl _ | apply Drawn0.step)⟩

/-! ### spec_fsWord: function 44 -/
def spec_fsWord.l0 : Nat → ByteArray → Int → Option (Bool)
 | 0,_,_ => none
 | k + 1,x0,x3 => if x3 < (x0.size : Int) then (if 0 ≤ x3 then (if (bt x0 x3) < 65 then (some false) else (if (bt x0 x3) > 90 then (some false) else (spec_fsWord.l0 k x0 (wrap64 (x3 + 1))))) else (none)) else ((spec_l1In.f (x0.size : Int) 1 8).bind fun t101 => (some t101))
def spec_fsWord.f (k : Nat) (a0 : ByteArray) : Option (Bool) := spec_fsWord.l0 k a0 0
theorem spec_fsWord.mono_l : ∀ k,(∀ y0 y1,LeO (spec_fsWord.l0 k y0 y1) (spec_fsWord.l0 (k + 1) y0 y1))
 | 0 => fun _ _ r h => by simp [spec_fsWord.l0] at h
 | k + 1 => by
  have ih0 := spec_fsWord.mono_l k
  ·intro y0 y1
   unfold spec_fsWord.l0
   repeat' first
   | (with_reducible exact ih0 _ _)
   | (with_reducible exact LeO.refl _)
   | (with_reducible exact LeO.none _)
   | (with_reducible refine LeO.ite ?_ ?_)
   | (with_reducible refine LeO.bind ?_ (fun _ => ?_))
theorem spec_fsWord.mono : ∀ a0 k,LeO (spec_fsWord.f k a0) (spec_fsWord.f (k + 1) a0) := by
 intro a0 k
 have ih0 := spec_fsWord.mono_l k
 unfold spec_fsWord.f
 repeat' first
   | (with_reducible exact ih0 _ _)
   | (with_reducible exact LeO.refl _)
   | (with_reducible exact LeO.none _)
   | (with_reducible refine LeO.ite ?_ ?_)
   | (with_reducible refine LeO.bind ?_ (fun _ => ?_))
set_option maxHeartbeats 3000000 in
set_option maxRecDepth 100000 in
theorem spec_fsWord.calls (k : Nat) (a0 : ByteArray) (r : Bool) (w : World) (h : spec_fsWord.f k a0 = some r) :
  Calls Try.prog 44 #[.string a0] w fun e w' => e = .returned (.bool r) ∧ Drawn0 w w' := by
 have H : (spec_fsWord.l0 k a0 0) = some r := h
 clear h
 have H' := Aside0.mk H
 clear H
 go_enter Try.func44,Try.ntmps44
 go_wp2
 go_loopg [3] k (fun kq v3 w' => ∃ (x3_1 : Int),v3 = .int .i64 x3_1 ∧ Aside0 (spec_fsWord.l0 kq a0 x3_1 = some r) ∧ Aside0 (kq ≤ k) ∧ Drawn0 w w')
 case atStart => exact ⟨(0),(by first|rfl | (simp;done)|(simp [*];done)),H',⟨Nat.le_refl _⟩,by repeat (first|exact Drawn0.refl _ | apply Drawn0.step)⟩
 case round =>
  clear H'
  obtain ⟨x3_1,rfl,HA,HK1,⟨m1,rfl⟩⟩ := hrel
  cases gk with
  | zero => exact absurd HA.out (by simp [spec_fsWord.l0])
  | succ k1 =>
   have H := HA.out
   clear HA
   simp only [spec_fsWord.l0] at H
   by_cases c2 : x3_1 < (a0.size : Int)
   ·rw [if_pos c2] at H
    have c2b0 : decide (x3_1 < (a0.size : Int)) = true := decide_eq_true c2
    clear c2
    by_cases c3 : 0 ≤ x3_1
    ·rw [if_pos c3] at H
     have c3b0 : decide (0 ≤ x3_1) = true := decide_eq_true c3
     clear c3
     by_cases c5 : (bt a0 x3_1) < 65
     ·rw [if_pos c5] at H
      have c5b0 : decide ((bt a0 x3_1) < 65) = true := decide_eq_true c5
      clear c5
      obtain rfl := Option.some.inj H
      have p4 : 0 ≤ (x3_1 : Int) := of_decide_eq_true (by assumption)
      have q4 : x3_1 < (a0.size : Int) := of_decide_eq_true (by assumption)
      have hx4 := bt_at a0 x3_1
      replace p4 := eq_true p4
      replace q4 := eq_true q4
      go_wp2
      go_ret
      exact ⟨by first|rfl | (simp;done)|(simp [*];done),by repeat (first|exact Drawn0.refl _ | apply Drawn0.step)⟩
     ·rw [if_neg c5] at H
      have c5b0 : decide ((bt a0 x3_1) < 65) = false := decide_eq_false c5
      clear c5
      by_cases c7 : (bt a0 x3_1) > 90
      ·rw [if_pos c7] at H
       have c7b0 : decide (90 < (bt a0 x3_1)) = true := decide_eq_true c7
       clear c7
       obtain rfl := Option.some.inj H
       have p4 : 0 ≤ (x3_1 : Int) := of_decide_eq_true (by assumption)
       have q4 : x3_1 < (a0.size : Int) := of_decide_eq_true (by assumption)
       have hx4 := bt_at a0 x3_1
       replace p4 := eq_true p4
       replace q4 := eq_true q4
       have p6 : 0 ≤ (x3_1 : Int) := of_decide_eq_true (by assumption)
       have q6 : x3_1 < (a0.size : Int) := of_decide_eq_true (by assumption)
       have hx6 := bt_at a0 x3_1
       replace p6 := eq_true p6
       replace q6 := eq_true q6
       go_wp2
       go_ret
       exact ⟨by first|rfl | (simp;done)|(simp [*];done),by repeat (first|exact Drawn0.refl _ | apply Drawn0.step)⟩
      ·rw [if_neg c7] at H
       have c7b0 : decide (90 < (bt a0 x3_1)) = false := decide_eq_false c7
       clear c7
       have H' := Aside0.mk H
       clear H
       have p4 : 0 ≤ (x3_1 : Int) := of_decide_eq_true (by assumption)
       have q4 : x3_1 < (a0.size : Int) := of_decide_eq_true (by assumption)
       have hx4 := bt_at a0 x3_1
       replace p4 := eq_true p4
       replace q4 := eq_true q4
       have p6 : 0 ≤ (x3_1 : Int) := of_decide_eq_true (by assumption)
       have q6 : x3_1 < (a0.size : Int) := of_decide_eq_true (by assumption)
       have hx6 := bt_at a0 x3_1
       replace p6 := eq_true p6
       replace q6 := eq_true q6
       go_wp2
       go_roundg k1
       case measure => have := HK1.out;omega
       case rel => exact ⟨(wrap64 (x3_1 + 1)),(by first|rfl | (simp;done)|(simp [*];done)),H',⟨by have := HK1.out;omega⟩,by repeat (first|exact Drawn0.refl _ | apply Drawn0.step)⟩
    ·rw [if_neg c3] at H
     exact absurd H (by simp)
   ·rw [if_neg c2] at H
    have c2b0 : decide (x3_1 < (a0.size : Int)) = false := decide_eq_false c2
    clear c2
    replace H := Option.bind_eq_some_iff.mp H
    obtain ⟨t101,A80,H⟩ := H
    try dsimp only at H
    have A8 := Aside0.mk A80
    clear A80
    obtain rfl := Option.some.inj H
    go_wp2_with (first|((with_reducible refine gate_callee (f := 74) rfl ?_);refine goesM_ (some 22) Try.func74 #[.int .i64 (a0.size : Int),.int .i64 1,.int .i64 8] ?_;(with_reducible refine (spec_l1In.calls (a0.size : Int) 1 8 t101 _ A8.out).mono ?_);rintro e w' ⟨rfl,⟨nd,rfl⟩⟩;refine ⟨_,rfl,?_⟩))
    go_ret
    exact ⟨by first|rfl | (simp;done)|(simp [*];done),by repeat (first|exact Drawn0.refl _ | apply Drawn0.step)⟩

/-! ### spec_rpOne: function 38 -/
def spec_rpOne.f (k : Nat) (a0_0 : ByteArray) (a0_1 : Int) (a0_2 : Int) : Option (Bool) := (spec_fsWord.f k a0_0).bind fun t102 => (if t102 = true then ((spec_l1In.f a0_1 0 5).bind fun t103 => (if t103 = true then ((spec_rpDay.f a0_2).bind fun t104 => (some t104)) else (some false))) else (some false))
theorem spec_rpOne.mono : ∀ a0 a1 a2 k,LeO (spec_rpOne.f k a0 a1 a2) (spec_rpOne.f (k + 1) a0 a1 a2) := by
 intro a0 a1 a2 k
 unfold spec_rpOne.f
 repeat' first
   | (with_reducible exact spec_fsWord.mono _ _)
   | (with_reducible exact LeO.refl _)
   | (with_reducible exact LeO.none _)
   | (with_reducible refine LeO.ite ?_ ?_)
   | (with_reducible refine LeO.bind ?_ (fun _ => ?_))
set_option maxHeartbeats 3000000 in
set_option maxRecDepth 100000 in
theorem spec_rpOne.calls (k : Nat) (a0_0 : ByteArray) (a0_1 : Int) (a0_2 : Int) (r : Bool) (w : World) (h : spec_rpOne.f k a0_0 a0_1 a0_2 = some r) :
  Calls Try.prog 38 #[.agg #[.string a0_0,.int .i64 a0_1,.int .i64 a0_2]] w fun e w' => e = .returned (.bool r) ∧ Below w.heap.size w w' := by
 have hu24 := Try.underlying24
 have HB := Aside0.mk (Below.refl w.heap.size w)
 have H : ((spec_fsWord.f k a0_0).bind fun t102 => (if t102 = true then ((spec_l1In.f a0_1 0 5).bind fun t103 => (if t103 = true then ((spec_rpDay.f a0_2).bind fun t104 => (some t104)) else (some false))) else (some false))) = some r := h
 clear h
 replace H := Option.bind_eq_some_iff.mp H
 obtain ⟨t102,A20,H⟩ := H
 try dsimp only at H
 have A2 := Aside0.mk A20
 clear A20
 by_cases c3 : t102 = true
 ·subst c3
  rw [if_pos rfl] at H
  replace H := Option.bind_eq_some_iff.mp H
  obtain ⟨t103,A40,H⟩ := H
  try dsimp only at H
  have A4 := Aside0.mk A40
  clear A40
  by_cases c5 : t103 = true
  ·subst c5
   rw [if_pos rfl] at H
   replace H := Option.bind_eq_some_iff.mp H
   obtain ⟨t104,A60,H⟩ := H
   try dsimp only at H
   have A6 := Aside0.mk A60
   clear A60
   obtain rfl := Option.some.inj H
   go_enter Try.func38,Try.ntmps38
   go_wp2_with (first|((with_reducible refine gate_dst (N := 1) rfl ?_);refine box_event ?hg (N := 1) ?hd (cs := #[.string a0_0,.int .i64 a0_1,.int .i64 a0_2]) (t := 24) ?hr ?_;(case hd => rfl);(case hg => rfl);(case hr => first|(go_simp;done)|(go_simp;rfl));intro gb101 hg w7 hbox hb;have n0_ := Aside0.mk (below_step (by repeat (first|exact HB.out | apply zbA | apply zbB | apply zbC)) hb);have n1_ := Aside0.mk (hbox);have n2_ := Aside0.mk ((by rw [hg];exact (below_size (by repeat (first|exact HB.out | apply zbA | apply zbB | apply zbC))) : w.heap.size ≤ gb101));have n3_ := Aside0.mk ((by rw [hg];exact (below_size (by repeat (first|exact HB.out | apply zbA | apply zbB | apply zbC))) : w.heap.size ≤ gb101));clear HB;have HB := n0_;have BK101 := n1_;have GW101 := n2_;have GE101 := n3_;clear n0_ n1_ n2_ n3_;clear hb hbox hg;have hcz8_0 : w7.cell? ⟨gb101,0,none⟩ = some (.string a0_0) := (blk_cell BK101.out 0).trans rfl;have hcz8_1 : w7.cell? ⟨gb101,1,none⟩ = some (.int .i64 a0_1) := (blk_cell BK101.out 1).trans rfl;have hcz8_2 : w7.cell? ⟨gb101,2,none⟩ = some (.int .i64 a0_2) := (blk_cell BK101.out 2).trans rfl;have hfz8_0 := blk_frozen BK101.out 0;have hfz8_1 := blk_frozen BK101.out 1;have hfz8_2 := blk_frozen BK101.out 2)|((with_reducible refine gate_callee (f := 44) rfl ?_);refine goesM_ (some 5) Try.func44 #[.string a0_0] ?_;(with_reducible refine (spec_fsWord.calls k a0_0 true _ A2.out).mono ?_);rintro e w' ⟨rfl,⟨nd,rfl⟩⟩;refine ⟨_,rfl,?_⟩)|(go_at_call 74;(with_reducible refine (spec_l1In.calls a0_1 0 5 true _ A4.out).mono ?_);rintro e w' ⟨rfl,⟨nd,rfl⟩⟩)|(go_at_call 39;(with_reducible refine (spec_rpDay.calls a0_2 t104 _ A6.out).mono ?_);rintro e w' ⟨rfl,⟨nd,rfl⟩⟩))
   go_ret
   exact ⟨by first|rfl | (simp [*,errW_none,errW_some] <;> rfl),by repeat (first|(with_reducible first|exact HB.out | apply zbA | apply zbB | apply zbC | refine below_set ?_ GE101.out) | exact HB.out)⟩
  ·replace c5 := Bool.eq_false_iff.mpr c5
   subst c5
   rw [if_neg (show ¬ (false = true) by decide)] at H
   obtain rfl := Option.some.inj H
   go_enter Try.func38,Try.ntmps38
   go_wp2_with (first|((with_reducible refine gate_dst (N := 1) rfl ?_);refine box_event ?hg (N := 1) ?hd (cs := #[.string a0_0,.int .i64 a0_1,.int .i64 a0_2]) (t := 24) ?hr ?_;(case hd => rfl);(case hg => rfl);(case hr => first|(go_simp;done)|(go_simp;rfl));intro gb101 hg w9 hbox hb;have n0_ := Aside0.mk (below_step (by repeat (first|exact HB.out | apply zbA | apply zbB | apply zbC)) hb);have n1_ := Aside0.mk (hbox);have n2_ := Aside0.mk ((by rw [hg];exact (below_size (by repeat (first|exact HB.out | apply zbA | apply zbB | apply zbC))) : w.heap.size ≤ gb101));have n3_ := Aside0.mk ((by rw [hg];exact (below_size (by repeat (first|exact HB.out | apply zbA | apply zbB | apply zbC))) : w.heap.size ≤ gb101));clear HB;have HB := n0_;have BK101 := n1_;have GW101 := n2_;have GE101 := n3_;clear n0_ n1_ n2_ n3_;clear hb hbox hg;have hcz10_0 : w9.cell? ⟨gb101,0,none⟩ = some (.string a0_0) := (blk_cell BK101.out 0).trans rfl;have hcz10_1 : w9.cell? ⟨gb101,1,none⟩ = some (.int .i64 a0_1) := (blk_cell BK101.out 1).trans rfl;have hcz10_2 : w9.cell? ⟨gb101,2,none⟩ = some (.int .i64 a0_2) := (blk_cell BK101.out 2).trans rfl;have hfz10_0 := blk_frozen BK101.out 0;have hfz10_1 := blk_frozen BK101.out 1;have hfz10_2 := blk_frozen BK101.out 2)|((with_reducible refine gate_callee (f := 44) rfl ?_);refine goesM_ (some 5) Try.func44 #[.string a0_0] ?_;(with_reducible refine (spec_fsWord.calls k a0_0 true _ A2.out).mono ?_);rintro e w' ⟨rfl,⟨nd,rfl⟩⟩;refine ⟨_,rfl,?_⟩)|(go_at_call 74;(with_reducible refine (spec_l1In.calls a0_1 0 5 false _ A4.out).mono ?_);rintro e w' ⟨rfl,⟨nd,rfl⟩⟩))
   go_ret
   exact ⟨by first|rfl | (simp [*,errW_none,errW_some] <;> rfl),by repeat (first|(with_reducible first|exact HB.out | apply zbA | apply zbB | apply zbC | refine below_set ?_ GE101.out) | exact HB.out)⟩
 ·replace c3 := Bool.eq_false_iff.mpr c3
  subst c3
  rw [if_neg (show ¬ (false = true) by decide)] at H
  obtain rfl := Option.some.inj H
  go_enter Try.func38,Try.ntmps38
  go_wp2_with (first|((with_reducible refine gate_dst (N := 1) rfl ?_);refine box_event ?hg (N := 1) ?hd (cs := #[.string a0_0,.int .i64 a0_1,.int .i64 a0_2]) (t := 24) ?hr ?_;(case hd => rfl);(case hg => rfl);(case hr => first|(go_simp;done)|(go_simp;rfl));intro gb101 hg w11 hbox hb;have n0_ := Aside0.mk (below_step (by repeat (first|exact HB.out | apply zbA | apply zbB | apply zbC)) hb);have n1_ := Aside0.mk (hbox);have n2_ := Aside0.mk ((by rw [hg];exact (below_size (by repeat (first|exact HB.out | apply zbA | apply zbB | apply zbC))) : w.heap.size ≤ gb101));have n3_ := Aside0.mk ((by rw [hg];exact (below_size (by repeat (first|exact HB.out | apply zbA | apply zbB | apply zbC))) : w.heap.size ≤ gb101));clear HB;have HB := n0_;have BK101 := n1_;have GW101 := n2_;have GE101 := n3_;clear n0_ n1_ n2_ n3_;clear hb hbox hg;have hcz12_0 : w11.cell? ⟨gb101,0,none⟩ = some (.string a0_0) := (blk_cell BK101.out 0).trans rfl;have hcz12_1 : w11.cell? ⟨gb101,1,none⟩ = some (.int .i64 a0_1) := (blk_cell BK101.out 1).trans rfl;have hcz12_2 : w11.cell? ⟨gb101,2,none⟩ = some (.int .i64 a0_2) := (blk_cell BK101.out 2).trans rfl;have hfz12_0 := blk_frozen BK101.out 0;have hfz12_1 := blk_frozen BK101.out 1;have hfz12_2 := blk_frozen BK101.out 2)|((with_reducible refine gate_callee (f := 44) rfl ?_);refine goesM_ (some 5) Try.func44 #[.string a0_0] ?_;(with_reducible refine (spec_fsWord.calls k a0_0 false _ A2.out).mono ?_);rintro e w' ⟨rfl,⟨nd,rfl⟩⟩;refine ⟨_,rfl,?_⟩))
  go_ret
  exact ⟨by first|rfl | (simp [*,errW_none,errW_some] <;> rfl),by repeat (first|(with_reducible first|exact HB.out | apply zbA | apply zbB | apply zbC | refine below_set ?_ GE101.out) | exact HB.out)⟩

/-! ### spec_l1Least: function 75 -/
def spec_l1Least.f (a0 : Int) (a1 : Int) : Option (Int) := if a0 < a1 then (some a0) else (some a1)
set_option maxHeartbeats 3000000 in
set_option maxRecDepth 100000 in
theorem spec_l1Least.calls (a0 : Int) (a1 : Int) (r : Int) (w : World) (h : spec_l1Least.f a0 a1 = some r) :
  Calls Try.prog 75 #[.int .i64 a0,.int .i64 a1] w fun e w' => e = .returned (.int .i64 r) ∧ Drawn0 w w' := by
 have H : (if a0 < a1 then (some a0) else (some a1)) = some r := h
 clear h
 by_cases c3 : a0 < a1
 ·rw [if_pos c3] at H
  have c3b0 : decide (a0 < a1) = true := decide_eq_true c3
  clear c3
  obtain rfl := Option.some.inj H
  go_enter Try.func75,Try.ntmps75
  go_wp2
  go_ret
  exact ⟨by first|rfl | (simp;done)|(simp [*];done),by repeat (first|exact Drawn0.refl _ | apply Drawn0.step)⟩
 ·rw [if_neg c3] at H
  have c3b0 : decide (a0 < a1) = false := decide_eq_false c3
  clear c3
  obtain rfl := Option.some.inj H
  go_enter Try.func75,Try.ntmps75
  go_wp2
  go_ret
  exact ⟨by first|rfl | (simp;done)|(simp [*];done),by repeat (first|exact Drawn0.refl _ | apply Drawn0.step)⟩

/-! ### spec_rpNext: function 40 -/
def spec_rpNext.f (a0_0 : ByteArray) (a0_1 : Int) (a0_2 : Int) (a1 : Int) (a2 : Bool) : Option (ByteArray × Int × Int × Bool) := if a0_2 > a1 then (some ((⟨#[]⟩ : ByteArray),0,0,false)) else (if a2 = true then ((spec_l1Least.f 5 (wrap64 (a0_1 + 1))).bind fun t103 => (if 0 ≤ (IntKind.u64.wrap (t103)) then ((spec_rpDay.f (wrap64 (a1 + (shl .i64 1 (IntKind.u64.wrap (t103)))))).bind fun t104 => (if t104 = true then (some (a0_0,t103,wrap64 (a1 + (shl .i64 1 (IntKind.u64.wrap (t103)))),true)) else (some ((⟨#[]⟩ : ByteArray),0,0,false)))) else (none))) else ((spec_rpDay.f (wrap64 (a1 + 1))).bind fun t105 => (if t105 = true then (some (a0_0,0,wrap64 (a1 + 1),true)) else (some ((⟨#[]⟩ : ByteArray),0,0,false)))))
set_option maxHeartbeats 3000000 in
set_option maxRecDepth 100000 in
theorem spec_rpNext.calls (a0_0 : ByteArray) (a0_1 : Int) (a0_2 : Int) (a1 : Int) (a2 : Bool) (r1 : ByteArray) (r2 : Int) (r3 : Int) (r4 : Bool) (w : World) (h : spec_rpNext.f a0_0 a0_1 a0_2 a1 a2 = some (r1,r2,r3,r4)) :
  Calls Try.prog 40 #[.agg #[.string a0_0,.int .i64 a0_1,.int .i64 a0_2],.int .i64 a1,.bool a2] w fun e w' => e = .returned (.tuple #[.agg #[.string r1,.int .i64 r2,.int .i64 r3],.bool r4]) ∧ Below w.heap.size w w' := by
 have hu24 := Try.underlying24
 have HB := Aside0.mk (Below.refl w.heap.size w)
 have H : (if a0_2 > a1 then (some ((⟨#[]⟩ : ByteArray),0,0,false)) else (if a2 = true then ((spec_l1Least.f 5 (wrap64 (a0_1 + 1))).bind fun t103 => (if 0 ≤ (IntKind.u64.wrap (t103)) then ((spec_rpDay.f (wrap64 (a1 + (shl .i64 1 (IntKind.u64.wrap (t103)))))).bind fun t104 => (if t104 = true then (some (a0_0,t103,wrap64 (a1 + (shl .i64 1 (IntKind.u64.wrap (t103)))),true)) else (some ((⟨#[]⟩ : ByteArray),0,0,false)))) else (none))) else ((spec_rpDay.f (wrap64 (a1 + 1))).bind fun t105 => (if t105 = true then (some (a0_0,0,wrap64 (a1 + 1),true)) else (some ((⟨#[]⟩ : ByteArray),0,0,false)))))) = some (r1,r2,r3,r4) := h
 clear h
 by_cases c4 : a0_2 > a1
 ·rw [if_pos c4] at H
  have c4b0 : decide (a1 < a0_2) = true := decide_eq_true c4
  clear c4
  simp only [Option.some.injEq,Prod.mk.injEq] at H
  obtain ⟨rfl,rfl,rfl,rfl⟩ := H
  go_enter Try.func40,Try.ntmps40
  go_wp2_with (first|((with_reducible refine gate_dst (N := 3) rfl ?_);refine box_event ?hg (N := 3) ?hd (cs := #[.string a0_0,.int .i64 a0_1,.int .i64 a0_2]) (t := 24) ?hr ?_;(case hd => rfl);(case hg => rfl);(case hr => first|(go_simp;done)|(go_simp;rfl));intro gb101 hg w5 hbox hb;have n0_ := Aside0.mk (below_step (by repeat (first|exact HB.out | apply zbA | apply zbB | apply zbC)) hb);have n1_ := Aside0.mk (hbox);have n2_ := Aside0.mk ((by rw [hg];exact (below_size (by repeat (first|exact HB.out | apply zbA | apply zbB | apply zbC))) : w.heap.size ≤ gb101));have n3_ := Aside0.mk ((by rw [hg];exact (below_size (by repeat (first|exact HB.out | apply zbA | apply zbB | apply zbC))) : w.heap.size ≤ gb101));clear HB;have HB := n0_;have BK101 := n1_;have GW101 := n2_;have GE101 := n3_;clear n0_ n1_ n2_ n3_;clear hb hbox hg)|((with_reducible refine gate_dst (N := 6) rfl ?_);refine box_event ?hg (N := 6) ?hd (cs := #[.string (⟨#[]⟩ : ByteArray),.int .i64 0,.int .i64 0]) (t := 24) ?hr ?_;(case hd => rfl);(case hg => rfl);(case hr => first|(go_simp;done)|(go_simp;rfl));intro gb102 hg w6 hbox hb;have n0_ := Aside0.mk (blk_below (g := gb101) (o := .cells #[.string a0_0,.int .i64 a0_1,.int .i64 a0_2] 24 (0,0)) (by (with_reducible repeat (first|apply zhA | apply zhB | apply zhC));exact BK101.out) hb);have n1_ := Aside0.mk (below_step (by repeat (first|(with_reducible first|exact HB.out | apply zbA | apply zbB | apply zbC | refine below_set ?_ GE101.out) | exact HB.out)) hb);have n2_ := Aside0.mk (hbox);have n3_ := Aside0.mk ((by rw [hg];exact (below_size (by repeat (first|(with_reducible first|exact HB.out | apply zbA | apply zbB | apply zbC | refine below_set ?_ GE101.out) | exact HB.out))) : w.heap.size ≤ gb102));have n4_ := Aside0.mk ((by rw [hg];exact (below_size (by repeat (first|(with_reducible first|exact HB.out | apply zbA | apply zbB | apply zbC | refine below_set ?_ GE101.out) | exact HB.out))) : w.heap.size ≤ gb102));have n5_ := Aside0.mk ((by rw [hg];exact Nat.ne_of_lt (blk_lt (g := gb101) (o := .cells #[.string a0_0,.int .i64 a0_1,.int .i64 a0_2] 24 (0,0)) (by (with_reducible repeat (first|apply zhA | apply zhB | apply zhC));exact BK101.out)) : gb101 ≠ gb102));have n6_ := Aside0.mk ((by rw [hg];exact Nat.ne_of_gt (blk_lt (g := gb101) (o := .cells #[.string a0_0,.int .i64 a0_1,.int .i64 a0_2] 24 (0,0)) (by (with_reducible repeat (first|apply zhA | apply zhB | apply zhC));exact BK101.out)) : gb102 ≠ gb101));clear BK101;clear HB;have BK101 := n0_;have HB := n1_;have BK102 := n2_;have GW102 := n3_;have GE102 := n4_;have NB101_102 := n5_;have NB102_101 := n6_;clear n0_ n1_ n2_ n3_ n4_ n5_ n6_;clear hb hbox hg;have hnb7 := NB101_102.out;have hnc7 := NB102_101.out;have hcz8_0 : w6.cell? ⟨gb101,0,none⟩ = some (.string a0_0) := (blk_cell BK101.out 0).trans rfl;have hcz8_1 : w6.cell? ⟨gb101,1,none⟩ = some (.int .i64 a0_1) := (blk_cell BK101.out 1).trans rfl;have hcz8_2 : w6.cell? ⟨gb101,2,none⟩ = some (.int .i64 a0_2) := (blk_cell BK101.out 2).trans rfl;have hfz8_0 := blk_frozen BK101.out 0;have hfz8_1 := blk_frozen BK101.out 1;have hfz8_2 := blk_frozen BK101.out 2;have hcz9_0 : w6.cell? ⟨gb102,0,none⟩ = some (.string (⟨#[]⟩ : ByteArray)) := (blk_cell BK102.out 0).trans rfl;have hcz9_1 : w6.cell? ⟨gb102,1,none⟩ = some (.int .i64 0) := (blk_cell BK102.out 1).trans rfl;have hcz9_2 : w6.cell? ⟨gb102,2,none⟩ = some (.int .i64 0) := (blk_cell BK102.out 2).trans rfl;have hfz9_0 := blk_frozen BK102.out 0;have hfz9_1 := blk_frozen BK102.out 1;have hfz9_2 := blk_frozen BK102.out 2))
  refine bodyPost_ret (results_ct rfl _ _ gb102 24 #[.string (⟨#[]⟩ : ByteArray),.int .i64 0,.int .i64 0] (0,0) _ rfl (by (with_reducible repeat (first|apply zhA | apply zhB | apply zhC));refine blk_put (cs := #[.string (⟨#[]⟩ : ByteArray),.int .i64 0,.int .i64 0]) ?_ 2 _ rfl;(with_reducible repeat (first|apply zhA | apply zhB | apply zhC));refine blk_put (cs := #[.string (⟨#[]⟩ : ByteArray),.int .i64 0,.int .i64 0]) ?_ 1 _ rfl;(with_reducible repeat (first|apply zhA | apply zhB | apply zhC));refine blk_put (cs := #[.string (⟨#[]⟩ : ByteArray),.int .i64 0,.int .i64 0]) ?_ 0 _ rfl;(with_reducible repeat (first|apply zhA | apply zhB | apply zhC));exact BK102.out) Try.underlying24 rfl (by kernel_rfl)) rfl ?_
  exact ⟨by first|rfl | (simp [*,errW_none,errW_some] <;> rfl),by repeat (first|(with_reducible first|exact HB.out | apply zbA | apply zbB | apply zbC | refine below_set ?_ GE101.out | refine below_set ?_ GE102.out) | exact HB.out)⟩
 ·rw [if_neg c4] at H
  have c4b0 : decide (a1 < a0_2) = false := decide_eq_false c4
  clear c4
  by_cases c10 : a2 = true
  ·subst c10
   rw [if_pos rfl] at H
   replace H := Option.bind_eq_some_iff.mp H
   obtain ⟨t103,A110,H⟩ := H
   try dsimp only at H
   have A11 := Aside0.mk A110
   clear A110
   obtain ⟨ji12,hji12⟩ : ∃ j_ : Int,(IntKind.u64.wrap (t103)) = j_ := ⟨_,rfl⟩
   replace H : (if 0 ≤ (ji12) then ((spec_rpDay.f (wrap64 (a1 + (shl .i64 1 (ji12))))).bind fun t104 => (if t104 = true then (some (a0_0,t103,wrap64 (a1 + (shl .i64 1 (ji12))),true)) else (some ((⟨#[]⟩ : ByteArray),0,0,false)))) else (none)) = some (r1,r2,r3,r4) := by first|(rw [hji12] at H;exact H)|(simp only [hji12] at H ⊢;exact H)
   (try rw [hji12] at A11)
   by_cases c13 : 0 ≤ (ji12)
   ·rw [if_pos c13] at H
    have c13b0 := eq_true c13
    have c13b1 : decide (0 ≤ (ji12)) = true := decide_eq_true c13
    clear c13
    obtain ⟨ji14,hji14⟩ : ∃ j_ : Int,(shl .i64 1 (ji12)) = j_ := ⟨_,rfl⟩
    replace H : ((spec_rpDay.f (wrap64 (a1 + (ji14)))).bind fun t104 => (if t104 = true then (some (a0_0,t103,wrap64 (a1 + (ji14)),true)) else (some ((⟨#[]⟩ : ByteArray),0,0,false)))) = some (r1,r2,r3,r4) := by first|(rw [hji14] at H;exact H)|(simp only [hji14] at H ⊢;exact H)
    (try rw [hji14] at A11)
    have hji14_ : (IntKind.i64.wrap (1 * 2 ^ min (ji12).toNat 64)) = ji14 := hji14
    have hji14z : (ji12) ≤ 64 → (IntKind.i64.wrap (1 * 2 ^ (ji12).toNat)) = ji14 := shl_small hji14
    have hji14u : (IntKind.i64.wrap (2 ^ min (ji12).toNat 64)) = ji14 := by have h_ := hji14_;rw [Int.one_mul] at h_;exact h_
    have hji14v : (ji12) ≤ 64 → (IntKind.i64.wrap (2 ^ (ji12).toNat)) = ji14 := fun hle_ => by have h_ := hji14z hle_;rw [Int.one_mul] at h_;exact h_
    have hji14y : (wrap64 (1 * 2 ^ min (ji12).toNat 64)) = ji14 := (i64_w _).symm.trans hji14_
    have hji14x : (ji12) ≤ 64 → (wrap64 (1 * 2 ^ (ji12).toNat)) = ji14 := fun h_ => (i64_w _).symm.trans (hji14z h_)
    replace H := Option.bind_eq_some_iff.mp H
    obtain ⟨t104,A150,H⟩ := H
    try dsimp only at H
    have A15 := Aside0.mk A150
    clear A150
    by_cases c16 : t104 = true
    ·subst c16
     rw [if_pos rfl] at H
     simp only [Option.some.injEq,Prod.mk.injEq] at H
     obtain ⟨rfl,rfl,rfl,rfl⟩ := H
     go_enter Try.func40,Try.ntmps40
     go_wp2_with (first|((with_reducible refine gate_dst (N := 3) rfl ?_);refine box_event ?hg (N := 3) ?hd (cs := #[.string a0_0,.int .i64 a0_1,.int .i64 a0_2]) (t := 24) ?hr ?_;(case hd => rfl);(case hg => rfl);(case hr => first|(go_simp;done)|(go_simp;rfl));intro gb101 hg w17 hbox hb;have n0_ := Aside0.mk (below_step (by repeat (first|exact HB.out | apply zbA | apply zbB | apply zbC)) hb);have n1_ := Aside0.mk (hbox);have n2_ := Aside0.mk ((by rw [hg];exact (below_size (by repeat (first|exact HB.out | apply zbA | apply zbB | apply zbC))) : w.heap.size ≤ gb101));have n3_ := Aside0.mk ((by rw [hg];exact (below_size (by repeat (first|exact HB.out | apply zbA | apply zbB | apply zbC))) : w.heap.size ≤ gb101));clear HB;have HB := n0_;have BK101 := n1_;have GW101 := n2_;have GE101 := n3_;clear n0_ n1_ n2_ n3_;clear hb hbox hg)|((with_reducible refine gate_dst (N := 6) rfl ?_);refine box_event ?hg (N := 6) ?hd (cs := #[.string (⟨#[]⟩ : ByteArray),.int .i64 0,.int .i64 0]) (t := 24) ?hr ?_;(case hd => rfl);(case hg => rfl);(case hr => first|(go_simp;done)|(go_simp;rfl));intro gb102 hg w18 hbox hb;have n0_ := Aside0.mk (blk_below (g := gb101) (o := .cells #[.string a0_0,.int .i64 a0_1,.int .i64 a0_2] 24 (0,0)) (by (with_reducible repeat (first|apply zhA | apply zhB | apply zhC));exact BK101.out) hb);have n1_ := Aside0.mk (below_step (by repeat (first|(with_reducible first|exact HB.out | apply zbA | apply zbB | apply zbC | refine below_set ?_ GE101.out) | exact HB.out)) hb);have n2_ := Aside0.mk (hbox);have n3_ := Aside0.mk ((by rw [hg];exact (below_size (by repeat (first|(with_reducible first|exact HB.out | apply zbA | apply zbB | apply zbC | refine below_set ?_ GE101.out) | exact HB.out))) : w.heap.size ≤ gb102));have n4_ := Aside0.mk ((by rw [hg];exact (below_size (by repeat (first|(with_reducible first|exact HB.out | apply zbA | apply zbB | apply zbC | refine below_set ?_ GE101.out) | exact HB.out))) : w.heap.size ≤ gb102));have n5_ := Aside0.mk ((by rw [hg];exact Nat.ne_of_lt (blk_lt (g := gb101) (o := .cells #[.string a0_0,.int .i64 a0_1,.int .i64 a0_2] 24 (0,0)) (by (with_reducible repeat (first|apply zhA | apply zhB | apply zhC));exact BK101.out)) : gb101 ≠ gb102));have n6_ := Aside0.mk ((by rw [hg];exact Nat.ne_of_gt (blk_lt (g := gb101) (o := .cells #[.string a0_0,.int .i64 a0_1,.int .i64 a0_2] 24 (0,0)) (by (with_reducible repeat (first|apply zhA | apply zhB | apply zhC));exact BK101.out)) : gb102 ≠ gb101));clear BK101;clear HB;have BK101 := n0_;have HB := n1_;have BK102 := n2_;have GW102 := n3_;have GE102 := n4_;have NB101_102 := n5_;have NB102_101 := n6_;clear n0_ n1_ n2_ n3_ n4_ n5_ n6_;clear hb hbox hg;have hnb19 := NB101_102.out;have hnc19 := NB102_101.out;have hcz20_0 : w18.cell? ⟨gb101,0,none⟩ = some (.string a0_0) := (blk_cell BK101.out 0).trans rfl;have hcz20_1 : w18.cell? ⟨gb101,1,none⟩ = some (.int .i64 a0_1) := (blk_cell BK101.out 1).trans rfl;have hcz20_2 : w18.cell? ⟨gb101,2,none⟩ = some (.int .i64 a0_2) := (blk_cell BK101.out 2).trans rfl;have hfz20_0 := blk_frozen BK101.out 0;have hfz20_1 := blk_frozen BK101.out 1;have hfz20_2 := blk_frozen BK101.out 2)|((with_reducible refine gate_callee (f := 75) rfl ?_);refine goesM_ (some 17) Try.func75 #[.int .i64 5,.int .i64 (wrap64 (a0_1 + 1))] ?_;(with_reducible refine (spec_l1Least.calls 5 (wrap64 (a0_1 + 1)) t103 _ A11.out).mono ?_);rintro e w' ⟨rfl,⟨nd,rfl⟩⟩;refine ⟨_,rfl,?_⟩;(try (rw [drewN_self w18];generalize hq_ : World.drewN w18 _ = w18;have n0_ : Aside0 (w18.heap[gb101]? = some (.cells #[.string a0_0,.int .i64 a0_1,.int .i64 a0_2] 24 (0,0))) := ⟨by rw [← hq_];exact (by (with_reducible repeat (first|apply zhA | apply zhB | apply zhC));exact BK101.out)⟩;have n1_ : Aside0 (w18.heap[gb102]? = some (.cells #[.string (⟨#[]⟩ : ByteArray),.int .i64 0,.int .i64 0] 24 (0,0))) := ⟨by rw [← hq_];exact (by (with_reducible repeat (first|apply zhA | apply zhB | apply zhC));exact BK102.out)⟩;have n2_ : Aside0 (Below w.heap.size w w18) := ⟨by rw [← hq_];exact (by repeat (first|(with_reducible first|exact HB.out | apply zbA | apply zbB | apply zbC | refine below_set ?_ GE101.out | refine below_set ?_ GE102.out) | exact HB.out))⟩;clear BK101 BK102 HB hq_;have BK101 := n0_;have BK102 := n1_;have HB := n2_;clear n0_ n1_ n2_;have hczqgb101_0 : w18.cell? ⟨gb101,0,none⟩ = some (.string a0_0) := (blk_cell BK101.out 0).trans rfl;have hfzqgb101_0 := blk_frozen BK101.out 0;have hczqgb101_1 : w18.cell? ⟨gb101,1,none⟩ = some (.int .i64 a0_1) := (blk_cell BK101.out 1).trans rfl;have hfzqgb101_1 := blk_frozen BK101.out 1;have hczqgb101_2 : w18.cell? ⟨gb101,2,none⟩ = some (.int .i64 a0_2) := (blk_cell BK101.out 2).trans rfl;have hfzqgb101_2 := blk_frozen BK101.out 2;have hczqgb102_0 : w18.cell? ⟨gb102,0,none⟩ = some (.string (⟨#[]⟩ : ByteArray)) := (blk_cell BK102.out 0).trans rfl;have hfzqgb102_0 := blk_frozen BK102.out 0;have hczqgb102_1 : w18.cell? ⟨gb102,1,none⟩ = some (.int .i64 0) := (blk_cell BK102.out 1).trans rfl;have hfzqgb102_1 := blk_frozen BK102.out 1;have hczqgb102_2 : w18.cell? ⟨gb102,2,none⟩ = some (.int .i64 0) := (blk_cell BK102.out 2).trans rfl;have hfzqgb102_2 := blk_frozen BK102.out 2)))|((with_reducible refine gate_callee (f := 39) rfl ?_);refine goesL_ (some 29) rfl rfl Try.func39 (by kernel_rfl) rfl #[.int .i64 (wrap64 (a1 + (ji14)))] rfl (by (try simp only [List.map_toArray,List.map_cons,List.map_nil]);first|done | (simp only [hji14];rfl) | rfl | (simp only [List.length_drop,List.length_take];rfl)) ?_;(with_reducible refine (spec_rpDay.calls (wrap64 (a1 + (ji14))) true _ A15.out).mono ?_);rintro e w' ⟨rfl,⟨nd,rfl⟩⟩;refine ⟨_,rfl,?_⟩;have hcz21_0 : w18.cell? ⟨gb102,0,none⟩ = some (.string (⟨#[]⟩ : ByteArray)) := (blk_cell BK102.out 0).trans rfl;have hcz21_1 : w18.cell? ⟨gb102,1,none⟩ = some (.int .i64 0) := (blk_cell BK102.out 1).trans rfl;have hcz21_2 : w18.cell? ⟨gb102,2,none⟩ = some (.int .i64 0) := (blk_cell BK102.out 2).trans rfl;have hfz21_0 := blk_frozen BK102.out 0;have hfz21_1 := blk_frozen BK102.out 1;have hfz21_2 := blk_frozen BK102.out 2))
     refine bodyPost_ret (results_ct rfl _ _ gb102 24 #[.string a0_0,.int .i64 t103,.int .i64 (wrap64 (a1 + (ji14)))] (0,0) _ rfl (by (with_reducible repeat (first|apply zhA | apply zhB | apply zhC));refine blk_put (cs := #[.string a0_0,.int .i64 t103,.int .i64 0]) ?_ 2 _ rfl;(with_reducible repeat (first|apply zhA | apply zhB | apply zhC));refine blk_put (cs := #[.string a0_0,.int .i64 0,.int .i64 0]) ?_ 1 _ rfl;(with_reducible repeat (first|apply zhA | apply zhB | apply zhC));refine blk_put (cs := #[.string (⟨#[]⟩ : ByteArray),.int .i64 0,.int .i64 0]) ?_ 0 _ rfl;(with_reducible repeat (first|apply zhA | apply zhB | apply zhC));refine blk_far ?_ NB102_101.out _;(with_reducible repeat (first|apply zhA | apply zhB | apply zhC));refine blk_far ?_ NB102_101.out _;(with_reducible repeat (first|apply zhA | apply zhB | apply zhC));exact BK102.out) Try.underlying24 rfl (by kernel_rfl)) rfl ?_
     exact ⟨by first|rfl | (simp [errW_none,errW_some] <;> rfl)|(simp only [← hji12,← hji14];first|rfl | (simp [errW_none,errW_some] <;> rfl))|(simp [*,errW_none,errW_some] <;> rfl),by repeat (first|(with_reducible first|exact HB.out | apply zbA | apply zbB | apply zbC | refine below_set ?_ GE101.out | refine below_set ?_ GE102.out) | exact HB.out)⟩
    ·replace c16 := Bool.eq_false_iff.mpr c16
     subst c16
     rw [if_neg (show ¬ (false = true) by decide)] at H
     simp only [Option.some.injEq,Prod.mk.injEq] at H
     obtain ⟨rfl,rfl,rfl,rfl⟩ := H
     go_enter Try.func40,Try.ntmps40
     go_wp2_with (first|((with_reducible refine gate_dst (N := 3) rfl ?_);refine box_event ?hg (N := 3) ?hd (cs := #[.string a0_0,.int .i64 a0_1,.int .i64 a0_2]) (t := 24) ?hr ?_;(case hd => rfl);(case hg => rfl);(case hr => first|(go_simp;done)|(go_simp;rfl));intro gb101 hg w22 hbox hb;have n0_ := Aside0.mk (below_step (by repeat (first|exact HB.out | apply zbA | apply zbB | apply zbC)) hb);have n1_ := Aside0.mk (hbox);have n2_ := Aside0.mk ((by rw [hg];exact (below_size (by repeat (first|exact HB.out | apply zbA | apply zbB | apply zbC))) : w.heap.size ≤ gb101));have n3_ := Aside0.mk ((by rw [hg];exact (below_size (by repeat (first|exact HB.out | apply zbA | apply zbB | apply zbC))) : w.heap.size ≤ gb101));clear HB;have HB := n0_;have BK101 := n1_;have GW101 := n2_;have GE101 := n3_;clear n0_ n1_ n2_ n3_;clear hb hbox hg)|((with_reducible refine gate_dst (N := 6) rfl ?_);refine box_event ?hg (N := 6) ?hd (cs := #[.string (⟨#[]⟩ : ByteArray),.int .i64 0,.int .i64 0]) (t := 24) ?hr ?_;(case hd => rfl);(case hg => rfl);(case hr => first|(go_simp;done)|(go_simp;rfl));intro gb102 hg w23 hbox hb;have n0_ := Aside0.mk (blk_below (g := gb101) (o := .cells #[.string a0_0,.int .i64 a0_1,.int .i64 a0_2] 24 (0,0)) (by (with_reducible repeat (first|apply zhA | apply zhB | apply zhC));exact BK101.out) hb);have n1_ := Aside0.mk (below_step (by repeat (first|(with_reducible first|exact HB.out | apply zbA | apply zbB | apply zbC | refine below_set ?_ GE101.out) | exact HB.out)) hb);have n2_ := Aside0.mk (hbox);have n3_ := Aside0.mk ((by rw [hg];exact (below_size (by repeat (first|(with_reducible first|exact HB.out | apply zbA | apply zbB | apply zbC | refine below_set ?_ GE101.out) | exact HB.out))) : w.heap.size ≤ gb102));have n4_ := Aside0.mk ((by rw [hg];exact (below_size (by repeat (first|(with_reducible first|exact HB.out | apply zbA | apply zbB | apply zbC | refine below_set ?_ GE101.out) | exact HB.out))) : w.heap.size ≤ gb102));have n5_ := Aside0.mk ((by rw [hg];exact Nat.ne_of_lt (blk_lt (g := gb101) (o := .cells #[.string a0_0,.int .i64 a0_1,.int .i64 a0_2] 24 (0,0)) (by (with_reducible repeat (first|apply zhA | apply zhB | apply zhC));exact BK101.out)) : gb101 ≠ gb102));have n6_ := Aside0.mk ((by rw [hg];exact Nat.ne_of_gt (blk_lt (g := gb101) (o := .cells #[.string a0_0,.int .i64 a0_1,.int .i64 a0_2] 24 (0,0)) (by (with_reducible repeat (first|apply zhA | apply zhB | apply zhC));exact BK101.out)) : gb102 ≠ gb101));clear BK101;clear HB;have BK101 := n0_;have HB := n1_;have BK102 := n2_;have GW102 := n3_;have GE102 := n4_;have NB101_102 := n5_;have NB102_101 := n6_;clear n0_ n1_ n2_ n3_ n4_ n5_ n6_;clear hb hbox hg;have hnb24 := NB101_102.out;have hnc24 := NB102_101.out;have hcz25_0 : w23.cell? ⟨gb101,0,none⟩ = some (.string a0_0) := (blk_cell BK101.out 0).trans rfl;have hcz25_1 : w23.cell? ⟨gb101,1,none⟩ = some (.int .i64 a0_1) := (blk_cell BK101.out 1).trans rfl;have hcz25_2 : w23.cell? ⟨gb101,2,none⟩ = some (.int .i64 a0_2) := (blk_cell BK101.out 2).trans rfl;have hfz25_0 := blk_frozen BK101.out 0;have hfz25_1 := blk_frozen BK101.out 1;have hfz25_2 := blk_frozen BK101.out 2)|((with_reducible refine gate_callee (f := 75) rfl ?_);refine goesM_ (some 17) Try.func75 #[.int .i64 5,.int .i64 (wrap64 (a0_1 + 1))] ?_;(with_reducible refine (spec_l1Least.calls 5 (wrap64 (a0_1 + 1)) t103 _ A11.out).mono ?_);rintro e w' ⟨rfl,⟨nd,rfl⟩⟩;refine ⟨_,rfl,?_⟩;(try (rw [drewN_self w23];generalize hq_ : World.drewN w23 _ = w23;have n0_ : Aside0 (w23.heap[gb101]? = some (.cells #[.string a0_0,.int .i64 a0_1,.int .i64 a0_2] 24 (0,0))) := ⟨by rw [← hq_];exact (by (with_reducible repeat (first|apply zhA | apply zhB | apply zhC));exact BK101.out)⟩;have n1_ : Aside0 (w23.heap[gb102]? = some (.cells #[.string (⟨#[]⟩ : ByteArray),.int .i64 0,.int .i64 0] 24 (0,0))) := ⟨by rw [← hq_];exact (by (with_reducible repeat (first|apply zhA | apply zhB | apply zhC));exact BK102.out)⟩;have n2_ : Aside0 (Below w.heap.size w w23) := ⟨by rw [← hq_];exact (by repeat (first|(with_reducible first|exact HB.out | apply zbA | apply zbB | apply zbC | refine below_set ?_ GE101.out | refine below_set ?_ GE102.out) | exact HB.out))⟩;clear BK101 BK102 HB hq_;have BK101 := n0_;have BK102 := n1_;have HB := n2_;clear n0_ n1_ n2_;have hczqgb101_0 : w23.cell? ⟨gb101,0,none⟩ = some (.string a0_0) := (blk_cell BK101.out 0).trans rfl;have hfzqgb101_0 := blk_frozen BK101.out 0;have hczqgb101_1 : w23.cell? ⟨gb101,1,none⟩ = some (.int .i64 a0_1) := (blk_cell BK101.out 1).trans rfl;have hfzqgb101_1 := blk_frozen BK101.out 1;have hczqgb101_2 : w23.cell? ⟨gb101,2,none⟩ = some (.int .i64 a0_2) := (blk_cell BK101.out 2).trans rfl;have hfzqgb101_2 := blk_frozen BK101.out 2;have hczqgb102_0 : w23.cell? ⟨gb102,0,none⟩ = some (.string (⟨#[]⟩ : ByteArray)) := (blk_cell BK102.out 0).trans rfl;have hfzqgb102_0 := blk_frozen BK102.out 0;have hczqgb102_1 : w23.cell? ⟨gb102,1,none⟩ = some (.int .i64 0) := (blk_cell BK102.out 1).trans rfl;have hfzqgb102_1 := blk_frozen BK102.out 1;have hczqgb102_2 : w23.cell? ⟨gb102,2,none⟩ = some (.int .i64 0) := (blk_cell BK102.out 2).trans rfl;have hfzqgb102_2 := blk_frozen BK102.out 2)))|((with_reducible refine gate_callee (f := 39) rfl ?_);refine goesL_ (some 29) rfl rfl Try.func39 (by kernel_rfl) rfl #[.int .i64 (wrap64 (a1 + (ji14)))] rfl (by (try simp only [List.map_toArray,List.map_cons,List.map_nil]);first|done | (simp only [hji14];rfl) | rfl | (simp only [List.length_drop,List.length_take];rfl)) ?_;(with_reducible refine (spec_rpDay.calls (wrap64 (a1 + (ji14))) false _ A15.out).mono ?_);rintro e w' ⟨rfl,⟨nd,rfl⟩⟩;refine ⟨_,rfl,?_⟩;have hcz26_0 : w23.cell? ⟨gb102,0,none⟩ = some (.string (⟨#[]⟩ : ByteArray)) := (blk_cell BK102.out 0).trans rfl;have hcz26_1 : w23.cell? ⟨gb102,1,none⟩ = some (.int .i64 0) := (blk_cell BK102.out 1).trans rfl;have hcz26_2 : w23.cell? ⟨gb102,2,none⟩ = some (.int .i64 0) := (blk_cell BK102.out 2).trans rfl;have hfz26_0 := blk_frozen BK102.out 0;have hfz26_1 := blk_frozen BK102.out 1;have hfz26_2 := blk_frozen BK102.out 2))
     refine bodyPost_ret (results_ct rfl _ _ gb102 24 #[.string (⟨#[]⟩ : ByteArray),.int .i64 0,.int .i64 0] (0,0) _ rfl (by (with_reducible repeat (first|apply zhA | apply zhB | apply zhC));refine blk_put (cs := #[.string (⟨#[]⟩ : ByteArray),.int .i64 0,.int .i64 0]) ?_ 2 _ rfl;(with_reducible repeat (first|apply zhA | apply zhB | apply zhC));refine blk_put (cs := #[.string (⟨#[]⟩ : ByteArray),.int .i64 0,.int .i64 0]) ?_ 1 _ rfl;(with_reducible repeat (first|apply zhA | apply zhB | apply zhC));refine blk_put (cs := #[.string (⟨#[]⟩ : ByteArray),.int .i64 0,.int .i64 0]) ?_ 0 _ rfl;(with_reducible repeat (first|apply zhA | apply zhB | apply zhC));refine blk_far ?_ NB102_101.out _;(with_reducible repeat (first|apply zhA | apply zhB | apply zhC));refine blk_far ?_ NB102_101.out _;(with_reducible repeat (first|apply zhA | apply zhB | apply zhC));exact BK102.out) Try.underlying24 rfl (by kernel_rfl)) rfl ?_
     exact ⟨by first|rfl | (simp [errW_none,errW_some] <;> rfl)|(simp only [← hji12,← hji14];first|rfl | (simp [errW_none,errW_some] <;> rfl))|(simp [*,errW_none,errW_some] <;> rfl),by repeat (first|(with_reducible first|exact HB.out | apply zbA | apply zbB | apply zbC | refine below_set ?_ GE101.out | refine below_set ?_ GE102.out) | exact HB.out)⟩
   ·rw [if_neg c13] at H
    exact absurd H (by simp)
  ·replace c10 := Bool.eq_false_iff.mpr c10
   subst c10
   rw [if_neg (show ¬ (false = true) by decide)] at H
   replace H := Option.bind_eq_some_iff.mp H
   obtain ⟨t105,A270,H⟩ := H
   try dsimp only at H
   have A27 := Aside0.mk A270
   clear A270
   by_cases c28 : t105 = true
   ·subst c28
    rw [if_pos rfl] at H
    simp only [Option.some.injEq,Prod.mk.injEq] at H
    obtain ⟨rfl,rfl,rfl,rfl⟩ := H
    go_enter Try.func40,Try.ntmps40
    go_wp2_with (first|((with_reducible refine gate_dst (N := 3) rfl ?_);refine box_event ?hg (N := 3) ?hd (cs := #[.string a0_0,.int .i64 a0_1,.int .i64 a0_2]) (t := 24) ?hr ?_;(case hd => rfl);(case hg => rfl);(case hr => first|(go_simp;done)|(go_simp;rfl));intro gb101 hg w29 hbox hb;have n0_ := Aside0.mk (below_step (by repeat (first|exact HB.out | apply zbA | apply zbB | apply zbC)) hb);have n1_ := Aside0.mk (hbox);have n2_ := Aside0.mk ((by rw [hg];exact (below_size (by repeat (first|exact HB.out | apply zbA | apply zbB | apply zbC))) : w.heap.size ≤ gb101));have n3_ := Aside0.mk ((by rw [hg];exact (below_size (by repeat (first|exact HB.out | apply zbA | apply zbB | apply zbC))) : w.heap.size ≤ gb101));clear HB;have HB := n0_;have BK101 := n1_;have GW101 := n2_;have GE101 := n3_;clear n0_ n1_ n2_ n3_;clear hb hbox hg)|((with_reducible refine gate_dst (N := 6) rfl ?_);refine box_event ?hg (N := 6) ?hd (cs := #[.string (⟨#[]⟩ : ByteArray),.int .i64 0,.int .i64 0]) (t := 24) ?hr ?_;(case hd => rfl);(case hg => rfl);(case hr => first|(go_simp;done)|(go_simp;rfl));intro gb102 hg w30 hbox hb;have n0_ := Aside0.mk (blk_below (g := gb101) (o := .cells #[.string a0_0,.int .i64 a0_1,.int .i64 a0_2] 24 (0,0)) (by (with_reducible repeat (first|apply zhA | apply zhB | apply zhC));exact BK101.out) hb);have n1_ := Aside0.mk (below_step (by repeat (first|(with_reducible first|exact HB.out | apply zbA | apply zbB | apply zbC | refine below_set ?_ GE101.out) | exact HB.out)) hb);have n2_ := Aside0.mk (hbox);have n3_ := Aside0.mk ((by rw [hg];exact (below_size (by repeat (first|(with_reducible first|exact HB.out | apply zbA | apply zbB | apply zbC | refine below_set ?_ GE101.out) | exact HB.out))) : w.heap.size ≤ gb102));have n4_ := Aside0.mk ((by rw [hg];exact (below_size (by repeat (first|(with_reducible first|exact HB.out | apply zbA | apply zbB | apply zbC | refine below_set ?_ GE101.out) | exact HB.out))) : w.heap.size ≤ gb102));have n5_ := Aside0.mk ((by rw [hg];exact Nat.ne_of_lt (blk_lt (g := gb101) (o := .cells #[.string a0_0,.int .i64 a0_1,.int .i64 a0_2] 24 (0,0)) (by (with_reducible repeat (first|apply zhA | apply zhB | apply zhC));exact BK101.out)) : gb101 ≠ gb102));have n6_ := Aside0.mk ((by rw [hg];exact Nat.ne_of_gt (blk_lt (g := gb101) (o := .cells #[.string a0_0,.int .i64 a0_1,.int .i64 a0_2] 24 (0,0)) (by (with_reducible repeat (first|apply zhA | apply zhB | apply zhC));exact BK101.out)) : gb102 ≠ gb101));clear BK101;clear HB;have BK101 := n0_;have HB := n1_;have BK102 := n2_;have GW102 := n3_;have GE102 := n4_;have NB101_102 := n5_;have NB102_101 := n6_;clear n0_ n1_ n2_ n3_ n4_ n5_ n6_;clear hb hbox hg;have hnb31 := NB101_102.out;have hnc31 := NB102_101.out;have hcz32_0 : w30.cell? ⟨gb101,0,none⟩ = some (.string a0_0) := (blk_cell BK101.out 0).trans rfl;have hcz32_1 : w30.cell? ⟨gb101,1,none⟩ = some (.int .i64 a0_1) := (blk_cell BK101.out 1).trans rfl;have hcz32_2 : w30.cell? ⟨gb101,2,none⟩ = some (.int .i64 a0_2) := (blk_cell BK101.out 2).trans rfl;have hfz32_0 := blk_frozen BK101.out 0;have hfz32_1 := blk_frozen BK101.out 1;have hfz32_2 := blk_frozen BK101.out 2)|((with_reducible refine gate_callee (f := 39) rfl ?_);refine goesM_ (some 29) Try.func39 #[.int .i64 (wrap64 (a1 + 1))] ?_;(with_reducible refine (spec_rpDay.calls (wrap64 (a1 + 1)) true _ A27.out).mono ?_);rintro e w' ⟨rfl,⟨nd,rfl⟩⟩;refine ⟨_,rfl,?_⟩;have hcz33_0 : w30.cell? ⟨gb102,0,none⟩ = some (.string (⟨#[]⟩ : ByteArray)) := (blk_cell BK102.out 0).trans rfl;have hcz33_1 : w30.cell? ⟨gb102,1,none⟩ = some (.int .i64 0) := (blk_cell BK102.out 1).trans rfl;have hcz33_2 : w30.cell? ⟨gb102,2,none⟩ = some (.int .i64 0) := (blk_cell BK102.out 2).trans rfl;have hfz33_0 := blk_frozen BK102.out 0;have hfz33_1 := blk_frozen BK102.out 1;have hfz33_2 := blk_frozen BK102.out 2))
    refine bodyPost_ret (results_ct rfl _ _ gb102 24 #[.string a0_0,.int .i64 0,.int .i64 (wrap64 (a1 + 1))] (0,0) _ rfl (by (with_reducible repeat (first|apply zhA | apply zhB | apply zhC));refine blk_put (cs := #[.string a0_0,.int .i64 0,.int .i64 0]) ?_ 2 _ rfl;(with_reducible repeat (first|apply zhA | apply zhB | apply zhC));refine blk_put (cs := #[.string a0_0,.int .i64 0,.int .i64 0]) ?_ 1 _ rfl;(with_reducible repeat (first|apply zhA | apply zhB | apply zhC));refine blk_put (cs := #[.string (⟨#[]⟩ : ByteArray),.int .i64 0,.int .i64 0]) ?_ 0 _ rfl;(with_reducible repeat (first|apply zhA | apply zhB | apply zhC));refine blk_far ?_ NB102_101.out _;(with_reducible repeat (first|apply zhA | apply zhB | apply zhC));refine blk_far ?_ NB102_101.out _;(with_reducible repeat (first|apply zhA | apply zhB | apply zhC));exact BK102.out) Try.underlying24 rfl (by kernel_rfl)) rfl ?_
    exact ⟨by first|rfl | (simp [*,errW_none,errW_some] <;> rfl),by repeat (first|(with_reducible first|exact HB.out | apply zbA | apply zbB | apply zbC | refine below_set ?_ GE101.out | refine below_set ?_ GE102.out) | exact HB.out)⟩
   ·replace c28 := Bool.eq_false_iff.mpr c28
    subst c28
    rw [if_neg (show ¬ (false = true) by decide)] at H
    simp only [Option.some.injEq,Prod.mk.injEq] at H
    obtain ⟨rfl,rfl,rfl,rfl⟩ := H
    go_enter Try.func40,Try.ntmps40
    go_wp2_with (first|((with_reducible refine gate_dst (N := 3) rfl ?_);refine box_event ?hg (N := 3) ?hd (cs := #[.string a0_0,.int .i64 a0_1,.int .i64 a0_2]) (t := 24) ?hr ?_;(case hd => rfl);(case hg => rfl);(case hr => first|(go_simp;done)|(go_simp;rfl));intro gb101 hg w34 hbox hb;have n0_ := Aside0.mk (below_step (by repeat (first|exact HB.out | apply zbA | apply zbB | apply zbC)) hb);have n1_ := Aside0.mk (hbox);have n2_ := Aside0.mk ((by rw [hg];exact (below_size (by repeat (first|exact HB.out | apply zbA | apply zbB | apply zbC))) : w.heap.size ≤ gb101));have n3_ := Aside0.mk ((by rw [hg];exact (below_size (by repeat (first|exact HB.out | apply zbA | apply zbB | apply zbC))) : w.heap.size ≤ gb101));clear HB;have HB := n0_;have BK101 := n1_;have GW101 := n2_;have GE101 := n3_;clear n0_ n1_ n2_ n3_;clear hb hbox hg)|((with_reducible refine gate_dst (N := 6) rfl ?_);refine box_event ?hg (N := 6) ?hd (cs := #[.string (⟨#[]⟩ : ByteArray),.int .i64 0,.int .i64 0]) (t := 24) ?hr ?_;(case hd => rfl);(case hg => rfl);(case hr => first|(go_simp;done)|(go_simp;rfl));intro gb102 hg w35 hbox hb;have n0_ := Aside0.mk (blk_below (g := gb101) (o := .cells #[.string a0_0,.int .i64 a0_1,.int .i64 a0_2] 24 (0,0)) (by (with_reducible repeat (first|apply zhA | apply zhB | apply zhC));exact BK101.out) hb);have n1_ := Aside0.mk (below_step (by repeat (first|(with_reducible first|exact HB.out | apply zbA | apply zbB | apply zbC | refine below_set ?_ GE101.out) | exact HB.out)) hb);have n2_ := Aside0.mk (hbox);have n3_ := Aside0.mk ((by rw [hg];exact (below_size (by repeat (first|(with_reducible first|exact HB.out | apply zbA | apply zbB | apply zbC | refine below_set ?_ GE101.out) | exact HB.out))) : w.heap.size ≤ gb102));have n4_ := Aside0.mk ((by rw [hg];exact (below_size (by repeat (first|(with_reducible first|exact HB.out | apply zbA | apply zbB | apply zbC | refine below_set ?_ GE101.out) | exact HB.out))) : w.heap.size ≤ gb102));have n5_ := Aside0.mk ((by rw [hg];exact Nat.ne_of_lt (blk_lt (g := gb101) (o := .cells #[.string a0_0,.int .i64 a0_1,.int .i64 a0_2] 24 (0,0)) (by (with_reducible repeat (first|apply zhA | apply zhB | apply zhC));exact BK101.out)) : gb101 ≠ gb102));have n6_ := Aside0.mk ((by rw [hg];exact Nat.ne_of_gt (blk_lt (g := gb101) (o := .cells #[.string a0_0,.int .i64 a0_1,.int .i64 a0_2] 24 (0,0)) (by (with_reducible repeat (first|apply zhA | apply zhB | apply zhC));exact BK101.out)) : gb102 ≠ gb101));clear BK101;clear HB;have BK101 := n0_;have HB := n1_;have BK102 := n2_;have GW102 := n3_;have GE102 := n4_;have NB101_102 := n5_;have NB102_101 := n6_;clear n0_ n1_ n2_ n3_ n4_ n5_ n6_;clear hb hbox hg;have hnb36 := NB101_102.out;have hnc36 := NB102_101.out;have hcz37_0 : w35.cell? ⟨gb101,0,none⟩ = some (.string a0_0) := (blk_cell BK101.out 0).trans rfl;have hcz37_1 : w35.cell? ⟨gb101,1,none⟩ = some (.int .i64 a0_1) := (blk_cell BK101.out 1).trans rfl;have hcz37_2 : w35.cell? ⟨gb101,2,none⟩ = some (.int .i64 a0_2) := (blk_cell BK101.out 2).trans rfl;have hfz37_0 := blk_frozen BK101.out 0;have hfz37_1 := blk_frozen BK101.out 1;have hfz37_2 := blk_frozen BK101.out 2)|((with_reducible refine gate_callee (f := 39) rfl ?_);refine goesM_ (some 29) Try.func39 #[.int .i64 (wrap64 (a1 + 1))] ?_;(with_reducible refine (spec_rpDay.calls (wrap64 (a1 + 1)) false _ A27.out).mono ?_);rintro e w' ⟨rfl,⟨nd,rfl⟩⟩;refine ⟨_,rfl,?_⟩;have hcz38_0 : w35.cell? ⟨gb102,0,none⟩ = some (.string (⟨#[]⟩ : ByteArray)) := (blk_cell BK102.out 0).trans rfl;have hcz38_1 : w35.cell? ⟨gb102,1,none⟩ = some (.int .i64 0) := (blk_cell BK102.out 1).trans rfl;have hcz38_2 : w35.cell? ⟨gb102,2,none⟩ = some (.int .i64 0) := (blk_cell BK102.out 2).trans rfl;have hfz38_0 := blk_frozen BK102.out 0;have hfz38_1 := blk_frozen BK102.out 1;have hfz38_2 := blk_frozen BK102.out 2))
    refine bodyPost_ret (results_ct rfl _ _ gb102 24 #[.string (⟨#[]⟩ : ByteArray),.int .i64 0,.int .i64 0] (0,0) _ rfl (by (with_reducible repeat (first|apply zhA | apply zhB | apply zhC));refine blk_put (cs := #[.string (⟨#[]⟩ : ByteArray),.int .i64 0,.int .i64 0]) ?_ 2 _ rfl;(with_reducible repeat (first|apply zhA | apply zhB | apply zhC));refine blk_put (cs := #[.string (⟨#[]⟩ : ByteArray),.int .i64 0,.int .i64 0]) ?_ 1 _ rfl;(with_reducible repeat (first|apply zhA | apply zhB | apply zhC));refine blk_put (cs := #[.string (⟨#[]⟩ : ByteArray),.int .i64 0,.int .i64 0]) ?_ 0 _ rfl;(with_reducible repeat (first|apply zhA | apply zhB | apply zhC));refine blk_far ?_ NB102_101.out _;(with_reducible repeat (first|apply zhA | apply zhB | apply zhC));refine blk_far ?_ NB102_101.out _;(with_reducible repeat (first|apply zhA | apply zhB | apply zhC));exact BK102.out) Try.underlying24 rfl (by kernel_rfl)) rfl ?_
    exact ⟨by first|rfl | (simp [*,errW_none,errW_some] <;> rfl),by repeat (first|(with_reducible first|exact HB.out | apply zbA | apply zbB | apply zbC | refine below_set ?_ GE101.out | refine below_set ?_ GE102.out) | exact HB.out)⟩

/-! ### spec_AnswerCard: function 7 -/
def spec_AnswerCard.f (k : Nat) (a0_0 : ByteArray) (a0_1 : Int) (a0_2 : Int) (a1 : Int) (a2 : Bool) : Option (ByteArray × Int × Int × Bool) := (spec_rpOne.f k a0_0 a0_1 a0_2).bind fun t103 => (if t103 = true then ((spec_rpDay.f a1).bind fun t104 => (if t104 = true then ((spec_rpNext.f a0_0 a0_1 a0_2 a1 a2).bind fun bt105 => (some (bt105.1,bt105.2.1,bt105.2.2.1,bt105.2.2.2))) else (some ((⟨#[]⟩ : ByteArray),0,0,false)))) else (some ((⟨#[]⟩ : ByteArray),0,0,false)))
theorem spec_AnswerCard.mono : ∀ a0 a1 a2 a3 a4 k,LeO (spec_AnswerCard.f k a0 a1 a2 a3 a4) (spec_AnswerCard.f (k + 1) a0 a1 a2 a3 a4) := by
 intro a0 a1 a2 a3 a4 k
 unfold spec_AnswerCard.f
 repeat' first
   | (with_reducible exact spec_rpOne.mono _ _ _ _)
   | (with_reducible exact LeO.refl _)
   | (with_reducible exact LeO.none _)
   | (with_reducible refine LeO.ite ?_ ?_)
   | (with_reducible refine LeO.bind ?_ (fun _ => ?_))
set_option maxHeartbeats 3000000 in
set_option maxRecDepth 100000 in
theorem spec_AnswerCard.calls (k : Nat) (a0_0 : ByteArray) (a0_1 : Int) (a0_2 : Int) (a1 : Int) (a2 : Bool) (r1 : ByteArray) (r2 : Int) (r3 : Int) (r4 : Bool) (w : World) (h : spec_AnswerCard.f k a0_0 a0_1 a0_2 a1 a2 = some (r1,r2,r3,r4)) :
  Calls Try.prog 7 #[.agg #[.string a0_0,.int .i64 a0_1,.int .i64 a0_2],.int .i64 a1,.bool a2] w fun e w' => e = .returned (.tuple #[.agg #[.string r1,.int .i64 r2,.int .i64 r3],.bool r4]) ∧ Below w.heap.size w w' := by
 have hu24 := Try.underlying24
 have HB := Aside0.mk (Below.refl w.heap.size w)
 have H : ((spec_rpOne.f k a0_0 a0_1 a0_2).bind fun t103 => (if t103 = true then ((spec_rpDay.f a1).bind fun t104 => (if t104 = true then ((spec_rpNext.f a0_0 a0_1 a0_2 a1 a2).bind fun bt105 => (some (bt105.1,bt105.2.1,bt105.2.2.1,bt105.2.2.2))) else (some ((⟨#[]⟩ : ByteArray),0,0,false)))) else (some ((⟨#[]⟩ : ByteArray),0,0,false)))) = some (r1,r2,r3,r4) := h
 clear h
 replace H := Option.bind_eq_some_iff.mp H
 obtain ⟨t103,A40,H⟩ := H
 try dsimp only at H
 have A4 := Aside0.mk A40
 clear A40
 by_cases c5 : t103 = true
 ·subst c5
  rw [if_pos rfl] at H
  replace H := Option.bind_eq_some_iff.mp H
  obtain ⟨t104,A60,H⟩ := H
  try dsimp only at H
  have A6 := Aside0.mk A60
  clear A60
  by_cases c7 : t104 = true
  ·subst c7
   rw [if_pos rfl] at H
   replace H := Option.bind_eq_some_iff.mp H
   obtain ⟨⟨t105,t106,t107,t108⟩,A80,H⟩ := H
   try dsimp only at H
   have A8 := Aside0.mk A80
   clear A80
   simp only [Option.some.injEq,Prod.mk.injEq] at H
   obtain ⟨rfl,rfl,rfl,rfl⟩ := H
   go_enter Try.func7,Try.ntmps7
   go_wp2_with (first|((with_reducible refine gate_dst (N := 3) rfl ?_);refine box_event ?hg (N := 3) ?hd (cs := #[.string a0_0,.int .i64 a0_1,.int .i64 a0_2]) (t := 24) ?hr ?_;(case hd => rfl);(case hg => rfl);(case hr => first|(go_simp;done)|(go_simp;rfl));intro gb101 hg w9 hbox hb;have n0_ := Aside0.mk (below_step (by repeat (first|exact HB.out | apply zbA | apply zbB | apply zbC)) hb);have n1_ := Aside0.mk (hbox);have n2_ := Aside0.mk ((by rw [hg];exact (below_size (by repeat (first|exact HB.out | apply zbA | apply zbB | apply zbC))) : w.heap.size ≤ gb101));have n3_ := Aside0.mk ((by rw [hg];exact (below_size (by repeat (first|exact HB.out | apply zbA | apply zbB | apply zbC))) : w.heap.size ≤ gb101));clear HB;have HB := n0_;have BK101 := n1_;have GW101 := n2_;have GE101 := n3_;clear n0_ n1_ n2_ n3_;clear hb hbox hg)|((with_reducible refine gate_dst (N := 6) rfl ?_);refine box_event ?hg (N := 6) ?hd (cs := #[.string (⟨#[]⟩ : ByteArray),.int .i64 0,.int .i64 0]) (t := 24) ?hr ?_;(case hd => rfl);(case hg => rfl);(case hr => first|(go_simp;done)|(go_simp;rfl));intro gb102 hg w10 hbox hb;have n0_ := Aside0.mk (blk_below (g := gb101) (o := .cells #[.string a0_0,.int .i64 a0_1,.int .i64 a0_2] 24 (0,0)) (by (with_reducible repeat (first|apply zhA | apply zhB | apply zhC));exact BK101.out) hb);have n1_ := Aside0.mk (below_step (by repeat (first|(with_reducible first|exact HB.out | apply zbA | apply zbB | apply zbC | refine below_set ?_ GE101.out) | exact HB.out)) hb);have n2_ := Aside0.mk (hbox);have n3_ := Aside0.mk ((by rw [hg];exact (below_size (by repeat (first|(with_reducible first|exact HB.out | apply zbA | apply zbB | apply zbC | refine below_set ?_ GE101.out) | exact HB.out))) : w.heap.size ≤ gb102));have n4_ := Aside0.mk ((by rw [hg];exact (below_size (by repeat (first|(with_reducible first|exact HB.out | apply zbA | apply zbB | apply zbC | refine below_set ?_ GE101.out) | exact HB.out))) : w.heap.size ≤ gb102));have n5_ := Aside0.mk ((by rw [hg];exact Nat.ne_of_lt (blk_lt (g := gb101) (o := .cells #[.string a0_0,.int .i64 a0_1,.int .i64 a0_2] 24 (0,0)) (by (with_reducible repeat (first|apply zhA | apply zhB | apply zhC));exact BK101.out)) : gb101 ≠ gb102));have n6_ := Aside0.mk ((by rw [hg];exact Nat.ne_of_gt (blk_lt (g := gb101) (o := .cells #[.string a0_0,.int .i64 a0_1,.int .i64 a0_2] 24 (0,0)) (by (with_reducible repeat (first|apply zhA | apply zhB | apply zhC));exact BK101.out)) : gb102 ≠ gb101));clear BK101;clear HB;have BK101 := n0_;have HB := n1_;have BK102 := n2_;have GW102 := n3_;have GE102 := n4_;have NB101_102 := n5_;have NB102_101 := n6_;clear n0_ n1_ n2_ n3_ n4_ n5_ n6_;clear hb hbox hg;have hnb11 := NB101_102.out;have hnc11 := NB102_101.out;have hcz12_0 : w10.cell? ⟨gb101,0,none⟩ = some (.string a0_0) := (blk_cell BK101.out 0).trans rfl;have hcz12_1 : w10.cell? ⟨gb101,1,none⟩ = some (.int .i64 a0_1) := (blk_cell BK101.out 1).trans rfl;have hcz12_2 : w10.cell? ⟨gb101,2,none⟩ = some (.int .i64 a0_2) := (blk_cell BK101.out 2).trans rfl;have hfz12_0 := blk_frozen BK101.out 0;have hfz12_1 := blk_frozen BK101.out 1;have hfz12_2 := blk_frozen BK101.out 2)|((with_reducible refine gate_callee (f := 38) rfl ?_);refine goesL_ (some 9) rfl rfl Try.func38 (by kernel_rfl) rfl #[.agg #[.string a0_0,.int .i64 a0_1,.int .i64 a0_2]] rfl (by (try simp only [List.map_toArray,List.map_cons,List.map_nil]);first|done | rfl | (simp only [List.length_drop,List.length_take];rfl)) ?_;(with_reducible refine (spec_rpOne.calls k a0_0 a0_1 a0_2 true _ A4.out).mono ?_);rintro e w13 ⟨rfl,hb⟩;refine ⟨_,rfl,?_⟩;have n0_ := Aside0.mk (blk_below (g := gb101) (o := .cells #[.string a0_0,.int .i64 a0_1,.int .i64 a0_2] 24 (0,0)) (by (with_reducible repeat (first|apply zhA | apply zhB | apply zhC));exact BK101.out) hb);have n1_ := Aside0.mk (blk_below (g := gb102) (o := .cells #[.string (⟨#[]⟩ : ByteArray),.int .i64 0,.int .i64 0] 24 (0,0)) (by (with_reducible repeat (first|apply zhA | apply zhB | apply zhC));exact BK102.out) hb);have n2_ := Aside0.mk (below_step (by repeat (first|(with_reducible first|exact HB.out | apply zbA | apply zbB | apply zbC | refine below_set ?_ GE101.out | refine below_set ?_ GE102.out) | exact HB.out)) hb);clear BK101;clear BK102;clear HB;have BK101 := n0_;have BK102 := n1_;have HB := n2_;clear n0_ n1_ n2_;(try clear hb))|(go_at_call 39;(with_reducible refine (spec_rpDay.calls a1 true _ A6.out).mono ?_);rintro e w' ⟨rfl,⟨nd,rfl⟩⟩;(try (rw [drewN_self w13];generalize hq_ : World.drewN w13 _ = w13;have n0_ : Aside0 (w13.heap[gb101]? = some (.cells #[.string a0_0,.int .i64 a0_1,.int .i64 a0_2] 24 (0,0))) := ⟨by rw [← hq_];exact (by (with_reducible repeat (first|apply zhA | apply zhB | apply zhC));exact BK101.out)⟩;have n1_ : Aside0 (w13.heap[gb102]? = some (.cells #[.string (⟨#[]⟩ : ByteArray),.int .i64 0,.int .i64 0] 24 (0,0))) := ⟨by rw [← hq_];exact (by (with_reducible repeat (first|apply zhA | apply zhB | apply zhC));exact BK102.out)⟩;have n2_ : Aside0 (Below w.heap.size w w13) := ⟨by rw [← hq_];exact (by repeat (first|(with_reducible first|exact HB.out | apply zbA | apply zbB | apply zbC | refine below_set ?_ GE101.out | refine below_set ?_ GE102.out) | exact HB.out))⟩;clear BK101 BK102 HB hq_;have BK101 := n0_;have BK102 := n1_;have HB := n2_;clear n0_ n1_ n2_;have hczqgb101_0 : w13.cell? ⟨gb101,0,none⟩ = some (.string a0_0) := (blk_cell BK101.out 0).trans rfl;have hfzqgb101_0 := blk_frozen BK101.out 0;have hczqgb101_1 : w13.cell? ⟨gb101,1,none⟩ = some (.int .i64 a0_1) := (blk_cell BK101.out 1).trans rfl;have hfzqgb101_1 := blk_frozen BK101.out 1;have hczqgb101_2 : w13.cell? ⟨gb101,2,none⟩ = some (.int .i64 a0_2) := (blk_cell BK101.out 2).trans rfl;have hfzqgb101_2 := blk_frozen BK101.out 2;have hczqgb102_0 : w13.cell? ⟨gb102,0,none⟩ = some (.string (⟨#[]⟩ : ByteArray)) := (blk_cell BK102.out 0).trans rfl;have hfzqgb102_0 := blk_frozen BK102.out 0;have hczqgb102_1 : w13.cell? ⟨gb102,1,none⟩ = some (.int .i64 0) := (blk_cell BK102.out 1).trans rfl;have hfzqgb102_1 := blk_frozen BK102.out 1;have hczqgb102_2 : w13.cell? ⟨gb102,2,none⟩ = some (.int .i64 0) := (blk_cell BK102.out 2).trans rfl;have hfzqgb102_2 := blk_frozen BK102.out 2));have hcz14_0 : w13.cell? ⟨gb101,0,none⟩ = some (.string a0_0) := (blk_cell BK101.out 0).trans rfl;have hcz14_1 : w13.cell? ⟨gb101,1,none⟩ = some (.int .i64 a0_1) := (blk_cell BK101.out 1).trans rfl;have hcz14_2 : w13.cell? ⟨gb101,2,none⟩ = some (.int .i64 a0_2) := (blk_cell BK101.out 2).trans rfl;have hfz14_0 := blk_frozen BK101.out 0;have hfz14_1 := blk_frozen BK101.out 1;have hfz14_2 := blk_frozen BK101.out 2)|((with_reducible refine gate_callee (f := 40) rfl ?_);refine goesL_ (some 20) rfl rfl Try.func40 (by kernel_rfl) rfl #[.agg #[.string a0_0,.int .i64 a0_1,.int .i64 a0_2],.int .i64 a1,.bool a2] rfl (by (try simp only [List.map_toArray,List.map_cons,List.map_nil]);first|done | rfl | (simp only [List.length_drop,List.length_take];rfl)) ?_;(with_reducible refine (spec_rpNext.calls a0_0 a0_1 a0_2 a1 a2 t105 t106 t107 t108 _ A8.out).mono ?_);rintro e w15 ⟨rfl,hb⟩;refine ⟨_,rfl,?_⟩;have n0_ := Aside0.mk (blk_below (g := gb101) (o := .cells #[.string a0_0,.int .i64 a0_1,.int .i64 a0_2] 24 (0,0)) (by (with_reducible repeat (first|apply zhA | apply zhB | apply zhC));exact BK101.out) hb);have n1_ := Aside0.mk (blk_below (g := gb102) (o := .cells #[.string (⟨#[]⟩ : ByteArray),.int .i64 0,.int .i64 0] 24 (0,0)) (by (with_reducible repeat (first|apply zhA | apply zhB | apply zhC));exact BK102.out) hb);have n2_ := Aside0.mk (below_step (by repeat (first|(with_reducible first|exact HB.out | apply zbA | apply zbB | apply zbC | refine below_set ?_ GE101.out | refine below_set ?_ GE102.out) | exact HB.out)) hb);clear BK101;clear BK102;clear HB;have BK101 := n0_;have BK102 := n1_;have HB := n2_;clear n0_ n1_ n2_;(try clear hb);have hcz16_0 : w15.cell? ⟨gb102,0,none⟩ = some (.string (⟨#[]⟩ : ByteArray)) := (blk_cell BK102.out 0).trans rfl;have hcz16_1 : w15.cell? ⟨gb102,1,none⟩ = some (.int .i64 0) := (blk_cell BK102.out 1).trans rfl;have hcz16_2 : w15.cell? ⟨gb102,2,none⟩ = some (.int .i64 0) := (blk_cell BK102.out 2).trans rfl;have hfz16_0 := blk_frozen BK102.out 0;have hfz16_1 := blk_frozen BK102.out 1;have hfz16_2 := blk_frozen BK102.out 2))
   refine bodyPost_ret (results_ct rfl _ _ gb102 24 #[.string t105,.int .i64 t106,.int .i64 t107] (0,0) _ rfl (by (with_reducible repeat (first|apply zhA | apply zhB | apply zhC));refine blk_put (cs := #[.string t105,.int .i64 t106,.int .i64 0]) ?_ 2 _ rfl;(with_reducible repeat (first|apply zhA | apply zhB | apply zhC));refine blk_put (cs := #[.string t105,.int .i64 0,.int .i64 0]) ?_ 1 _ rfl;(with_reducible repeat (first|apply zhA | apply zhB | apply zhC));refine blk_put (cs := #[.string (⟨#[]⟩ : ByteArray),.int .i64 0,.int .i64 0]) ?_ 0 _ rfl;(with_reducible repeat (first|apply zhA | apply zhB | apply zhC));exact BK102.out) Try.underlying24 rfl (by kernel_rfl)) rfl ?_
   exact ⟨by first|rfl | (simp [*,errW_none,errW_some] <;> rfl),by repeat (first|(with_reducible first|exact HB.out | apply zbA | apply zbB | apply zbC | refine below_set ?_ GE101.out | refine below_set ?_ GE102.out) | exact HB.out)⟩
  ·replace c7 := Bool.eq_false_iff.mpr c7
   subst c7
   rw [if_neg (show ¬ (false = true) by decide)] at H
   simp only [Option.some.injEq,Prod.mk.injEq] at H
   obtain ⟨rfl,rfl,rfl,rfl⟩ := H
   go_enter Try.func7,Try.ntmps7
   go_wp2_with (first|((with_reducible refine gate_dst (N := 3) rfl ?_);refine box_event ?hg (N := 3) ?hd (cs := #[.string a0_0,.int .i64 a0_1,.int .i64 a0_2]) (t := 24) ?hr ?_;(case hd => rfl);(case hg => rfl);(case hr => first|(go_simp;done)|(go_simp;rfl));intro gb101 hg w17 hbox hb;have n0_ := Aside0.mk (below_step (by repeat (first|exact HB.out | apply zbA | apply zbB | apply zbC)) hb);have n1_ := Aside0.mk (hbox);have n2_ := Aside0.mk ((by rw [hg];exact (below_size (by repeat (first|exact HB.out | apply zbA | apply zbB | apply zbC))) : w.heap.size ≤ gb101));have n3_ := Aside0.mk ((by rw [hg];exact (below_size (by repeat (first|exact HB.out | apply zbA | apply zbB | apply zbC))) : w.heap.size ≤ gb101));clear HB;have HB := n0_;have BK101 := n1_;have GW101 := n2_;have GE101 := n3_;clear n0_ n1_ n2_ n3_;clear hb hbox hg)|((with_reducible refine gate_dst (N := 6) rfl ?_);refine box_event ?hg (N := 6) ?hd (cs := #[.string (⟨#[]⟩ : ByteArray),.int .i64 0,.int .i64 0]) (t := 24) ?hr ?_;(case hd => rfl);(case hg => rfl);(case hr => first|(go_simp;done)|(go_simp;rfl));intro gb102 hg w18 hbox hb;have n0_ := Aside0.mk (blk_below (g := gb101) (o := .cells #[.string a0_0,.int .i64 a0_1,.int .i64 a0_2] 24 (0,0)) (by (with_reducible repeat (first|apply zhA | apply zhB | apply zhC));exact BK101.out) hb);have n1_ := Aside0.mk (below_step (by repeat (first|(with_reducible first|exact HB.out | apply zbA | apply zbB | apply zbC | refine below_set ?_ GE101.out) | exact HB.out)) hb);have n2_ := Aside0.mk (hbox);have n3_ := Aside0.mk ((by rw [hg];exact (below_size (by repeat (first|(with_reducible first|exact HB.out | apply zbA | apply zbB | apply zbC | refine below_set ?_ GE101.out) | exact HB.out))) : w.heap.size ≤ gb102));have n4_ := Aside0.mk ((by rw [hg];exact (below_size (by repeat (first|(with_reducible first|exact HB.out | apply zbA | apply zbB | apply zbC | refine below_set ?_ GE101.out) | exact HB.out))) : w.heap.size ≤ gb102));have n5_ := Aside0.mk ((by rw [hg];exact Nat.ne_of_lt (blk_lt (g := gb101) (o := .cells #[.string a0_0,.int .i64 a0_1,.int .i64 a0_2] 24 (0,0)) (by (with_reducible repeat (first|apply zhA | apply zhB | apply zhC));exact BK101.out)) : gb101 ≠ gb102));have n6_ := Aside0.mk ((by rw [hg];exact Nat.ne_of_gt (blk_lt (g := gb101) (o := .cells #[.string a0_0,.int .i64 a0_1,.int .i64 a0_2] 24 (0,0)) (by (with_reducible repeat (first|apply zhA | apply zhB | apply zhC));exact BK101.out)) : gb102 ≠ gb101));clear BK101;clear HB;have BK101 := n0_;have HB := n1_;have BK102 := n2_;have GW102 := n3_;have GE102 := n4_;have NB101_102 := n5_;have NB102_101 := n6_;clear n0_ n1_ n2_ n3_ n4_ n5_ n6_;clear hb hbox hg;have hnb19 := NB101_102.out;have hnc19 := NB102_101.out;have hcz20_0 : w18.cell? ⟨gb101,0,none⟩ = some (.string a0_0) := (blk_cell BK101.out 0).trans rfl;have hcz20_1 : w18.cell? ⟨gb101,1,none⟩ = some (.int .i64 a0_1) := (blk_cell BK101.out 1).trans rfl;have hcz20_2 : w18.cell? ⟨gb101,2,none⟩ = some (.int .i64 a0_2) := (blk_cell BK101.out 2).trans rfl;have hfz20_0 := blk_frozen BK101.out 0;have hfz20_1 := blk_frozen BK101.out 1;have hfz20_2 := blk_frozen BK101.out 2)|((with_reducible refine gate_callee (f := 38) rfl ?_);refine goesL_ (some 9) rfl rfl Try.func38 (by kernel_rfl) rfl #[.agg #[.string a0_0,.int .i64 a0_1,.int .i64 a0_2]] rfl (by (try simp only [List.map_toArray,List.map_cons,List.map_nil]);first|done | rfl | (simp only [List.length_drop,List.length_take];rfl)) ?_;(with_reducible refine (spec_rpOne.calls k a0_0 a0_1 a0_2 true _ A4.out).mono ?_);rintro e w21 ⟨rfl,hb⟩;refine ⟨_,rfl,?_⟩;have n0_ := Aside0.mk (blk_below (g := gb101) (o := .cells #[.string a0_0,.int .i64 a0_1,.int .i64 a0_2] 24 (0,0)) (by (with_reducible repeat (first|apply zhA | apply zhB | apply zhC));exact BK101.out) hb);have n1_ := Aside0.mk (blk_below (g := gb102) (o := .cells #[.string (⟨#[]⟩ : ByteArray),.int .i64 0,.int .i64 0] 24 (0,0)) (by (with_reducible repeat (first|apply zhA | apply zhB | apply zhC));exact BK102.out) hb);have n2_ := Aside0.mk (below_step (by repeat (first|(with_reducible first|exact HB.out | apply zbA | apply zbB | apply zbC | refine below_set ?_ GE101.out | refine below_set ?_ GE102.out) | exact HB.out)) hb);clear BK101;clear BK102;clear HB;have BK101 := n0_;have BK102 := n1_;have HB := n2_;clear n0_ n1_ n2_;(try clear hb))|(go_at_call 39;(with_reducible refine (spec_rpDay.calls a1 false _ A6.out).mono ?_);rintro e w' ⟨rfl,⟨nd,rfl⟩⟩;(try (rw [drewN_self w21];generalize hq_ : World.drewN w21 _ = w21;have n0_ : Aside0 (w21.heap[gb101]? = some (.cells #[.string a0_0,.int .i64 a0_1,.int .i64 a0_2] 24 (0,0))) := ⟨by rw [← hq_];exact (by (with_reducible repeat (first|apply zhA | apply zhB | apply zhC));exact BK101.out)⟩;have n1_ : Aside0 (w21.heap[gb102]? = some (.cells #[.string (⟨#[]⟩ : ByteArray),.int .i64 0,.int .i64 0] 24 (0,0))) := ⟨by rw [← hq_];exact (by (with_reducible repeat (first|apply zhA | apply zhB | apply zhC));exact BK102.out)⟩;have n2_ : Aside0 (Below w.heap.size w w21) := ⟨by rw [← hq_];exact (by repeat (first|(with_reducible first|exact HB.out | apply zbA | apply zbB | apply zbC | refine below_set ?_ GE101.out | refine below_set ?_ GE102.out) | exact HB.out))⟩;clear BK101 BK102 HB hq_;have BK101 := n0_;have BK102 := n1_;have HB := n2_;clear n0_ n1_ n2_;have hczqgb101_0 : w21.cell? ⟨gb101,0,none⟩ = some (.string a0_0) := (blk_cell BK101.out 0).trans rfl;have hfzqgb101_0 := blk_frozen BK101.out 0;have hczqgb101_1 : w21.cell? ⟨gb101,1,none⟩ = some (.int .i64 a0_1) := (blk_cell BK101.out 1).trans rfl;have hfzqgb101_1 := blk_frozen BK101.out 1;have hczqgb101_2 : w21.cell? ⟨gb101,2,none⟩ = some (.int .i64 a0_2) := (blk_cell BK101.out 2).trans rfl;have hfzqgb101_2 := blk_frozen BK101.out 2;have hczqgb102_0 : w21.cell? ⟨gb102,0,none⟩ = some (.string (⟨#[]⟩ : ByteArray)) := (blk_cell BK102.out 0).trans rfl;have hfzqgb102_0 := blk_frozen BK102.out 0;have hczqgb102_1 : w21.cell? ⟨gb102,1,none⟩ = some (.int .i64 0) := (blk_cell BK102.out 1).trans rfl;have hfzqgb102_1 := blk_frozen BK102.out 1;have hczqgb102_2 : w21.cell? ⟨gb102,2,none⟩ = some (.int .i64 0) := (blk_cell BK102.out 2).trans rfl;have hfzqgb102_2 := blk_frozen BK102.out 2));have hcz22_0 : w21.cell? ⟨gb102,0,none⟩ = some (.string (⟨#[]⟩ : ByteArray)) := (blk_cell BK102.out 0).trans rfl;have hcz22_1 : w21.cell? ⟨gb102,1,none⟩ = some (.int .i64 0) := (blk_cell BK102.out 1).trans rfl;have hcz22_2 : w21.cell? ⟨gb102,2,none⟩ = some (.int .i64 0) := (blk_cell BK102.out 2).trans rfl;have hfz22_0 := blk_frozen BK102.out 0;have hfz22_1 := blk_frozen BK102.out 1;have hfz22_2 := blk_frozen BK102.out 2))
   refine bodyPost_ret (results_ct rfl _ _ gb102 24 #[.string (⟨#[]⟩ : ByteArray),.int .i64 0,.int .i64 0] (0,0) _ rfl (by (with_reducible repeat (first|apply zhA | apply zhB | apply zhC));refine blk_put (cs := #[.string (⟨#[]⟩ : ByteArray),.int .i64 0,.int .i64 0]) ?_ 2 _ rfl;(with_reducible repeat (first|apply zhA | apply zhB | apply zhC));refine blk_put (cs := #[.string (⟨#[]⟩ : ByteArray),.int .i64 0,.int .i64 0]) ?_ 1 _ rfl;(with_reducible repeat (first|apply zhA | apply zhB | apply zhC));refine blk_put (cs := #[.string (⟨#[]⟩ : ByteArray),.int .i64 0,.int .i64 0]) ?_ 0 _ rfl;(with_reducible repeat (first|apply zhA | apply zhB | apply zhC));exact BK102.out) Try.underlying24 rfl (by kernel_rfl)) rfl ?_
   exact ⟨by first|rfl | (simp [*,errW_none,errW_some] <;> rfl),by repeat (first|(with_reducible first|exact HB.out | apply zbA | apply zbB | apply zbC | refine below_set ?_ GE101.out | refine below_set ?_ GE102.out) | exact HB.out)⟩
 ·replace c5 := Bool.eq_false_iff.mpr c5
  subst c5
  rw [if_neg (show ¬ (false = true) by decide)] at H
  simp only [Option.some.injEq,Prod.mk.injEq] at H
  obtain ⟨rfl,rfl,rfl,rfl⟩ := H
  go_enter Try.func7,Try.ntmps7
  go_wp2_with (first|((with_reducible refine gate_dst (N := 3) rfl ?_);refine box_event ?hg (N := 3) ?hd (cs := #[.string a0_0,.int .i64 a0_1,.int .i64 a0_2]) (t := 24) ?hr ?_;(case hd => rfl);(case hg => rfl);(case hr => first|(go_simp;done)|(go_simp;rfl));intro gb101 hg w23 hbox hb;have n0_ := Aside0.mk (below_step (by repeat (first|exact HB.out | apply zbA | apply zbB | apply zbC)) hb);have n1_ := Aside0.mk (hbox);have n2_ := Aside0.mk ((by rw [hg];exact (below_size (by repeat (first|exact HB.out | apply zbA | apply zbB | apply zbC))) : w.heap.size ≤ gb101));have n3_ := Aside0.mk ((by rw [hg];exact (below_size (by repeat (first|exact HB.out | apply zbA | apply zbB | apply zbC))) : w.heap.size ≤ gb101));clear HB;have HB := n0_;have BK101 := n1_;have GW101 := n2_;have GE101 := n3_;clear n0_ n1_ n2_ n3_;clear hb hbox hg)|((with_reducible refine gate_dst (N := 6) rfl ?_);refine box_event ?hg (N := 6) ?hd (cs := #[.string (⟨#[]⟩ : ByteArray),.int .i64 0,.int .i64 0]) (t := 24) ?hr ?_;(case hd => rfl);(case hg => rfl);(case hr => first|(go_simp;done)|(go_simp;rfl));intro gb102 hg w24 hbox hb;have n0_ := Aside0.mk (blk_below (g := gb101) (o := .cells #[.string a0_0,.int .i64 a0_1,.int .i64 a0_2] 24 (0,0)) (by (with_reducible repeat (first|apply zhA | apply zhB | apply zhC));exact BK101.out) hb);have n1_ := Aside0.mk (below_step (by repeat (first|(with_reducible first|exact HB.out | apply zbA | apply zbB | apply zbC | refine below_set ?_ GE101.out) | exact HB.out)) hb);have n2_ := Aside0.mk (hbox);have n3_ := Aside0.mk ((by rw [hg];exact (below_size (by repeat (first|(with_reducible first|exact HB.out | apply zbA | apply zbB | apply zbC | refine below_set ?_ GE101.out) | exact HB.out))) : w.heap.size ≤ gb102));have n4_ := Aside0.mk ((by rw [hg];exact (below_size (by repeat (first|(with_reducible first|exact HB.out | apply zbA | apply zbB | apply zbC | refine below_set ?_ GE101.out) | exact HB.out))) : w.heap.size ≤ gb102));have n5_ := Aside0.mk ((by rw [hg];exact Nat.ne_of_lt (blk_lt (g := gb101) (o := .cells #[.string a0_0,.int .i64 a0_1,.int .i64 a0_2] 24 (0,0)) (by (with_reducible repeat (first|apply zhA | apply zhB | apply zhC));exact BK101.out)) : gb101 ≠ gb102));have n6_ := Aside0.mk ((by rw [hg];exact Nat.ne_of_gt (blk_lt (g := gb101) (o := .cells #[.string a0_0,.int .i64 a0_1,.int .i64 a0_2] 24 (0,0)) (by (with_reducible repeat (first|apply zhA | apply zhB | apply zhC));exact BK101.out)) : gb102 ≠ gb101));clear BK101;clear HB;have BK101 := n0_;have HB := n1_;have BK102 := n2_;have GW102 := n3_;have GE102 := n4_;have NB101_102 := n5_;have NB102_101 := n6_;clear n0_ n1_ n2_ n3_ n4_ n5_ n6_;clear hb hbox hg;have hnb25 := NB101_102.out;have hnc25 := NB102_101.out;have hcz26_0 : w24.cell? ⟨gb101,0,none⟩ = some (.string a0_0) := (blk_cell BK101.out 0).trans rfl;have hcz26_1 : w24.cell? ⟨gb101,1,none⟩ = some (.int .i64 a0_1) := (blk_cell BK101.out 1).trans rfl;have hcz26_2 : w24.cell? ⟨gb101,2,none⟩ = some (.int .i64 a0_2) := (blk_cell BK101.out 2).trans rfl;have hfz26_0 := blk_frozen BK101.out 0;have hfz26_1 := blk_frozen BK101.out 1;have hfz26_2 := blk_frozen BK101.out 2)|((with_reducible refine gate_callee (f := 38) rfl ?_);refine goesL_ (some 9) rfl rfl Try.func38 (by kernel_rfl) rfl #[.agg #[.string a0_0,.int .i64 a0_1,.int .i64 a0_2]] rfl (by (try simp only [List.map_toArray,List.map_cons,List.map_nil]);first|done | rfl | (simp only [List.length_drop,List.length_take];rfl)) ?_;(with_reducible refine (spec_rpOne.calls k a0_0 a0_1 a0_2 false _ A4.out).mono ?_);rintro e w27 ⟨rfl,hb⟩;refine ⟨_,rfl,?_⟩;have n0_ := Aside0.mk (blk_below (g := gb101) (o := .cells #[.string a0_0,.int .i64 a0_1,.int .i64 a0_2] 24 (0,0)) (by (with_reducible repeat (first|apply zhA | apply zhB | apply zhC));exact BK101.out) hb);have n1_ := Aside0.mk (blk_below (g := gb102) (o := .cells #[.string (⟨#[]⟩ : ByteArray),.int .i64 0,.int .i64 0] 24 (0,0)) (by (with_reducible repeat (first|apply zhA | apply zhB | apply zhC));exact BK102.out) hb);have n2_ := Aside0.mk (below_step (by repeat (first|(with_reducible first|exact HB.out | apply zbA | apply zbB | apply zbC | refine below_set ?_ GE101.out | refine below_set ?_ GE102.out) | exact HB.out)) hb);clear BK101;clear BK102;clear HB;have BK101 := n0_;have BK102 := n1_;have HB := n2_;clear n0_ n1_ n2_;(try clear hb);have hcz28_0 : w27.cell? ⟨gb102,0,none⟩ = some (.string (⟨#[]⟩ : ByteArray)) := (blk_cell BK102.out 0).trans rfl;have hcz28_1 : w27.cell? ⟨gb102,1,none⟩ = some (.int .i64 0) := (blk_cell BK102.out 1).trans rfl;have hcz28_2 : w27.cell? ⟨gb102,2,none⟩ = some (.int .i64 0) := (blk_cell BK102.out 2).trans rfl;have hfz28_0 := blk_frozen BK102.out 0;have hfz28_1 := blk_frozen BK102.out 1;have hfz28_2 := blk_frozen BK102.out 2))
  refine bodyPost_ret (results_ct rfl _ _ gb102 24 #[.string (⟨#[]⟩ : ByteArray),.int .i64 0,.int .i64 0] (0,0) _ rfl (by (with_reducible repeat (first|apply zhA | apply zhB | apply zhC));refine blk_put (cs := #[.string (⟨#[]⟩ : ByteArray),.int .i64 0,.int .i64 0]) ?_ 2 _ rfl;(with_reducible repeat (first|apply zhA | apply zhB | apply zhC));refine blk_put (cs := #[.string (⟨#[]⟩ : ByteArray),.int .i64 0,.int .i64 0]) ?_ 1 _ rfl;(with_reducible repeat (first|apply zhA | apply zhB | apply zhC));refine blk_put (cs := #[.string (⟨#[]⟩ : ByteArray),.int .i64 0,.int .i64 0]) ?_ 0 _ rfl;(with_reducible repeat (first|apply zhA | apply zhB | apply zhC));exact BK102.out) Try.underlying24 rfl (by kernel_rfl)) rfl ?_
  exact ⟨by first|rfl | (simp [*,errW_none,errW_some] <;> rfl),by repeat (first|(with_reducible first|exact HB.out | apply zbA | apply zbB | apply zbC | refine below_set ?_ GE101.out | refine below_set ?_ GE102.out) | exact HB.out)⟩

/-! ### spec_l1Cur_of: function 76 -/
def spec_l1Cur_of.f (s0_0 : List Int) (s0_1 : Int) (s0_2 : Int) (l1 : List ByteArray) : Option (ByteArray × Int × Int) := (spec_l1Cur_pick.f s0_0 s0_1 s0_2 (l1.length : Int)).bind fun bt101 => (if 0 ≤ bt101.1 then (if bt101.1 < (l1.length : Int) then (some (rdOf ByteArray.empty l1 bt101.1,bt101.2.1,bt101.2.2)) else (none)) else (none))
set_option maxHeartbeats 3000000 in
set_option maxRecDepth 100000 in
theorem spec_l1Cur_of.calls (g : Nat) (s0_0 : List Int) (s0_1 : Int) (s0_2 : Int) (A1 : Option Addr) (c1 : Nat) (l1 : List ByteArray) (r1 : ByteArray) (r2 : Int) (r3 : Int) (w0 w : World) (hI : IsS67 w0 w g s0_0 s0_1 s0_2) (hB : Below w0.heap.size w0 w) (hr1 : Kd.C Kd.string w A1 l1.length l1) (hc1 : l1.length ≤ c1) (hf1 : ∀ ad,A1 = some ad → 0 < l1.length → ad.block ≠ g) (h : spec_l1Cur_of.f s0_0 s0_1 s0_2 l1 = some (r1,r2,r3)) :
  Calls Try.prog 76 #[.pointer (some ⟨g,0,none⟩),.slice A1 l1.length c1] w fun e w' => e = .returned (.string r1) ∧ IsS67 w0 w' g s0_0 r2 r3 ∧ Below w0.heap.size w0 w' ∧ KeepBut w w' g none := by
 have HR1 := Aside0.mk hr1
 have HC1 := Aside0.mk hc1
 clear hr1 hc1
 have HI0 := Aside0.mk hI
 have HK := Aside0.mk (KeepBut.refl w g none)
 have HL := Aside0.mk hB.size
 clear hI
 have HW0 := Aside0.mk hB.size
 have HB := Aside0.mk hB
 clear hB
 have H : ((spec_l1Cur_pick.f s0_0 s0_1 s0_2 (l1.length : Int)).bind fun bt101 => (if 0 ≤ bt101.1 then (if bt101.1 < (l1.length : Int) then (some (rdOf ByteArray.empty l1 bt101.1,bt101.2.1,bt101.2.2)) else (none)) else (none))) = some (r1,r2,r3) := h
 clear h
 replace H := Option.bind_eq_some_iff.mp H
 obtain ⟨⟨t101,t102,t103⟩,A30,H⟩ := H
 try dsimp only at H
 have A3 := Aside0.mk A30
 clear A30
 by_cases c4 : 0 ≤ t101
 ·rw [if_pos c4] at H
  have c4b0 : decide (0 ≤ t101) = true := decide_eq_true c4
  clear c4
  by_cases c5 : t101 < (l1.length : Int)
  ·rw [if_pos c5] at H
   have c5b0 : decide (t101 < (l1.length : Int)) = true := decide_eq_true c5
   clear c5
   simp only [Option.some.injEq,Prod.mk.injEq] at H
   obtain ⟨rfl,rfl,rfl⟩ := H
   go_enter Try.func76,Try.ntmps76
   go_wp2_with (first|((with_reducible refine gate_callee (f := 42) rfl ?_);refine goesM_ (some 9) Try.func42 #[.pointer (some ⟨g,0,none⟩),.int .i64 (l1.length : Int)] ?_;(with_reducible refine (spec_l1Cur_pick.calls g s0_0 s0_1 s0_2 (l1.length : Int) t101 t102 t103 w0 _ ?side1 ?side2 A3.out).mono ?_);(case side1 => repeat (first|(with_reducible first|exact HI0.out | apply zsA | apply zsB | apply zsC | apply zsD | apply zsE) | exact HI0.out));(case side2 => repeat (first|(with_reducible first|exact HB.out | apply zbA | apply zbB | apply zbC | refine below_set ?_ (IsS67.ge HI0.out)) | exact HB.out));rintro e w6 ⟨rfl,hi,hb,hk⟩;refine ⟨_,rfl,?_⟩;have n0_ := Aside0.mk (KeepBut.trans (by repeat (first|(with_reducible first|exact HK.out | apply zeA | apply zeB | apply zeC | apply zeD) | exact HK.out)) hk (.inl rfl));have n1_ := Aside0.mk (hb);have n2_ := Aside0.mk (hi);clear HK;clear HB;clear HI0;have HK := n0_;have HB := n1_;have HI0 := n2_;clear n0_ n1_ n2_;(try clear hb);have p104 : 0 ≤ (t101 : Int) := of_decide_eq_true (by assumption);have q104 : t101 < (l1.length : Int) := of_decide_eq_true (by assumption);obtain ⟨ad104,e104,hx104_0⟩ := Kd.at_string HR1.out t101 p104 q104;cases e104;replace hx104_0 := keep_cell HK.out hx104_0 (by first|(rw [add_block];exact hf1 _ rfl (by omega)) | exact hf1 _ rfl (by omega) | exact hf1 ad104 rfl (by omega));replace p104 := eq_true p104;replace q104 := eq_true q104))
   go_ret
   exact ⟨by first|rfl | (simp [*,errW_none,errW_some] <;> rfl),by repeat (first|(with_reducible first|exact HI0.out | apply zsA | apply zsB | apply zsC | apply zsD | apply zsE) | exact HI0.out),by repeat (first|(with_reducible first|exact HB.out | apply zbA | apply zbB | apply zbC | refine below_set ?_ (IsS67.ge HI0.out)) | exact HB.out),by repeat (first|(with_reducible first|exact HK.out | apply zeA | apply zeB | apply zeC | apply zeD) | exact HK.out)⟩
  ·rw [if_neg c5] at H
   exact absurd H (by simp)
 ·rw [if_neg c4] at H
  exact absurd H (by simp)

/-! ### spec_l1Cur_cards: function 41 -/
mutual
def spec_l1Cur_cards.l0 : Nat → List (S24) → List ByteArray → Int → Int → List Int → Int → Int → Option ((List (S24)) × Int × Int)
 | 0,_,_,_,_,_,_,_ => none
 | k + 1,x3,x8,x9,x10,x1000,x1001,x1002 => if x10 < x9 then (if 0 ≤ x10 then (if x10 < (x8.length : Int) then ((spec_l1Cur_one.f x1000 x1001 x1002 2).bind fun bt105 => (if bt105.1 = true then ((spec_l1Cur_card.f k x1000 bt105.2.1 bt105.2.2 (rdOf ByteArray.empty x8 x10)).bind fun bt108 => (if x3.length < 4398046511104 then (spec_l1Cur_cards.l0 k (x3 ++ [(⟨bt108.1,bt108.2.1,bt108.2.2.1⟩ : S24)]) x8 x9 (wrap64 (x10 + 1)) x1000 bt108.2.2.2.1 bt108.2.2.2.2) else (none))) else (spec_l1Cur_cards.l0 k x3 x8 x9 (wrap64 (x10 + 1)) x1000 bt105.2.1 bt105.2.2))) else (none)) else (none)) else ((spec_l1Cur_pick.f x1000 x1001 x1002 30).bind fun bt116 => (if bt116.1 = 0 then ((spec_l1Cur_of.f x1000 bt116.2.1 bt116.2.2 (([(⟨#[90,90]⟩ : ByteArray),(⟨#[65]⟩ : ByteArray),(⟨#[]⟩ : ByteArray),(⟨#[122,122]⟩ : ByteArray)] : List ByteArray))).bind fun bt122 => ((spec_l1Cur_card.f k x1000 bt122.2.1 bt122.2.2 bt122.1).bind fun bt125 => (if x3.length < 4398046511104 then (some ((x3 ++ [(⟨bt125.1,bt125.2.1,bt125.2.2.1⟩ : S24)]),bt125.2.2.2.1,bt125.2.2.2.2)) else (none)))) else (if bt116.1 = 1 then ((spec_l1Cur_pick.f x1000 bt116.2.1 bt116.2.2 2).bind fun bt133 => (spec_l1Cur_cards.l1 k ([] : List (S24)) (wrap64 (20 + bt133.1)) x1000 bt133.2.1 bt133.2.2)) else (some (x3,bt116.2.1,bt116.2.2)))))
def spec_l1Cur_cards.l1 : Nat → List (S24) → Int → List Int → Int → Int → Option ((List (S24)) × Int × Int)
 | 0,_,_,_,_,_ => none
 | k + 1,x3,x6,x1000,x1001,x1002 => if (x3.length : Int) < x6 then (if 0 ≤ (x3.length : Int) then (if (x3.length : Int) ≤ (wrap64 ((x3.length : Int) + 1)) then (if (wrap64 ((x3.length : Int) + 1)) ≤ 21 then (if 1 + ((⟨#[65,66,67,68,69,70,71,72,73,74,75,76,77,78,79,80,81,82,83,84,85]⟩ : ByteArray).extract x3.length (x3.length + 1)).size ≤ 9223372036854775807 then (if x3.length < 4398046511104 then (spec_l1Cur_cards.l1 k (x3 ++ [(⟨(⟨#[67]⟩ : ByteArray) ++ ((⟨#[65,66,67,68,69,70,71,72,73,74,75,76,77,78,79,80,81,82,83,84,85]⟩ : ByteArray).extract x3.length (x3.length + 1)),(x3.length : Int) % 6,(x3.length : Int)⟩ : S24)]) x6 x1000 x1001 x1002) else (none)) else (none)) else (none)) else (none)) else (none)) else (some (x3,x1001,x1002))
end
def spec_l1Cur_cards.f (k : Nat) (s0_0 : List Int) (s0_1 : Int) (s0_2 : Int) : Option ((List (S24)) × Int × Int) := (some (([(⟨#[66,79,79,75]⟩ : ByteArray),(⟨#[71,73,86,69]⟩ : ByteArray),(⟨#[71,79]⟩ : ByteArray),(⟨#[72,79,85,83,69]⟩ : ByteArray),(⟨#[73]⟩ : ByteArray),(⟨#[89,79,85]⟩ : ByteArray)] : List ByteArray) : List ByteArray)).bind fun y101 => (spec_l1Cur_cards.l0 k ([] : List (S24)) y101 (y101.length : Int) 0 s0_0 s0_1 s0_2)
theorem spec_l1Cur_cards.mono_l : ∀ k,(∀ y0 y1 y2 y3 y4 y5 y6,LeO (spec_l1Cur_cards.l0 k y0 y1 y2 y3 y4 y5 y6) (spec_l1Cur_cards.l0 (k + 1) y0 y1 y2 y3 y4 y5 y6)) ∧ (∀ y0 y1 y2 y3 y4,LeO (spec_l1Cur_cards.l1 k y0 y1 y2 y3 y4) (spec_l1Cur_cards.l1 (k + 1) y0 y1 y2 y3 y4))
 | 0 => ⟨fun _ _ _ _ _ _ _ r h => by simp [spec_l1Cur_cards.l0] at h,fun _ _ _ _ _ r h => by simp [spec_l1Cur_cards.l1] at h⟩
 | k + 1 => by
  obtain ⟨ih0,ih1⟩ := spec_l1Cur_cards.mono_l k
  refine ⟨?_,?_⟩
  ·intro y0 y1 y2 y3 y4 y5 y6
   unfold spec_l1Cur_cards.l0
   repeat' first
   | (with_reducible exact ih0 _ _ _ _ _ _ _)
   | (with_reducible exact ih1 _ _ _ _ _)
   | (with_reducible exact spec_l1Cur_card.mono _ _ _ _ _)
   | (with_reducible exact LeO.refl _)
   | (with_reducible exact LeO.none _)
   | (with_reducible refine LeO.ite ?_ ?_)
   | (with_reducible refine LeO.bind ?_ (fun _ => ?_))
  ·intro y0 y1 y2 y3 y4
   unfold spec_l1Cur_cards.l1
   repeat' first
   | (with_reducible exact ih0 _ _ _ _ _ _ _)
   | (with_reducible exact ih1 _ _ _ _ _)
   | (with_reducible exact spec_l1Cur_card.mono _ _ _ _ _)
   | (with_reducible exact LeO.refl _)
   | (with_reducible exact LeO.none _)
   | (with_reducible refine LeO.ite ?_ ?_)
   | (with_reducible refine LeO.bind ?_ (fun _ => ?_))
theorem spec_l1Cur_cards.mono : ∀ a0 a1 a2 k,LeO (spec_l1Cur_cards.f k a0 a1 a2) (spec_l1Cur_cards.f (k + 1) a0 a1 a2) := by
 intro a0 a1 a2 k
 obtain ⟨ih0,ih1⟩ := spec_l1Cur_cards.mono_l k
 unfold spec_l1Cur_cards.f
 repeat' first
   | (with_reducible exact ih0 _ _ _ _ _ _ _)
   | (with_reducible exact ih1 _ _ _ _ _)
   | (with_reducible exact spec_l1Cur_card.mono _ _ _ _ _)
   | (with_reducible exact LeO.refl _)
   | (with_reducible exact LeO.none _)
   | (with_reducible refine LeO.ite ?_ ?_)
   | (with_reducible refine LeO.bind ?_ (fun _ => ?_))
set_option maxHeartbeats 3000000 in
set_option maxRecDepth 100000 in
theorem spec_l1Cur_cards.calls (k : Nat) (g : Nat) (s0_0 : List Int) (s0_1 : Int) (s0_2 : Int) (r1 : List (S24)) (r2 : Int) (r3 : Int) (w0 w : World) (hI : IsS67 w0 w g s0_0 s0_1 s0_2) (hB : Below w0.heap.size w0 w) (h : spec_l1Cur_cards.f k s0_0 s0_1 s0_2 = some (r1,r2,r3)) :
  Calls Try.prog 41 #[.pointer (some ⟨g,0,none⟩)] w fun e w' => ∃ v0_ : Value,e = .returned (v0_) ∧ Kd.R k24 24 w' w.heap.size (fun _ => True) v0_ r1 ∧ IsS67 w0 w' g s0_0 r2 r3 ∧ Below w0.heap.size w0 w' ∧ KeepBut w w' g none := by
 have hu24 := Try.underlying24
 have hus_ := Try.underlying9
 have HI0 := Aside0.mk hI
 have HK := Aside0.mk (KeepBut.refl w g none)
 have HL := Aside0.mk hB.size
 clear hI
 have HW0 := Aside0.mk hB.size
 have HB := Aside0.mk hB
 clear hB
 have H : ((some (([(⟨#[66,79,79,75]⟩ : ByteArray),(⟨#[71,73,86,69]⟩ : ByteArray),(⟨#[71,79]⟩ : ByteArray),(⟨#[72,79,85,83,69]⟩ : ByteArray),(⟨#[73]⟩ : ByteArray),(⟨#[89,79,85]⟩ : ByteArray)] : List ByteArray) : List ByteArray)).bind fun y101 => (spec_l1Cur_cards.l0 k ([] : List (S24)) y101 (y101.length : Int) 0 s0_0 s0_1 s0_2)) = some (r1,r2,r3) := h
 clear h
 obtain ⟨y101,hy101⟩ : ∃ y_ : List ByteArray,y_ = (([(⟨#[66,79,79,75]⟩ : ByteArray),(⟨#[71,73,86,69]⟩ : ByteArray),(⟨#[71,79]⟩ : ByteArray),(⟨#[72,79,85,83,69]⟩ : ByteArray),(⟨#[73]⟩ : ByteArray),(⟨#[89,79,85]⟩ : ByteArray)] : List ByteArray)) := ⟨_,rfl⟩
 replace H : (spec_l1Cur_cards.l0 k ([] : List (S24)) y101 (y101.length : Int) 0 s0_0 s0_1 s0_2) = some (r1,r2,r3) := by first|(rw [hy101];with_reducible exact H)|(have H2_ := (Option.bind_some _ _).symm.trans H;rw [hy101];with_reducible exact H2_)|(have H2_ := (Option.bind_some _ _).symm.trans H;with_reducible exact H2_) | with_reducible exact H | (rw [hy101];exact H) | exact H
 have Ny101 := Aside0.mk hy101
 clear hy101
 have H' := Aside0.mk H
 clear H
 go_enter Try.func41,Try.ntmps41
 go_wp2_with (first|((with_reducible refine gate_dst (N := 8) rfl ?_);refine Kd.R_lit Kd.string _ 9 ?hg (N := 8) ?hd (xs := ([(⟨#[66,79,79,75]⟩ : ByteArray),(⟨#[71,73,86,69]⟩ : ByteArray),(⟨#[71,79]⟩ : ByteArray),(⟨#[72,79,85,83,69]⟩ : ByteArray),(⟨#[73]⟩ : ByteArray),(⟨#[89,79,85]⟩ : ByteArray)] : List ByteArray)) (inner := [.string (⟨#[66,79,79,75]⟩ : ByteArray),.string (⟨#[71,73,86,69]⟩ : ByteArray),.string (⟨#[71,79]⟩ : ByteArray),.string (⟨#[72,79,85,83,69]⟩ : ByteArray),.string (⟨#[73]⟩ : ByteArray),.string (⟨#[89,79,85]⟩ : ByteArray)]) (ok := fun _ => True) (okp := fun _ => True) ?hr ?hp (fun _ hk => hk) trivial (Below.refl _ _) (Nat.le_refl _) (by simp) ?_;(case hd => rfl);(case hg => rfl);(case hr => first|(go_simp;done)|(go_simp;rfl));(case hp => exact (Reps.one (show Kd.M Kd.string _ _ _ (⟨#[66,79,79,75]⟩ : ByteArray) [.string (⟨#[66,79,79,75]⟩ : ByteArray)] from rfl) (Reps.one (show Kd.M Kd.string _ _ _ (⟨#[71,73,86,69]⟩ : ByteArray) [.string (⟨#[71,73,86,69]⟩ : ByteArray)] from rfl) (Reps.one (show Kd.M Kd.string _ _ _ (⟨#[71,79]⟩ : ByteArray) [.string (⟨#[71,79]⟩ : ByteArray)] from rfl) (Reps.one (show Kd.M Kd.string _ _ _ (⟨#[72,79,85,83,69]⟩ : ByteArray) [.string (⟨#[72,79,85,83,69]⟩ : ByteArray)] from rfl) (Reps.one (show Kd.M Kd.string _ _ _ (⟨#[73]⟩ : ByteArray) [.string (⟨#[73]⟩ : ByteArray)] from rfl) (Reps.one (show Kd.M Kd.string _ _ _ (⟨#[89,79,85]⟩ : ByteArray) [.string (⟨#[89,79,85]⟩ : ByteArray)] from rfl) (Reps.none _ _))))))));intro v102 w2 ho3 hb hg_ hnew_;clear hg_ hnew_;(first|rw [← Ny101.out] at ho3 | (simp only [Int.reduceToNat] at ho3;rw [← Ny101.out] at ho3));have n0_ := Aside0.mk (Kd.R_lower ho3 (keep_size (w := w) (g := g) (row := none) (by repeat (first|(with_reducible first|exact HK.out | apply zeA | apply zeB | apply zeC | apply zeD) | exact HK.out))));have n1_ := Aside0.mk (IsS67.below (by repeat (first|(with_reducible first|exact HI0.out | apply zsA | apply zsB | apply zsC | apply zsD | apply zsE) | exact HI0.out)) hb);have n2_ := Aside0.mk (KeepBut.trans (by repeat (first|(with_reducible first|exact HK.out | apply zeA | apply zeB | apply zeC | apply zeD) | exact HK.out)) (KeepBut.of_below hb g none) (.inl rfl));have n3_ := Aside0.mk (below_step (by repeat (first|(with_reducible first|exact HB.out | apply zbA | apply zbB | apply zbC | refine below_set ?_ (IsS67.ge HI0.out)) | exact HB.out)) hb);clear HI0;clear HK;clear HB;have HO103 := n0_;have HI0 := n1_;have HK := n2_;have HB := n3_;clear n0_ n1_ n2_ n3_;clear hb ho3;obtain ⟨Ao4,co4,eo4⟩ := Kd.R_slice HO103.out;subst eo4))
 go_loopg [3,10] k (fun kq v3 v10 w' => ∃ (x3_1 : List (S24)) (x10_1 : Int) (x1001_1 : Int) (x1002_1 : Int),v10 = .int .i64 x10_1 ∧ Aside0 (spec_l1Cur_cards.l0 kq x3_1 y101 (y101.length : Int) x10_1 s0_0 x1001_1 x1002_1 = some (r1,r2,r3)) ∧ Aside0 (kq ≤ k) ∧ Aside0 (Kd.R k24 24 w' w.heap.size (fun _ => True) v3 x3_1) ∧ Aside0 (Kd.R Kd.string 9 w' w.heap.size (fun _ => True) (.slice Ao4 y101.length co4) y101) ∧ Aside0 (IsS67 w0 w' g s0_0 x1001_1 x1002_1) ∧ Aside0 (KeepBut w w' g none) ∧ Aside0 (Below w0.heap.size w0 w'))
 case atStart => exact ⟨(([] : List (S24))),(0),(s0_1),(s0_2),(by first|rfl | (simp;done)|(simp [*];done)),H',⟨Nat.le_refl _⟩,⟨by first|exact Kd.R_nil _ _ _ _ _ | exact Kd.N_nil _ _ _ _ _ | exact Kd.V_nil _ _ _ _ _ | exact Kd.Q_nil _ _ _ _ _ | exact Kd.S_nil _ _ _ _ _⟩,⟨by (with_reducible repeat (first|apply zkA | apply zkB | apply zkC));exact HO103.out⟩,⟨by repeat (first|(with_reducible first|exact HI0.out | apply zsA | apply zsB | apply zsC | apply zsD | apply zsE) | exact HI0.out)⟩,⟨by repeat (first|(with_reducible first|exact HK.out | apply zeA | apply zeB | apply zeC | apply zeD) | exact HK.out)⟩,⟨by repeat (first|(with_reducible first|exact HB.out | apply zbA | apply zbB | apply zbC | refine below_set ?_ (IsS67.ge HI0.out)) | exact HB.out)⟩⟩
 case round =>
  clear H'
  (try clear p2);(try clear c4)
  obtain ⟨x3_1,x10_1,x1001_1,x1002_1,rfl,HA,HK1,HO_3,HO_8,HI0,HK,HB⟩ := hrel
  cases gk with
  | zero => exact absurd HA.out (by simp [spec_l1Cur_cards.l0])
  | succ k1 =>
   have H := HA.out
   clear HA
   simp only [spec_l1Cur_cards.l0] at H
   by_cases c5 : x10_1 < (y101.length : Int)
   ·rw [if_pos c5] at H
    have c5b0 : decide (x10_1 < (y101.length : Int)) = true := decide_eq_true c5
    clear c5
    by_cases c6 : 0 ≤ x10_1
    ·rw [if_pos c6] at H
     have c6b0 : decide (0 ≤ x10_1) = true := decide_eq_true c6
     clear c6
     by_cases c7 : x10_1 < (y101.length : Int)
     ·rw [if_pos c7] at H
      have c7b0 : decide (x10_1 < (y101.length : Int)) = true := decide_eq_true c7
      clear c7
      replace H := Option.bind_eq_some_iff.mp H
      obtain ⟨⟨t105,t106,t107⟩,A80,H⟩ := H
      try dsimp only at H
      have A8 := Aside0.mk A80
      clear A80
      by_cases c9 : t105 = true
      ·subst c9
       rw [if_pos rfl] at H
       replace H := Option.bind_eq_some_iff.mp H
       obtain ⟨⟨t108,t109,t110,t111,t112⟩,A100,H⟩ := H
       try dsimp only at H
       have A10 := Aside0.mk A100
       clear A100
       by_cases c11 : x3_1.length < 4398046511104
       ·rw [if_pos c11] at H
        have LMc11 := Aside0.mk c11
        clear c11
        obtain ⟨y113,hy113⟩ : ∃ y_ : List (S24),y_ = (x3_1 ++ [(⟨t108,t109,t110⟩ : S24)]) := ⟨_,rfl⟩
        replace H : (spec_l1Cur_cards.l0 k1 y113 y101 (y101.length : Int) (wrap64 (x10_1 + 1)) s0_0 t111 t112) = some (r1,r2,r3) := by first|(rw [hy113];with_reducible exact H)|(have H2_ := (Option.bind_some _ _).symm.trans H;rw [hy113];with_reducible exact H2_)|(have H2_ := (Option.bind_some _ _).symm.trans H;with_reducible exact H2_) | with_reducible exact H | (rw [hy113];exact H) | exact H
        have Ny113 := Aside0.mk hy113
        clear hy113
        have H' := Aside0.mk H
        clear H
        have p104 : 0 ≤ (x10_1 : Int) := of_decide_eq_true (by assumption)
        have q104 : x10_1 < (y101.length : Int) := of_decide_eq_true (by assumption)
        obtain ⟨ad104,e104,hx104_0⟩ := Kd.at_string (Kd.R_reads' HO_8.out).2.2 x10_1 p104 q104
        cases e104
        replace p104 := eq_true p104
        replace q104 := eq_true q104
        go_wp2_with (first|((with_reducible refine gate_callee (f := 34) rfl ?_);refine goesM_ (some 15) Try.func34 #[.pointer (some ⟨g,0,none⟩),.int .i64 2] ?_;(with_reducible refine (spec_l1Cur_one.calls g s0_0 x1001_1 x1002_1 2 true t106 t107 w0 _ ?side1 ?side2 A8.out).mono ?_);(case side1 => repeat (first|(with_reducible first|exact HI0.out | apply zsA | apply zsB | apply zsC | apply zsD | apply zsE) | exact HI0.out));(case side2 => repeat (first|(with_reducible first|exact HB.out | apply zbA | apply zbB | apply zbC | refine below_set ?_ (IsS67.ge HI0.out)) | exact HB.out));rintro e w12 ⟨rfl,hi,hb,hk⟩;refine ⟨_,rfl,?_⟩;have n0_ := Aside0.mk (Kd.R_mono (Kd.R_keep (IsS67.apart (show IsS67 w0 _ g s0_0 x1001_1 x1002_1 from by repeat (first|(with_reducible first|exact HI0.out | apply zsA | apply zsB | apply zsC | apply zsD | apply zsE) | exact HI0.out)) (by (with_reducible repeat (first|apply zkA | apply zkB | apply zkC));exact HO_3.out) (by decide)) hk (fun _ h => h.2)) (fun _ h => h.1));have n1_ := Aside0.mk (Kd.R_mono (Kd.R_keep (IsS67.apart (show IsS67 w0 _ g s0_0 x1001_1 x1002_1 from by repeat (first|(with_reducible first|exact HI0.out | apply zsA | apply zsB | apply zsC | apply zsD | apply zsE) | exact HI0.out)) (by (with_reducible repeat (first|apply zkA | apply zkB | apply zkC));exact HO_8.out) (by decide)) hk (fun _ h => h.2)) (fun _ h => h.1));have n2_ := Aside0.mk (KeepBut.trans (by repeat (first|(with_reducible first|exact HK.out | apply zeA | apply zeB | apply zeC | apply zeD) | exact HK.out)) hk (.inl rfl));have n3_ := Aside0.mk (hb);have n4_ := Aside0.mk (hi);clear HO_3;clear HO_8;clear HK;clear HB;clear HI0;have HO_3 := n0_;have HO_8 := n1_;have HK := n2_;have HB := n3_;have HI0 := n4_;clear n0_ n1_ n2_ n3_ n4_;(try clear hb))|((with_reducible refine gate_callee (f := 31) rfl ?_);refine goesM_ (some 19) Try.func31 #[.pointer (some ⟨g,0,none⟩),.string (rdOf ByteArray.empty y101 x10_1)] ?_;(with_reducible refine (spec_l1Cur_card.calls k1 g s0_0 t106 t107 (rdOf ByteArray.empty y101 x10_1) t108 t109 t110 t111 t112 w0 _ ?side1 ?side2 A10.out).mono ?_);(case side1 => repeat (first|(with_reducible first|exact HI0.out | apply zsA | apply zsB | apply zsC | apply zsD | apply zsE) | exact HI0.out));(case side2 => repeat (first|(with_reducible first|exact HB.out | apply zbA | apply zbB | apply zbC | refine below_set ?_ (IsS67.ge HI0.out)) | exact HB.out));rintro e w13 ⟨rfl,hi,hb,hk⟩;refine ⟨_,rfl,?_⟩;have n0_ := Aside0.mk (Kd.R_mono (Kd.R_keep (IsS67.apart (show IsS67 w0 _ g s0_0 t106 t107 from by repeat (first|(with_reducible first|exact HI0.out | apply zsA | apply zsB | apply zsC | apply zsD | apply zsE) | exact HI0.out)) (by (with_reducible repeat (first|apply zkA | apply zkB | apply zkC));exact HO_3.out) (by decide)) hk (fun _ h => h.2)) (fun _ h => h.1));have n1_ := Aside0.mk (Kd.R_mono (Kd.R_keep (IsS67.apart (show IsS67 w0 _ g s0_0 t106 t107 from by repeat (first|(with_reducible first|exact HI0.out | apply zsA | apply zsB | apply zsC | apply zsD | apply zsE) | exact HI0.out)) (by (with_reducible repeat (first|apply zkA | apply zkB | apply zkC));exact HO_8.out) (by decide)) hk (fun _ h => h.2)) (fun _ h => h.1));have n2_ := Aside0.mk (KeepBut.trans (by repeat (first|(with_reducible first|exact HK.out | apply zeA | apply zeB | apply zeC | apply zeD) | exact HK.out)) hk (.inl rfl));have n3_ := Aside0.mk (hb);have n4_ := Aside0.mk (hi);clear HO_3;clear HO_8;clear HK;clear HB;clear HI0;have HO_3 := n0_;have HO_8 := n1_;have HK := n2_;have HB := n3_;have HI0 := n4_;clear n0_ n1_ n2_ n3_ n4_;(try clear hb))|((with_reducible refine gate_builtin (b := .append) (xs := #[.tmp 16,.tmp 20]) rfl ?_);at_builtin;refine Kd.R_append k24 w.heap.size rfl (.tmp 16) (.tmp 20) 29 24 (.agg #[(.string ⟨#[]⟩),(.int .i64 0),(.int .i64 0)]) 32 rfl Try.underlying29 info24 rfl (by decide) (by omega) u3 x3_1 (⟨t108,t109,t110⟩ : S24) [.string t108,.int .i64 t109,.int .i64 t110] (fun _ => True) (fun _ => False) rfl rfl ?aP (fun _ hk => hk.elim) ?aF ?aO (Below.refl _ _) ?aS ?aL ?_;(case aP => exact k24_mkM _ _ _ (⟨t108,t109,t110⟩ : S24));(case aF => exact (fun _ _ => trivial));(case aO => exact (by (with_reducible repeat (first|apply zkA | apply zkB | apply zkC));exact HO_3.out));(case aS => exact (keep_size (w := w) (g := g) (row := none) (by repeat (first|(with_reducible first|exact HK.out | apply zeA | apply zeB | apply zeC | apply zeD) | exact HK.out))));(case aL => have := LMc11.out;omega);intro v114 w14 ho hb hg hat;rw [← Ny113.out] at ho;have n0_ := Aside0.mk (Kd.R_over' (by (with_reducible repeat (first|apply zkA | apply zkB | apply zkC));exact HO_8.out) (Kd.R_typed (by (with_reducible repeat (first|apply zkA | apply zkB | apply zkC));exact HO_3.out)) (by decide) hg);have n1_ := Aside0.mk (IsS67.grown (by repeat (first|(with_reducible first|exact HI0.out | apply zsA | apply zsB | apply zsC | apply zsD | apply zsE) | exact HI0.out)) hg (IsS67.own_ne HI0.out HO_3.out (by decide)));have n2_ := Aside0.mk (below_weaken (by repeat (first|(with_reducible first|exact HB.out | apply zbA | apply zbB | apply zbC | refine below_set ?_ (IsS67.ge HI0.out)) | exact HB.out)) HL.out hb);have n3_ := Aside0.mk (KeepBut.trans (by repeat (first|(with_reducible first|exact HK.out | apply zeA | apply zeB | apply zeC | apply zeD) | exact HK.out)) (KeepBut.of_grown hg g) (Kd.R_base2 HO_3.out));have n4_ := Aside0.mk (ho);clear HO_8;clear HI0;clear HB;clear HK;clear HO_3;have HO_8 := n0_;have HI0 := n1_;have HB := n2_;have HK := n3_;have HO115 := n4_;clear n0_ n1_ n2_ n3_ n4_;clear ho hb hg hat))
        go_roundg k1
        case measure => have := HK1.out;omega
        case rel => exact ⟨(y113),(wrap64 (x10_1 + 1)),(t111),(t112),(by first|rfl | (simp;done)|(simp [*];done)),H',⟨by have := HK1.out;omega⟩,⟨by (with_reducible repeat (first|apply zkA | apply zkB | apply zkC));exact HO115.out⟩,⟨by (with_reducible repeat (first|apply zkA | apply zkB | apply zkC));exact HO_8.out⟩,⟨by repeat (first|(with_reducible first|exact HI0.out | apply zsA | apply zsB | apply zsC | apply zsD | apply zsE) | exact HI0.out)⟩,⟨by repeat (first|(with_reducible first|exact HK.out | apply zeA | apply zeB | apply zeC | apply zeD) | exact HK.out)⟩,⟨by repeat (first|(with_reducible first|exact HB.out | apply zbA | apply zbB | apply zbC | refine below_set ?_ (IsS67.ge HI0.out)) | exact HB.out)⟩⟩
       ·rw [if_neg c11] at H
        exact absurd H (by simp)
      ·replace c9 := Bool.eq_false_iff.mpr c9
       subst c9
       rw [if_neg (show ¬ (false = true) by decide)] at H
       have H' := Aside0.mk H
       clear H
       have p104 : 0 ≤ (x10_1 : Int) := of_decide_eq_true (by assumption)
       have q104 : x10_1 < (y101.length : Int) := of_decide_eq_true (by assumption)
       obtain ⟨ad104,e104,hx104_0⟩ := Kd.at_string (Kd.R_reads' HO_8.out).2.2 x10_1 p104 q104
       cases e104
       replace p104 := eq_true p104
       replace q104 := eq_true q104
       go_wp2_with (first|((with_reducible refine gate_callee (f := 34) rfl ?_);refine goesM_ (some 15) Try.func34 #[.pointer (some ⟨g,0,none⟩),.int .i64 2] ?_;(with_reducible refine (spec_l1Cur_one.calls g s0_0 x1001_1 x1002_1 2 false t106 t107 w0 _ ?side1 ?side2 A8.out).mono ?_);(case side1 => repeat (first|(with_reducible first|exact HI0.out | apply zsA | apply zsB | apply zsC | apply zsD | apply zsE) | exact HI0.out));(case side2 => repeat (first|(with_reducible first|exact HB.out | apply zbA | apply zbB | apply zbC | refine below_set ?_ (IsS67.ge HI0.out)) | exact HB.out));rintro e w15 ⟨rfl,hi,hb,hk⟩;refine ⟨_,rfl,?_⟩;have n0_ := Aside0.mk (Kd.R_mono (Kd.R_keep (IsS67.apart (show IsS67 w0 _ g s0_0 x1001_1 x1002_1 from by repeat (first|(with_reducible first|exact HI0.out | apply zsA | apply zsB | apply zsC | apply zsD | apply zsE) | exact HI0.out)) (by (with_reducible repeat (first|apply zkA | apply zkB | apply zkC));exact HO_3.out) (by decide)) hk (fun _ h => h.2)) (fun _ h => h.1));have n1_ := Aside0.mk (Kd.R_mono (Kd.R_keep (IsS67.apart (show IsS67 w0 _ g s0_0 x1001_1 x1002_1 from by repeat (first|(with_reducible first|exact HI0.out | apply zsA | apply zsB | apply zsC | apply zsD | apply zsE) | exact HI0.out)) (by (with_reducible repeat (first|apply zkA | apply zkB | apply zkC));exact HO_8.out) (by decide)) hk (fun _ h => h.2)) (fun _ h => h.1));have n2_ := Aside0.mk (KeepBut.trans (by repeat (first|(with_reducible first|exact HK.out | apply zeA | apply zeB | apply zeC | apply zeD) | exact HK.out)) hk (.inl rfl));have n3_ := Aside0.mk (hb);have n4_ := Aside0.mk (hi);clear HO_3;clear HO_8;clear HK;clear HB;clear HI0;have HO_3 := n0_;have HO_8 := n1_;have HK := n2_;have HB := n3_;have HI0 := n4_;clear n0_ n1_ n2_ n3_ n4_;(try clear hb)))
       go_roundg k1
       case measure => have := HK1.out;omega
       case rel => exact ⟨(x3_1),(wrap64 (x10_1 + 1)),(t106),(t107),(by first|rfl | (simp;done)|(simp [*];done)),H',⟨by have := HK1.out;omega⟩,⟨by (with_reducible repeat (first|apply zkA | apply zkB | apply zkC));exact HO_3.out⟩,⟨by (with_reducible repeat (first|apply zkA | apply zkB | apply zkC));exact HO_8.out⟩,⟨by repeat (first|(with_reducible first|exact HI0.out | apply zsA | apply zsB | apply zsC | apply zsD | apply zsE) | exact HI0.out)⟩,⟨by repeat (first|(with_reducible first|exact HK.out | apply zeA | apply zeB | apply zeC | apply zeD) | exact HK.out)⟩,⟨by repeat (first|(with_reducible first|exact HB.out | apply zbA | apply zbB | apply zbC | refine below_set ?_ (IsS67.ge HI0.out)) | exact HB.out)⟩⟩
     ·rw [if_neg c7] at H
      exact absurd H (by simp)
    ·rw [if_neg c6] at H
     exact absurd H (by simp)
   ·rw [if_neg c5] at H
    have c5b0 : decide (x10_1 < (y101.length : Int)) = false := decide_eq_false c5
    clear c5
    replace H := Option.bind_eq_some_iff.mp H
    obtain ⟨⟨t116,t117,t118⟩,A160,H⟩ := H
    try dsimp only at H
    have A16 := Aside0.mk A160
    clear A160
    by_cases c17 : t116 = 0
    ·rw [if_pos c17] at H
     have c17b0 : (t116 == 0) = true := beq_iff_eq.mpr c17
     have c17b1 : (t116 != 0) = false := bne_eq_false_iff_eq.mpr c17
     clear c17
     obtain ⟨y119,hy119⟩ : ∃ y_ : List ByteArray,y_ = (([(⟨#[90,90]⟩ : ByteArray),(⟨#[65]⟩ : ByteArray),(⟨#[]⟩ : ByteArray),(⟨#[122,122]⟩ : ByteArray)] : List ByteArray)) := ⟨_,rfl⟩
     replace H : ((spec_l1Cur_of.f s0_0 t117 t118 y119).bind fun bt122 => ((spec_l1Cur_card.f k1 s0_0 bt122.2.1 bt122.2.2 bt122.1).bind fun bt125 => (if x3_1.length < 4398046511104 then (some ((x3_1 ++ [(⟨bt125.1,bt125.2.1,bt125.2.2.1⟩ : S24)]),bt125.2.2.2.1,bt125.2.2.2.2)) else (none)))) = some (r1,r2,r3) := by first|(rw [hy119];with_reducible exact H)|(have H2_ := (Option.bind_some _ _).symm.trans H;rw [hy119];with_reducible exact H2_)|(have H2_ := (Option.bind_some _ _).symm.trans H;with_reducible exact H2_) | with_reducible exact H | (rw [hy119];exact H) | exact H
     have Ny119 := Aside0.mk hy119
     clear hy119
     replace H := Option.bind_eq_some_iff.mp H
     obtain ⟨⟨t122,t123,t124⟩,A180,H⟩ := H
     try dsimp only at H
     have A18 := Aside0.mk A180
     clear A180
     replace H := Option.bind_eq_some_iff.mp H
     obtain ⟨⟨t125,t126,t127,t128,t129⟩,A190,H⟩ := H
     try dsimp only at H
     have A19 := Aside0.mk A190
     clear A190
     by_cases c20 : x3_1.length < 4398046511104
     ·rw [if_pos c20] at H
      have LMc20 := Aside0.mk c20
      clear c20
      obtain ⟨y130,hy130⟩ : ∃ y_ : List (S24),y_ = (x3_1 ++ [(⟨t125,t126,t127⟩ : S24)]) := ⟨_,rfl⟩
      replace H : (some (y130,t128,t129)) = some (r1,r2,r3) := by first|(rw [hy130];with_reducible exact H)|(have H2_ := (Option.bind_some _ _).symm.trans H;rw [hy130];with_reducible exact H2_)|(have H2_ := (Option.bind_some _ _).symm.trans H;with_reducible exact H2_) | with_reducible exact H | (rw [hy130];exact H) | exact H
      have Ny130 := Aside0.mk hy130
      clear hy130
      simp only [Option.some.injEq,Prod.mk.injEq] at H
      obtain ⟨rfl,rfl,rfl⟩ := H
      go_wp2_with (first|((with_reducible refine gate_callee (f := 42) rfl ?_);refine goesM_ (some 24) Try.func42 #[.pointer (some ⟨g,0,none⟩),.int .i64 30] ?_;(with_reducible refine (spec_l1Cur_pick.calls g s0_0 x1001_1 x1002_1 30 t116 t117 t118 w0 _ ?side1 ?side2 A16.out).mono ?_);(case side1 => repeat (first|(with_reducible first|exact HI0.out | apply zsA | apply zsB | apply zsC | apply zsD | apply zsE) | exact HI0.out));(case side2 => repeat (first|(with_reducible first|exact HB.out | apply zbA | apply zbB | apply zbC | refine below_set ?_ (IsS67.ge HI0.out)) | exact HB.out));rintro e w21 ⟨rfl,hi,hb,hk⟩;refine ⟨_,rfl,?_⟩;have n0_ := Aside0.mk (Kd.R_mono (Kd.R_keep (IsS67.apart (show IsS67 w0 _ g s0_0 x1001_1 x1002_1 from by repeat (first|(with_reducible first|exact HI0.out | apply zsA | apply zsB | apply zsC | apply zsD | apply zsE) | exact HI0.out)) (by (with_reducible repeat (first|apply zkA | apply zkB | apply zkC));exact HO_3.out) (by decide)) hk (fun _ h => h.2)) (fun _ h => h.1));have n1_ := Aside0.mk (Kd.R_mono (Kd.R_keep (IsS67.apart (show IsS67 w0 _ g s0_0 x1001_1 x1002_1 from by repeat (first|(with_reducible first|exact HI0.out | apply zsA | apply zsB | apply zsC | apply zsD | apply zsE) | exact HI0.out)) (by (with_reducible repeat (first|apply zkA | apply zkB | apply zkC));exact HO_8.out) (by decide)) hk (fun _ h => h.2)) (fun _ h => h.1));have n2_ := Aside0.mk (KeepBut.trans (by repeat (first|(with_reducible first|exact HK.out | apply zeA | apply zeB | apply zeC | apply zeD) | exact HK.out)) hk (.inl rfl));have n3_ := Aside0.mk (hb);have n4_ := Aside0.mk (hi);clear HO_3;clear HO_8;clear HK;clear HB;clear HI0;have HO_3 := n0_;have HO_8 := n1_;have HK := n2_;have HB := n3_;have HI0 := n4_;clear n0_ n1_ n2_ n3_ n4_;(try clear hb))|((with_reducible refine gate_dst (N := 30) rfl ?_);refine Kd.R_lit Kd.string _ 9 ?hg (N := 30) ?hd (xs := ([(⟨#[90,90]⟩ : ByteArray),(⟨#[65]⟩ : ByteArray),(⟨#[]⟩ : ByteArray),(⟨#[122,122]⟩ : ByteArray)] : List ByteArray)) (inner := [.string (⟨#[90,90]⟩ : ByteArray),.string (⟨#[65]⟩ : ByteArray),.string (⟨#[]⟩ : ByteArray),.string (⟨#[122,122]⟩ : ByteArray)]) (ok := fun _ => True) (okp := fun _ => True) ?hr ?hp (fun _ hk => hk) trivial (Below.refl _ _) (Nat.le_refl _) (by simp) ?_;(case hd => rfl);(case hg => rfl);(case hr => first|(go_simp;done)|(go_simp;rfl));(case hp => exact (Reps.one (show Kd.M Kd.string _ _ _ (⟨#[90,90]⟩ : ByteArray) [.string (⟨#[90,90]⟩ : ByteArray)] from rfl) (Reps.one (show Kd.M Kd.string _ _ _ (⟨#[65]⟩ : ByteArray) [.string (⟨#[65]⟩ : ByteArray)] from rfl) (Reps.one (show Kd.M Kd.string _ _ _ (⟨#[]⟩ : ByteArray) [.string (⟨#[]⟩ : ByteArray)] from rfl) (Reps.one (show Kd.M Kd.string _ _ _ (⟨#[122,122]⟩ : ByteArray) [.string (⟨#[122,122]⟩ : ByteArray)] from rfl) (Reps.none _ _))))));intro v120 w22 ho23 hb hg_ hnew_;clear hg_ hnew_;(first|rw [← Ny119.out] at ho23 | (simp only [Int.reduceToNat] at ho23;rw [← Ny119.out] at ho23));have n0_ := Aside0.mk (Kd.R_below (by (with_reducible repeat (first|apply zkA | apply zkB | apply zkC));exact HO_3.out) hb);have n1_ := Aside0.mk (Kd.R_elder' (by (with_reducible repeat (first|apply zkA | apply zkB | apply zkC));exact HO_8.out) (Kd.R_base ho23) hb);have n2_ := Aside0.mk (Kd.R_lower (Kd.R_new' ho23 (Kd.R_lt (by (with_reducible repeat (first|apply zkA | apply zkB | apply zkC));exact HO_8.out))) (keep_size (w := w) (g := g) (row := none) (by repeat (first|(with_reducible first|exact HK.out | apply zeA | apply zeB | apply zeC | apply zeD) | exact HK.out))));have n3_ := Aside0.mk (IsS67.below (by repeat (first|(with_reducible first|exact HI0.out | apply zsA | apply zsB | apply zsC | apply zsD | apply zsE) | exact HI0.out)) hb);have n4_ := Aside0.mk (KeepBut.trans (by repeat (first|(with_reducible first|exact HK.out | apply zeA | apply zeB | apply zeC | apply zeD) | exact HK.out)) (KeepBut.of_below hb g none) (.inl rfl));have n5_ := Aside0.mk (below_step (by repeat (first|(with_reducible first|exact HB.out | apply zbA | apply zbB | apply zbC | refine below_set ?_ (IsS67.ge HI0.out)) | exact HB.out)) hb);clear HO_3;clear HO_8;clear HI0;clear HK;clear HB;have HO_3 := n0_;have HO_8 := n1_;have HO121 := n2_;have HI0 := n3_;have HK := n4_;have HB := n5_;clear n0_ n1_ n2_ n3_ n4_ n5_;clear hb ho23;obtain ⟨Ao24,co24,eo24⟩ := Kd.R_slice HO121.out;subst eo24)|((with_reducible refine gate_callee (f := 76) rfl ?_);refine goesM_ (some 31) Try.func76 #[.pointer (some ⟨g,0,none⟩),.slice Ao24 y119.length co24] ?_;(with_reducible refine (spec_l1Cur_of.calls g s0_0 t117 t118 _ _ y119 t122 t123 t124 w0 _ ?side1 ?side2 ?side3 ?side4 ?side5 A18.out).mono ?_);(case side1 => repeat (first|(with_reducible first|exact HI0.out | apply zsA | apply zsB | apply zsC | apply zsD | apply zsE) | exact HI0.out));(case side2 => repeat (first|(with_reducible first|exact HB.out | apply zbA | apply zbB | apply zbC | refine below_set ?_ (IsS67.ge HI0.out)) | exact HB.out));(case side3 => repeat (first|exact (Kd.R_reads' HO121.out).2.2 | (with_reducible refine Kd.C_alloc ?_ _)|(with_reducible refine Kd.C_drewN ?_ _)|(with_reducible refine Kd.C_drew ?_)));(case side4 => exact (Kd.R_reads' HO121.out).2.1);(case side5 => exact far_slice (IsS67.own_ne HI0.out HO121.out (by decide)));rintro e w25 ⟨rfl,hi,hb,hk⟩;refine ⟨_,rfl,?_⟩;have n0_ := Aside0.mk (Kd.R_mono (Kd.R_keep (IsS67.apart (show IsS67 w0 _ g s0_0 t117 t118 from by repeat (first|(with_reducible first|exact HI0.out | apply zsA | apply zsB | apply zsC | apply zsD | apply zsE) | exact HI0.out)) (by (with_reducible repeat (first|apply zkA | apply zkB | apply zkC));exact HO_3.out) (by decide)) hk (fun _ h => h.2)) (fun _ h => h.1));have n1_ := Aside0.mk (Kd.R_mono (Kd.R_keep (IsS67.apart (show IsS67 w0 _ g s0_0 t117 t118 from by repeat (first|(with_reducible first|exact HI0.out | apply zsA | apply zsB | apply zsC | apply zsD | apply zsE) | exact HI0.out)) (by (with_reducible repeat (first|apply zkA | apply zkB | apply zkC));exact HO_8.out) (by decide)) hk (fun _ h => h.2)) (fun _ h => h.1));have n2_ := Aside0.mk (Kd.R_mono (Kd.R_keep (IsS67.apart (show IsS67 w0 _ g s0_0 t117 t118 from by repeat (first|(with_reducible first|exact HI0.out | apply zsA | apply zsB | apply zsC | apply zsD | apply zsE) | exact HI0.out)) (by (with_reducible repeat (first|apply zkA | apply zkB | apply zkC));exact HO121.out) (by decide)) hk (fun _ h => h.2)) (fun _ h => h.1));have n3_ := Aside0.mk (KeepBut.trans (by repeat (first|(with_reducible first|exact HK.out | apply zeA | apply zeB | apply zeC | apply zeD) | exact HK.out)) hk (.inl rfl));have n4_ := Aside0.mk (hb);have n5_ := Aside0.mk (hi);clear HO_3;clear HO_8;clear HO121;clear HK;clear HB;clear HI0;have HO_3 := n0_;have HO_8 := n1_;have HO121 := n2_;have HK := n3_;have HB := n4_;have HI0 := n5_;clear n0_ n1_ n2_ n3_ n4_ n5_;(try clear hb))|((with_reducible refine gate_callee (f := 31) rfl ?_);refine goesM_ (some 32) Try.func31 #[.pointer (some ⟨g,0,none⟩),.string t122] ?_;(with_reducible refine (spec_l1Cur_card.calls k1 g s0_0 t123 t124 t122 t125 t126 t127 t128 t129 w0 _ ?side1 ?side2 A19.out).mono ?_);(case side1 => repeat (first|(with_reducible first|exact HI0.out | apply zsA | apply zsB | apply zsC | apply zsD | apply zsE) | exact HI0.out));(case side2 => repeat (first|(with_reducible first|exact HB.out | apply zbA | apply zbB | apply zbC | refine below_set ?_ (IsS67.ge HI0.out)) | exact HB.out));rintro e w26 ⟨rfl,hi,hb,hk⟩;refine ⟨_,rfl,?_⟩;have n0_ := Aside0.mk (Kd.R_mono (Kd.R_keep (IsS67.apart (show IsS67 w0 _ g s0_0 t123 t124 from by repeat (first|(with_reducible first|exact HI0.out | apply zsA | apply zsB | apply zsC | apply zsD | apply zsE) | exact HI0.out)) (by (with_reducible repeat (first|apply zkA | apply zkB | apply zkC));exact HO_3.out) (by decide)) hk (fun _ h => h.2)) (fun _ h => h.1));have n1_ := Aside0.mk (Kd.R_mono (Kd.R_keep (IsS67.apart (show IsS67 w0 _ g s0_0 t123 t124 from by repeat (first|(with_reducible first|exact HI0.out | apply zsA | apply zsB | apply zsC | apply zsD | apply zsE) | exact HI0.out)) (by (with_reducible repeat (first|apply zkA | apply zkB | apply zkC));exact HO_8.out) (by decide)) hk (fun _ h => h.2)) (fun _ h => h.1));have n2_ := Aside0.mk (Kd.R_mono (Kd.R_keep (IsS67.apart (show IsS67 w0 _ g s0_0 t123 t124 from by repeat (first|(with_reducible first|exact HI0.out | apply zsA | apply zsB | apply zsC | apply zsD | apply zsE) | exact HI0.out)) (by (with_reducible repeat (first|apply zkA | apply zkB | apply zkC));exact HO121.out) (by decide)) hk (fun _ h => h.2)) (fun _ h => h.1));have n3_ := Aside0.mk (KeepBut.trans (by repeat (first|(with_reducible first|exact HK.out | apply zeA | apply zeB | apply zeC | apply zeD) | exact HK.out)) hk (.inl rfl));have n4_ := Aside0.mk (hb);have n5_ := Aside0.mk (hi);clear HO_3;clear HO_8;clear HO121;clear HK;clear HB;clear HI0;have HO_3 := n0_;have HO_8 := n1_;have HO121 := n2_;have HK := n3_;have HB := n4_;have HI0 := n5_;clear n0_ n1_ n2_ n3_ n4_ n5_;(try clear hb))|((with_reducible refine gate_builtin (b := .append) (xs := #[.tmp 27,.tmp 33]) rfl ?_);at_builtin;refine Kd.R_append k24 w.heap.size rfl (.tmp 27) (.tmp 33) 29 24 (.agg #[(.string ⟨#[]⟩),(.int .i64 0),(.int .i64 0)]) 32 rfl Try.underlying29 info24 rfl (by decide) (by omega) u3 x3_1 (⟨t125,t126,t127⟩ : S24) [.string t125,.int .i64 t126,.int .i64 t127] (fun _ => True) (fun _ => False) rfl rfl ?aP (fun _ hk => hk.elim) ?aF ?aO (Below.refl _ _) ?aS ?aL ?_;(case aP => exact k24_mkM _ _ _ (⟨t125,t126,t127⟩ : S24));(case aF => exact (fun _ _ => trivial));(case aO => exact (by (with_reducible repeat (first|apply zkA | apply zkB | apply zkC));exact HO_3.out));(case aS => exact (keep_size (w := w) (g := g) (row := none) (by repeat (first|(with_reducible first|exact HK.out | apply zeA | apply zeB | apply zeC | apply zeD) | exact HK.out))));(case aL => have := LMc20.out;omega);intro v131 w27 ho hb hg hat;rw [← Ny130.out] at ho;have n0_ := Aside0.mk (Kd.R_over' (by (with_reducible repeat (first|apply zkA | apply zkB | apply zkC));exact HO_8.out) (Kd.R_typed (by (with_reducible repeat (first|apply zkA | apply zkB | apply zkC));exact HO_3.out)) (by decide) hg);have n1_ := Aside0.mk (IsS67.grown (by repeat (first|(with_reducible first|exact HI0.out | apply zsA | apply zsB | apply zsC | apply zsD | apply zsE) | exact HI0.out)) hg (IsS67.own_ne HI0.out HO_3.out (by decide)));have n2_ := Aside0.mk (Kd.R_over' (by (with_reducible repeat (first|apply zkA | apply zkB | apply zkC));exact HO121.out) (Kd.R_typed (by (with_reducible repeat (first|apply zkA | apply zkB | apply zkC));exact HO_3.out)) (by decide) hg);have n3_ := Aside0.mk (below_weaken (by repeat (first|(with_reducible first|exact HB.out | apply zbA | apply zbB | apply zbC | refine below_set ?_ (IsS67.ge HI0.out)) | exact HB.out)) HL.out hb);have n4_ := Aside0.mk (KeepBut.trans (by repeat (first|(with_reducible first|exact HK.out | apply zeA | apply zeB | apply zeC | apply zeD) | exact HK.out)) (KeepBut.of_grown hg g) (Kd.R_base2 HO_3.out));have n5_ := Aside0.mk (ho);clear HO_8;clear HI0;clear HO121;clear HB;clear HK;clear HO_3;have HO_8 := n0_;have HI0 := n1_;have HO121 := n2_;have HB := n3_;have HK := n4_;have HO132 := n5_;clear n0_ n1_ n2_ n3_ n4_ n5_;clear ho hb hg hat))
      go_ret
      exact ⟨_,by first|rfl | (simp [*,errW_none,errW_some] <;> rfl),by (with_reducible repeat (first|apply zkA | apply zkB | apply zkC));exact HO132.out,by repeat (first|(with_reducible first|exact HI0.out | apply zsA | apply zsB | apply zsC | apply zsD | apply zsE) | exact HI0.out),by repeat (first|(with_reducible first|exact HB.out | apply zbA | apply zbB | apply zbC | refine below_set ?_ (IsS67.ge HI0.out)) | exact HB.out),by repeat (first|(with_reducible first|exact HK.out | apply zeA | apply zeB | apply zeC | apply zeD) | exact HK.out)⟩
     ·rw [if_neg c20] at H
      exact absurd H (by simp)
    ·rw [if_neg c17] at H
     have c17b0 : (t116 == 0) = false := beq_eq_false_iff_ne.mpr c17
     have c17b1 : (t116 != 0) = true := bne_iff_ne.mpr c17
     by_cases c28 : t116 = 1
     ·rw [if_pos c28] at H
      have c28b0 : (t116 == 1) = true := beq_iff_eq.mpr c28
      have c28b1 : (t116 != 1) = false := bne_eq_false_iff_eq.mpr c28
      clear c28
      replace H := Option.bind_eq_some_iff.mp H
      obtain ⟨⟨t133,t134,t135⟩,A290,H⟩ := H
      try dsimp only at H
      have A29 := Aside0.mk A290
      clear A290
      have H' := Aside0.mk H
      clear H
      go_wp2_with (first|((with_reducible refine gate_callee (f := 42) rfl ?_);refine goesM_ (some 24) Try.func42 #[.pointer (some ⟨g,0,none⟩),.int .i64 30] ?_;(with_reducible refine (spec_l1Cur_pick.calls g s0_0 x1001_1 x1002_1 30 t116 t117 t118 w0 _ ?side1 ?side2 A16.out).mono ?_);(case side1 => repeat (first|(with_reducible first|exact HI0.out | apply zsA | apply zsB | apply zsC | apply zsD | apply zsE) | exact HI0.out));(case side2 => repeat (first|(with_reducible first|exact HB.out | apply zbA | apply zbB | apply zbC | refine below_set ?_ (IsS67.ge HI0.out)) | exact HB.out));rintro e w30 ⟨rfl,hi,hb,hk⟩;refine ⟨_,rfl,?_⟩;have n0_ := Aside0.mk (Kd.R_mono (Kd.R_keep (IsS67.apart (show IsS67 w0 _ g s0_0 x1001_1 x1002_1 from by repeat (first|(with_reducible first|exact HI0.out | apply zsA | apply zsB | apply zsC | apply zsD | apply zsE) | exact HI0.out)) (by (with_reducible repeat (first|apply zkA | apply zkB | apply zkC));exact HO_3.out) (by decide)) hk (fun _ h => h.2)) (fun _ h => h.1));have n1_ := Aside0.mk (Kd.R_mono (Kd.R_keep (IsS67.apart (show IsS67 w0 _ g s0_0 x1001_1 x1002_1 from by repeat (first|(with_reducible first|exact HI0.out | apply zsA | apply zsB | apply zsC | apply zsD | apply zsE) | exact HI0.out)) (by (with_reducible repeat (first|apply zkA | apply zkB | apply zkC));exact HO_8.out) (by decide)) hk (fun _ h => h.2)) (fun _ h => h.1));have n2_ := Aside0.mk (KeepBut.trans (by repeat (first|(with_reducible first|exact HK.out | apply zeA | apply zeB | apply zeC | apply zeD) | exact HK.out)) hk (.inl rfl));have n3_ := Aside0.mk (hb);have n4_ := Aside0.mk (hi);clear HO_3;clear HO_8;clear HK;clear HB;clear HI0;have HO_3 := n0_;have HO_8 := n1_;have HK := n2_;have HB := n3_;have HI0 := n4_;clear n0_ n1_ n2_ n3_ n4_;(try clear hb))|((with_reducible refine gate_callee (f := 42) rfl ?_);refine goesM_ (some 38) Try.func42 #[.pointer (some ⟨g,0,none⟩),.int .i64 2] ?_;(with_reducible refine (spec_l1Cur_pick.calls g s0_0 t117 t118 2 t133 t134 t135 w0 _ ?side1 ?side2 A29.out).mono ?_);(case side1 => repeat (first|(with_reducible first|exact HI0.out | apply zsA | apply zsB | apply zsC | apply zsD | apply zsE) | exact HI0.out));(case side2 => repeat (first|(with_reducible first|exact HB.out | apply zbA | apply zbB | apply zbC | refine below_set ?_ (IsS67.ge HI0.out)) | exact HB.out));rintro e w31 ⟨rfl,hi,hb,hk⟩;refine ⟨_,rfl,?_⟩;have n0_ := Aside0.mk (Kd.R_mono (Kd.R_keep (IsS67.apart (show IsS67 w0 _ g s0_0 t117 t118 from by repeat (first|(with_reducible first|exact HI0.out | apply zsA | apply zsB | apply zsC | apply zsD | apply zsE) | exact HI0.out)) (by (with_reducible repeat (first|apply zkA | apply zkB | apply zkC));exact HO_3.out) (by decide)) hk (fun _ h => h.2)) (fun _ h => h.1));have n1_ := Aside0.mk (Kd.R_mono (Kd.R_keep (IsS67.apart (show IsS67 w0 _ g s0_0 t117 t118 from by repeat (first|(with_reducible first|exact HI0.out | apply zsA | apply zsB | apply zsC | apply zsD | apply zsE) | exact HI0.out)) (by (with_reducible repeat (first|apply zkA | apply zkB | apply zkC));exact HO_8.out) (by decide)) hk (fun _ h => h.2)) (fun _ h => h.1));have n2_ := Aside0.mk (KeepBut.trans (by repeat (first|(with_reducible first|exact HK.out | apply zeA | apply zeB | apply zeC | apply zeD) | exact HK.out)) hk (.inl rfl));have n3_ := Aside0.mk (hb);have n4_ := Aside0.mk (hi);clear HO_3;clear HO_8;clear HK;clear HB;clear HI0;have HO_3 := n0_;have HO_8 := n1_;have HK := n2_;have HB := n3_;have HI0 := n4_;clear n0_ n1_ n2_ n3_ n4_;(try clear hb)))
      go_loopg [3] k1 (fun kq v3 w' => ∃ (x3_2 : List (S24)),Aside0 (spec_l1Cur_cards.l1 kq x3_2 (wrap64 (20 + t133)) s0_0 t134 t135 = some (r1,r2,r3)) ∧ Aside0 (kq ≤ k1) ∧ Aside0 (Kd.R k24 24 w' w.heap.size (fun _ => True) v3 x3_2) ∧ Aside0 (IsS67 w0 w' g s0_0 t134 t135) ∧ Aside0 (KeepBut w w' g none) ∧ Aside0 (Below w0.heap.size w0 w'))
      case atStart => exact ⟨(([] : List (S24))),H',⟨Nat.le_refl _⟩,⟨by first|exact Kd.R_nil _ _ _ _ _ | exact Kd.N_nil _ _ _ _ _ | exact Kd.V_nil _ _ _ _ _ | exact Kd.Q_nil _ _ _ _ _ | exact Kd.S_nil _ _ _ _ _⟩,⟨by repeat (first|(with_reducible first|exact HI0.out | apply zsA | apply zsB | apply zsC | apply zsD | apply zsE) | exact HI0.out)⟩,⟨by repeat (first|(with_reducible first|exact HK.out | apply zeA | apply zeB | apply zeC | apply zeD) | exact HK.out)⟩,⟨by repeat (first|(with_reducible first|exact HB.out | apply zbA | apply zbB | apply zbC | refine below_set ?_ (IsS67.ge HI0.out)) | exact HB.out)⟩⟩
      case round =>
       clear H'
       (try clear c1);(try clear p1);(try clear q1);(try clear hx1);(try clear c2);(try clear p2);(try clear c3);(try clear c4);(try clear c5);(try clear c5b0);(try clear c6);(try clear c6b0);(try clear p6);(try clear c7);(try clear c7b0);(try clear c9);(try clear p10);(try clear q10);(try clear hx10);(try clear c11);(try clear c17);(try clear c17b0);(try clear c17b1);(try clear c20);(try clear c28);(try clear c28b0);(try clear c28b1);(try clear c31);(try clear hx104_0);(try clear p104);(try clear p2);(try clear q104)
       obtain ⟨x3_2,HA,HK2,HO_3,HI0,HK,HB⟩ := hrel
       cases gk with
       | zero => exact absurd HA.out (by simp [spec_l1Cur_cards.l1])
       | succ k2 =>
        have H := HA.out
        clear HA
        simp only [spec_l1Cur_cards.l1] at H
        by_cases c32 : (x3_2.length : Int) < (wrap64 (20 + t133))
        ·rw [if_pos c32] at H
         have c32b0 : decide ((x3_2.length : Int) < (wrap64 (20 + t133))) = true := decide_eq_true c32
         clear c32
         by_cases c33 : 0 ≤ (x3_2.length : Int)
         ·rw [if_pos c33] at H
          have c33b0 := eq_true c33
          have c33b1 : decide (0 ≤ (x3_2.length : Int)) = true := decide_eq_true c33
          clear c33
          by_cases c34 : (x3_2.length : Int) ≤ (wrap64 ((x3_2.length : Int) + 1))
          ·rw [if_pos c34] at H
           have c34b0 := eq_true c34
           have c34b1 : decide ((x3_2.length : Int) ≤ (wrap64 ((x3_2.length : Int) + 1))) = true := decide_eq_true c34
           by_cases c35 : (wrap64 ((x3_2.length : Int) + 1)) ≤ 21
           ·rw [if_pos c35] at H
            have c35b0 := eq_true c35
            have c35b1 : decide ((wrap64 ((x3_2.length : Int) + 1)) ≤ 21) = true := decide_eq_true c35
            by_cases c36 : 1 + ((⟨#[65,66,67,68,69,70,71,72,73,74,75,76,77,78,79,80,81,82,83,84,85]⟩ : ByteArray).extract x3_2.length (x3_2.length + 1)).size ≤ 9223372036854775807
            ·rw [if_pos c36] at H
             have c36b0 := eq_true c36
             have c36b1 : decide (1 + ((⟨#[65,66,67,68,69,70,71,72,73,74,75,76,77,78,79,80,81,82,83,84,85]⟩ : ByteArray).extract x3_2.length (x3_2.length + 1)).size ≤ 9223372036854775807) = true := decide_eq_true c36
             try have c36b2 : (9223372036854775807 < 1 + ((⟨#[65,66,67,68,69,70,71,72,73,74,75,76,77,78,79,80,81,82,83,84,85]⟩ : ByteArray).extract x3_2.length (x3_2.length + 1)).size) = False := eq_false (Nat.not_lt.2 c36)
             by_cases c37 : x3_2.length < 4398046511104
             ·rw [if_pos c37] at H
              have LMc37 := Aside0.mk c37
              have hs0_ : (0 ≤ (x3_2.length : Int) + 1 ∧ (x3_2.length : Int) + 1 ≤ 21) = True := eq_true (by have h1_ := LMc37.out;have h2_ := of_decide_eq_true c35b1;unfold wrap64 at h2_;omega)
              have hs1_ : (0 ≤ (x3_2.length : Int) ∧ (x3_2.length : Int) ≤ (x3_2.length : Int) + 1) = True := eq_true (by omega)
              clear c37
              obtain ⟨y136,hy136⟩ : ∃ y_ : List (S24),y_ = (x3_2 ++ [(⟨(⟨#[67]⟩ : ByteArray) ++ ((⟨#[65,66,67,68,69,70,71,72,73,74,75,76,77,78,79,80,81,82,83,84,85]⟩ : ByteArray).extract x3_2.length (x3_2.length + 1)),(x3_2.length : Int) % 6,(x3_2.length : Int)⟩ : S24)]) := ⟨_,rfl⟩
              replace H : (spec_l1Cur_cards.l1 k2 y136 (wrap64 (20 + t133)) s0_0 t134 t135) = some (r1,r2,r3) := by first|(rw [hy136];with_reducible exact H)|(have H2_ := (Option.bind_some _ _).symm.trans H;rw [hy136];with_reducible exact H2_)|(have H2_ := (Option.bind_some _ _).symm.trans H;with_reducible exact H2_) | with_reducible exact H | (rw [hy136];exact H) | exact H
              have Ny136 := Aside0.mk hy136
              clear hy136
              have H' := Aside0.mk H
              clear H
              obtain ⟨Ao38,co38,eo38⟩ := Kd.R_slice HO_3.out
              subst eo38
              go_wp2_with (first|((with_reducible refine gate_builtin (b := .append) (xs := #[.tmp 46,.tmp 56]) rfl ?_);at_builtin;refine Kd.R_append k24 w.heap.size rfl (.tmp 46) (.tmp 56) 29 24 (.agg #[(.string ⟨#[]⟩),(.int .i64 0),(.int .i64 0)]) 32 rfl Try.underlying29 info24 rfl (by decide) (by omega) (.slice Ao38 x3_2.length co38) x3_2 (⟨(⟨#[67]⟩ : ByteArray) ++ ((⟨#[65,66,67,68,69,70,71,72,73,74,75,76,77,78,79,80,81,82,83,84,85]⟩ : ByteArray).extract x3_2.length (x3_2.length + 1)),(x3_2.length : Int) % 6,(x3_2.length : Int)⟩ : S24) [.string ((⟨#[67]⟩ : ByteArray) ++ ((⟨#[65,66,67,68,69,70,71,72,73,74,75,76,77,78,79,80,81,82,83,84,85]⟩ : ByteArray).extract x3_2.length (x3_2.length + 1))),.int .i64 ((x3_2.length : Int) % 6),.int .i64 (x3_2.length : Int)] (fun _ => True) (fun _ => False) rfl rfl ?aP (fun _ hk => hk.elim) ?aF ?aO (Below.refl _ _) ?aS ?aL ?_;(case aP => exact k24_mkM _ _ _ (⟨(⟨#[67]⟩ : ByteArray) ++ ((⟨#[65,66,67,68,69,70,71,72,73,74,75,76,77,78,79,80,81,82,83,84,85]⟩ : ByteArray).extract x3_2.length (x3_2.length + 1)),(x3_2.length : Int) % 6,(x3_2.length : Int)⟩ : S24));(case aF => exact (fun _ _ => trivial));(case aO => exact (by (with_reducible repeat (first|apply zkA | apply zkB | apply zkC));exact HO_3.out));(case aS => exact (keep_size (w := w) (g := g) (row := none) (by repeat (first|(with_reducible first|exact HK.out | apply zeA | apply zeB | apply zeC | apply zeD) | exact HK.out))));(case aL => have := LMc37.out;omega);intro v137 w39 ho hb hg hat;rw [← Ny136.out] at ho;have n0_ := Aside0.mk (IsS67.grown (by repeat (first|(with_reducible first|exact HI0.out | apply zsA | apply zsB | apply zsC | apply zsD | apply zsE) | exact HI0.out)) hg (IsS67.own_ne HI0.out HO_3.out (by decide)));have n1_ := Aside0.mk (below_weaken (by repeat (first|(with_reducible first|exact HB.out | apply zbA | apply zbB | apply zbC | refine below_set ?_ (IsS67.ge HI0.out)) | exact HB.out)) HL.out hb);have n2_ := Aside0.mk (KeepBut.trans (by repeat (first|(with_reducible first|exact HK.out | apply zeA | apply zeB | apply zeC | apply zeD) | exact HK.out)) (KeepBut.of_grown hg g) (Kd.R_base2 HO_3.out));have n3_ := Aside0.mk (ho);clear HI0;clear HB;clear HK;clear HO_3;have HI0 := n0_;have HB := n1_;have HK := n2_;have HO138 := n3_;clear n0_ n1_ n2_ n3_;clear ho hb hg hat))
              go_roundg k2
              case measure => have := HK1.out;have := HK2.out;omega
              case rel => exact ⟨(y136),H',⟨by have := HK1.out;have := HK2.out;omega⟩,⟨by (with_reducible repeat (first|apply zkA | apply zkB | apply zkC));exact HO138.out⟩,⟨by repeat (first|(with_reducible first|exact HI0.out | apply zsA | apply zsB | apply zsC | apply zsD | apply zsE) | exact HI0.out)⟩,⟨by repeat (first|(with_reducible first|exact HK.out | apply zeA | apply zeB | apply zeC | apply zeD) | exact HK.out)⟩,⟨by repeat (first|(with_reducible first|exact HB.out | apply zbA | apply zbB | apply zbC | refine below_set ?_ (IsS67.ge HI0.out)) | exact HB.out)⟩⟩
             ·rw [if_neg c37] at H
              exact absurd H (by simp)
            ·rw [if_neg c36] at H
             exact absurd H (by simp)
           ·rw [if_neg c35] at H
            exact absurd H (by simp)
          ·rw [if_neg c34] at H
           exact absurd H (by simp)
         ·rw [if_neg c33] at H
          exact absurd H (by simp)
        ·rw [if_neg c32] at H
         have c32b0 : decide ((x3_2.length : Int) < (wrap64 (20 + t133))) = false := decide_eq_false c32
         clear c32
         simp only [Option.some.injEq,Prod.mk.injEq] at H
         obtain ⟨rfl,rfl,rfl⟩ := H
         obtain ⟨Ao40,co40,eo40⟩ := Kd.R_slice HO_3.out
         subst eo40
         go_wp2
         go_ret
         exact ⟨_,by first|rfl | (simp [*,errW_none,errW_some] <;> rfl),by (with_reducible repeat (first|apply zkA | apply zkB | apply zkC));exact HO_3.out,by repeat (first|(with_reducible first|exact HI0.out | apply zsA | apply zsB | apply zsC | apply zsD | apply zsE) | exact HI0.out),by repeat (first|(with_reducible first|exact HB.out | apply zbA | apply zbB | apply zbC | refine below_set ?_ (IsS67.ge HI0.out)) | exact HB.out),by repeat (first|(with_reducible first|exact HK.out | apply zeA | apply zeB | apply zeC | apply zeD) | exact HK.out)⟩
     ·rw [if_neg c28] at H
      have c28b0 : (t116 == 1) = false := beq_eq_false_iff_ne.mpr c28
      have c28b1 : (t116 != 1) = true := bne_iff_ne.mpr c28
      simp only [Option.some.injEq,Prod.mk.injEq] at H
      obtain ⟨rfl,rfl,rfl⟩ := H
      go_wp2_with (first|((with_reducible refine gate_callee (f := 42) rfl ?_);refine goesM_ (some 24) Try.func42 #[.pointer (some ⟨g,0,none⟩),.int .i64 30] ?_;(with_reducible refine (spec_l1Cur_pick.calls g s0_0 x1001_1 x1002_1 30 t116 t117 t118 w0 _ ?side1 ?side2 A16.out).mono ?_);(case side1 => repeat (first|(with_reducible first|exact HI0.out | apply zsA | apply zsB | apply zsC | apply zsD | apply zsE) | exact HI0.out));(case side2 => repeat (first|(with_reducible first|exact HB.out | apply zbA | apply zbB | apply zbC | refine below_set ?_ (IsS67.ge HI0.out)) | exact HB.out));rintro e w41 ⟨rfl,hi,hb,hk⟩;refine ⟨_,rfl,?_⟩;have n0_ := Aside0.mk (Kd.R_mono (Kd.R_keep (IsS67.apart (show IsS67 w0 _ g s0_0 x1001_1 x1002_1 from by repeat (first|(with_reducible first|exact HI0.out | apply zsA | apply zsB | apply zsC | apply zsD | apply zsE) | exact HI0.out)) (by (with_reducible repeat (first|apply zkA | apply zkB | apply zkC));exact HO_3.out) (by decide)) hk (fun _ h => h.2)) (fun _ h => h.1));have n1_ := Aside0.mk (Kd.R_mono (Kd.R_keep (IsS67.apart (show IsS67 w0 _ g s0_0 x1001_1 x1002_1 from by repeat (first|(with_reducible first|exact HI0.out | apply zsA | apply zsB | apply zsC | apply zsD | apply zsE) | exact HI0.out)) (by (with_reducible repeat (first|apply zkA | apply zkB | apply zkC));exact HO_8.out) (by decide)) hk (fun _ h => h.2)) (fun _ h => h.1));have n2_ := Aside0.mk (KeepBut.trans (by repeat (first|(with_reducible first|exact HK.out | apply zeA | apply zeB | apply zeC | apply zeD) | exact HK.out)) hk (.inl rfl));have n3_ := Aside0.mk (hb);have n4_ := Aside0.mk (hi);clear HO_3;clear HO_8;clear HK;clear HB;clear HI0;have HO_3 := n0_;have HO_8 := n1_;have HK := n2_;have HB := n3_;have HI0 := n4_;clear n0_ n1_ n2_ n3_ n4_;(try clear hb)))
      go_ret
      exact ⟨_,by first|rfl | (simp [*,errW_none,errW_some] <;> rfl),by (with_reducible repeat (first|apply zkA | apply zkB | apply zkC));exact HO_3.out,by repeat (first|(with_reducible first|exact HI0.out | apply zsA | apply zsB | apply zsC | apply zsD | apply zsE) | exact HI0.out),by repeat (first|(with_reducible first|exact HB.out | apply zbA | apply zbB | apply zbC | refine below_set ?_ (IsS67.ge HI0.out)) | exact HB.out),by repeat (first|(with_reducible first|exact HK.out | apply zeA | apply zeB | apply zeC | apply zeD) | exact HK.out)⟩

end Go.Proofs.Ytkobnljfoedmnaa.Q
