-- Written for the seat Ytkobnljfoedmnaa by a program of this session (wip/tool/gx.py) out of the translation. Lean checks it.
import Derived.Test.YtkobnljfoedmnaaQ0
import Derived.Test.YtkobnljfoedmnaaGCall
import Derived.Test.YtkobnljfoedmnaaQBEq24
import Derived.Test.YtkobnljfoedmnaaWApart
import Derived.Test.YtkobnljfoedmnaaWKept
import Derived.Test.YtkobnljfoedmnaaWShare
import Derived.Test.YtkobnljfoedmnaaWN
import Derived.Test.YtkobnljfoedmnaaWRepsOne
namespace Go.Proofs.Ytkobnljfoedmnaa.Q
open Go.RowKit Go.Proofs.YtkobnljfoedmnaaW.PrintWords Go.Proofs.YtkobnljfoedmnaaW.PrintLast Go.Proofs.YtkobnljfoedmnaaW.PrintMore Go.Proofs.YtkobnljfoedmnaaW.GCall
attribute [local go_sem] max2_int min2_int max_two min_two max_three min_three max_four min_four   -- for this text's walks alone
set_option linter.unusedVariables false
set_option linter.unusedSimpArgs false

/-! ### impl_RunAnswers_1: function 46 -/
def impl_RunAnswers_1.f (k : Nat) (a0_0 : Int) (a0_1 : ByteArray) (a0_2 : Bool) : Option (Bool) := (impl_isFrame.f a0_0).bind fun t102 => (if t102 = true then ((impl_IsGloss.f k a0_1).bind fun t103 => (some t103)) else (some false))
theorem impl_RunAnswers_1.mono : ∀ a0 a1 a2 k,LeO (impl_RunAnswers_1.f k a0 a1 a2) (impl_RunAnswers_1.f (k + 1) a0 a1 a2) := by
 intro a0 a1 a2 k
 unfold impl_RunAnswers_1.f
 repeat' first
   | (with_reducible exact impl_IsGloss.mono _ _)
   | (with_reducible exact LeO.refl _)
   | (with_reducible exact LeO.none _)
   | (with_reducible refine LeO.ite ?_ ?_)
   | (with_reducible refine LeO.bind ?_ (fun _ => ?_))
set_option maxHeartbeats 3000000 in
set_option maxRecDepth 100000 in
theorem impl_RunAnswers_1.calls (k : Nat) (a0_0 : Int) (a0_1 : ByteArray) (a0_2 : Bool) (r : Bool) (w : World) (h : impl_RunAnswers_1.f k a0_0 a0_1 a0_2 = some r) :
  Calls Try.prog 46 #[.agg #[.int .i64 a0_0,.string a0_1,.bool a0_2]] w fun e w' => e = .returned (.bool r) ∧ Below w.heap.size w w' := by
 have hu45 := Try.underlying45
 have HB := Aside0.mk (Below.refl w.heap.size w)
 have H : ((impl_isFrame.f a0_0).bind fun t102 => (if t102 = true then ((impl_IsGloss.f k a0_1).bind fun t103 => (some t103)) else (some false))) = some r := h
 clear h
 replace H := Option.bind_eq_some_iff.mp H
 obtain ⟨t102,A20,H⟩ := H
 try dsimp only at H
 have A2 := Aside0.mk A20
 clear A20
 by_cases c3 : t102 = true
 ·subst c3
  rw [if_pos rfl] at H
  replace H := Option.bind_eq_some_iff.mp H
  obtain ⟨t103,A40,H⟩ := H
  try dsimp only at H
  have A4 := Aside0.mk A40
  clear A40
  obtain rfl := Option.some.inj H
  go_enter Try.func46,Try.ntmps46
  go_wp2_with (first|((with_reducible refine gate_dst (N := 1) rfl ?_);refine box_event ?hg (N := 1) ?hd (cs := #[.int .i64 a0_0,.string a0_1,.bool a0_2]) (t := 45) ?hr ?_;(case hd => rfl);(case hg => rfl);(case hr => first|(go_simp;done)|(go_simp;rfl));intro gb101 hg w5 hbox hb;have n0_ := Aside0.mk (below_step (by repeat (first|exact HB.out | apply zbA | apply zbB | apply zbC)) hb);have n1_ := Aside0.mk (hbox);have n2_ := Aside0.mk ((by rw [hg];exact (below_size (by repeat (first|exact HB.out | apply zbA | apply zbB | apply zbC))) : w.heap.size ≤ gb101));have n3_ := Aside0.mk ((by rw [hg];exact (below_size (by repeat (first|exact HB.out | apply zbA | apply zbB | apply zbC))) : w.heap.size ≤ gb101));clear HB;have HB := n0_;have BK101 := n1_;have GW101 := n2_;have GE101 := n3_;clear n0_ n1_ n2_ n3_;clear hb hbox hg;have hcz6_0 : w5.cell? ⟨gb101,0,none⟩ = some (.int .i64 a0_0) := (blk_cell BK101.out 0).trans rfl;have hcz6_1 : w5.cell? ⟨gb101,1,none⟩ = some (.string a0_1) := (blk_cell BK101.out 1).trans rfl;have hcz6_2 : w5.cell? ⟨gb101,2,none⟩ = some (.bool a0_2) := (blk_cell BK101.out 2).trans rfl;have hfz6_0 := blk_frozen BK101.out 0;have hfz6_1 := blk_frozen BK101.out 1;have hfz6_2 := blk_frozen BK101.out 2)|((with_reducible refine gate_callee (f := 36) rfl ?_);refine goesM_ (some 5) Try.func36 #[.int .i64 a0_0] ?_;(with_reducible refine (impl_isFrame.calls a0_0 true _ A2.out).mono ?_);rintro e w' ⟨rfl,⟨nd,rfl⟩⟩;refine ⟨_,rfl,?_⟩)|(go_at_call 47;(with_reducible refine (impl_IsGloss.calls k a0_1 t103 _ A4.out).mono ?_);rintro e w' ⟨rfl,⟨nd,rfl⟩⟩))
  go_ret
  exact ⟨by first|rfl | (simp [*,errW_none,errW_some] <;> rfl),by repeat (first|(with_reducible first|exact HB.out | apply zbA | apply zbB | apply zbC | refine below_set ?_ GE101.out) | exact HB.out)⟩
 ·replace c3 := Bool.eq_false_iff.mpr c3
  subst c3
  rw [if_neg (show ¬ (false = true) by decide)] at H
  obtain rfl := Option.some.inj H
  go_enter Try.func46,Try.ntmps46
  go_wp2_with (first|((with_reducible refine gate_dst (N := 1) rfl ?_);refine box_event ?hg (N := 1) ?hd (cs := #[.int .i64 a0_0,.string a0_1,.bool a0_2]) (t := 45) ?hr ?_;(case hd => rfl);(case hg => rfl);(case hr => first|(go_simp;done)|(go_simp;rfl));intro gb101 hg w7 hbox hb;have n0_ := Aside0.mk (below_step (by repeat (first|exact HB.out | apply zbA | apply zbB | apply zbC)) hb);have n1_ := Aside0.mk (hbox);have n2_ := Aside0.mk ((by rw [hg];exact (below_size (by repeat (first|exact HB.out | apply zbA | apply zbB | apply zbC))) : w.heap.size ≤ gb101));have n3_ := Aside0.mk ((by rw [hg];exact (below_size (by repeat (first|exact HB.out | apply zbA | apply zbB | apply zbC))) : w.heap.size ≤ gb101));clear HB;have HB := n0_;have BK101 := n1_;have GW101 := n2_;have GE101 := n3_;clear n0_ n1_ n2_ n3_;clear hb hbox hg;have hcz8_0 : w7.cell? ⟨gb101,0,none⟩ = some (.int .i64 a0_0) := (blk_cell BK101.out 0).trans rfl;have hcz8_1 : w7.cell? ⟨gb101,1,none⟩ = some (.string a0_1) := (blk_cell BK101.out 1).trans rfl;have hcz8_2 : w7.cell? ⟨gb101,2,none⟩ = some (.bool a0_2) := (blk_cell BK101.out 2).trans rfl;have hfz8_0 := blk_frozen BK101.out 0;have hfz8_1 := blk_frozen BK101.out 1;have hfz8_2 := blk_frozen BK101.out 2)|((with_reducible refine gate_callee (f := 36) rfl ?_);refine goesM_ (some 5) Try.func36 #[.int .i64 a0_0] ?_;(with_reducible refine (impl_isFrame.calls a0_0 false _ A2.out).mono ?_);rintro e w' ⟨rfl,⟨nd,rfl⟩⟩;refine ⟨_,rfl,?_⟩))
  go_ret
  exact ⟨by first|rfl | (simp [*,errW_none,errW_some] <;> rfl),by repeat (first|(with_reducible first|exact HB.out | apply zbA | apply zbB | apply zbC | refine below_set ?_ GE101.out) | exact HB.out)⟩

end Go.Proofs.Ytkobnljfoedmnaa.Q
