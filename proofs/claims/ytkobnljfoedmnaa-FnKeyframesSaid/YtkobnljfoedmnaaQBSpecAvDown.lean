-- Written for the seat Ytkobnljfoedmnaa by a program of this session (wip/tool/gx.py) out of the translation. Lean checks it.
import Derived.Test.YtkobnljfoedmnaaQ0
import Derived.Test.YtkobnljfoedmnaaGCall
import Derived.Test.YtkobnljfoedmnaaWApart
import Derived.Test.YtkobnljfoedmnaaWKept
import Derived.Test.YtkobnljfoedmnaaWShare
import Derived.Test.YtkobnljfoedmnaaWRepsOne
namespace Go.Proofs.Ytkobnljfoedmnaa.Q
open Go.RowKit Go.Proofs.YtkobnljfoedmnaaW.PrintWords Go.Proofs.YtkobnljfoedmnaaW.PrintLast Go.Proofs.YtkobnljfoedmnaaW.PrintMore Go.Proofs.YtkobnljfoedmnaaW.GCall
attribute [local go_sem] max2_int min2_int max_two min_two max_three min_three max_four min_four   -- for this text's walks alone
set_option linter.unusedVariables false
set_option linter.unusedSimpArgs false

/-! ### spec_avDown: function 87 -/
def spec_avDown.f (a0 : Int) (a1 : Int) : Option (Int) := if a0 < 0 then (if a1 = 0 then (none) else (if (Int.tmod a0 a1) = 0 then (some (wrap64 (Int.tdiv a0 a1))) else (some (wrap64 ((wrap64 (Int.tdiv a0 a1)) - 1))))) else (if a1 = 0 then (none) else (some (wrap64 (Int.tdiv a0 a1))))
set_option maxHeartbeats 3000000 in
set_option maxRecDepth 100000 in
theorem spec_avDown.calls (a0 : Int) (a1 : Int) (r : Int) (w : World) (h : spec_avDown.f a0 a1 = some r) :
  Calls Try.prog 87 #[.int .i64 a0, .int .i64 a1] w fun e w' => e = .returned (.int .i64 r) ∧ Drawn0 w w' := by
 have H : (if a0 < 0 then (if a1 = 0 then (none) else (if (Int.tmod a0 a1) = 0 then (some (wrap64 (Int.tdiv a0 a1))) else (some (wrap64 ((wrap64 (Int.tdiv a0 a1)) - 1))))) else (if a1 = 0 then (none) else (some (wrap64 (Int.tdiv a0 a1))))) = some r := h
 clear h
 by_cases c3 : a0 < 0
 ·rw [if_pos c3] at H
  have c3b0 : decide (a0 < 0) = true := decide_eq_true c3
  clear c3
  by_cases c4 : a1 = 0
  ·rw [if_pos c4] at H
   exact absurd H (by simp)
  ·rw [if_neg c4] at H
   have c4b0 : (a1 == 0) = false := beq_eq_false_iff_ne.mpr c4
   have c4b1 : (a1 != 0) = true := bne_iff_ne.mpr c4
   by_cases c5 : (Int.tmod a0 a1) = 0
   ·rw [if_pos c5] at H
    have c5b0 : ((Int.tmod a0 a1) == 0) = true := beq_iff_eq.mpr c5
    have c5b1 : ((Int.tmod a0 a1) != 0) = false := bne_eq_false_iff_eq.mpr c5
    clear c5
    obtain rfl := Option.some.inj H
    go_enter Try.func87, Try.ntmps87
    go_wp2
    go_ret
    exact ⟨by first | rfl | (simp; done) | (simp [*]; done), by repeat (first | exact Drawn0.refl _ | apply Drawn0.step)⟩
   ·rw [if_neg c5] at H
    have c5b0 : ((Int.tmod a0 a1) == 0) = false := beq_eq_false_iff_ne.mpr c5
    have c5b1 : ((Int.tmod a0 a1) != 0) = true := bne_iff_ne.mpr c5
    obtain rfl := Option.some.inj H
    go_enter Try.func87, Try.ntmps87
    go_wp2
    go_ret
    exact ⟨by first | rfl | (simp; done) | (simp [*]; done), by repeat (first | exact Drawn0.refl _ | apply Drawn0.step)⟩
 ·rw [if_neg c3] at H
  have c3b0 : decide (a0 < 0) = false := decide_eq_false c3
  clear c3
  by_cases c6 : a1 = 0
  ·rw [if_pos c6] at H
   exact absurd H (by simp)
  ·rw [if_neg c6] at H
   have c6b0 : (a1 == 0) = false := beq_eq_false_iff_ne.mpr c6
   have c6b1 : (a1 != 0) = true := bne_iff_ne.mpr c6
   obtain rfl := Option.some.inj H
   go_enter Try.func87, Try.ntmps87
   go_wp2
   go_ret
   exact ⟨by first | rfl | (simp; done) | (simp [*]; done), by repeat (first | exact Drawn0.refl _ | apply Drawn0.step)⟩

/-! ### spec_avBetween: function 60 -/
def spec_avBetween.f (a0 : Int) (a1 : Int) (a2 : Int) (a3 : Int) : Option (Int) := (spec_avDown.f (wrap64 ((wrap64 (a1 - a0)) * a2)) a3).bind fun t101 => (some (wrap64 (a0 + t101)))
set_option maxHeartbeats 3000000 in
set_option maxRecDepth 100000 in
theorem spec_avBetween.calls (a0 : Int) (a1 : Int) (a2 : Int) (a3 : Int) (r : Int) (w : World) (h : spec_avBetween.f a0 a1 a2 a3 = some r) :
  Calls Try.prog 60 #[.int .i64 a0, .int .i64 a1, .int .i64 a2, .int .i64 a3] w fun e w' => e = .returned (.int .i64 r) ∧ Drawn0 w w' := by
 have H : ((spec_avDown.f (wrap64 ((wrap64 (a1 - a0)) * a2)) a3).bind fun t101 => (some (wrap64 (a0 + t101)))) = some r := h
 clear h
 replace H := Option.bind_eq_some_iff.mp H
 obtain ⟨t101, A50, H⟩ := H
 try dsimp only at H
 have A5 := Aside0.mk A50
 clear A50
 obtain rfl := Option.some.inj H
 go_enter Try.func60, Try.ntmps60
 go_wp2_with (first | ((with_reducible refine gate_callee (f := 87) rfl ?_); refine goesM_ (some 16) Try.func87 #[.int .i64 (wrap64 ((wrap64 (a1 - a0)) * a2)), .int .i64 a3] ?_; (with_reducible refine (spec_avDown.calls (wrap64 ((wrap64 (a1 - a0)) * a2)) a3 t101 _ A5.out).mono ?_); rintro e w' ⟨rfl, ⟨nd, rfl⟩⟩; refine ⟨_, rfl, ?_⟩))
 go_ret
 exact ⟨by first | rfl | (simp; done) | (simp [*]; done), by repeat (first | exact Drawn0.refl _ | apply Drawn0.step)⟩

end Go.Proofs.Ytkobnljfoedmnaa.Q
