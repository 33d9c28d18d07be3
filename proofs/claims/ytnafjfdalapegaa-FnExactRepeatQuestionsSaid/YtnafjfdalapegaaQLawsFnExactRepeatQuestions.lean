-- Written for the seat Ytnafjfdalapegaa by a program of this session (wip/tool/gx.py) out of the translation. Lean checks it.
import Derived.Test.YtnafjfdalapegaaQ0
import Derived.Test.YtnafjfdalapegaaQBLawsHeldIntS
import Derived.Test.YtnafjfdalapegaaQBLawsSzIntS
import Derived.Test.YtnafjfdalapegaaQBounds
import Derived.Test.YtnafjfdalapegaaQImplRepeatQuestions
import Derived.Test.YtnafjfdalapegaaQSpecRepeatQuestions
import Derived.Test.YtnafjfdalapegaaGLaw
import Derived.Test.YtnafjfdalapegaaWApart
import Derived.Test.YtnafjfdalapegaaWFoot
import Derived.Test.YtnafjfdalapegaaWKept
import Derived.Test.YtnafjfdalapegaaWShare
import Derived.Test.YtnafjfdalapegaaWRepsOne
namespace Go.Proofs.Ytnafjfdalapegaa.Q
open Go.RowKit Go.Proofs.YtnafjfdalapegaaW.PrintWords Go.Proofs.YtnafjfdalapegaaW.PrintLast Go.Proofs.YtnafjfdalapegaaW.PrintMore
attribute [local go_sem] max2_int min2_int max_two min_two max_three min_three max_four min_four   -- for this text's walks alone
set_option linter.unusedVariables false
set_option linter.unusedSimpArgs false

/-! ### laws_FnExactRepeatQuestions: function 6 -/
def laws_FnExactRepeatQuestions.f (k : Nat) (l0 : List (S24)) (l1 : List Int) : Option Bool := (if (l1.length : Int) > 1048576 then some true else ((laws_szQuestionS.f k l0 1048576).bind fun t1 => (if t1 < 0 then some true else ((laws_toQuestionS.f k l0).bind fun t2 => ((laws_toIntS.f k l1).bind fun t3 => ((spec_RepeatQuestions.f k t2 t3).bind fun bt4 => ((laws_toQuestionS.f k l0).bind fun t6 => ((laws_toIntS.f k l1).bind fun t7 => ((impl_RepeatQuestions.f k t6 t7).bind fun bt8 => ((laws_eqQuestionS.f k bt8.1 bt4.1).bind fun t10 => (if t10 = true then (if bt8.2 = bt4.2 then ((laws_toQuestionS.f k l0).bind fun t11 => ((laws_eqQuestionS.f k t6 t11).bind fun t12 => (if t12 = true then ((laws_toIntS.f k l1).bind fun t13 => ((laws_eqIntS.f k t7 t13).bind fun t14 => (if t14 = true then ((laws_markQuestionS.f k t6 1).bind fun bt15 => ((laws_markIntS.f k t7 bt15.1).bind fun bt17 => (if bt17.1 < 0 then none else ((laws_eqQuestionS.f k bt8.1 bt4.1).bind fun t19 => (if t19 = true then (if bt8.2 = bt4.2 then ((laws_markQuestionS.f k bt8.1 1).bind fun bt20 => ((laws_heldQuestionS.f k bt20.2 1).bind fun t22 => (if t22 < 0 then none else (if t22 = bt20.1 then ((laws_toQuestionS.f k l0).bind fun t23 => ((laws_toIntS.f k l1).bind fun t24 => ((impl_RepeatQuestions.f k t23 t24).bind fun bt25 => ((laws_eqQuestionS.f k bt25.1 bt4.1).bind fun t27 => (if t27 = true then (if bt25.2 = bt4.2 then ((laws_heldQuestionS.f k bt20.2 1).bind fun t28 => (if t28 < 0 then none else (if t28 = bt20.1 then some true else none))) else none) else none))))) else none)))) else none) else none))))) else none))) else none))) else none) else none)))))))))))
theorem laws_FnExactRepeatQuestions.mono : ∀ l0 l1 k, LeO (laws_FnExactRepeatQuestions.f k l0 l1) (laws_FnExactRepeatQuestions.f (k + 1) l0 l1) := by
  intro l0 l1 k
  unfold laws_FnExactRepeatQuestions.f
  repeat' first
    | (with_reducible exact impl_RepeatQuestions.mono _ _ _)
    | (with_reducible exact laws_eqIntS.mono _ _ _)
    | (with_reducible exact laws_eqQuestionS.mono _ _ _)
    | (with_reducible exact laws_heldQuestionS.mono _ _ _)
    | (with_reducible exact laws_markIntS.mono _ _ _)
    | (with_reducible exact laws_markQuestionS.mono _ _ _)
    | (with_reducible exact laws_szQuestionS.mono _ _ _)
    | (with_reducible exact laws_toIntS.mono _ _)
    | (with_reducible exact laws_toQuestionS.mono _ _)
    | (with_reducible exact spec_RepeatQuestions.mono _ _ _)
    | (with_reducible exact LeO.refl _)
    | (with_reducible exact LeO.none _)
    | (with_reducible refine LeO.ite ?_ ?_)
    | (with_reducible refine LeO.bind ?_ (fun _ => ?_))
    | exact impl_RepeatQuestions.mono _ _ _
    | exact laws_eqIntS.mono _ _ _
    | exact laws_eqQuestionS.mono _ _ _
    | exact laws_heldQuestionS.mono _ _ _
    | exact laws_markIntS.mono _ _ _
    | exact laws_markQuestionS.mono _ _ _
    | exact laws_szQuestionS.mono _ _ _
    | exact laws_toIntS.mono _ _
    | exact laws_toQuestionS.mono _ _
    | exact spec_RepeatQuestions.mono _ _ _
    | exact LeO.none _
    | refine LeO.ite ?_ ?_
    | refine LeO.bind ?_ (fun _ => ?_)
attribute [local go_sem] max2_int min2_int max_two min_two max_three min_three max_four min_four
set_option maxHeartbeats 4000000 in
set_option maxRecDepth 100000 in
theorem laws_FnExactRepeatQuestions.calls (k : Nat) (A0 : Option Addr) (c0 : Nat) (l0 : List (S24)) (A1 : Option Addr) (c1 : Nat) (l1 : List Int) (r : Bool) (w : World) (hr0 : Kd.C k24 w A0 l0.length l0) (hc0 : l0.length ≤ c0) (hr1 : Kd.C (Kd.int .i64) w A1 l1.length l1) (hc1 : l1.length ≤ c1) (h : laws_FnExactRepeatQuestions.f k l0 l1 = some r) :
    Calls Try.prog 6 #[.slice A0 l0.length c0, .slice A1 l1.length c1] w fun e w' => e = .returned (.bool r) ∧ Below w.heap.size w w' := by
  have HR0 := Aside0.mk hr0
  have HC0 := Aside0.mk hc0
  have HR1 := Aside0.mk hr1
  have HC1 := Aside0.mk hc1
  clear hr0 hc0 hr1 hc1
  have HB := Aside0.mk (Below.refl w.heap.size w)
  have Z0 := Aside0.mk (Nat.le_refl w.heap.size)
  have H : (if (l1.length : Int) > 1048576 then some true else ((laws_szQuestionS.f k l0 1048576).bind fun t1 => (if t1 < 0 then some true else ((laws_toQuestionS.f k l0).bind fun t2 => ((laws_toIntS.f k l1).bind fun t3 => ((spec_RepeatQuestions.f k t2 t3).bind fun bt4 => ((laws_toQuestionS.f k l0).bind fun t6 => ((laws_toIntS.f k l1).bind fun t7 => ((impl_RepeatQuestions.f k t6 t7).bind fun bt8 => ((laws_eqQuestionS.f k bt8.1 bt4.1).bind fun t10 => (if t10 = true then (if bt8.2 = bt4.2 then ((laws_toQuestionS.f k l0).bind fun t11 => ((laws_eqQuestionS.f k t6 t11).bind fun t12 => (if t12 = true then ((laws_toIntS.f k l1).bind fun t13 => ((laws_eqIntS.f k t7 t13).bind fun t14 => (if t14 = true then ((laws_markQuestionS.f k t6 1).bind fun bt15 => ((laws_markIntS.f k t7 bt15.1).bind fun bt17 => (if bt17.1 < 0 then none else ((laws_eqQuestionS.f k bt8.1 bt4.1).bind fun t19 => (if t19 = true then (if bt8.2 = bt4.2 then ((laws_markQuestionS.f k bt8.1 1).bind fun bt20 => ((laws_heldQuestionS.f k bt20.2 1).bind fun t22 => (if t22 < 0 then none else (if t22 = bt20.1 then ((laws_toQuestionS.f k l0).bind fun t23 => ((laws_toIntS.f k l1).bind fun t24 => ((impl_RepeatQuestions.f k t23 t24).bind fun bt25 => ((laws_eqQuestionS.f k bt25.1 bt4.1).bind fun t27 => (if t27 = true then (if bt25.2 = bt4.2 then ((laws_heldQuestionS.f k bt20.2 1).bind fun t28 => (if t28 < 0 then none else (if t28 = bt20.1 then some true else none))) else none) else none))))) else none)))) else none) else none))))) else none))) else none))) else none) else none))))))))))) = some r := h
  clear h
  by_cases q0 : (l1.length : Int) > 1048576
  · rw [if_pos q0] at H
    obtain rfl := Option.some.inj H
    have d0_0 : decide (1048576 < (l1.length : Int)) = true := decide_eq_true (by omega)
    have d0_1 : decide (1048576 < l1.length) = true := decide_eq_true (by omega)
    clear q0
    go_enter Try.func6, Try.ntmps6
    try go_wp2_with fail
    go_ret
    exact ⟨by first | rfl | (simp [errW_none, errW_some] <;> rfl) | (simp [*, errW_none, errW_some] <;> rfl), (by repeat (first | (with_reducible first | exact HB.out | apply below_alloc | apply pw_below_drewN | apply below_drew1) | exact HB.out))⟩
  rw [if_neg q0] at H
  have d0_0 : decide (1048576 < (l1.length : Int)) = false := decide_eq_false (by omega)
  have d0_1 : decide (1048576 < l1.length) = false := decide_eq_false (by omega)
  clear q0
  replace H := Option.bind_eq_some_iff.mp H
  obtain ⟨t1, A0_1, H⟩ := H
  try dsimp only at H
  have A1 := Aside0.mk A0_1
  clear A0_1
  by_cases q2 : t1 < 0
  · rw [if_pos q2] at H
    obtain rfl := Option.some.inj H
    have d2_0 : decide (t1 < 0) = true := decide_eq_true (by omega)
    clear q2
    go_enter Try.func6, Try.ntmps6
    try go_wp2_with fail
    first | ((with_reducible refine gate_callee (f := 15) rfl ?_); refine goesL_ _ rfl rfl Try.func15 (by kernel_rfl) rfl #[.slice A0 l0.length c0, .int .i64 1048576] rfl (by (try simp only [List.map_toArray, List.map_cons, List.map_nil]); first | done | rfl | (simp only [List.length_drop, List.length_take]; rfl)) ?_; (with_reducible refine (laws_szQuestionS.calls k _ _ l0 (1048576) t1 _ ?s0 ?s1 A1.out).mono ?_); (case s0 => exact (by repeat (first | exact (Kd.C_below HR0.out HB.out) | (with_reducible refine Kd.C_alloc ?_ _) | (with_reducible refine Kd.C_drewN ?_ _) | (with_reducible refine Kd.C_drew ?_)))); (case s1 => exact HC0.out); rintro e w101 ⟨rfl, hb1⟩; refine ⟨_, rfl, ?_⟩) | (go_at_call 15; (with_reducible refine (laws_szQuestionS.calls k _ _ l0 (1048576) t1 _ ?s0 ?s1 A1.out).mono ?_); (case s0 => exact (by repeat (first | exact (Kd.C_below HR0.out HB.out) | (with_reducible refine Kd.C_alloc ?_ _) | (with_reducible refine Kd.C_drewN ?_ _) | (with_reducible refine Kd.C_drew ?_)))); (case s1 => exact HC0.out); rintro e w101 ⟨rfl, hb1⟩)
    have Z_ := Aside0.mk (Nat.le_trans (show w.heap.size ≤ _ from Z0.out) hb1.size)
    clear Z0
    have Z0 := Z_
    clear Z_
    have B_ := Aside0.mk (below_step (by repeat (first | (with_reducible first | exact HB.out | apply below_alloc | apply pw_below_drewN | apply below_drew1) | exact HB.out)) hb1)
    clear HB
    have HB := B_
    clear B_ hb1
    try go_wp2_with fail
    go_ret
    exact ⟨by first | rfl | (simp [errW_none, errW_some] <;> rfl) | (simp [*, errW_none, errW_some] <;> rfl), (by repeat (first | (with_reducible first | exact HB.out | apply below_alloc | apply pw_below_drewN | apply below_drew1) | exact HB.out))⟩
  rw [if_neg q2] at H
  have d2_0 : decide (t1 < 0) = false := decide_eq_false (by omega)
  clear q2
  replace H := Option.bind_eq_some_iff.mp H
  obtain ⟨t2, A0_3, H⟩ := H
  try dsimp only at H
  have A3 := Aside0.mk A0_3
  clear A0_3
  replace H := Option.bind_eq_some_iff.mp H
  obtain ⟨t3, A0_4, H⟩ := H
  try dsimp only at H
  have A4 := Aside0.mk A0_4
  clear A0_4
  replace H := Option.bind_eq_some_iff.mp H
  obtain ⟨⟨t4, t5⟩, A0_5, H⟩ := H
  try dsimp only at H
  have A5 := Aside0.mk A0_5
  clear A0_5
  replace H := Option.bind_eq_some_iff.mp H
  obtain ⟨t6, A0_6, H⟩ := H
  try dsimp only at H
  have A6 := Aside0.mk A0_6
  clear A0_6
  replace H := Option.bind_eq_some_iff.mp H
  obtain ⟨t7, A0_7, H⟩ := H
  try dsimp only at H
  have A7 := Aside0.mk A0_7
  clear A0_7
  replace H := Option.bind_eq_some_iff.mp H
  obtain ⟨⟨t8, t9⟩, A0_8, H⟩ := H
  try dsimp only at H
  have A8 := Aside0.mk A0_8
  clear A0_8
  replace H := Option.bind_eq_some_iff.mp H
  obtain ⟨t10, A0_9, H⟩ := H
  try dsimp only at H
  have A9 := Aside0.mk A0_9
  clear A0_9
  obtain ⟨q10, H1⟩ := Go.Proofs.YtnafjfdalapegaaW.GLaw.ite_some H
  clear H
  have H := H1
  clear H1
  subst q10
  obtain ⟨q11, H1⟩ := Go.Proofs.YtnafjfdalapegaaW.GLaw.ite_some H
  clear H
  have H := H1
  clear H1
  have d11_0 : (t9 == t5) = true := beq_iff_eq.mpr q11
  have d11_1 : (t9 != t5) = false := bne_eq_false_iff_eq.mpr q11
  clear q11
  replace H := Option.bind_eq_some_iff.mp H
  obtain ⟨t11, A0_12, H⟩ := H
  try dsimp only at H
  have A12 := Aside0.mk A0_12
  clear A0_12
  replace H := Option.bind_eq_some_iff.mp H
  obtain ⟨t12, A0_13, H⟩ := H
  try dsimp only at H
  have A13 := Aside0.mk A0_13
  clear A0_13
  obtain ⟨q14, H1⟩ := Go.Proofs.YtnafjfdalapegaaW.GLaw.ite_some H
  clear H
  have H := H1
  clear H1
  subst q14
  replace H := Option.bind_eq_some_iff.mp H
  obtain ⟨t13, A0_15, H⟩ := H
  try dsimp only at H
  have A15 := Aside0.mk A0_15
  clear A0_15
  replace H := Option.bind_eq_some_iff.mp H
  obtain ⟨t14, A0_16, H⟩ := H
  try dsimp only at H
  have A16 := Aside0.mk A0_16
  clear A0_16
  obtain ⟨q17, H1⟩ := Go.Proofs.YtnafjfdalapegaaW.GLaw.ite_some H
  clear H
  have H := H1
  clear H1
  subst q17
  replace H := Option.bind_eq_some_iff.mp H
  obtain ⟨⟨t15, t16⟩, A0_18, H⟩ := H
  try dsimp only at H
  have A18 := Aside0.mk A0_18
  clear A0_18
  replace H := Option.bind_eq_some_iff.mp H
  obtain ⟨⟨t17, t18⟩, A0_19, H⟩ := H
  try dsimp only at H
  have A19 := Aside0.mk A0_19
  clear A0_19
  obtain ⟨q20, H1⟩ := Go.Proofs.YtnafjfdalapegaaW.GLaw.itn_some H
  clear H
  have H := H1
  clear H1
  have d20_0 : decide (t17 < 0) = false := decide_eq_false q20
  clear q20
  replace H := Option.bind_eq_some_iff.mp H
  obtain ⟨t19, A0_21, H⟩ := H
  try dsimp only at H
  have A21 := Aside0.mk A0_21
  clear A0_21
  obtain ⟨q22, H1⟩ := Go.Proofs.YtnafjfdalapegaaW.GLaw.ite_some H
  clear H
  have H := H1
  clear H1
  subst q22
  obtain ⟨q23, H1⟩ := Go.Proofs.YtnafjfdalapegaaW.GLaw.ite_some H
  clear H
  have H := H1
  clear H1
  have d23_0 : (t9 == t5) = true := beq_iff_eq.mpr q23
  have d23_1 : (t9 != t5) = false := bne_eq_false_iff_eq.mpr q23
  clear q23
  replace H := Option.bind_eq_some_iff.mp H
  obtain ⟨⟨t20, t21⟩, A0_24, H⟩ := H
  try dsimp only at H
  have A24 := Aside0.mk A0_24
  clear A0_24
  replace H := Option.bind_eq_some_iff.mp H
  obtain ⟨t22, A0_25, H⟩ := H
  try dsimp only at H
  have A25 := Aside0.mk A0_25
  clear A0_25
  obtain ⟨q26, H1⟩ := Go.Proofs.YtnafjfdalapegaaW.GLaw.itn_some H
  clear H
  have H := H1
  clear H1
  have d26_0 : decide (t22 < 0) = false := decide_eq_false q26
  clear q26
  obtain ⟨q27, H1⟩ := Go.Proofs.YtnafjfdalapegaaW.GLaw.ite_some H
  clear H
  have H := H1
  clear H1
  have d27_0 : (t22 == t20) = true := beq_iff_eq.mpr q27
  have d27_1 : (t22 != t20) = false := bne_eq_false_iff_eq.mpr q27
  clear q27
  replace H := Option.bind_eq_some_iff.mp H
  obtain ⟨t23, A0_28, H⟩ := H
  try dsimp only at H
  have A28 := Aside0.mk A0_28
  clear A0_28
  replace H := Option.bind_eq_some_iff.mp H
  obtain ⟨t24, A0_29, H⟩ := H
  try dsimp only at H
  have A29 := Aside0.mk A0_29
  clear A0_29
  replace H := Option.bind_eq_some_iff.mp H
  obtain ⟨⟨t25, t26⟩, A0_30, H⟩ := H
  try dsimp only at H
  have A30 := Aside0.mk A0_30
  clear A0_30
  replace H := Option.bind_eq_some_iff.mp H
  obtain ⟨t27, A0_31, H⟩ := H
  try dsimp only at H
  have A31 := Aside0.mk A0_31
  clear A0_31
  obtain ⟨q32, H1⟩ := Go.Proofs.YtnafjfdalapegaaW.GLaw.ite_some H
  clear H
  have H := H1
  clear H1
  subst q32
  obtain ⟨q33, H1⟩ := Go.Proofs.YtnafjfdalapegaaW.GLaw.ite_some H
  clear H
  have H := H1
  clear H1
  have d33_0 : (t26 == t5) = true := beq_iff_eq.mpr q33
  have d33_1 : (t26 != t5) = false := bne_eq_false_iff_eq.mpr q33
  clear q33
  replace H := Option.bind_eq_some_iff.mp H
  obtain ⟨t28, A0_34, H⟩ := H
  try dsimp only at H
  have A34 := Aside0.mk A0_34
  clear A0_34
  obtain ⟨q35, H1⟩ := Go.Proofs.YtnafjfdalapegaaW.GLaw.itn_some H
  clear H
  have H := H1
  clear H1
  have d35_0 : decide (t28 < 0) = false := decide_eq_false q35
  clear q35
  obtain ⟨q36, H1⟩ := Go.Proofs.YtnafjfdalapegaaW.GLaw.ite_some H
  clear H
  have H := H1
  clear H1
  have d36_0 : (t28 == t20) = true := beq_iff_eq.mpr q36
  have d36_1 : (t28 != t20) = false := bne_eq_false_iff_eq.mpr q36
  clear q36
  obtain rfl := Option.some.inj H
  go_enter Try.func6, Try.ntmps6
  try go_wp2_with fail
  first | ((with_reducible refine gate_callee (f := 15) rfl ?_); refine goesL_ _ rfl rfl Try.func15 (by kernel_rfl) rfl #[.slice A0 l0.length c0, .int .i64 1048576] rfl (by (try simp only [List.map_toArray, List.map_cons, List.map_nil]); first | done | rfl | (simp only [List.length_drop, List.length_take]; rfl)) ?_; (with_reducible refine (laws_szQuestionS.calls k _ _ l0 (1048576) t1 _ ?s0 ?s1 A1.out).mono ?_); (case s0 => exact (by repeat (first | exact (Kd.C_below HR0.out HB.out) | (with_reducible refine Kd.C_alloc ?_ _) | (with_reducible refine Kd.C_drewN ?_ _) | (with_reducible refine Kd.C_drew ?_)))); (case s1 => exact HC0.out); rintro e w101 ⟨rfl, hb1⟩; refine ⟨_, rfl, ?_⟩) | (go_at_call 15; (with_reducible refine (laws_szQuestionS.calls k _ _ l0 (1048576) t1 _ ?s0 ?s1 A1.out).mono ?_); (case s0 => exact (by repeat (first | exact (Kd.C_below HR0.out HB.out) | (with_reducible refine Kd.C_alloc ?_ _) | (with_reducible refine Kd.C_drewN ?_ _) | (with_reducible refine Kd.C_drew ?_)))); (case s1 => exact HC0.out); rintro e w101 ⟨rfl, hb1⟩)
  have Z_ := Aside0.mk (Nat.le_trans (show w.heap.size ≤ _ from Z0.out) hb1.size)
  clear Z0
  have Z0 := Z_
  clear Z_
  have B_ := Aside0.mk (below_step (by repeat (first | (with_reducible first | exact HB.out | apply below_alloc | apply pw_below_drewN | apply below_drew1) | exact HB.out)) hb1)
  clear HB
  have HB := B_
  clear B_ hb1
  try go_wp2_with fail
  first | ((with_reducible refine gate_callee (f := 17) rfl ?_); refine goesL_ _ rfl rfl Try.func17 (by kernel_rfl) rfl #[.slice A0 l0.length c0] rfl (by (try simp only [List.map_toArray, List.map_cons, List.map_nil]); first | done | rfl | (simp only [List.length_drop, List.length_take]; rfl)) ?_; (with_reducible refine (laws_toQuestionS.calls k _ _ l0 t2 _ ?s0 ?s1 A3.out).mono ?_); (case s0 => exact (by repeat (first | exact (Kd.C_below HR0.out HB.out) | (with_reducible refine Kd.C_alloc ?_ _) | (with_reducible refine Kd.C_drewN ?_ _) | (with_reducible refine Kd.C_drew ?_)))); (case s1 => exact HC0.out); rintro e w103 ⟨v3_0, rfl, ho3_0, hb3⟩; refine ⟨_, rfl, ?_⟩) | (go_at_call 17; (with_reducible refine (laws_toQuestionS.calls k _ _ l0 t2 _ ?s0 ?s1 A3.out).mono ?_); (case s0 => exact (by repeat (first | exact (Kd.C_below HR0.out HB.out) | (with_reducible refine Kd.C_alloc ?_ _) | (with_reducible refine Kd.C_drewN ?_ _) | (with_reducible refine Kd.C_drew ?_)))); (case s1 => exact HC0.out); rintro e w103 ⟨v3_0, rfl, ho3_0, hb3⟩)
  obtain ⟨lo3, hi3, z3, e3, f3, g3⟩ := Go.Proofs.YtnafjfdalapegaaW.GLaw.madeS (w := w) (show w.heap.size ≤ _ from Z0.out) (by repeat (first | (with_reducible first | exact HB.out | apply below_alloc | apply pw_below_drewN | apply below_drew1) | exact HB.out)) ho3_0
  have Y3 := Aside0.mk z3
  have X3 := Aside0.mk (show lo3 ≤ hi3 from by rw [e3, f3]; exact hb3.size)
  clear Z0
  have Z0 := Aside0.mk (show hi3 ≤ w103.heap.size from by rw [f3]; exact Nat.le_refl _)
  obtain ⟨Ao3, co3, eo3⟩ := Kd.S_slice g3
  subst eo3
  have HO3_t2 := Aside0.mk g3
  clear z3 e3 f3 g3 ho3_0
  have B_ := Aside0.mk (below_step (by repeat (first | (with_reducible first | exact HB.out | apply below_alloc | apply pw_below_drewN | apply below_drew1) | exact HB.out)) hb3)
  clear HB
  have HB := B_
  clear B_ hb3
  try go_wp2_with fail
  first | ((with_reducible refine gate_callee (f := 18) rfl ?_); refine goesL_ _ rfl rfl Try.func18 (by kernel_rfl) rfl #[.slice A1 l1.length c1] rfl (by (try simp only [List.map_toArray, List.map_cons, List.map_nil]); first | done | rfl | (simp only [List.length_drop, List.length_take]; rfl)) ?_; (with_reducible refine (laws_toIntS.calls k _ _ l1 t3 _ ?s0 ?s1 A4.out).mono ?_); (case s0 => exact (by repeat (first | exact (Kd.C_below HR1.out HB.out) | (with_reducible refine Kd.C_alloc ?_ _) | (with_reducible refine Kd.C_drewN ?_ _) | (with_reducible refine Kd.C_drew ?_)))); (case s1 => exact HC1.out); rintro e w104 ⟨v4_0, rfl, ho4_0, hb4⟩; refine ⟨_, rfl, ?_⟩) | (go_at_call 18; (with_reducible refine (laws_toIntS.calls k _ _ l1 t3 _ ?s0 ?s1 A4.out).mono ?_); (case s0 => exact (by repeat (first | exact (Kd.C_below HR1.out HB.out) | (with_reducible refine Kd.C_alloc ?_ _) | (with_reducible refine Kd.C_drewN ?_ _) | (with_reducible refine Kd.C_drew ?_)))); (case s1 => exact HC1.out); rintro e w104 ⟨v4_0, rfl, ho4_0, hb4⟩)
  have HO4_t2 := Aside0.mk (Kd.S_below (by (with_reducible repeat (first | apply Kd.S_alloc | apply Kd.S_drewN | apply Kd.S_drew)); exact HO3_t2.out) hb4)
  clear HO3_t2
  obtain ⟨lo4, hi4, z4, e4, f4, g4⟩ := Go.Proofs.YtnafjfdalapegaaW.GLaw.madeR (w := w) (show hi3 ≤ _ from Z0.out) (by repeat (first | (with_reducible first | exact HB.out | apply below_alloc | apply pw_below_drewN | apply below_drew1) | exact HB.out)) ho4_0
  have Y4 := Aside0.mk z4
  have X4 := Aside0.mk (show lo4 ≤ hi4 from by rw [e4, f4]; exact hb4.size)
  clear Z0
  have Z0 := Aside0.mk (show hi4 ≤ w104.heap.size from by rw [f4]; exact Nat.le_refl _)
  obtain ⟨Ao4, co4, eo4⟩ := Kd.R_slice g4
  subst eo4
  have HO4_t3 := Aside0.mk g4
  clear z4 e4 f4 g4 ho4_0
  have B_ := Aside0.mk (below_step (by repeat (first | (with_reducible first | exact HB.out | apply below_alloc | apply pw_below_drewN | apply below_drew1) | exact HB.out)) hb4)
  clear HB
  have HB := B_
  clear B_ hb4
  try go_wp2_with fail
  first | ((with_reducible refine gate_callee (f := 27) rfl ?_); refine goesL_ _ rfl rfl Try.func27 (by kernel_rfl) rfl #[.slice Ao3 t2.length co3, .slice Ao4 t3.length co4] rfl (by (try simp only [List.map_toArray, List.map_cons, List.map_nil]); first | done | rfl | (simp only [List.length_drop, List.length_take]; rfl)) ?_; (with_reducible refine (spec_RepeatQuestions.calls k _ _ t2 _ _ t3 t4 t5 _ ?s0 ?s1 ?s2 ?s3 A5.out).mono ?_); (case s0 => exact (by repeat (first | exact (Kd.S_reads' HO4_t2.out).2.2 | (with_reducible refine Kd.C_alloc ?_ _) | (with_reducible refine Kd.C_drewN ?_ _) | (with_reducible refine Kd.C_drew ?_)))); (case s1 => exact (by exact (Kd.S_reads' HO4_t2.out).2.1)); (case s2 => exact (by repeat (first | exact (Kd.R_reads' HO4_t3.out).2.2 | (with_reducible refine Kd.C_alloc ?_ _) | (with_reducible refine Kd.C_drewN ?_ _) | (with_reducible refine Kd.C_drew ?_)))); (case s3 => exact (by exact (Kd.R_reads' HO4_t3.out).2.1)); rintro e w105 ⟨v5_0, rfl, ho5_0, hb5⟩; refine ⟨_, rfl, ?_⟩) | (go_at_call 27; (with_reducible refine (spec_RepeatQuestions.calls k _ _ t2 _ _ t3 t4 t5 _ ?s0 ?s1 ?s2 ?s3 A5.out).mono ?_); (case s0 => exact (by repeat (first | exact (Kd.S_reads' HO4_t2.out).2.2 | (with_reducible refine Kd.C_alloc ?_ _) | (with_reducible refine Kd.C_drewN ?_ _) | (with_reducible refine Kd.C_drew ?_)))); (case s1 => exact (by exact (Kd.S_reads' HO4_t2.out).2.1)); (case s2 => exact (by repeat (first | exact (Kd.R_reads' HO4_t3.out).2.2 | (with_reducible refine Kd.C_alloc ?_ _) | (with_reducible refine Kd.C_drewN ?_ _) | (with_reducible refine Kd.C_drew ?_)))); (case s3 => exact (by exact (Kd.R_reads' HO4_t3.out).2.1)); rintro e w105 ⟨v5_0, rfl, ho5_0, hb5⟩)
  clear HO4_t2
  clear HO4_t3
  obtain ⟨lo5, hi5, z5, e5, f5, g5⟩ := Go.Proofs.YtnafjfdalapegaaW.GLaw.madeS (w := w) (show hi4 ≤ _ from Z0.out) (by repeat (first | (with_reducible first | exact HB.out | apply below_alloc | apply pw_below_drewN | apply below_drew1) | exact HB.out)) ho5_0
  have Y5 := Aside0.mk z5
  have X5 := Aside0.mk (show lo5 ≤ hi5 from by rw [e5, f5]; exact hb5.size)
  clear Z0
  have Z0 := Aside0.mk (show hi5 ≤ w105.heap.size from by rw [f5]; exact Nat.le_refl _)
  obtain ⟨Ao5, co5, eo5⟩ := Kd.S_slice g5
  subst eo5
  have HO5_t4 := Aside0.mk g5
  clear z5 e5 f5 g5 ho5_0
  have B_ := Aside0.mk (below_step (by repeat (first | (with_reducible first | exact HB.out | apply below_alloc | apply pw_below_drewN | apply below_drew1) | exact HB.out)) hb5)
  clear HB
  have HB := B_
  clear B_ hb5
  try go_wp2_with fail
  first | ((with_reducible refine gate_callee (f := 17) rfl ?_); refine goesL_ _ rfl rfl Try.func17 (by kernel_rfl) rfl #[.slice A0 l0.length c0] rfl (by (try simp only [List.map_toArray, List.map_cons, List.map_nil]); first | done | rfl | (simp only [List.length_drop, List.length_take]; rfl)) ?_; (with_reducible refine (laws_toQuestionS.calls k _ _ l0 t6 _ ?s0 ?s1 A6.out).mono ?_); (case s0 => exact (by repeat (first | exact (Kd.C_below HR0.out HB.out) | (with_reducible refine Kd.C_alloc ?_ _) | (with_reducible refine Kd.C_drewN ?_ _) | (with_reducible refine Kd.C_drew ?_)))); (case s1 => exact HC0.out); rintro e w106 ⟨v6_0, rfl, ho6_0, hb6⟩; refine ⟨_, rfl, ?_⟩) | (go_at_call 17; (with_reducible refine (laws_toQuestionS.calls k _ _ l0 t6 _ ?s0 ?s1 A6.out).mono ?_); (case s0 => exact (by repeat (first | exact (Kd.C_below HR0.out HB.out) | (with_reducible refine Kd.C_alloc ?_ _) | (with_reducible refine Kd.C_drewN ?_ _) | (with_reducible refine Kd.C_drew ?_)))); (case s1 => exact HC0.out); rintro e w106 ⟨v6_0, rfl, ho6_0, hb6⟩)
  have HO6_t4 := Aside0.mk (Kd.S_below (by (with_reducible repeat (first | apply Kd.S_alloc | apply Kd.S_drewN | apply Kd.S_drew)); exact HO5_t4.out) hb6)
  clear HO5_t4
  obtain ⟨lo6, hi6, z6, e6, f6, g6⟩ := Go.Proofs.YtnafjfdalapegaaW.GLaw.madeS (w := w) (show hi5 ≤ _ from Z0.out) (by repeat (first | (with_reducible first | exact HB.out | apply below_alloc | apply pw_below_drewN | apply below_drew1) | exact HB.out)) ho6_0
  have Y6 := Aside0.mk z6
  have X6 := Aside0.mk (show lo6 ≤ hi6 from by rw [e6, f6]; exact hb6.size)
  clear Z0
  have Z0 := Aside0.mk (show hi6 ≤ w106.heap.size from by rw [f6]; exact Nat.le_refl _)
  obtain ⟨Ao6, co6, eo6⟩ := Kd.S_slice g6
  subst eo6
  have HO6_t6 := Aside0.mk g6
  clear z6 e6 f6 g6 ho6_0
  have B_ := Aside0.mk (below_step (by repeat (first | (with_reducible first | exact HB.out | apply below_alloc | apply pw_below_drewN | apply below_drew1) | exact HB.out)) hb6)
  clear HB
  have HB := B_
  clear B_ hb6
  try go_wp2_with fail
  first | ((with_reducible refine gate_callee (f := 18) rfl ?_); refine goesL_ _ rfl rfl Try.func18 (by kernel_rfl) rfl #[.slice A1 l1.length c1] rfl (by (try simp only [List.map_toArray, List.map_cons, List.map_nil]); first | done | rfl | (simp only [List.length_drop, List.length_take]; rfl)) ?_; (with_reducible refine (laws_toIntS.calls k _ _ l1 t7 _ ?s0 ?s1 A7.out).mono ?_); (case s0 => exact (by repeat (first | exact (Kd.C_below HR1.out HB.out) | (with_reducible refine Kd.C_alloc ?_ _) | (with_reducible refine Kd.C_drewN ?_ _) | (with_reducible refine Kd.C_drew ?_)))); (case s1 => exact HC1.out); rintro e w107 ⟨v7_0, rfl, ho7_0, hb7⟩; refine ⟨_, rfl, ?_⟩) | (go_at_call 18; (with_reducible refine (laws_toIntS.calls k _ _ l1 t7 _ ?s0 ?s1 A7.out).mono ?_); (case s0 => exact (by repeat (first | exact (Kd.C_below HR1.out HB.out) | (with_reducible refine Kd.C_alloc ?_ _) | (with_reducible refine Kd.C_drewN ?_ _) | (with_reducible refine Kd.C_drew ?_)))); (case s1 => exact HC1.out); rintro e w107 ⟨v7_0, rfl, ho7_0, hb7⟩)
  have HO7_t4 := Aside0.mk (Kd.S_below (by (with_reducible repeat (first | apply Kd.S_alloc | apply Kd.S_drewN | apply Kd.S_drew)); exact HO6_t4.out) hb7)
  clear HO6_t4
  have HO7_t6 := Aside0.mk (Kd.S_below (by (with_reducible repeat (first | apply Kd.S_alloc | apply Kd.S_drewN | apply Kd.S_drew)); exact HO6_t6.out) hb7)
  clear HO6_t6
  obtain ⟨lo7, hi7, z7, e7, f7, g7⟩ := Go.Proofs.YtnafjfdalapegaaW.GLaw.madeR (w := w) (show hi6 ≤ _ from Z0.out) (by repeat (first | (with_reducible first | exact HB.out | apply below_alloc | apply pw_below_drewN | apply below_drew1) | exact HB.out)) ho7_0
  have Y7 := Aside0.mk z7
  have X7 := Aside0.mk (show lo7 ≤ hi7 from by rw [e7, f7]; exact hb7.size)
  clear Z0
  have Z0 := Aside0.mk (show hi7 ≤ w107.heap.size from by rw [f7]; exact Nat.le_refl _)
  obtain ⟨Ao7, co7, eo7⟩ := Kd.R_slice g7
  subst eo7
  have HO7_t7 := Aside0.mk g7
  clear z7 e7 f7 g7 ho7_0
  have B_ := Aside0.mk (below_step (by repeat (first | (with_reducible first | exact HB.out | apply below_alloc | apply pw_below_drewN | apply below_drew1) | exact HB.out)) hb7)
  clear HB
  have HB := B_
  clear B_ hb7
  try go_wp2_with fail
  first | ((with_reducible refine gate_callee (f := 28) rfl ?_); refine goesL_ _ rfl rfl Try.func28 (by kernel_rfl) rfl #[.slice Ao6 t6.length co6, .slice Ao7 t7.length co7] rfl (by (try simp only [List.map_toArray, List.map_cons, List.map_nil]); first | done | rfl | (simp only [List.length_drop, List.length_take]; rfl)) ?_; (with_reducible refine (impl_RepeatQuestions.calls k _ _ t6 _ _ t7 t8 t9 _ ?s0 ?s1 ?s2 ?s3 A8.out).mono ?_); (case s0 => exact (by repeat (first | exact (Kd.S_reads' HO7_t6.out).2.2 | (with_reducible refine Kd.C_alloc ?_ _) | (with_reducible refine Kd.C_drewN ?_ _) | (with_reducible refine Kd.C_drew ?_)))); (case s1 => exact (by exact (Kd.S_reads' HO7_t6.out).2.1)); (case s2 => exact (by repeat (first | exact (Kd.R_reads' HO7_t7.out).2.2 | (with_reducible refine Kd.C_alloc ?_ _) | (with_reducible refine Kd.C_drewN ?_ _) | (with_reducible refine Kd.C_drew ?_)))); (case s3 => exact (by exact (Kd.R_reads' HO7_t7.out).2.1)); rintro e w108 ⟨v8_0, rfl, ho8_0, hb8⟩; refine ⟨_, rfl, ?_⟩) | (go_at_call 28; (with_reducible refine (impl_RepeatQuestions.calls k _ _ t6 _ _ t7 t8 t9 _ ?s0 ?s1 ?s2 ?s3 A8.out).mono ?_); (case s0 => exact (by repeat (first | exact (Kd.S_reads' HO7_t6.out).2.2 | (with_reducible refine Kd.C_alloc ?_ _) | (with_reducible refine Kd.C_drewN ?_ _) | (with_reducible refine Kd.C_drew ?_)))); (case s1 => exact (by exact (Kd.S_reads' HO7_t6.out).2.1)); (case s2 => exact (by repeat (first | exact (Kd.R_reads' HO7_t7.out).2.2 | (with_reducible refine Kd.C_alloc ?_ _) | (with_reducible refine Kd.C_drewN ?_ _) | (with_reducible refine Kd.C_drew ?_)))); (case s3 => exact (by exact (Kd.R_reads' HO7_t7.out).2.1)); rintro e w108 ⟨v8_0, rfl, ho8_0, hb8⟩)
  have HO8_t4 := Aside0.mk (Kd.S_below (by (with_reducible repeat (first | apply Kd.S_alloc | apply Kd.S_drewN | apply Kd.S_drew)); exact HO7_t4.out) hb8)
  clear HO7_t4
  have HO8_t6 := Aside0.mk (Kd.S_below (by (with_reducible repeat (first | apply Kd.S_alloc | apply Kd.S_drewN | apply Kd.S_drew)); exact HO7_t6.out) hb8)
  clear HO7_t6
  have HO8_t7 := Aside0.mk (Kd.R_below (by (with_reducible repeat (first | apply Kd.R_alloc | apply Kd.R_drewN | apply Kd.R_drew)); exact HO7_t7.out) hb8)
  clear HO7_t7
  obtain ⟨lo8, hi8, z8, e8, f8, g8⟩ := Go.Proofs.YtnafjfdalapegaaW.GLaw.madeS (w := w) (show hi7 ≤ _ from Z0.out) (by repeat (first | (with_reducible first | exact HB.out | apply below_alloc | apply pw_below_drewN | apply below_drew1) | exact HB.out)) ho8_0
  have Y8 := Aside0.mk z8
  have X8 := Aside0.mk (show lo8 ≤ hi8 from by rw [e8, f8]; exact hb8.size)
  clear Z0
  have Z0 := Aside0.mk (show hi8 ≤ w108.heap.size from by rw [f8]; exact Nat.le_refl _)
  obtain ⟨Ao8, co8, eo8⟩ := Kd.S_slice g8
  subst eo8
  have HO8_t8 := Aside0.mk g8
  clear z8 e8 f8 g8 ho8_0
  have B_ := Aside0.mk (below_step (by repeat (first | (with_reducible first | exact HB.out | apply below_alloc | apply pw_below_drewN | apply below_drew1) | exact HB.out)) hb8)
  clear HB
  have HB := B_
  clear B_ hb8
  try go_wp2_with fail
  first | ((with_reducible refine gate_callee (f := 20) rfl ?_); refine goesL_ _ rfl rfl Try.func20 (by kernel_rfl) rfl #[.slice Ao8 t8.length co8, .slice Ao5 t4.length co5] rfl (by (try simp only [List.map_toArray, List.map_cons, List.map_nil]); first | done | rfl | (simp only [List.length_drop, List.length_take]; rfl)) ?_; (with_reducible refine (laws_eqQuestionS.calls k _ _ t8 _ _ t4 true _ ?s0 ?s1 ?s2 ?s3 A9.out).mono ?_); (case s0 => exact (by repeat (first | exact (Kd.S_reads' HO8_t8.out).2.2 | (with_reducible refine Kd.C_alloc ?_ _) | (with_reducible refine Kd.C_drewN ?_ _) | (with_reducible refine Kd.C_drew ?_)))); (case s1 => exact (by exact (Kd.S_reads' HO8_t8.out).2.1)); (case s2 => exact (by repeat (first | exact (Kd.S_reads' HO8_t4.out).2.2 | (with_reducible refine Kd.C_alloc ?_ _) | (with_reducible refine Kd.C_drewN ?_ _) | (with_reducible refine Kd.C_drew ?_)))); (case s3 => exact (by exact (Kd.S_reads' HO8_t4.out).2.1)); rintro e w109 ⟨rfl, hb9⟩; refine ⟨_, rfl, ?_⟩) | (go_at_call 20; (with_reducible refine (laws_eqQuestionS.calls k _ _ t8 _ _ t4 true _ ?s0 ?s1 ?s2 ?s3 A9.out).mono ?_); (case s0 => exact (by repeat (first | exact (Kd.S_reads' HO8_t8.out).2.2 | (with_reducible refine Kd.C_alloc ?_ _) | (with_reducible refine Kd.C_drewN ?_ _) | (with_reducible refine Kd.C_drew ?_)))); (case s1 => exact (by exact (Kd.S_reads' HO8_t8.out).2.1)); (case s2 => exact (by repeat (first | exact (Kd.S_reads' HO8_t4.out).2.2 | (with_reducible refine Kd.C_alloc ?_ _) | (with_reducible refine Kd.C_drewN ?_ _) | (with_reducible refine Kd.C_drew ?_)))); (case s3 => exact (by exact (Kd.S_reads' HO8_t4.out).2.1)); rintro e w109 ⟨rfl, hb9⟩)
  have HO9_t4 := Aside0.mk (Kd.S_below (by (with_reducible repeat (first | apply Kd.S_alloc | apply Kd.S_drewN | apply Kd.S_drew)); exact HO8_t4.out) hb9)
  clear HO8_t4
  have HO9_t6 := Aside0.mk (Kd.S_below (by (with_reducible repeat (first | apply Kd.S_alloc | apply Kd.S_drewN | apply Kd.S_drew)); exact HO8_t6.out) hb9)
  clear HO8_t6
  have HO9_t7 := Aside0.mk (Kd.R_below (by (with_reducible repeat (first | apply Kd.R_alloc | apply Kd.R_drewN | apply Kd.R_drew)); exact HO8_t7.out) hb9)
  clear HO8_t7
  have HO9_t8 := Aside0.mk (Kd.S_below (by (with_reducible repeat (first | apply Kd.S_alloc | apply Kd.S_drewN | apply Kd.S_drew)); exact HO8_t8.out) hb9)
  clear HO8_t8
  have Z_ := Aside0.mk (Nat.le_trans (show hi8 ≤ _ from Z0.out) hb9.size)
  clear Z0
  have Z0 := Z_
  clear Z_
  have B_ := Aside0.mk (below_step (by repeat (first | (with_reducible first | exact HB.out | apply below_alloc | apply pw_below_drewN | apply below_drew1) | exact HB.out)) hb9)
  clear HB
  have HB := B_
  clear B_ hb9
  try go_wp2_with fail
  first | ((with_reducible refine gate_callee (f := 17) rfl ?_); refine goesL_ _ rfl rfl Try.func17 (by kernel_rfl) rfl #[.slice A0 l0.length c0] rfl (by (try simp only [List.map_toArray, List.map_cons, List.map_nil]); first | done | rfl | (simp only [List.length_drop, List.length_take]; rfl)) ?_; (with_reducible refine (laws_toQuestionS.calls k _ _ l0 t11 _ ?s0 ?s1 A12.out).mono ?_); (case s0 => exact (by repeat (first | exact (Kd.C_below HR0.out HB.out) | (with_reducible refine Kd.C_alloc ?_ _) | (with_reducible refine Kd.C_drewN ?_ _) | (with_reducible refine Kd.C_drew ?_)))); (case s1 => exact HC0.out); rintro e w112 ⟨v12_0, rfl, ho12_0, hb12⟩; refine ⟨_, rfl, ?_⟩) | (go_at_call 17; (with_reducible refine (laws_toQuestionS.calls k _ _ l0 t11 _ ?s0 ?s1 A12.out).mono ?_); (case s0 => exact (by repeat (first | exact (Kd.C_below HR0.out HB.out) | (with_reducible refine Kd.C_alloc ?_ _) | (with_reducible refine Kd.C_drewN ?_ _) | (with_reducible refine Kd.C_drew ?_)))); (case s1 => exact HC0.out); rintro e w112 ⟨v12_0, rfl, ho12_0, hb12⟩)
  have HO12_t4 := Aside0.mk (Kd.S_below (by (with_reducible repeat (first | apply Kd.S_alloc | apply Kd.S_drewN | apply Kd.S_drew)); exact HO9_t4.out) hb12)
  clear HO9_t4
  have HO12_t6 := Aside0.mk (Kd.S_below (by (with_reducible repeat (first | apply Kd.S_alloc | apply Kd.S_drewN | apply Kd.S_drew)); exact HO9_t6.out) hb12)
  clear HO9_t6
  have HO12_t7 := Aside0.mk (Kd.R_below (by (with_reducible repeat (first | apply Kd.R_alloc | apply Kd.R_drewN | apply Kd.R_drew)); exact HO9_t7.out) hb12)
  clear HO9_t7
  have HO12_t8 := Aside0.mk (Kd.S_below (by (with_reducible repeat (first | apply Kd.S_alloc | apply Kd.S_drewN | apply Kd.S_drew)); exact HO9_t8.out) hb12)
  clear HO9_t8
  obtain ⟨lo12, hi12, z12, e12, f12, g12⟩ := Go.Proofs.YtnafjfdalapegaaW.GLaw.madeS (w := w) (show hi8 ≤ _ from Z0.out) (by repeat (first | (with_reducible first | exact HB.out | apply below_alloc | apply pw_below_drewN | apply below_drew1) | exact HB.out)) ho12_0
  have Y12 := Aside0.mk z12
  have X12 := Aside0.mk (show lo12 ≤ hi12 from by rw [e12, f12]; exact hb12.size)
  clear Z0
  have Z0 := Aside0.mk (show hi12 ≤ w112.heap.size from by rw [f12]; exact Nat.le_refl _)
  obtain ⟨Ao12, co12, eo12⟩ := Kd.S_slice g12
  subst eo12
  have HO12_t11 := Aside0.mk g12
  clear z12 e12 f12 g12 ho12_0
  have B_ := Aside0.mk (below_step (by repeat (first | (with_reducible first | exact HB.out | apply below_alloc | apply pw_below_drewN | apply below_drew1) | exact HB.out)) hb12)
  clear HB
  have HB := B_
  clear B_ hb12
  try go_wp2_with fail
  first | ((with_reducible refine gate_callee (f := 20) rfl ?_); refine goesL_ _ rfl rfl Try.func20 (by kernel_rfl) rfl #[.slice Ao6 t6.length co6, .slice Ao12 t11.length co12] rfl (by (try simp only [List.map_toArray, List.map_cons, List.map_nil]); first | done | rfl | (simp only [List.length_drop, List.length_take]; rfl)) ?_; (with_reducible refine (laws_eqQuestionS.calls k _ _ t6 _ _ t11 true _ ?s0 ?s1 ?s2 ?s3 A13.out).mono ?_); (case s0 => exact (by repeat (first | exact (Kd.S_reads' HO12_t6.out).2.2 | (with_reducible refine Kd.C_alloc ?_ _) | (with_reducible refine Kd.C_drewN ?_ _) | (with_reducible refine Kd.C_drew ?_)))); (case s1 => exact (by exact (Kd.S_reads' HO12_t6.out).2.1)); (case s2 => exact (by repeat (first | exact (Kd.S_reads' HO12_t11.out).2.2 | (with_reducible refine Kd.C_alloc ?_ _) | (with_reducible refine Kd.C_drewN ?_ _) | (with_reducible refine Kd.C_drew ?_)))); (case s3 => exact (by exact (Kd.S_reads' HO12_t11.out).2.1)); rintro e w113 ⟨rfl, hb13⟩; refine ⟨_, rfl, ?_⟩) | (go_at_call 20; (with_reducible refine (laws_eqQuestionS.calls k _ _ t6 _ _ t11 true _ ?s0 ?s1 ?s2 ?s3 A13.out).mono ?_); (case s0 => exact (by repeat (first | exact (Kd.S_reads' HO12_t6.out).2.2 | (with_reducible refine Kd.C_alloc ?_ _) | (with_reducible refine Kd.C_drewN ?_ _) | (with_reducible refine Kd.C_drew ?_)))); (case s1 => exact (by exact (Kd.S_reads' HO12_t6.out).2.1)); (case s2 => exact (by repeat (first | exact (Kd.S_reads' HO12_t11.out).2.2 | (with_reducible refine Kd.C_alloc ?_ _) | (with_reducible refine Kd.C_drewN ?_ _) | (with_reducible refine Kd.C_drew ?_)))); (case s3 => exact (by exact (Kd.S_reads' HO12_t11.out).2.1)); rintro e w113 ⟨rfl, hb13⟩)
  have HO13_t4 := Aside0.mk (Kd.S_below (by (with_reducible repeat (first | apply Kd.S_alloc | apply Kd.S_drewN | apply Kd.S_drew)); exact HO12_t4.out) hb13)
  clear HO12_t4
  have HO13_t6 := Aside0.mk (Kd.S_below (by (with_reducible repeat (first | apply Kd.S_alloc | apply Kd.S_drewN | apply Kd.S_drew)); exact HO12_t6.out) hb13)
  clear HO12_t6
  have HO13_t7 := Aside0.mk (Kd.R_below (by (with_reducible repeat (first | apply Kd.R_alloc | apply Kd.R_drewN | apply Kd.R_drew)); exact HO12_t7.out) hb13)
  clear HO12_t7
  have HO13_t8 := Aside0.mk (Kd.S_below (by (with_reducible repeat (first | apply Kd.S_alloc | apply Kd.S_drewN | apply Kd.S_drew)); exact HO12_t8.out) hb13)
  clear HO12_t8
  clear HO12_t11
  have Z_ := Aside0.mk (Nat.le_trans (show hi12 ≤ _ from Z0.out) hb13.size)
  clear Z0
  have Z0 := Z_
  clear Z_
  have B_ := Aside0.mk (below_step (by repeat (first | (with_reducible first | exact HB.out | apply below_alloc | apply pw_below_drewN | apply below_drew1) | exact HB.out)) hb13)
  clear HB
  have HB := B_
  clear B_ hb13
  try go_wp2_with fail
  first | ((with_reducible refine gate_callee (f := 18) rfl ?_); refine goesL_ _ rfl rfl Try.func18 (by kernel_rfl) rfl #[.slice A1 l1.length c1] rfl (by (try simp only [List.map_toArray, List.map_cons, List.map_nil]); first | done | rfl | (simp only [List.length_drop, List.length_take]; rfl)) ?_; (with_reducible refine (laws_toIntS.calls k _ _ l1 t13 _ ?s0 ?s1 A15.out).mono ?_); (case s0 => exact (by repeat (first | exact (Kd.C_below HR1.out HB.out) | (with_reducible refine Kd.C_alloc ?_ _) | (with_reducible refine Kd.C_drewN ?_ _) | (with_reducible refine Kd.C_drew ?_)))); (case s1 => exact HC1.out); rintro e w115 ⟨v15_0, rfl, ho15_0, hb15⟩; refine ⟨_, rfl, ?_⟩) | (go_at_call 18; (with_reducible refine (laws_toIntS.calls k _ _ l1 t13 _ ?s0 ?s1 A15.out).mono ?_); (case s0 => exact (by repeat (first | exact (Kd.C_below HR1.out HB.out) | (with_reducible refine Kd.C_alloc ?_ _) | (with_reducible refine Kd.C_drewN ?_ _) | (with_reducible refine Kd.C_drew ?_)))); (case s1 => exact HC1.out); rintro e w115 ⟨v15_0, rfl, ho15_0, hb15⟩)
  have HO15_t4 := Aside0.mk (Kd.S_below (by (with_reducible repeat (first | apply Kd.S_alloc | apply Kd.S_drewN | apply Kd.S_drew)); exact HO13_t4.out) hb15)
  clear HO13_t4
  have HO15_t6 := Aside0.mk (Kd.S_below (by (with_reducible repeat (first | apply Kd.S_alloc | apply Kd.S_drewN | apply Kd.S_drew)); exact HO13_t6.out) hb15)
  clear HO13_t6
  have HO15_t7 := Aside0.mk (Kd.R_below (by (with_reducible repeat (first | apply Kd.R_alloc | apply Kd.R_drewN | apply Kd.R_drew)); exact HO13_t7.out) hb15)
  clear HO13_t7
  have HO15_t8 := Aside0.mk (Kd.S_below (by (with_reducible repeat (first | apply Kd.S_alloc | apply Kd.S_drewN | apply Kd.S_drew)); exact HO13_t8.out) hb15)
  clear HO13_t8
  obtain ⟨lo15, hi15, z15, e15, f15, g15⟩ := Go.Proofs.YtnafjfdalapegaaW.GLaw.madeR (w := w) (show hi12 ≤ _ from Z0.out) (by repeat (first | (with_reducible first | exact HB.out | apply below_alloc | apply pw_below_drewN | apply below_drew1) | exact HB.out)) ho15_0
  have Y15 := Aside0.mk z15
  have X15 := Aside0.mk (show lo15 ≤ hi15 from by rw [e15, f15]; exact hb15.size)
  clear Z0
  have Z0 := Aside0.mk (show hi15 ≤ w115.heap.size from by rw [f15]; exact Nat.le_refl _)
  obtain ⟨Ao15, co15, eo15⟩ := Kd.R_slice g15
  subst eo15
  have HO15_t13 := Aside0.mk g15
  clear z15 e15 f15 g15 ho15_0
  have B_ := Aside0.mk (below_step (by repeat (first | (with_reducible first | exact HB.out | apply below_alloc | apply pw_below_drewN | apply below_drew1) | exact HB.out)) hb15)
  clear HB
  have HB := B_
  clear B_ hb15
  try go_wp2_with fail
  first | ((with_reducible refine gate_callee (f := 21) rfl ?_); refine goesL_ _ rfl rfl Try.func21 (by kernel_rfl) rfl #[.slice Ao7 t7.length co7, .slice Ao15 t13.length co15] rfl (by (try simp only [List.map_toArray, List.map_cons, List.map_nil]); first | done | rfl | (simp only [List.length_drop, List.length_take]; rfl)) ?_; (with_reducible refine (laws_eqIntS.calls k _ _ t7 _ _ t13 true _ ?s0 ?s1 ?s2 ?s3 A16.out).mono ?_); (case s0 => exact (by repeat (first | exact (Kd.R_reads' HO15_t7.out).2.2 | (with_reducible refine Kd.C_alloc ?_ _) | (with_reducible refine Kd.C_drewN ?_ _) | (with_reducible refine Kd.C_drew ?_)))); (case s1 => exact (by exact (Kd.R_reads' HO15_t7.out).2.1)); (case s2 => exact (by repeat (first | exact (Kd.R_reads' HO15_t13.out).2.2 | (with_reducible refine Kd.C_alloc ?_ _) | (with_reducible refine Kd.C_drewN ?_ _) | (with_reducible refine Kd.C_drew ?_)))); (case s3 => exact (by exact (Kd.R_reads' HO15_t13.out).2.1)); rintro e w116 ⟨rfl, hb16⟩; refine ⟨_, rfl, ?_⟩) | (go_at_call 21; (with_reducible refine (laws_eqIntS.calls k _ _ t7 _ _ t13 true _ ?s0 ?s1 ?s2 ?s3 A16.out).mono ?_); (case s0 => exact (by repeat (first | exact (Kd.R_reads' HO15_t7.out).2.2 | (with_reducible refine Kd.C_alloc ?_ _) | (with_reducible refine Kd.C_drewN ?_ _) | (with_reducible refine Kd.C_drew ?_)))); (case s1 => exact (by exact (Kd.R_reads' HO15_t7.out).2.1)); (case s2 => exact (by repeat (first | exact (Kd.R_reads' HO15_t13.out).2.2 | (with_reducible refine Kd.C_alloc ?_ _) | (with_reducible refine Kd.C_drewN ?_ _) | (with_reducible refine Kd.C_drew ?_)))); (case s3 => exact (by exact (Kd.R_reads' HO15_t13.out).2.1)); rintro e w116 ⟨rfl, hb16⟩)
  replace hb16 := hb16.below
  have HO16_t4 := Aside0.mk (Kd.S_below (by (with_reducible repeat (first | apply Kd.S_alloc | apply Kd.S_drewN | apply Kd.S_drew)); exact HO15_t4.out) hb16)
  clear HO15_t4
  have HO16_t6 := Aside0.mk (Kd.S_below (by (with_reducible repeat (first | apply Kd.S_alloc | apply Kd.S_drewN | apply Kd.S_drew)); exact HO15_t6.out) hb16)
  clear HO15_t6
  have HO16_t7 := Aside0.mk (Kd.R_below (by (with_reducible repeat (first | apply Kd.R_alloc | apply Kd.R_drewN | apply Kd.R_drew)); exact HO15_t7.out) hb16)
  clear HO15_t7
  have HO16_t8 := Aside0.mk (Kd.S_below (by (with_reducible repeat (first | apply Kd.S_alloc | apply Kd.S_drewN | apply Kd.S_drew)); exact HO15_t8.out) hb16)
  clear HO15_t8
  clear HO15_t13
  have Z_ := Aside0.mk (Nat.le_trans (show hi15 ≤ _ from Z0.out) hb16.size)
  clear Z0
  have Z0 := Z_
  clear Z_
  have B_ := Aside0.mk (below_step (by repeat (first | (with_reducible first | exact HB.out | apply below_alloc | apply pw_below_drewN | apply below_drew1) | exact HB.out)) hb16)
  clear HB
  have HB := B_
  clear B_ hb16
  try go_wp2_with fail
  first | ((with_reducible refine gate_callee (f := 24) rfl ?_); refine goesL_ _ rfl rfl Try.func24 (by kernel_rfl) rfl #[.slice Ao6 t6.length co6, .int .i64 1] rfl (by (try simp only [List.map_toArray, List.map_cons, List.map_nil]); first | done | rfl | (simp only [List.length_drop, List.length_take]; rfl)) ?_; (with_reducible refine (laws_markQuestionS.calls k (Go.Proofs.YtnafjfdalapegaaW.GLaw.In lo6 hi6) _ t6 (1) t15 t16 w _ ?sb ?so A18.out).mono ?_); (case sb => exact (by repeat (first | (with_reducible first | exact HB.out | apply below_alloc | apply pw_below_drewN | apply below_drew1) | exact HB.out))); (case so => exact (by (with_reducible repeat (first | apply Kd.S_alloc | apply Kd.S_drewN | apply Kd.S_drew)); exact HO16_t6.out)); rintro e w118 ⟨rfl, ho18_0, hb18, hkp18⟩; refine ⟨_, rfl, ?_⟩) | (go_at_call 24; (with_reducible refine (laws_markQuestionS.calls k (Go.Proofs.YtnafjfdalapegaaW.GLaw.In lo6 hi6) _ t6 (1) t15 t16 w _ ?sb ?so A18.out).mono ?_); (case sb => exact (by repeat (first | (with_reducible first | exact HB.out | apply below_alloc | apply pw_below_drewN | apply below_drew1) | exact HB.out))); (case so => exact (by (with_reducible repeat (first | apply Kd.S_alloc | apply Kd.S_drewN | apply Kd.S_drew)); exact HO16_t6.out)); rintro e w118 ⟨rfl, ho18_0, hb18, hkp18⟩)
  have HO18_t4 := Aside0.mk (Kd.S_kept (by (with_reducible repeat (first | apply Kd.S_alloc | apply Kd.S_drewN | apply Kd.S_drew)); exact HO16_t4.out) hkp18 (Go.Proofs.YtnafjfdalapegaaW.GLaw.apartL (by have := Y3.out; have := X3.out; have := Y4.out; have := X4.out; have := Y5.out; have := X5.out; have := Y6.out; have := X6.out; have := Y7.out; have := X7.out; have := Y8.out; have := X8.out; have := Y12.out; have := X12.out; have := Y15.out; have := X15.out; omega)))
  clear HO16_t4
  have HO18_t7 := Aside0.mk (Kd.R_kept (by (with_reducible repeat (first | apply Kd.R_alloc | apply Kd.R_drewN | apply Kd.R_drew)); exact HO16_t7.out) hkp18 (Go.Proofs.YtnafjfdalapegaaW.GLaw.apartR (by have := Y3.out; have := X3.out; have := Y4.out; have := X4.out; have := Y5.out; have := X5.out; have := Y6.out; have := X6.out; have := Y7.out; have := X7.out; have := Y8.out; have := X8.out; have := Y12.out; have := X12.out; have := Y15.out; have := X15.out; omega)))
  clear HO16_t7
  have HO18_t8 := Aside0.mk (Kd.S_kept (by (with_reducible repeat (first | apply Kd.S_alloc | apply Kd.S_drewN | apply Kd.S_drew)); exact HO16_t8.out) hkp18 (Go.Proofs.YtnafjfdalapegaaW.GLaw.apartR (by have := Y3.out; have := X3.out; have := Y4.out; have := X4.out; have := Y5.out; have := X5.out; have := Y6.out; have := X6.out; have := Y7.out; have := X7.out; have := Y8.out; have := X8.out; have := Y12.out; have := X12.out; have := Y15.out; have := X15.out; omega)))
  clear HO16_t8
  clear HO16_t6
  have Z_ := Aside0.mk (Nat.le_trans (show hi15 ≤ _ from Z0.out) hkp18.1)
  clear Z0 HB
  have Z0 := Z_
  have HB := Aside0.mk hb18
  clear Z_ hb18 hkp18 ho18_0
  try go_wp2_with fail
  first | ((with_reducible refine gate_callee (f := 25) rfl ?_); refine goesL_ _ rfl rfl Try.func25 (by kernel_rfl) rfl #[.slice Ao7 t7.length co7, .int .i64 t15] rfl (by (try simp only [List.map_toArray, List.map_cons, List.map_nil]); first | done | rfl | (simp only [List.length_drop, List.length_take]; rfl)) ?_; (with_reducible refine (laws_markIntS.calls k (Go.Proofs.YtnafjfdalapegaaW.GLaw.In lo7 hi7) _ t7 (t15) t17 t18 w _ ?sb ?so A19.out).mono ?_); (case sb => exact (by repeat (first | (with_reducible first | exact HB.out | apply below_alloc | apply pw_below_drewN | apply below_drew1) | exact HB.out))); (case so => exact (by (with_reducible repeat (first | apply Kd.R_alloc | apply Kd.R_drewN | apply Kd.R_drew)); exact HO18_t7.out)); rintro e w119 ⟨rfl, ho19_0, hb19, hkp19⟩; refine ⟨_, rfl, ?_⟩) | (go_at_call 25; (with_reducible refine (laws_markIntS.calls k (Go.Proofs.YtnafjfdalapegaaW.GLaw.In lo7 hi7) _ t7 (t15) t17 t18 w _ ?sb ?so A19.out).mono ?_); (case sb => exact (by repeat (first | (with_reducible first | exact HB.out | apply below_alloc | apply pw_below_drewN | apply below_drew1) | exact HB.out))); (case so => exact (by (with_reducible repeat (first | apply Kd.R_alloc | apply Kd.R_drewN | apply Kd.R_drew)); exact HO18_t7.out)); rintro e w119 ⟨rfl, ho19_0, hb19, hkp19⟩)
  have HO19_t4 := Aside0.mk (Kd.S_kept (by (with_reducible repeat (first | apply Kd.S_alloc | apply Kd.S_drewN | apply Kd.S_drew)); exact HO18_t4.out) hkp19 (Go.Proofs.YtnafjfdalapegaaW.GLaw.apartL (by have := Y3.out; have := X3.out; have := Y4.out; have := X4.out; have := Y5.out; have := X5.out; have := Y6.out; have := X6.out; have := Y7.out; have := X7.out; have := Y8.out; have := X8.out; have := Y12.out; have := X12.out; have := Y15.out; have := X15.out; omega)))
  clear HO18_t4
  have HO19_t8 := Aside0.mk (Kd.S_kept (by (with_reducible repeat (first | apply Kd.S_alloc | apply Kd.S_drewN | apply Kd.S_drew)); exact HO18_t8.out) hkp19 (Go.Proofs.YtnafjfdalapegaaW.GLaw.apartR (by have := Y3.out; have := X3.out; have := Y4.out; have := X4.out; have := Y5.out; have := X5.out; have := Y6.out; have := X6.out; have := Y7.out; have := X7.out; have := Y8.out; have := X8.out; have := Y12.out; have := X12.out; have := Y15.out; have := X15.out; omega)))
  clear HO18_t8
  clear HO18_t7
  have Z_ := Aside0.mk (Nat.le_trans (show hi15 ≤ _ from Z0.out) hkp19.1)
  clear Z0 HB
  have Z0 := Z_
  have HB := Aside0.mk hb19
  clear Z_ hb19 hkp19 ho19_0
  try go_wp2_with fail
  first | ((with_reducible refine gate_callee (f := 20) rfl ?_); refine goesL_ _ rfl rfl Try.func20 (by kernel_rfl) rfl #[.slice Ao8 t8.length co8, .slice Ao5 t4.length co5] rfl (by (try simp only [List.map_toArray, List.map_cons, List.map_nil]); first | done | rfl | (simp only [List.length_drop, List.length_take]; rfl)) ?_; (with_reducible refine (laws_eqQuestionS.calls k _ _ t8 _ _ t4 true _ ?s0 ?s1 ?s2 ?s3 A21.out).mono ?_); (case s0 => exact (by repeat (first | exact (Kd.S_reads' HO19_t8.out).2.2 | (with_reducible refine Kd.C_alloc ?_ _) | (with_reducible refine Kd.C_drewN ?_ _) | (with_reducible refine Kd.C_drew ?_)))); (case s1 => exact (by exact (Kd.S_reads' HO19_t8.out).2.1)); (case s2 => exact (by repeat (first | exact (Kd.S_reads' HO19_t4.out).2.2 | (with_reducible refine Kd.C_alloc ?_ _) | (with_reducible refine Kd.C_drewN ?_ _) | (with_reducible refine Kd.C_drew ?_)))); (case s3 => exact (by exact (Kd.S_reads' HO19_t4.out).2.1)); rintro e w121 ⟨rfl, hb21⟩; refine ⟨_, rfl, ?_⟩) | (go_at_call 20; (with_reducible refine (laws_eqQuestionS.calls k _ _ t8 _ _ t4 true _ ?s0 ?s1 ?s2 ?s3 A21.out).mono ?_); (case s0 => exact (by repeat (first | exact (Kd.S_reads' HO19_t8.out).2.2 | (with_reducible refine Kd.C_alloc ?_ _) | (with_reducible refine Kd.C_drewN ?_ _) | (with_reducible refine Kd.C_drew ?_)))); (case s1 => exact (by exact (Kd.S_reads' HO19_t8.out).2.1)); (case s2 => exact (by repeat (first | exact (Kd.S_reads' HO19_t4.out).2.2 | (with_reducible refine Kd.C_alloc ?_ _) | (with_reducible refine Kd.C_drewN ?_ _) | (with_reducible refine Kd.C_drew ?_)))); (case s3 => exact (by exact (Kd.S_reads' HO19_t4.out).2.1)); rintro e w121 ⟨rfl, hb21⟩)
  have HO21_t4 := Aside0.mk (Kd.S_below (by (with_reducible repeat (first | apply Kd.S_alloc | apply Kd.S_drewN | apply Kd.S_drew)); exact HO19_t4.out) hb21)
  clear HO19_t4
  have HO21_t8 := Aside0.mk (Kd.S_below (by (with_reducible repeat (first | apply Kd.S_alloc | apply Kd.S_drewN | apply Kd.S_drew)); exact HO19_t8.out) hb21)
  clear HO19_t8
  have Z_ := Aside0.mk (Nat.le_trans (show hi15 ≤ _ from Z0.out) hb21.size)
  clear Z0
  have Z0 := Z_
  clear Z_
  have B_ := Aside0.mk (below_step (by repeat (first | (with_reducible first | exact HB.out | apply below_alloc | apply pw_below_drewN | apply below_drew1) | exact HB.out)) hb21)
  clear HB
  have HB := B_
  clear B_ hb21
  try go_wp2_with fail
  first | ((with_reducible refine gate_callee (f := 24) rfl ?_); refine goesL_ _ rfl rfl Try.func24 (by kernel_rfl) rfl #[.slice Ao8 t8.length co8, .int .i64 1] rfl (by (try simp only [List.map_toArray, List.map_cons, List.map_nil]); first | done | rfl | (simp only [List.length_drop, List.length_take]; rfl)) ?_; (with_reducible refine (laws_markQuestionS.calls k (Go.Proofs.YtnafjfdalapegaaW.GLaw.In lo8 hi8) _ t8 (1) t20 t21 w _ ?sb ?so A24.out).mono ?_); (case sb => exact (by repeat (first | (with_reducible first | exact HB.out | apply below_alloc | apply pw_below_drewN | apply below_drew1) | exact HB.out))); (case so => exact (by (with_reducible repeat (first | apply Kd.S_alloc | apply Kd.S_drewN | apply Kd.S_drew)); exact HO21_t8.out)); rintro e w124 ⟨rfl, ho24_0, hb24, hkp24⟩; refine ⟨_, rfl, ?_⟩) | (go_at_call 24; (with_reducible refine (laws_markQuestionS.calls k (Go.Proofs.YtnafjfdalapegaaW.GLaw.In lo8 hi8) _ t8 (1) t20 t21 w _ ?sb ?so A24.out).mono ?_); (case sb => exact (by repeat (first | (with_reducible first | exact HB.out | apply below_alloc | apply pw_below_drewN | apply below_drew1) | exact HB.out))); (case so => exact (by (with_reducible repeat (first | apply Kd.S_alloc | apply Kd.S_drewN | apply Kd.S_drew)); exact HO21_t8.out)); rintro e w124 ⟨rfl, ho24_0, hb24, hkp24⟩)
  have HO24_t4 := Aside0.mk (Kd.S_kept (by (with_reducible repeat (first | apply Kd.S_alloc | apply Kd.S_drewN | apply Kd.S_drew)); exact HO21_t4.out) hkp24 (Go.Proofs.YtnafjfdalapegaaW.GLaw.apartL (by have := Y3.out; have := X3.out; have := Y4.out; have := X4.out; have := Y5.out; have := X5.out; have := Y6.out; have := X6.out; have := Y7.out; have := X7.out; have := Y8.out; have := X8.out; have := Y12.out; have := X12.out; have := Y15.out; have := X15.out; omega)))
  clear HO21_t4
  clear HO21_t8
  have HO24_t21 := Aside0.mk (Kd.S_mono ho24_0 (fun _ _ => trivial : ∀ k_, _ → True))
  have Z_ := Aside0.mk (Nat.le_trans (show hi15 ≤ _ from Z0.out) hkp24.1)
  clear Z0 HB
  have Z0 := Z_
  have HB := Aside0.mk hb24
  clear Z_ hb24 hkp24 ho24_0
  try go_wp2_with fail
  first | ((with_reducible refine gate_callee (f := 29) rfl ?_); refine goesL_ _ rfl rfl Try.func29 (by kernel_rfl) rfl #[.slice Ao8 t21.length co8, .int .i64 1] rfl (by (try simp only [List.map_toArray, List.map_cons, List.map_nil]); first | done | (rw [show t21.length = t8.length from (Kd.S_reads' HO24_t21.out).1.symm] <;> rfl) | rfl | (simp only [List.length_drop, List.length_take]; rfl)) ?_; (with_reducible refine (laws_heldQuestionS.calls k _ _ t21 (1) t22 _ ?s0 ?s1 A25.out).mono ?_); (case s0 => exact (by repeat (first | exact (Kd.S_reads' HO24_t21.out).2.2 | (with_reducible refine Kd.C_alloc ?_ _) | (with_reducible refine Kd.C_drewN ?_ _) | (with_reducible refine Kd.C_drew ?_)))); (case s1 => exact (by rw [show t21.length = t8.length from (Kd.S_reads' HO24_t21.out).1.symm]; exact (Kd.S_reads' HO24_t21.out).2.1)); rintro e w125 ⟨rfl, hb25⟩; refine ⟨_, rfl, ?_⟩) | (go_at_call 29; refine calls_of_args (args' := #[.slice Ao8 t21.length co8, .int .i64 1]) (by first | (rw [show t21.length = t8.length from (Kd.S_reads' HO24_t21.out).1.symm] <;> rfl) | rfl) ?_; (with_reducible refine (laws_heldQuestionS.calls k _ _ t21 (1) t22 _ ?s0 ?s1 A25.out).mono ?_); (case s0 => exact (by repeat (first | exact (Kd.S_reads' HO24_t21.out).2.2 | (with_reducible refine Kd.C_alloc ?_ _) | (with_reducible refine Kd.C_drewN ?_ _) | (with_reducible refine Kd.C_drew ?_)))); (case s1 => exact (by rw [show t21.length = t8.length from (Kd.S_reads' HO24_t21.out).1.symm]; exact (Kd.S_reads' HO24_t21.out).2.1)); rintro e w125 ⟨rfl, hb25⟩)
  replace hb25 := hb25.below
  have HO25_t4 := Aside0.mk (Kd.S_below (by (with_reducible repeat (first | apply Kd.S_alloc | apply Kd.S_drewN | apply Kd.S_drew)); exact HO24_t4.out) hb25)
  clear HO24_t4
  have HO25_t21 := Aside0.mk (Kd.S_below (by (with_reducible repeat (first | apply Kd.S_alloc | apply Kd.S_drewN | apply Kd.S_drew)); exact HO24_t21.out) hb25)
  clear HO24_t21
  have Z_ := Aside0.mk (Nat.le_trans (show hi15 ≤ _ from Z0.out) hb25.size)
  clear Z0
  have Z0 := Z_
  clear Z_
  have B_ := Aside0.mk (below_step (by repeat (first | (with_reducible first | exact HB.out | apply below_alloc | apply pw_below_drewN | apply below_drew1) | exact HB.out)) hb25)
  clear HB
  have HB := B_
  clear B_ hb25
  try go_wp2_with fail
  first | ((with_reducible refine gate_callee (f := 17) rfl ?_); refine goesL_ _ rfl rfl Try.func17 (by kernel_rfl) rfl #[.slice A0 l0.length c0] rfl (by (try simp only [List.map_toArray, List.map_cons, List.map_nil]); first | done | rfl | (simp only [List.length_drop, List.length_take]; rfl)) ?_; (with_reducible refine (laws_toQuestionS.calls k _ _ l0 t23 _ ?s0 ?s1 A28.out).mono ?_); (case s0 => exact (by repeat (first | exact (Kd.C_below HR0.out HB.out) | (with_reducible refine Kd.C_alloc ?_ _) | (with_reducible refine Kd.C_drewN ?_ _) | (with_reducible refine Kd.C_drew ?_)))); (case s1 => exact HC0.out); rintro e w128 ⟨v28_0, rfl, ho28_0, hb28⟩; refine ⟨_, rfl, ?_⟩) | (go_at_call 17; (with_reducible refine (laws_toQuestionS.calls k _ _ l0 t23 _ ?s0 ?s1 A28.out).mono ?_); (case s0 => exact (by repeat (first | exact (Kd.C_below HR0.out HB.out) | (with_reducible refine Kd.C_alloc ?_ _) | (with_reducible refine Kd.C_drewN ?_ _) | (with_reducible refine Kd.C_drew ?_)))); (case s1 => exact HC0.out); rintro e w128 ⟨v28_0, rfl, ho28_0, hb28⟩)
  have HO28_t4 := Aside0.mk (Kd.S_below (by (with_reducible repeat (first | apply Kd.S_alloc | apply Kd.S_drewN | apply Kd.S_drew)); exact HO25_t4.out) hb28)
  clear HO25_t4
  have HO28_t21 := Aside0.mk (Kd.S_below (by (with_reducible repeat (first | apply Kd.S_alloc | apply Kd.S_drewN | apply Kd.S_drew)); exact HO25_t21.out) hb28)
  clear HO25_t21
  obtain ⟨lo28, hi28, z28, e28, f28, g28⟩ := Go.Proofs.YtnafjfdalapegaaW.GLaw.madeS (w := w) (show hi15 ≤ _ from Z0.out) (by repeat (first | (with_reducible first | exact HB.out | apply below_alloc | apply pw_below_drewN | apply below_drew1) | exact HB.out)) ho28_0
  have Y28 := Aside0.mk z28
  have X28 := Aside0.mk (show lo28 ≤ hi28 from by rw [e28, f28]; exact hb28.size)
  clear Z0
  have Z0 := Aside0.mk (show hi28 ≤ w128.heap.size from by rw [f28]; exact Nat.le_refl _)
  obtain ⟨Ao28, co28, eo28⟩ := Kd.S_slice g28
  subst eo28
  have HO28_t23 := Aside0.mk g28
  clear z28 e28 f28 g28 ho28_0
  have B_ := Aside0.mk (below_step (by repeat (first | (with_reducible first | exact HB.out | apply below_alloc | apply pw_below_drewN | apply below_drew1) | exact HB.out)) hb28)
  clear HB
  have HB := B_
  clear B_ hb28
  try go_wp2_with fail
  first | ((with_reducible refine gate_callee (f := 18) rfl ?_); refine goesL_ _ rfl rfl Try.func18 (by kernel_rfl) rfl #[.slice A1 l1.length c1] rfl (by (try simp only [List.map_toArray, List.map_cons, List.map_nil]); first | done | rfl | (simp only [List.length_drop, List.length_take]; rfl)) ?_; (with_reducible refine (laws_toIntS.calls k _ _ l1 t24 _ ?s0 ?s1 A29.out).mono ?_); (case s0 => exact (by repeat (first | exact (Kd.C_below HR1.out HB.out) | (with_reducible refine Kd.C_alloc ?_ _) | (with_reducible refine Kd.C_drewN ?_ _) | (with_reducible refine Kd.C_drew ?_)))); (case s1 => exact HC1.out); rintro e w129 ⟨v29_0, rfl, ho29_0, hb29⟩; refine ⟨_, rfl, ?_⟩) | (go_at_call 18; (with_reducible refine (laws_toIntS.calls k _ _ l1 t24 _ ?s0 ?s1 A29.out).mono ?_); (case s0 => exact (by repeat (first | exact (Kd.C_below HR1.out HB.out) | (with_reducible refine Kd.C_alloc ?_ _) | (with_reducible refine Kd.C_drewN ?_ _) | (with_reducible refine Kd.C_drew ?_)))); (case s1 => exact HC1.out); rintro e w129 ⟨v29_0, rfl, ho29_0, hb29⟩)
  have HO29_t4 := Aside0.mk (Kd.S_below (by (with_reducible repeat (first | apply Kd.S_alloc | apply Kd.S_drewN | apply Kd.S_drew)); exact HO28_t4.out) hb29)
  clear HO28_t4
  have HO29_t21 := Aside0.mk (Kd.S_below (by (with_reducible repeat (first | apply Kd.S_alloc | apply Kd.S_drewN | apply Kd.S_drew)); exact HO28_t21.out) hb29)
  clear HO28_t21
  have HO29_t23 := Aside0.mk (Kd.S_below (by (with_reducible repeat (first | apply Kd.S_alloc | apply Kd.S_drewN | apply Kd.S_drew)); exact HO28_t23.out) hb29)
  clear HO28_t23
  obtain ⟨lo29, hi29, z29, e29, f29, g29⟩ := Go.Proofs.YtnafjfdalapegaaW.GLaw.madeR (w := w) (show hi28 ≤ _ from Z0.out) (by repeat (first | (with_reducible first | exact HB.out | apply below_alloc | apply pw_below_drewN | apply below_drew1) | exact HB.out)) ho29_0
  have Y29 := Aside0.mk z29
  have X29 := Aside0.mk (show lo29 ≤ hi29 from by rw [e29, f29]; exact hb29.size)
  clear Z0
  have Z0 := Aside0.mk (show hi29 ≤ w129.heap.size from by rw [f29]; exact Nat.le_refl _)
  obtain ⟨Ao29, co29, eo29⟩ := Kd.R_slice g29
  subst eo29
  have HO29_t24 := Aside0.mk g29
  clear z29 e29 f29 g29 ho29_0
  have B_ := Aside0.mk (below_step (by repeat (first | (with_reducible first | exact HB.out | apply below_alloc | apply pw_below_drewN | apply below_drew1) | exact HB.out)) hb29)
  clear HB
  have HB := B_
  clear B_ hb29
  try go_wp2_with fail
  first | ((with_reducible refine gate_callee (f := 28) rfl ?_); refine goesL_ _ rfl rfl Try.func28 (by kernel_rfl) rfl #[.slice Ao28 t23.length co28, .slice Ao29 t24.length co29] rfl (by (try simp only [List.map_toArray, List.map_cons, List.map_nil]); first | done | rfl | (simp only [List.length_drop, List.length_take]; rfl)) ?_; (with_reducible refine (impl_RepeatQuestions.calls k _ _ t23 _ _ t24 t25 t26 _ ?s0 ?s1 ?s2 ?s3 A30.out).mono ?_); (case s0 => exact (by repeat (first | exact (Kd.S_reads' HO29_t23.out).2.2 | (with_reducible refine Kd.C_alloc ?_ _) | (with_reducible refine Kd.C_drewN ?_ _) | (with_reducible refine Kd.C_drew ?_)))); (case s1 => exact (by exact (Kd.S_reads' HO29_t23.out).2.1)); (case s2 => exact (by repeat (first | exact (Kd.R_reads' HO29_t24.out).2.2 | (with_reducible refine Kd.C_alloc ?_ _) | (with_reducible refine Kd.C_drewN ?_ _) | (with_reducible refine Kd.C_drew ?_)))); (case s3 => exact (by exact (Kd.R_reads' HO29_t24.out).2.1)); rintro e w130 ⟨v30_0, rfl, ho30_0, hb30⟩; refine ⟨_, rfl, ?_⟩) | (go_at_call 28; (with_reducible refine (impl_RepeatQuestions.calls k _ _ t23 _ _ t24 t25 t26 _ ?s0 ?s1 ?s2 ?s3 A30.out).mono ?_); (case s0 => exact (by repeat (first | exact (Kd.S_reads' HO29_t23.out).2.2 | (with_reducible refine Kd.C_alloc ?_ _) | (with_reducible refine Kd.C_drewN ?_ _) | (with_reducible refine Kd.C_drew ?_)))); (case s1 => exact (by exact (Kd.S_reads' HO29_t23.out).2.1)); (case s2 => exact (by repeat (first | exact (Kd.R_reads' HO29_t24.out).2.2 | (with_reducible refine Kd.C_alloc ?_ _) | (with_reducible refine Kd.C_drewN ?_ _) | (with_reducible refine Kd.C_drew ?_)))); (case s3 => exact (by exact (Kd.R_reads' HO29_t24.out).2.1)); rintro e w130 ⟨v30_0, rfl, ho30_0, hb30⟩)
  have HO30_t4 := Aside0.mk (Kd.S_below (by (with_reducible repeat (first | apply Kd.S_alloc | apply Kd.S_drewN | apply Kd.S_drew)); exact HO29_t4.out) hb30)
  clear HO29_t4
  have HO30_t21 := Aside0.mk (Kd.S_below (by (with_reducible repeat (first | apply Kd.S_alloc | apply Kd.S_drewN | apply Kd.S_drew)); exact HO29_t21.out) hb30)
  clear HO29_t21
  clear HO29_t23
  clear HO29_t24
  obtain ⟨lo30, hi30, z30, e30, f30, g30⟩ := Go.Proofs.YtnafjfdalapegaaW.GLaw.madeS (w := w) (show hi29 ≤ _ from Z0.out) (by repeat (first | (with_reducible first | exact HB.out | apply below_alloc | apply pw_below_drewN | apply below_drew1) | exact HB.out)) ho30_0
  have Y30 := Aside0.mk z30
  have X30 := Aside0.mk (show lo30 ≤ hi30 from by rw [e30, f30]; exact hb30.size)
  clear Z0
  have Z0 := Aside0.mk (show hi30 ≤ w130.heap.size from by rw [f30]; exact Nat.le_refl _)
  obtain ⟨Ao30, co30, eo30⟩ := Kd.S_slice g30
  subst eo30
  have HO30_t25 := Aside0.mk g30
  clear z30 e30 f30 g30 ho30_0
  have B_ := Aside0.mk (below_step (by repeat (first | (with_reducible first | exact HB.out | apply below_alloc | apply pw_below_drewN | apply below_drew1) | exact HB.out)) hb30)
  clear HB
  have HB := B_
  clear B_ hb30
  try go_wp2_with fail
  first | ((with_reducible refine gate_callee (f := 20) rfl ?_); refine goesL_ _ rfl rfl Try.func20 (by kernel_rfl) rfl #[.slice Ao30 t25.length co30, .slice Ao5 t4.length co5] rfl (by (try simp only [List.map_toArray, List.map_cons, List.map_nil]); first | done | rfl | (simp only [List.length_drop, List.length_take]; rfl)) ?_; (with_reducible refine (laws_eqQuestionS.calls k _ _ t25 _ _ t4 true _ ?s0 ?s1 ?s2 ?s3 A31.out).mono ?_); (case s0 => exact (by repeat (first | exact (Kd.S_reads' HO30_t25.out).2.2 | (with_reducible refine Kd.C_alloc ?_ _) | (with_reducible refine Kd.C_drewN ?_ _) | (with_reducible refine Kd.C_drew ?_)))); (case s1 => exact (by exact (Kd.S_reads' HO30_t25.out).2.1)); (case s2 => exact (by repeat (first | exact (Kd.S_reads' HO30_t4.out).2.2 | (with_reducible refine Kd.C_alloc ?_ _) | (with_reducible refine Kd.C_drewN ?_ _) | (with_reducible refine Kd.C_drew ?_)))); (case s3 => exact (by exact (Kd.S_reads' HO30_t4.out).2.1)); rintro e w131 ⟨rfl, hb31⟩; refine ⟨_, rfl, ?_⟩) | (go_at_call 20; (with_reducible refine (laws_eqQuestionS.calls k _ _ t25 _ _ t4 true _ ?s0 ?s1 ?s2 ?s3 A31.out).mono ?_); (case s0 => exact (by repeat (first | exact (Kd.S_reads' HO30_t25.out).2.2 | (with_reducible refine Kd.C_alloc ?_ _) | (with_reducible refine Kd.C_drewN ?_ _) | (with_reducible refine Kd.C_drew ?_)))); (case s1 => exact (by exact (Kd.S_reads' HO30_t25.out).2.1)); (case s2 => exact (by repeat (first | exact (Kd.S_reads' HO30_t4.out).2.2 | (with_reducible refine Kd.C_alloc ?_ _) | (with_reducible refine Kd.C_drewN ?_ _) | (with_reducible refine Kd.C_drew ?_)))); (case s3 => exact (by exact (Kd.S_reads' HO30_t4.out).2.1)); rintro e w131 ⟨rfl, hb31⟩)
  clear HO30_t4
  have HO31_t21 := Aside0.mk (Kd.S_below (by (with_reducible repeat (first | apply Kd.S_alloc | apply Kd.S_drewN | apply Kd.S_drew)); exact HO30_t21.out) hb31)
  clear HO30_t21
  clear HO30_t25
  have Z_ := Aside0.mk (Nat.le_trans (show hi30 ≤ _ from Z0.out) hb31.size)
  clear Z0
  have Z0 := Z_
  clear Z_
  have B_ := Aside0.mk (below_step (by repeat (first | (with_reducible first | exact HB.out | apply below_alloc | apply pw_below_drewN | apply below_drew1) | exact HB.out)) hb31)
  clear HB
  have HB := B_
  clear B_ hb31
  try go_wp2_with fail
  first | ((with_reducible refine gate_callee (f := 29) rfl ?_); refine goesL_ _ rfl rfl Try.func29 (by kernel_rfl) rfl #[.slice Ao8 t21.length co8, .int .i64 1] rfl (by (try simp only [List.map_toArray, List.map_cons, List.map_nil]); first | done | (rw [show t21.length = t8.length from (Kd.S_reads' HO31_t21.out).1.symm] <;> rfl) | rfl | (simp only [List.length_drop, List.length_take]; rfl)) ?_; (with_reducible refine (laws_heldQuestionS.calls k _ _ t21 (1) t28 _ ?s0 ?s1 A34.out).mono ?_); (case s0 => exact (by repeat (first | exact (Kd.S_reads' HO31_t21.out).2.2 | (with_reducible refine Kd.C_alloc ?_ _) | (with_reducible refine Kd.C_drewN ?_ _) | (with_reducible refine Kd.C_drew ?_)))); (case s1 => exact (by rw [show t21.length = t8.length from (Kd.S_reads' HO31_t21.out).1.symm]; exact (Kd.S_reads' HO31_t21.out).2.1)); rintro e w134 ⟨rfl, hb34⟩; refine ⟨_, rfl, ?_⟩) | (go_at_call 29; refine calls_of_args (args' := #[.slice Ao8 t21.length co8, .int .i64 1]) (by first | (rw [show t21.length = t8.length from (Kd.S_reads' HO31_t21.out).1.symm] <;> rfl) | rfl) ?_; (with_reducible refine (laws_heldQuestionS.calls k _ _ t21 (1) t28 _ ?s0 ?s1 A34.out).mono ?_); (case s0 => exact (by repeat (first | exact (Kd.S_reads' HO31_t21.out).2.2 | (with_reducible refine Kd.C_alloc ?_ _) | (with_reducible refine Kd.C_drewN ?_ _) | (with_reducible refine Kd.C_drew ?_)))); (case s1 => exact (by rw [show t21.length = t8.length from (Kd.S_reads' HO31_t21.out).1.symm]; exact (Kd.S_reads' HO31_t21.out).2.1)); rintro e w134 ⟨rfl, hb34⟩)
  replace hb34 := hb34.below
  clear HO31_t21
  have Z_ := Aside0.mk (Nat.le_trans (show hi30 ≤ _ from Z0.out) hb34.size)
  clear Z0
  have Z0 := Z_
  clear Z_
  have B_ := Aside0.mk (below_step (by repeat (first | (with_reducible first | exact HB.out | apply below_alloc | apply pw_below_drewN | apply below_drew1) | exact HB.out)) hb34)
  clear HB
  have HB := B_
  clear B_ hb34
  try go_wp2_with fail
  go_ret
  exact ⟨by first | rfl | (simp [errW_none, errW_some] <;> rfl) | (simp [*, errW_none, errW_some] <;> rfl), (by repeat (first | (with_reducible first | exact HB.out | apply below_alloc | apply pw_below_drewN | apply below_drew1) | exact HB.out))⟩

/-- The one pure statement of laws_FnExactRepeatQuestions. -/
def laws_FnExactRepeatQuestions.Pure : Prop := ∀ (l0 : List (S24)) (l1 : List Int), l0.length * 32 ≤ 140737488351232 → (∀ y, y ∈ l0 → B24 y) → l1.length * 8 ≤ 140737488351232 → (∀ y, y ∈ l1 → (Lit.int .i64 y).wf = true) → ∃ k, laws_FnExactRepeatQuestions.f k l0 l1 = some true
theorem laws_FnExactRepeatQuestions.walk (P : laws_FnExactRepeatQuestions.Pure) (w : World) (A0 : Option Addr) (c0 : Nat) (l0 : List (S24)) (hr0 : Kd.C k24 w A0 l0.length l0) (hc0 : l0.length ≤ c0) (hx0 : l0.length * 32 ≤ 140737488351232 ∧ ∀ y, y ∈ l0 → B24 y) (A1 : Option Addr) (c1 : Nat) (l1 : List Int) (hr1 : Kd.C (Kd.int .i64) w A1 l1.length l1) (hc1 : l1.length ≤ c1) (hx1 : l1.length * 8 ≤ 140737488351232 ∧ ∀ y, y ∈ l1 → (Lit.int .i64 y).wf = true) :
    Calls Try.prog 6 #[.slice A0 l0.length c0, .slice A1 l1.length c1] w fun e w' => e = .returned (.bool true) ∧ Below w.heap.size w w' := by
  obtain ⟨k, h⟩ := P l0 l1 hx0.1 hx0.2 hx1.1 hx1.2
  refine (laws_FnExactRepeatQuestions.calls k A0 c0 l0 A1 c1 l1 true w hr0 hc0 hr1 hc1 h).mono ?_
  rintro e w' ⟨rfl, hd⟩
  exact ⟨rfl, hd⟩

end Go.Proofs.Ytnafjfdalapegaa.Q
