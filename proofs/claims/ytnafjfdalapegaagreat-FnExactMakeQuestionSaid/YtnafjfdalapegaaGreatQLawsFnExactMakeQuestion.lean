-- Written for the seat YtnafjfdalapegaaGreat by a program of this session (wip/tool/gx.py) out of the translation. Lean checks it.
import Derived.Test.YtnafjfdalapegaaGreatQ0
import Derived.Test.YtnafjfdalapegaaGreatQBImplMakeQuestionF11
import Derived.Test.YtnafjfdalapegaaGreatQBLawsMarkIntSS
import Derived.Test.YtnafjfdalapegaaGreatQBLawsSzIntS
import Derived.Test.YtnafjfdalapegaaGreatQBSpecExTaught
import Derived.Test.YtnafjfdalapegaaGreatQBounds
import Derived.Test.YtnafjfdalapegaaGreatGLaw
import Derived.Test.YtnafjfdalapegaaGreatWApart
import Derived.Test.YtnafjfdalapegaaGreatWFoot
import Derived.Test.YtnafjfdalapegaaGreatWKept
import Derived.Test.YtnafjfdalapegaaGreatWShare
import Derived.Test.YtnafjfdalapegaaGreatWRepsOne
namespace Go.Proofs.YtnafjfdalapegaaGreat.Q
open Go.RowKit Go.Proofs.YtnafjfdalapegaaGreatW.PrintWords Go.Proofs.YtnafjfdalapegaaGreatW.PrintLast Go.Proofs.YtnafjfdalapegaaGreatW.PrintMore
attribute [local go_sem] max2_int min2_int max_two min_two max_three min_three max_four min_four   -- for this text's walks alone
set_option linter.unusedVariables false
set_option linter.unusedSimpArgs false

/-! ### laws_FnExactMakeQuestion: function 3 -/
def laws_FnExactMakeQuestion.f (k : Nat) (l0 : List (S56)) (l1 : List (List Int)) (a2 : Int) (a3 : Int) (a4 : Int) : Option Bool := ((laws_szWordS.f k l0 1048576).bind fun t1 => (if t1 < 0 then some true else ((laws_szIntSS.f k l1 t1).bind fun t2 => (if t2 < 0 then some true else ((laws_toWordS.f k l0).bind fun t3 => ((laws_toIntSS.f k l1).bind fun t4 => ((spec_MakeQuestion.f k t3 t4 a2 a3 a4).bind fun bt5 => ((laws_toWordS.f k l0).bind fun t8 => ((laws_toIntSS.f k l1).bind fun t9 => ((impl_MakeQuestion.f k t8 t9 a2 a3 a4).bind fun bt10 => ((laws_eqQuestion.f k bt10.1 bt10.2.1 bt5.1 bt5.2.1).bind fun t13 => (if t13 = true then (if bt10.2.2 = bt5.2.2 then ((laws_toWordS.f k l0).bind fun t14 => ((laws_eqWordS.f k t8 t14).bind fun t15 => (if t15 = true then ((laws_toIntSS.f k l1).bind fun t16 => ((laws_eqIntSS.f k t9 t16).bind fun t17 => (if t17 = true then ((laws_markWordS.f k t8 1).bind fun bt18 => ((laws_markIntSS.f k t9 bt18.1).bind fun bt20 => (if bt20.1 < 0 then none else ((laws_eqQuestion.f k bt10.1 bt10.2.1 bt5.1 bt5.2.1).bind fun t22 => (if t22 = true then (if bt10.2.2 = bt5.2.2 then ((laws_markQuestion.f k bt10.1 bt10.2.1 1).bind fun bt23 => ((laws_heldQuestion.f k bt10.1 bt23.2 1).bind fun t25 => (if t25 < 0 then none else (if t25 = bt23.1 then ((laws_toWordS.f k l0).bind fun t26 => ((laws_toIntSS.f k l1).bind fun t27 => ((impl_MakeQuestion.f k t26 t27 a2 a3 a4).bind fun bt28 => ((laws_eqQuestion.f k bt28.1 bt28.2.1 bt5.1 bt5.2.1).bind fun t31 => (if t31 = true then (if bt28.2.2 = bt5.2.2 then ((laws_heldQuestion.f k bt10.1 bt23.2 1).bind fun t32 => (if t32 < 0 then none else (if t32 = bt23.1 then some true else none))) else none) else none))))) else none)))) else none) else none))))) else none))) else none))) else none) else none))))))))))))
theorem laws_FnExactMakeQuestion.mono : ∀ l0 l1 a2 a3 a4 k, LeO (laws_FnExactMakeQuestion.f k l0 l1 a2 a3 a4) (laws_FnExactMakeQuestion.f (k + 1) l0 l1 a2 a3 a4) := by
 intro l0 l1 a2 a3 a4 k
 unfold laws_FnExactMakeQuestion.f
 repeat' first
  | (with_reducible exact impl_MakeQuestion.mono _ _ _ _ _ _)
  | (with_reducible exact laws_eqIntSS.mono _ _ _)
  | (with_reducible exact laws_eqQuestion.mono _ _ _ _ _)
  | (with_reducible exact laws_eqWordS.mono _ _ _)
  | (with_reducible exact laws_heldQuestion.mono _ _ _ _)
  | (with_reducible exact laws_markIntSS.mono _ _ _)
  | (with_reducible exact laws_markQuestion.mono _ _ _ _)
  | (with_reducible exact laws_markWordS.mono _ _ _)
  | (with_reducible exact laws_szIntSS.mono _ _ _)
  | (with_reducible exact laws_szWordS.mono _ _ _)
  | (with_reducible exact laws_toIntSS.mono _ _)
  | (with_reducible exact laws_toWordS.mono _ _)
  | (with_reducible exact spec_MakeQuestion.mono _ _ _ _ _ _)
  | (with_reducible exact LeO.refl _)
  | (with_reducible exact LeO.none _)
  | (with_reducible refine LeO.ite ?_ ?_)
  | (with_reducible refine LeO.bind ?_ (fun _ => ?_))
attribute [local go_sem] max2_int min2_int max_two min_two max_three min_three max_four min_four
set_option maxHeartbeats 4000000 in
set_option maxRecDepth 100000 in
theorem laws_FnExactMakeQuestion.calls (k : Nat) (A0 : Option Addr) (c0 : Nat) (l0 : List (S56)) (A1 : Option Addr) (c1 : Nat) (l1 : List (List Int)) (a2 : Int) (a3 : Int) (a4 : Int) (r : Bool) (w : World) (hr0 : Kd.C k56 w A0 l0.length l0) (hc0 : l0.length ≤ c0) (hr1 : Kd.C (Kd.slice 3 (Kd.int .i64)) w A1 l1.length l1) (hc1 : l1.length ≤ c1) (h : laws_FnExactMakeQuestion.f k l0 l1 a2 a3 a4 = some r) :
  Calls Tryz.prog 3 #[.slice A0 l0.length c0, .slice A1 l1.length c1, .int .i64 a2, .int .i64 a3, .int .i64 a4] w fun e w' => e = .returned (.bool r) ∧ Below w.heap.size w w' := by
 have HR0 := Aside0.mk hr0
 have HC0 := Aside0.mk hc0
 have HR1 := Aside0.mk hr1
 have HC1 := Aside0.mk hc1
 clear hr0 hc0 hr1 hc1
 have HB := Aside0.mk (Below.refl w.heap.size w)
 have Z0 := Aside0.mk (Nat.le_refl w.heap.size)
 have H : ((laws_szWordS.f k l0 1048576).bind fun t1 => (if t1 < 0 then some true else ((laws_szIntSS.f k l1 t1).bind fun t2 => (if t2 < 0 then some true else ((laws_toWordS.f k l0).bind fun t3 => ((laws_toIntSS.f k l1).bind fun t4 => ((spec_MakeQuestion.f k t3 t4 a2 a3 a4).bind fun bt5 => ((laws_toWordS.f k l0).bind fun t8 => ((laws_toIntSS.f k l1).bind fun t9 => ((impl_MakeQuestion.f k t8 t9 a2 a3 a4).bind fun bt10 => ((laws_eqQuestion.f k bt10.1 bt10.2.1 bt5.1 bt5.2.1).bind fun t13 => (if t13 = true then (if bt10.2.2 = bt5.2.2 then ((laws_toWordS.f k l0).bind fun t14 => ((laws_eqWordS.f k t8 t14).bind fun t15 => (if t15 = true then ((laws_toIntSS.f k l1).bind fun t16 => ((laws_eqIntSS.f k t9 t16).bind fun t17 => (if t17 = true then ((laws_markWordS.f k t8 1).bind fun bt18 => ((laws_markIntSS.f k t9 bt18.1).bind fun bt20 => (if bt20.1 < 0 then none else ((laws_eqQuestion.f k bt10.1 bt10.2.1 bt5.1 bt5.2.1).bind fun t22 => (if t22 = true then (if bt10.2.2 = bt5.2.2 then ((laws_markQuestion.f k bt10.1 bt10.2.1 1).bind fun bt23 => ((laws_heldQuestion.f k bt10.1 bt23.2 1).bind fun t25 => (if t25 < 0 then none else (if t25 = bt23.1 then ((laws_toWordS.f k l0).bind fun t26 => ((laws_toIntSS.f k l1).bind fun t27 => ((impl_MakeQuestion.f k t26 t27 a2 a3 a4).bind fun bt28 => ((laws_eqQuestion.f k bt28.1 bt28.2.1 bt5.1 bt5.2.1).bind fun t31 => (if t31 = true then (if bt28.2.2 = bt5.2.2 then ((laws_heldQuestion.f k bt10.1 bt23.2 1).bind fun t32 => (if t32 < 0 then none else (if t32 = bt23.1 then some true else none))) else none) else none))))) else none)))) else none) else none))))) else none))) else none))) else none) else none)))))))))))) = some r := h
 clear h
 replace H := Option.bind_eq_some_iff.mp H
 obtain ⟨t1, A0_0, H⟩ := H
 try dsimp only at H
 have A0 := Aside0.mk A0_0
 clear A0_0
 by_cases q1 : t1 < 0
 ·rw [if_pos q1] at H
  obtain rfl := Option.some.inj H
  have d1_0 : decide (t1 < 0) = true := decide_eq_true (by omega)
  clear q1
  go_enter Tryz.func3, Tryz.ntmps3
  have hu28 := Tryz.underlying28
  try go_wp2_with fail
  first | ((with_reducible refine gate_callee (f := 6) rfl ?_); refine goesL_ _ rfl rfl Tryz.func6 (by kernel_rfl) rfl #[.slice A0 l0.length c0, .int .i64 1048576] rfl (by (try simp only [List.map_toArray, List.map_cons, List.map_nil]); first | done | rfl | (simp only [List.length_drop, List.length_take]; rfl)) ?_; (with_reducible refine (laws_szWordS.calls k _ _ l0 (1048576) t1 _ ?s0 ?s1 A0.out).mono ?_); (case s0 => exact (by repeat (first | exact (Kd.C_below HR0.out HB.out) | (with_reducible refine Kd.C_alloc ?_ _) | (with_reducible refine Kd.C_drewN ?_ _) | (with_reducible refine Kd.C_drew ?_)))); (case s1 => exact HC0.out); rintro e w100 ⟨rfl, hb0⟩; refine ⟨_, rfl, ?_⟩) | (go_at_call 6; (with_reducible refine (laws_szWordS.calls k _ _ l0 (1048576) t1 _ ?s0 ?s1 A0.out).mono ?_); (case s0 => exact (by repeat (first | exact (Kd.C_below HR0.out HB.out) | (with_reducible refine Kd.C_alloc ?_ _) | (with_reducible refine Kd.C_drewN ?_ _) | (with_reducible refine Kd.C_drew ?_)))); (case s1 => exact HC0.out); rintro e w100 ⟨rfl, hb0⟩)
  have Z_ := Aside0.mk (Nat.le_trans (show w.heap.size ≤ _ from Z0.out) hb0.size)
  clear Z0
  have Z0 := Z_
  clear Z_
  have B_ := Aside0.mk (below_step (by repeat (first | exact HB.out | apply below_alloc | apply pw_below_drewN | apply below_drew1)) hb0)
  clear HB
  have HB := B_
  clear B_ hb0
  try go_wp2_with fail
  go_ret
  exact ⟨by first | rfl | (simp [*, errW_none, errW_some] <;> rfl), (by repeat (first | exact HB.out | apply below_alloc | apply pw_below_drewN | apply below_drew1))⟩
 rw [if_neg q1] at H
 have d1_0 : decide (t1 < 0) = false := decide_eq_false (by omega)
 clear q1
 replace H := Option.bind_eq_some_iff.mp H
 obtain ⟨t2, A0_2, H⟩ := H
 try dsimp only at H
 have A2 := Aside0.mk A0_2
 clear A0_2
 by_cases q3 : t2 < 0
 ·rw [if_pos q3] at H
  obtain rfl := Option.some.inj H
  have d3_0 : decide (t2 < 0) = true := decide_eq_true (by omega)
  clear q3
  go_enter Tryz.func3, Tryz.ntmps3
  have hu28 := Tryz.underlying28
  try go_wp2_with fail
  first | ((with_reducible refine gate_callee (f := 6) rfl ?_); refine goesL_ _ rfl rfl Tryz.func6 (by kernel_rfl) rfl #[.slice A0 l0.length c0, .int .i64 1048576] rfl (by (try simp only [List.map_toArray, List.map_cons, List.map_nil]); first | done | rfl | (simp only [List.length_drop, List.length_take]; rfl)) ?_; (with_reducible refine (laws_szWordS.calls k _ _ l0 (1048576) t1 _ ?s0 ?s1 A0.out).mono ?_); (case s0 => exact (by repeat (first | exact (Kd.C_below HR0.out HB.out) | (with_reducible refine Kd.C_alloc ?_ _) | (with_reducible refine Kd.C_drewN ?_ _) | (with_reducible refine Kd.C_drew ?_)))); (case s1 => exact HC0.out); rintro e w100 ⟨rfl, hb0⟩; refine ⟨_, rfl, ?_⟩) | (go_at_call 6; (with_reducible refine (laws_szWordS.calls k _ _ l0 (1048576) t1 _ ?s0 ?s1 A0.out).mono ?_); (case s0 => exact (by repeat (first | exact (Kd.C_below HR0.out HB.out) | (with_reducible refine Kd.C_alloc ?_ _) | (with_reducible refine Kd.C_drewN ?_ _) | (with_reducible refine Kd.C_drew ?_)))); (case s1 => exact HC0.out); rintro e w100 ⟨rfl, hb0⟩)
  have Z_ := Aside0.mk (Nat.le_trans (show w.heap.size ≤ _ from Z0.out) hb0.size)
  clear Z0
  have Z0 := Z_
  clear Z_
  have B_ := Aside0.mk (below_step (by repeat (first | exact HB.out | apply below_alloc | apply pw_below_drewN | apply below_drew1)) hb0)
  clear HB
  have HB := B_
  clear B_ hb0
  try go_wp2_with fail
  first | ((with_reducible refine gate_callee (f := 7) rfl ?_); refine goesL_ _ rfl rfl Tryz.func7 (by kernel_rfl) rfl #[.slice A1 l1.length c1, .int .i64 t1] rfl (by (try simp only [List.map_toArray, List.map_cons, List.map_nil]); first | done | rfl | (simp only [List.length_drop, List.length_take]; rfl)) ?_; (with_reducible refine (laws_szIntSS.calls k _ _ l1 (t1) t2 _ ?s0 ?s1 A2.out).mono ?_); (case s0 => exact (by repeat (first | exact (Kd.C_below HR1.out HB.out) | (with_reducible refine Kd.C_alloc ?_ _) | (with_reducible refine Kd.C_drewN ?_ _) | (with_reducible refine Kd.C_drew ?_)))); (case s1 => exact HC1.out); rintro e w102 ⟨rfl, hb2⟩; refine ⟨_, rfl, ?_⟩) | (go_at_call 7; (with_reducible refine (laws_szIntSS.calls k _ _ l1 (t1) t2 _ ?s0 ?s1 A2.out).mono ?_); (case s0 => exact (by repeat (first | exact (Kd.C_below HR1.out HB.out) | (with_reducible refine Kd.C_alloc ?_ _) | (with_reducible refine Kd.C_drewN ?_ _) | (with_reducible refine Kd.C_drew ?_)))); (case s1 => exact HC1.out); rintro e w102 ⟨rfl, hb2⟩)
  replace hb2 := hb2.below
  have Z_ := Aside0.mk (Nat.le_trans (show w.heap.size ≤ _ from Z0.out) hb2.size)
  clear Z0
  have Z0 := Z_
  clear Z_
  have B_ := Aside0.mk (below_step (by repeat (first | exact HB.out | apply below_alloc | apply pw_below_drewN | apply below_drew1)) hb2)
  clear HB
  have HB := B_
  clear B_ hb2
  try go_wp2_with fail
  go_ret
  exact ⟨by first | rfl | (simp [*, errW_none, errW_some] <;> rfl), (by repeat (first | exact HB.out | apply below_alloc | apply pw_below_drewN | apply below_drew1))⟩
 rw [if_neg q3] at H
 have d3_0 : decide (t2 < 0) = false := decide_eq_false (by omega)
 clear q3
 replace H := Option.bind_eq_some_iff.mp H
 obtain ⟨t3, A0_4, H⟩ := H
 try dsimp only at H
 have A4 := Aside0.mk A0_4
 clear A0_4
 replace H := Option.bind_eq_some_iff.mp H
 obtain ⟨t4, A0_5, H⟩ := H
 try dsimp only at H
 have A5 := Aside0.mk A0_5
 clear A0_5
 replace H := Option.bind_eq_some_iff.mp H
 obtain ⟨⟨t5, t6, t7⟩, A0_6, H⟩ := H
 try dsimp only at H
 have A6 := Aside0.mk A0_6
 clear A0_6
 replace H := Option.bind_eq_some_iff.mp H
 obtain ⟨t8, A0_7, H⟩ := H
 try dsimp only at H
 have A7 := Aside0.mk A0_7
 clear A0_7
 replace H := Option.bind_eq_some_iff.mp H
 obtain ⟨t9, A0_8, H⟩ := H
 try dsimp only at H
 have A8 := Aside0.mk A0_8
 clear A0_8
 replace H := Option.bind_eq_some_iff.mp H
 obtain ⟨⟨t10, t11, t12⟩, A0_9, H⟩ := H
 try dsimp only at H
 have A9 := Aside0.mk A0_9
 clear A0_9
 replace H := Option.bind_eq_some_iff.mp H
 obtain ⟨t13, A0_10, H⟩ := H
 try dsimp only at H
 have A10 := Aside0.mk A0_10
 clear A0_10
 obtain ⟨q11, H1⟩ := Go.Proofs.YtnafjfdalapegaaGreatW.GLaw.ite_some H
 clear H
 have H := H1
 clear H1
 subst q11
 obtain ⟨q12, H1⟩ := Go.Proofs.YtnafjfdalapegaaGreatW.GLaw.ite_some H
 clear H
 have H := H1
 clear H1
 have d12_0 : (t12 == t7) = true := beq_iff_eq.mpr q12
 have d12_1 : (t12 != t7) = false := bne_eq_false_iff_eq.mpr q12
 clear q12
 replace H := Option.bind_eq_some_iff.mp H
 obtain ⟨t14, A0_13, H⟩ := H
 try dsimp only at H
 have A13 := Aside0.mk A0_13
 clear A0_13
 replace H := Option.bind_eq_some_iff.mp H
 obtain ⟨t15, A0_14, H⟩ := H
 try dsimp only at H
 have A14 := Aside0.mk A0_14
 clear A0_14
 obtain ⟨q15, H1⟩ := Go.Proofs.YtnafjfdalapegaaGreatW.GLaw.ite_some H
 clear H
 have H := H1
 clear H1
 subst q15
 replace H := Option.bind_eq_some_iff.mp H
 obtain ⟨t16, A0_16, H⟩ := H
 try dsimp only at H
 have A16 := Aside0.mk A0_16
 clear A0_16
 replace H := Option.bind_eq_some_iff.mp H
 obtain ⟨t17, A0_17, H⟩ := H
 try dsimp only at H
 have A17 := Aside0.mk A0_17
 clear A0_17
 obtain ⟨q18, H1⟩ := Go.Proofs.YtnafjfdalapegaaGreatW.GLaw.ite_some H
 clear H
 have H := H1
 clear H1
 subst q18
 replace H := Option.bind_eq_some_iff.mp H
 obtain ⟨⟨t18, t19⟩, A0_19, H⟩ := H
 try dsimp only at H
 have A19 := Aside0.mk A0_19
 clear A0_19
 replace H := Option.bind_eq_some_iff.mp H
 obtain ⟨⟨t20, t21⟩, A0_20, H⟩ := H
 try dsimp only at H
 have A20 := Aside0.mk A0_20
 clear A0_20
 obtain ⟨q21, H1⟩ := Go.Proofs.YtnafjfdalapegaaGreatW.GLaw.itn_some H
 clear H
 have H := H1
 clear H1
 have d21_0 : decide (t20 < 0) = false := decide_eq_false q21
 clear q21
 replace H := Option.bind_eq_some_iff.mp H
 obtain ⟨t22, A0_22, H⟩ := H
 try dsimp only at H
 have A22 := Aside0.mk A0_22
 clear A0_22
 obtain ⟨q23, H1⟩ := Go.Proofs.YtnafjfdalapegaaGreatW.GLaw.ite_some H
 clear H
 have H := H1
 clear H1
 subst q23
 obtain ⟨q24, H1⟩ := Go.Proofs.YtnafjfdalapegaaGreatW.GLaw.ite_some H
 clear H
 have H := H1
 clear H1
 have d24_0 : (t12 == t7) = true := beq_iff_eq.mpr q24
 have d24_1 : (t12 != t7) = false := bne_eq_false_iff_eq.mpr q24
 clear q24
 replace H := Option.bind_eq_some_iff.mp H
 obtain ⟨⟨t23, t24⟩, A0_25, H⟩ := H
 try dsimp only at H
 have A25 := Aside0.mk A0_25
 clear A0_25
 replace H := Option.bind_eq_some_iff.mp H
 obtain ⟨t25, A0_26, H⟩ := H
 try dsimp only at H
 have A26 := Aside0.mk A0_26
 clear A0_26
 obtain ⟨q27, H1⟩ := Go.Proofs.YtnafjfdalapegaaGreatW.GLaw.itn_some H
 clear H
 have H := H1
 clear H1
 have d27_0 : decide (t25 < 0) = false := decide_eq_false q27
 clear q27
 obtain ⟨q28, H1⟩ := Go.Proofs.YtnafjfdalapegaaGreatW.GLaw.ite_some H
 clear H
 have H := H1
 clear H1
 have d28_0 : (t25 == t23) = true := beq_iff_eq.mpr q28
 have d28_1 : (t25 != t23) = false := bne_eq_false_iff_eq.mpr q28
 clear q28
 replace H := Option.bind_eq_some_iff.mp H
 obtain ⟨t26, A0_29, H⟩ := H
 try dsimp only at H
 have A29 := Aside0.mk A0_29
 clear A0_29
 replace H := Option.bind_eq_some_iff.mp H
 obtain ⟨t27, A0_30, H⟩ := H
 try dsimp only at H
 have A30 := Aside0.mk A0_30
 clear A0_30
 replace H := Option.bind_eq_some_iff.mp H
 obtain ⟨⟨t28, t29, t30⟩, A0_31, H⟩ := H
 try dsimp only at H
 have A31 := Aside0.mk A0_31
 clear A0_31
 replace H := Option.bind_eq_some_iff.mp H
 obtain ⟨t31, A0_32, H⟩ := H
 try dsimp only at H
 have A32 := Aside0.mk A0_32
 clear A0_32
 obtain ⟨q33, H1⟩ := Go.Proofs.YtnafjfdalapegaaGreatW.GLaw.ite_some H
 clear H
 have H := H1
 clear H1
 subst q33
 obtain ⟨q34, H1⟩ := Go.Proofs.YtnafjfdalapegaaGreatW.GLaw.ite_some H
 clear H
 have H := H1
 clear H1
 have d34_0 : (t30 == t7) = true := beq_iff_eq.mpr q34
 have d34_1 : (t30 != t7) = false := bne_eq_false_iff_eq.mpr q34
 clear q34
 replace H := Option.bind_eq_some_iff.mp H
 obtain ⟨t32, A0_35, H⟩ := H
 try dsimp only at H
 have A35 := Aside0.mk A0_35
 clear A0_35
 obtain ⟨q36, H1⟩ := Go.Proofs.YtnafjfdalapegaaGreatW.GLaw.itn_some H
 clear H
 have H := H1
 clear H1
 have d36_0 : decide (t32 < 0) = false := decide_eq_false q36
 clear q36
 obtain ⟨q37, H1⟩ := Go.Proofs.YtnafjfdalapegaaGreatW.GLaw.ite_some H
 clear H
 have H := H1
 clear H1
 have d37_0 : (t32 == t23) = true := beq_iff_eq.mpr q37
 have d37_1 : (t32 != t23) = false := bne_eq_false_iff_eq.mpr q37
 clear q37
 obtain rfl := Option.some.inj H
 go_enter Tryz.func3, Tryz.ntmps3
 have hu28 := Tryz.underlying28
 try go_wp2_with fail
 first | ((with_reducible refine gate_callee (f := 6) rfl ?_); refine goesL_ _ rfl rfl Tryz.func6 (by kernel_rfl) rfl #[.slice A0 l0.length c0, .int .i64 1048576] rfl (by (try simp only [List.map_toArray, List.map_cons, List.map_nil]); first | done | rfl | (simp only [List.length_drop, List.length_take]; rfl)) ?_; (with_reducible refine (laws_szWordS.calls k _ _ l0 (1048576) t1 _ ?s0 ?s1 A0.out).mono ?_); (case s0 => exact (by repeat (first | exact (Kd.C_below HR0.out HB.out) | (with_reducible refine Kd.C_alloc ?_ _) | (with_reducible refine Kd.C_drewN ?_ _) | (with_reducible refine Kd.C_drew ?_)))); (case s1 => exact HC0.out); rintro e w100 ⟨rfl, hb0⟩; refine ⟨_, rfl, ?_⟩) | (go_at_call 6; (with_reducible refine (laws_szWordS.calls k _ _ l0 (1048576) t1 _ ?s0 ?s1 A0.out).mono ?_); (case s0 => exact (by repeat (first | exact (Kd.C_below HR0.out HB.out) | (with_reducible refine Kd.C_alloc ?_ _) | (with_reducible refine Kd.C_drewN ?_ _) | (with_reducible refine Kd.C_drew ?_)))); (case s1 => exact HC0.out); rintro e w100 ⟨rfl, hb0⟩)
 have Z_ := Aside0.mk (Nat.le_trans (show w.heap.size ≤ _ from Z0.out) hb0.size)
 clear Z0
 have Z0 := Z_
 clear Z_
 have B_ := Aside0.mk (below_step (by repeat (first | exact HB.out | apply below_alloc | apply pw_below_drewN | apply below_drew1)) hb0)
 clear HB
 have HB := B_
 clear B_ hb0
 try go_wp2_with fail
 first | ((with_reducible refine gate_callee (f := 7) rfl ?_); refine goesL_ _ rfl rfl Tryz.func7 (by kernel_rfl) rfl #[.slice A1 l1.length c1, .int .i64 t1] rfl (by (try simp only [List.map_toArray, List.map_cons, List.map_nil]); first | done | rfl | (simp only [List.length_drop, List.length_take]; rfl)) ?_; (with_reducible refine (laws_szIntSS.calls k _ _ l1 (t1) t2 _ ?s0 ?s1 A2.out).mono ?_); (case s0 => exact (by repeat (first | exact (Kd.C_below HR1.out HB.out) | (with_reducible refine Kd.C_alloc ?_ _) | (with_reducible refine Kd.C_drewN ?_ _) | (with_reducible refine Kd.C_drew ?_)))); (case s1 => exact HC1.out); rintro e w102 ⟨rfl, hb2⟩; refine ⟨_, rfl, ?_⟩) | (go_at_call 7; (with_reducible refine (laws_szIntSS.calls k _ _ l1 (t1) t2 _ ?s0 ?s1 A2.out).mono ?_); (case s0 => exact (by repeat (first | exact (Kd.C_below HR1.out HB.out) | (with_reducible refine Kd.C_alloc ?_ _) | (with_reducible refine Kd.C_drewN ?_ _) | (with_reducible refine Kd.C_drew ?_)))); (case s1 => exact HC1.out); rintro e w102 ⟨rfl, hb2⟩)
 replace hb2 := hb2.below
 have Z_ := Aside0.mk (Nat.le_trans (show w.heap.size ≤ _ from Z0.out) hb2.size)
 clear Z0
 have Z0 := Z_
 clear Z_
 have B_ := Aside0.mk (below_step (by repeat (first | exact HB.out | apply below_alloc | apply pw_below_drewN | apply below_drew1)) hb2)
 clear HB
 have HB := B_
 clear B_ hb2
 try go_wp2_with fail
 first | ((with_reducible refine gate_callee (f := 9) rfl ?_); refine goesL_ _ rfl rfl Tryz.func9 (by kernel_rfl) rfl #[.slice A0 l0.length c0] rfl (by (try simp only [List.map_toArray, List.map_cons, List.map_nil]); first | done | rfl | (simp only [List.length_drop, List.length_take]; rfl)) ?_; (with_reducible refine (laws_toWordS.calls k _ _ l0 t3 _ ?s0 ?s1 A4.out).mono ?_); (case s0 => exact (by repeat (first | exact (Kd.C_below HR0.out HB.out) | (with_reducible refine Kd.C_alloc ?_ _) | (with_reducible refine Kd.C_drewN ?_ _) | (with_reducible refine Kd.C_drew ?_)))); (case s1 => exact HC0.out); rintro e w104 ⟨v4_0, rfl, ho4_0, hb4⟩; refine ⟨_, rfl, ?_⟩) | (go_at_call 9; (with_reducible refine (laws_toWordS.calls k _ _ l0 t3 _ ?s0 ?s1 A4.out).mono ?_); (case s0 => exact (by repeat (first | exact (Kd.C_below HR0.out HB.out) | (with_reducible refine Kd.C_alloc ?_ _) | (with_reducible refine Kd.C_drewN ?_ _) | (with_reducible refine Kd.C_drew ?_)))); (case s1 => exact HC0.out); rintro e w104 ⟨v4_0, rfl, ho4_0, hb4⟩)
 obtain ⟨lo4, hi4, z4, e4, f4, g4⟩ := Go.Proofs.YtnafjfdalapegaaGreatW.GLaw.madeS (w := w) (show w.heap.size ≤ _ from Z0.out) (by repeat (first | exact HB.out | apply below_alloc | apply pw_below_drewN | apply below_drew1)) ho4_0
 have Y4 := Aside0.mk z4
 have X4 := Aside0.mk (show lo4 ≤ hi4 from by rw [e4, f4]; exact hb4.size)
 clear Z0
 have Z0 := Aside0.mk (show hi4 ≤ w104.heap.size from by rw [f4]; exact Nat.le_refl _)
 obtain ⟨Ao4, co4, eo4⟩ := Kd.S_slice g4
 subst eo4
 have HO4_t3 := Aside0.mk g4
 clear z4 e4 f4 g4 ho4_0
 have B_ := Aside0.mk (below_step (by repeat (first | exact HB.out | apply below_alloc | apply pw_below_drewN | apply below_drew1)) hb4)
 clear HB
 have HB := B_
 clear B_ hb4
 try go_wp2_with fail
 first | ((with_reducible refine gate_callee (f := 10) rfl ?_); refine goesL_ _ rfl rfl Tryz.func10 (by kernel_rfl) rfl #[.slice A1 l1.length c1] rfl (by (try simp only [List.map_toArray, List.map_cons, List.map_nil]); first | done | rfl | (simp only [List.length_drop, List.length_take]; rfl)) ?_; (with_reducible refine (laws_toIntSS.calls k _ _ l1 t4 _ ?s0 ?s1 A5.out).mono ?_); (case s0 => exact (by repeat (first | exact (Kd.C_below HR1.out HB.out) | (with_reducible refine Kd.C_alloc ?_ _) | (with_reducible refine Kd.C_drewN ?_ _) | (with_reducible refine Kd.C_drew ?_)))); (case s1 => exact HC1.out); rintro e w105 ⟨v5_0, rfl, ho5_0, hb5⟩; refine ⟨_, rfl, ?_⟩) | (go_at_call 10; (with_reducible refine (laws_toIntSS.calls k _ _ l1 t4 _ ?s0 ?s1 A5.out).mono ?_); (case s0 => exact (by repeat (first | exact (Kd.C_below HR1.out HB.out) | (with_reducible refine Kd.C_alloc ?_ _) | (with_reducible refine Kd.C_drewN ?_ _) | (with_reducible refine Kd.C_drew ?_)))); (case s1 => exact HC1.out); rintro e w105 ⟨v5_0, rfl, ho5_0, hb5⟩)
 have HO5_t3 := Aside0.mk (Kd.S_below (by (with_reducible repeat (first | apply Kd.S_alloc | apply Kd.S_drewN | apply Kd.S_drew)); exact HO4_t3.out) hb5)
 clear HO4_t3
 obtain ⟨lo5, hi5, z5, e5, f5, g5⟩ := Go.Proofs.YtnafjfdalapegaaGreatW.GLaw.madeS (w := w) (show hi4 ≤ _ from Z0.out) (by repeat (first | exact HB.out | apply below_alloc | apply pw_below_drewN | apply below_drew1)) ho5_0
 have Y5 := Aside0.mk z5
 have X5 := Aside0.mk (show lo5 ≤ hi5 from by rw [e5, f5]; exact hb5.size)
 clear Z0
 have Z0 := Aside0.mk (show hi5 ≤ w105.heap.size from by rw [f5]; exact Nat.le_refl _)
 obtain ⟨Ao5, co5, eo5⟩ := Kd.S_slice g5
 subst eo5
 have HO5_t4 := Aside0.mk g5
 clear z5 e5 f5 g5 ho5_0
 have B_ := Aside0.mk (below_step (by repeat (first | exact HB.out | apply below_alloc | apply pw_below_drewN | apply below_drew1)) hb5)
 clear HB
 have HB := B_
 clear B_ hb5
 try go_wp2_with fail
 first | ((with_reducible refine gate_callee (f := 8) rfl ?_); refine goesL_ _ rfl rfl Tryz.func8 (by kernel_rfl) rfl #[.slice Ao4 t3.length co4, .slice Ao5 t4.length co5, .int .i64 a2, .int .i64 a3, .int .i64 a4] rfl (by (try simp only [List.map_toArray, List.map_cons, List.map_nil]); first | done | rfl | (simp only [List.length_drop, List.length_take]; rfl)) ?_; (with_reducible refine (spec_MakeQuestion.calls k _ _ t3 _ _ t4 (a2) (a3) (a4) t5 t6 t7 _ ?s0 ?s1 ?s2 ?s3 A6.out).mono ?_); (case s0 => exact (by repeat (first | exact (Kd.S_reads' HO5_t3.out).2.2 | (with_reducible refine Kd.C_alloc ?_ _) | (with_reducible refine Kd.C_drewN ?_ _) | (with_reducible refine Kd.C_drew ?_)))); (case s1 => exact (by exact (Kd.S_reads' HO5_t3.out).2.1)); (case s2 => exact (by repeat (first | exact (Kd.S_reads' HO5_t4.out).2.2 | (with_reducible refine Kd.C_alloc ?_ _) | (with_reducible refine Kd.C_drewN ?_ _) | (with_reducible refine Kd.C_drew ?_)))); (case s3 => exact (by exact (Kd.S_reads' HO5_t4.out).2.1)); rintro e w106 ⟨v6_0, rfl, ho6_0, hb6⟩; refine ⟨_, rfl, ?_⟩) | (go_at_call 8; (with_reducible refine (spec_MakeQuestion.calls k _ _ t3 _ _ t4 (a2) (a3) (a4) t5 t6 t7 _ ?s0 ?s1 ?s2 ?s3 A6.out).mono ?_); (case s0 => exact (by repeat (first | exact (Kd.S_reads' HO5_t3.out).2.2 | (with_reducible refine Kd.C_alloc ?_ _) | (with_reducible refine Kd.C_drewN ?_ _) | (with_reducible refine Kd.C_drew ?_)))); (case s1 => exact (by exact (Kd.S_reads' HO5_t3.out).2.1)); (case s2 => exact (by repeat (first | exact (Kd.S_reads' HO5_t4.out).2.2 | (with_reducible refine Kd.C_alloc ?_ _) | (with_reducible refine Kd.C_drewN ?_ _) | (with_reducible refine Kd.C_drew ?_)))); (case s3 => exact (by exact (Kd.S_reads' HO5_t4.out).2.1)); rintro e w106 ⟨v6_0, rfl, ho6_0, hb6⟩)
 clear HO5_t3
 clear HO5_t4
 obtain ⟨lo6, hi6, z6, e6, f6, g6⟩ := Go.Proofs.YtnafjfdalapegaaGreatW.GLaw.madeV (w := w) (show hi5 ≤ _ from Z0.out) (by intro k_ h_; first | exact h_ | exact h_.1 | exact h_.2 | omega) ho6_0
 have Y6 := Aside0.mk z6
 have X6 := Aside0.mk (show lo6 ≤ hi6 from by rw [e6, f6]; exact hb6.size)
 clear Z0
 have Z0 := Aside0.mk (show hi6 ≤ w106.heap.size from by rw [f6]; exact Nat.le_refl _)
 obtain ⟨Ao6, co6, eo6⟩ := Kd.V_slice g6
 subst eo6
 have HO6_t6 := Aside0.mk g6
 clear z6 e6 f6 g6 ho6_0
 have B_ := Aside0.mk (below_step (by repeat (first | exact HB.out | apply below_alloc | apply pw_below_drewN | apply below_drew1)) hb6)
 clear HB
 have HB := B_
 clear B_ hb6
 have hbx_ := (below_alloc (Below.refl w106.heap.size w106) (.cells #[.int .i64 t5, .slice Ao6 t6.length co6] 28))
 have hsz_ : w106.heap.size + 1 ≤ (w106.alloc (.cells #[.int .i64 t5, .slice Ao6 t6.length co6] 28)).heap.size := by simp
 have hcb6_0_0 : (w106.alloc (.cells #[.int .i64 t5, .slice Ao6 t6.length co6] 28)).cell? ⟨w106.heap.size, 0, none⟩ = some (.int .i64 t5) := by simp
 have hcb6_1_0 : (w106.alloc (.cells #[.int .i64 t5, .slice Ao6 t6.length co6] 28)).cell? ⟨w106.heap.size, 1, none⟩ = some (.slice Ao6 t6.length co6) := by simp
 try go_wp2_with fail
 generalize (w106.alloc (.cells #[.int .i64 t5, .slice Ao6 t6.length co6] 28)) = wb6 at hbx_ hsz_ hcb6_0_0 hcb6_1_0 ⊢
 have HOb6_t6 := Aside0.mk (Kd.V_below (by (with_reducible repeat (first | apply Kd.V_alloc | apply Kd.V_drewN | apply Kd.V_drew)); exact HO6_t6.out) hbx_)
 clear HO6_t6
 have B_ := Aside0.mk (below_step (by repeat (first | exact HB.out | apply below_alloc | apply pw_below_drewN | apply below_drew1)) hbx_)
 clear HB
 have HB := B_
 have Yb6 := Aside0.mk (show hi6 ≤ w106.heap.size from Z0.out)
 clear Z0
 have Z0 := Aside0.mk hsz_
 clear B_ hbx_ hsz_
 try go_wp2_with fail
 first | ((with_reducible refine gate_callee (f := 9) rfl ?_); refine goesL_ _ rfl rfl Tryz.func9 (by kernel_rfl) rfl #[.slice A0 l0.length c0] rfl (by (try simp only [List.map_toArray, List.map_cons, List.map_nil]); first | done | rfl | (simp only [List.length_drop, List.length_take]; rfl)) ?_; (with_reducible refine (laws_toWordS.calls k _ _ l0 t8 _ ?s0 ?s1 A7.out).mono ?_); (case s0 => exact (by repeat (first | exact (Kd.C_below HR0.out HB.out) | (with_reducible refine Kd.C_alloc ?_ _) | (with_reducible refine Kd.C_drewN ?_ _) | (with_reducible refine Kd.C_drew ?_)))); (case s1 => exact HC0.out); rintro e w107 ⟨v7_0, rfl, ho7_0, hb7⟩; refine ⟨_, rfl, ?_⟩) | (go_at_call 9; (with_reducible refine (laws_toWordS.calls k _ _ l0 t8 _ ?s0 ?s1 A7.out).mono ?_); (case s0 => exact (by repeat (first | exact (Kd.C_below HR0.out HB.out) | (with_reducible refine Kd.C_alloc ?_ _) | (with_reducible refine Kd.C_drewN ?_ _) | (with_reducible refine Kd.C_drew ?_)))); (case s1 => exact HC0.out); rintro e w107 ⟨v7_0, rfl, ho7_0, hb7⟩)
 have HO7_t6 := Aside0.mk (Kd.V_below (by (with_reducible repeat (first | apply Kd.V_alloc | apply Kd.V_drewN | apply Kd.V_drew)); exact HOb6_t6.out) hb7)
 clear HOb6_t6
 obtain ⟨lo7, hi7, z7, e7, f7, g7⟩ := Go.Proofs.YtnafjfdalapegaaGreatW.GLaw.madeS (w := w) (show (w106.heap.size + 1) ≤ _ from Z0.out) (by repeat (first | exact HB.out | apply below_alloc | apply pw_below_drewN | apply below_drew1)) ho7_0
 have Y7 := Aside0.mk z7
 have X7 := Aside0.mk (show lo7 ≤ hi7 from by rw [e7, f7]; exact hb7.size)
 clear Z0
 have Z0 := Aside0.mk (show hi7 ≤ w107.heap.size from by rw [f7]; exact Nat.le_refl _)
 obtain ⟨Ao7, co7, eo7⟩ := Kd.S_slice g7
 subst eo7
 have HO7_t8 := Aside0.mk g7
 clear z7 e7 f7 g7 ho7_0
 have hcb6_0_c7 := (hb7.cell (p := ⟨w106.heap.size, 0, none⟩) (World.block_lt_of_cell? _ _ hcb6_0_0)).trans hcb6_0_0
 clear hcb6_0_0
 have hcb6_1_c7 := (hb7.cell (p := ⟨w106.heap.size, 1, none⟩) (World.block_lt_of_cell? _ _ hcb6_1_0)).trans hcb6_1_0
 clear hcb6_1_0
 have B_ := Aside0.mk (below_step (by repeat (first | exact HB.out | apply below_alloc | apply pw_below_drewN | apply below_drew1)) hb7)
 clear HB
 have HB := B_
 clear B_ hb7
 try go_wp2_with fail
 first | ((with_reducible refine gate_callee (f := 10) rfl ?_); refine goesL_ _ rfl rfl Tryz.func10 (by kernel_rfl) rfl #[.slice A1 l1.length c1] rfl (by (try simp only [List.map_toArray, List.map_cons, List.map_nil]); first | done | rfl | (simp only [List.length_drop, List.length_take]; rfl)) ?_; (with_reducible refine (laws_toIntSS.calls k _ _ l1 t9 _ ?s0 ?s1 A8.out).mono ?_); (case s0 => exact (by repeat (first | exact (Kd.C_below HR1.out HB.out) | (with_reducible refine Kd.C_alloc ?_ _) | (with_reducible refine Kd.C_drewN ?_ _) | (with_reducible refine Kd.C_drew ?_)))); (case s1 => exact HC1.out); rintro e w108 ⟨v8_0, rfl, ho8_0, hb8⟩; refine ⟨_, rfl, ?_⟩) | (go_at_call 10; (with_reducible refine (laws_toIntSS.calls k _ _ l1 t9 _ ?s0 ?s1 A8.out).mono ?_); (case s0 => exact (by repeat (first | exact (Kd.C_below HR1.out HB.out) | (with_reducible refine Kd.C_alloc ?_ _) | (with_reducible refine Kd.C_drewN ?_ _) | (with_reducible refine Kd.C_drew ?_)))); (case s1 => exact HC1.out); rintro e w108 ⟨v8_0, rfl, ho8_0, hb8⟩)
 have HO8_t6 := Aside0.mk (Kd.V_below (by (with_reducible repeat (first | apply Kd.V_alloc | apply Kd.V_drewN | apply Kd.V_drew)); exact HO7_t6.out) hb8)
 clear HO7_t6
 have HO8_t8 := Aside0.mk (Kd.S_below (by (with_reducible repeat (first | apply Kd.S_alloc | apply Kd.S_drewN | apply Kd.S_drew)); exact HO7_t8.out) hb8)
 clear HO7_t8
 obtain ⟨lo8, hi8, z8, e8, f8, g8⟩ := Go.Proofs.YtnafjfdalapegaaGreatW.GLaw.madeS (w := w) (show hi7 ≤ _ from Z0.out) (by repeat (first | exact HB.out | apply below_alloc | apply pw_below_drewN | apply below_drew1)) ho8_0
 have Y8 := Aside0.mk z8
 have X8 := Aside0.mk (show lo8 ≤ hi8 from by rw [e8, f8]; exact hb8.size)
 clear Z0
 have Z0 := Aside0.mk (show hi8 ≤ w108.heap.size from by rw [f8]; exact Nat.le_refl _)
 obtain ⟨Ao8, co8, eo8⟩ := Kd.S_slice g8
 subst eo8
 have HO8_t9 := Aside0.mk g8
 clear z8 e8 f8 g8 ho8_0
 have hcb6_0_c8 := (hb8.cell (p := ⟨w106.heap.size, 0, none⟩) (World.block_lt_of_cell? _ _ hcb6_0_c7)).trans hcb6_0_c7
 clear hcb6_0_c7
 have hcb6_1_c8 := (hb8.cell (p := ⟨w106.heap.size, 1, none⟩) (World.block_lt_of_cell? _ _ hcb6_1_c7)).trans hcb6_1_c7
 clear hcb6_1_c7
 have B_ := Aside0.mk (below_step (by repeat (first | exact HB.out | apply below_alloc | apply pw_below_drewN | apply below_drew1)) hb8)
 clear HB
 have HB := B_
 clear B_ hb8
 try go_wp2_with fail
 first | ((with_reducible refine gate_callee (f := 11) rfl ?_); refine goesL_ _ rfl rfl Tryz.func11 (by kernel_rfl) rfl #[.slice Ao7 t8.length co7, .slice Ao8 t9.length co8, .int .i64 a2, .int .i64 a3, .int .i64 a4] rfl (by (try simp only [List.map_toArray, List.map_cons, List.map_nil]); first | done | rfl | (simp only [List.length_drop, List.length_take]; rfl)) ?_; (with_reducible refine (impl_MakeQuestion.calls k _ _ t8 _ _ t9 (a2) (a3) (a4) t10 t11 t12 _ ?s0 ?s1 ?s2 ?s3 A9.out).mono ?_); (case s0 => exact (by repeat (first | exact (Kd.S_reads' HO8_t8.out).2.2 | (with_reducible refine Kd.C_alloc ?_ _) | (with_reducible refine Kd.C_drewN ?_ _) | (with_reducible refine Kd.C_drew ?_)))); (case s1 => exact (by exact (Kd.S_reads' HO8_t8.out).2.1)); (case s2 => exact (by repeat (first | exact (Kd.S_reads' HO8_t9.out).2.2 | (with_reducible refine Kd.C_alloc ?_ _) | (with_reducible refine Kd.C_drewN ?_ _) | (with_reducible refine Kd.C_drew ?_)))); (case s3 => exact (by exact (Kd.S_reads' HO8_t9.out).2.1)); rintro e w109 ⟨v9_0, rfl, ho9_0, hb9⟩; refine ⟨_, rfl, ?_⟩) | (go_at_call 11; (with_reducible refine (impl_MakeQuestion.calls k _ _ t8 _ _ t9 (a2) (a3) (a4) t10 t11 t12 _ ?s0 ?s1 ?s2 ?s3 A9.out).mono ?_); (case s0 => exact (by repeat (first | exact (Kd.S_reads' HO8_t8.out).2.2 | (with_reducible refine Kd.C_alloc ?_ _) | (with_reducible refine Kd.C_drewN ?_ _) | (with_reducible refine Kd.C_drew ?_)))); (case s1 => exact (by exact (Kd.S_reads' HO8_t8.out).2.1)); (case s2 => exact (by repeat (first | exact (Kd.S_reads' HO8_t9.out).2.2 | (with_reducible refine Kd.C_alloc ?_ _) | (with_reducible refine Kd.C_drewN ?_ _) | (with_reducible refine Kd.C_drew ?_)))); (case s3 => exact (by exact (Kd.S_reads' HO8_t9.out).2.1)); rintro e w109 ⟨v9_0, rfl, ho9_0, hb9⟩)
 have HO9_t6 := Aside0.mk (Kd.V_below (by (with_reducible repeat (first | apply Kd.V_alloc | apply Kd.V_drewN | apply Kd.V_drew)); exact HO8_t6.out) hb9)
 clear HO8_t6
 have HO9_t8 := Aside0.mk (Kd.S_below (by (with_reducible repeat (first | apply Kd.S_alloc | apply Kd.S_drewN | apply Kd.S_drew)); exact HO8_t8.out) hb9)
 clear HO8_t8
 have HO9_t9 := Aside0.mk (Kd.S_below (by (with_reducible repeat (first | apply Kd.S_alloc | apply Kd.S_drewN | apply Kd.S_drew)); exact HO8_t9.out) hb9)
 clear HO8_t9
 obtain ⟨lo9, hi9, z9, e9, f9, g9⟩ := Go.Proofs.YtnafjfdalapegaaGreatW.GLaw.madeR (w := w) (show hi8 ≤ _ from Z0.out) (by repeat (first | exact HB.out | apply below_alloc | apply pw_below_drewN | apply below_drew1)) ho9_0
 have Y9 := Aside0.mk z9
 have X9 := Aside0.mk (show lo9 ≤ hi9 from by rw [e9, f9]; exact hb9.size)
 clear Z0
 have Z0 := Aside0.mk (show hi9 ≤ w109.heap.size from by rw [f9]; exact Nat.le_refl _)
 obtain ⟨Ao9, co9, eo9⟩ := Kd.R_slice g9
 subst eo9
 have HO9_t11 := Aside0.mk g9
 clear z9 e9 f9 g9 ho9_0
 have hcb6_0_c9 := (hb9.cell (p := ⟨w106.heap.size, 0, none⟩) (World.block_lt_of_cell? _ _ hcb6_0_c8)).trans hcb6_0_c8
 clear hcb6_0_c8
 have hcb6_1_c9 := (hb9.cell (p := ⟨w106.heap.size, 1, none⟩) (World.block_lt_of_cell? _ _ hcb6_1_c8)).trans hcb6_1_c8
 clear hcb6_1_c8
 have B_ := Aside0.mk (below_step (by repeat (first | exact HB.out | apply below_alloc | apply pw_below_drewN | apply below_drew1)) hb9)
 clear HB
 have HB := B_
 clear B_ hb9
 have hbx_ := (below_alloc (Below.refl w109.heap.size w109) (.cells #[.int .i64 t10, .slice Ao9 t11.length co9] 28))
 have hsz_ : w109.heap.size + 1 ≤ (w109.alloc (.cells #[.int .i64 t10, .slice Ao9 t11.length co9] 28)).heap.size := by simp
 have hcb9_0_0 : (w109.alloc (.cells #[.int .i64 t10, .slice Ao9 t11.length co9] 28)).cell? ⟨w109.heap.size, 0, none⟩ = some (.int .i64 t10) := by simp
 have hcb9_1_0 : (w109.alloc (.cells #[.int .i64 t10, .slice Ao9 t11.length co9] 28)).cell? ⟨w109.heap.size, 1, none⟩ = some (.slice Ao9 t11.length co9) := by simp
 have hcb6_0_b9 := (hbx_.cell (p := ⟨w106.heap.size, 0, none⟩) (World.block_lt_of_cell? _ _ hcb6_0_c9)).trans hcb6_0_c9
 clear hcb6_0_c9
 have hcb6_1_b9 := (hbx_.cell (p := ⟨w106.heap.size, 1, none⟩) (World.block_lt_of_cell? _ _ hcb6_1_c9)).trans hcb6_1_c9
 clear hcb6_1_c9
 try go_wp2_with fail
 generalize (w109.alloc (.cells #[.int .i64 t10, .slice Ao9 t11.length co9] 28)) = wb9 at hbx_ hsz_ hcb9_0_0 hcb9_1_0 hcb6_0_b9 hcb6_1_b9 ⊢
 have HOb9_t6 := Aside0.mk (Kd.V_below (by (with_reducible repeat (first | apply Kd.V_alloc | apply Kd.V_drewN | apply Kd.V_drew)); exact HO9_t6.out) hbx_)
 clear HO9_t6
 have HOb9_t8 := Aside0.mk (Kd.S_below (by (with_reducible repeat (first | apply Kd.S_alloc | apply Kd.S_drewN | apply Kd.S_drew)); exact HO9_t8.out) hbx_)
 clear HO9_t8
 have HOb9_t9 := Aside0.mk (Kd.S_below (by (with_reducible repeat (first | apply Kd.S_alloc | apply Kd.S_drewN | apply Kd.S_drew)); exact HO9_t9.out) hbx_)
 clear HO9_t9
 have HOb9_t11 := Aside0.mk (Kd.R_below (by (with_reducible repeat (first | apply Kd.R_alloc | apply Kd.R_drewN | apply Kd.R_drew)); exact HO9_t11.out) hbx_)
 clear HO9_t11
 have B_ := Aside0.mk (below_step (by repeat (first | exact HB.out | apply below_alloc | apply pw_below_drewN | apply below_drew1)) hbx_)
 clear HB
 have HB := B_
 have Yb9 := Aside0.mk (show hi9 ≤ w109.heap.size from Z0.out)
 clear Z0
 have Z0 := Aside0.mk hsz_
 clear B_ hbx_ hsz_
 try go_wp2_with fail
 first | ((with_reducible refine gate_callee (f := 12) rfl ?_); refine goesL_ _ rfl rfl Tryz.func12 (by kernel_rfl) rfl #[.agg #[.int .i64 t10, .slice Ao9 t11.length co9], .agg #[.int .i64 t5, .slice Ao6 t6.length co6]] rfl (by (try simp only [List.map_toArray, List.map_cons, List.map_nil]); first | done | rfl | (simp only [List.length_drop, List.length_take]; rfl)) ?_; (with_reducible refine (laws_eqQuestion.calls k (t10) _ _ t11 (t5) _ _ t6 true _ ?s0 ?s1 ?s2 ?s3 A10.out).mono ?_); (case s0 => exact (by repeat (first | exact (Kd.R_reads' HOb9_t11.out).2.2 | (with_reducible refine Kd.C_alloc ?_ _) | (with_reducible refine Kd.C_drewN ?_ _) | (with_reducible refine Kd.C_drew ?_)))); (case s1 => exact (by exact (Kd.R_reads' HOb9_t11.out).2.1)); (case s2 => exact (by repeat (first | exact (Kd.V_reads' HOb9_t6.out).2.2 | (with_reducible refine Kd.C_alloc ?_ _) | (with_reducible refine Kd.C_drewN ?_ _) | (with_reducible refine Kd.C_drew ?_)))); (case s3 => exact (by exact (Kd.V_reads' HOb9_t6.out).2.1)); rintro e w110 ⟨rfl, hb10⟩; refine ⟨_, rfl, ?_⟩) | (go_at_call 12; (with_reducible refine (laws_eqQuestion.calls k (t10) _ _ t11 (t5) _ _ t6 true _ ?s0 ?s1 ?s2 ?s3 A10.out).mono ?_); (case s0 => exact (by repeat (first | exact (Kd.R_reads' HOb9_t11.out).2.2 | (with_reducible refine Kd.C_alloc ?_ _) | (with_reducible refine Kd.C_drewN ?_ _) | (with_reducible refine Kd.C_drew ?_)))); (case s1 => exact (by exact (Kd.R_reads' HOb9_t11.out).2.1)); (case s2 => exact (by repeat (first | exact (Kd.V_reads' HOb9_t6.out).2.2 | (with_reducible refine Kd.C_alloc ?_ _) | (with_reducible refine Kd.C_drewN ?_ _) | (with_reducible refine Kd.C_drew ?_)))); (case s3 => exact (by exact (Kd.V_reads' HOb9_t6.out).2.1)); rintro e w110 ⟨rfl, hb10⟩)
 have HO10_t6 := Aside0.mk (Kd.V_below (by (with_reducible repeat (first | apply Kd.V_alloc | apply Kd.V_drewN | apply Kd.V_drew)); exact HOb9_t6.out) hb10)
 clear HOb9_t6
 have HO10_t8 := Aside0.mk (Kd.S_below (by (with_reducible repeat (first | apply Kd.S_alloc | apply Kd.S_drewN | apply Kd.S_drew)); exact HOb9_t8.out) hb10)
 clear HOb9_t8
 have HO10_t9 := Aside0.mk (Kd.S_below (by (with_reducible repeat (first | apply Kd.S_alloc | apply Kd.S_drewN | apply Kd.S_drew)); exact HOb9_t9.out) hb10)
 clear HOb9_t9
 have HO10_t11 := Aside0.mk (Kd.R_below (by (with_reducible repeat (first | apply Kd.R_alloc | apply Kd.R_drewN | apply Kd.R_drew)); exact HOb9_t11.out) hb10)
 clear HOb9_t11
 have Z_ := Aside0.mk (Nat.le_trans (show (w109.heap.size + 1) ≤ _ from Z0.out) hb10.size)
 clear Z0
 have Z0 := Z_
 clear Z_
 have hcb6_0_c10 := (hb10.cell (p := ⟨w106.heap.size, 0, none⟩) (World.block_lt_of_cell? _ _ hcb6_0_b9)).trans hcb6_0_b9
 clear hcb6_0_b9
 have hcb6_1_c10 := (hb10.cell (p := ⟨w106.heap.size, 1, none⟩) (World.block_lt_of_cell? _ _ hcb6_1_b9)).trans hcb6_1_b9
 clear hcb6_1_b9
 have hcb9_0_c10 := (hb10.cell (p := ⟨w109.heap.size, 0, none⟩) (World.block_lt_of_cell? _ _ hcb9_0_0)).trans hcb9_0_0
 clear hcb9_0_0
 have hcb9_1_c10 := (hb10.cell (p := ⟨w109.heap.size, 1, none⟩) (World.block_lt_of_cell? _ _ hcb9_1_0)).trans hcb9_1_0
 clear hcb9_1_0
 have B_ := Aside0.mk (below_step (by repeat (first | exact HB.out | apply below_alloc | apply pw_below_drewN | apply below_drew1)) hb10)
 clear HB
 have HB := B_
 clear B_ hb10
 try go_wp2_with fail
 first | ((with_reducible refine gate_callee (f := 9) rfl ?_); refine goesL_ _ rfl rfl Tryz.func9 (by kernel_rfl) rfl #[.slice A0 l0.length c0] rfl (by (try simp only [List.map_toArray, List.map_cons, List.map_nil]); first | done | rfl | (simp only [List.length_drop, List.length_take]; rfl)) ?_; (with_reducible refine (laws_toWordS.calls k _ _ l0 t14 _ ?s0 ?s1 A13.out).mono ?_); (case s0 => exact (by repeat (first | exact (Kd.C_below HR0.out HB.out) | (with_reducible refine Kd.C_alloc ?_ _) | (with_reducible refine Kd.C_drewN ?_ _) | (with_reducible refine Kd.C_drew ?_)))); (case s1 => exact HC0.out); rintro e w113 ⟨v13_0, rfl, ho13_0, hb13⟩; refine ⟨_, rfl, ?_⟩) | (go_at_call 9; (with_reducible refine (laws_toWordS.calls k _ _ l0 t14 _ ?s0 ?s1 A13.out).mono ?_); (case s0 => exact (by repeat (first | exact (Kd.C_below HR0.out HB.out) | (with_reducible refine Kd.C_alloc ?_ _) | (with_reducible refine Kd.C_drewN ?_ _) | (with_reducible refine Kd.C_drew ?_)))); (case s1 => exact HC0.out); rintro e w113 ⟨v13_0, rfl, ho13_0, hb13⟩)
 have HO13_t6 := Aside0.mk (Kd.V_below (by (with_reducible repeat (first | apply Kd.V_alloc | apply Kd.V_drewN | apply Kd.V_drew)); exact HO10_t6.out) hb13)
 clear HO10_t6
 have HO13_t8 := Aside0.mk (Kd.S_below (by (with_reducible repeat (first | apply Kd.S_alloc | apply Kd.S_drewN | apply Kd.S_drew)); exact HO10_t8.out) hb13)
 clear HO10_t8
 have HO13_t9 := Aside0.mk (Kd.S_below (by (with_reducible repeat (first | apply Kd.S_alloc | apply Kd.S_drewN | apply Kd.S_drew)); exact HO10_t9.out) hb13)
 clear HO10_t9
 have HO13_t11 := Aside0.mk (Kd.R_below (by (with_reducible repeat (first | apply Kd.R_alloc | apply Kd.R_drewN | apply Kd.R_drew)); exact HO10_t11.out) hb13)
 clear HO10_t11
 obtain ⟨lo13, hi13, z13, e13, f13, g13⟩ := Go.Proofs.YtnafjfdalapegaaGreatW.GLaw.madeS (w := w) (show (w109.heap.size + 1) ≤ _ from Z0.out) (by repeat (first | exact HB.out | apply below_alloc | apply pw_below_drewN | apply below_drew1)) ho13_0
 have Y13 := Aside0.mk z13
 have X13 := Aside0.mk (show lo13 ≤ hi13 from by rw [e13, f13]; exact hb13.size)
 clear Z0
 have Z0 := Aside0.mk (show hi13 ≤ w113.heap.size from by rw [f13]; exact Nat.le_refl _)
 obtain ⟨Ao13, co13, eo13⟩ := Kd.S_slice g13
 subst eo13
 have HO13_t14 := Aside0.mk g13
 clear z13 e13 f13 g13 ho13_0
 have hcb6_0_c13 := (hb13.cell (p := ⟨w106.heap.size, 0, none⟩) (World.block_lt_of_cell? _ _ hcb6_0_c10)).trans hcb6_0_c10
 clear hcb6_0_c10
 have hcb6_1_c13 := (hb13.cell (p := ⟨w106.heap.size, 1, none⟩) (World.block_lt_of_cell? _ _ hcb6_1_c10)).trans hcb6_1_c10
 clear hcb6_1_c10
 have hcb9_0_c13 := (hb13.cell (p := ⟨w109.heap.size, 0, none⟩) (World.block_lt_of_cell? _ _ hcb9_0_c10)).trans hcb9_0_c10
 clear hcb9_0_c10
 have hcb9_1_c13 := (hb13.cell (p := ⟨w109.heap.size, 1, none⟩) (World.block_lt_of_cell? _ _ hcb9_1_c10)).trans hcb9_1_c10
 clear hcb9_1_c10
 have B_ := Aside0.mk (below_step (by repeat (first | exact HB.out | apply below_alloc | apply pw_below_drewN | apply below_drew1)) hb13)
 clear HB
 have HB := B_
 clear B_ hb13
 try go_wp2_with fail
 first | ((with_reducible refine gate_callee (f := 13) rfl ?_); refine goesL_ _ rfl rfl Tryz.func13 (by kernel_rfl) rfl #[.slice Ao7 t8.length co7, .slice Ao13 t14.length co13] rfl (by (try simp only [List.map_toArray, List.map_cons, List.map_nil]); first | done | rfl | (simp only [List.length_drop, List.length_take]; rfl)) ?_; (with_reducible refine (laws_eqWordS.calls k _ _ t8 _ _ t14 true _ ?s0 ?s1 ?s2 ?s3 A14.out).mono ?_); (case s0 => exact (by repeat (first | exact (Kd.S_reads' HO13_t8.out).2.2 | (with_reducible refine Kd.C_alloc ?_ _) | (with_reducible refine Kd.C_drewN ?_ _) | (with_reducible refine Kd.C_drew ?_)))); (case s1 => exact (by exact (Kd.S_reads' HO13_t8.out).2.1)); (case s2 => exact (by repeat (first | exact (Kd.S_reads' HO13_t14.out).2.2 | (with_reducible refine Kd.C_alloc ?_ _) | (with_reducible refine Kd.C_drewN ?_ _) | (with_reducible refine Kd.C_drew ?_)))); (case s3 => exact (by exact (Kd.S_reads' HO13_t14.out).2.1)); rintro e w114 ⟨rfl, hb14⟩; refine ⟨_, rfl, ?_⟩) | (go_at_call 13; (with_reducible refine (laws_eqWordS.calls k _ _ t8 _ _ t14 true _ ?s0 ?s1 ?s2 ?s3 A14.out).mono ?_); (case s0 => exact (by repeat (first | exact (Kd.S_reads' HO13_t8.out).2.2 | (with_reducible refine Kd.C_alloc ?_ _) | (with_reducible refine Kd.C_drewN ?_ _) | (with_reducible refine Kd.C_drew ?_)))); (case s1 => exact (by exact (Kd.S_reads' HO13_t8.out).2.1)); (case s2 => exact (by repeat (first | exact (Kd.S_reads' HO13_t14.out).2.2 | (with_reducible refine Kd.C_alloc ?_ _) | (with_reducible refine Kd.C_drewN ?_ _) | (with_reducible refine Kd.C_drew ?_)))); (case s3 => exact (by exact (Kd.S_reads' HO13_t14.out).2.1)); rintro e w114 ⟨rfl, hb14⟩)
 have HO14_t6 := Aside0.mk (Kd.V_below (by (with_reducible repeat (first | apply Kd.V_alloc | apply Kd.V_drewN | apply Kd.V_drew)); exact HO13_t6.out) hb14)
 clear HO13_t6
 have HO14_t8 := Aside0.mk (Kd.S_below (by (with_reducible repeat (first | apply Kd.S_alloc | apply Kd.S_drewN | apply Kd.S_drew)); exact HO13_t8.out) hb14)
 clear HO13_t8
 have HO14_t9 := Aside0.mk (Kd.S_below (by (with_reducible repeat (first | apply Kd.S_alloc | apply Kd.S_drewN | apply Kd.S_drew)); exact HO13_t9.out) hb14)
 clear HO13_t9
 have HO14_t11 := Aside0.mk (Kd.R_below (by (with_reducible repeat (first | apply Kd.R_alloc | apply Kd.R_drewN | apply Kd.R_drew)); exact HO13_t11.out) hb14)
 clear HO13_t11
 clear HO13_t14
 have Z_ := Aside0.mk (Nat.le_trans (show hi13 ≤ _ from Z0.out) hb14.size)
 clear Z0
 have Z0 := Z_
 clear Z_
 have hcb6_0_c14 := (hb14.cell (p := ⟨w106.heap.size, 0, none⟩) (World.block_lt_of_cell? _ _ hcb6_0_c13)).trans hcb6_0_c13
 clear hcb6_0_c13
 have hcb6_1_c14 := (hb14.cell (p := ⟨w106.heap.size, 1, none⟩) (World.block_lt_of_cell? _ _ hcb6_1_c13)).trans hcb6_1_c13
 clear hcb6_1_c13
 have hcb9_0_c14 := (hb14.cell (p := ⟨w109.heap.size, 0, none⟩) (World.block_lt_of_cell? _ _ hcb9_0_c13)).trans hcb9_0_c13
 clear hcb9_0_c13
 have hcb9_1_c14 := (hb14.cell (p := ⟨w109.heap.size, 1, none⟩) (World.block_lt_of_cell? _ _ hcb9_1_c13)).trans hcb9_1_c13
 clear hcb9_1_c13
 have B_ := Aside0.mk (below_step (by repeat (first | exact HB.out | apply below_alloc | apply pw_below_drewN | apply below_drew1)) hb14)
 clear HB
 have HB := B_
 clear B_ hb14
 try go_wp2_with fail
 first | ((with_reducible refine gate_callee (f := 10) rfl ?_); refine goesL_ _ rfl rfl Tryz.func10 (by kernel_rfl) rfl #[.slice A1 l1.length c1] rfl (by (try simp only [List.map_toArray, List.map_cons, List.map_nil]); first | done | rfl | (simp only [List.length_drop, List.length_take]; rfl)) ?_; (with_reducible refine (laws_toIntSS.calls k _ _ l1 t16 _ ?s0 ?s1 A16.out).mono ?_); (case s0 => exact (by repeat (first | exact (Kd.C_below HR1.out HB.out) | (with_reducible refine Kd.C_alloc ?_ _) | (with_reducible refine Kd.C_drewN ?_ _) | (with_reducible refine Kd.C_drew ?_)))); (case s1 => exact HC1.out); rintro e w116 ⟨v16_0, rfl, ho16_0, hb16⟩; refine ⟨_, rfl, ?_⟩) | (go_at_call 10; (with_reducible refine (laws_toIntSS.calls k _ _ l1 t16 _ ?s0 ?s1 A16.out).mono ?_); (case s0 => exact (by repeat (first | exact (Kd.C_below HR1.out HB.out) | (with_reducible refine Kd.C_alloc ?_ _) | (with_reducible refine Kd.C_drewN ?_ _) | (with_reducible refine Kd.C_drew ?_)))); (case s1 => exact HC1.out); rintro e w116 ⟨v16_0, rfl, ho16_0, hb16⟩)
 have HO16_t6 := Aside0.mk (Kd.V_below (by (with_reducible repeat (first | apply Kd.V_alloc | apply Kd.V_drewN | apply Kd.V_drew)); exact HO14_t6.out) hb16)
 clear HO14_t6
 have HO16_t8 := Aside0.mk (Kd.S_below (by (with_reducible repeat (first | apply Kd.S_alloc | apply Kd.S_drewN | apply Kd.S_drew)); exact HO14_t8.out) hb16)
 clear HO14_t8
 have HO16_t9 := Aside0.mk (Kd.S_below (by (with_reducible repeat (first | apply Kd.S_alloc | apply Kd.S_drewN | apply Kd.S_drew)); exact HO14_t9.out) hb16)
 clear HO14_t9
 have HO16_t11 := Aside0.mk (Kd.R_below (by (with_reducible repeat (first | apply Kd.R_alloc | apply Kd.R_drewN | apply Kd.R_drew)); exact HO14_t11.out) hb16)
 clear HO14_t11
 obtain ⟨lo16, hi16, z16, e16, f16, g16⟩ := Go.Proofs.YtnafjfdalapegaaGreatW.GLaw.madeS (w := w) (show hi13 ≤ _ from Z0.out) (by repeat (first | exact HB.out | apply below_alloc | apply pw_below_drewN | apply below_drew1)) ho16_0
 have Y16 := Aside0.mk z16
 have X16 := Aside0.mk (show lo16 ≤ hi16 from by rw [e16, f16]; exact hb16.size)
 clear Z0
 have Z0 := Aside0.mk (show hi16 ≤ w116.heap.size from by rw [f16]; exact Nat.le_refl _)
 obtain ⟨Ao16, co16, eo16⟩ := Kd.S_slice g16
 subst eo16
 have HO16_t16 := Aside0.mk g16
 clear z16 e16 f16 g16 ho16_0
 have hcb6_0_c16 := (hb16.cell (p := ⟨w106.heap.size, 0, none⟩) (World.block_lt_of_cell? _ _ hcb6_0_c14)).trans hcb6_0_c14
 clear hcb6_0_c14
 have hcb6_1_c16 := (hb16.cell (p := ⟨w106.heap.size, 1, none⟩) (World.block_lt_of_cell? _ _ hcb6_1_c14)).trans hcb6_1_c14
 clear hcb6_1_c14
 have hcb9_0_c16 := (hb16.cell (p := ⟨w109.heap.size, 0, none⟩) (World.block_lt_of_cell? _ _ hcb9_0_c14)).trans hcb9_0_c14
 clear hcb9_0_c14
 have hcb9_1_c16 := (hb16.cell (p := ⟨w109.heap.size, 1, none⟩) (World.block_lt_of_cell? _ _ hcb9_1_c14)).trans hcb9_1_c14
 clear hcb9_1_c14
 have B_ := Aside0.mk (below_step (by repeat (first | exact HB.out | apply below_alloc | apply pw_below_drewN | apply below_drew1)) hb16)
 clear HB
 have HB := B_
 clear B_ hb16
 try go_wp2_with fail
 first | ((with_reducible refine gate_callee (f := 14) rfl ?_); refine goesL_ _ rfl rfl Tryz.func14 (by kernel_rfl) rfl #[.slice Ao8 t9.length co8, .slice Ao16 t16.length co16] rfl (by (try simp only [List.map_toArray, List.map_cons, List.map_nil]); first | done | rfl | (simp only [List.length_drop, List.length_take]; rfl)) ?_; (with_reducible refine (laws_eqIntSS.calls k _ _ t9 _ _ t16 true _ ?s0 ?s1 ?s2 ?s3 A17.out).mono ?_); (case s0 => exact (by repeat (first | exact (Kd.S_reads' HO16_t9.out).2.2 | (with_reducible refine Kd.C_alloc ?_ _) | (with_reducible refine Kd.C_drewN ?_ _) | (with_reducible refine Kd.C_drew ?_)))); (case s1 => exact (by exact (Kd.S_reads' HO16_t9.out).2.1)); (case s2 => exact (by repeat (first | exact (Kd.S_reads' HO16_t16.out).2.2 | (with_reducible refine Kd.C_alloc ?_ _) | (with_reducible refine Kd.C_drewN ?_ _) | (with_reducible refine Kd.C_drew ?_)))); (case s3 => exact (by exact (Kd.S_reads' HO16_t16.out).2.1)); rintro e w117 ⟨rfl, hb17⟩; refine ⟨_, rfl, ?_⟩) | (go_at_call 14; (with_reducible refine (laws_eqIntSS.calls k _ _ t9 _ _ t16 true _ ?s0 ?s1 ?s2 ?s3 A17.out).mono ?_); (case s0 => exact (by repeat (first | exact (Kd.S_reads' HO16_t9.out).2.2 | (with_reducible refine Kd.C_alloc ?_ _) | (with_reducible refine Kd.C_drewN ?_ _) | (with_reducible refine Kd.C_drew ?_)))); (case s1 => exact (by exact (Kd.S_reads' HO16_t9.out).2.1)); (case s2 => exact (by repeat (first | exact (Kd.S_reads' HO16_t16.out).2.2 | (with_reducible refine Kd.C_alloc ?_ _) | (with_reducible refine Kd.C_drewN ?_ _) | (with_reducible refine Kd.C_drew ?_)))); (case s3 => exact (by exact (Kd.S_reads' HO16_t16.out).2.1)); rintro e w117 ⟨rfl, hb17⟩)
 replace hb17 := hb17.below
 have HO17_t6 := Aside0.mk (Kd.V_below (by (with_reducible repeat (first | apply Kd.V_alloc | apply Kd.V_drewN | apply Kd.V_drew)); exact HO16_t6.out) hb17)
 clear HO16_t6
 have HO17_t8 := Aside0.mk (Kd.S_below (by (with_reducible repeat (first | apply Kd.S_alloc | apply Kd.S_drewN | apply Kd.S_drew)); exact HO16_t8.out) hb17)
 clear HO16_t8
 have HO17_t9 := Aside0.mk (Kd.S_below (by (with_reducible repeat (first | apply Kd.S_alloc | apply Kd.S_drewN | apply Kd.S_drew)); exact HO16_t9.out) hb17)
 clear HO16_t9
 have HO17_t11 := Aside0.mk (Kd.R_below (by (with_reducible repeat (first | apply Kd.R_alloc | apply Kd.R_drewN | apply Kd.R_drew)); exact HO16_t11.out) hb17)
 clear HO16_t11
 clear HO16_t16
 have Z_ := Aside0.mk (Nat.le_trans (show hi16 ≤ _ from Z0.out) hb17.size)
 clear Z0
 have Z0 := Z_
 clear Z_
 have hcb6_0_c17 := (hb17.cell (p := ⟨w106.heap.size, 0, none⟩) (World.block_lt_of_cell? _ _ hcb6_0_c16)).trans hcb6_0_c16
 clear hcb6_0_c16
 have hcb6_1_c17 := (hb17.cell (p := ⟨w106.heap.size, 1, none⟩) (World.block_lt_of_cell? _ _ hcb6_1_c16)).trans hcb6_1_c16
 clear hcb6_1_c16
 have hcb9_0_c17 := (hb17.cell (p := ⟨w109.heap.size, 0, none⟩) (World.block_lt_of_cell? _ _ hcb9_0_c16)).trans hcb9_0_c16
 clear hcb9_0_c16
 have hcb9_1_c17 := (hb17.cell (p := ⟨w109.heap.size, 1, none⟩) (World.block_lt_of_cell? _ _ hcb9_1_c16)).trans hcb9_1_c16
 clear hcb9_1_c16
 have B_ := Aside0.mk (below_step (by repeat (first | exact HB.out | apply below_alloc | apply pw_below_drewN | apply below_drew1)) hb17)
 clear HB
 have HB := B_
 clear B_ hb17
 try go_wp2_with fail
 first | ((with_reducible refine gate_callee (f := 15) rfl ?_); refine goesL_ _ rfl rfl Tryz.func15 (by kernel_rfl) rfl #[.slice Ao7 t8.length co7, .int .i64 1] rfl (by (try simp only [List.map_toArray, List.map_cons, List.map_nil]); first | done | rfl | (simp only [List.length_drop, List.length_take]; rfl)) ?_; (with_reducible refine (laws_markWordS.calls k (Go.Proofs.YtnafjfdalapegaaGreatW.GLaw.In lo7 hi7) _ t8 (1) t18 t19 w _ ?sb ?so A19.out).mono ?_); (case sb => exact (by repeat (first | exact HB.out | apply below_alloc | apply pw_below_drewN | apply below_drew1))); (case so => exact (by (with_reducible repeat (first | apply Kd.S_alloc | apply Kd.S_drewN | apply Kd.S_drew)); exact HO17_t8.out)); rintro e w119 ⟨rfl, ho19_0, hb19, hkp19⟩; refine ⟨_, rfl, ?_⟩) | (go_at_call 15; (with_reducible refine (laws_markWordS.calls k (Go.Proofs.YtnafjfdalapegaaGreatW.GLaw.In lo7 hi7) _ t8 (1) t18 t19 w _ ?sb ?so A19.out).mono ?_); (case sb => exact (by repeat (first | exact HB.out | apply below_alloc | apply pw_below_drewN | apply below_drew1))); (case so => exact (by (with_reducible repeat (first | apply Kd.S_alloc | apply Kd.S_drewN | apply Kd.S_drew)); exact HO17_t8.out)); rintro e w119 ⟨rfl, ho19_0, hb19, hkp19⟩)
 have HO19_t6 := Aside0.mk (Kd.V_kept (by (with_reducible repeat (first | apply Kd.V_alloc | apply Kd.V_drewN | apply Kd.V_drew)); exact HO17_t6.out) hkp19 (Go.Proofs.YtnafjfdalapegaaGreatW.GLaw.apartL (by have := Y4.out; have := X4.out; have := Y5.out; have := X5.out; have := Y6.out; have := X6.out; have := Yb6.out; have := Y7.out; have := X7.out; have := Y8.out; have := X8.out; have := Y9.out; have := X9.out; have := Yb9.out; have := Y13.out; have := X13.out; have := Y16.out; have := X16.out; omega)))
 clear HO17_t6
 have HO19_t9 := Aside0.mk (Kd.S_kept (by (with_reducible repeat (first | apply Kd.S_alloc | apply Kd.S_drewN | apply Kd.S_drew)); exact HO17_t9.out) hkp19 (Go.Proofs.YtnafjfdalapegaaGreatW.GLaw.apartR (by have := Y4.out; have := X4.out; have := Y5.out; have := X5.out; have := Y6.out; have := X6.out; have := Yb6.out; have := Y7.out; have := X7.out; have := Y8.out; have := X8.out; have := Y9.out; have := X9.out; have := Yb9.out; have := Y13.out; have := X13.out; have := Y16.out; have := X16.out; omega)))
 clear HO17_t9
 have HO19_t11 := Aside0.mk (Kd.R_kept (by (with_reducible repeat (first | apply Kd.R_alloc | apply Kd.R_drewN | apply Kd.R_drew)); exact HO17_t11.out) hkp19 (Go.Proofs.YtnafjfdalapegaaGreatW.GLaw.apartR (by have := Y4.out; have := X4.out; have := Y5.out; have := X5.out; have := Y6.out; have := X6.out; have := Yb6.out; have := Y7.out; have := X7.out; have := Y8.out; have := X8.out; have := Y9.out; have := X9.out; have := Yb9.out; have := Y13.out; have := X13.out; have := Y16.out; have := X16.out; omega)))
 clear HO17_t11
 clear HO17_t8
 have hcb6_0_m19 := (World.cell?_of_block (a := ⟨w106.heap.size, 0, none⟩) (hkp19.2 (w106.heap.size) (World.block_lt_of_cell? _ _ hcb6_0_c17) (fun h_ => by unfold Go.Proofs.YtnafjfdalapegaaGreatW.GLaw.In at h_; have := Y4.out; have := X4.out; have := Y5.out; have := X5.out; have := Y6.out; have := X6.out; have := Yb6.out; have := Y7.out; have := X7.out; have := Y8.out; have := X8.out; have := Y9.out; have := X9.out; have := Yb9.out; have := Y13.out; have := X13.out; have := Y16.out; have := X16.out; omega))).trans hcb6_0_c17
 clear hcb6_0_c17
 have hcb6_1_m19 := (World.cell?_of_block (a := ⟨w106.heap.size, 1, none⟩) (hkp19.2 (w106.heap.size) (World.block_lt_of_cell? _ _ hcb6_1_c17) (fun h_ => by unfold Go.Proofs.YtnafjfdalapegaaGreatW.GLaw.In at h_; have := Y4.out; have := X4.out; have := Y5.out; have := X5.out; have := Y6.out; have := X6.out; have := Yb6.out; have := Y7.out; have := X7.out; have := Y8.out; have := X8.out; have := Y9.out; have := X9.out; have := Yb9.out; have := Y13.out; have := X13.out; have := Y16.out; have := X16.out; omega))).trans hcb6_1_c17
 clear hcb6_1_c17
 have hcb9_0_m19 := (World.cell?_of_block (a := ⟨w109.heap.size, 0, none⟩) (hkp19.2 (w109.heap.size) (World.block_lt_of_cell? _ _ hcb9_0_c17) (fun h_ => by unfold Go.Proofs.YtnafjfdalapegaaGreatW.GLaw.In at h_; have := Y4.out; have := X4.out; have := Y5.out; have := X5.out; have := Y6.out; have := X6.out; have := Yb6.out; have := Y7.out; have := X7.out; have := Y8.out; have := X8.out; have := Y9.out; have := X9.out; have := Yb9.out; have := Y13.out; have := X13.out; have := Y16.out; have := X16.out; omega))).trans hcb9_0_c17
 clear hcb9_0_c17
 have hcb9_1_m19 := (World.cell?_of_block (a := ⟨w109.heap.size, 1, none⟩) (hkp19.2 (w109.heap.size) (World.block_lt_of_cell? _ _ hcb9_1_c17) (fun h_ => by unfold Go.Proofs.YtnafjfdalapegaaGreatW.GLaw.In at h_; have := Y4.out; have := X4.out; have := Y5.out; have := X5.out; have := Y6.out; have := X6.out; have := Yb6.out; have := Y7.out; have := X7.out; have := Y8.out; have := X8.out; have := Y9.out; have := X9.out; have := Yb9.out; have := Y13.out; have := X13.out; have := Y16.out; have := X16.out; omega))).trans hcb9_1_c17
 clear hcb9_1_c17
 have Z_ := Aside0.mk (Nat.le_trans (show hi16 ≤ _ from Z0.out) hkp19.1)
 clear Z0 HB
 have Z0 := Z_
 have HB := Aside0.mk hb19
 clear Z_ hb19 hkp19 ho19_0
 try go_wp2_with fail
 first | ((with_reducible refine gate_callee (f := 16) rfl ?_); refine goesL_ _ rfl rfl Tryz.func16 (by kernel_rfl) rfl #[.slice Ao8 t9.length co8, .int .i64 t18] rfl (by (try simp only [List.map_toArray, List.map_cons, List.map_nil]); first | done | rfl | (simp only [List.length_drop, List.length_take]; rfl)) ?_; (with_reducible refine (laws_markIntSS.calls k (Go.Proofs.YtnafjfdalapegaaGreatW.GLaw.In lo8 hi8) _ t9 (t18) t20 t21 w _ ?sb ?so A20.out).mono ?_); (case sb => exact (by repeat (first | exact HB.out | apply below_alloc | apply pw_below_drewN | apply below_drew1))); (case so => exact (by (with_reducible repeat (first | apply Kd.S_alloc | apply Kd.S_drewN | apply Kd.S_drew)); exact HO19_t9.out)); rintro e w120 ⟨rfl, ho20_0, hb20, hkp20⟩; refine ⟨_, rfl, ?_⟩) | (go_at_call 16; (with_reducible refine (laws_markIntSS.calls k (Go.Proofs.YtnafjfdalapegaaGreatW.GLaw.In lo8 hi8) _ t9 (t18) t20 t21 w _ ?sb ?so A20.out).mono ?_); (case sb => exact (by repeat (first | exact HB.out | apply below_alloc | apply pw_below_drewN | apply below_drew1))); (case so => exact (by (with_reducible repeat (first | apply Kd.S_alloc | apply Kd.S_drewN | apply Kd.S_drew)); exact HO19_t9.out)); rintro e w120 ⟨rfl, ho20_0, hb20, hkp20⟩)
 have HO20_t6 := Aside0.mk (Kd.V_kept (by (with_reducible repeat (first | apply Kd.V_alloc | apply Kd.V_drewN | apply Kd.V_drew)); exact HO19_t6.out) hkp20 (Go.Proofs.YtnafjfdalapegaaGreatW.GLaw.apartL (by have := Y4.out; have := X4.out; have := Y5.out; have := X5.out; have := Y6.out; have := X6.out; have := Yb6.out; have := Y7.out; have := X7.out; have := Y8.out; have := X8.out; have := Y9.out; have := X9.out; have := Yb9.out; have := Y13.out; have := X13.out; have := Y16.out; have := X16.out; omega)))
 clear HO19_t6
 have HO20_t11 := Aside0.mk (Kd.R_kept (by (with_reducible repeat (first | apply Kd.R_alloc | apply Kd.R_drewN | apply Kd.R_drew)); exact HO19_t11.out) hkp20 (Go.Proofs.YtnafjfdalapegaaGreatW.GLaw.apartR (by have := Y4.out; have := X4.out; have := Y5.out; have := X5.out; have := Y6.out; have := X6.out; have := Yb6.out; have := Y7.out; have := X7.out; have := Y8.out; have := X8.out; have := Y9.out; have := X9.out; have := Yb9.out; have := Y13.out; have := X13.out; have := Y16.out; have := X16.out; omega)))
 clear HO19_t11
 clear HO19_t9
 have hcb6_0_m20 := (World.cell?_of_block (a := ⟨w106.heap.size, 0, none⟩) (hkp20.2 (w106.heap.size) (World.block_lt_of_cell? _ _ hcb6_0_m19) (fun h_ => by unfold Go.Proofs.YtnafjfdalapegaaGreatW.GLaw.In at h_; have := Y4.out; have := X4.out; have := Y5.out; have := X5.out; have := Y6.out; have := X6.out; have := Yb6.out; have := Y7.out; have := X7.out; have := Y8.out; have := X8.out; have := Y9.out; have := X9.out; have := Yb9.out; have := Y13.out; have := X13.out; have := Y16.out; have := X16.out; omega))).trans hcb6_0_m19
 clear hcb6_0_m19
 have hcb6_1_m20 := (World.cell?_of_block (a := ⟨w106.heap.size, 1, none⟩) (hkp20.2 (w106.heap.size) (World.block_lt_of_cell? _ _ hcb6_1_m19) (fun h_ => by unfold Go.Proofs.YtnafjfdalapegaaGreatW.GLaw.In at h_; have := Y4.out; have := X4.out; have := Y5.out; have := X5.out; have := Y6.out; have := X6.out; have := Yb6.out; have := Y7.out; have := X7.out; have := Y8.out; have := X8.out; have := Y9.out; have := X9.out; have := Yb9.out; have := Y13.out; have := X13.out; have := Y16.out; have := X16.out; omega))).trans hcb6_1_m19
 clear hcb6_1_m19
 have hcb9_0_m20 := (World.cell?_of_block (a := ⟨w109.heap.size, 0, none⟩) (hkp20.2 (w109.heap.size) (World.block_lt_of_cell? _ _ hcb9_0_m19) (fun h_ => by unfold Go.Proofs.YtnafjfdalapegaaGreatW.GLaw.In at h_; have := Y4.out; have := X4.out; have := Y5.out; have := X5.out; have := Y6.out; have := X6.out; have := Yb6.out; have := Y7.out; have := X7.out; have := Y8.out; have := X8.out; have := Y9.out; have := X9.out; have := Yb9.out; have := Y13.out; have := X13.out; have := Y16.out; have := X16.out; omega))).trans hcb9_0_m19
 clear hcb9_0_m19
 have hcb9_1_m20 := (World.cell?_of_block (a := ⟨w109.heap.size, 1, none⟩) (hkp20.2 (w109.heap.size) (World.block_lt_of_cell? _ _ hcb9_1_m19) (fun h_ => by unfold Go.Proofs.YtnafjfdalapegaaGreatW.GLaw.In at h_; have := Y4.out; have := X4.out; have := Y5.out; have := X5.out; have := Y6.out; have := X6.out; have := Yb6.out; have := Y7.out; have := X7.out; have := Y8.out; have := X8.out; have := Y9.out; have := X9.out; have := Yb9.out; have := Y13.out; have := X13.out; have := Y16.out; have := X16.out; omega))).trans hcb9_1_m19
 clear hcb9_1_m19
 have Z_ := Aside0.mk (Nat.le_trans (show hi16 ≤ _ from Z0.out) hkp20.1)
 clear Z0 HB
 have Z0 := Z_
 have HB := Aside0.mk hb20
 clear Z_ hb20 hkp20 ho20_0
 try go_wp2_with fail
 first | ((with_reducible refine gate_callee (f := 12) rfl ?_); refine goesL_ _ rfl rfl Tryz.func12 (by kernel_rfl) rfl #[.agg #[.int .i64 t10, .slice Ao9 t11.length co9], .agg #[.int .i64 t5, .slice Ao6 t6.length co6]] rfl (by (try simp only [List.map_toArray, List.map_cons, List.map_nil]); first | done | rfl | (simp only [List.length_drop, List.length_take]; rfl)) ?_; (with_reducible refine (laws_eqQuestion.calls k (t10) _ _ t11 (t5) _ _ t6 true _ ?s0 ?s1 ?s2 ?s3 A22.out).mono ?_); (case s0 => exact (by repeat (first | exact (Kd.R_reads' HO20_t11.out).2.2 | (with_reducible refine Kd.C_alloc ?_ _) | (with_reducible refine Kd.C_drewN ?_ _) | (with_reducible refine Kd.C_drew ?_)))); (case s1 => exact (by exact (Kd.R_reads' HO20_t11.out).2.1)); (case s2 => exact (by repeat (first | exact (Kd.V_reads' HO20_t6.out).2.2 | (with_reducible refine Kd.C_alloc ?_ _) | (with_reducible refine Kd.C_drewN ?_ _) | (with_reducible refine Kd.C_drew ?_)))); (case s3 => exact (by exact (Kd.V_reads' HO20_t6.out).2.1)); rintro e w122 ⟨rfl, hb22⟩; refine ⟨_, rfl, ?_⟩) | (go_at_call 12; (with_reducible refine (laws_eqQuestion.calls k (t10) _ _ t11 (t5) _ _ t6 true _ ?s0 ?s1 ?s2 ?s3 A22.out).mono ?_); (case s0 => exact (by repeat (first | exact (Kd.R_reads' HO20_t11.out).2.2 | (with_reducible refine Kd.C_alloc ?_ _) | (with_reducible refine Kd.C_drewN ?_ _) | (with_reducible refine Kd.C_drew ?_)))); (case s1 => exact (by exact (Kd.R_reads' HO20_t11.out).2.1)); (case s2 => exact (by repeat (first | exact (Kd.V_reads' HO20_t6.out).2.2 | (with_reducible refine Kd.C_alloc ?_ _) | (with_reducible refine Kd.C_drewN ?_ _) | (with_reducible refine Kd.C_drew ?_)))); (case s3 => exact (by exact (Kd.V_reads' HO20_t6.out).2.1)); rintro e w122 ⟨rfl, hb22⟩)
 have HO22_t6 := Aside0.mk (Kd.V_below (by (with_reducible repeat (first | apply Kd.V_alloc | apply Kd.V_drewN | apply Kd.V_drew)); exact HO20_t6.out) hb22)
 clear HO20_t6
 have HO22_t11 := Aside0.mk (Kd.R_below (by (with_reducible repeat (first | apply Kd.R_alloc | apply Kd.R_drewN | apply Kd.R_drew)); exact HO20_t11.out) hb22)
 clear HO20_t11
 have Z_ := Aside0.mk (Nat.le_trans (show hi16 ≤ _ from Z0.out) hb22.size)
 clear Z0
 have Z0 := Z_
 clear Z_
 have hcb6_0_c22 := (hb22.cell (p := ⟨w106.heap.size, 0, none⟩) (World.block_lt_of_cell? _ _ hcb6_0_m20)).trans hcb6_0_m20
 clear hcb6_0_m20
 have hcb6_1_c22 := (hb22.cell (p := ⟨w106.heap.size, 1, none⟩) (World.block_lt_of_cell? _ _ hcb6_1_m20)).trans hcb6_1_m20
 clear hcb6_1_m20
 have hcb9_0_c22 := (hb22.cell (p := ⟨w109.heap.size, 0, none⟩) (World.block_lt_of_cell? _ _ hcb9_0_m20)).trans hcb9_0_m20
 clear hcb9_0_m20
 have hcb9_1_c22 := (hb22.cell (p := ⟨w109.heap.size, 1, none⟩) (World.block_lt_of_cell? _ _ hcb9_1_m20)).trans hcb9_1_m20
 clear hcb9_1_m20
 have B_ := Aside0.mk (below_step (by repeat (first | exact HB.out | apply below_alloc | apply pw_below_drewN | apply below_drew1)) hb22)
 clear HB
 have HB := B_
 clear B_ hb22
 try go_wp2_with fail
 first | ((with_reducible refine gate_callee (f := 17) rfl ?_); refine goesL_ _ rfl rfl Tryz.func17 (by kernel_rfl) rfl #[.agg #[.int .i64 t10, .slice Ao9 t11.length co9], .int .i64 1] rfl (by (try simp only [List.map_toArray, List.map_cons, List.map_nil]); first | done | rfl | (simp only [List.length_drop, List.length_take]; rfl)) ?_; (with_reducible refine (laws_markQuestion.calls k (t10) (Go.Proofs.YtnafjfdalapegaaGreatW.GLaw.In lo9 hi9) _ t11 (1) t23 t24 w _ ?sb ?so A25.out).mono ?_); (case sb => exact (by repeat (first | exact HB.out | apply below_alloc | apply pw_below_drewN | apply below_drew1))); (case so => exact (by (with_reducible repeat (first | apply Kd.R_alloc | apply Kd.R_drewN | apply Kd.R_drew)); exact HO22_t11.out)); rintro e w125 ⟨rfl, ho25_0, hb25, hkp25⟩; refine ⟨_, rfl, ?_⟩) | (go_at_call 17; (with_reducible refine (laws_markQuestion.calls k (t10) (Go.Proofs.YtnafjfdalapegaaGreatW.GLaw.In lo9 hi9) _ t11 (1) t23 t24 w _ ?sb ?so A25.out).mono ?_); (case sb => exact (by repeat (first | exact HB.out | apply below_alloc | apply pw_below_drewN | apply below_drew1))); (case so => exact (by (with_reducible repeat (first | apply Kd.R_alloc | apply Kd.R_drewN | apply Kd.R_drew)); exact HO22_t11.out)); rintro e w125 ⟨rfl, ho25_0, hb25, hkp25⟩)
 have HO25_t6 := Aside0.mk (Kd.V_kept (by (with_reducible repeat (first | apply Kd.V_alloc | apply Kd.V_drewN | apply Kd.V_drew)); exact HO22_t6.out) hkp25 (Go.Proofs.YtnafjfdalapegaaGreatW.GLaw.apartL (by have := Y4.out; have := X4.out; have := Y5.out; have := X5.out; have := Y6.out; have := X6.out; have := Yb6.out; have := Y7.out; have := X7.out; have := Y8.out; have := X8.out; have := Y9.out; have := X9.out; have := Yb9.out; have := Y13.out; have := X13.out; have := Y16.out; have := X16.out; omega)))
 clear HO22_t6
 clear HO22_t11
 have HO25_t24 := Aside0.mk (Kd.R_mono ho25_0 (fun _ _ => trivial : ∀ k_, _ → True))
 have hcb6_0_m25 := (World.cell?_of_block (a := ⟨w106.heap.size, 0, none⟩) (hkp25.2 (w106.heap.size) (World.block_lt_of_cell? _ _ hcb6_0_c22) (fun h_ => by unfold Go.Proofs.YtnafjfdalapegaaGreatW.GLaw.In at h_; have := Y4.out; have := X4.out; have := Y5.out; have := X5.out; have := Y6.out; have := X6.out; have := Yb6.out; have := Y7.out; have := X7.out; have := Y8.out; have := X8.out; have := Y9.out; have := X9.out; have := Yb9.out; have := Y13.out; have := X13.out; have := Y16.out; have := X16.out; omega))).trans hcb6_0_c22
 clear hcb6_0_c22
 have hcb6_1_m25 := (World.cell?_of_block (a := ⟨w106.heap.size, 1, none⟩) (hkp25.2 (w106.heap.size) (World.block_lt_of_cell? _ _ hcb6_1_c22) (fun h_ => by unfold Go.Proofs.YtnafjfdalapegaaGreatW.GLaw.In at h_; have := Y4.out; have := X4.out; have := Y5.out; have := X5.out; have := Y6.out; have := X6.out; have := Yb6.out; have := Y7.out; have := X7.out; have := Y8.out; have := X8.out; have := Y9.out; have := X9.out; have := Yb9.out; have := Y13.out; have := X13.out; have := Y16.out; have := X16.out; omega))).trans hcb6_1_c22
 clear hcb6_1_c22
 have hcb9_0_m25 := (World.cell?_of_block (a := ⟨w109.heap.size, 0, none⟩) (hkp25.2 (w109.heap.size) (World.block_lt_of_cell? _ _ hcb9_0_c22) (fun h_ => by unfold Go.Proofs.YtnafjfdalapegaaGreatW.GLaw.In at h_; have := Y4.out; have := X4.out; have := Y5.out; have := X5.out; have := Y6.out; have := X6.out; have := Yb6.out; have := Y7.out; have := X7.out; have := Y8.out; have := X8.out; have := Y9.out; have := X9.out; have := Yb9.out; have := Y13.out; have := X13.out; have := Y16.out; have := X16.out; omega))).trans hcb9_0_c22
 clear hcb9_0_c22
 have hcb9_1_m25 := (World.cell?_of_block (a := ⟨w109.heap.size, 1, none⟩) (hkp25.2 (w109.heap.size) (World.block_lt_of_cell? _ _ hcb9_1_c22) (fun h_ => by unfold Go.Proofs.YtnafjfdalapegaaGreatW.GLaw.In at h_; have := Y4.out; have := X4.out; have := Y5.out; have := X5.out; have := Y6.out; have := X6.out; have := Yb6.out; have := Y7.out; have := X7.out; have := Y8.out; have := X8.out; have := Y9.out; have := X9.out; have := Yb9.out; have := Y13.out; have := X13.out; have := Y16.out; have := X16.out; omega))).trans hcb9_1_c22
 clear hcb9_1_c22
 have Z_ := Aside0.mk (Nat.le_trans (show hi16 ≤ _ from Z0.out) hkp25.1)
 clear Z0 HB
 have Z0 := Z_
 have HB := Aside0.mk hb25
 clear Z_ hb25 hkp25 ho25_0
 try go_wp2_with fail
 first | ((with_reducible refine gate_callee (f := 18) rfl ?_); refine goesL_ _ rfl rfl Tryz.func18 (by kernel_rfl) rfl #[.agg #[.int .i64 t10, .slice Ao9 t24.length co9], .int .i64 1] rfl (by (try simp only [List.map_toArray, List.map_cons, List.map_nil]); first | done | (rw [show t24.length = t11.length from (Kd.R_reads' HO25_t24.out).1.symm] <;> rfl) | rfl | (simp only [List.length_drop, List.length_take]; rfl)) ?_; (with_reducible refine (laws_heldQuestion.calls k (t10) _ _ t24 (1) t25 _ ?s0 ?s1 A26.out).mono ?_); (case s0 => exact (by repeat (first | exact (Kd.R_reads' HO25_t24.out).2.2 | (with_reducible refine Kd.C_alloc ?_ _) | (with_reducible refine Kd.C_drewN ?_ _) | (with_reducible refine Kd.C_drew ?_)))); (case s1 => exact (by rw [show t24.length = t11.length from (Kd.R_reads' HO25_t24.out).1.symm]; exact (Kd.R_reads' HO25_t24.out).2.1)); rintro e w126 ⟨rfl, hb26⟩; refine ⟨_, rfl, ?_⟩) | (go_at_call 18; refine calls_of_args (args' := #[.agg #[.int .i64 t10, .slice Ao9 t24.length co9], .int .i64 1]) (by first | (rw [show t24.length = t11.length from (Kd.R_reads' HO25_t24.out).1.symm] <;> rfl) | rfl) ?_; (with_reducible refine (laws_heldQuestion.calls k (t10) _ _ t24 (1) t25 _ ?s0 ?s1 A26.out).mono ?_); (case s0 => exact (by repeat (first | exact (Kd.R_reads' HO25_t24.out).2.2 | (with_reducible refine Kd.C_alloc ?_ _) | (with_reducible refine Kd.C_drewN ?_ _) | (with_reducible refine Kd.C_drew ?_)))); (case s1 => exact (by rw [show t24.length = t11.length from (Kd.R_reads' HO25_t24.out).1.symm]; exact (Kd.R_reads' HO25_t24.out).2.1)); rintro e w126 ⟨rfl, hb26⟩)
 have HO26_t6 := Aside0.mk (Kd.V_below (by (with_reducible repeat (first | apply Kd.V_alloc | apply Kd.V_drewN | apply Kd.V_drew)); exact HO25_t6.out) hb26)
 clear HO25_t6
 have HO26_t24 := Aside0.mk (Kd.R_below (by (with_reducible repeat (first | apply Kd.R_alloc | apply Kd.R_drewN | apply Kd.R_drew)); exact HO25_t24.out) hb26)
 clear HO25_t24
 have Z_ := Aside0.mk (Nat.le_trans (show hi16 ≤ _ from Z0.out) hb26.size)
 clear Z0
 have Z0 := Z_
 clear Z_
 have hcb6_0_c26 := (hb26.cell (p := ⟨w106.heap.size, 0, none⟩) (World.block_lt_of_cell? _ _ hcb6_0_m25)).trans hcb6_0_m25
 clear hcb6_0_m25
 have hcb6_1_c26 := (hb26.cell (p := ⟨w106.heap.size, 1, none⟩) (World.block_lt_of_cell? _ _ hcb6_1_m25)).trans hcb6_1_m25
 clear hcb6_1_m25
 have hcb9_0_c26 := (hb26.cell (p := ⟨w109.heap.size, 0, none⟩) (World.block_lt_of_cell? _ _ hcb9_0_m25)).trans hcb9_0_m25
 clear hcb9_0_m25
 have hcb9_1_c26 := (hb26.cell (p := ⟨w109.heap.size, 1, none⟩) (World.block_lt_of_cell? _ _ hcb9_1_m25)).trans hcb9_1_m25
 clear hcb9_1_m25
 have B_ := Aside0.mk (below_step (by repeat (first | exact HB.out | apply below_alloc | apply pw_below_drewN | apply below_drew1)) hb26)
 clear HB
 have HB := B_
 clear B_ hb26
 try go_wp2_with fail
 first | ((with_reducible refine gate_callee (f := 9) rfl ?_); refine goesL_ _ rfl rfl Tryz.func9 (by kernel_rfl) rfl #[.slice A0 l0.length c0] rfl (by (try simp only [List.map_toArray, List.map_cons, List.map_nil]); first | done | rfl | (simp only [List.length_drop, List.length_take]; rfl)) ?_; (with_reducible refine (laws_toWordS.calls k _ _ l0 t26 _ ?s0 ?s1 A29.out).mono ?_); (case s0 => exact (by repeat (first | exact (Kd.C_below HR0.out HB.out) | (with_reducible refine Kd.C_alloc ?_ _) | (with_reducible refine Kd.C_drewN ?_ _) | (with_reducible refine Kd.C_drew ?_)))); (case s1 => exact HC0.out); rintro e w129 ⟨v29_0, rfl, ho29_0, hb29⟩; refine ⟨_, rfl, ?_⟩) | (go_at_call 9; (with_reducible refine (laws_toWordS.calls k _ _ l0 t26 _ ?s0 ?s1 A29.out).mono ?_); (case s0 => exact (by repeat (first | exact (Kd.C_below HR0.out HB.out) | (with_reducible refine Kd.C_alloc ?_ _) | (with_reducible refine Kd.C_drewN ?_ _) | (with_reducible refine Kd.C_drew ?_)))); (case s1 => exact HC0.out); rintro e w129 ⟨v29_0, rfl, ho29_0, hb29⟩)
 have HO29_t6 := Aside0.mk (Kd.V_below (by (with_reducible repeat (first | apply Kd.V_alloc | apply Kd.V_drewN | apply Kd.V_drew)); exact HO26_t6.out) hb29)
 clear HO26_t6
 have HO29_t24 := Aside0.mk (Kd.R_below (by (with_reducible repeat (first | apply Kd.R_alloc | apply Kd.R_drewN | apply Kd.R_drew)); exact HO26_t24.out) hb29)
 clear HO26_t24
 obtain ⟨lo29, hi29, z29, e29, f29, g29⟩ := Go.Proofs.YtnafjfdalapegaaGreatW.GLaw.madeS (w := w) (show hi16 ≤ _ from Z0.out) (by repeat (first | exact HB.out | apply below_alloc | apply pw_below_drewN | apply below_drew1)) ho29_0
 have Y29 := Aside0.mk z29
 have X29 := Aside0.mk (show lo29 ≤ hi29 from by rw [e29, f29]; exact hb29.size)
 clear Z0
 have Z0 := Aside0.mk (show hi29 ≤ w129.heap.size from by rw [f29]; exact Nat.le_refl _)
 obtain ⟨Ao29, co29, eo29⟩ := Kd.S_slice g29
 subst eo29
 have HO29_t26 := Aside0.mk g29
 clear z29 e29 f29 g29 ho29_0
 have hcb6_0_c29 := (hb29.cell (p := ⟨w106.heap.size, 0, none⟩) (World.block_lt_of_cell? _ _ hcb6_0_c26)).trans hcb6_0_c26
 clear hcb6_0_c26
 have hcb6_1_c29 := (hb29.cell (p := ⟨w106.heap.size, 1, none⟩) (World.block_lt_of_cell? _ _ hcb6_1_c26)).trans hcb6_1_c26
 clear hcb6_1_c26
 have hcb9_0_c29 := (hb29.cell (p := ⟨w109.heap.size, 0, none⟩) (World.block_lt_of_cell? _ _ hcb9_0_c26)).trans hcb9_0_c26
 clear hcb9_0_c26
 have hcb9_1_c29 := (hb29.cell (p := ⟨w109.heap.size, 1, none⟩) (World.block_lt_of_cell? _ _ hcb9_1_c26)).trans hcb9_1_c26
 clear hcb9_1_c26
 have B_ := Aside0.mk (below_step (by repeat (first | exact HB.out | apply below_alloc | apply pw_below_drewN | apply below_drew1)) hb29)
 clear HB
 have HB := B_
 clear B_ hb29
 try go_wp2_with fail
 first | ((with_reducible refine gate_callee (f := 10) rfl ?_); refine goesL_ _ rfl rfl Tryz.func10 (by kernel_rfl) rfl #[.slice A1 l1.length c1] rfl (by (try simp only [List.map_toArray, List.map_cons, List.map_nil]); first | done | rfl | (simp only [List.length_drop, List.length_take]; rfl)) ?_; (with_reducible refine (laws_toIntSS.calls k _ _ l1 t27 _ ?s0 ?s1 A30.out).mono ?_); (case s0 => exact (by repeat (first | exact (Kd.C_below HR1.out HB.out) | (with_reducible refine Kd.C_alloc ?_ _) | (with_reducible refine Kd.C_drewN ?_ _) | (with_reducible refine Kd.C_drew ?_)))); (case s1 => exact HC1.out); rintro e w130 ⟨v30_0, rfl, ho30_0, hb30⟩; refine ⟨_, rfl, ?_⟩) | (go_at_call 10; (with_reducible refine (laws_toIntSS.calls k _ _ l1 t27 _ ?s0 ?s1 A30.out).mono ?_); (case s0 => exact (by repeat (first | exact (Kd.C_below HR1.out HB.out) | (with_reducible refine Kd.C_alloc ?_ _) | (with_reducible refine Kd.C_drewN ?_ _) | (with_reducible refine Kd.C_drew ?_)))); (case s1 => exact HC1.out); rintro e w130 ⟨v30_0, rfl, ho30_0, hb30⟩)
 have HO30_t6 := Aside0.mk (Kd.V_below (by (with_reducible repeat (first | apply Kd.V_alloc | apply Kd.V_drewN | apply Kd.V_drew)); exact HO29_t6.out) hb30)
 clear HO29_t6
 have HO30_t24 := Aside0.mk (Kd.R_below (by (with_reducible repeat (first | apply Kd.R_alloc | apply Kd.R_drewN | apply Kd.R_drew)); exact HO29_t24.out) hb30)
 clear HO29_t24
 have HO30_t26 := Aside0.mk (Kd.S_below (by (with_reducible repeat (first | apply Kd.S_alloc | apply Kd.S_drewN | apply Kd.S_drew)); exact HO29_t26.out) hb30)
 clear HO29_t26
 obtain ⟨lo30, hi30, z30, e30, f30, g30⟩ := Go.Proofs.YtnafjfdalapegaaGreatW.GLaw.madeS (w := w) (show hi29 ≤ _ from Z0.out) (by repeat (first | exact HB.out | apply below_alloc | apply pw_below_drewN | apply below_drew1)) ho30_0
 have Y30 := Aside0.mk z30
 have X30 := Aside0.mk (show lo30 ≤ hi30 from by rw [e30, f30]; exact hb30.size)
 clear Z0
 have Z0 := Aside0.mk (show hi30 ≤ w130.heap.size from by rw [f30]; exact Nat.le_refl _)
 obtain ⟨Ao30, co30, eo30⟩ := Kd.S_slice g30
 subst eo30
 have HO30_t27 := Aside0.mk g30
 clear z30 e30 f30 g30 ho30_0
 have hcb6_0_c30 := (hb30.cell (p := ⟨w106.heap.size, 0, none⟩) (World.block_lt_of_cell? _ _ hcb6_0_c29)).trans hcb6_0_c29
 clear hcb6_0_c29
 have hcb6_1_c30 := (hb30.cell (p := ⟨w106.heap.size, 1, none⟩) (World.block_lt_of_cell? _ _ hcb6_1_c29)).trans hcb6_1_c29
 clear hcb6_1_c29
 have hcb9_0_c30 := (hb30.cell (p := ⟨w109.heap.size, 0, none⟩) (World.block_lt_of_cell? _ _ hcb9_0_c29)).trans hcb9_0_c29
 clear hcb9_0_c29
 have hcb9_1_c30 := (hb30.cell (p := ⟨w109.heap.size, 1, none⟩) (World.block_lt_of_cell? _ _ hcb9_1_c29)).trans hcb9_1_c29
 clear hcb9_1_c29
 have B_ := Aside0.mk (below_step (by repeat (first | exact HB.out | apply below_alloc | apply pw_below_drewN | apply below_drew1)) hb30)
 clear HB
 have HB := B_
 clear B_ hb30
 try go_wp2_with fail
 first | ((with_reducible refine gate_callee (f := 11) rfl ?_); refine goesL_ _ rfl rfl Tryz.func11 (by kernel_rfl) rfl #[.slice Ao29 t26.length co29, .slice Ao30 t27.length co30, .int .i64 a2, .int .i64 a3, .int .i64 a4] rfl (by (try simp only [List.map_toArray, List.map_cons, List.map_nil]); first | done | rfl | (simp only [List.length_drop, List.length_take]; rfl)) ?_; (with_reducible refine (impl_MakeQuestion.calls k _ _ t26 _ _ t27 (a2) (a3) (a4) t28 t29 t30 _ ?s0 ?s1 ?s2 ?s3 A31.out).mono ?_); (case s0 => exact (by repeat (first | exact (Kd.S_reads' HO30_t26.out).2.2 | (with_reducible refine Kd.C_alloc ?_ _) | (with_reducible refine Kd.C_drewN ?_ _) | (with_reducible refine Kd.C_drew ?_)))); (case s1 => exact (by exact (Kd.S_reads' HO30_t26.out).2.1)); (case s2 => exact (by repeat (first | exact (Kd.S_reads' HO30_t27.out).2.2 | (with_reducible refine Kd.C_alloc ?_ _) | (with_reducible refine Kd.C_drewN ?_ _) | (with_reducible refine Kd.C_drew ?_)))); (case s3 => exact (by exact (Kd.S_reads' HO30_t27.out).2.1)); rintro e w131 ⟨v31_0, rfl, ho31_0, hb31⟩; refine ⟨_, rfl, ?_⟩) | (go_at_call 11; (with_reducible refine (impl_MakeQuestion.calls k _ _ t26 _ _ t27 (a2) (a3) (a4) t28 t29 t30 _ ?s0 ?s1 ?s2 ?s3 A31.out).mono ?_); (case s0 => exact (by repeat (first | exact (Kd.S_reads' HO30_t26.out).2.2 | (with_reducible refine Kd.C_alloc ?_ _) | (with_reducible refine Kd.C_drewN ?_ _) | (with_reducible refine Kd.C_drew ?_)))); (case s1 => exact (by exact (Kd.S_reads' HO30_t26.out).2.1)); (case s2 => exact (by repeat (first | exact (Kd.S_reads' HO30_t27.out).2.2 | (with_reducible refine Kd.C_alloc ?_ _) | (with_reducible refine Kd.C_drewN ?_ _) | (with_reducible refine Kd.C_drew ?_)))); (case s3 => exact (by exact (Kd.S_reads' HO30_t27.out).2.1)); rintro e w131 ⟨v31_0, rfl, ho31_0, hb31⟩)
 have HO31_t6 := Aside0.mk (Kd.V_below (by (with_reducible repeat (first | apply Kd.V_alloc | apply Kd.V_drewN | apply Kd.V_drew)); exact HO30_t6.out) hb31)
 clear HO30_t6
 have HO31_t24 := Aside0.mk (Kd.R_below (by (with_reducible repeat (first | apply Kd.R_alloc | apply Kd.R_drewN | apply Kd.R_drew)); exact HO30_t24.out) hb31)
 clear HO30_t24
 clear HO30_t26
 clear HO30_t27
 obtain ⟨lo31, hi31, z31, e31, f31, g31⟩ := Go.Proofs.YtnafjfdalapegaaGreatW.GLaw.madeR (w := w) (show hi30 ≤ _ from Z0.out) (by repeat (first | exact HB.out | apply below_alloc | apply pw_below_drewN | apply below_drew1)) ho31_0
 have Y31 := Aside0.mk z31
 have X31 := Aside0.mk (show lo31 ≤ hi31 from by rw [e31, f31]; exact hb31.size)
 clear Z0
 have Z0 := Aside0.mk (show hi31 ≤ w131.heap.size from by rw [f31]; exact Nat.le_refl _)
 obtain ⟨Ao31, co31, eo31⟩ := Kd.R_slice g31
 subst eo31
 have HO31_t29 := Aside0.mk g31
 clear z31 e31 f31 g31 ho31_0
 have hcb6_0_c31 := (hb31.cell (p := ⟨w106.heap.size, 0, none⟩) (World.block_lt_of_cell? _ _ hcb6_0_c30)).trans hcb6_0_c30
 clear hcb6_0_c30
 have hcb6_1_c31 := (hb31.cell (p := ⟨w106.heap.size, 1, none⟩) (World.block_lt_of_cell? _ _ hcb6_1_c30)).trans hcb6_1_c30
 clear hcb6_1_c30
 have hcb9_0_c31 := (hb31.cell (p := ⟨w109.heap.size, 0, none⟩) (World.block_lt_of_cell? _ _ hcb9_0_c30)).trans hcb9_0_c30
 clear hcb9_0_c30
 have hcb9_1_c31 := (hb31.cell (p := ⟨w109.heap.size, 1, none⟩) (World.block_lt_of_cell? _ _ hcb9_1_c30)).trans hcb9_1_c30
 clear hcb9_1_c30
 have B_ := Aside0.mk (below_step (by repeat (first | exact HB.out | apply below_alloc | apply pw_below_drewN | apply below_drew1)) hb31)
 clear HB
 have HB := B_
 clear B_ hb31
 have hbx_ := (below_alloc (Below.refl w131.heap.size w131) (.cells #[.int .i64 t28, .slice Ao31 t29.length co31] 28))
 have hsz_ : w131.heap.size + 1 ≤ (w131.alloc (.cells #[.int .i64 t28, .slice Ao31 t29.length co31] 28)).heap.size := by simp
 have hcb31_0_0 : (w131.alloc (.cells #[.int .i64 t28, .slice Ao31 t29.length co31] 28)).cell? ⟨w131.heap.size, 0, none⟩ = some (.int .i64 t28) := by simp
 have hcb31_1_0 : (w131.alloc (.cells #[.int .i64 t28, .slice Ao31 t29.length co31] 28)).cell? ⟨w131.heap.size, 1, none⟩ = some (.slice Ao31 t29.length co31) := by simp
 have hcb6_0_b31 := (hbx_.cell (p := ⟨w106.heap.size, 0, none⟩) (World.block_lt_of_cell? _ _ hcb6_0_c31)).trans hcb6_0_c31
 clear hcb6_0_c31
 have hcb6_1_b31 := (hbx_.cell (p := ⟨w106.heap.size, 1, none⟩) (World.block_lt_of_cell? _ _ hcb6_1_c31)).trans hcb6_1_c31
 clear hcb6_1_c31
 have hcb9_0_b31 := (hbx_.cell (p := ⟨w109.heap.size, 0, none⟩) (World.block_lt_of_cell? _ _ hcb9_0_c31)).trans hcb9_0_c31
 clear hcb9_0_c31
 have hcb9_1_b31 := (hbx_.cell (p := ⟨w109.heap.size, 1, none⟩) (World.block_lt_of_cell? _ _ hcb9_1_c31)).trans hcb9_1_c31
 clear hcb9_1_c31
 try go_wp2_with fail
 generalize (w131.alloc (.cells #[.int .i64 t28, .slice Ao31 t29.length co31] 28)) = wb31 at hbx_ hsz_ hcb31_0_0 hcb31_1_0 hcb6_0_b31 hcb6_1_b31 hcb9_0_b31 hcb9_1_b31 ⊢
 have HOb31_t6 := Aside0.mk (Kd.V_below (by (with_reducible repeat (first | apply Kd.V_alloc | apply Kd.V_drewN | apply Kd.V_drew)); exact HO31_t6.out) hbx_)
 clear HO31_t6
 have HOb31_t24 := Aside0.mk (Kd.R_below (by (with_reducible repeat (first | apply Kd.R_alloc | apply Kd.R_drewN | apply Kd.R_drew)); exact HO31_t24.out) hbx_)
 clear HO31_t24
 have HOb31_t29 := Aside0.mk (Kd.R_below (by (with_reducible repeat (first | apply Kd.R_alloc | apply Kd.R_drewN | apply Kd.R_drew)); exact HO31_t29.out) hbx_)
 clear HO31_t29
 have B_ := Aside0.mk (below_step (by repeat (first | exact HB.out | apply below_alloc | apply pw_below_drewN | apply below_drew1)) hbx_)
 clear HB
 have HB := B_
 have Yb31 := Aside0.mk (show hi31 ≤ w131.heap.size from Z0.out)
 clear Z0
 have Z0 := Aside0.mk hsz_
 clear B_ hbx_ hsz_
 try go_wp2_with fail
 first | ((with_reducible refine gate_callee (f := 12) rfl ?_); refine goesL_ _ rfl rfl Tryz.func12 (by kernel_rfl) rfl #[.agg #[.int .i64 t28, .slice Ao31 t29.length co31], .agg #[.int .i64 t5, .slice Ao6 t6.length co6]] rfl (by (try simp only [List.map_toArray, List.map_cons, List.map_nil]); first | done | rfl | (simp only [List.length_drop, List.length_take]; rfl)) ?_; (with_reducible refine (laws_eqQuestion.calls k (t28) _ _ t29 (t5) _ _ t6 true _ ?s0 ?s1 ?s2 ?s3 A32.out).mono ?_); (case s0 => exact (by repeat (first | exact (Kd.R_reads' HOb31_t29.out).2.2 | (with_reducible refine Kd.C_alloc ?_ _) | (with_reducible refine Kd.C_drewN ?_ _) | (with_reducible refine Kd.C_drew ?_)))); (case s1 => exact (by exact (Kd.R_reads' HOb31_t29.out).2.1)); (case s2 => exact (by repeat (first | exact (Kd.V_reads' HOb31_t6.out).2.2 | (with_reducible refine Kd.C_alloc ?_ _) | (with_reducible refine Kd.C_drewN ?_ _) | (with_reducible refine Kd.C_drew ?_)))); (case s3 => exact (by exact (Kd.V_reads' HOb31_t6.out).2.1)); rintro e w132 ⟨rfl, hb32⟩; refine ⟨_, rfl, ?_⟩) | (go_at_call 12; (with_reducible refine (laws_eqQuestion.calls k (t28) _ _ t29 (t5) _ _ t6 true _ ?s0 ?s1 ?s2 ?s3 A32.out).mono ?_); (case s0 => exact (by repeat (first | exact (Kd.R_reads' HOb31_t29.out).2.2 | (with_reducible refine Kd.C_alloc ?_ _) | (with_reducible refine Kd.C_drewN ?_ _) | (with_reducible refine Kd.C_drew ?_)))); (case s1 => exact (by exact (Kd.R_reads' HOb31_t29.out).2.1)); (case s2 => exact (by repeat (first | exact (Kd.V_reads' HOb31_t6.out).2.2 | (with_reducible refine Kd.C_alloc ?_ _) | (with_reducible refine Kd.C_drewN ?_ _) | (with_reducible refine Kd.C_drew ?_)))); (case s3 => exact (by exact (Kd.V_reads' HOb31_t6.out).2.1)); rintro e w132 ⟨rfl, hb32⟩)
 clear HOb31_t6
 have HO32_t24 := Aside0.mk (Kd.R_below (by (with_reducible repeat (first | apply Kd.R_alloc | apply Kd.R_drewN | apply Kd.R_drew)); exact HOb31_t24.out) hb32)
 clear HOb31_t24
 clear HOb31_t29
 have Z_ := Aside0.mk (Nat.le_trans (show (w131.heap.size + 1) ≤ _ from Z0.out) hb32.size)
 clear Z0
 have Z0 := Z_
 clear Z_
 have hcb6_0_c32 := (hb32.cell (p := ⟨w106.heap.size, 0, none⟩) (World.block_lt_of_cell? _ _ hcb6_0_b31)).trans hcb6_0_b31
 clear hcb6_0_b31
 have hcb6_1_c32 := (hb32.cell (p := ⟨w106.heap.size, 1, none⟩) (World.block_lt_of_cell? _ _ hcb6_1_b31)).trans hcb6_1_b31
 clear hcb6_1_b31
 have hcb9_0_c32 := (hb32.cell (p := ⟨w109.heap.size, 0, none⟩) (World.block_lt_of_cell? _ _ hcb9_0_b31)).trans hcb9_0_b31
 clear hcb9_0_b31
 have hcb9_1_c32 := (hb32.cell (p := ⟨w109.heap.size, 1, none⟩) (World.block_lt_of_cell? _ _ hcb9_1_b31)).trans hcb9_1_b31
 clear hcb9_1_b31
 have hcb31_0_c32 := (hb32.cell (p := ⟨w131.heap.size, 0, none⟩) (World.block_lt_of_cell? _ _ hcb31_0_0)).trans hcb31_0_0
 clear hcb31_0_0
 have hcb31_1_c32 := (hb32.cell (p := ⟨w131.heap.size, 1, none⟩) (World.block_lt_of_cell? _ _ hcb31_1_0)).trans hcb31_1_0
 clear hcb31_1_0
 have B_ := Aside0.mk (below_step (by repeat (first | exact HB.out | apply below_alloc | apply pw_below_drewN | apply below_drew1)) hb32)
 clear HB
 have HB := B_
 clear B_ hb32
 try go_wp2_with fail
 first | ((with_reducible refine gate_callee (f := 18) rfl ?_); refine goesL_ _ rfl rfl Tryz.func18 (by kernel_rfl) rfl #[.agg #[.int .i64 t10, .slice Ao9 t24.length co9], .int .i64 1] rfl (by (try simp only [List.map_toArray, List.map_cons, List.map_nil]); first | done | (rw [show t24.length = t11.length from (Kd.R_reads' HO32_t24.out).1.symm] <;> rfl) | rfl | (simp only [List.length_drop, List.length_take]; rfl)) ?_; (with_reducible refine (laws_heldQuestion.calls k (t10) _ _ t24 (1) t32 _ ?s0 ?s1 A35.out).mono ?_); (case s0 => exact (by repeat (first | exact (Kd.R_reads' HO32_t24.out).2.2 | (with_reducible refine Kd.C_alloc ?_ _) | (with_reducible refine Kd.C_drewN ?_ _) | (with_reducible refine Kd.C_drew ?_)))); (case s1 => exact (by rw [show t24.length = t11.length from (Kd.R_reads' HO32_t24.out).1.symm]; exact (Kd.R_reads' HO32_t24.out).2.1)); rintro e w135 ⟨rfl, hb35⟩; refine ⟨_, rfl, ?_⟩) | (go_at_call 18; refine calls_of_args (args' := #[.agg #[.int .i64 t10, .slice Ao9 t24.length co9], .int .i64 1]) (by first | (rw [show t24.length = t11.length from (Kd.R_reads' HO32_t24.out).1.symm] <;> rfl) | rfl) ?_; (with_reducible refine (laws_heldQuestion.calls k (t10) _ _ t24 (1) t32 _ ?s0 ?s1 A35.out).mono ?_); (case s0 => exact (by repeat (first | exact (Kd.R_reads' HO32_t24.out).2.2 | (with_reducible refine Kd.C_alloc ?_ _) | (with_reducible refine Kd.C_drewN ?_ _) | (with_reducible refine Kd.C_drew ?_)))); (case s1 => exact (by rw [show t24.length = t11.length from (Kd.R_reads' HO32_t24.out).1.symm]; exact (Kd.R_reads' HO32_t24.out).2.1)); rintro e w135 ⟨rfl, hb35⟩)
 clear HO32_t24
 have Z_ := Aside0.mk (Nat.le_trans (show (w131.heap.size + 1) ≤ _ from Z0.out) hb35.size)
 clear Z0
 have Z0 := Z_
 clear Z_
 have hcb6_0_c35 := (hb35.cell (p := ⟨w106.heap.size, 0, none⟩) (World.block_lt_of_cell? _ _ hcb6_0_c32)).trans hcb6_0_c32
 clear hcb6_0_c32
 have hcb6_1_c35 := (hb35.cell (p := ⟨w106.heap.size, 1, none⟩) (World.block_lt_of_cell? _ _ hcb6_1_c32)).trans hcb6_1_c32
 clear hcb6_1_c32
 have hcb9_0_c35 := (hb35.cell (p := ⟨w109.heap.size, 0, none⟩) (World.block_lt_of_cell? _ _ hcb9_0_c32)).trans hcb9_0_c32
 clear hcb9_0_c32
 have hcb9_1_c35 := (hb35.cell (p := ⟨w109.heap.size, 1, none⟩) (World.block_lt_of_cell? _ _ hcb9_1_c32)).trans hcb9_1_c32
 clear hcb9_1_c32
 have hcb31_0_c35 := (hb35.cell (p := ⟨w131.heap.size, 0, none⟩) (World.block_lt_of_cell? _ _ hcb31_0_c32)).trans hcb31_0_c32
 clear hcb31_0_c32
 have hcb31_1_c35 := (hb35.cell (p := ⟨w131.heap.size, 1, none⟩) (World.block_lt_of_cell? _ _ hcb31_1_c32)).trans hcb31_1_c32
 clear hcb31_1_c32
 have B_ := Aside0.mk (below_step (by repeat (first | exact HB.out | apply below_alloc | apply pw_below_drewN | apply below_drew1)) hb35)
 clear HB
 have HB := B_
 clear B_ hb35
 try go_wp2_with fail
 go_ret
 exact ⟨by first | rfl | (simp [*, errW_none, errW_some] <;> rfl), (by repeat (first | exact HB.out | apply below_alloc | apply pw_below_drewN | apply below_drew1))⟩

/-- The one pure statement of laws_FnExactMakeQuestion. -/
def laws_FnExactMakeQuestion.Pure : Prop := ∀ (l0 : List (S56)) (l1 : List (List Int)) (a2 : Int) (a3 : Int) (a4 : Int), l0.length * 48 ≤ 140737488351232 → (∀ y, y ∈ l0 → B56 y) → l1.length * 24 ≤ 140737488351232 → (∀ y, y ∈ l1 → ((y).length * 8 ≤ 140737488351232 ∧ ∀ z, z ∈ y → (Lit.int .i64 z).wf = true)) → (Lit.int .i64 a2).wf = true → (Lit.int .i64 a3).wf = true → (Lit.int .i64 a4).wf = true → ∃ k, laws_FnExactMakeQuestion.f k l0 l1 a2 a3 a4 = some true
theorem laws_FnExactMakeQuestion.walk (P : laws_FnExactMakeQuestion.Pure) (w : World) (A0 : Option Addr) (c0 : Nat) (l0 : List (S56)) (hr0 : Kd.C k56 w A0 l0.length l0) (hc0 : l0.length ≤ c0) (hx0 : l0.length * 48 ≤ 140737488351232 ∧ ∀ y, y ∈ l0 → B56 y) (A1 : Option Addr) (c1 : Nat) (l1 : List (List Int)) (hr1 : Kd.C (Kd.slice 3 (Kd.int .i64)) w A1 l1.length l1) (hc1 : l1.length ≤ c1) (hx1 : l1.length * 24 ≤ 140737488351232 ∧ ∀ y, y ∈ l1 → ((y).length * 8 ≤ 140737488351232 ∧ ∀ z, z ∈ y → (Lit.int .i64 z).wf = true)) (a2 : Int) (hx2 : (Lit.int .i64 a2).wf = true) (a3 : Int) (hx3 : (Lit.int .i64 a3).wf = true) (a4 : Int) (hx4 : (Lit.int .i64 a4).wf = true) :
  Calls Tryz.prog 3 #[.slice A0 l0.length c0, .slice A1 l1.length c1, .int .i64 a2, .int .i64 a3, .int .i64 a4] w fun e w' => e = .returned (.bool true) ∧ Below w.heap.size w w' := by
 obtain ⟨k, h⟩ := P l0 l1 a2 a3 a4 hx0.1 hx0.2 hx1.1 hx1.2 hx2 hx3 hx4
 refine (laws_FnExactMakeQuestion.calls k A0 c0 l0 A1 c1 l1 a2 a3 a4 true w hr0 hc0 hr1 hc1 h).mono ?_
 rintro e w' ⟨rfl, hd⟩
 exact ⟨rfl, hd⟩

end Go.Proofs.YtnafjfdalapegaaGreat.Q
