-- Written for the seat YtnafjfdalapegaaGreat by a program of this session (wip/tool/gx.py) out of the translation. Lean checks it.
import Derived.Test.YtnafjfdalapegaaGreatQ0
import Derived.Test.YtnafjfdalapegaaGreatQBImplQuestionIsRight
import Derived.Test.YtnafjfdalapegaaGreatQBLawsEqQuestion
import Derived.Test.YtnafjfdalapegaaGreatQBLawsSzIntS
import Derived.Test.YtnafjfdalapegaaGreatQBSpecExFair
import Derived.Test.YtnafjfdalapegaaGreatQBounds
import Derived.Test.YtnafjfdalapegaaGreatGLaw
import Derived.Test.YtnafjfdalapegaaGreatWApart
import Derived.Test.YtnafjfdalapegaaGreatWFoot
import Derived.Test.YtnafjfdalapegaaGreatWKept
import Derived.Test.YtnafjfdalapegaaGreatWShare
import Derived.Test.YtnafjfdalapegaaGreatWRepsOne
namespace Go.Proofs.YtnafjfdalapegaaGreat.Q
open Go.RowKit Go.Proofs.YtnafjfdalapegaaGreatW.PrintWords Go.Proofs.YtnafjfdalapegaaGreatW.PrintLast Go.Proofs.YtnafjfdalapegaaGreatW.PrintMore
attribute [local go_sem] max2_int min2_int max_two min_two max_three min_three max_four min_four   -- for this text's walks alone
set_option linter.unusedVariables false
set_option linter.unusedSimpArgs false

/-! ### laws_FnExactNextLesson: function 5 -/
def laws_FnExactNextLesson.f (k : Nat) (l0 : List (S56)) (l1 : List (List Int)) (a2 : Int) (l3 : List (S69)) (l4 : List Int) (a5 : Int) : Option Bool := (if (l4.length : Int) > 1048576 then some true else ((laws_szWordS.f k l0 1048576).bind fun t1 => (if t1 < 0 then some true else ((laws_szIntSS.f k l1 t1).bind fun t2 => (if t2 < 0 then some true else ((laws_szQuestionS.f k l3 t2).bind fun t3 => (if t3 < 0 then some true else ((laws_toWordS.f k l0).bind fun t4 => ((laws_toIntSS.f k l1).bind fun t5 => ((laws_toQuestionS.f k l3).bind fun t6 => ((laws_toIntS.f k l4).bind fun t7 => ((spec_NextLesson.f k t4 t5 a2 t6 t7 a5).bind fun bt8 => ((laws_toWordS.f k l0).bind fun t10 => ((laws_toIntSS.f k l1).bind fun t11 => ((laws_toQuestionS.f k l3).bind fun t12 => ((laws_toIntS.f k l4).bind fun t13 => ((impl_NextLesson.f k t10 t11 a2 t12 t13 a5).bind fun bt14 => (if bt14.1 = bt8.1 then (if bt14.2 = bt8.2 then ((laws_toWordS.f k l0).bind fun t16 => ((laws_eqWordS.f k t10 t16).bind fun t17 => (if t17 = true then ((laws_toIntSS.f k l1).bind fun t18 => ((laws_eqIntSS.f k t11 t18).bind fun t19 => (if t19 = true then ((laws_toQuestionS.f k l3).bind fun t20 => ((laws_eqQuestionS.f k t12 t20).bind fun t21 => (if t21 = true then ((laws_toIntS.f k l4).bind fun t22 => ((laws_eqIntS.f k t13 t22).bind fun t23 => (if t23 = true then some true else none))) else none))) else none))) else none))) else none) else none))))))))))))))))))
theorem laws_FnExactNextLesson.mono : ∀ l0 l1 a2 l3 l4 a5 k, LeO (laws_FnExactNextLesson.f k l0 l1 a2 l3 l4 a5) (laws_FnExactNextLesson.f (k + 1) l0 l1 a2 l3 l4 a5) := by
 intro l0 l1 a2 l3 l4 a5 k
 unfold laws_FnExactNextLesson.f
 repeat' first
  | (with_reducible exact impl_NextLesson.mono _ _ _ _ _ _ _)
  | (with_reducible exact laws_eqIntS.mono _ _ _)
  | (with_reducible exact laws_eqIntSS.mono _ _ _)
  | (with_reducible exact laws_eqQuestionS.mono _ _ _)
  | (with_reducible exact laws_eqWordS.mono _ _ _)
  | (with_reducible exact laws_szIntSS.mono _ _ _)
  | (with_reducible exact laws_szQuestionS.mono _ _ _)
  | (with_reducible exact laws_szWordS.mono _ _ _)
  | (with_reducible exact laws_toIntS.mono _ _)
  | (with_reducible exact laws_toIntSS.mono _ _)
  | (with_reducible exact laws_toQuestionS.mono _ _)
  | (with_reducible exact laws_toWordS.mono _ _)
  | (with_reducible exact spec_NextLesson.mono _ _ _ _ _ _ _)
  | (with_reducible exact LeO.refl _)
  | (with_reducible exact LeO.none _)
  | (with_reducible refine LeO.ite ?_ ?_)
  | (with_reducible refine LeO.bind ?_ (fun _ => ?_))
attribute [local go_sem] max2_int min2_int max_two min_two max_three min_three max_four min_four
set_option maxHeartbeats 4000000 in
set_option maxRecDepth 100000 in
theorem laws_FnExactNextLesson.calls (k : Nat) (A0 : Option Addr) (c0 : Nat) (l0 : List (S56)) (A1 : Option Addr) (c1 : Nat) (l1 : List (List Int)) (a2 : Int) (A3 : Option Addr) (c3 : Nat) (l3 : List (S69)) (A4 : Option Addr) (c4 : Nat) (l4 : List Int) (a5 : Int) (r : Bool) (w : World) (hr0 : Kd.C k56 w A0 l0.length l0) (hc0 : l0.length ≤ c0) (hr1 : Kd.C (Kd.slice 3 (Kd.int .i64)) w A1 l1.length l1) (hc1 : l1.length ≤ c1) (hr3 : Kd.C k69 w A3 l3.length l3) (hc3 : l3.length ≤ c3) (hr4 : Kd.C (Kd.int .i64) w A4 l4.length l4) (hc4 : l4.length ≤ c4) (h : laws_FnExactNextLesson.f k l0 l1 a2 l3 l4 a5 = some r) :
  Calls Tryz.prog 5 #[.slice A0 l0.length c0, .slice A1 l1.length c1, .int .i64 a2, .slice A3 l3.length c3, .slice A4 l4.length c4, .int .i64 a5] w fun e w' => e = .returned (.bool r) ∧ Below w.heap.size w w' := by
 have HR0 := Aside0.mk hr0
 have HC0 := Aside0.mk hc0
 have HR1 := Aside0.mk hr1
 have HC1 := Aside0.mk hc1
 have HR3 := Aside0.mk hr3
 have HC3 := Aside0.mk hc3
 have HR4 := Aside0.mk hr4
 have HC4 := Aside0.mk hc4
 clear hr0 hc0 hr1 hc1 hr3 hc3 hr4 hc4
 have HB := Aside0.mk (Below.refl w.heap.size w)
 have Z0 := Aside0.mk (Nat.le_refl w.heap.size)
 have H : (if (l4.length : Int) > 1048576 then some true else ((laws_szWordS.f k l0 1048576).bind fun t1 => (if t1 < 0 then some true else ((laws_szIntSS.f k l1 t1).bind fun t2 => (if t2 < 0 then some true else ((laws_szQuestionS.f k l3 t2).bind fun t3 => (if t3 < 0 then some true else ((laws_toWordS.f k l0).bind fun t4 => ((laws_toIntSS.f k l1).bind fun t5 => ((laws_toQuestionS.f k l3).bind fun t6 => ((laws_toIntS.f k l4).bind fun t7 => ((spec_NextLesson.f k t4 t5 a2 t6 t7 a5).bind fun bt8 => ((laws_toWordS.f k l0).bind fun t10 => ((laws_toIntSS.f k l1).bind fun t11 => ((laws_toQuestionS.f k l3).bind fun t12 => ((laws_toIntS.f k l4).bind fun t13 => ((impl_NextLesson.f k t10 t11 a2 t12 t13 a5).bind fun bt14 => (if bt14.1 = bt8.1 then (if bt14.2 = bt8.2 then ((laws_toWordS.f k l0).bind fun t16 => ((laws_eqWordS.f k t10 t16).bind fun t17 => (if t17 = true then ((laws_toIntSS.f k l1).bind fun t18 => ((laws_eqIntSS.f k t11 t18).bind fun t19 => (if t19 = true then ((laws_toQuestionS.f k l3).bind fun t20 => ((laws_eqQuestionS.f k t12 t20).bind fun t21 => (if t21 = true then ((laws_toIntS.f k l4).bind fun t22 => ((laws_eqIntS.f k t13 t22).bind fun t23 => (if t23 = true then some true else none))) else none))) else none))) else none))) else none) else none)))))))))))))))))) = some r := h
 clear h
 by_cases q0 : (l4.length : Int) > 1048576
 ·rw [if_pos q0] at H
  obtain rfl := Option.some.inj H
  have d0_0 : decide (1048576 < (l4.length : Int)) = true := decide_eq_true (by omega)
  have d0_1 : decide (1048576 < l4.length) = true := decide_eq_true (by omega)
  clear q0
  go_enter Tryz.func5, Tryz.ntmps5
  try go_wp2_with fail
  go_ret
  exact ⟨by first | rfl | (simp [*, errW_none, errW_some] <;> rfl), (by repeat (first | exact HB.out | apply below_alloc | apply pw_below_drewN | apply below_drew1))⟩
 rw [if_neg q0] at H
 have d0_0 : decide (1048576 < (l4.length : Int)) = false := decide_eq_false (by omega)
 have d0_1 : decide (1048576 < l4.length) = false := decide_eq_false (by omega)
 clear q0
 replace H := Option.bind_eq_some_iff.mp H
 obtain ⟨t1, A0_1, H⟩ := H
 try dsimp only at H
 have A1 := Aside0.mk A0_1
 clear A0_1
 by_cases q2 : t1 < 0
 ·rw [if_pos q2] at H
  obtain rfl := Option.some.inj H
  have d2_0 : decide (t1 < 0) = true := decide_eq_true (by omega)
  clear q2
  go_enter Tryz.func5, Tryz.ntmps5
  try go_wp2_with fail
  first | ((with_reducible refine gate_callee (f := 6) rfl ?_); refine goesL_ _ rfl rfl Tryz.func6 (by kernel_rfl) rfl #[.slice A0 l0.length c0, .int .i64 1048576] rfl (by (try simp only [List.map_toArray, List.map_cons, List.map_nil]); first | done | rfl | (simp only [List.length_drop, List.length_take]; rfl)) ?_; (with_reducible refine (laws_szWordS.calls k _ _ l0 (1048576) t1 _ ?s0 ?s1 A1.out).mono ?_); (case s0 => exact (by repeat (first | exact (Kd.C_below HR0.out HB.out) | (with_reducible refine Kd.C_alloc ?_ _) | (with_reducible refine Kd.C_drewN ?_ _) | (with_reducible refine Kd.C_drew ?_)))); (case s1 => exact HC0.out); rintro e w101 ⟨rfl, hb1⟩; refine ⟨_, rfl, ?_⟩) | (go_at_call 6; (with_reducible refine (laws_szWordS.calls k _ _ l0 (1048576) t1 _ ?s0 ?s1 A1.out).mono ?_); (case s0 => exact (by repeat (first | exact (Kd.C_below HR0.out HB.out) | (with_reducible refine Kd.C_alloc ?_ _) | (with_reducible refine Kd.C_drewN ?_ _) | (with_reducible refine Kd.C_drew ?_)))); (case s1 => exact HC0.out); rintro e w101 ⟨rfl, hb1⟩)
  have Z_ := Aside0.mk (Nat.le_trans (show w.heap.size ≤ _ from Z0.out) hb1.size)
  clear Z0
  have Z0 := Z_
  clear Z_
  have B_ := Aside0.mk (below_step (by repeat (first | exact HB.out | apply below_alloc | apply pw_below_drewN | apply below_drew1)) hb1)
  clear HB
  have HB := B_
  clear B_ hb1
  try go_wp2_with fail
  go_ret
  exact ⟨by first | rfl | (simp [*, errW_none, errW_some] <;> rfl), (by repeat (first | exact HB.out | apply below_alloc | apply pw_below_drewN | apply below_drew1))⟩
 rw [if_neg q2] at H
 have d2_0 : decide (t1 < 0) = false := decide_eq_false (by omega)
 clear q2
 replace H := Option.bind_eq_some_iff.mp H
 obtain ⟨t2, A0_3, H⟩ := H
 try dsimp only at H
 have A3 := Aside0.mk A0_3
 clear A0_3
 by_cases q4 : t2 < 0
 ·rw [if_pos q4] at H
  obtain rfl := Option.some.inj H
  have d4_0 : decide (t2 < 0) = true := decide_eq_true (by omega)
  clear q4
  go_enter Tryz.func5, Tryz.ntmps5
  try go_wp2_with fail
  first | ((with_reducible refine gate_callee (f := 6) rfl ?_); refine goesL_ _ rfl rfl Tryz.func6 (by kernel_rfl) rfl #[.slice A0 l0.length c0, .int .i64 1048576] rfl (by (try simp only [List.map_toArray, List.map_cons, List.map_nil]); first | done | rfl | (simp only [List.length_drop, List.length_take]; rfl)) ?_; (with_reducible refine (laws_szWordS.calls k _ _ l0 (1048576) t1 _ ?s0 ?s1 A1.out).mono ?_); (case s0 => exact (by repeat (first | exact (Kd.C_below HR0.out HB.out) | (with_reducible refine Kd.C_alloc ?_ _) | (with_reducible refine Kd.C_drewN ?_ _) | (with_reducible refine Kd.C_drew ?_)))); (case s1 => exact HC0.out); rintro e w101 ⟨rfl, hb1⟩; refine ⟨_, rfl, ?_⟩) | (go_at_call 6; (with_reducible refine (laws_szWordS.calls k _ _ l0 (1048576) t1 _ ?s0 ?s1 A1.out).mono ?_); (case s0 => exact (by repeat (first | exact (Kd.C_below HR0.out HB.out) | (with_reducible refine Kd.C_alloc ?_ _) | (with_reducible refine Kd.C_drewN ?_ _) | (with_reducible refine Kd.C_drew ?_)))); (case s1 => exact HC0.out); rintro e w101 ⟨rfl, hb1⟩)
  have Z_ := Aside0.mk (Nat.le_trans (show w.heap.size ≤ _ from Z0.out) hb1.size)
  clear Z0
  have Z0 := Z_
  clear Z_
  have B_ := Aside0.mk (below_step (by repeat (first | exact HB.out | apply below_alloc | apply pw_below_drewN | apply below_drew1)) hb1)
  clear HB
  have HB := B_
  clear B_ hb1
  try go_wp2_with fail
  first | ((with_reducible refine gate_callee (f := 7) rfl ?_); refine goesL_ _ rfl rfl Tryz.func7 (by kernel_rfl) rfl #[.slice A1 l1.length c1, .int .i64 t1] rfl (by (try simp only [List.map_toArray, List.map_cons, List.map_nil]); first | done | rfl | (simp only [List.length_drop, List.length_take]; rfl)) ?_; (with_reducible refine (laws_szIntSS.calls k _ _ l1 (t1) t2 _ ?s0 ?s1 A3.out).mono ?_); (case s0 => exact (by repeat (first | exact (Kd.C_below HR1.out HB.out) | (with_reducible refine Kd.C_alloc ?_ _) | (with_reducible refine Kd.C_drewN ?_ _) | (with_reducible refine Kd.C_drew ?_)))); (case s1 => exact HC1.out); rintro e w103 ⟨rfl, hb3⟩; refine ⟨_, rfl, ?_⟩) | (go_at_call 7; (with_reducible refine (laws_szIntSS.calls k _ _ l1 (t1) t2 _ ?s0 ?s1 A3.out).mono ?_); (case s0 => exact (by repeat (first | exact (Kd.C_below HR1.out HB.out) | (with_reducible refine Kd.C_alloc ?_ _) | (with_reducible refine Kd.C_drewN ?_ _) | (with_reducible refine Kd.C_drew ?_)))); (case s1 => exact HC1.out); rintro e w103 ⟨rfl, hb3⟩)
  replace hb3 := hb3.below
  have Z_ := Aside0.mk (Nat.le_trans (show w.heap.size ≤ _ from Z0.out) hb3.size)
  clear Z0
  have Z0 := Z_
  clear Z_
  have B_ := Aside0.mk (below_step (by repeat (first | exact HB.out | apply below_alloc | apply pw_below_drewN | apply below_drew1)) hb3)
  clear HB
  have HB := B_
  clear B_ hb3
  try go_wp2_with fail
  go_ret
  exact ⟨by first | rfl | (simp [*, errW_none, errW_some] <;> rfl), (by repeat (first | exact HB.out | apply below_alloc | apply pw_below_drewN | apply below_drew1))⟩
 rw [if_neg q4] at H
 have d4_0 : decide (t2 < 0) = false := decide_eq_false (by omega)
 clear q4
 replace H := Option.bind_eq_some_iff.mp H
 obtain ⟨t3, A0_5, H⟩ := H
 try dsimp only at H
 have A5 := Aside0.mk A0_5
 clear A0_5
 by_cases q6 : t3 < 0
 ·rw [if_pos q6] at H
  obtain rfl := Option.some.inj H
  have d6_0 : decide (t3 < 0) = true := decide_eq_true (by omega)
  clear q6
  go_enter Tryz.func5, Tryz.ntmps5
  try go_wp2_with fail
  first | ((with_reducible refine gate_callee (f := 6) rfl ?_); refine goesL_ _ rfl rfl Tryz.func6 (by kernel_rfl) rfl #[.slice A0 l0.length c0, .int .i64 1048576] rfl (by (try simp only [List.map_toArray, List.map_cons, List.map_nil]); first | done | rfl | (simp only [List.length_drop, List.length_take]; rfl)) ?_; (with_reducible refine (laws_szWordS.calls k _ _ l0 (1048576) t1 _ ?s0 ?s1 A1.out).mono ?_); (case s0 => exact (by repeat (first | exact (Kd.C_below HR0.out HB.out) | (with_reducible refine Kd.C_alloc ?_ _) | (with_reducible refine Kd.C_drewN ?_ _) | (with_reducible refine Kd.C_drew ?_)))); (case s1 => exact HC0.out); rintro e w101 ⟨rfl, hb1⟩; refine ⟨_, rfl, ?_⟩) | (go_at_call 6; (with_reducible refine (laws_szWordS.calls k _ _ l0 (1048576) t1 _ ?s0 ?s1 A1.out).mono ?_); (case s0 => exact (by repeat (first | exact (Kd.C_below HR0.out HB.out) | (with_reducible refine Kd.C_alloc ?_ _) | (with_reducible refine Kd.C_drewN ?_ _) | (with_reducible refine Kd.C_drew ?_)))); (case s1 => exact HC0.out); rintro e w101 ⟨rfl, hb1⟩)
  have Z_ := Aside0.mk (Nat.le_trans (show w.heap.size ≤ _ from Z0.out) hb1.size)
  clear Z0
  have Z0 := Z_
  clear Z_
  have B_ := Aside0.mk (below_step (by repeat (first | exact HB.out | apply below_alloc | apply pw_below_drewN | apply below_drew1)) hb1)
  clear HB
  have HB := B_
  clear B_ hb1
  try go_wp2_with fail
  first | ((with_reducible refine gate_callee (f := 7) rfl ?_); refine goesL_ _ rfl rfl Tryz.func7 (by kernel_rfl) rfl #[.slice A1 l1.length c1, .int .i64 t1] rfl (by (try simp only [List.map_toArray, List.map_cons, List.map_nil]); first | done | rfl | (simp only [List.length_drop, List.length_take]; rfl)) ?_; (with_reducible refine (laws_szIntSS.calls k _ _ l1 (t1) t2 _ ?s0 ?s1 A3.out).mono ?_); (case s0 => exact (by repeat (first | exact (Kd.C_below HR1.out HB.out) | (with_reducible refine Kd.C_alloc ?_ _) | (with_reducible refine Kd.C_drewN ?_ _) | (with_reducible refine Kd.C_drew ?_)))); (case s1 => exact HC1.out); rintro e w103 ⟨rfl, hb3⟩; refine ⟨_, rfl, ?_⟩) | (go_at_call 7; (with_reducible refine (laws_szIntSS.calls k _ _ l1 (t1) t2 _ ?s0 ?s1 A3.out).mono ?_); (case s0 => exact (by repeat (first | exact (Kd.C_below HR1.out HB.out) | (with_reducible refine Kd.C_alloc ?_ _) | (with_reducible refine Kd.C_drewN ?_ _) | (with_reducible refine Kd.C_drew ?_)))); (case s1 => exact HC1.out); rintro e w103 ⟨rfl, hb3⟩)
  replace hb3 := hb3.below
  have Z_ := Aside0.mk (Nat.le_trans (show w.heap.size ≤ _ from Z0.out) hb3.size)
  clear Z0
  have Z0 := Z_
  clear Z_
  have B_ := Aside0.mk (below_step (by repeat (first | exact HB.out | apply below_alloc | apply pw_below_drewN | apply below_drew1)) hb3)
  clear HB
  have HB := B_
  clear B_ hb3
  try go_wp2_with fail
  first | ((with_reducible refine gate_callee (f := 24) rfl ?_); refine goesL_ _ rfl rfl Tryz.func24 (by kernel_rfl) rfl #[.slice A3 l3.length c3, .int .i64 t2] rfl (by (try simp only [List.map_toArray, List.map_cons, List.map_nil]); first | done | rfl | (simp only [List.length_drop, List.length_take]; rfl)) ?_; (with_reducible refine (laws_szQuestionS.calls k _ _ l3 (t2) t3 _ ?s0 ?s1 A5.out).mono ?_); (case s0 => exact (by repeat (first | exact (Kd.C_below HR3.out HB.out) | (with_reducible refine Kd.C_alloc ?_ _) | (with_reducible refine Kd.C_drewN ?_ _) | (with_reducible refine Kd.C_drew ?_)))); (case s1 => exact HC3.out); rintro e w105 ⟨rfl, hb5⟩; refine ⟨_, rfl, ?_⟩) | (go_at_call 24; (with_reducible refine (laws_szQuestionS.calls k _ _ l3 (t2) t3 _ ?s0 ?s1 A5.out).mono ?_); (case s0 => exact (by repeat (first | exact (Kd.C_below HR3.out HB.out) | (with_reducible refine Kd.C_alloc ?_ _) | (with_reducible refine Kd.C_drewN ?_ _) | (with_reducible refine Kd.C_drew ?_)))); (case s1 => exact HC3.out); rintro e w105 ⟨rfl, hb5⟩)
  have Z_ := Aside0.mk (Nat.le_trans (show w.heap.size ≤ _ from Z0.out) hb5.size)
  clear Z0
  have Z0 := Z_
  clear Z_
  have B_ := Aside0.mk (below_step (by repeat (first | exact HB.out | apply below_alloc | apply pw_below_drewN | apply below_drew1)) hb5)
  clear HB
  have HB := B_
  clear B_ hb5
  try go_wp2_with fail
  go_ret
  exact ⟨by first | rfl | (simp [*, errW_none, errW_some] <;> rfl), (by repeat (first | exact HB.out | apply below_alloc | apply pw_below_drewN | apply below_drew1))⟩
 rw [if_neg q6] at H
 have d6_0 : decide (t3 < 0) = false := decide_eq_false (by omega)
 clear q6
 replace H := Option.bind_eq_some_iff.mp H
 obtain ⟨t4, A0_7, H⟩ := H
 try dsimp only at H
 have A7 := Aside0.mk A0_7
 clear A0_7
 replace H := Option.bind_eq_some_iff.mp H
 obtain ⟨t5, A0_8, H⟩ := H
 try dsimp only at H
 have A8 := Aside0.mk A0_8
 clear A0_8
 replace H := Option.bind_eq_some_iff.mp H
 obtain ⟨t6, A0_9, H⟩ := H
 try dsimp only at H
 have A9 := Aside0.mk A0_9
 clear A0_9
 replace H := Option.bind_eq_some_iff.mp H
 obtain ⟨t7, A0_10, H⟩ := H
 try dsimp only at H
 have A10 := Aside0.mk A0_10
 clear A0_10
 replace H := Option.bind_eq_some_iff.mp H
 obtain ⟨⟨t8, t9⟩, A0_11, H⟩ := H
 try dsimp only at H
 have A11 := Aside0.mk A0_11
 clear A0_11
 replace H := Option.bind_eq_some_iff.mp H
 obtain ⟨t10, A0_12, H⟩ := H
 try dsimp only at H
 have A12 := Aside0.mk A0_12
 clear A0_12
 replace H := Option.bind_eq_some_iff.mp H
 obtain ⟨t11, A0_13, H⟩ := H
 try dsimp only at H
 have A13 := Aside0.mk A0_13
 clear A0_13
 replace H := Option.bind_eq_some_iff.mp H
 obtain ⟨t12, A0_14, H⟩ := H
 try dsimp only at H
 have A14 := Aside0.mk A0_14
 clear A0_14
 replace H := Option.bind_eq_some_iff.mp H
 obtain ⟨t13, A0_15, H⟩ := H
 try dsimp only at H
 have A15 := Aside0.mk A0_15
 clear A0_15
 replace H := Option.bind_eq_some_iff.mp H
 obtain ⟨⟨t14, t15⟩, A0_16, H⟩ := H
 try dsimp only at H
 have A16 := Aside0.mk A0_16
 clear A0_16
 obtain ⟨q17, H1⟩ := Go.Proofs.YtnafjfdalapegaaGreatW.GLaw.ite_some H
 clear H
 have H := H1
 clear H1
 have d17_0 : (t14 == t8) = true := beq_iff_eq.mpr q17
 have d17_1 : (t14 != t8) = false := bne_eq_false_iff_eq.mpr q17
 clear q17
 obtain ⟨q18, H1⟩ := Go.Proofs.YtnafjfdalapegaaGreatW.GLaw.ite_some H
 clear H
 have H := H1
 clear H1
 have d18_0 : (t15 == t9) = true := beq_iff_eq.mpr q18
 have d18_1 : (t15 != t9) = false := bne_eq_false_iff_eq.mpr q18
 clear q18
 replace H := Option.bind_eq_some_iff.mp H
 obtain ⟨t16, A0_19, H⟩ := H
 try dsimp only at H
 have A19 := Aside0.mk A0_19
 clear A0_19
 replace H := Option.bind_eq_some_iff.mp H
 obtain ⟨t17, A0_20, H⟩ := H
 try dsimp only at H
 have A20 := Aside0.mk A0_20
 clear A0_20
 obtain ⟨q21, H1⟩ := Go.Proofs.YtnafjfdalapegaaGreatW.GLaw.ite_some H
 clear H
 have H := H1
 clear H1
 subst q21
 replace H := Option.bind_eq_some_iff.mp H
 obtain ⟨t18, A0_22, H⟩ := H
 try dsimp only at H
 have A22 := Aside0.mk A0_22
 clear A0_22
 replace H := Option.bind_eq_some_iff.mp H
 obtain ⟨t19, A0_23, H⟩ := H
 try dsimp only at H
 have A23 := Aside0.mk A0_23
 clear A0_23
 obtain ⟨q24, H1⟩ := Go.Proofs.YtnafjfdalapegaaGreatW.GLaw.ite_some H
 clear H
 have H := H1
 clear H1
 subst q24
 replace H := Option.bind_eq_some_iff.mp H
 obtain ⟨t20, A0_25, H⟩ := H
 try dsimp only at H
 have A25 := Aside0.mk A0_25
 clear A0_25
 replace H := Option.bind_eq_some_iff.mp H
 obtain ⟨t21, A0_26, H⟩ := H
 try dsimp only at H
 have A26 := Aside0.mk A0_26
 clear A0_26
 obtain ⟨q27, H1⟩ := Go.Proofs.YtnafjfdalapegaaGreatW.GLaw.ite_some H
 clear H
 have H := H1
 clear H1
 subst q27
 replace H := Option.bind_eq_some_iff.mp H
 obtain ⟨t22, A0_28, H⟩ := H
 try dsimp only at H
 have A28 := Aside0.mk A0_28
 clear A0_28
 replace H := Option.bind_eq_some_iff.mp H
 obtain ⟨t23, A0_29, H⟩ := H
 try dsimp only at H
 have A29 := Aside0.mk A0_29
 clear A0_29
 obtain ⟨q30, H1⟩ := Go.Proofs.YtnafjfdalapegaaGreatW.GLaw.ite_some H
 clear H
 have H := H1
 clear H1
 subst q30
 obtain rfl := Option.some.inj H
 go_enter Tryz.func5, Tryz.ntmps5
 try go_wp2_with fail
 first | ((with_reducible refine gate_callee (f := 6) rfl ?_); refine goesL_ _ rfl rfl Tryz.func6 (by kernel_rfl) rfl #[.slice A0 l0.length c0, .int .i64 1048576] rfl (by (try simp only [List.map_toArray, List.map_cons, List.map_nil]); first | done | rfl | (simp only [List.length_drop, List.length_take]; rfl)) ?_; (with_reducible refine (laws_szWordS.calls k _ _ l0 (1048576) t1 _ ?s0 ?s1 A1.out).mono ?_); (case s0 => exact (by repeat (first | exact (Kd.C_below HR0.out HB.out) | (with_reducible refine Kd.C_alloc ?_ _) | (with_reducible refine Kd.C_drewN ?_ _) | (with_reducible refine Kd.C_drew ?_)))); (case s1 => exact HC0.out); rintro e w101 ⟨rfl, hb1⟩; refine ⟨_, rfl, ?_⟩) | (go_at_call 6; (with_reducible refine (laws_szWordS.calls k _ _ l0 (1048576) t1 _ ?s0 ?s1 A1.out).mono ?_); (case s0 => exact (by repeat (first | exact (Kd.C_below HR0.out HB.out) | (with_reducible refine Kd.C_alloc ?_ _) | (with_reducible refine Kd.C_drewN ?_ _) | (with_reducible refine Kd.C_drew ?_)))); (case s1 => exact HC0.out); rintro e w101 ⟨rfl, hb1⟩)
 have Z_ := Aside0.mk (Nat.le_trans (show w.heap.size ≤ _ from Z0.out) hb1.size)
 clear Z0
 have Z0 := Z_
 clear Z_
 have B_ := Aside0.mk (below_step (by repeat (first | exact HB.out | apply below_alloc | apply pw_below_drewN | apply below_drew1)) hb1)
 clear HB
 have HB := B_
 clear B_ hb1
 try go_wp2_with fail
 first | ((with_reducible refine gate_callee (f := 7) rfl ?_); refine goesL_ _ rfl rfl Tryz.func7 (by kernel_rfl) rfl #[.slice A1 l1.length c1, .int .i64 t1] rfl (by (try simp only [List.map_toArray, List.map_cons, List.map_nil]); first | done | rfl | (simp only [List.length_drop, List.length_take]; rfl)) ?_; (with_reducible refine (laws_szIntSS.calls k _ _ l1 (t1) t2 _ ?s0 ?s1 A3.out).mono ?_); (case s0 => exact (by repeat (first | exact (Kd.C_below HR1.out HB.out) | (with_reducible refine Kd.C_alloc ?_ _) | (with_reducible refine Kd.C_drewN ?_ _) | (with_reducible refine Kd.C_drew ?_)))); (case s1 => exact HC1.out); rintro e w103 ⟨rfl, hb3⟩; refine ⟨_, rfl, ?_⟩) | (go_at_call 7; (with_reducible refine (laws_szIntSS.calls k _ _ l1 (t1) t2 _ ?s0 ?s1 A3.out).mono ?_); (case s0 => exact (by repeat (first | exact (Kd.C_below HR1.out HB.out) | (with_reducible refine Kd.C_alloc ?_ _) | (with_reducible refine Kd.C_drewN ?_ _) | (with_reducible refine Kd.C_drew ?_)))); (case s1 => exact HC1.out); rintro e w103 ⟨rfl, hb3⟩)
 replace hb3 := hb3.below
 have Z_ := Aside0.mk (Nat.le_trans (show w.heap.size ≤ _ from Z0.out) hb3.size)
 clear Z0
 have Z0 := Z_
 clear Z_
 have B_ := Aside0.mk (below_step (by repeat (first | exact HB.out | apply below_alloc | apply pw_below_drewN | apply below_drew1)) hb3)
 clear HB
 have HB := B_
 clear B_ hb3
 try go_wp2_with fail
 first | ((with_reducible refine gate_callee (f := 24) rfl ?_); refine goesL_ _ rfl rfl Tryz.func24 (by kernel_rfl) rfl #[.slice A3 l3.length c3, .int .i64 t2] rfl (by (try simp only [List.map_toArray, List.map_cons, List.map_nil]); first | done | rfl | (simp only [List.length_drop, List.length_take]; rfl)) ?_; (with_reducible refine (laws_szQuestionS.calls k _ _ l3 (t2) t3 _ ?s0 ?s1 A5.out).mono ?_); (case s0 => exact (by repeat (first | exact (Kd.C_below HR3.out HB.out) | (with_reducible refine Kd.C_alloc ?_ _) | (with_reducible refine Kd.C_drewN ?_ _) | (with_reducible refine Kd.C_drew ?_)))); (case s1 => exact HC3.out); rintro e w105 ⟨rfl, hb5⟩; refine ⟨_, rfl, ?_⟩) | (go_at_call 24; (with_reducible refine (laws_szQuestionS.calls k _ _ l3 (t2) t3 _ ?s0 ?s1 A5.out).mono ?_); (case s0 => exact (by repeat (first | exact (Kd.C_below HR3.out HB.out) | (with_reducible refine Kd.C_alloc ?_ _) | (with_reducible refine Kd.C_drewN ?_ _) | (with_reducible refine Kd.C_drew ?_)))); (case s1 => exact HC3.out); rintro e w105 ⟨rfl, hb5⟩)
 have Z_ := Aside0.mk (Nat.le_trans (show w.heap.size ≤ _ from Z0.out) hb5.size)
 clear Z0
 have Z0 := Z_
 clear Z_
 have B_ := Aside0.mk (below_step (by repeat (first | exact HB.out | apply below_alloc | apply pw_below_drewN | apply below_drew1)) hb5)
 clear HB
 have HB := B_
 clear B_ hb5
 try go_wp2_with fail
 first | ((with_reducible refine gate_callee (f := 9) rfl ?_); refine goesL_ _ rfl rfl Tryz.func9 (by kernel_rfl) rfl #[.slice A0 l0.length c0] rfl (by (try simp only [List.map_toArray, List.map_cons, List.map_nil]); first | done | rfl | (simp only [List.length_drop, List.length_take]; rfl)) ?_; (with_reducible refine (laws_toWordS.calls k _ _ l0 t4 _ ?s0 ?s1 A7.out).mono ?_); (case s0 => exact (by repeat (first | exact (Kd.C_below HR0.out HB.out) | (with_reducible refine Kd.C_alloc ?_ _) | (with_reducible refine Kd.C_drewN ?_ _) | (with_reducible refine Kd.C_drew ?_)))); (case s1 => exact HC0.out); rintro e w107 ⟨v7_0, rfl, ho7_0, hb7⟩; refine ⟨_, rfl, ?_⟩) | (go_at_call 9; (with_reducible refine (laws_toWordS.calls k _ _ l0 t4 _ ?s0 ?s1 A7.out).mono ?_); (case s0 => exact (by repeat (first | exact (Kd.C_below HR0.out HB.out) | (with_reducible refine Kd.C_alloc ?_ _) | (with_reducible refine Kd.C_drewN ?_ _) | (with_reducible refine Kd.C_drew ?_)))); (case s1 => exact HC0.out); rintro e w107 ⟨v7_0, rfl, ho7_0, hb7⟩)
 obtain ⟨lo7, hi7, z7, e7, f7, g7⟩ := Go.Proofs.YtnafjfdalapegaaGreatW.GLaw.madeS (w := w) (show w.heap.size ≤ _ from Z0.out) (by repeat (first | exact HB.out | apply below_alloc | apply pw_below_drewN | apply below_drew1)) ho7_0
 have Y7 := Aside0.mk z7
 have X7 := Aside0.mk (show lo7 ≤ hi7 from by rw [e7, f7]; exact hb7.size)
 clear Z0
 have Z0 := Aside0.mk (show hi7 ≤ w107.heap.size from by rw [f7]; exact Nat.le_refl _)
 obtain ⟨Ao7, co7, eo7⟩ := Kd.S_slice g7
 subst eo7
 have HO7_t4 := Aside0.mk g7
 clear z7 e7 f7 g7 ho7_0
 have B_ := Aside0.mk (below_step (by repeat (first | exact HB.out | apply below_alloc | apply pw_below_drewN | apply below_drew1)) hb7)
 clear HB
 have HB := B_
 clear B_ hb7
 try go_wp2_with fail
 first | ((with_reducible refine gate_callee (f := 10) rfl ?_); refine goesL_ _ rfl rfl Tryz.func10 (by kernel_rfl) rfl #[.slice A1 l1.length c1] rfl (by (try simp only [List.map_toArray, List.map_cons, List.map_nil]); first | done | rfl | (simp only [List.length_drop, List.length_take]; rfl)) ?_; (with_reducible refine (laws_toIntSS.calls k _ _ l1 t5 _ ?s0 ?s1 A8.out).mono ?_); (case s0 => exact (by repeat (first | exact (Kd.C_below HR1.out HB.out) | (with_reducible refine Kd.C_alloc ?_ _) | (with_reducible refine Kd.C_drewN ?_ _) | (with_reducible refine Kd.C_drew ?_)))); (case s1 => exact HC1.out); rintro e w108 ⟨v8_0, rfl, ho8_0, hb8⟩; refine ⟨_, rfl, ?_⟩) | (go_at_call 10; (with_reducible refine (laws_toIntSS.calls k _ _ l1 t5 _ ?s0 ?s1 A8.out).mono ?_); (case s0 => exact (by repeat (first | exact (Kd.C_below HR1.out HB.out) | (with_reducible refine Kd.C_alloc ?_ _) | (with_reducible refine Kd.C_drewN ?_ _) | (with_reducible refine Kd.C_drew ?_)))); (case s1 => exact HC1.out); rintro e w108 ⟨v8_0, rfl, ho8_0, hb8⟩)
 have HO8_t4 := Aside0.mk (Kd.S_below (by (with_reducible repeat (first | apply Kd.S_alloc | apply Kd.S_drewN | apply Kd.S_drew)); exact HO7_t4.out) hb8)
 clear HO7_t4
 obtain ⟨lo8, hi8, z8, e8, f8, g8⟩ := Go.Proofs.YtnafjfdalapegaaGreatW.GLaw.madeS (w := w) (show hi7 ≤ _ from Z0.out) (by repeat (first | exact HB.out | apply below_alloc | apply pw_below_drewN | apply below_drew1)) ho8_0
 have Y8 := Aside0.mk z8
 have X8 := Aside0.mk (show lo8 ≤ hi8 from by rw [e8, f8]; exact hb8.size)
 clear Z0
 have Z0 := Aside0.mk (show hi8 ≤ w108.heap.size from by rw [f8]; exact Nat.le_refl _)
 obtain ⟨Ao8, co8, eo8⟩ := Kd.S_slice g8
 subst eo8
 have HO8_t5 := Aside0.mk g8
 clear z8 e8 f8 g8 ho8_0
 have B_ := Aside0.mk (below_step (by repeat (first | exact HB.out | apply below_alloc | apply pw_below_drewN | apply below_drew1)) hb8)
 clear HB
 have HB := B_
 clear B_ hb8
 try go_wp2_with fail
 first | ((with_reducible refine gate_callee (f := 26) rfl ?_); refine goesL_ _ rfl rfl Tryz.func26 (by kernel_rfl) rfl #[.slice A3 l3.length c3] rfl (by (try simp only [List.map_toArray, List.map_cons, List.map_nil]); first | done | rfl | (simp only [List.length_drop, List.length_take]; rfl)) ?_; (with_reducible refine (laws_toQuestionS.calls k _ _ l3 t6 _ ?s0 ?s1 A9.out).mono ?_); (case s0 => exact (by repeat (first | exact (Kd.C_below HR3.out HB.out) | (with_reducible refine Kd.C_alloc ?_ _) | (with_reducible refine Kd.C_drewN ?_ _) | (with_reducible refine Kd.C_drew ?_)))); (case s1 => exact HC3.out); rintro e w109 ⟨v9_0, rfl, ho9_0, hb9⟩; refine ⟨_, rfl, ?_⟩) | (go_at_call 26; (with_reducible refine (laws_toQuestionS.calls k _ _ l3 t6 _ ?s0 ?s1 A9.out).mono ?_); (case s0 => exact (by repeat (first | exact (Kd.C_below HR3.out HB.out) | (with_reducible refine Kd.C_alloc ?_ _) | (with_reducible refine Kd.C_drewN ?_ _) | (with_reducible refine Kd.C_drew ?_)))); (case s1 => exact HC3.out); rintro e w109 ⟨v9_0, rfl, ho9_0, hb9⟩)
 have HO9_t4 := Aside0.mk (Kd.S_below (by (with_reducible repeat (first | apply Kd.S_alloc | apply Kd.S_drewN | apply Kd.S_drew)); exact HO8_t4.out) hb9)
 clear HO8_t4
 have HO9_t5 := Aside0.mk (Kd.S_below (by (with_reducible repeat (first | apply Kd.S_alloc | apply Kd.S_drewN | apply Kd.S_drew)); exact HO8_t5.out) hb9)
 clear HO8_t5
 obtain ⟨lo9, hi9, z9, e9, f9, g9⟩ := Go.Proofs.YtnafjfdalapegaaGreatW.GLaw.madeS (w := w) (show hi8 ≤ _ from Z0.out) (by repeat (first | exact HB.out | apply below_alloc | apply pw_below_drewN | apply below_drew1)) ho9_0
 have Y9 := Aside0.mk z9
 have X9 := Aside0.mk (show lo9 ≤ hi9 from by rw [e9, f9]; exact hb9.size)
 clear Z0
 have Z0 := Aside0.mk (show hi9 ≤ w109.heap.size from by rw [f9]; exact Nat.le_refl _)
 obtain ⟨Ao9, co9, eo9⟩ := Kd.S_slice g9
 subst eo9
 have HO9_t6 := Aside0.mk g9
 clear z9 e9 f9 g9 ho9_0
 have B_ := Aside0.mk (below_step (by repeat (first | exact HB.out | apply below_alloc | apply pw_below_drewN | apply below_drew1)) hb9)
 clear HB
 have HB := B_
 clear B_ hb9
 try go_wp2_with fail
 first | ((with_reducible refine gate_callee (f := 27) rfl ?_); refine goesL_ _ rfl rfl Tryz.func27 (by kernel_rfl) rfl #[.slice A4 l4.length c4] rfl (by (try simp only [List.map_toArray, List.map_cons, List.map_nil]); first | done | rfl | (simp only [List.length_drop, List.length_take]; rfl)) ?_; (with_reducible refine (laws_toIntS.calls k _ _ l4 t7 _ ?s0 ?s1 A10.out).mono ?_); (case s0 => exact (by repeat (first | exact (Kd.C_below HR4.out HB.out) | (with_reducible refine Kd.C_alloc ?_ _) | (with_reducible refine Kd.C_drewN ?_ _) | (with_reducible refine Kd.C_drew ?_)))); (case s1 => exact HC4.out); rintro e w110 ⟨v10_0, rfl, ho10_0, hb10⟩; refine ⟨_, rfl, ?_⟩) | (go_at_call 27; (with_reducible refine (laws_toIntS.calls k _ _ l4 t7 _ ?s0 ?s1 A10.out).mono ?_); (case s0 => exact (by repeat (first | exact (Kd.C_below HR4.out HB.out) | (with_reducible refine Kd.C_alloc ?_ _) | (with_reducible refine Kd.C_drewN ?_ _) | (with_reducible refine Kd.C_drew ?_)))); (case s1 => exact HC4.out); rintro e w110 ⟨v10_0, rfl, ho10_0, hb10⟩)
 have HO10_t4 := Aside0.mk (Kd.S_below (by (with_reducible repeat (first | apply Kd.S_alloc | apply Kd.S_drewN | apply Kd.S_drew)); exact HO9_t4.out) hb10)
 clear HO9_t4
 have HO10_t5 := Aside0.mk (Kd.S_below (by (with_reducible repeat (first | apply Kd.S_alloc | apply Kd.S_drewN | apply Kd.S_drew)); exact HO9_t5.out) hb10)
 clear HO9_t5
 have HO10_t6 := Aside0.mk (Kd.S_below (by (with_reducible repeat (first | apply Kd.S_alloc | apply Kd.S_drewN | apply Kd.S_drew)); exact HO9_t6.out) hb10)
 clear HO9_t6
 obtain ⟨lo10, hi10, z10, e10, f10, g10⟩ := Go.Proofs.YtnafjfdalapegaaGreatW.GLaw.madeR (w := w) (show hi9 ≤ _ from Z0.out) (by repeat (first | exact HB.out | apply below_alloc | apply pw_below_drewN | apply below_drew1)) ho10_0
 have Y10 := Aside0.mk z10
 have X10 := Aside0.mk (show lo10 ≤ hi10 from by rw [e10, f10]; exact hb10.size)
 clear Z0
 have Z0 := Aside0.mk (show hi10 ≤ w110.heap.size from by rw [f10]; exact Nat.le_refl _)
 obtain ⟨Ao10, co10, eo10⟩ := Kd.R_slice g10
 subst eo10
 have HO10_t7 := Aside0.mk g10
 clear z10 e10 f10 g10 ho10_0
 have B_ := Aside0.mk (below_step (by repeat (first | exact HB.out | apply below_alloc | apply pw_below_drewN | apply below_drew1)) hb10)
 clear HB
 have HB := B_
 clear B_ hb10
 try go_wp2_with fail
 first | ((with_reducible refine gate_callee (f := 25) rfl ?_); refine goesL_ _ rfl rfl Tryz.func25 (by kernel_rfl) rfl #[.slice Ao7 t4.length co7, .slice Ao8 t5.length co8, .int .i64 a2, .slice Ao9 t6.length co9, .slice Ao10 t7.length co10, .int .i64 a5] rfl (by (try simp only [List.map_toArray, List.map_cons, List.map_nil]); first | done | rfl | (simp only [List.length_drop, List.length_take]; rfl)) ?_; (with_reducible refine (spec_NextLesson.calls k _ _ t4 _ _ t5 (a2) _ _ t6 _ _ t7 (a5) t8 t9 _ ?s0 ?s1 ?s2 ?s3 ?s4 ?s5 ?s6 ?s7 A11.out).mono ?_); (case s0 => exact (by repeat (first | exact (Kd.S_reads' HO10_t4.out).2.2 | (with_reducible refine Kd.C_alloc ?_ _) | (with_reducible refine Kd.C_drewN ?_ _) | (with_reducible refine Kd.C_drew ?_)))); (case s1 => exact (by exact (Kd.S_reads' HO10_t4.out).2.1)); (case s2 => exact (by repeat (first | exact (Kd.S_reads' HO10_t5.out).2.2 | (with_reducible refine Kd.C_alloc ?_ _) | (with_reducible refine Kd.C_drewN ?_ _) | (with_reducible refine Kd.C_drew ?_)))); (case s3 => exact (by exact (Kd.S_reads' HO10_t5.out).2.1)); (case s4 => exact (by repeat (first | exact (Kd.S_reads' HO10_t6.out).2.2 | (with_reducible refine Kd.C_alloc ?_ _) | (with_reducible refine Kd.C_drewN ?_ _) | (with_reducible refine Kd.C_drew ?_)))); (case s5 => exact (by exact (Kd.S_reads' HO10_t6.out).2.1)); (case s6 => exact (by repeat (first | exact (Kd.R_reads' HO10_t7.out).2.2 | (with_reducible refine Kd.C_alloc ?_ _) | (with_reducible refine Kd.C_drewN ?_ _) | (with_reducible refine Kd.C_drew ?_)))); (case s7 => exact (by exact (Kd.R_reads' HO10_t7.out).2.1)); rintro e w111 ⟨rfl, hb11⟩; refine ⟨_, rfl, ?_⟩) | (go_at_call 25; (with_reducible refine (spec_NextLesson.calls k _ _ t4 _ _ t5 (a2) _ _ t6 _ _ t7 (a5) t8 t9 _ ?s0 ?s1 ?s2 ?s3 ?s4 ?s5 ?s6 ?s7 A11.out).mono ?_); (case s0 => exact (by repeat (first | exact (Kd.S_reads' HO10_t4.out).2.2 | (with_reducible refine Kd.C_alloc ?_ _) | (with_reducible refine Kd.C_drewN ?_ _) | (with_reducible refine Kd.C_drew ?_)))); (case s1 => exact (by exact (Kd.S_reads' HO10_t4.out).2.1)); (case s2 => exact (by repeat (first | exact (Kd.S_reads' HO10_t5.out).2.2 | (with_reducible refine Kd.C_alloc ?_ _) | (with_reducible refine Kd.C_drewN ?_ _) | (with_reducible refine Kd.C_drew ?_)))); (case s3 => exact (by exact (Kd.S_reads' HO10_t5.out).2.1)); (case s4 => exact (by repeat (first | exact (Kd.S_reads' HO10_t6.out).2.2 | (with_reducible refine Kd.C_alloc ?_ _) | (with_reducible refine Kd.C_drewN ?_ _) | (with_reducible refine Kd.C_drew ?_)))); (case s5 => exact (by exact (Kd.S_reads' HO10_t6.out).2.1)); (case s6 => exact (by repeat (first | exact (Kd.R_reads' HO10_t7.out).2.2 | (with_reducible refine Kd.C_alloc ?_ _) | (with_reducible refine Kd.C_drewN ?_ _) | (with_reducible refine Kd.C_drew ?_)))); (case s7 => exact (by exact (Kd.R_reads' HO10_t7.out).2.1)); rintro e w111 ⟨rfl, hb11⟩)
 clear HO10_t4
 clear HO10_t5
 clear HO10_t6
 clear HO10_t7
 have Z_ := Aside0.mk (Nat.le_trans (show hi10 ≤ _ from Z0.out) hb11.size)
 clear Z0
 have Z0 := Z_
 clear Z_
 have B_ := Aside0.mk (below_step (by repeat (first | exact HB.out | apply below_alloc | apply pw_below_drewN | apply below_drew1)) hb11)
 clear HB
 have HB := B_
 clear B_ hb11
 try go_wp2_with fail
 first | ((with_reducible refine gate_callee (f := 9) rfl ?_); refine goesL_ _ rfl rfl Tryz.func9 (by kernel_rfl) rfl #[.slice A0 l0.length c0] rfl (by (try simp only [List.map_toArray, List.map_cons, List.map_nil]); first | done | rfl | (simp only [List.length_drop, List.length_take]; rfl)) ?_; (with_reducible refine (laws_toWordS.calls k _ _ l0 t10 _ ?s0 ?s1 A12.out).mono ?_); (case s0 => exact (by repeat (first | exact (Kd.C_below HR0.out HB.out) | (with_reducible refine Kd.C_alloc ?_ _) | (with_reducible refine Kd.C_drewN ?_ _) | (with_reducible refine Kd.C_drew ?_)))); (case s1 => exact HC0.out); rintro e w112 ⟨v12_0, rfl, ho12_0, hb12⟩; refine ⟨_, rfl, ?_⟩) | (go_at_call 9; (with_reducible refine (laws_toWordS.calls k _ _ l0 t10 _ ?s0 ?s1 A12.out).mono ?_); (case s0 => exact (by repeat (first | exact (Kd.C_below HR0.out HB.out) | (with_reducible refine Kd.C_alloc ?_ _) | (with_reducible refine Kd.C_drewN ?_ _) | (with_reducible refine Kd.C_drew ?_)))); (case s1 => exact HC0.out); rintro e w112 ⟨v12_0, rfl, ho12_0, hb12⟩)
 obtain ⟨lo12, hi12, z12, e12, f12, g12⟩ := Go.Proofs.YtnafjfdalapegaaGreatW.GLaw.madeS (w := w) (show hi10 ≤ _ from Z0.out) (by repeat (first | exact HB.out | apply below_alloc | apply pw_below_drewN | apply below_drew1)) ho12_0
 have Y12 := Aside0.mk z12
 have X12 := Aside0.mk (show lo12 ≤ hi12 from by rw [e12, f12]; exact hb12.size)
 clear Z0
 have Z0 := Aside0.mk (show hi12 ≤ w112.heap.size from by rw [f12]; exact Nat.le_refl _)
 obtain ⟨Ao12, co12, eo12⟩ := Kd.S_slice g12
 subst eo12
 have HO12_t10 := Aside0.mk g12
 clear z12 e12 f12 g12 ho12_0
 have B_ := Aside0.mk (below_step (by repeat (first | exact HB.out | apply below_alloc | apply pw_below_drewN | apply below_drew1)) hb12)
 clear HB
 have HB := B_
 clear B_ hb12
 try go_wp2_with fail
 first | ((with_reducible refine gate_callee (f := 10) rfl ?_); refine goesL_ _ rfl rfl Tryz.func10 (by kernel_rfl) rfl #[.slice A1 l1.length c1] rfl (by (try simp only [List.map_toArray, List.map_cons, List.map_nil]); first | done | rfl | (simp only [List.length_drop, List.length_take]; rfl)) ?_; (with_reducible refine (laws_toIntSS.calls k _ _ l1 t11 _ ?s0 ?s1 A13.out).mono ?_); (case s0 => exact (by repeat (first | exact (Kd.C_below HR1.out HB.out) | (with_reducible refine Kd.C_alloc ?_ _) | (with_reducible refine Kd.C_drewN ?_ _) | (with_reducible refine Kd.C_drew ?_)))); (case s1 => exact HC1.out); rintro e w113 ⟨v13_0, rfl, ho13_0, hb13⟩; refine ⟨_, rfl, ?_⟩) | (go_at_call 10; (with_reducible refine (laws_toIntSS.calls k _ _ l1 t11 _ ?s0 ?s1 A13.out).mono ?_); (case s0 => exact (by repeat (first | exact (Kd.C_below HR1.out HB.out) | (with_reducible refine Kd.C_alloc ?_ _) | (with_reducible refine Kd.C_drewN ?_ _) | (with_reducible refine Kd.C_drew ?_)))); (case s1 => exact HC1.out); rintro e w113 ⟨v13_0, rfl, ho13_0, hb13⟩)
 have HO13_t10 := Aside0.mk (Kd.S_below (by (with_reducible repeat (first | apply Kd.S_alloc | apply Kd.S_drewN | apply Kd.S_drew)); exact HO12_t10.out) hb13)
 clear HO12_t10
 obtain ⟨lo13, hi13, z13, e13, f13, g13⟩ := Go.Proofs.YtnafjfdalapegaaGreatW.GLaw.madeS (w := w) (show hi12 ≤ _ from Z0.out) (by repeat (first | exact HB.out | apply below_alloc | apply pw_below_drewN | apply below_drew1)) ho13_0
 have Y13 := Aside0.mk z13
 have X13 := Aside0.mk (show lo13 ≤ hi13 from by rw [e13, f13]; exact hb13.size)
 clear Z0
 have Z0 := Aside0.mk (show hi13 ≤ w113.heap.size from by rw [f13]; exact Nat.le_refl _)
 obtain ⟨Ao13, co13, eo13⟩ := Kd.S_slice g13
 subst eo13
 have HO13_t11 := Aside0.mk g13
 clear z13 e13 f13 g13 ho13_0
 have B_ := Aside0.mk (below_step (by repeat (first | exact HB.out | apply below_alloc | apply pw_below_drewN | apply below_drew1)) hb13)
 clear HB
 have HB := B_
 clear B_ hb13
 try go_wp2_with fail
 first | ((with_reducible refine gate_callee (f := 26) rfl ?_); refine goesL_ _ rfl rfl Tryz.func26 (by kernel_rfl) rfl #[.slice A3 l3.length c3] rfl (by (try simp only [List.map_toArray, List.map_cons, List.map_nil]); first | done | rfl | (simp only [List.length_drop, List.length_take]; rfl)) ?_; (with_reducible refine (laws_toQuestionS.calls k _ _ l3 t12 _ ?s0 ?s1 A14.out).mono ?_); (case s0 => exact (by repeat (first | exact (Kd.C_below HR3.out HB.out) | (with_reducible refine Kd.C_alloc ?_ _) | (with_reducible refine Kd.C_drewN ?_ _) | (with_reducible refine Kd.C_drew ?_)))); (case s1 => exact HC3.out); rintro e w114 ⟨v14_0, rfl, ho14_0, hb14⟩; refine ⟨_, rfl, ?_⟩) | (go_at_call 26; (with_reducible refine (laws_toQuestionS.calls k _ _ l3 t12 _ ?s0 ?s1 A14.out).mono ?_); (case s0 => exact (by repeat (first | exact (Kd.C_below HR3.out HB.out) | (with_reducible refine Kd.C_alloc ?_ _) | (with_reducible refine Kd.C_drewN ?_ _) | (with_reducible refine Kd.C_drew ?_)))); (case s1 => exact HC3.out); rintro e w114 ⟨v14_0, rfl, ho14_0, hb14⟩)
 have HO14_t10 := Aside0.mk (Kd.S_below (by (with_reducible repeat (first | apply Kd.S_alloc | apply Kd.S_drewN | apply Kd.S_drew)); exact HO13_t10.out) hb14)
 clear HO13_t10
 have HO14_t11 := Aside0.mk (Kd.S_below (by (with_reducible repeat (first | apply Kd.S_alloc | apply Kd.S_drewN | apply Kd.S_drew)); exact HO13_t11.out) hb14)
 clear HO13_t11
 obtain ⟨lo14, hi14, z14, e14, f14, g14⟩ := Go.Proofs.YtnafjfdalapegaaGreatW.GLaw.madeS (w := w) (show hi13 ≤ _ from Z0.out) (by repeat (first | exact HB.out | apply below_alloc | apply pw_below_drewN | apply below_drew1)) ho14_0
 have Y14 := Aside0.mk z14
 have X14 := Aside0.mk (show lo14 ≤ hi14 from by rw [e14, f14]; exact hb14.size)
 clear Z0
 have Z0 := Aside0.mk (show hi14 ≤ w114.heap.size from by rw [f14]; exact Nat.le_refl _)
 obtain ⟨Ao14, co14, eo14⟩ := Kd.S_slice g14
 subst eo14
 have HO14_t12 := Aside0.mk g14
 clear z14 e14 f14 g14 ho14_0
 have B_ := Aside0.mk (below_step (by repeat (first | exact HB.out | apply below_alloc | apply pw_below_drewN | apply below_drew1)) hb14)
 clear HB
 have HB := B_
 clear B_ hb14
 try go_wp2_with fail
 first | ((with_reducible refine gate_callee (f := 27) rfl ?_); refine goesL_ _ rfl rfl Tryz.func27 (by kernel_rfl) rfl #[.slice A4 l4.length c4] rfl (by (try simp only [List.map_toArray, List.map_cons, List.map_nil]); first | done | rfl | (simp only [List.length_drop, List.length_take]; rfl)) ?_; (with_reducible refine (laws_toIntS.calls k _ _ l4 t13 _ ?s0 ?s1 A15.out).mono ?_); (case s0 => exact (by repeat (first | exact (Kd.C_below HR4.out HB.out) | (with_reducible refine Kd.C_alloc ?_ _) | (with_reducible refine Kd.C_drewN ?_ _) | (with_reducible refine Kd.C_drew ?_)))); (case s1 => exact HC4.out); rintro e w115 ⟨v15_0, rfl, ho15_0, hb15⟩; refine ⟨_, rfl, ?_⟩) | (go_at_call 27; (with_reducible refine (laws_toIntS.calls k _ _ l4 t13 _ ?s0 ?s1 A15.out).mono ?_); (case s0 => exact (by repeat (first | exact (Kd.C_below HR4.out HB.out) | (with_reducible refine Kd.C_alloc ?_ _) | (with_reducible refine Kd.C_drewN ?_ _) | (with_reducible refine Kd.C_drew ?_)))); (case s1 => exact HC4.out); rintro e w115 ⟨v15_0, rfl, ho15_0, hb15⟩)
 have HO15_t10 := Aside0.mk (Kd.S_below (by (with_reducible repeat (first | apply Kd.S_alloc | apply Kd.S_drewN | apply Kd.S_drew)); exact HO14_t10.out) hb15)
 clear HO14_t10
 have HO15_t11 := Aside0.mk (Kd.S_below (by (with_reducible repeat (first | apply Kd.S_alloc | apply Kd.S_drewN | apply Kd.S_drew)); exact HO14_t11.out) hb15)
 clear HO14_t11
 have HO15_t12 := Aside0.mk (Kd.S_below (by (with_reducible repeat (first | apply Kd.S_alloc | apply Kd.S_drewN | apply Kd.S_drew)); exact HO14_t12.out) hb15)
 clear HO14_t12
 obtain ⟨lo15, hi15, z15, e15, f15, g15⟩ := Go.Proofs.YtnafjfdalapegaaGreatW.GLaw.madeR (w := w) (show hi14 ≤ _ from Z0.out) (by repeat (first | exact HB.out | apply below_alloc | apply pw_below_drewN | apply below_drew1)) ho15_0
 have Y15 := Aside0.mk z15
 have X15 := Aside0.mk (show lo15 ≤ hi15 from by rw [e15, f15]; exact hb15.size)
 clear Z0
 have Z0 := Aside0.mk (show hi15 ≤ w115.heap.size from by rw [f15]; exact Nat.le_refl _)
 obtain ⟨Ao15, co15, eo15⟩ := Kd.R_slice g15
 subst eo15
 have HO15_t13 := Aside0.mk g15
 clear z15 e15 f15 g15 ho15_0
 have B_ := Aside0.mk (below_step (by repeat (first | exact HB.out | apply below_alloc | apply pw_below_drewN | apply below_drew1)) hb15)
 clear HB
 have HB := B_
 clear B_ hb15
 try go_wp2_with fail
 first | ((with_reducible refine gate_callee (f := 28) rfl ?_); refine goesL_ _ rfl rfl Tryz.func28 (by kernel_rfl) rfl #[.slice Ao12 t10.length co12, .slice Ao13 t11.length co13, .int .i64 a2, .slice Ao14 t12.length co14, .slice Ao15 t13.length co15, .int .i64 a5] rfl (by (try simp only [List.map_toArray, List.map_cons, List.map_nil]); first | done | rfl | (simp only [List.length_drop, List.length_take]; rfl)) ?_; (with_reducible refine (impl_NextLesson.calls k _ _ t10 _ _ t11 (a2) _ _ t12 _ _ t13 (a5) t14 t15 _ ?s0 ?s1 ?s2 ?s3 ?s4 ?s5 ?s6 ?s7 A16.out).mono ?_); (case s0 => exact (by repeat (first | exact (Kd.S_reads' HO15_t10.out).2.2 | (with_reducible refine Kd.C_alloc ?_ _) | (with_reducible refine Kd.C_drewN ?_ _) | (with_reducible refine Kd.C_drew ?_)))); (case s1 => exact (by exact (Kd.S_reads' HO15_t10.out).2.1)); (case s2 => exact (by repeat (first | exact (Kd.S_reads' HO15_t11.out).2.2 | (with_reducible refine Kd.C_alloc ?_ _) | (with_reducible refine Kd.C_drewN ?_ _) | (with_reducible refine Kd.C_drew ?_)))); (case s3 => exact (by exact (Kd.S_reads' HO15_t11.out).2.1)); (case s4 => exact (by repeat (first | exact (Kd.S_reads' HO15_t12.out).2.2 | (with_reducible refine Kd.C_alloc ?_ _) | (with_reducible refine Kd.C_drewN ?_ _) | (with_reducible refine Kd.C_drew ?_)))); (case s5 => exact (by exact (Kd.S_reads' HO15_t12.out).2.1)); (case s6 => exact (by repeat (first | exact (Kd.R_reads' HO15_t13.out).2.2 | (with_reducible refine Kd.C_alloc ?_ _) | (with_reducible refine Kd.C_drewN ?_ _) | (with_reducible refine Kd.C_drew ?_)))); (case s7 => exact (by exact (Kd.R_reads' HO15_t13.out).2.1)); rintro e w116 ⟨rfl, hb16⟩; refine ⟨_, rfl, ?_⟩) | (go_at_call 28; (with_reducible refine (impl_NextLesson.calls k _ _ t10 _ _ t11 (a2) _ _ t12 _ _ t13 (a5) t14 t15 _ ?s0 ?s1 ?s2 ?s3 ?s4 ?s5 ?s6 ?s7 A16.out).mono ?_); (case s0 => exact (by repeat (first | exact (Kd.S_reads' HO15_t10.out).2.2 | (with_reducible refine Kd.C_alloc ?_ _) | (with_reducible refine Kd.C_drewN ?_ _) | (with_reducible refine Kd.C_drew ?_)))); (case s1 => exact (by exact (Kd.S_reads' HO15_t10.out).2.1)); (case s2 => exact (by repeat (first | exact (Kd.S_reads' HO15_t11.out).2.2 | (with_reducible refine Kd.C_alloc ?_ _) | (with_reducible refine Kd.C_drewN ?_ _) | (with_reducible refine Kd.C_drew ?_)))); (case s3 => exact (by exact (Kd.S_reads' HO15_t11.out).2.1)); (case s4 => exact (by repeat (first | exact (Kd.S_reads' HO15_t12.out).2.2 | (with_reducible refine Kd.C_alloc ?_ _) | (with_reducible refine Kd.C_drewN ?_ _) | (with_reducible refine Kd.C_drew ?_)))); (case s5 => exact (by exact (Kd.S_reads' HO15_t12.out).2.1)); (case s6 => exact (by repeat (first | exact (Kd.R_reads' HO15_t13.out).2.2 | (with_reducible refine Kd.C_alloc ?_ _) | (with_reducible refine Kd.C_drewN ?_ _) | (with_reducible refine Kd.C_drew ?_)))); (case s7 => exact (by exact (Kd.R_reads' HO15_t13.out).2.1)); rintro e w116 ⟨rfl, hb16⟩)
 have HO16_t10 := Aside0.mk (Kd.S_below (by (with_reducible repeat (first | apply Kd.S_alloc | apply Kd.S_drewN | apply Kd.S_drew)); exact HO15_t10.out) hb16)
 clear HO15_t10
 have HO16_t11 := Aside0.mk (Kd.S_below (by (with_reducible repeat (first | apply Kd.S_alloc | apply Kd.S_drewN | apply Kd.S_drew)); exact HO15_t11.out) hb16)
 clear HO15_t11
 have HO16_t12 := Aside0.mk (Kd.S_below (by (with_reducible repeat (first | apply Kd.S_alloc | apply Kd.S_drewN | apply Kd.S_drew)); exact HO15_t12.out) hb16)
 clear HO15_t12
 have HO16_t13 := Aside0.mk (Kd.R_below (by (with_reducible repeat (first | apply Kd.R_alloc | apply Kd.R_drewN | apply Kd.R_drew)); exact HO15_t13.out) hb16)
 clear HO15_t13
 have Z_ := Aside0.mk (Nat.le_trans (show hi15 ≤ _ from Z0.out) hb16.size)
 clear Z0
 have Z0 := Z_
 clear Z_
 have B_ := Aside0.mk (below_step (by repeat (first | exact HB.out | apply below_alloc | apply pw_below_drewN | apply below_drew1)) hb16)
 clear HB
 have HB := B_
 clear B_ hb16
 try go_wp2_with fail
 first | ((with_reducible refine gate_callee (f := 9) rfl ?_); refine goesL_ _ rfl rfl Tryz.func9 (by kernel_rfl) rfl #[.slice A0 l0.length c0] rfl (by (try simp only [List.map_toArray, List.map_cons, List.map_nil]); first | done | rfl | (simp only [List.length_drop, List.length_take]; rfl)) ?_; (with_reducible refine (laws_toWordS.calls k _ _ l0 t16 _ ?s0 ?s1 A19.out).mono ?_); (case s0 => exact (by repeat (first | exact (Kd.C_below HR0.out HB.out) | (with_reducible refine Kd.C_alloc ?_ _) | (with_reducible refine Kd.C_drewN ?_ _) | (with_reducible refine Kd.C_drew ?_)))); (case s1 => exact HC0.out); rintro e w119 ⟨v19_0, rfl, ho19_0, hb19⟩; refine ⟨_, rfl, ?_⟩) | (go_at_call 9; (with_reducible refine (laws_toWordS.calls k _ _ l0 t16 _ ?s0 ?s1 A19.out).mono ?_); (case s0 => exact (by repeat (first | exact (Kd.C_below HR0.out HB.out) | (with_reducible refine Kd.C_alloc ?_ _) | (with_reducible refine Kd.C_drewN ?_ _) | (with_reducible refine Kd.C_drew ?_)))); (case s1 => exact HC0.out); rintro e w119 ⟨v19_0, rfl, ho19_0, hb19⟩)
 have HO19_t10 := Aside0.mk (Kd.S_below (by (with_reducible repeat (first | apply Kd.S_alloc | apply Kd.S_drewN | apply Kd.S_drew)); exact HO16_t10.out) hb19)
 clear HO16_t10
 have HO19_t11 := Aside0.mk (Kd.S_below (by (with_reducible repeat (first | apply Kd.S_alloc | apply Kd.S_drewN | apply Kd.S_drew)); exact HO16_t11.out) hb19)
 clear HO16_t11
 have HO19_t12 := Aside0.mk (Kd.S_below (by (with_reducible repeat (first | apply Kd.S_alloc | apply Kd.S_drewN | apply Kd.S_drew)); exact HO16_t12.out) hb19)
 clear HO16_t12
 have HO19_t13 := Aside0.mk (Kd.R_below (by (with_reducible repeat (first | apply Kd.R_alloc | apply Kd.R_drewN | apply Kd.R_drew)); exact HO16_t13.out) hb19)
 clear HO16_t13
 obtain ⟨lo19, hi19, z19, e19, f19, g19⟩ := Go.Proofs.YtnafjfdalapegaaGreatW.GLaw.madeS (w := w) (show hi15 ≤ _ from Z0.out) (by repeat (first | exact HB.out | apply below_alloc | apply pw_below_drewN | apply below_drew1)) ho19_0
 have Y19 := Aside0.mk z19
 have X19 := Aside0.mk (show lo19 ≤ hi19 from by rw [e19, f19]; exact hb19.size)
 clear Z0
 have Z0 := Aside0.mk (show hi19 ≤ w119.heap.size from by rw [f19]; exact Nat.le_refl _)
 obtain ⟨Ao19, co19, eo19⟩ := Kd.S_slice g19
 subst eo19
 have HO19_t16 := Aside0.mk g19
 clear z19 e19 f19 g19 ho19_0
 have B_ := Aside0.mk (below_step (by repeat (first | exact HB.out | apply below_alloc | apply pw_below_drewN | apply below_drew1)) hb19)
 clear HB
 have HB := B_
 clear B_ hb19
 try go_wp2_with fail
 first | ((with_reducible refine gate_callee (f := 13) rfl ?_); refine goesL_ _ rfl rfl Tryz.func13 (by kernel_rfl) rfl #[.slice Ao12 t10.length co12, .slice Ao19 t16.length co19] rfl (by (try simp only [List.map_toArray, List.map_cons, List.map_nil]); first | done | rfl | (simp only [List.length_drop, List.length_take]; rfl)) ?_; (with_reducible refine (laws_eqWordS.calls k _ _ t10 _ _ t16 true _ ?s0 ?s1 ?s2 ?s3 A20.out).mono ?_); (case s0 => exact (by repeat (first | exact (Kd.S_reads' HO19_t10.out).2.2 | (with_reducible refine Kd.C_alloc ?_ _) | (with_reducible refine Kd.C_drewN ?_ _) | (with_reducible refine Kd.C_drew ?_)))); (case s1 => exact (by exact (Kd.S_reads' HO19_t10.out).2.1)); (case s2 => exact (by repeat (first | exact (Kd.S_reads' HO19_t16.out).2.2 | (with_reducible refine Kd.C_alloc ?_ _) | (with_reducible refine Kd.C_drewN ?_ _) | (with_reducible refine Kd.C_drew ?_)))); (case s3 => exact (by exact (Kd.S_reads' HO19_t16.out).2.1)); rintro e w120 ⟨rfl, hb20⟩; refine ⟨_, rfl, ?_⟩) | (go_at_call 13; (with_reducible refine (laws_eqWordS.calls k _ _ t10 _ _ t16 true _ ?s0 ?s1 ?s2 ?s3 A20.out).mono ?_); (case s0 => exact (by repeat (first | exact (Kd.S_reads' HO19_t10.out).2.2 | (with_reducible refine Kd.C_alloc ?_ _) | (with_reducible refine Kd.C_drewN ?_ _) | (with_reducible refine Kd.C_drew ?_)))); (case s1 => exact (by exact (Kd.S_reads' HO19_t10.out).2.1)); (case s2 => exact (by repeat (first | exact (Kd.S_reads' HO19_t16.out).2.2 | (with_reducible refine Kd.C_alloc ?_ _) | (with_reducible refine Kd.C_drewN ?_ _) | (with_reducible refine Kd.C_drew ?_)))); (case s3 => exact (by exact (Kd.S_reads' HO19_t16.out).2.1)); rintro e w120 ⟨rfl, hb20⟩)
 clear HO19_t10
 have HO20_t11 := Aside0.mk (Kd.S_below (by (with_reducible repeat (first | apply Kd.S_alloc | apply Kd.S_drewN | apply Kd.S_drew)); exact HO19_t11.out) hb20)
 clear HO19_t11
 have HO20_t12 := Aside0.mk (Kd.S_below (by (with_reducible repeat (first | apply Kd.S_alloc | apply Kd.S_drewN | apply Kd.S_drew)); exact HO19_t12.out) hb20)
 clear HO19_t12
 have HO20_t13 := Aside0.mk (Kd.R_below (by (with_reducible repeat (first | apply Kd.R_alloc | apply Kd.R_drewN | apply Kd.R_drew)); exact HO19_t13.out) hb20)
 clear HO19_t13
 clear HO19_t16
 have Z_ := Aside0.mk (Nat.le_trans (show hi19 ≤ _ from Z0.out) hb20.size)
 clear Z0
 have Z0 := Z_
 clear Z_
 have B_ := Aside0.mk (below_step (by repeat (first | exact HB.out | apply below_alloc | apply pw_below_drewN | apply below_drew1)) hb20)
 clear HB
 have HB := B_
 clear B_ hb20
 try go_wp2_with fail
 first | ((with_reducible refine gate_callee (f := 10) rfl ?_); refine goesL_ _ rfl rfl Tryz.func10 (by kernel_rfl) rfl #[.slice A1 l1.length c1] rfl (by (try simp only [List.map_toArray, List.map_cons, List.map_nil]); first | done | rfl | (simp only [List.length_drop, List.length_take]; rfl)) ?_; (with_reducible refine (laws_toIntSS.calls k _ _ l1 t18 _ ?s0 ?s1 A22.out).mono ?_); (case s0 => exact (by repeat (first | exact (Kd.C_below HR1.out HB.out) | (with_reducible refine Kd.C_alloc ?_ _) | (with_reducible refine Kd.C_drewN ?_ _) | (with_reducible refine Kd.C_drew ?_)))); (case s1 => exact HC1.out); rintro e w122 ⟨v22_0, rfl, ho22_0, hb22⟩; refine ⟨_, rfl, ?_⟩) | (go_at_call 10; (with_reducible refine (laws_toIntSS.calls k _ _ l1 t18 _ ?s0 ?s1 A22.out).mono ?_); (case s0 => exact (by repeat (first | exact (Kd.C_below HR1.out HB.out) | (with_reducible refine Kd.C_alloc ?_ _) | (with_reducible refine Kd.C_drewN ?_ _) | (with_reducible refine Kd.C_drew ?_)))); (case s1 => exact HC1.out); rintro e w122 ⟨v22_0, rfl, ho22_0, hb22⟩)
 have HO22_t11 := Aside0.mk (Kd.S_below (by (with_reducible repeat (first | apply Kd.S_alloc | apply Kd.S_drewN | apply Kd.S_drew)); exact HO20_t11.out) hb22)
 clear HO20_t11
 have HO22_t12 := Aside0.mk (Kd.S_below (by (with_reducible repeat (first | apply Kd.S_alloc | apply Kd.S_drewN | apply Kd.S_drew)); exact HO20_t12.out) hb22)
 clear HO20_t12
 have HO22_t13 := Aside0.mk (Kd.R_below (by (with_reducible repeat (first | apply Kd.R_alloc | apply Kd.R_drewN | apply Kd.R_drew)); exact HO20_t13.out) hb22)
 clear HO20_t13
 obtain ⟨lo22, hi22, z22, e22, f22, g22⟩ := Go.Proofs.YtnafjfdalapegaaGreatW.GLaw.madeS (w := w) (show hi19 ≤ _ from Z0.out) (by repeat (first | exact HB.out | apply below_alloc | apply pw_below_drewN | apply below_drew1)) ho22_0
 have Y22 := Aside0.mk z22
 have X22 := Aside0.mk (show lo22 ≤ hi22 from by rw [e22, f22]; exact hb22.size)
 clear Z0
 have Z0 := Aside0.mk (show hi22 ≤ w122.heap.size from by rw [f22]; exact Nat.le_refl _)
 obtain ⟨Ao22, co22, eo22⟩ := Kd.S_slice g22
 subst eo22
 have HO22_t18 := Aside0.mk g22
 clear z22 e22 f22 g22 ho22_0
 have B_ := Aside0.mk (below_step (by repeat (first | exact HB.out | apply below_alloc | apply pw_below_drewN | apply below_drew1)) hb22)
 clear HB
 have HB := B_
 clear B_ hb22
 try go_wp2_with fail
 first | ((with_reducible refine gate_callee (f := 14) rfl ?_); refine goesL_ _ rfl rfl Tryz.func14 (by kernel_rfl) rfl #[.slice Ao13 t11.length co13, .slice Ao22 t18.length co22] rfl (by (try simp only [List.map_toArray, List.map_cons, List.map_nil]); first | done | rfl | (simp only [List.length_drop, List.length_take]; rfl)) ?_; (with_reducible refine (laws_eqIntSS.calls k _ _ t11 _ _ t18 true _ ?s0 ?s1 ?s2 ?s3 A23.out).mono ?_); (case s0 => exact (by repeat (first | exact (Kd.S_reads' HO22_t11.out).2.2 | (with_reducible refine Kd.C_alloc ?_ _) | (with_reducible refine Kd.C_drewN ?_ _) | (with_reducible refine Kd.C_drew ?_)))); (case s1 => exact (by exact (Kd.S_reads' HO22_t11.out).2.1)); (case s2 => exact (by repeat (first | exact (Kd.S_reads' HO22_t18.out).2.2 | (with_reducible refine Kd.C_alloc ?_ _) | (with_reducible refine Kd.C_drewN ?_ _) | (with_reducible refine Kd.C_drew ?_)))); (case s3 => exact (by exact (Kd.S_reads' HO22_t18.out).2.1)); rintro e w123 ⟨rfl, hb23⟩; refine ⟨_, rfl, ?_⟩) | (go_at_call 14; (with_reducible refine (laws_eqIntSS.calls k _ _ t11 _ _ t18 true _ ?s0 ?s1 ?s2 ?s3 A23.out).mono ?_); (case s0 => exact (by repeat (first | exact (Kd.S_reads' HO22_t11.out).2.2 | (with_reducible refine Kd.C_alloc ?_ _) | (with_reducible refine Kd.C_drewN ?_ _) | (with_reducible refine Kd.C_drew ?_)))); (case s1 => exact (by exact (Kd.S_reads' HO22_t11.out).2.1)); (case s2 => exact (by repeat (first | exact (Kd.S_reads' HO22_t18.out).2.2 | (with_reducible refine Kd.C_alloc ?_ _) | (with_reducible refine Kd.C_drewN ?_ _) | (with_reducible refine Kd.C_drew ?_)))); (case s3 => exact (by exact (Kd.S_reads' HO22_t18.out).2.1)); rintro e w123 ⟨rfl, hb23⟩)
 replace hb23 := hb23.below
 clear HO22_t11
 have HO23_t12 := Aside0.mk (Kd.S_below (by (with_reducible repeat (first | apply Kd.S_alloc | apply Kd.S_drewN | apply Kd.S_drew)); exact HO22_t12.out) hb23)
 clear HO22_t12
 have HO23_t13 := Aside0.mk (Kd.R_below (by (with_reducible repeat (first | apply Kd.R_alloc | apply Kd.R_drewN | apply Kd.R_drew)); exact HO22_t13.out) hb23)
 clear HO22_t13
 clear HO22_t18
 have Z_ := Aside0.mk (Nat.le_trans (show hi22 ≤ _ from Z0.out) hb23.size)
 clear Z0
 have Z0 := Z_
 clear Z_
 have B_ := Aside0.mk (below_step (by repeat (first | exact HB.out | apply below_alloc | apply pw_below_drewN | apply below_drew1)) hb23)
 clear HB
 have HB := B_
 clear B_ hb23
 try go_wp2_with fail
 first | ((with_reducible refine gate_callee (f := 26) rfl ?_); refine goesL_ _ rfl rfl Tryz.func26 (by kernel_rfl) rfl #[.slice A3 l3.length c3] rfl (by (try simp only [List.map_toArray, List.map_cons, List.map_nil]); first | done | rfl | (simp only [List.length_drop, List.length_take]; rfl)) ?_; (with_reducible refine (laws_toQuestionS.calls k _ _ l3 t20 _ ?s0 ?s1 A25.out).mono ?_); (case s0 => exact (by repeat (first | exact (Kd.C_below HR3.out HB.out) | (with_reducible refine Kd.C_alloc ?_ _) | (with_reducible refine Kd.C_drewN ?_ _) | (with_reducible refine Kd.C_drew ?_)))); (case s1 => exact HC3.out); rintro e w125 ⟨v25_0, rfl, ho25_0, hb25⟩; refine ⟨_, rfl, ?_⟩) | (go_at_call 26; (with_reducible refine (laws_toQuestionS.calls k _ _ l3 t20 _ ?s0 ?s1 A25.out).mono ?_); (case s0 => exact (by repeat (first | exact (Kd.C_below HR3.out HB.out) | (with_reducible refine Kd.C_alloc ?_ _) | (with_reducible refine Kd.C_drewN ?_ _) | (with_reducible refine Kd.C_drew ?_)))); (case s1 => exact HC3.out); rintro e w125 ⟨v25_0, rfl, ho25_0, hb25⟩)
 have HO25_t12 := Aside0.mk (Kd.S_below (by (with_reducible repeat (first | apply Kd.S_alloc | apply Kd.S_drewN | apply Kd.S_drew)); exact HO23_t12.out) hb25)
 clear HO23_t12
 have HO25_t13 := Aside0.mk (Kd.R_below (by (with_reducible repeat (first | apply Kd.R_alloc | apply Kd.R_drewN | apply Kd.R_drew)); exact HO23_t13.out) hb25)
 clear HO23_t13
 obtain ⟨lo25, hi25, z25, e25, f25, g25⟩ := Go.Proofs.YtnafjfdalapegaaGreatW.GLaw.madeS (w := w) (show hi22 ≤ _ from Z0.out) (by repeat (first | exact HB.out | apply below_alloc | apply pw_below_drewN | apply below_drew1)) ho25_0
 have Y25 := Aside0.mk z25
 have X25 := Aside0.mk (show lo25 ≤ hi25 from by rw [e25, f25]; exact hb25.size)
 clear Z0
 have Z0 := Aside0.mk (show hi25 ≤ w125.heap.size from by rw [f25]; exact Nat.le_refl _)
 obtain ⟨Ao25, co25, eo25⟩ := Kd.S_slice g25
 subst eo25
 have HO25_t20 := Aside0.mk g25
 clear z25 e25 f25 g25 ho25_0
 have B_ := Aside0.mk (below_step (by repeat (first | exact HB.out | apply below_alloc | apply pw_below_drewN | apply below_drew1)) hb25)
 clear HB
 have HB := B_
 clear B_ hb25
 try go_wp2_with fail
 first | ((with_reducible refine gate_callee (f := 21) rfl ?_); refine goesL_ _ rfl rfl Tryz.func21 (by kernel_rfl) rfl #[.slice Ao14 t12.length co14, .slice Ao25 t20.length co25] rfl (by (try simp only [List.map_toArray, List.map_cons, List.map_nil]); first | done | rfl | (simp only [List.length_drop, List.length_take]; rfl)) ?_; (with_reducible refine (laws_eqQuestionS.calls k _ _ t12 _ _ t20 true _ ?s0 ?s1 ?s2 ?s3 A26.out).mono ?_); (case s0 => exact (by repeat (first | exact (Kd.S_reads' HO25_t12.out).2.2 | (with_reducible refine Kd.C_alloc ?_ _) | (with_reducible refine Kd.C_drewN ?_ _) | (with_reducible refine Kd.C_drew ?_)))); (case s1 => exact (by exact (Kd.S_reads' HO25_t12.out).2.1)); (case s2 => exact (by repeat (first | exact (Kd.S_reads' HO25_t20.out).2.2 | (with_reducible refine Kd.C_alloc ?_ _) | (with_reducible refine Kd.C_drewN ?_ _) | (with_reducible refine Kd.C_drew ?_)))); (case s3 => exact (by exact (Kd.S_reads' HO25_t20.out).2.1)); rintro e w126 ⟨rfl, hb26⟩; refine ⟨_, rfl, ?_⟩) | (go_at_call 21; (with_reducible refine (laws_eqQuestionS.calls k _ _ t12 _ _ t20 true _ ?s0 ?s1 ?s2 ?s3 A26.out).mono ?_); (case s0 => exact (by repeat (first | exact (Kd.S_reads' HO25_t12.out).2.2 | (with_reducible refine Kd.C_alloc ?_ _) | (with_reducible refine Kd.C_drewN ?_ _) | (with_reducible refine Kd.C_drew ?_)))); (case s1 => exact (by exact (Kd.S_reads' HO25_t12.out).2.1)); (case s2 => exact (by repeat (first | exact (Kd.S_reads' HO25_t20.out).2.2 | (with_reducible refine Kd.C_alloc ?_ _) | (with_reducible refine Kd.C_drewN ?_ _) | (with_reducible refine Kd.C_drew ?_)))); (case s3 => exact (by exact (Kd.S_reads' HO25_t20.out).2.1)); rintro e w126 ⟨rfl, hb26⟩)
 clear HO25_t12
 have HO26_t13 := Aside0.mk (Kd.R_below (by (with_reducible repeat (first | apply Kd.R_alloc | apply Kd.R_drewN | apply Kd.R_drew)); exact HO25_t13.out) hb26)
 clear HO25_t13
 clear HO25_t20
 have Z_ := Aside0.mk (Nat.le_trans (show hi25 ≤ _ from Z0.out) hb26.size)
 clear Z0
 have Z0 := Z_
 clear Z_
 have B_ := Aside0.mk (below_step (by repeat (first | exact HB.out | apply below_alloc | apply pw_below_drewN | apply below_drew1)) hb26)
 clear HB
 have HB := B_
 clear B_ hb26
 try go_wp2_with fail
 first | ((with_reducible refine gate_callee (f := 27) rfl ?_); refine goesL_ _ rfl rfl Tryz.func27 (by kernel_rfl) rfl #[.slice A4 l4.length c4] rfl (by (try simp only [List.map_toArray, List.map_cons, List.map_nil]); first | done | rfl | (simp only [List.length_drop, List.length_take]; rfl)) ?_; (with_reducible refine (laws_toIntS.calls k _ _ l4 t22 _ ?s0 ?s1 A28.out).mono ?_); (case s0 => exact (by repeat (first | exact (Kd.C_below HR4.out HB.out) | (with_reducible refine Kd.C_alloc ?_ _) | (with_reducible refine Kd.C_drewN ?_ _) | (with_reducible refine Kd.C_drew ?_)))); (case s1 => exact HC4.out); rintro e w128 ⟨v28_0, rfl, ho28_0, hb28⟩; refine ⟨_, rfl, ?_⟩) | (go_at_call 27; (with_reducible refine (laws_toIntS.calls k _ _ l4 t22 _ ?s0 ?s1 A28.out).mono ?_); (case s0 => exact (by repeat (first | exact (Kd.C_below HR4.out HB.out) | (with_reducible refine Kd.C_alloc ?_ _) | (with_reducible refine Kd.C_drewN ?_ _) | (with_reducible refine Kd.C_drew ?_)))); (case s1 => exact HC4.out); rintro e w128 ⟨v28_0, rfl, ho28_0, hb28⟩)
 have HO28_t13 := Aside0.mk (Kd.R_below (by (with_reducible repeat (first | apply Kd.R_alloc | apply Kd.R_drewN | apply Kd.R_drew)); exact HO26_t13.out) hb28)
 clear HO26_t13
 obtain ⟨lo28, hi28, z28, e28, f28, g28⟩ := Go.Proofs.YtnafjfdalapegaaGreatW.GLaw.madeR (w := w) (show hi25 ≤ _ from Z0.out) (by repeat (first | exact HB.out | apply below_alloc | apply pw_below_drewN | apply below_drew1)) ho28_0
 have Y28 := Aside0.mk z28
 have X28 := Aside0.mk (show lo28 ≤ hi28 from by rw [e28, f28]; exact hb28.size)
 clear Z0
 have Z0 := Aside0.mk (show hi28 ≤ w128.heap.size from by rw [f28]; exact Nat.le_refl _)
 obtain ⟨Ao28, co28, eo28⟩ := Kd.R_slice g28
 subst eo28
 have HO28_t22 := Aside0.mk g28
 clear z28 e28 f28 g28 ho28_0
 have B_ := Aside0.mk (below_step (by repeat (first | exact HB.out | apply below_alloc | apply pw_below_drewN | apply below_drew1)) hb28)
 clear HB
 have HB := B_
 clear B_ hb28
 try go_wp2_with fail
 first | ((with_reducible refine gate_callee (f := 29) rfl ?_); refine goesL_ _ rfl rfl Tryz.func29 (by kernel_rfl) rfl #[.slice Ao15 t13.length co15, .slice Ao28 t22.length co28] rfl (by (try simp only [List.map_toArray, List.map_cons, List.map_nil]); first | done | rfl | (simp only [List.length_drop, List.length_take]; rfl)) ?_; (with_reducible refine (laws_eqIntS.calls k _ _ t13 _ _ t22 true _ ?s0 ?s1 ?s2 ?s3 A29.out).mono ?_); (case s0 => exact (by repeat (first | exact (Kd.R_reads' HO28_t13.out).2.2 | (with_reducible refine Kd.C_alloc ?_ _) | (with_reducible refine Kd.C_drewN ?_ _) | (with_reducible refine Kd.C_drew ?_)))); (case s1 => exact (by exact (Kd.R_reads' HO28_t13.out).2.1)); (case s2 => exact (by repeat (first | exact (Kd.R_reads' HO28_t22.out).2.2 | (with_reducible refine Kd.C_alloc ?_ _) | (with_reducible refine Kd.C_drewN ?_ _) | (with_reducible refine Kd.C_drew ?_)))); (case s3 => exact (by exact (Kd.R_reads' HO28_t22.out).2.1)); rintro e w129 ⟨rfl, hb29⟩; refine ⟨_, rfl, ?_⟩) | (go_at_call 29; (with_reducible refine (laws_eqIntS.calls k _ _ t13 _ _ t22 true _ ?s0 ?s1 ?s2 ?s3 A29.out).mono ?_); (case s0 => exact (by repeat (first | exact (Kd.R_reads' HO28_t13.out).2.2 | (with_reducible refine Kd.C_alloc ?_ _) | (with_reducible refine Kd.C_drewN ?_ _) | (with_reducible refine Kd.C_drew ?_)))); (case s1 => exact (by exact (Kd.R_reads' HO28_t13.out).2.1)); (case s2 => exact (by repeat (first | exact (Kd.R_reads' HO28_t22.out).2.2 | (with_reducible refine Kd.C_alloc ?_ _) | (with_reducible refine Kd.C_drewN ?_ _) | (with_reducible refine Kd.C_drew ?_)))); (case s3 => exact (by exact (Kd.R_reads' HO28_t22.out).2.1)); rintro e w129 ⟨rfl, hb29⟩)
 replace hb29 := hb29.below
 clear HO28_t13
 clear HO28_t22
 have Z_ := Aside0.mk (Nat.le_trans (show hi28 ≤ _ from Z0.out) hb29.size)
 clear Z0
 have Z0 := Z_
 clear Z_
 have B_ := Aside0.mk (below_step (by repeat (first | exact HB.out | apply below_alloc | apply pw_below_drewN | apply below_drew1)) hb29)
 clear HB
 have HB := B_
 clear B_ hb29
 try go_wp2_with fail
 go_ret
 exact ⟨by first | rfl | (simp [*, errW_none, errW_some] <;> rfl), (by repeat (first | exact HB.out | apply below_alloc | apply pw_below_drewN | apply below_drew1))⟩

/-- The one pure statement of laws_FnExactNextLesson. -/
def laws_FnExactNextLesson.Pure : Prop := ∀ (l0 : List (S56)) (l1 : List (List Int)) (a2 : Int) (l3 : List (S69)) (l4 : List Int) (a5 : Int), l0.length * 48 ≤ 140737488351232 → (∀ y, y ∈ l0 → B56 y) → l1.length * 24 ≤ 140737488351232 → (∀ y, y ∈ l1 → ((y).length * 8 ≤ 140737488351232 ∧ ∀ z, z ∈ y → (Lit.int .i64 z).wf = true)) → (Lit.int .i64 a2).wf = true → l3.length * 32 ≤ 140737488351232 → (∀ y, y ∈ l3 → B69 y) → l4.length * 8 ≤ 140737488351232 → (∀ y, y ∈ l4 → (Lit.int .i64 y).wf = true) → (Lit.int .i64 a5).wf = true → ∃ k, laws_FnExactNextLesson.f k l0 l1 a2 l3 l4 a5 = some true
theorem laws_FnExactNextLesson.walk (P : laws_FnExactNextLesson.Pure) (w : World) (A0 : Option Addr) (c0 : Nat) (l0 : List (S56)) (hr0 : Kd.C k56 w A0 l0.length l0) (hc0 : l0.length ≤ c0) (hx0 : l0.length * 48 ≤ 140737488351232 ∧ ∀ y, y ∈ l0 → B56 y) (A1 : Option Addr) (c1 : Nat) (l1 : List (List Int)) (hr1 : Kd.C (Kd.slice 3 (Kd.int .i64)) w A1 l1.length l1) (hc1 : l1.length ≤ c1) (hx1 : l1.length * 24 ≤ 140737488351232 ∧ ∀ y, y ∈ l1 → ((y).length * 8 ≤ 140737488351232 ∧ ∀ z, z ∈ y → (Lit.int .i64 z).wf = true)) (a2 : Int) (hx2 : (Lit.int .i64 a2).wf = true) (A3 : Option Addr) (c3 : Nat) (l3 : List (S69)) (hr3 : Kd.C k69 w A3 l3.length l3) (hc3 : l3.length ≤ c3) (hx3 : l3.length * 32 ≤ 140737488351232 ∧ ∀ y, y ∈ l3 → B69 y) (A4 : Option Addr) (c4 : Nat) (l4 : List Int) (hr4 : Kd.C (Kd.int .i64) w A4 l4.length l4) (hc4 : l4.length ≤ c4) (hx4 : l4.length * 8 ≤ 140737488351232 ∧ ∀ y, y ∈ l4 → (Lit.int .i64 y).wf = true) (a5 : Int) (hx5 : (Lit.int .i64 a5).wf = true) :
  Calls Tryz.prog 5 #[.slice A0 l0.length c0, .slice A1 l1.length c1, .int .i64 a2, .slice A3 l3.length c3, .slice A4 l4.length c4, .int .i64 a5] w fun e w' => e = .returned (.bool true) ∧ Below w.heap.size w w' := by
 obtain ⟨k, h⟩ := P l0 l1 a2 l3 l4 a5 hx0.1 hx0.2 hx1.1 hx1.2 hx2 hx3.1 hx3.2 hx4.1 hx4.2 hx5
 refine (laws_FnExactNextLesson.calls k A0 c0 l0 A1 c1 l1 a2 A3 c3 l3 A4 c4 l4 a5 true w hr0 hc0 hr1 hc1 hr3 hc3 hr4 hc4 h).mono ?_
 rintro e w' ⟨rfl, hd⟩
 exact ⟨rfl, hd⟩

end Go.Proofs.YtnafjfdalapegaaGreat.Q
