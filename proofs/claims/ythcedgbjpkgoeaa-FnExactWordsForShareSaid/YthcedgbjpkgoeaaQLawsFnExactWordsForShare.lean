-- Written for the seat Ythcedgbjpkgoeaa by a program of this session (wip/tool/gx.py) out of the translation. Lean checks it.
import Derived.Test.YthcedgbjpkgoeaaQ0
import Derived.Test.YthcedgbjpkgoeaaQBImplHasNeeds1
import Derived.Test.YthcedgbjpkgoeaaQBLawsMarkWordS
import Derived.Test.YthcedgbjpkgoeaaQBLawsSzIntS
import Derived.Test.YthcedgbjpkgoeaaQBounds
import Derived.Test.YthcedgbjpkgoeaaQSpecWordsForShare
import Derived.Test.YthcedgbjpkgoeaaGLaw
import Derived.Test.YthcedgbjpkgoeaaWApart
import Derived.Test.YthcedgbjpkgoeaaWFoot
import Derived.Test.YthcedgbjpkgoeaaWKept
import Derived.Test.YthcedgbjpkgoeaaWShare
import Derived.Test.YthcedgbjpkgoeaaWRepsOne
namespace Go.Proofs.Ythcedgbjpkgoeaa.Q
open Go.RowKit Go.Proofs.YthcedgbjpkgoeaaW.PrintWords Go.Proofs.YthcedgbjpkgoeaaW.PrintLast Go.Proofs.YthcedgbjpkgoeaaW.PrintMore
attribute [local go_sem] max2_int min2_int max_two min_two max_three min_three max_four min_four   -- for this text's walks alone
set_option linter.unusedVariables false
set_option linter.unusedSimpArgs false

/-! ### laws_FnExactWordsForShare: function 8 -/
def laws_FnExactWordsForShare.f (k : Nat) (l0 : List (S54)) (a1 : Int) : Option Bool := ((laws_szWordS.f k l0 1048576).bind fun t1 => (if t1 < 0 then some true else ((laws_toWordS.f k l0).bind fun t2 => ((spec_WordsForShare.f k t2 a1).bind fun bt3 => ((laws_toWordS.f k l0).bind fun t5 => ((impl_WordsForShare.f k t5 a1).bind fun bt6 => ((laws_eqIntS.f k bt6.1 bt3.1).bind fun t8 => (if t8 = true then (if bt6.2 = bt3.2 then ((laws_toWordS.f k l0).bind fun t9 => ((laws_eqWordS.f k t5 t9).bind fun t10 => (if t10 = true then ((laws_markWordS.f k t5 1).bind fun bt11 => (if bt11.1 < 0 then none else ((laws_eqIntS.f k bt6.1 bt3.1).bind fun t13 => (if t13 = true then (if bt6.2 = bt3.2 then ((laws_markIntS.f k bt6.1 1).bind fun bt14 => ((laws_heldIntS.f k bt14.2 1).bind fun t16 => (if t16 < 0 then none else (if t16 = bt14.1 then ((laws_toWordS.f k l0).bind fun t17 => ((impl_WordsForShare.f k t17 a1).bind fun bt18 => ((laws_eqIntS.f k bt18.1 bt3.1).bind fun t20 => (if t20 = true then (if bt18.2 = bt3.2 then ((laws_heldIntS.f k bt14.2 1).bind fun t21 => (if t21 < 0 then none else (if t21 = bt14.1 then some true else none))) else none) else none)))) else none)))) else none) else none)))) else none))) else none) else none))))))))
theorem laws_FnExactWordsForShare.mono : ∀ l0 a1 k, LeO (laws_FnExactWordsForShare.f k l0 a1) (laws_FnExactWordsForShare.f (k + 1) l0 a1) := by
 intro l0 a1 k
 unfold laws_FnExactWordsForShare.f
 repeat' first
  | (with_reducible exact impl_WordsForShare.mono _ _ _)
  | (with_reducible exact laws_eqIntS.mono _ _ _)
  | (with_reducible exact laws_eqWordS.mono _ _ _)
  | (with_reducible exact laws_heldIntS.mono _ _ _)
  | (with_reducible exact laws_markIntS.mono _ _ _)
  | (with_reducible exact laws_markWordS.mono _ _ _)
  | (with_reducible exact laws_szWordS.mono _ _ _)
  | (with_reducible exact laws_toWordS.mono _ _)
  | (with_reducible exact spec_WordsForShare.mono _ _ _)
  | (with_reducible exact LeO.refl _)
  | (with_reducible exact LeO.none _)
  | (with_reducible refine LeO.ite ?_ ?_)
  | (with_reducible refine LeO.bind ?_ (fun _ => ?_))
attribute [local go_sem] max2_int min2_int max_two min_two max_three min_three max_four min_four
set_option maxHeartbeats 4000000 in
set_option maxRecDepth 100000 in
theorem laws_FnExactWordsForShare.calls (k : Nat) (A0 : Option Addr) (c0 : Nat) (l0 : List (S54)) (a1 : Int) (r : Bool) (w : World) (hr0 : Kd.C k54 w A0 l0.length l0) (hc0 : l0.length ≤ c0) (h : laws_FnExactWordsForShare.f k l0 a1 = some r) :
  Calls Try.prog 8 #[.slice A0 l0.length c0, .int .i64 a1] w fun e w' => e = .returned (.bool r) ∧ Below w.heap.size w w' := by
 have HR0 := Aside0.mk hr0
 have HC0 := Aside0.mk hc0
 clear hr0 hc0
 have HB := Aside0.mk (Below.refl w.heap.size w)
 have Z0 := Aside0.mk (Nat.le_refl w.heap.size)
 have H : ((laws_szWordS.f k l0 1048576).bind fun t1 => (if t1 < 0 then some true else ((laws_toWordS.f k l0).bind fun t2 => ((spec_WordsForShare.f k t2 a1).bind fun bt3 => ((laws_toWordS.f k l0).bind fun t5 => ((impl_WordsForShare.f k t5 a1).bind fun bt6 => ((laws_eqIntS.f k bt6.1 bt3.1).bind fun t8 => (if t8 = true then (if bt6.2 = bt3.2 then ((laws_toWordS.f k l0).bind fun t9 => ((laws_eqWordS.f k t5 t9).bind fun t10 => (if t10 = true then ((laws_markWordS.f k t5 1).bind fun bt11 => (if bt11.1 < 0 then none else ((laws_eqIntS.f k bt6.1 bt3.1).bind fun t13 => (if t13 = true then (if bt6.2 = bt3.2 then ((laws_markIntS.f k bt6.1 1).bind fun bt14 => ((laws_heldIntS.f k bt14.2 1).bind fun t16 => (if t16 < 0 then none else (if t16 = bt14.1 then ((laws_toWordS.f k l0).bind fun t17 => ((impl_WordsForShare.f k t17 a1).bind fun bt18 => ((laws_eqIntS.f k bt18.1 bt3.1).bind fun t20 => (if t20 = true then (if bt18.2 = bt3.2 then ((laws_heldIntS.f k bt14.2 1).bind fun t21 => (if t21 < 0 then none else (if t21 = bt14.1 then some true else none))) else none) else none)))) else none)))) else none) else none)))) else none))) else none) else none)))))))) = some r := h
 clear h
 replace H := Option.bind_eq_some_iff.mp H
 obtain ⟨t1, A0_0, H⟩ := H
 try dsimp only at H
 have A0 := Aside0.mk A0_0
 clear A0_0
 by_cases q1 : t1 < 0
 ·rw [if_pos q1] at H
  obtain rfl := Option.some.inj H
  have d1_0 : decide (t1 < 0) = true := decide_eq_true (by omega)
  clear q1
  go_enter Try.func8, Try.ntmps8
  try go_wp2_with fail
  first | ((with_reducible refine gate_callee (f := 10) rfl ?_); refine goesL_ _ rfl rfl Try.func10 (by kernel_rfl) rfl #[.slice A0 l0.length c0, .int .i64 1048576] rfl (by (try simp only [List.map_toArray, List.map_cons, List.map_nil]); first | done | rfl | (simp only [List.length_drop, List.length_take]; rfl)) ?_; (with_reducible refine (laws_szWordS.calls k _ _ l0 (1048576) t1 _ ?s0 ?s1 A0.out).mono ?_); (case s0 => exact (by repeat (first | exact (Kd.C_below HR0.out HB.out) | (with_reducible refine Kd.C_alloc ?_ _) | (with_reducible refine Kd.C_drewN ?_ _) | (with_reducible refine Kd.C_drew ?_)))); (case s1 => exact HC0.out); rintro e w100 ⟨rfl, hb0⟩; refine ⟨_, rfl, ?_⟩) | (go_at_call 10; (with_reducible refine (laws_szWordS.calls k _ _ l0 (1048576) t1 _ ?s0 ?s1 A0.out).mono ?_); (case s0 => exact (by repeat (first | exact (Kd.C_below HR0.out HB.out) | (with_reducible refine Kd.C_alloc ?_ _) | (with_reducible refine Kd.C_drewN ?_ _) | (with_reducible refine Kd.C_drew ?_)))); (case s1 => exact HC0.out); rintro e w100 ⟨rfl, hb0⟩)
  have Z_ := Aside0.mk (Nat.le_trans (show w.heap.size ≤ _ from Z0.out) hb0.size)
  clear Z0
  have Z0 := Z_
  clear Z_
  have B_ := Aside0.mk (below_step (by repeat (first | exact HB.out | apply below_alloc | apply pw_below_drewN | apply below_drew1)) hb0)
  clear HB
  have HB := B_
  clear B_ hb0
  try go_wp2_with fail
  go_ret
  exact ⟨by first | rfl | (simp [*, errW_none, errW_some] <;> rfl), (by repeat (first | exact HB.out | apply below_alloc | apply pw_below_drewN | apply below_drew1))⟩
 rw [if_neg q1] at H
 have d1_0 : decide (t1 < 0) = false := decide_eq_false (by omega)
 clear q1
 replace H := Option.bind_eq_some_iff.mp H
 obtain ⟨t2, A0_2, H⟩ := H
 try dsimp only at H
 have A2 := Aside0.mk A0_2
 clear A0_2
 replace H := Option.bind_eq_some_iff.mp H
 obtain ⟨⟨t3, t4⟩, A0_3, H⟩ := H
 try dsimp only at H
 have A3 := Aside0.mk A0_3
 clear A0_3
 replace H := Option.bind_eq_some_iff.mp H
 obtain ⟨t5, A0_4, H⟩ := H
 try dsimp only at H
 have A4 := Aside0.mk A0_4
 clear A0_4
 replace H := Option.bind_eq_some_iff.mp H
 obtain ⟨⟨t6, t7⟩, A0_5, H⟩ := H
 try dsimp only at H
 have A5 := Aside0.mk A0_5
 clear A0_5
 replace H := Option.bind_eq_some_iff.mp H
 obtain ⟨t8, A0_6, H⟩ := H
 try dsimp only at H
 have A6 := Aside0.mk A0_6
 clear A0_6
 obtain ⟨q7, H1⟩ := Go.Proofs.YthcedgbjpkgoeaaW.GLaw.ite_some H
 clear H
 have H := H1
 clear H1
 subst q7
 obtain ⟨q8, H1⟩ := Go.Proofs.YthcedgbjpkgoeaaW.GLaw.ite_some H
 clear H
 have H := H1
 clear H1
 have d8_0 : (t7 == t4) = true := beq_iff_eq.mpr q8
 have d8_1 : (t7 != t4) = false := bne_eq_false_iff_eq.mpr q8
 clear q8
 replace H := Option.bind_eq_some_iff.mp H
 obtain ⟨t9, A0_9, H⟩ := H
 try dsimp only at H
 have A9 := Aside0.mk A0_9
 clear A0_9
 replace H := Option.bind_eq_some_iff.mp H
 obtain ⟨t10, A0_10, H⟩ := H
 try dsimp only at H
 have A10 := Aside0.mk A0_10
 clear A0_10
 obtain ⟨q11, H1⟩ := Go.Proofs.YthcedgbjpkgoeaaW.GLaw.ite_some H
 clear H
 have H := H1
 clear H1
 subst q11
 replace H := Option.bind_eq_some_iff.mp H
 obtain ⟨⟨t11, t12⟩, A0_12, H⟩ := H
 try dsimp only at H
 have A12 := Aside0.mk A0_12
 clear A0_12
 obtain ⟨q13, H1⟩ := Go.Proofs.YthcedgbjpkgoeaaW.GLaw.itn_some H
 clear H
 have H := H1
 clear H1
 have d13_0 : decide (t11 < 0) = false := decide_eq_false q13
 clear q13
 replace H := Option.bind_eq_some_iff.mp H
 obtain ⟨t13, A0_14, H⟩ := H
 try dsimp only at H
 have A14 := Aside0.mk A0_14
 clear A0_14
 obtain ⟨q15, H1⟩ := Go.Proofs.YthcedgbjpkgoeaaW.GLaw.ite_some H
 clear H
 have H := H1
 clear H1
 subst q15
 obtain ⟨q16, H1⟩ := Go.Proofs.YthcedgbjpkgoeaaW.GLaw.ite_some H
 clear H
 have H := H1
 clear H1
 have d16_0 : (t7 == t4) = true := beq_iff_eq.mpr q16
 have d16_1 : (t7 != t4) = false := bne_eq_false_iff_eq.mpr q16
 clear q16
 replace H := Option.bind_eq_some_iff.mp H
 obtain ⟨⟨t14, t15⟩, A0_17, H⟩ := H
 try dsimp only at H
 have A17 := Aside0.mk A0_17
 clear A0_17
 replace H := Option.bind_eq_some_iff.mp H
 obtain ⟨t16, A0_18, H⟩ := H
 try dsimp only at H
 have A18 := Aside0.mk A0_18
 clear A0_18
 obtain ⟨q19, H1⟩ := Go.Proofs.YthcedgbjpkgoeaaW.GLaw.itn_some H
 clear H
 have H := H1
 clear H1
 have d19_0 : decide (t16 < 0) = false := decide_eq_false q19
 clear q19
 obtain ⟨q20, H1⟩ := Go.Proofs.YthcedgbjpkgoeaaW.GLaw.ite_some H
 clear H
 have H := H1
 clear H1
 have d20_0 : (t16 == t14) = true := beq_iff_eq.mpr q20
 have d20_1 : (t16 != t14) = false := bne_eq_false_iff_eq.mpr q20
 clear q20
 replace H := Option.bind_eq_some_iff.mp H
 obtain ⟨t17, A0_21, H⟩ := H
 try dsimp only at H
 have A21 := Aside0.mk A0_21
 clear A0_21
 replace H := Option.bind_eq_some_iff.mp H
 obtain ⟨⟨t18, t19⟩, A0_22, H⟩ := H
 try dsimp only at H
 have A22 := Aside0.mk A0_22
 clear A0_22
 replace H := Option.bind_eq_some_iff.mp H
 obtain ⟨t20, A0_23, H⟩ := H
 try dsimp only at H
 have A23 := Aside0.mk A0_23
 clear A0_23
 obtain ⟨q24, H1⟩ := Go.Proofs.YthcedgbjpkgoeaaW.GLaw.ite_some H
 clear H
 have H := H1
 clear H1
 subst q24
 obtain ⟨q25, H1⟩ := Go.Proofs.YthcedgbjpkgoeaaW.GLaw.ite_some H
 clear H
 have H := H1
 clear H1
 have d25_0 : (t19 == t4) = true := beq_iff_eq.mpr q25
 have d25_1 : (t19 != t4) = false := bne_eq_false_iff_eq.mpr q25
 clear q25
 replace H := Option.bind_eq_some_iff.mp H
 obtain ⟨t21, A0_26, H⟩ := H
 try dsimp only at H
 have A26 := Aside0.mk A0_26
 clear A0_26
 obtain ⟨q27, H1⟩ := Go.Proofs.YthcedgbjpkgoeaaW.GLaw.itn_some H
 clear H
 have H := H1
 clear H1
 have d27_0 : decide (t21 < 0) = false := decide_eq_false q27
 clear q27
 obtain ⟨q28, H1⟩ := Go.Proofs.YthcedgbjpkgoeaaW.GLaw.ite_some H
 clear H
 have H := H1
 clear H1
 have d28_0 : (t21 == t14) = true := beq_iff_eq.mpr q28
 have d28_1 : (t21 != t14) = false := bne_eq_false_iff_eq.mpr q28
 clear q28
 obtain rfl := Option.some.inj H
 go_enter Try.func8, Try.ntmps8
 try go_wp2_with fail
 first | ((with_reducible refine gate_callee (f := 10) rfl ?_); refine goesL_ _ rfl rfl Try.func10 (by kernel_rfl) rfl #[.slice A0 l0.length c0, .int .i64 1048576] rfl (by (try simp only [List.map_toArray, List.map_cons, List.map_nil]); first | done | rfl | (simp only [List.length_drop, List.length_take]; rfl)) ?_; (with_reducible refine (laws_szWordS.calls k _ _ l0 (1048576) t1 _ ?s0 ?s1 A0.out).mono ?_); (case s0 => exact (by repeat (first | exact (Kd.C_below HR0.out HB.out) | (with_reducible refine Kd.C_alloc ?_ _) | (with_reducible refine Kd.C_drewN ?_ _) | (with_reducible refine Kd.C_drew ?_)))); (case s1 => exact HC0.out); rintro e w100 ⟨rfl, hb0⟩; refine ⟨_, rfl, ?_⟩) | (go_at_call 10; (with_reducible refine (laws_szWordS.calls k _ _ l0 (1048576) t1 _ ?s0 ?s1 A0.out).mono ?_); (case s0 => exact (by repeat (first | exact (Kd.C_below HR0.out HB.out) | (with_reducible refine Kd.C_alloc ?_ _) | (with_reducible refine Kd.C_drewN ?_ _) | (with_reducible refine Kd.C_drew ?_)))); (case s1 => exact HC0.out); rintro e w100 ⟨rfl, hb0⟩)
 have Z_ := Aside0.mk (Nat.le_trans (show w.heap.size ≤ _ from Z0.out) hb0.size)
 clear Z0
 have Z0 := Z_
 clear Z_
 have B_ := Aside0.mk (below_step (by repeat (first | exact HB.out | apply below_alloc | apply pw_below_drewN | apply below_drew1)) hb0)
 clear HB
 have HB := B_
 clear B_ hb0
 try go_wp2_with fail
 first | ((with_reducible refine gate_callee (f := 13) rfl ?_); refine goesL_ _ rfl rfl Try.func13 (by kernel_rfl) rfl #[.slice A0 l0.length c0] rfl (by (try simp only [List.map_toArray, List.map_cons, List.map_nil]); first | done | rfl | (simp only [List.length_drop, List.length_take]; rfl)) ?_; (with_reducible refine (laws_toWordS.calls k _ _ l0 t2 _ ?s0 ?s1 A2.out).mono ?_); (case s0 => exact (by repeat (first | exact (Kd.C_below HR0.out HB.out) | (with_reducible refine Kd.C_alloc ?_ _) | (with_reducible refine Kd.C_drewN ?_ _) | (with_reducible refine Kd.C_drew ?_)))); (case s1 => exact HC0.out); rintro e w102 ⟨v2_0, rfl, ho2_0, hb2⟩; refine ⟨_, rfl, ?_⟩) | (go_at_call 13; (with_reducible refine (laws_toWordS.calls k _ _ l0 t2 _ ?s0 ?s1 A2.out).mono ?_); (case s0 => exact (by repeat (first | exact (Kd.C_below HR0.out HB.out) | (with_reducible refine Kd.C_alloc ?_ _) | (with_reducible refine Kd.C_drewN ?_ _) | (with_reducible refine Kd.C_drew ?_)))); (case s1 => exact HC0.out); rintro e w102 ⟨v2_0, rfl, ho2_0, hb2⟩)
 obtain ⟨lo2, hi2, z2, e2, f2, g2⟩ := Go.Proofs.YthcedgbjpkgoeaaW.GLaw.madeS (w := w) (show w.heap.size ≤ _ from Z0.out) (by repeat (first | exact HB.out | apply below_alloc | apply pw_below_drewN | apply below_drew1)) ho2_0
 have Y2 := Aside0.mk z2
 have X2 := Aside0.mk (show lo2 ≤ hi2 from by rw [e2, f2]; exact hb2.size)
 clear Z0
 have Z0 := Aside0.mk (show hi2 ≤ w102.heap.size from by rw [f2]; exact Nat.le_refl _)
 obtain ⟨Ao2, co2, eo2⟩ := Kd.S_slice g2
 subst eo2
 have HO2_t2 := Aside0.mk g2
 clear z2 e2 f2 g2 ho2_0
 have B_ := Aside0.mk (below_step (by repeat (first | exact HB.out | apply below_alloc | apply pw_below_drewN | apply below_drew1)) hb2)
 clear HB
 have HB := B_
 clear B_ hb2
 try go_wp2_with fail
 first | ((with_reducible refine gate_callee (f := 32) rfl ?_); refine goesL_ _ rfl rfl Try.func32 (by kernel_rfl) rfl #[.slice Ao2 t2.length co2, .int .i64 a1] rfl (by (try simp only [List.map_toArray, List.map_cons, List.map_nil]); first | done | rfl | (simp only [List.length_drop, List.length_take]; rfl)) ?_; (with_reducible refine (spec_WordsForShare.calls k _ _ t2 (a1) t3 t4 _ ?s0 ?s1 A3.out).mono ?_); (case s0 => exact (by repeat (first | exact (Kd.S_reads' HO2_t2.out).2.2 | (with_reducible refine Kd.C_alloc ?_ _) | (with_reducible refine Kd.C_drewN ?_ _) | (with_reducible refine Kd.C_drew ?_)))); (case s1 => exact (by exact (Kd.S_reads' HO2_t2.out).2.1)); rintro e w103 ⟨v3_0, rfl, ho3_0, hb3⟩; refine ⟨_, rfl, ?_⟩) | (go_at_call 32; (with_reducible refine (spec_WordsForShare.calls k _ _ t2 (a1) t3 t4 _ ?s0 ?s1 A3.out).mono ?_); (case s0 => exact (by repeat (first | exact (Kd.S_reads' HO2_t2.out).2.2 | (with_reducible refine Kd.C_alloc ?_ _) | (with_reducible refine Kd.C_drewN ?_ _) | (with_reducible refine Kd.C_drew ?_)))); (case s1 => exact (by exact (Kd.S_reads' HO2_t2.out).2.1)); rintro e w103 ⟨v3_0, rfl, ho3_0, hb3⟩)
 clear HO2_t2
 obtain ⟨lo3, hi3, z3, e3, f3, g3⟩ := Go.Proofs.YthcedgbjpkgoeaaW.GLaw.madeV (w := w) (show hi2 ≤ _ from Z0.out) (by intro k_ h_; first | exact h_ | exact h_.1 | exact h_.2 | omega) ho3_0
 have Y3 := Aside0.mk z3
 have X3 := Aside0.mk (show lo3 ≤ hi3 from by rw [e3, f3]; exact hb3.size)
 clear Z0
 have Z0 := Aside0.mk (show hi3 ≤ w103.heap.size from by rw [f3]; exact Nat.le_refl _)
 obtain ⟨Ao3, co3, eo3⟩ := Kd.V_slice g3
 subst eo3
 have HO3_t3 := Aside0.mk g3
 clear z3 e3 f3 g3 ho3_0
 have B_ := Aside0.mk (below_step (by repeat (first | exact HB.out | apply below_alloc | apply pw_below_drewN | apply below_drew1)) hb3)
 clear HB
 have HB := B_
 clear B_ hb3
 try go_wp2_with fail
 first | ((with_reducible refine gate_callee (f := 13) rfl ?_); refine goesL_ _ rfl rfl Try.func13 (by kernel_rfl) rfl #[.slice A0 l0.length c0] rfl (by (try simp only [List.map_toArray, List.map_cons, List.map_nil]); first | done | rfl | (simp only [List.length_drop, List.length_take]; rfl)) ?_; (with_reducible refine (laws_toWordS.calls k _ _ l0 t5 _ ?s0 ?s1 A4.out).mono ?_); (case s0 => exact (by repeat (first | exact (Kd.C_below HR0.out HB.out) | (with_reducible refine Kd.C_alloc ?_ _) | (with_reducible refine Kd.C_drewN ?_ _) | (with_reducible refine Kd.C_drew ?_)))); (case s1 => exact HC0.out); rintro e w104 ⟨v4_0, rfl, ho4_0, hb4⟩; refine ⟨_, rfl, ?_⟩) | (go_at_call 13; (with_reducible refine (laws_toWordS.calls k _ _ l0 t5 _ ?s0 ?s1 A4.out).mono ?_); (case s0 => exact (by repeat (first | exact (Kd.C_below HR0.out HB.out) | (with_reducible refine Kd.C_alloc ?_ _) | (with_reducible refine Kd.C_drewN ?_ _) | (with_reducible refine Kd.C_drew ?_)))); (case s1 => exact HC0.out); rintro e w104 ⟨v4_0, rfl, ho4_0, hb4⟩)
 have HO4_t3 := Aside0.mk (Kd.V_below (by (with_reducible repeat (first | apply Kd.V_alloc | apply Kd.V_drewN | apply Kd.V_drew)); exact HO3_t3.out) hb4)
 clear HO3_t3
 obtain ⟨lo4, hi4, z4, e4, f4, g4⟩ := Go.Proofs.YthcedgbjpkgoeaaW.GLaw.madeS (w := w) (show hi3 ≤ _ from Z0.out) (by repeat (first | exact HB.out | apply below_alloc | apply pw_below_drewN | apply below_drew1)) ho4_0
 have Y4 := Aside0.mk z4
 have X4 := Aside0.mk (show lo4 ≤ hi4 from by rw [e4, f4]; exact hb4.size)
 clear Z0
 have Z0 := Aside0.mk (show hi4 ≤ w104.heap.size from by rw [f4]; exact Nat.le_refl _)
 obtain ⟨Ao4, co4, eo4⟩ := Kd.S_slice g4
 subst eo4
 have HO4_t5 := Aside0.mk g4
 clear z4 e4 f4 g4 ho4_0
 have B_ := Aside0.mk (below_step (by repeat (first | exact HB.out | apply below_alloc | apply pw_below_drewN | apply below_drew1)) hb4)
 clear HB
 have HB := B_
 clear B_ hb4
 try go_wp2_with fail
 first | ((with_reducible refine gate_callee (f := 33) rfl ?_); refine goesL_ _ rfl rfl Try.func33 (by kernel_rfl) rfl #[.slice Ao4 t5.length co4, .int .i64 a1] rfl (by (try simp only [List.map_toArray, List.map_cons, List.map_nil]); first | done | rfl | (simp only [List.length_drop, List.length_take]; rfl)) ?_; (with_reducible refine (impl_WordsForShare.calls k _ _ t5 (a1) t6 t7 _ ?s0 ?s1 A5.out).mono ?_); (case s0 => exact (by repeat (first | exact (Kd.S_reads' HO4_t5.out).2.2 | (with_reducible refine Kd.C_alloc ?_ _) | (with_reducible refine Kd.C_drewN ?_ _) | (with_reducible refine Kd.C_drew ?_)))); (case s1 => exact (by exact (Kd.S_reads' HO4_t5.out).2.1)); rintro e w105 ⟨v5_0, rfl, ho5_0, hb5⟩; refine ⟨_, rfl, ?_⟩) | (go_at_call 33; (with_reducible refine (impl_WordsForShare.calls k _ _ t5 (a1) t6 t7 _ ?s0 ?s1 A5.out).mono ?_); (case s0 => exact (by repeat (first | exact (Kd.S_reads' HO4_t5.out).2.2 | (with_reducible refine Kd.C_alloc ?_ _) | (with_reducible refine Kd.C_drewN ?_ _) | (with_reducible refine Kd.C_drew ?_)))); (case s1 => exact (by exact (Kd.S_reads' HO4_t5.out).2.1)); rintro e w105 ⟨v5_0, rfl, ho5_0, hb5⟩)
 have HO5_t3 := Aside0.mk (Kd.V_below (by (with_reducible repeat (first | apply Kd.V_alloc | apply Kd.V_drewN | apply Kd.V_drew)); exact HO4_t3.out) hb5)
 clear HO4_t3
 have HO5_t5 := Aside0.mk (Kd.S_below (by (with_reducible repeat (first | apply Kd.S_alloc | apply Kd.S_drewN | apply Kd.S_drew)); exact HO4_t5.out) hb5)
 clear HO4_t5
 obtain ⟨lo5, hi5, z5, e5, f5, g5⟩ := Go.Proofs.YthcedgbjpkgoeaaW.GLaw.madeR (w := w) (show hi4 ≤ _ from Z0.out) (by repeat (first | exact HB.out | apply below_alloc | apply pw_below_drewN | apply below_drew1)) ho5_0
 have Y5 := Aside0.mk z5
 have X5 := Aside0.mk (show lo5 ≤ hi5 from by rw [e5, f5]; exact hb5.size)
 clear Z0
 have Z0 := Aside0.mk (show hi5 ≤ w105.heap.size from by rw [f5]; exact Nat.le_refl _)
 obtain ⟨Ao5, co5, eo5⟩ := Kd.R_slice g5
 subst eo5
 have HO5_t6 := Aside0.mk g5
 clear z5 e5 f5 g5 ho5_0
 have B_ := Aside0.mk (below_step (by repeat (first | exact HB.out | apply below_alloc | apply pw_below_drewN | apply below_drew1)) hb5)
 clear HB
 have HB := B_
 clear B_ hb5
 try go_wp2_with fail
 first | ((with_reducible refine gate_callee (f := 20) rfl ?_); refine goesL_ _ rfl rfl Try.func20 (by kernel_rfl) rfl #[.slice Ao5 t6.length co5, .slice Ao3 t3.length co3] rfl (by (try simp only [List.map_toArray, List.map_cons, List.map_nil]); first | done | rfl | (simp only [List.length_drop, List.length_take]; rfl)) ?_; (with_reducible refine (laws_eqIntS.calls k _ _ t6 _ _ t3 true _ ?s0 ?s1 ?s2 ?s3 A6.out).mono ?_); (case s0 => exact (by repeat (first | exact (Kd.R_reads' HO5_t6.out).2.2 | (with_reducible refine Kd.C_alloc ?_ _) | (with_reducible refine Kd.C_drewN ?_ _) | (with_reducible refine Kd.C_drew ?_)))); (case s1 => exact (by exact (Kd.R_reads' HO5_t6.out).2.1)); (case s2 => exact (by repeat (first | exact (Kd.V_reads' HO5_t3.out).2.2 | (with_reducible refine Kd.C_alloc ?_ _) | (with_reducible refine Kd.C_drewN ?_ _) | (with_reducible refine Kd.C_drew ?_)))); (case s3 => exact (by exact (Kd.V_reads' HO5_t3.out).2.1)); rintro e w106 ⟨rfl, hb6⟩; refine ⟨_, rfl, ?_⟩) | (go_at_call 20; (with_reducible refine (laws_eqIntS.calls k _ _ t6 _ _ t3 true _ ?s0 ?s1 ?s2 ?s3 A6.out).mono ?_); (case s0 => exact (by repeat (first | exact (Kd.R_reads' HO5_t6.out).2.2 | (with_reducible refine Kd.C_alloc ?_ _) | (with_reducible refine Kd.C_drewN ?_ _) | (with_reducible refine Kd.C_drew ?_)))); (case s1 => exact (by exact (Kd.R_reads' HO5_t6.out).2.1)); (case s2 => exact (by repeat (first | exact (Kd.V_reads' HO5_t3.out).2.2 | (with_reducible refine Kd.C_alloc ?_ _) | (with_reducible refine Kd.C_drewN ?_ _) | (with_reducible refine Kd.C_drew ?_)))); (case s3 => exact (by exact (Kd.V_reads' HO5_t3.out).2.1)); rintro e w106 ⟨rfl, hb6⟩)
 replace hb6 := hb6.below
 have HO6_t3 := Aside0.mk (Kd.V_below (by (with_reducible repeat (first | apply Kd.V_alloc | apply Kd.V_drewN | apply Kd.V_drew)); exact HO5_t3.out) hb6)
 clear HO5_t3
 have HO6_t5 := Aside0.mk (Kd.S_below (by (with_reducible repeat (first | apply Kd.S_alloc | apply Kd.S_drewN | apply Kd.S_drew)); exact HO5_t5.out) hb6)
 clear HO5_t5
 have HO6_t6 := Aside0.mk (Kd.R_below (by (with_reducible repeat (first | apply Kd.R_alloc | apply Kd.R_drewN | apply Kd.R_drew)); exact HO5_t6.out) hb6)
 clear HO5_t6
 have Z_ := Aside0.mk (Nat.le_trans (show hi5 ≤ _ from Z0.out) hb6.size)
 clear Z0
 have Z0 := Z_
 clear Z_
 have B_ := Aside0.mk (below_step (by repeat (first | exact HB.out | apply below_alloc | apply pw_below_drewN | apply below_drew1)) hb6)
 clear HB
 have HB := B_
 clear B_ hb6
 try go_wp2_with fail
 first | ((with_reducible refine gate_callee (f := 13) rfl ?_); refine goesL_ _ rfl rfl Try.func13 (by kernel_rfl) rfl #[.slice A0 l0.length c0] rfl (by (try simp only [List.map_toArray, List.map_cons, List.map_nil]); first | done | rfl | (simp only [List.length_drop, List.length_take]; rfl)) ?_; (with_reducible refine (laws_toWordS.calls k _ _ l0 t9 _ ?s0 ?s1 A9.out).mono ?_); (case s0 => exact (by repeat (first | exact (Kd.C_below HR0.out HB.out) | (with_reducible refine Kd.C_alloc ?_ _) | (with_reducible refine Kd.C_drewN ?_ _) | (with_reducible refine Kd.C_drew ?_)))); (case s1 => exact HC0.out); rintro e w109 ⟨v9_0, rfl, ho9_0, hb9⟩; refine ⟨_, rfl, ?_⟩) | (go_at_call 13; (with_reducible refine (laws_toWordS.calls k _ _ l0 t9 _ ?s0 ?s1 A9.out).mono ?_); (case s0 => exact (by repeat (first | exact (Kd.C_below HR0.out HB.out) | (with_reducible refine Kd.C_alloc ?_ _) | (with_reducible refine Kd.C_drewN ?_ _) | (with_reducible refine Kd.C_drew ?_)))); (case s1 => exact HC0.out); rintro e w109 ⟨v9_0, rfl, ho9_0, hb9⟩)
 have HO9_t3 := Aside0.mk (Kd.V_below (by (with_reducible repeat (first | apply Kd.V_alloc | apply Kd.V_drewN | apply Kd.V_drew)); exact HO6_t3.out) hb9)
 clear HO6_t3
 have HO9_t5 := Aside0.mk (Kd.S_below (by (with_reducible repeat (first | apply Kd.S_alloc | apply Kd.S_drewN | apply Kd.S_drew)); exact HO6_t5.out) hb9)
 clear HO6_t5
 have HO9_t6 := Aside0.mk (Kd.R_below (by (with_reducible repeat (first | apply Kd.R_alloc | apply Kd.R_drewN | apply Kd.R_drew)); exact HO6_t6.out) hb9)
 clear HO6_t6
 obtain ⟨lo9, hi9, z9, e9, f9, g9⟩ := Go.Proofs.YthcedgbjpkgoeaaW.GLaw.madeS (w := w) (show hi5 ≤ _ from Z0.out) (by repeat (first | exact HB.out | apply below_alloc | apply pw_below_drewN | apply below_drew1)) ho9_0
 have Y9 := Aside0.mk z9
 have X9 := Aside0.mk (show lo9 ≤ hi9 from by rw [e9, f9]; exact hb9.size)
 clear Z0
 have Z0 := Aside0.mk (show hi9 ≤ w109.heap.size from by rw [f9]; exact Nat.le_refl _)
 obtain ⟨Ao9, co9, eo9⟩ := Kd.S_slice g9
 subst eo9
 have HO9_t9 := Aside0.mk g9
 clear z9 e9 f9 g9 ho9_0
 have B_ := Aside0.mk (below_step (by repeat (first | exact HB.out | apply below_alloc | apply pw_below_drewN | apply below_drew1)) hb9)
 clear HB
 have HB := B_
 clear B_ hb9
 try go_wp2_with fail
 first | ((with_reducible refine gate_callee (f := 16) rfl ?_); refine goesL_ _ rfl rfl Try.func16 (by kernel_rfl) rfl #[.slice Ao4 t5.length co4, .slice Ao9 t9.length co9] rfl (by (try simp only [List.map_toArray, List.map_cons, List.map_nil]); first | done | rfl | (simp only [List.length_drop, List.length_take]; rfl)) ?_; (with_reducible refine (laws_eqWordS.calls k _ _ t5 _ _ t9 true _ ?s0 ?s1 ?s2 ?s3 A10.out).mono ?_); (case s0 => exact (by repeat (first | exact (Kd.S_reads' HO9_t5.out).2.2 | (with_reducible refine Kd.C_alloc ?_ _) | (with_reducible refine Kd.C_drewN ?_ _) | (with_reducible refine Kd.C_drew ?_)))); (case s1 => exact (by exact (Kd.S_reads' HO9_t5.out).2.1)); (case s2 => exact (by repeat (first | exact (Kd.S_reads' HO9_t9.out).2.2 | (with_reducible refine Kd.C_alloc ?_ _) | (with_reducible refine Kd.C_drewN ?_ _) | (with_reducible refine Kd.C_drew ?_)))); (case s3 => exact (by exact (Kd.S_reads' HO9_t9.out).2.1)); rintro e w110 ⟨rfl, hb10⟩; refine ⟨_, rfl, ?_⟩) | (go_at_call 16; (with_reducible refine (laws_eqWordS.calls k _ _ t5 _ _ t9 true _ ?s0 ?s1 ?s2 ?s3 A10.out).mono ?_); (case s0 => exact (by repeat (first | exact (Kd.S_reads' HO9_t5.out).2.2 | (with_reducible refine Kd.C_alloc ?_ _) | (with_reducible refine Kd.C_drewN ?_ _) | (with_reducible refine Kd.C_drew ?_)))); (case s1 => exact (by exact (Kd.S_reads' HO9_t5.out).2.1)); (case s2 => exact (by repeat (first | exact (Kd.S_reads' HO9_t9.out).2.2 | (with_reducible refine Kd.C_alloc ?_ _) | (with_reducible refine Kd.C_drewN ?_ _) | (with_reducible refine Kd.C_drew ?_)))); (case s3 => exact (by exact (Kd.S_reads' HO9_t9.out).2.1)); rintro e w110 ⟨rfl, hb10⟩)
 have HO10_t3 := Aside0.mk (Kd.V_below (by (with_reducible repeat (first | apply Kd.V_alloc | apply Kd.V_drewN | apply Kd.V_drew)); exact HO9_t3.out) hb10)
 clear HO9_t3
 have HO10_t5 := Aside0.mk (Kd.S_below (by (with_reducible repeat (first | apply Kd.S_alloc | apply Kd.S_drewN | apply Kd.S_drew)); exact HO9_t5.out) hb10)
 clear HO9_t5
 have HO10_t6 := Aside0.mk (Kd.R_below (by (with_reducible repeat (first | apply Kd.R_alloc | apply Kd.R_drewN | apply Kd.R_drew)); exact HO9_t6.out) hb10)
 clear HO9_t6
 clear HO9_t9
 have Z_ := Aside0.mk (Nat.le_trans (show hi9 ≤ _ from Z0.out) hb10.size)
 clear Z0
 have Z0 := Z_
 clear Z_
 have B_ := Aside0.mk (below_step (by repeat (first | exact HB.out | apply below_alloc | apply pw_below_drewN | apply below_drew1)) hb10)
 clear HB
 have HB := B_
 clear B_ hb10
 try go_wp2_with fail
 first | ((with_reducible refine gate_callee (f := 21) rfl ?_); refine goesL_ _ rfl rfl Try.func21 (by kernel_rfl) rfl #[.slice Ao4 t5.length co4, .int .i64 1] rfl (by (try simp only [List.map_toArray, List.map_cons, List.map_nil]); first | done | rfl | (simp only [List.length_drop, List.length_take]; rfl)) ?_; (with_reducible refine (laws_markWordS.calls k (Go.Proofs.YthcedgbjpkgoeaaW.GLaw.In lo4 hi4) _ t5 (1) t11 t12 w _ ?sb ?so A12.out).mono ?_); (case sb => exact (by repeat (first | exact HB.out | apply below_alloc | apply pw_below_drewN | apply below_drew1))); (case so => exact (by (with_reducible repeat (first | apply Kd.S_alloc | apply Kd.S_drewN | apply Kd.S_drew)); exact HO10_t5.out)); rintro e w112 ⟨rfl, ho12_0, hb12, hkp12⟩; refine ⟨_, rfl, ?_⟩) | (go_at_call 21; (with_reducible refine (laws_markWordS.calls k (Go.Proofs.YthcedgbjpkgoeaaW.GLaw.In lo4 hi4) _ t5 (1) t11 t12 w _ ?sb ?so A12.out).mono ?_); (case sb => exact (by repeat (first | exact HB.out | apply below_alloc | apply pw_below_drewN | apply below_drew1))); (case so => exact (by (with_reducible repeat (first | apply Kd.S_alloc | apply Kd.S_drewN | apply Kd.S_drew)); exact HO10_t5.out)); rintro e w112 ⟨rfl, ho12_0, hb12, hkp12⟩)
 have HO12_t3 := Aside0.mk (Kd.V_kept (by (with_reducible repeat (first | apply Kd.V_alloc | apply Kd.V_drewN | apply Kd.V_drew)); exact HO10_t3.out) hkp12 (Go.Proofs.YthcedgbjpkgoeaaW.GLaw.apartL (by have := Y2.out; have := X2.out; have := Y3.out; have := X3.out; have := Y4.out; have := X4.out; have := Y5.out; have := X5.out; have := Y9.out; have := X9.out; omega)))
 clear HO10_t3
 have HO12_t6 := Aside0.mk (Kd.R_kept (by (with_reducible repeat (first | apply Kd.R_alloc | apply Kd.R_drewN | apply Kd.R_drew)); exact HO10_t6.out) hkp12 (Go.Proofs.YthcedgbjpkgoeaaW.GLaw.apartR (by have := Y2.out; have := X2.out; have := Y3.out; have := X3.out; have := Y4.out; have := X4.out; have := Y5.out; have := X5.out; have := Y9.out; have := X9.out; omega)))
 clear HO10_t6
 clear HO10_t5
 have Z_ := Aside0.mk (Nat.le_trans (show hi9 ≤ _ from Z0.out) hkp12.1)
 clear Z0 HB
 have Z0 := Z_
 have HB := Aside0.mk hb12
 clear Z_ hb12 hkp12 ho12_0
 try go_wp2_with fail
 first | ((with_reducible refine gate_callee (f := 20) rfl ?_); refine goesL_ _ rfl rfl Try.func20 (by kernel_rfl) rfl #[.slice Ao5 t6.length co5, .slice Ao3 t3.length co3] rfl (by (try simp only [List.map_toArray, List.map_cons, List.map_nil]); first | done | rfl | (simp only [List.length_drop, List.length_take]; rfl)) ?_; (with_reducible refine (laws_eqIntS.calls k _ _ t6 _ _ t3 true _ ?s0 ?s1 ?s2 ?s3 A14.out).mono ?_); (case s0 => exact (by repeat (first | exact (Kd.R_reads' HO12_t6.out).2.2 | (with_reducible refine Kd.C_alloc ?_ _) | (with_reducible refine Kd.C_drewN ?_ _) | (with_reducible refine Kd.C_drew ?_)))); (case s1 => exact (by exact (Kd.R_reads' HO12_t6.out).2.1)); (case s2 => exact (by repeat (first | exact (Kd.V_reads' HO12_t3.out).2.2 | (with_reducible refine Kd.C_alloc ?_ _) | (with_reducible refine Kd.C_drewN ?_ _) | (with_reducible refine Kd.C_drew ?_)))); (case s3 => exact (by exact (Kd.V_reads' HO12_t3.out).2.1)); rintro e w114 ⟨rfl, hb14⟩; refine ⟨_, rfl, ?_⟩) | (go_at_call 20; (with_reducible refine (laws_eqIntS.calls k _ _ t6 _ _ t3 true _ ?s0 ?s1 ?s2 ?s3 A14.out).mono ?_); (case s0 => exact (by repeat (first | exact (Kd.R_reads' HO12_t6.out).2.2 | (with_reducible refine Kd.C_alloc ?_ _) | (with_reducible refine Kd.C_drewN ?_ _) | (with_reducible refine Kd.C_drew ?_)))); (case s1 => exact (by exact (Kd.R_reads' HO12_t6.out).2.1)); (case s2 => exact (by repeat (first | exact (Kd.V_reads' HO12_t3.out).2.2 | (with_reducible refine Kd.C_alloc ?_ _) | (with_reducible refine Kd.C_drewN ?_ _) | (with_reducible refine Kd.C_drew ?_)))); (case s3 => exact (by exact (Kd.V_reads' HO12_t3.out).2.1)); rintro e w114 ⟨rfl, hb14⟩)
 replace hb14 := hb14.below
 have HO14_t3 := Aside0.mk (Kd.V_below (by (with_reducible repeat (first | apply Kd.V_alloc | apply Kd.V_drewN | apply Kd.V_drew)); exact HO12_t3.out) hb14)
 clear HO12_t3
 have HO14_t6 := Aside0.mk (Kd.R_below (by (with_reducible repeat (first | apply Kd.R_alloc | apply Kd.R_drewN | apply Kd.R_drew)); exact HO12_t6.out) hb14)
 clear HO12_t6
 have Z_ := Aside0.mk (Nat.le_trans (show hi9 ≤ _ from Z0.out) hb14.size)
 clear Z0
 have Z0 := Z_
 clear Z_
 have B_ := Aside0.mk (below_step (by repeat (first | exact HB.out | apply below_alloc | apply pw_below_drewN | apply below_drew1)) hb14)
 clear HB
 have HB := B_
 clear B_ hb14
 try go_wp2_with fail
 first | ((with_reducible refine gate_callee (f := 22) rfl ?_); refine goesL_ _ rfl rfl Try.func22 (by kernel_rfl) rfl #[.slice Ao5 t6.length co5, .int .i64 1] rfl (by (try simp only [List.map_toArray, List.map_cons, List.map_nil]); first | done | rfl | (simp only [List.length_drop, List.length_take]; rfl)) ?_; (with_reducible refine (laws_markIntS.calls k (Go.Proofs.YthcedgbjpkgoeaaW.GLaw.In lo5 hi5) _ t6 (1) t14 t15 w _ ?sb ?so A17.out).mono ?_); (case sb => exact (by repeat (first | exact HB.out | apply below_alloc | apply pw_below_drewN | apply below_drew1))); (case so => exact (by (with_reducible repeat (first | apply Kd.R_alloc | apply Kd.R_drewN | apply Kd.R_drew)); exact HO14_t6.out)); rintro e w117 ⟨rfl, ho17_0, hb17, hkp17⟩; refine ⟨_, rfl, ?_⟩) | (go_at_call 22; (with_reducible refine (laws_markIntS.calls k (Go.Proofs.YthcedgbjpkgoeaaW.GLaw.In lo5 hi5) _ t6 (1) t14 t15 w _ ?sb ?so A17.out).mono ?_); (case sb => exact (by repeat (first | exact HB.out | apply below_alloc | apply pw_below_drewN | apply below_drew1))); (case so => exact (by (with_reducible repeat (first | apply Kd.R_alloc | apply Kd.R_drewN | apply Kd.R_drew)); exact HO14_t6.out)); rintro e w117 ⟨rfl, ho17_0, hb17, hkp17⟩)
 have HO17_t3 := Aside0.mk (Kd.V_kept (by (with_reducible repeat (first | apply Kd.V_alloc | apply Kd.V_drewN | apply Kd.V_drew)); exact HO14_t3.out) hkp17 (Go.Proofs.YthcedgbjpkgoeaaW.GLaw.apartL (by have := Y2.out; have := X2.out; have := Y3.out; have := X3.out; have := Y4.out; have := X4.out; have := Y5.out; have := X5.out; have := Y9.out; have := X9.out; omega)))
 clear HO14_t3
 clear HO14_t6
 have HO17_t15 := Aside0.mk (Kd.R_mono ho17_0 (fun _ _ => trivial : ∀ k_, _ → True))
 have Z_ := Aside0.mk (Nat.le_trans (show hi9 ≤ _ from Z0.out) hkp17.1)
 clear Z0 HB
 have Z0 := Z_
 have HB := Aside0.mk hb17
 clear Z_ hb17 hkp17 ho17_0
 try go_wp2_with fail
 first | ((with_reducible refine gate_callee (f := 23) rfl ?_); refine goesL_ _ rfl rfl Try.func23 (by kernel_rfl) rfl #[.slice Ao5 t15.length co5, .int .i64 1] rfl (by (try simp only [List.map_toArray, List.map_cons, List.map_nil]); first | done | (rw [show t15.length = t6.length from (Kd.R_reads' HO17_t15.out).1.symm] <;> rfl) | rfl | (simp only [List.length_drop, List.length_take]; rfl)) ?_; (with_reducible refine (laws_heldIntS.calls k _ _ t15 (1) t16 _ ?s0 ?s1 A18.out).mono ?_); (case s0 => exact (by repeat (first | exact (Kd.R_reads' HO17_t15.out).2.2 | (with_reducible refine Kd.C_alloc ?_ _) | (with_reducible refine Kd.C_drewN ?_ _) | (with_reducible refine Kd.C_drew ?_)))); (case s1 => exact (by rw [show t15.length = t6.length from (Kd.R_reads' HO17_t15.out).1.symm]; exact (Kd.R_reads' HO17_t15.out).2.1)); rintro e w118 ⟨rfl, hb18⟩; refine ⟨_, rfl, ?_⟩) | (go_at_call 23; refine calls_of_args (args' := #[.slice Ao5 t15.length co5, .int .i64 1]) (by first | (rw [show t15.length = t6.length from (Kd.R_reads' HO17_t15.out).1.symm] <;> rfl) | rfl) ?_; (with_reducible refine (laws_heldIntS.calls k _ _ t15 (1) t16 _ ?s0 ?s1 A18.out).mono ?_); (case s0 => exact (by repeat (first | exact (Kd.R_reads' HO17_t15.out).2.2 | (with_reducible refine Kd.C_alloc ?_ _) | (with_reducible refine Kd.C_drewN ?_ _) | (with_reducible refine Kd.C_drew ?_)))); (case s1 => exact (by rw [show t15.length = t6.length from (Kd.R_reads' HO17_t15.out).1.symm]; exact (Kd.R_reads' HO17_t15.out).2.1)); rintro e w118 ⟨rfl, hb18⟩)
 replace hb18 := hb18.below
 have HO18_t3 := Aside0.mk (Kd.V_below (by (with_reducible repeat (first | apply Kd.V_alloc | apply Kd.V_drewN | apply Kd.V_drew)); exact HO17_t3.out) hb18)
 clear HO17_t3
 have HO18_t15 := Aside0.mk (Kd.R_below (by (with_reducible repeat (first | apply Kd.R_alloc | apply Kd.R_drewN | apply Kd.R_drew)); exact HO17_t15.out) hb18)
 clear HO17_t15
 have Z_ := Aside0.mk (Nat.le_trans (show hi9 ≤ _ from Z0.out) hb18.size)
 clear Z0
 have Z0 := Z_
 clear Z_
 have B_ := Aside0.mk (below_step (by repeat (first | exact HB.out | apply below_alloc | apply pw_below_drewN | apply below_drew1)) hb18)
 clear HB
 have HB := B_
 clear B_ hb18
 try go_wp2_with fail
 first | ((with_reducible refine gate_callee (f := 13) rfl ?_); refine goesL_ _ rfl rfl Try.func13 (by kernel_rfl) rfl #[.slice A0 l0.length c0] rfl (by (try simp only [List.map_toArray, List.map_cons, List.map_nil]); first | done | rfl | (simp only [List.length_drop, List.length_take]; rfl)) ?_; (with_reducible refine (laws_toWordS.calls k _ _ l0 t17 _ ?s0 ?s1 A21.out).mono ?_); (case s0 => exact (by repeat (first | exact (Kd.C_below HR0.out HB.out) | (with_reducible refine Kd.C_alloc ?_ _) | (with_reducible refine Kd.C_drewN ?_ _) | (with_reducible refine Kd.C_drew ?_)))); (case s1 => exact HC0.out); rintro e w121 ⟨v21_0, rfl, ho21_0, hb21⟩; refine ⟨_, rfl, ?_⟩) | (go_at_call 13; (with_reducible refine (laws_toWordS.calls k _ _ l0 t17 _ ?s0 ?s1 A21.out).mono ?_); (case s0 => exact (by repeat (first | exact (Kd.C_below HR0.out HB.out) | (with_reducible refine Kd.C_alloc ?_ _) | (with_reducible refine Kd.C_drewN ?_ _) | (with_reducible refine Kd.C_drew ?_)))); (case s1 => exact HC0.out); rintro e w121 ⟨v21_0, rfl, ho21_0, hb21⟩)
 have HO21_t3 := Aside0.mk (Kd.V_below (by (with_reducible repeat (first | apply Kd.V_alloc | apply Kd.V_drewN | apply Kd.V_drew)); exact HO18_t3.out) hb21)
 clear HO18_t3
 have HO21_t15 := Aside0.mk (Kd.R_below (by (with_reducible repeat (first | apply Kd.R_alloc | apply Kd.R_drewN | apply Kd.R_drew)); exact HO18_t15.out) hb21)
 clear HO18_t15
 obtain ⟨lo21, hi21, z21, e21, f21, g21⟩ := Go.Proofs.YthcedgbjpkgoeaaW.GLaw.madeS (w := w) (show hi9 ≤ _ from Z0.out) (by repeat (first | exact HB.out | apply below_alloc | apply pw_below_drewN | apply below_drew1)) ho21_0
 have Y21 := Aside0.mk z21
 have X21 := Aside0.mk (show lo21 ≤ hi21 from by rw [e21, f21]; exact hb21.size)
 clear Z0
 have Z0 := Aside0.mk (show hi21 ≤ w121.heap.size from by rw [f21]; exact Nat.le_refl _)
 obtain ⟨Ao21, co21, eo21⟩ := Kd.S_slice g21
 subst eo21
 have HO21_t17 := Aside0.mk g21
 clear z21 e21 f21 g21 ho21_0
 have B_ := Aside0.mk (below_step (by repeat (first | exact HB.out | apply below_alloc | apply pw_below_drewN | apply below_drew1)) hb21)
 clear HB
 have HB := B_
 clear B_ hb21
 try go_wp2_with fail
 first | ((with_reducible refine gate_callee (f := 33) rfl ?_); refine goesL_ _ rfl rfl Try.func33 (by kernel_rfl) rfl #[.slice Ao21 t17.length co21, .int .i64 a1] rfl (by (try simp only [List.map_toArray, List.map_cons, List.map_nil]); first | done | rfl | (simp only [List.length_drop, List.length_take]; rfl)) ?_; (with_reducible refine (impl_WordsForShare.calls k _ _ t17 (a1) t18 t19 _ ?s0 ?s1 A22.out).mono ?_); (case s0 => exact (by repeat (first | exact (Kd.S_reads' HO21_t17.out).2.2 | (with_reducible refine Kd.C_alloc ?_ _) | (with_reducible refine Kd.C_drewN ?_ _) | (with_reducible refine Kd.C_drew ?_)))); (case s1 => exact (by exact (Kd.S_reads' HO21_t17.out).2.1)); rintro e w122 ⟨v22_0, rfl, ho22_0, hb22⟩; refine ⟨_, rfl, ?_⟩) | (go_at_call 33; (with_reducible refine (impl_WordsForShare.calls k _ _ t17 (a1) t18 t19 _ ?s0 ?s1 A22.out).mono ?_); (case s0 => exact (by repeat (first | exact (Kd.S_reads' HO21_t17.out).2.2 | (with_reducible refine Kd.C_alloc ?_ _) | (with_reducible refine Kd.C_drewN ?_ _) | (with_reducible refine Kd.C_drew ?_)))); (case s1 => exact (by exact (Kd.S_reads' HO21_t17.out).2.1)); rintro e w122 ⟨v22_0, rfl, ho22_0, hb22⟩)
 have HO22_t3 := Aside0.mk (Kd.V_below (by (with_reducible repeat (first | apply Kd.V_alloc | apply Kd.V_drewN | apply Kd.V_drew)); exact HO21_t3.out) hb22)
 clear HO21_t3
 have HO22_t15 := Aside0.mk (Kd.R_below (by (with_reducible repeat (first | apply Kd.R_alloc | apply Kd.R_drewN | apply Kd.R_drew)); exact HO21_t15.out) hb22)
 clear HO21_t15
 clear HO21_t17
 obtain ⟨lo22, hi22, z22, e22, f22, g22⟩ := Go.Proofs.YthcedgbjpkgoeaaW.GLaw.madeR (w := w) (show hi21 ≤ _ from Z0.out) (by repeat (first | exact HB.out | apply below_alloc | apply pw_below_drewN | apply below_drew1)) ho22_0
 have Y22 := Aside0.mk z22
 have X22 := Aside0.mk (show lo22 ≤ hi22 from by rw [e22, f22]; exact hb22.size)
 clear Z0
 have Z0 := Aside0.mk (show hi22 ≤ w122.heap.size from by rw [f22]; exact Nat.le_refl _)
 obtain ⟨Ao22, co22, eo22⟩ := Kd.R_slice g22
 subst eo22
 have HO22_t18 := Aside0.mk g22
 clear z22 e22 f22 g22 ho22_0
 have B_ := Aside0.mk (below_step (by repeat (first | exact HB.out | apply below_alloc | apply pw_below_drewN | apply below_drew1)) hb22)
 clear HB
 have HB := B_
 clear B_ hb22
 try go_wp2_with fail
 first | ((with_reducible refine gate_callee (f := 20) rfl ?_); refine goesL_ _ rfl rfl Try.func20 (by kernel_rfl) rfl #[.slice Ao22 t18.length co22, .slice Ao3 t3.length co3] rfl (by (try simp only [List.map_toArray, List.map_cons, List.map_nil]); first | done | rfl | (simp only [List.length_drop, List.length_take]; rfl)) ?_; (with_reducible refine (laws_eqIntS.calls k _ _ t18 _ _ t3 true _ ?s0 ?s1 ?s2 ?s3 A23.out).mono ?_); (case s0 => exact (by repeat (first | exact (Kd.R_reads' HO22_t18.out).2.2 | (with_reducible refine Kd.C_alloc ?_ _) | (with_reducible refine Kd.C_drewN ?_ _) | (with_reducible refine Kd.C_drew ?_)))); (case s1 => exact (by exact (Kd.R_reads' HO22_t18.out).2.1)); (case s2 => exact (by repeat (first | exact (Kd.V_reads' HO22_t3.out).2.2 | (with_reducible refine Kd.C_alloc ?_ _) | (with_reducible refine Kd.C_drewN ?_ _) | (with_reducible refine Kd.C_drew ?_)))); (case s3 => exact (by exact (Kd.V_reads' HO22_t3.out).2.1)); rintro e w123 ⟨rfl, hb23⟩; refine ⟨_, rfl, ?_⟩) | (go_at_call 20; (with_reducible refine (laws_eqIntS.calls k _ _ t18 _ _ t3 true _ ?s0 ?s1 ?s2 ?s3 A23.out).mono ?_); (case s0 => exact (by repeat (first | exact (Kd.R_reads' HO22_t18.out).2.2 | (with_reducible refine Kd.C_alloc ?_ _) | (with_reducible refine Kd.C_drewN ?_ _) | (with_reducible refine Kd.C_drew ?_)))); (case s1 => exact (by exact (Kd.R_reads' HO22_t18.out).2.1)); (case s2 => exact (by repeat (first | exact (Kd.V_reads' HO22_t3.out).2.2 | (with_reducible refine Kd.C_alloc ?_ _) | (with_reducible refine Kd.C_drewN ?_ _) | (with_reducible refine Kd.C_drew ?_)))); (case s3 => exact (by exact (Kd.V_reads' HO22_t3.out).2.1)); rintro e w123 ⟨rfl, hb23⟩)
 replace hb23 := hb23.below
 clear HO22_t3
 have HO23_t15 := Aside0.mk (Kd.R_below (by (with_reducible repeat (first | apply Kd.R_alloc | apply Kd.R_drewN | apply Kd.R_drew)); exact HO22_t15.out) hb23)
 clear HO22_t15
 clear HO22_t18
 have Z_ := Aside0.mk (Nat.le_trans (show hi22 ≤ _ from Z0.out) hb23.size)
 clear Z0
 have Z0 := Z_
 clear Z_
 have B_ := Aside0.mk (below_step (by repeat (first | exact HB.out | apply below_alloc | apply pw_below_drewN | apply below_drew1)) hb23)
 clear HB
 have HB := B_
 clear B_ hb23
 try go_wp2_with fail
 first | ((with_reducible refine gate_callee (f := 23) rfl ?_); refine goesL_ _ rfl rfl Try.func23 (by kernel_rfl) rfl #[.slice Ao5 t15.length co5, .int .i64 1] rfl (by (try simp only [List.map_toArray, List.map_cons, List.map_nil]); first | done | (rw [show t15.length = t6.length from (Kd.R_reads' HO23_t15.out).1.symm] <;> rfl) | rfl | (simp only [List.length_drop, List.length_take]; rfl)) ?_; (with_reducible refine (laws_heldIntS.calls k _ _ t15 (1) t21 _ ?s0 ?s1 A26.out).mono ?_); (case s0 => exact (by repeat (first | exact (Kd.R_reads' HO23_t15.out).2.2 | (with_reducible refine Kd.C_alloc ?_ _) | (with_reducible refine Kd.C_drewN ?_ _) | (with_reducible refine Kd.C_drew ?_)))); (case s1 => exact (by rw [show t15.length = t6.length from (Kd.R_reads' HO23_t15.out).1.symm]; exact (Kd.R_reads' HO23_t15.out).2.1)); rintro e w126 ⟨rfl, hb26⟩; refine ⟨_, rfl, ?_⟩) | (go_at_call 23; refine calls_of_args (args' := #[.slice Ao5 t15.length co5, .int .i64 1]) (by first | (rw [show t15.length = t6.length from (Kd.R_reads' HO23_t15.out).1.symm] <;> rfl) | rfl) ?_; (with_reducible refine (laws_heldIntS.calls k _ _ t15 (1) t21 _ ?s0 ?s1 A26.out).mono ?_); (case s0 => exact (by repeat (first | exact (Kd.R_reads' HO23_t15.out).2.2 | (with_reducible refine Kd.C_alloc ?_ _) | (with_reducible refine Kd.C_drewN ?_ _) | (with_reducible refine Kd.C_drew ?_)))); (case s1 => exact (by rw [show t15.length = t6.length from (Kd.R_reads' HO23_t15.out).1.symm]; exact (Kd.R_reads' HO23_t15.out).2.1)); rintro e w126 ⟨rfl, hb26⟩)
 replace hb26 := hb26.below
 clear HO23_t15
 have Z_ := Aside0.mk (Nat.le_trans (show hi22 ≤ _ from Z0.out) hb26.size)
 clear Z0
 have Z0 := Z_
 clear Z_
 have B_ := Aside0.mk (below_step (by repeat (first | exact HB.out | apply below_alloc | apply pw_below_drewN | apply below_drew1)) hb26)
 clear HB
 have HB := B_
 clear B_ hb26
 try go_wp2_with fail
 go_ret
 exact ⟨by first | rfl | (simp [*, errW_none, errW_some] <;> rfl), (by repeat (first | exact HB.out | apply below_alloc | apply pw_below_drewN | apply below_drew1))⟩

/-- The one pure statement of laws_FnExactWordsForShare. -/
def laws_FnExactWordsForShare.Pure : Prop := ∀ (l0 : List (S54)) (a1 : Int), l0.length * 48 ≤ 140737488351232 → (∀ y, y ∈ l0 → B54 y) → (Lit.int .i64 a1).wf = true → ∃ k, laws_FnExactWordsForShare.f k l0 a1 = some true
theorem laws_FnExactWordsForShare.walk (P : laws_FnExactWordsForShare.Pure) (w : World) (A0 : Option Addr) (c0 : Nat) (l0 : List (S54)) (hr0 : Kd.C k54 w A0 l0.length l0) (hc0 : l0.length ≤ c0) (hx0 : l0.length * 48 ≤ 140737488351232 ∧ ∀ y, y ∈ l0 → B54 y) (a1 : Int) (hx1 : (Lit.int .i64 a1).wf = true) :
  Calls Try.prog 8 #[.slice A0 l0.length c0, .int .i64 a1] w fun e w' => e = .returned (.bool true) ∧ Below w.heap.size w w' := by
 obtain ⟨k, h⟩ := P l0 a1 hx0.1 hx0.2 hx1
 refine (laws_FnExactWordsForShare.calls k A0 c0 l0 a1 true w hr0 hc0 h).mono ?_
 rintro e w' ⟨rfl, hd⟩
 exact ⟨rfl, hd⟩

end Go.Proofs.Ythcedgbjpkgoeaa.Q
