-- Written for the seat Ytgnijnlgbelifaa by a program of this session (wip/tool/gx.py) out of the translation. Lean checks it.
import Derived.Test.YtgnijnlgbelifaaQ0
import Derived.Test.YtgnijnlgbelifaaGPeel
import Derived.Test.YtgnijnlgbelifaaGCall
import Derived.Test.YtgnijnlgbelifaaQBImplAreLessons
import Derived.Test.YtgnijnlgbelifaaQBLawsBig
import Derived.Test.YtgnijnlgbelifaaQBSpecDrawCycleOf
import Derived.Test.YtgnijnlgbelifaaQBSpecDrawLessonsOf
import Derived.Test.YtgnijnlgbelifaaQBSpecLeOrder
import Derived.Test.YtgnijnlgbelifaaQBSpecLeShortest
import Derived.Test.YtgnijnlgbelifaaQImplAreWords
import Derived.Test.YtgnijnlgbelifaaQImplFirstUntaught
import Derived.Test.YtgnijnlgbelifaaQImplLessonsOf
import Derived.Test.YtgnijnlgbelifaaWApart
import Derived.Test.YtgnijnlgbelifaaWFoot
import Derived.Test.YtgnijnlgbelifaaWKept
import Derived.Test.YtgnijnlgbelifaaWShare
import Derived.Test.YtgnijnlgbelifaaWN
import Derived.Test.YtgnijnlgbelifaaWAt
import Derived.Test.YtgnijnlgbelifaaWRepsOne
import Derived.Test.YtgnijnlgbelifaaWGuard
namespace Go.Proofs.Ytgnijnlgbelifaa.Q
open Go.RowKit Go.Proofs.YtgnijnlgbelifaaW.PrintWords Go.Proofs.YtgnijnlgbelifaaW.PrintLast Go.Proofs.YtgnijnlgbelifaaW.PrintMore Go.Proofs.YtgnijnlgbelifaaW.GCall
attribute [local go_sem] max2_int min2_int max_two min_two max_three min_three max_four min_four   -- for this text's walks alone
set_option linter.unusedVariables false
set_option linter.unusedSimpArgs false

/-! ### laws_FnLessons: function 3 -/
mutual
def laws_FnLessons.j0 : Nat → List Int → List (S43) → Int → List (List Int) → Bool → List (List Int) → Int → Bool → List Int → Bool → Option (Bool)
 | 0,_,_,_,_,_,_,_,_,_,_ => none
 | k + 1,x1,x5,x6,x7,x8,x9,x13,x16,x17,x131 => if x131 = true then (none) else (if x8 = true then ((impl_AreLessons.f k x5 x7).bind fun bt130 => (if bt130.2 = true then (if bt130.1 = true then (laws_FnLessons.j1 k x1 x5 x6 x7 x9 x16 x17 (decide ((x9.length : Int) < x13))) else (none)) else (none))) else (laws_FnLessons.j3 k x1 x5 x16 x17))
def laws_FnLessons.j3 : Nat → List Int → List (S43) → Bool → List Int → Option (Bool)
 | 0,_,_,_,_ => none
 | k + 1,x1,x5,x16,x17 => if x16 = true then (if 0 ≤ (x5.length : Int) then (if ((x5.length : Int) : Int).toNat ≤ 35184372088832 then (laws_FnLessons.l1 k x1 x5 x17 (List.replicate ((x5.length : Int) : Int).toNat 0) x17 (x17.length : Int) 0) else (none)) else (none)) else (laws_FnLessons.j7 k x1)
def laws_FnLessons.j7 : Nat → List Int → Option (Bool)
 | 0,_ => none
 | k + 1,x1 => (spec_DrawCycleOf.f k x1).bind fun t146 => ((impl_CycleOf.f k t146).bind fun bt149 => ((spec_CycleOf.f k t146).bind fun bt153 => ((impl_TeachOrder.f k t146).bind fun bt157 => (if (bt149.2 != bt153.2) = true then (none) else ((laws_sameInts.f k bt149.1 bt153.1).bind fun t161 => (if t161 = true then ((impl_AreWords.f k t146).bind fun t162 => (if t162 = true then (laws_FnLessons.j8 k t146 bt149.2 bt153.1 (bt149.2 != (!bt157.2))) else (laws_FnLessons.j8 k t146 bt149.2 bt153.1 (bt149.2 != false)))) else (none)))))))
def laws_FnLessons.j8 : Nat → List (S43) → Bool → List Int → Bool → Option (Bool)
 | 0,_,_,_,_ => none
 | k + 1,x33,x35,x36,x259 => if x259 = true then (none) else (if x35 = true then (if (x36.length : Int) < 2 then (none) else (laws_FnLessons.l4 k x33 x36 x36 (x36.length : Int) 0)) else (some true))
def laws_FnLessons.l4 : Nat → List (S43) → List Int → List Int → Int → Int → Option (Bool)
 | 0,_,_,_,_,_ => none
 | k + 1,x33,x36,x264,x265,x266 => if x266 < x265 then (if 0 ≤ x266 then (if x266 < (x264.length : Int) then (if 0 ≤ (rd x264 x266) then (if (rd x264 x266) < (x33.length : Int) then (if (x36.length : Int) = 0 then (none) else (if 0 ≤ (Int.tmod (wrap64 (x266 + 1)) (x36.length : Int)) then (if (Int.tmod (wrap64 (x266 + 1)) (x36.length : Int)) < (x36.length : Int) then ((laws_pIn.f k ((rd_T43 x33 (rd x264 x266)).f1) (rd x36 (Int.tmod (wrap64 (x266 + 1)) (x36.length : Int)))).bind fun t166 => (if t166 = true then (if 0 < (x36.length : Int) then (if (rd x264 x266) < (rd x36 0) then (none) else (laws_FnLessons.l4 k x33 x36 x264 x265 (wrap64 (x266 + 1)))) else (none)) else (none))) else (none)) else (none))) else (none)) else (none)) else (none)) else (none)) else (some true)
def laws_FnLessons.l1 : Nat → List Int → List (S43) → List Int → List Int → List Int → Int → Int → Option (Bool)
 | 0,_,_,_,_,_,_,_ => none
 | k + 1,x1,x5,x17,x26,x174,x175,x176 => if x176 < x175 then (if 0 ≤ x176 then (if x176 < (x174.length : Int) then (if (rd x174 x176) < 0 then (none) else (if (rd x174 x176) ≥ (x5.length : Int) then (none) else (if 0 ≤ (rd x174 x176) then (if (rd x174 x176) < (x26.length : Int) then (laws_FnLessons.l1 k x1 x5 x17 (x26.set ((rd x174 x176) : Int).toNat x176) x174 x175 (wrap64 (x176 + 1))) else (none)) else (none)))) else (none)) else (none)) else (laws_FnLessons.l2 k x1 x5 x17 x26 x5 (x5.length : Int) 0)
def laws_FnLessons.l2 : Nat → List Int → List (S43) → List Int → List Int → List (S43) → Int → Int → Option (Bool)
 | 0,_,_,_,_,_,_,_ => none
 | k + 1,x1,x5,x17,x26,x194,x195,x196 => if x196 < x195 then (if 0 ≤ x196 then (if x196 < (x194.length : Int) then (laws_FnLessons.l3 k x1 x5 x17 x26 x196 x194 x195 x196 ((rd_T43 x194 x196).f1) (((rd_T43 x194 x196).f1).length : Int) 0) else (none)) else (none)) else (if (x17.length : Int) = (x5.length : Int) then (laws_FnLessons.j7 k x1) else (none))
def laws_FnLessons.l3 : Nat → List Int → List (S43) → List Int → List Int → Int → List (S43) → Int → Int → List Int → Int → Int → Option (Bool)
 | 0,_,_,_,_,_,_,_,_,_,_,_ => none
 | k + 1,x1,x5,x17,x26,x29,x194,x195,x196,x202,x203,x204 => if x204 < x203 then (if 0 ≤ x204 then (if x204 < (x202.length : Int) then (if 0 ≤ (rd x202 x204) then (if (rd x202 x204) < (x26.length : Int) then (if 0 ≤ x29 then (if x29 < (x26.length : Int) then (if (rd x26 (rd x202 x204)) ≥ (rd x26 x29) then (none) else (laws_FnLessons.l3 k x1 x5 x17 x26 x29 x194 x195 x196 x202 x203 (wrap64 (x204 + 1)))) else (none)) else (none)) else (none)) else (none)) else (none)) else (none)) else (laws_FnLessons.l2 k x1 x5 x17 x26 x194 x195 (wrap64 (x196 + 1)))
def laws_FnLessons.j1 : Nat → List Int → List (S43) → Int → List (List Int) → List (List Int) → Bool → List Int → Bool → Option (Bool)
 | 0,_,_,_,_,_,_,_,_ => none
 | k + 1,x1,x5,x6,x7,x9,x16,x17,x150 => if x150 = true then (none) else (laws_FnLessons.l0 k x1 x5 x6 x7 x16 x17 x9 (x9.length : Int) 0)
def laws_FnLessons.l0 : Nat → List Int → List (S43) → Int → List (List Int) → Bool → List Int → List (List Int) → Int → Int → Option (Bool)
 | 0,_,_,_,_,_,_,_,_,_ => none
 | k + 1,x1,x5,x6,x7,x16,x17,x151,x152,x153 => if x153 < x152 then (if 0 ≤ x153 then (if x153 < (x151.length : Int) then (if ((rd_L2 x151 x153).length : Int) > x6 then (none) else (laws_FnLessons.l0 k x1 x5 x6 x7 x16 x17 x151 x152 (wrap64 (x153 + 1)))) else (none)) else (none)) else ((impl_FirstUntaught.f k x5 x7).bind fun bt133 => (if bt133.2.2 = true then (none) else (laws_FnLessons.j3 k x1 x5 x16 x17)))
end
def laws_FnLessons.f (k : Nat) (l0 : List Int) (l1 : List Int) : Option (Bool) := (laws_big.f l0 l1).bind fun t101 => (if t101 = true then (some true) else ((spec_DrawLessonsOf.f k l0).bind fun bt102 => ((impl_LessonsOf.f k bt102.1 bt102.2).bind fun bt106 => ((spec_LessonsOf.f k bt102.1 bt102.2).bind fun bt110 => ((impl_FewestLessons.f k bt102.1).bind fun bt114 => ((spec_FewestLessons.f k bt102.1).bind fun bt116 => ((impl_TeachOrder.f k bt102.1).bind fun bt118 => ((spec_TeachOrder.f k bt102.1).bind fun bt122 => (if (bt106.2 != bt110.2) = true then (none) else ((laws_sameLists.f k bt106.1 bt110.1).bind fun t126 => (if t126 = true then (if (bt114.2 != bt116.2) = true then (none) else (if bt114.1 = bt116.1 then (if (bt118.2 != bt122.2) = true then (none) else ((laws_sameInts.f k bt118.1 bt122.1).bind fun t127 => (if t127 = true then (if (bt114.2 != bt118.2) = true then (none) else (if bt106.2 = true then (if bt114.2 = true then ((impl_AreWords.f k bt102.1).bind fun t128 => (laws_FnLessons.j0 k l1 bt102.1 bt102.2 bt106.1 bt106.2 bt110.1 bt116.1 bt118.2 bt122.1 (!t128))) else (none)) else (if bt114.2 = true then ((impl_AreWords.f k bt102.1).bind fun t129 => (laws_FnLessons.j0 k l1 bt102.1 bt102.2 bt106.1 bt106.2 bt110.1 bt116.1 bt118.2 bt122.1 (!t129))) else (laws_FnLessons.j0 k l1 bt102.1 bt102.2 bt106.1 bt106.2 bt110.1 bt116.1 bt118.2 bt122.1 false)))) else (none)))) else (none))) else (none))))))))))))
theorem laws_FnLessons.mono_l : ∀ k,(∀ y0 y1 y2 y3 y4 y5 y6 y7 y8 y9,LeO (laws_FnLessons.j0 k y0 y1 y2 y3 y4 y5 y6 y7 y8 y9) (laws_FnLessons.j0 (k + 1) y0 y1 y2 y3 y4 y5 y6 y7 y8 y9)) ∧ (∀ y0 y1 y2 y3,LeO (laws_FnLessons.j3 k y0 y1 y2 y3) (laws_FnLessons.j3 (k + 1) y0 y1 y2 y3)) ∧ (∀ y0,LeO (laws_FnLessons.j7 k y0) (laws_FnLessons.j7 (k + 1) y0)) ∧ (∀ y0 y1 y2 y3,LeO (laws_FnLessons.j8 k y0 y1 y2 y3) (laws_FnLessons.j8 (k + 1) y0 y1 y2 y3)) ∧ (∀ y0 y1 y2 y3 y4,LeO (laws_FnLessons.l4 k y0 y1 y2 y3 y4) (laws_FnLessons.l4 (k + 1) y0 y1 y2 y3 y4)) ∧ (∀ y0 y1 y2 y3 y4 y5 y6,LeO (laws_FnLessons.l1 k y0 y1 y2 y3 y4 y5 y6) (laws_FnLessons.l1 (k + 1) y0 y1 y2 y3 y4 y5 y6)) ∧ (∀ y0 y1 y2 y3 y4 y5 y6,LeO (laws_FnLessons.l2 k y0 y1 y2 y3 y4 y5 y6) (laws_FnLessons.l2 (k + 1) y0 y1 y2 y3 y4 y5 y6)) ∧ (∀ y0 y1 y2 y3 y4 y5 y6 y7 y8 y9 y10,LeO (laws_FnLessons.l3 k y0 y1 y2 y3 y4 y5 y6 y7 y8 y9 y10) (laws_FnLessons.l3 (k + 1) y0 y1 y2 y3 y4 y5 y6 y7 y8 y9 y10)) ∧ (∀ y0 y1 y2 y3 y4 y5 y6 y7,LeO (laws_FnLessons.j1 k y0 y1 y2 y3 y4 y5 y6 y7) (laws_FnLessons.j1 (k + 1) y0 y1 y2 y3 y4 y5 y6 y7)) ∧ (∀ y0 y1 y2 y3 y4 y5 y6 y7 y8,LeO (laws_FnLessons.l0 k y0 y1 y2 y3 y4 y5 y6 y7 y8) (laws_FnLessons.l0 (k + 1) y0 y1 y2 y3 y4 y5 y6 y7 y8))
 | 0 => ⟨fun _ _ _ _ _ _ _ _ _ _ r h => by simp [laws_FnLessons.j0] at h,fun _ _ _ _ r h => by simp [laws_FnLessons.j3] at h,fun _ r h => by simp [laws_FnLessons.j7] at h,fun _ _ _ _ r h => by simp [laws_FnLessons.j8] at h,fun _ _ _ _ _ r h => by simp [laws_FnLessons.l4] at h,fun _ _ _ _ _ _ _ r h => by simp [laws_FnLessons.l1] at h,fun _ _ _ _ _ _ _ r h => by simp [laws_FnLessons.l2] at h,fun _ _ _ _ _ _ _ _ _ _ _ r h => by simp [laws_FnLessons.l3] at h,fun _ _ _ _ _ _ _ _ r h => by simp [laws_FnLessons.j1] at h,fun _ _ _ _ _ _ _ _ _ r h => by simp [laws_FnLessons.l0] at h⟩
 | k + 1 => by
  obtain ⟨ih0,ih1,ih2,ih3,ih4,ih5,ih6,ih7,ih8,ih9⟩ := laws_FnLessons.mono_l k
  refine ⟨?_,?_,?_,?_,?_,?_,?_,?_,?_,?_⟩ <;> intros
  all_goals first|unfold laws_FnLessons.j0|unfold laws_FnLessons.j3|unfold laws_FnLessons.j7|unfold laws_FnLessons.j8|unfold laws_FnLessons.l4|unfold laws_FnLessons.l1|unfold laws_FnLessons.l2|unfold laws_FnLessons.l3|unfold laws_FnLessons.j1|unfold laws_FnLessons.l0
  with_reducible repeat' first|apply ih0|apply ih1|apply ih2|apply ih3|apply ih4|apply ih5|apply ih6|apply ih7|apply ih8|apply ih9|apply impl_AreLessons.mono|apply impl_AreWords.mono|apply impl_CycleOf.mono|apply impl_FewestLessons.mono|apply impl_FirstUntaught.mono|apply impl_LessonsOf.mono|apply impl_TeachOrder.mono|apply laws_pIn.mono|apply laws_sameInts.mono|apply laws_sameLists.mono|apply spec_CycleOf.mono|apply spec_DrawCycleOf.mono|apply spec_DrawLessonsOf.mono|apply spec_FewestLessons.mono|apply spec_LessonsOf.mono|apply spec_TeachOrder.mono|apply LeO.refl|apply LeO.none|refine LeO.ite ?_ ?_|refine LeO.bind ?_ (fun _ => ?_)
theorem laws_FnLessons.mono : ∀ a0 a1 k,LeO (laws_FnLessons.f k a0 a1) (laws_FnLessons.f (k + 1) a0 a1) := by
 intro a0 a1 k
 obtain ⟨ih0,ih1,ih2,ih3,ih4,ih5,ih6,ih7,ih8,ih9⟩ := laws_FnLessons.mono_l k
 unfold laws_FnLessons.f
 with_reducible repeat' first|apply ih0|apply ih1|apply ih2|apply ih3|apply ih4|apply ih5|apply ih6|apply ih7|apply ih8|apply ih9|apply impl_AreLessons.mono|apply impl_AreWords.mono|apply impl_CycleOf.mono|apply impl_FewestLessons.mono|apply impl_FirstUntaught.mono|apply impl_LessonsOf.mono|apply impl_TeachOrder.mono|apply laws_pIn.mono|apply laws_sameInts.mono|apply laws_sameLists.mono|apply spec_CycleOf.mono|apply spec_DrawCycleOf.mono|apply spec_DrawLessonsOf.mono|apply spec_FewestLessons.mono|apply spec_LessonsOf.mono|apply spec_TeachOrder.mono|apply LeO.refl|apply LeO.none|refine LeO.ite ?_ ?_|refine LeO.bind ?_ (fun _ => ?_)
set_option maxHeartbeats 40000000 in
set_option maxRecDepth 100000 in
theorem laws_FnLessons.calls (k : Nat) (A0 : Option Addr) (c0 : Nat) (l0 : List Int) (A1 : Option Addr) (c1 : Nat) (l1 : List Int) (r : Bool) (w : World) (hr0 : Kd.C (Kd.int .u8) w A0 l0.length l0) (hc0 : l0.length ≤ c0) (hr1 : Kd.C (Kd.int .u8) w A1 l1.length l1) (hc1 : l1.length ≤ c1) (h : laws_FnLessons.f k l0 l1 = some r) :
  Calls Try.prog 3 #[.slice A0 l0.length c0,.slice A1 l1.length c1] w fun e w' => e = .returned (.bool r) ∧ Below w.heap.size w w' := by
 have hu43 := Try.underlying43
 have HR0 := Aside0.mk hr0
 have HC0 := Aside0.mk hc0
 clear hr0 hc0
 have HR1 := Aside0.mk hr1
 have HC1 := Aside0.mk hc1
 clear hr1 hc1
 have HB := Aside0.mk (Below.refl w.heap.size w)
 have H : ((laws_big.f l0 l1).bind fun t101 => (if t101 = true then (some true) else ((spec_DrawLessonsOf.f k l0).bind fun bt102 => ((impl_LessonsOf.f k bt102.1 bt102.2).bind fun bt106 => ((spec_LessonsOf.f k bt102.1 bt102.2).bind fun bt110 => ((impl_FewestLessons.f k bt102.1).bind fun bt114 => ((spec_FewestLessons.f k bt102.1).bind fun bt116 => ((impl_TeachOrder.f k bt102.1).bind fun bt118 => ((spec_TeachOrder.f k bt102.1).bind fun bt122 => (if (bt106.2 != bt110.2) = true then (none) else ((laws_sameLists.f k bt106.1 bt110.1).bind fun t126 => (if t126 = true then (if (bt114.2 != bt116.2) = true then (none) else (if bt114.1 = bt116.1 then (if (bt118.2 != bt122.2) = true then (none) else ((laws_sameInts.f k bt118.1 bt122.1).bind fun t127 => (if t127 = true then (if (bt114.2 != bt118.2) = true then (none) else (if bt106.2 = true then (if bt114.2 = true then ((impl_AreWords.f k bt102.1).bind fun t128 => (laws_FnLessons.j0 k l1 bt102.1 bt102.2 bt106.1 bt106.2 bt110.1 bt116.1 bt118.2 bt122.1 (!t128))) else (none)) else (if bt114.2 = true then ((impl_AreWords.f k bt102.1).bind fun t129 => (laws_FnLessons.j0 k l1 bt102.1 bt102.2 bt106.1 bt106.2 bt110.1 bt116.1 bt118.2 bt122.1 (!t129))) else (laws_FnLessons.j0 k l1 bt102.1 bt102.2 bt106.1 bt106.2 bt110.1 bt116.1 bt118.2 bt122.1 false)))) else (none)))) else (none))) else (none))))))))))))) = some r := h
 clear h
 replace H := Option.bind_eq_some_iff.mp H
 obtain ⟨t101,A30,H⟩ := H
 try dsimp only at H
 have A3 := Aside0.mk A30
 clear A30
 by_cases c4 : t101 = true
 ·subst c4
  rw [if_pos rfl] at H
  as_aux_lemma =>
   obtain rfl := Option.some.inj H
   go_enter Try.func3,Try.ntmps3
   go_wp2_with (first|(go_at_call 4;(with_reducible refine (laws_big.calls _ _ l0 _ _ l1 true _ ?side1 ?side2 ?side3 ?side4 A3.out).mono ?_);(case side1 => exact ZR HR0.out);(case side2 => exact HC0.out);(case side3 => exact ZR HR1.out);(case side4 => exact HC1.out);rintro e w' ⟨rfl,⟨nd,rfl⟩⟩;(try first|exact ⟨rfl,_,World.drewN_drewN _ _ _⟩|exact ⟨rfl,_,Eq.trans (World.drewN_drewN _ _ _) (congrArg (World.drewN _) (Nat.add_assoc _ _ _))⟩)))
   repeat (go_quiet (first|(go_at_call 4;(with_reducible refine (laws_big.calls _ _ l0 _ _ l1 true _ ?side1 ?side2 ?side3 ?side4 A3.out).mono ?_);(case side1 => exact ZR HR0.out);(case side2 => exact HC0.out);(case side3 => exact ZR HR1.out);(case side4 => exact HC1.out);rintro e w' ⟨rfl,⟨nd,rfl⟩⟩;(try first|exact ⟨rfl,_,World.drewN_drewN _ _ _⟩|exact ⟨rfl,_,Eq.trans (World.drewN_drewN _ _ _) (congrArg (World.drewN _) (Nat.add_assoc _ _ _))⟩)));try go_wp2_with (first|(go_at_call 4;(with_reducible refine (laws_big.calls _ _ l0 _ _ l1 true _ ?side1 ?side2 ?side3 ?side4 A3.out).mono ?_);(case side1 => exact ZR HR0.out);(case side2 => exact HC0.out);(case side3 => exact ZR HR1.out);(case side4 => exact HC1.out);rintro e w' ⟨rfl,⟨nd,rfl⟩⟩;(try first|exact ⟨rfl,_,World.drewN_drewN _ _ _⟩|exact ⟨rfl,_,Eq.trans (World.drewN_drewN _ _ _) (congrArg (World.drewN _) (Nat.add_assoc _ _ _))⟩))))
   go_ret
   exact ⟨by first|rfl|(simp [*,errW_none,errW_some] <;> rfl),ZQ HB⟩
 replace c4 := Bool.eq_false_iff.mpr c4
 subst c4
 rw [if_neg (show ¬ (false = true) by decide)] at H
 replace H := Option.bind_eq_some_iff.mp H
 obtain ⟨⟨t102,t105⟩,A50,H⟩ := H
 try dsimp only at H
 have A5 := Aside0.mk A50
 clear A50
 replace H := Option.bind_eq_some_iff.mp H
 obtain ⟨⟨t106,t107⟩,A60,H⟩ := H
 try dsimp only at H
 have A6 := Aside0.mk A60
 clear A60
 replace H := Option.bind_eq_some_iff.mp H
 obtain ⟨⟨t110,t113⟩,A70,H⟩ := H
 try dsimp only at H
 have A7 := Aside0.mk A70
 clear A70
 replace H := Option.bind_eq_some_iff.mp H
 obtain ⟨⟨t114,t115⟩,A80,H⟩ := H
 try dsimp only at H
 have A8 := Aside0.mk A80
 clear A80
 replace H := Option.bind_eq_some_iff.mp H
 obtain ⟨⟨t116,t117⟩,A90,H⟩ := H
 try dsimp only at H
 have A9 := Aside0.mk A90
 clear A90
 replace H := Option.bind_eq_some_iff.mp H
 obtain ⟨⟨t118,t119⟩,A100,H⟩ := H
 try dsimp only at H
 have A10 := Aside0.mk A100
 clear A100
 replace H := Option.bind_eq_some_iff.mp H
 obtain ⟨⟨t122,t123⟩,A110,H⟩ := H
 try dsimp only at H
 have A11 := Aside0.mk A110
 clear A110
 have HC12 := Aside0.mk H
 clear H
 go_enter Try.func3,Try.ntmps3
 go_upto_region 10 with (first|(go_at_call 4;(with_reducible refine (laws_big.calls _ _ l0 _ _ l1 false _ ?side1 ?side2 ?side3 ?side4 A3.out).mono ?_);(case side1 => exact ZR HR0.out);(case side2 => exact HC0.out);(case side3 => exact ZR HR1.out);(case side4 => exact HC1.out);rintro e w' ⟨rfl,⟨nd,rfl⟩⟩;(try first|exact ⟨rfl,_,World.drewN_drewN _ _ _⟩|exact ⟨rfl,_,Eq.trans (World.drewN_drewN _ _ _) (congrArg (World.drewN _) (Nat.add_assoc _ _ _))⟩))|(go_at_call 5;(with_reducible refine (spec_DrawLessonsOf.calls k _ _ l0 t102 t105 _ ?side1 ?side2 A5.out).mono ?_);(case side1 => exact ZR HR0.out);(case side2 => exact HC0.out);rintro e w13 ⟨v103,rfl,ho0,hb⟩;have HO104 := Aside0.mk (Kd.N_lower (Kd.N_mono (ok' := fun k_ => True) ho0 (fun k_ hk_ => trivial)) (below_size (ZQ HB)));replace HB := Aside0.mk (below_step (ZQ HB) hb);(try clear hb);(try clear ho0);obtain ⟨Ao14,co14,eo14⟩ := Kd.N_slice HO104.out;subst eo14)|(go_at_call 6;(with_reducible refine (impl_LessonsOf.calls k _ _ t102 t105 t106 t107 _ ?side1 ?side2 A6.out).mono ?_);(case side1 => exact ZR (Kd.N_reads' HO104.out).2.2);(case side2 => exact (Kd.N_reads' HO104.out).2.1);rintro e w15 ⟨v108,rfl,ho0,hb⟩;have HO109 := Aside0.mk (Kd.N_lower (Kd.N_mono (ok' := fun k_ => some k_ ≠ (.slice Ao14 t102.length co14 : Value).ownBlock) (Kd.S_N (Kd.S_bound ho0)) (fun k_ hk_ => (Kd.fresh' (Kd.N_lt (ZKN HO104)) k_ hk_.2.1))) (below_size (ZQ HB)));replace HO104 := Aside0.mk (Kd.N_elder' (ZKN HO104) (Kd.S_base ho0) hb);replace HB := Aside0.mk (below_step (ZQ HB) hb);(try clear hb);(try clear ho0))|(go_at_call 7;(with_reducible refine (spec_LessonsOf.calls k _ _ t102 t105 t110 t113 _ ?side1 ?side2 A7.out).mono ?_);(case side1 => exact ZR (Kd.N_reads' HO104.out).2.2);(case side2 => exact (Kd.N_reads' HO104.out).2.1);rintro e w16 ⟨v111,rfl,ho0,hb⟩;have HO112 := Aside0.mk (Kd.N_lower (Kd.N_mono (ok' := fun k_ => some k_ ≠ (.slice Ao14 t102.length co14 : Value).ownBlock ∧ some k_ ≠ (v108 : Value).ownBlock) ho0 (fun k_ hk_ => ⟨(Kd.fresh' (Kd.N_lt (ZKN HO104)) k_ hk_),(Kd.fresh' (Kd.N_lt (ZKN HO109)) k_ hk_)⟩)) (below_size (ZQ HB)));replace HO104 := Aside0.mk (Kd.N_elder' (ZKN HO104) (Kd.N_base ho0) hb);replace HO109 := Aside0.mk (Kd.N_elder' (ZKN HO109) (Kd.N_base ho0) hb);replace HB := Aside0.mk (below_step (ZQ HB) hb);(try clear hb);(try clear ho0))|(go_at_call 8;(with_reducible refine (impl_FewestLessons.calls k _ _ t102 t114 t115 _ ?side1 ?side2 A8.out).mono ?_);(case side1 => exact ZR (Kd.N_reads' HO104.out).2.2);(case side2 => exact (Kd.N_reads' HO104.out).2.1);rintro e w17 ⟨rfl,hb⟩;replace HO104 := ZBN HO104 hb;replace HO109 := ZBN HO109 hb;replace HO112 := ZBN HO112 hb;replace HB := Aside0.mk (below_step (ZQ HB) hb);(try clear hb))|(go_at_call 9;(with_reducible refine (spec_FewestLessons.calls k _ _ t102 t116 t117 _ ?side1 ?side2 A9.out).mono ?_);(case side1 => exact ZR (Kd.N_reads' HO104.out).2.2);(case side2 => exact (Kd.N_reads' HO104.out).2.1);rintro e w18 ⟨rfl,hb⟩;replace HO104 := ZBN HO104 hb;replace HO109 := ZBN HO109 hb;replace HO112 := ZBN HO112 hb;replace HB := Aside0.mk (below_step (ZQ HB) hb);(try clear hb))|(go_at_call 10;(with_reducible refine (impl_TeachOrder.calls k _ _ t102 t118 t119 _ ?side1 ?side2 A10.out).mono ?_);(case side1 => exact ZR (Kd.N_reads' HO104.out).2.2);(case side2 => exact (Kd.N_reads' HO104.out).2.1);rintro e w19 ⟨v120,rfl,ho0,hb⟩;replace HO104 := Aside0.mk (Kd.N_elder' (ZKN HO104) (Kd.R_base ho0) hb);replace HO109 := Aside0.mk (Kd.N_elder' (ZKN HO109) (Kd.R_base ho0) hb);replace HO112 := Aside0.mk (Kd.N_elder' (ZKN HO112) (Kd.R_base ho0) hb);have HO121 := Aside0.mk (Kd.R_lower ho0 (below_size (ZQ HB)));replace HB := Aside0.mk (below_step (ZQ HB) hb);(try clear hb);(try clear ho0))|(go_at_call 11;(with_reducible refine (spec_TeachOrder.calls k _ _ t102 t122 t123 _ ?side1 ?side2 A11.out).mono ?_);(case side1 => exact ZR (Kd.N_reads' HO104.out).2.2);(case side2 => exact (Kd.N_reads' HO104.out).2.1);rintro e w20 ⟨v124,rfl,ho0,hb⟩;replace HO104 := Aside0.mk (Kd.N_elder' (ZKN HO104) (Kd.R_base ho0) hb);replace HO109 := Aside0.mk (Kd.N_elder' (ZKN HO109) (Kd.R_base ho0) hb);replace HO112 := Aside0.mk (Kd.N_elder' (ZKN HO112) (Kd.R_base ho0) hb);have HO125 := Aside0.mk (Kd.R_lower (Kd.R_new' ho0 (Kd.R_lt (ZK HO121))) (below_size (ZQ HB)));replace HO121 := Aside0.mk (Kd.R_elder' (ZK HO121) (Kd.R_base ho0) hb);replace HB := Aside0.mk (below_step (ZQ HB) hb);(try clear hb);(try clear ho0)))
 repeat (go_quiet (first|(go_at_call 4;(with_reducible refine (laws_big.calls _ _ l0 _ _ l1 false _ ?side1 ?side2 ?side3 ?side4 A3.out).mono ?_);(case side1 => exact ZR HR0.out);(case side2 => exact HC0.out);(case side3 => exact ZR HR1.out);(case side4 => exact HC1.out);rintro e w' ⟨rfl,⟨nd,rfl⟩⟩;(try first|exact ⟨rfl,_,World.drewN_drewN _ _ _⟩|exact ⟨rfl,_,Eq.trans (World.drewN_drewN _ _ _) (congrArg (World.drewN _) (Nat.add_assoc _ _ _))⟩))|(go_at_call 5;(with_reducible refine (spec_DrawLessonsOf.calls k _ _ l0 t102 t105 _ ?side1 ?side2 A5.out).mono ?_);(case side1 => exact ZR HR0.out);(case side2 => exact HC0.out);rintro e w13 ⟨v103,rfl,ho0,hb⟩;have HO104 := Aside0.mk (Kd.N_lower (Kd.N_mono (ok' := fun k_ => True) ho0 (fun k_ hk_ => trivial)) (below_size (ZQ HB)));replace HB := Aside0.mk (below_step (ZQ HB) hb);(try clear hb);(try clear ho0);obtain ⟨Ao14,co14,eo14⟩ := Kd.N_slice HO104.out;subst eo14)|(go_at_call 6;(with_reducible refine (impl_LessonsOf.calls k _ _ t102 t105 t106 t107 _ ?side1 ?side2 A6.out).mono ?_);(case side1 => exact ZR (Kd.N_reads' HO104.out).2.2);(case side2 => exact (Kd.N_reads' HO104.out).2.1);rintro e w15 ⟨v108,rfl,ho0,hb⟩;have HO109 := Aside0.mk (Kd.N_lower (Kd.N_mono (ok' := fun k_ => some k_ ≠ (.slice Ao14 t102.length co14 : Value).ownBlock) (Kd.S_N (Kd.S_bound ho0)) (fun k_ hk_ => (Kd.fresh' (Kd.N_lt (ZKN HO104)) k_ hk_.2.1))) (below_size (ZQ HB)));replace HO104 := Aside0.mk (Kd.N_elder' (ZKN HO104) (Kd.S_base ho0) hb);replace HB := Aside0.mk (below_step (ZQ HB) hb);(try clear hb);(try clear ho0))|(go_at_call 7;(with_reducible refine (spec_LessonsOf.calls k _ _ t102 t105 t110 t113 _ ?side1 ?side2 A7.out).mono ?_);(case side1 => exact ZR (Kd.N_reads' HO104.out).2.2);(case side2 => exact (Kd.N_reads' HO104.out).2.1);rintro e w16 ⟨v111,rfl,ho0,hb⟩;have HO112 := Aside0.mk (Kd.N_lower (Kd.N_mono (ok' := fun k_ => some k_ ≠ (.slice Ao14 t102.length co14 : Value).ownBlock ∧ some k_ ≠ (v108 : Value).ownBlock) ho0 (fun k_ hk_ => ⟨(Kd.fresh' (Kd.N_lt (ZKN HO104)) k_ hk_),(Kd.fresh' (Kd.N_lt (ZKN HO109)) k_ hk_)⟩)) (below_size (ZQ HB)));replace HO104 := Aside0.mk (Kd.N_elder' (ZKN HO104) (Kd.N_base ho0) hb);replace HO109 := Aside0.mk (Kd.N_elder' (ZKN HO109) (Kd.N_base ho0) hb);replace HB := Aside0.mk (below_step (ZQ HB) hb);(try clear hb);(try clear ho0))|(go_at_call 8;(with_reducible refine (impl_FewestLessons.calls k _ _ t102 t114 t115 _ ?side1 ?side2 A8.out).mono ?_);(case side1 => exact ZR (Kd.N_reads' HO104.out).2.2);(case side2 => exact (Kd.N_reads' HO104.out).2.1);rintro e w17 ⟨rfl,hb⟩;replace HO104 := ZBN HO104 hb;replace HO109 := ZBN HO109 hb;replace HO112 := ZBN HO112 hb;replace HB := Aside0.mk (below_step (ZQ HB) hb);(try clear hb))|(go_at_call 9;(with_reducible refine (spec_FewestLessons.calls k _ _ t102 t116 t117 _ ?side1 ?side2 A9.out).mono ?_);(case side1 => exact ZR (Kd.N_reads' HO104.out).2.2);(case side2 => exact (Kd.N_reads' HO104.out).2.1);rintro e w18 ⟨rfl,hb⟩;replace HO104 := ZBN HO104 hb;replace HO109 := ZBN HO109 hb;replace HO112 := ZBN HO112 hb;replace HB := Aside0.mk (below_step (ZQ HB) hb);(try clear hb))|(go_at_call 10;(with_reducible refine (impl_TeachOrder.calls k _ _ t102 t118 t119 _ ?side1 ?side2 A10.out).mono ?_);(case side1 => exact ZR (Kd.N_reads' HO104.out).2.2);(case side2 => exact (Kd.N_reads' HO104.out).2.1);rintro e w19 ⟨v120,rfl,ho0,hb⟩;replace HO104 := Aside0.mk (Kd.N_elder' (ZKN HO104) (Kd.R_base ho0) hb);replace HO109 := Aside0.mk (Kd.N_elder' (ZKN HO109) (Kd.R_base ho0) hb);replace HO112 := Aside0.mk (Kd.N_elder' (ZKN HO112) (Kd.R_base ho0) hb);have HO121 := Aside0.mk (Kd.R_lower ho0 (below_size (ZQ HB)));replace HB := Aside0.mk (below_step (ZQ HB) hb);(try clear hb);(try clear ho0))|(go_at_call 11;(with_reducible refine (spec_TeachOrder.calls k _ _ t102 t122 t123 _ ?side1 ?side2 A11.out).mono ?_);(case side1 => exact ZR (Kd.N_reads' HO104.out).2.2);(case side2 => exact (Kd.N_reads' HO104.out).2.1);rintro e w20 ⟨v124,rfl,ho0,hb⟩;replace HO104 := Aside0.mk (Kd.N_elder' (ZKN HO104) (Kd.R_base ho0) hb);replace HO109 := Aside0.mk (Kd.N_elder' (ZKN HO109) (Kd.R_base ho0) hb);replace HO112 := Aside0.mk (Kd.N_elder' (ZKN HO112) (Kd.R_base ho0) hb);have HO125 := Aside0.mk (Kd.R_lower (Kd.R_new' ho0 (Kd.R_lt (ZK HO121))) (below_size (ZQ HB)));replace HO121 := Aside0.mk (Kd.R_elder' (ZK HO121) (Kd.R_base ho0) hb);replace HB := Aside0.mk (below_step (ZQ HB) hb);(try clear hb);(try clear ho0)));go_upto_region 10 with (first|(go_at_call 4;(with_reducible refine (laws_big.calls _ _ l0 _ _ l1 false _ ?side1 ?side2 ?side3 ?side4 A3.out).mono ?_);(case side1 => exact ZR HR0.out);(case side2 => exact HC0.out);(case side3 => exact ZR HR1.out);(case side4 => exact HC1.out);rintro e w' ⟨rfl,⟨nd,rfl⟩⟩;(try first|exact ⟨rfl,_,World.drewN_drewN _ _ _⟩|exact ⟨rfl,_,Eq.trans (World.drewN_drewN _ _ _) (congrArg (World.drewN _) (Nat.add_assoc _ _ _))⟩))|(go_at_call 5;(with_reducible refine (spec_DrawLessonsOf.calls k _ _ l0 t102 t105 _ ?side1 ?side2 A5.out).mono ?_);(case side1 => exact ZR HR0.out);(case side2 => exact HC0.out);rintro e w13 ⟨v103,rfl,ho0,hb⟩;have HO104 := Aside0.mk (Kd.N_lower (Kd.N_mono (ok' := fun k_ => True) ho0 (fun k_ hk_ => trivial)) (below_size (ZQ HB)));replace HB := Aside0.mk (below_step (ZQ HB) hb);(try clear hb);(try clear ho0);obtain ⟨Ao14,co14,eo14⟩ := Kd.N_slice HO104.out;subst eo14)|(go_at_call 6;(with_reducible refine (impl_LessonsOf.calls k _ _ t102 t105 t106 t107 _ ?side1 ?side2 A6.out).mono ?_);(case side1 => exact ZR (Kd.N_reads' HO104.out).2.2);(case side2 => exact (Kd.N_reads' HO104.out).2.1);rintro e w15 ⟨v108,rfl,ho0,hb⟩;have HO109 := Aside0.mk (Kd.N_lower (Kd.N_mono (ok' := fun k_ => some k_ ≠ (.slice Ao14 t102.length co14 : Value).ownBlock) (Kd.S_N (Kd.S_bound ho0)) (fun k_ hk_ => (Kd.fresh' (Kd.N_lt (ZKN HO104)) k_ hk_.2.1))) (below_size (ZQ HB)));replace HO104 := Aside0.mk (Kd.N_elder' (ZKN HO104) (Kd.S_base ho0) hb);replace HB := Aside0.mk (below_step (ZQ HB) hb);(try clear hb);(try clear ho0))|(go_at_call 7;(with_reducible refine (spec_LessonsOf.calls k _ _ t102 t105 t110 t113 _ ?side1 ?side2 A7.out).mono ?_);(case side1 => exact ZR (Kd.N_reads' HO104.out).2.2);(case side2 => exact (Kd.N_reads' HO104.out).2.1);rintro e w16 ⟨v111,rfl,ho0,hb⟩;have HO112 := Aside0.mk (Kd.N_lower (Kd.N_mono (ok' := fun k_ => some k_ ≠ (.slice Ao14 t102.length co14 : Value).ownBlock ∧ some k_ ≠ (v108 : Value).ownBlock) ho0 (fun k_ hk_ => ⟨(Kd.fresh' (Kd.N_lt (ZKN HO104)) k_ hk_),(Kd.fresh' (Kd.N_lt (ZKN HO109)) k_ hk_)⟩)) (below_size (ZQ HB)));replace HO104 := Aside0.mk (Kd.N_elder' (ZKN HO104) (Kd.N_base ho0) hb);replace HO109 := Aside0.mk (Kd.N_elder' (ZKN HO109) (Kd.N_base ho0) hb);replace HB := Aside0.mk (below_step (ZQ HB) hb);(try clear hb);(try clear ho0))|(go_at_call 8;(with_reducible refine (impl_FewestLessons.calls k _ _ t102 t114 t115 _ ?side1 ?side2 A8.out).mono ?_);(case side1 => exact ZR (Kd.N_reads' HO104.out).2.2);(case side2 => exact (Kd.N_reads' HO104.out).2.1);rintro e w17 ⟨rfl,hb⟩;replace HO104 := ZBN HO104 hb;replace HO109 := ZBN HO109 hb;replace HO112 := ZBN HO112 hb;replace HB := Aside0.mk (below_step (ZQ HB) hb);(try clear hb))|(go_at_call 9;(with_reducible refine (spec_FewestLessons.calls k _ _ t102 t116 t117 _ ?side1 ?side2 A9.out).mono ?_);(case side1 => exact ZR (Kd.N_reads' HO104.out).2.2);(case side2 => exact (Kd.N_reads' HO104.out).2.1);rintro e w18 ⟨rfl,hb⟩;replace HO104 := ZBN HO104 hb;replace HO109 := ZBN HO109 hb;replace HO112 := ZBN HO112 hb;replace HB := Aside0.mk (below_step (ZQ HB) hb);(try clear hb))|(go_at_call 10;(with_reducible refine (impl_TeachOrder.calls k _ _ t102 t118 t119 _ ?side1 ?side2 A10.out).mono ?_);(case side1 => exact ZR (Kd.N_reads' HO104.out).2.2);(case side2 => exact (Kd.N_reads' HO104.out).2.1);rintro e w19 ⟨v120,rfl,ho0,hb⟩;replace HO104 := Aside0.mk (Kd.N_elder' (ZKN HO104) (Kd.R_base ho0) hb);replace HO109 := Aside0.mk (Kd.N_elder' (ZKN HO109) (Kd.R_base ho0) hb);replace HO112 := Aside0.mk (Kd.N_elder' (ZKN HO112) (Kd.R_base ho0) hb);have HO121 := Aside0.mk (Kd.R_lower ho0 (below_size (ZQ HB)));replace HB := Aside0.mk (below_step (ZQ HB) hb);(try clear hb);(try clear ho0))|(go_at_call 11;(with_reducible refine (spec_TeachOrder.calls k _ _ t102 t122 t123 _ ?side1 ?side2 A11.out).mono ?_);(case side1 => exact ZR (Kd.N_reads' HO104.out).2.2);(case side2 => exact (Kd.N_reads' HO104.out).2.1);rintro e w20 ⟨v124,rfl,ho0,hb⟩;replace HO104 := Aside0.mk (Kd.N_elder' (ZKN HO104) (Kd.R_base ho0) hb);replace HO109 := Aside0.mk (Kd.N_elder' (ZKN HO109) (Kd.R_base ho0) hb);replace HO112 := Aside0.mk (Kd.N_elder' (ZKN HO112) (Kd.R_base ho0) hb);have HO125 := Aside0.mk (Kd.R_lower (Kd.R_new' ho0 (Kd.R_lt (ZK HO121))) (below_size (ZQ HB)));replace HO121 := Aside0.mk (Kd.R_elder' (ZK HO121) (Kd.R_base ho0) hb);replace HB := Aside0.mk (below_step (ZQ HB) hb);(try clear hb);(try clear ho0))))
 (try simp only [Act.put,zuA,zuB,zuC])
 go_cut [131] (fun v131 wc => ∃ (kq : Nat) (x131_11 : Bool),v131 = .bool x131_11 ∧ Aside0 (laws_FnLessons.j0 kq l1 t102 t105 t106 t107 t110 t116 t119 t122 x131_11 = some r) ∧ Aside0 (kq ≤ k) ∧ Aside0 (Kd.N k43 43 wc w.heap.size (fun k_ => some k_ ≠ (v108 : Value).ownBlock ∧ some k_ ≠ (v111 : Value).ownBlock ∧ some k_ ≠ (v124 : Value).ownBlock) (.slice Ao14 t102.length co14) t102) ∧ Aside0 (Kd.N (Kd.slice 3 (Kd.int .i64)) 32 wc w.heap.size (fun k_ => some k_ ≠ ((.slice Ao14 t102.length co14) : Value).ownBlock ∧ some k_ ≠ (v111 : Value).ownBlock ∧ some k_ ≠ (v124 : Value).ownBlock) v108 t106) ∧ Aside0 (Kd.N (Kd.slice 3 (Kd.int .i64)) 32 wc w.heap.size (fun k_ => some k_ ≠ ((.slice Ao14 t102.length co14) : Value).ownBlock ∧ some k_ ≠ (v108 : Value).ownBlock ∧ some k_ ≠ (v124 : Value).ownBlock) v111 t110) ∧ Aside0 (Kd.R (Kd.int .i64) 3 wc w.heap.size (fun _ => True) v124 t122) ∧ Aside0 (Below w.heap.size w wc))
 case first =>
  have H := HC12.out
  clear HC12
  by_cases c21 : (t107 != t113) = true
  ·rw [if_pos c21] at H
   exact absurd H (by simp)
  rw [if_neg c21] at H
  have c21b0 : (t107 != t113) = false := by simpa using c21
  (try (have c21b1 : decide (t107 = t113) = true := by simpa using c21))
  (try (have c21b2 : (t107 == t113) = true := by simpa using c21))
  clear c21
  (first|rw [c21b0]|rw [c21b1]|(simp only [i64_w,i32_w];rw [c21b0])|skip)
  replace H := Option.bind_eq_some_iff.mp H
  obtain ⟨t126,A220,H⟩ := H
  try dsimp only at H
  have A22 := Aside0.mk A220
  clear A220
  by_cases c23 : t126 = true;rotate_left
  ·replace c23 := Bool.eq_false_iff.mpr c23
   subst c23
   rw [if_neg (show ¬ (false = true) by decide)] at H
   exact absurd H (by simp)
  subst c23
  rw [if_pos rfl] at H
  by_cases c24 : (t115 != t117) = true
  ·rw [if_pos c24] at H
   exact absurd H (by simp)
  rw [if_neg c24] at H
  have c24b0 : (t115 != t117) = false := by simpa using c24
  (try (have c24b1 : decide (t115 = t117) = true := by simpa using c24))
  (try (have c24b2 : (t115 == t117) = true := by simpa using c24))
  clear c24
  by_cases c25 : t114 = t116;rotate_left
  ·rw [if_neg c25] at H
   exact absurd H (by simp)
  rw [if_pos c25] at H
  have c25b0 : (t114 == t116) = true := beq_iff_eq.mpr c25
  have c25b1 : (t114 != t116) = false := bne_eq_false_iff_eq.mpr c25
  clear c25
  by_cases c26 : (t119 != t123) = true
  ·rw [if_pos c26] at H
   exact absurd H (by simp)
  rw [if_neg c26] at H
  have c26b0 : (t119 != t123) = false := by simpa using c26
  (try (have c26b1 : decide (t119 = t123) = true := by simpa using c26))
  (try (have c26b2 : (t119 == t123) = true := by simpa using c26))
  clear c26
  replace H := Option.bind_eq_some_iff.mp H
  obtain ⟨t127,A270,H⟩ := H
  try dsimp only at H
  have A27 := Aside0.mk A270
  clear A270
  by_cases c28 : t127 = true;rotate_left
  ·replace c28 := Bool.eq_false_iff.mpr c28
   subst c28
   rw [if_neg (show ¬ (false = true) by decide)] at H
   exact absurd H (by simp)
  subst c28
  rw [if_pos rfl] at H
  by_cases c29 : (t115 != t119) = true
  ·rw [if_pos c29] at H
   exact absurd H (by simp)
  rw [if_neg c29] at H
  have c29b0 : (t115 != t119) = false := by simpa using c29
  (try (have c29b1 : decide (t115 = t119) = true := by simpa using c29))
  (try (have c29b2 : (t115 == t119) = true := by simpa using c29))
  clear c29
  by_cases c30 : t107 = true
  ·subst c30
   rw [if_pos rfl] at H
   by_cases c31 : t115 = true;rotate_left
   ·replace c31 := Bool.eq_false_iff.mpr c31
    subst c31
    rw [if_neg (show ¬ (false = true) by decide)] at H
    exact absurd H (by simp)
   subst c31
   rw [if_pos rfl] at H
   replace H := Option.bind_eq_some_iff.mp H
   obtain ⟨t128,A320,H⟩ := H
   try dsimp only at H
   have A32 := Aside0.mk A320
   clear A320
   as_aux_lemma =>
    have H' := Aside0.mk H
    clear H
    obtain ⟨Ao33,co33,eo33⟩ := Kd.N_slice HO109.out
    subst eo33
    obtain ⟨Ao34,co34,eo34⟩ := Kd.N_slice HO112.out
    subst eo34
    go_wp2_with (first|(go_at_call 12;(with_reducible refine (laws_sameLists.calls k _ _ t106 _ _ t110 true _ ?side1 ?side2 ?side3 ?side4 A22.out).mono ?_);(case side1 => exact ZR (Kd.N_reads' HO109.out).2.2);(case side2 => exact (Kd.N_reads' HO109.out).2.1);(case side3 => exact ZR (Kd.N_reads' HO112.out).2.2);(case side4 => exact (Kd.N_reads' HO112.out).2.1);rintro e w' ⟨rfl,⟨nd,rfl⟩⟩;(try first|exact ⟨rfl,_,World.drewN_drewN _ _ _⟩|exact ⟨rfl,_,Eq.trans (World.drewN_drewN _ _ _) (congrArg (World.drewN _) (Nat.add_assoc _ _ _))⟩);obtain ⟨Ao35,co35,eo35⟩ := Kd.R_slice HO121.out;subst eo35;obtain ⟨Ao36,co36,eo36⟩ := Kd.R_slice HO125.out;subst eo36)|(go_at_call 13;(with_reducible refine (laws_sameInts.calls k _ _ t118 _ _ t122 true _ ?side1 ?side2 ?side3 ?side4 A27.out).mono ?_);(case side1 => exact ZR (Kd.R_reads' HO121.out).2.2);(case side2 => exact (Kd.R_reads' HO121.out).2.1);(case side3 => exact ZR (Kd.R_reads' HO125.out).2.2);(case side4 => exact (Kd.R_reads' HO125.out).2.1);rintro e w' ⟨rfl,⟨nd,rfl⟩⟩;(try first|exact ⟨rfl,_,World.drewN_drewN _ _ _⟩|exact ⟨rfl,_,Eq.trans (World.drewN_drewN _ _ _) (congrArg (World.drewN _) (Nat.add_assoc _ _ _))⟩))|(go_at_call 14;(with_reducible refine (impl_AreWords.calls k _ _ t102 t128 _ ?side1 ?side2 A32.out).mono ?_);(case side1 => exact ZR (Kd.N_reads' HO104.out).2.2);(case side2 => exact (Kd.N_reads' HO104.out).2.1);rintro e w37 ⟨rfl,hb⟩;replace HO104 := ZBN HO104 hb;replace HO109 := ZBN HO109 hb;replace HO112 := ZBN HO112 hb;replace HO121 := ZBR HO121 hb;replace HO125 := ZBR HO125 hb;replace HB := Aside0.mk (below_step (ZQ HB) hb);(try clear hb)))
    repeat (go_quiet (first|(go_at_call 12;(with_reducible refine (laws_sameLists.calls k _ _ t106 _ _ t110 true _ ?side1 ?side2 ?side3 ?side4 A22.out).mono ?_);(case side1 => exact ZR (Kd.N_reads' HO109.out).2.2);(case side2 => exact (Kd.N_reads' HO109.out).2.1);(case side3 => exact ZR (Kd.N_reads' HO112.out).2.2);(case side4 => exact (Kd.N_reads' HO112.out).2.1);rintro e w' ⟨rfl,⟨nd,rfl⟩⟩;(try first|exact ⟨rfl,_,World.drewN_drewN _ _ _⟩|exact ⟨rfl,_,Eq.trans (World.drewN_drewN _ _ _) (congrArg (World.drewN _) (Nat.add_assoc _ _ _))⟩);obtain ⟨Ao35,co35,eo35⟩ := Kd.R_slice HO121.out;subst eo35;obtain ⟨Ao36,co36,eo36⟩ := Kd.R_slice HO125.out;subst eo36)|(go_at_call 13;(with_reducible refine (laws_sameInts.calls k _ _ t118 _ _ t122 true _ ?side1 ?side2 ?side3 ?side4 A27.out).mono ?_);(case side1 => exact ZR (Kd.R_reads' HO121.out).2.2);(case side2 => exact (Kd.R_reads' HO121.out).2.1);(case side3 => exact ZR (Kd.R_reads' HO125.out).2.2);(case side4 => exact (Kd.R_reads' HO125.out).2.1);rintro e w' ⟨rfl,⟨nd,rfl⟩⟩;(try first|exact ⟨rfl,_,World.drewN_drewN _ _ _⟩|exact ⟨rfl,_,Eq.trans (World.drewN_drewN _ _ _) (congrArg (World.drewN _) (Nat.add_assoc _ _ _))⟩))|(go_at_call 14;(with_reducible refine (impl_AreWords.calls k _ _ t102 t128 _ ?side1 ?side2 A32.out).mono ?_);(case side1 => exact ZR (Kd.N_reads' HO104.out).2.2);(case side2 => exact (Kd.N_reads' HO104.out).2.1);rintro e w37 ⟨rfl,hb⟩;replace HO104 := ZBN HO104 hb;replace HO109 := ZBN HO109 hb;replace HO112 := ZBN HO112 hb;replace HO121 := ZBR HO121 hb;replace HO125 := ZBR HO125 hb;replace HB := Aside0.mk (below_step (ZQ HB) hb);(try clear hb)));try go_wp2_with (first|(go_at_call 12;(with_reducible refine (laws_sameLists.calls k _ _ t106 _ _ t110 true _ ?side1 ?side2 ?side3 ?side4 A22.out).mono ?_);(case side1 => exact ZR (Kd.N_reads' HO109.out).2.2);(case side2 => exact (Kd.N_reads' HO109.out).2.1);(case side3 => exact ZR (Kd.N_reads' HO112.out).2.2);(case side4 => exact (Kd.N_reads' HO112.out).2.1);rintro e w' ⟨rfl,⟨nd,rfl⟩⟩;(try first|exact ⟨rfl,_,World.drewN_drewN _ _ _⟩|exact ⟨rfl,_,Eq.trans (World.drewN_drewN _ _ _) (congrArg (World.drewN _) (Nat.add_assoc _ _ _))⟩);obtain ⟨Ao35,co35,eo35⟩ := Kd.R_slice HO121.out;subst eo35;obtain ⟨Ao36,co36,eo36⟩ := Kd.R_slice HO125.out;subst eo36)|(go_at_call 13;(with_reducible refine (laws_sameInts.calls k _ _ t118 _ _ t122 true _ ?side1 ?side2 ?side3 ?side4 A27.out).mono ?_);(case side1 => exact ZR (Kd.R_reads' HO121.out).2.2);(case side2 => exact (Kd.R_reads' HO121.out).2.1);(case side3 => exact ZR (Kd.R_reads' HO125.out).2.2);(case side4 => exact (Kd.R_reads' HO125.out).2.1);rintro e w' ⟨rfl,⟨nd,rfl⟩⟩;(try first|exact ⟨rfl,_,World.drewN_drewN _ _ _⟩|exact ⟨rfl,_,Eq.trans (World.drewN_drewN _ _ _) (congrArg (World.drewN _) (Nat.add_assoc _ _ _))⟩))|(go_at_call 14;(with_reducible refine (impl_AreWords.calls k _ _ t102 t128 _ ?side1 ?side2 A32.out).mono ?_);(case side1 => exact ZR (Kd.N_reads' HO104.out).2.2);(case side2 => exact (Kd.N_reads' HO104.out).2.1);rintro e w37 ⟨rfl,hb⟩;replace HO104 := ZBN HO104 hb;replace HO109 := ZBN HO109 hb;replace HO112 := ZBN HO112 hb;replace HO121 := ZBR HO121 hb;replace HO125 := ZBR HO125 hb;replace HB := Aside0.mk (below_step (ZQ HB) hb);(try clear hb))))
    go_meet
    case rel => exact ⟨_,(!t128),(by first|rfl|(simp;done)|(simp [*];done)),H',⟨by first|omega|exact Nat.le_refl _⟩,⟨ZKN ⟨Kd.N_mono HO104.out (fun _ hk => ⟨hk.1.1.1.2,⟨hk.1.1.2,hk.2⟩⟩)⟩⟩,⟨ZKN ⟨Kd.N_mono HO109.out (fun _ hk => ⟨hk.1.1.1,⟨hk.1.1.2,hk.2⟩⟩)⟩⟩,⟨ZKN ⟨Kd.N_mono HO112.out (fun _ hk => ⟨hk.1.1.1,⟨hk.1.1.2,hk.2⟩⟩)⟩⟩,⟨ZK ⟨Kd.R_mono HO125.out (fun _ hk => trivial)⟩⟩,⟨ZQ HB⟩⟩
  replace c30 := Bool.eq_false_iff.mpr c30
  subst c30
  rw [if_neg (show ¬ (false = true) by decide)] at H
  by_cases c38 : t115 = true;rotate_left
  ·replace c38 := Bool.eq_false_iff.mpr c38
   subst c38
   rw [if_neg (show ¬ (false = true) by decide)] at H
   as_aux_lemma =>
    have H' := Aside0.mk H
    clear H
    obtain ⟨Ao45,co45,eo45⟩ := Kd.N_slice HO109.out
    subst eo45
    obtain ⟨Ao46,co46,eo46⟩ := Kd.N_slice HO112.out
    subst eo46
    go_wp2_with (first|(go_at_call 12;(with_reducible refine (laws_sameLists.calls k _ _ t106 _ _ t110 true _ ?side1 ?side2 ?side3 ?side4 A22.out).mono ?_);(case side1 => exact ZR (Kd.N_reads' HO109.out).2.2);(case side2 => exact (Kd.N_reads' HO109.out).2.1);(case side3 => exact ZR (Kd.N_reads' HO112.out).2.2);(case side4 => exact (Kd.N_reads' HO112.out).2.1);rintro e w' ⟨rfl,⟨nd,rfl⟩⟩;(try first|exact ⟨rfl,_,World.drewN_drewN _ _ _⟩|exact ⟨rfl,_,Eq.trans (World.drewN_drewN _ _ _) (congrArg (World.drewN _) (Nat.add_assoc _ _ _))⟩);obtain ⟨Ao47,co47,eo47⟩ := Kd.R_slice HO121.out;subst eo47;obtain ⟨Ao48,co48,eo48⟩ := Kd.R_slice HO125.out;subst eo48)|(go_at_call 13;(with_reducible refine (laws_sameInts.calls k _ _ t118 _ _ t122 true _ ?side1 ?side2 ?side3 ?side4 A27.out).mono ?_);(case side1 => exact ZR (Kd.R_reads' HO121.out).2.2);(case side2 => exact (Kd.R_reads' HO121.out).2.1);(case side3 => exact ZR (Kd.R_reads' HO125.out).2.2);(case side4 => exact (Kd.R_reads' HO125.out).2.1);rintro e w' ⟨rfl,⟨nd,rfl⟩⟩;(try first|exact ⟨rfl,_,World.drewN_drewN _ _ _⟩|exact ⟨rfl,_,Eq.trans (World.drewN_drewN _ _ _) (congrArg (World.drewN _) (Nat.add_assoc _ _ _))⟩)))
    repeat (go_quiet (first|(go_at_call 12;(with_reducible refine (laws_sameLists.calls k _ _ t106 _ _ t110 true _ ?side1 ?side2 ?side3 ?side4 A22.out).mono ?_);(case side1 => exact ZR (Kd.N_reads' HO109.out).2.2);(case side2 => exact (Kd.N_reads' HO109.out).2.1);(case side3 => exact ZR (Kd.N_reads' HO112.out).2.2);(case side4 => exact (Kd.N_reads' HO112.out).2.1);rintro e w' ⟨rfl,⟨nd,rfl⟩⟩;(try first|exact ⟨rfl,_,World.drewN_drewN _ _ _⟩|exact ⟨rfl,_,Eq.trans (World.drewN_drewN _ _ _) (congrArg (World.drewN _) (Nat.add_assoc _ _ _))⟩);obtain ⟨Ao47,co47,eo47⟩ := Kd.R_slice HO121.out;subst eo47;obtain ⟨Ao48,co48,eo48⟩ := Kd.R_slice HO125.out;subst eo48)|(go_at_call 13;(with_reducible refine (laws_sameInts.calls k _ _ t118 _ _ t122 true _ ?side1 ?side2 ?side3 ?side4 A27.out).mono ?_);(case side1 => exact ZR (Kd.R_reads' HO121.out).2.2);(case side2 => exact (Kd.R_reads' HO121.out).2.1);(case side3 => exact ZR (Kd.R_reads' HO125.out).2.2);(case side4 => exact (Kd.R_reads' HO125.out).2.1);rintro e w' ⟨rfl,⟨nd,rfl⟩⟩;(try first|exact ⟨rfl,_,World.drewN_drewN _ _ _⟩|exact ⟨rfl,_,Eq.trans (World.drewN_drewN _ _ _) (congrArg (World.drewN _) (Nat.add_assoc _ _ _))⟩)));try go_wp2_with (first|(go_at_call 12;(with_reducible refine (laws_sameLists.calls k _ _ t106 _ _ t110 true _ ?side1 ?side2 ?side3 ?side4 A22.out).mono ?_);(case side1 => exact ZR (Kd.N_reads' HO109.out).2.2);(case side2 => exact (Kd.N_reads' HO109.out).2.1);(case side3 => exact ZR (Kd.N_reads' HO112.out).2.2);(case side4 => exact (Kd.N_reads' HO112.out).2.1);rintro e w' ⟨rfl,⟨nd,rfl⟩⟩;(try first|exact ⟨rfl,_,World.drewN_drewN _ _ _⟩|exact ⟨rfl,_,Eq.trans (World.drewN_drewN _ _ _) (congrArg (World.drewN _) (Nat.add_assoc _ _ _))⟩);obtain ⟨Ao47,co47,eo47⟩ := Kd.R_slice HO121.out;subst eo47;obtain ⟨Ao48,co48,eo48⟩ := Kd.R_slice HO125.out;subst eo48)|(go_at_call 13;(with_reducible refine (laws_sameInts.calls k _ _ t118 _ _ t122 true _ ?side1 ?side2 ?side3 ?side4 A27.out).mono ?_);(case side1 => exact ZR (Kd.R_reads' HO121.out).2.2);(case side2 => exact (Kd.R_reads' HO121.out).2.1);(case side3 => exact ZR (Kd.R_reads' HO125.out).2.2);(case side4 => exact (Kd.R_reads' HO125.out).2.1);rintro e w' ⟨rfl,⟨nd,rfl⟩⟩;(try first|exact ⟨rfl,_,World.drewN_drewN _ _ _⟩|exact ⟨rfl,_,Eq.trans (World.drewN_drewN _ _ _) (congrArg (World.drewN _) (Nat.add_assoc _ _ _))⟩))))
    go_meet
    case rel => exact ⟨_,(false),(by first|rfl|(simp;done)|(simp [*];done)),H',⟨by first|omega|exact Nat.le_refl _⟩,⟨ZKN ⟨Kd.N_mono HO104.out (fun _ hk => ⟨hk.1.1.1.2,⟨hk.1.1.2,hk.2⟩⟩)⟩⟩,⟨ZKN ⟨Kd.N_mono HO109.out (fun _ hk => ⟨hk.1.1.1,⟨hk.1.1.2,hk.2⟩⟩)⟩⟩,⟨ZKN ⟨Kd.N_mono HO112.out (fun _ hk => ⟨hk.1.1.1,⟨hk.1.1.2,hk.2⟩⟩)⟩⟩,⟨ZK ⟨Kd.R_mono HO125.out (fun _ hk => trivial)⟩⟩,⟨ZQ HB⟩⟩
  subst c38
  rw [if_pos rfl] at H
  replace H := Option.bind_eq_some_iff.mp H
  obtain ⟨t129,A390,H⟩ := H
  try dsimp only at H
  have A39 := Aside0.mk A390
  clear A390
  as_aux_lemma =>
   have H' := Aside0.mk H
   clear H
   obtain ⟨Ao40,co40,eo40⟩ := Kd.N_slice HO109.out
   subst eo40
   obtain ⟨Ao41,co41,eo41⟩ := Kd.N_slice HO112.out
   subst eo41
   go_wp2_with (first|(go_at_call 12;(with_reducible refine (laws_sameLists.calls k _ _ t106 _ _ t110 true _ ?side1 ?side2 ?side3 ?side4 A22.out).mono ?_);(case side1 => exact ZR (Kd.N_reads' HO109.out).2.2);(case side2 => exact (Kd.N_reads' HO109.out).2.1);(case side3 => exact ZR (Kd.N_reads' HO112.out).2.2);(case side4 => exact (Kd.N_reads' HO112.out).2.1);rintro e w' ⟨rfl,⟨nd,rfl⟩⟩;(try first|exact ⟨rfl,_,World.drewN_drewN _ _ _⟩|exact ⟨rfl,_,Eq.trans (World.drewN_drewN _ _ _) (congrArg (World.drewN _) (Nat.add_assoc _ _ _))⟩);obtain ⟨Ao42,co42,eo42⟩ := Kd.R_slice HO121.out;subst eo42;obtain ⟨Ao43,co43,eo43⟩ := Kd.R_slice HO125.out;subst eo43)|(go_at_call 13;(with_reducible refine (laws_sameInts.calls k _ _ t118 _ _ t122 true _ ?side1 ?side2 ?side3 ?side4 A27.out).mono ?_);(case side1 => exact ZR (Kd.R_reads' HO121.out).2.2);(case side2 => exact (Kd.R_reads' HO121.out).2.1);(case side3 => exact ZR (Kd.R_reads' HO125.out).2.2);(case side4 => exact (Kd.R_reads' HO125.out).2.1);rintro e w' ⟨rfl,⟨nd,rfl⟩⟩;(try first|exact ⟨rfl,_,World.drewN_drewN _ _ _⟩|exact ⟨rfl,_,Eq.trans (World.drewN_drewN _ _ _) (congrArg (World.drewN _) (Nat.add_assoc _ _ _))⟩))|(go_at_call 14;(with_reducible refine (impl_AreWords.calls k _ _ t102 t129 _ ?side1 ?side2 A39.out).mono ?_);(case side1 => exact ZR (Kd.N_reads' HO104.out).2.2);(case side2 => exact (Kd.N_reads' HO104.out).2.1);rintro e w44 ⟨rfl,hb⟩;replace HO104 := ZBN HO104 hb;replace HO109 := ZBN HO109 hb;replace HO112 := ZBN HO112 hb;replace HO121 := ZBR HO121 hb;replace HO125 := ZBR HO125 hb;replace HB := Aside0.mk (below_step (ZQ HB) hb);(try clear hb)))
   repeat (go_quiet (first|(go_at_call 12;(with_reducible refine (laws_sameLists.calls k _ _ t106 _ _ t110 true _ ?side1 ?side2 ?side3 ?side4 A22.out).mono ?_);(case side1 => exact ZR (Kd.N_reads' HO109.out).2.2);(case side2 => exact (Kd.N_reads' HO109.out).2.1);(case side3 => exact ZR (Kd.N_reads' HO112.out).2.2);(case side4 => exact (Kd.N_reads' HO112.out).2.1);rintro e w' ⟨rfl,⟨nd,rfl⟩⟩;(try first|exact ⟨rfl,_,World.drewN_drewN _ _ _⟩|exact ⟨rfl,_,Eq.trans (World.drewN_drewN _ _ _) (congrArg (World.drewN _) (Nat.add_assoc _ _ _))⟩);obtain ⟨Ao42,co42,eo42⟩ := Kd.R_slice HO121.out;subst eo42;obtain ⟨Ao43,co43,eo43⟩ := Kd.R_slice HO125.out;subst eo43)|(go_at_call 13;(with_reducible refine (laws_sameInts.calls k _ _ t118 _ _ t122 true _ ?side1 ?side2 ?side3 ?side4 A27.out).mono ?_);(case side1 => exact ZR (Kd.R_reads' HO121.out).2.2);(case side2 => exact (Kd.R_reads' HO121.out).2.1);(case side3 => exact ZR (Kd.R_reads' HO125.out).2.2);(case side4 => exact (Kd.R_reads' HO125.out).2.1);rintro e w' ⟨rfl,⟨nd,rfl⟩⟩;(try first|exact ⟨rfl,_,World.drewN_drewN _ _ _⟩|exact ⟨rfl,_,Eq.trans (World.drewN_drewN _ _ _) (congrArg (World.drewN _) (Nat.add_assoc _ _ _))⟩))|(go_at_call 14;(with_reducible refine (impl_AreWords.calls k _ _ t102 t129 _ ?side1 ?side2 A39.out).mono ?_);(case side1 => exact ZR (Kd.N_reads' HO104.out).2.2);(case side2 => exact (Kd.N_reads' HO104.out).2.1);rintro e w44 ⟨rfl,hb⟩;replace HO104 := ZBN HO104 hb;replace HO109 := ZBN HO109 hb;replace HO112 := ZBN HO112 hb;replace HO121 := ZBR HO121 hb;replace HO125 := ZBR HO125 hb;replace HB := Aside0.mk (below_step (ZQ HB) hb);(try clear hb)));try go_wp2_with (first|(go_at_call 12;(with_reducible refine (laws_sameLists.calls k _ _ t106 _ _ t110 true _ ?side1 ?side2 ?side3 ?side4 A22.out).mono ?_);(case side1 => exact ZR (Kd.N_reads' HO109.out).2.2);(case side2 => exact (Kd.N_reads' HO109.out).2.1);(case side3 => exact ZR (Kd.N_reads' HO112.out).2.2);(case side4 => exact (Kd.N_reads' HO112.out).2.1);rintro e w' ⟨rfl,⟨nd,rfl⟩⟩;(try first|exact ⟨rfl,_,World.drewN_drewN _ _ _⟩|exact ⟨rfl,_,Eq.trans (World.drewN_drewN _ _ _) (congrArg (World.drewN _) (Nat.add_assoc _ _ _))⟩);obtain ⟨Ao42,co42,eo42⟩ := Kd.R_slice HO121.out;subst eo42;obtain ⟨Ao43,co43,eo43⟩ := Kd.R_slice HO125.out;subst eo43)|(go_at_call 13;(with_reducible refine (laws_sameInts.calls k _ _ t118 _ _ t122 true _ ?side1 ?side2 ?side3 ?side4 A27.out).mono ?_);(case side1 => exact ZR (Kd.R_reads' HO121.out).2.2);(case side2 => exact (Kd.R_reads' HO121.out).2.1);(case side3 => exact ZR (Kd.R_reads' HO125.out).2.2);(case side4 => exact (Kd.R_reads' HO125.out).2.1);rintro e w' ⟨rfl,⟨nd,rfl⟩⟩;(try first|exact ⟨rfl,_,World.drewN_drewN _ _ _⟩|exact ⟨rfl,_,Eq.trans (World.drewN_drewN _ _ _) (congrArg (World.drewN _) (Nat.add_assoc _ _ _))⟩))|(go_at_call 14;(with_reducible refine (impl_AreWords.calls k _ _ t102 t129 _ ?side1 ?side2 A39.out).mono ?_);(case side1 => exact ZR (Kd.N_reads' HO104.out).2.2);(case side2 => exact (Kd.N_reads' HO104.out).2.1);rintro e w44 ⟨rfl,hb⟩;replace HO104 := ZBN HO104 hb;replace HO109 := ZBN HO109 hb;replace HO112 := ZBN HO112 hb;replace HO121 := ZBR HO121 hb;replace HO125 := ZBR HO125 hb;replace HB := Aside0.mk (below_step (ZQ HB) hb);(try clear hb))))
   go_meet
   case rel => exact ⟨_,(!t129),(by first|rfl|(simp;done)|(simp [*];done)),H',⟨by first|omega|exact Nat.le_refl _⟩,⟨ZKN ⟨Kd.N_mono HO104.out (fun _ hk => ⟨hk.1.1.1.2,⟨hk.1.1.2,hk.2⟩⟩)⟩⟩,⟨ZKN ⟨Kd.N_mono HO109.out (fun _ hk => ⟨hk.1.1.1,⟨hk.1.1.2,hk.2⟩⟩)⟩⟩,⟨ZKN ⟨Kd.N_mono HO112.out (fun _ hk => ⟨hk.1.1.1,⟨hk.1.1.2,hk.2⟩⟩)⟩⟩,⟨ZK ⟨Kd.R_mono HO125.out (fun _ hk => trivial)⟩⟩,⟨ZQ HB⟩⟩
 case rest =>
  clear HC12
  obtain ⟨kq,x131_11,rfl,HA,HJ11,HO_5,HO_7,HO_9,HO_17,HB⟩ := hcut
  cases kq with
  | zero => exact absurd HA.out (by simp [laws_FnLessons.j0])
  | succ kj11 =>
   have H := HA.out
   clear HA
   simp only [laws_FnLessons.j0] at H
   by_cases c49 : x131_11 = true
   ·subst c49
    rw [if_pos rfl] at H
    exact absurd H (by simp)
   replace c49 := Bool.eq_false_iff.mpr c49
   subst c49
   rw [if_neg (show ¬ (false = true) by decide)] at H
   have HC50 := Aside0.mk H
   clear H
   go_upto_if 132 with (fail)
   repeat (go_quiet (fail);go_upto_if 132 with (fail))
   go_cut [] (fun wc => ∃ (kq : Nat),Aside0 (laws_FnLessons.j3 kq l1 t102 t119 t122 = some r) ∧ Aside0 (kq ≤ kj11) ∧ Aside0 (Kd.N k43 43 wc w.heap.size (fun k_ => some k_ ≠ (v124 : Value).ownBlock) (.slice Ao14 t102.length co14) t102) ∧ Aside0 (Kd.R (Kd.int .i64) 3 wc w.heap.size (fun _ => True) v124 t122) ∧ Aside0 (Below w.heap.size w wc))
   case first =>
    have H := HC50.out
    clear HC50
    by_cases c51 : t107 = true;rotate_left
    ·replace c51 := Bool.eq_false_iff.mpr c51
     subst c51
     rw [if_neg (show ¬ (false = true) by decide)] at H
     as_aux_lemma =>
      have H' := Aside0.mk H
      clear H
      go_wp2
      repeat (go_quiet (fail);try go_wp2)
      go_meet
      case rel => exact ⟨_,H',⟨by have := HJ11.out;first|omega|exact Nat.le_refl _⟩,⟨ZKN ⟨Kd.N_mono HO_5.out (fun _ hk => hk.2.2)⟩⟩,⟨ZK HO_17⟩,⟨ZQ HB⟩⟩
    subst c51
    rw [if_pos rfl] at H
    replace H := Option.bind_eq_some_iff.mp H
    obtain ⟨⟨t130,t131⟩,A520,H⟩ := H
    try dsimp only at H
    have A52 := Aside0.mk A520
    clear A520
    have HC53 := Aside0.mk H
    clear H
    obtain ⟨Ao54,co54,eo54⟩ := Kd.N_slice HO_7.out
    subst eo54
    go_upto_region 14 with (first|(go_at_call 15;(with_reducible refine (impl_AreLessons.calls kj11 _ _ t102 _ _ t106 t130 t131 _ ?side1 ?side2 ?side3 ?side4 A52.out).mono ?_);(case side1 => exact ZR (Kd.N_reads' HO_5.out).2.2);(case side2 => exact (Kd.N_reads' HO_5.out).2.1);(case side3 => exact ZR (Kd.N_reads' HO_7.out).2.2);(case side4 => exact (Kd.N_reads' HO_7.out).2.1);rintro e w55 ⟨rfl,hb⟩;replace HO_5 := ZBN HO_5 hb;replace HO_7 := ZBN HO_7 hb;replace HO_9 := ZBN HO_9 hb;replace HO_17 := ZBR HO_17 hb;replace HB := Aside0.mk (below_step (ZQ HB) hb);(try clear hb)))
    repeat (go_quiet (first|(go_at_call 15;(with_reducible refine (impl_AreLessons.calls kj11 _ _ t102 _ _ t106 t130 t131 _ ?side1 ?side2 ?side3 ?side4 A52.out).mono ?_);(case side1 => exact ZR (Kd.N_reads' HO_5.out).2.2);(case side2 => exact (Kd.N_reads' HO_5.out).2.1);(case side3 => exact ZR (Kd.N_reads' HO_7.out).2.2);(case side4 => exact (Kd.N_reads' HO_7.out).2.1);rintro e w55 ⟨rfl,hb⟩;replace HO_5 := ZBN HO_5 hb;replace HO_7 := ZBN HO_7 hb;replace HO_9 := ZBN HO_9 hb;replace HO_17 := ZBR HO_17 hb;replace HB := Aside0.mk (below_step (ZQ HB) hb);(try clear hb)));go_upto_region 14 with (first|(go_at_call 15;(with_reducible refine (impl_AreLessons.calls kj11 _ _ t102 _ _ t106 t130 t131 _ ?side1 ?side2 ?side3 ?side4 A52.out).mono ?_);(case side1 => exact ZR (Kd.N_reads' HO_5.out).2.2);(case side2 => exact (Kd.N_reads' HO_5.out).2.1);(case side3 => exact ZR (Kd.N_reads' HO_7.out).2.2);(case side4 => exact (Kd.N_reads' HO_7.out).2.1);rintro e w55 ⟨rfl,hb⟩;replace HO_5 := ZBN HO_5 hb;replace HO_7 := ZBN HO_7 hb;replace HO_9 := ZBN HO_9 hb;replace HO_17 := ZBR HO_17 hb;replace HB := Aside0.mk (below_step (ZQ HB) hb);(try clear hb))))
    (try simp only [Act.put,zuA,zuB,zuC])
    go_cut [150] (fun v150 wc => ∃ (kq : Nat) (x150_52 : Bool),v150 = .bool x150_52 ∧ Aside0 (laws_FnLessons.j1 kq l1 t102 t105 t106 t110 t119 t122 x150_52 = some r) ∧ Aside0 (kq ≤ kj11) ∧ Aside0 (Kd.N k43 43 wc w.heap.size (fun k_ => some k_ ≠ ((.slice Ao54 t106.length co54) : Value).ownBlock ∧ some k_ ≠ (v111 : Value).ownBlock ∧ some k_ ≠ (v124 : Value).ownBlock) (.slice Ao14 t102.length co14) t102) ∧ Aside0 (Kd.N (Kd.slice 3 (Kd.int .i64)) 32 wc w.heap.size (fun k_ => some k_ ≠ ((.slice Ao14 t102.length co14) : Value).ownBlock ∧ some k_ ≠ (v111 : Value).ownBlock ∧ some k_ ≠ (v124 : Value).ownBlock) (.slice Ao54 t106.length co54) t106) ∧ Aside0 (Kd.N (Kd.slice 3 (Kd.int .i64)) 32 wc w.heap.size (fun k_ => some k_ ≠ ((.slice Ao14 t102.length co14) : Value).ownBlock ∧ some k_ ≠ ((.slice Ao54 t106.length co54) : Value).ownBlock ∧ some k_ ≠ (v124 : Value).ownBlock) v111 t110) ∧ Aside0 (Kd.R (Kd.int .i64) 3 wc w.heap.size (fun _ => True) v124 t122) ∧ Aside0 (Below w.heap.size w wc))
    case first =>
     have H := HC53.out
     clear HC53
     by_cases c56 : t131 = true;rotate_left
     ·replace c56 := Bool.eq_false_iff.mpr c56
      subst c56
      rw [if_neg (show ¬ (false = true) by decide)] at H
      exact absurd H (by simp)
     subst c56
     rw [if_pos rfl] at H
     by_cases c57 : t130 = true;rotate_left
     ·replace c57 := Bool.eq_false_iff.mpr c57
      subst c57
      rw [if_neg (show ¬ (false = true) by decide)] at H
      exact absurd H (by simp)
     subst c57
     rw [if_pos rfl] at H
     as_aux_lemma =>
      have H' := Aside0.mk H
      clear H
      obtain ⟨Ao58,co58,eo58⟩ := Kd.N_slice HO_9.out
      subst eo58
      go_wp2
      repeat (go_quiet (fail);try go_wp2)
      go_meet
      case rel => exact ⟨_,(decide ((t110.length : Int) < t116)),(by first|rfl|(simp;done)|(simp [*];done)),H',⟨by have := HJ11.out;first|omega|exact Nat.le_refl _⟩,⟨ZKN HO_5⟩,⟨ZKN HO_7⟩,⟨ZKN HO_9⟩,⟨ZK HO_17⟩,⟨ZQ HB⟩⟩
    case rest =>
     clear HC53
     obtain ⟨kq,x150_52,rfl,HA,HJ52,HO_5,HO_7,HO_9,HO_17,HB⟩ := hcut
     cases kq with
     | zero => exact absurd HA.out (by simp [laws_FnLessons.j1])
     | succ kj52 =>
      have H := HA.out
      clear HA
      simp only [laws_FnLessons.j1] at H
      by_cases c59 : x150_52 = true
      ·subst c59
       rw [if_pos rfl] at H
       exact absurd H (by simp)
      replace c59 := Bool.eq_false_iff.mpr c59
      subst c59
      rw [if_neg (show ¬ (false = true) by decide)] at H
      have H' := Aside0.mk H
      clear H
      obtain ⟨Ao60,co60,eo60⟩ := Kd.N_slice HO_9.out
      subst eo60
      go_wp2
      repeat (go_quiet (fail);try go_wp2)
      go_loopg [153] kj52 (fun kq v153 w' => ∃ (x153_3 : Int),v153 = .int .i64 x153_3 ∧ Aside0 (laws_FnLessons.l0 kq l1 t102 t105 t106 t119 t122 t110 (t110.length : Int) x153_3 = some r) ∧ Aside0 (kq ≤ kj52) ∧ Aside0 (Kd.N k43 43 w' w.heap.size (fun k_ => some k_ ≠ ((.slice Ao54 t106.length co54) : Value).ownBlock ∧ some k_ ≠ (v124 : Value).ownBlock ∧ some k_ ≠ ((.slice Ao60 t110.length co60) : Value).ownBlock) (.slice Ao14 t102.length co14) t102) ∧ Aside0 (Kd.N (Kd.slice 3 (Kd.int .i64)) 32 w' w.heap.size (fun k_ => some k_ ≠ ((.slice Ao14 t102.length co14) : Value).ownBlock ∧ some k_ ≠ (v124 : Value).ownBlock ∧ some k_ ≠ ((.slice Ao60 t110.length co60) : Value).ownBlock) (.slice Ao54 t106.length co54) t106) ∧ Aside0 (Kd.R (Kd.int .i64) 3 w' w.heap.size (fun _ => True) v124 t122) ∧ Aside0 (Kd.N (Kd.slice 3 (Kd.int .i64)) 32 w' w.heap.size (fun k_ => some k_ ≠ ((.slice Ao14 t102.length co14) : Value).ownBlock ∧ some k_ ≠ ((.slice Ao54 t106.length co54) : Value).ownBlock ∧ some k_ ≠ (v124 : Value).ownBlock) (.slice Ao60 t110.length co60) t110) ∧ Aside0 (Below w.heap.size w w'))
      case atStart => exact ⟨(0),(by first|rfl|(simp;done)|(simp [*];done)),H',⟨Nat.le_refl _⟩,⟨ZKN ⟨Kd.N_mono HO_5.out (fun _ hk => ⟨hk.1,⟨hk.2.2,hk.2.1⟩⟩)⟩⟩,⟨ZKN ⟨Kd.N_mono HO_7.out (fun _ hk => ⟨hk.1,⟨hk.2.2,hk.2.1⟩⟩)⟩⟩,⟨ZK HO_17⟩,⟨ZKN HO_9⟩,⟨ZQ HB⟩⟩
      case round =>
       clear H'
       obtain ⟨x153_3,rfl,HA,HK3,HO_5,HO_7,HO_17,HO_151,HB⟩ := hrel
       cases gk with
       | zero => exact absurd HA.out (by simp [laws_FnLessons.l0])
       | succ k3 =>
        have H := HA.out
        clear HA
        simp only [laws_FnLessons.l0] at H
        by_cases c61 : x153_3 < (t110.length : Int)
        ·rw [if_pos c61] at H
         have c61b0 := decide_eq_true c61
         clear c61
         by_cases c62 : 0 ≤ x153_3;rotate_left
         ·rw [if_neg c62] at H
          exact absurd H (by simp)
         rw [if_pos c62] at H
         have c62b0 : decide (0 ≤ x153_3) = true := decide_eq_true c62
         clear c62
         by_cases c63 : x153_3 < (t110.length : Int);rotate_left
         ·rw [if_neg c63] at H
          exact absurd H (by simp)
         rw [if_pos c63] at H
         have c63b0 : decide (x153_3 < (t110.length : Int)) = true := decide_eq_true c63
         clear c63
         by_cases c64 : ((rd_L2 t110 x153_3).length : Int) > t105
         ·rw [if_pos c64] at H
          exact absurd H (by simp)
         rw [if_neg c64] at H
         have c64b0 : decide (t105 < ((rd_L2 t110 x153_3).length : Int)) = false := decide_eq_false c64
         clear c64
         as_aux_lemma =>
          have H' := Aside0.mk H
          clear H
          have p132 : 0 ≤ (x153_3 : Int) := ZD
          have q132 : x153_3 < (t110.length : Int) := ZD
          obtain ⟨ad132,A132_0,c132_0,e132,hx132_0,hl132_0,hi132_0⟩ := at_L2 (Kd.N_reads' HO_151.out).2.2 x153_3 p132 q132
          cases e132
          obtain ⟨ce132,hce132,hMe132,hcc132⟩ := Kd.N_get HO_151.out [] x153_3 p132 (by first|exact q132|exact ZD|(have e_ := (Kd.N_reads' HO_151.out).1;omega))
          obtain ⟨ua132_0,uc132_0,rfl,ul132_0,ge132_0⟩ := Kd.FK_slice_open hMe132
          have hv132_0 := hcc132 0 _ rfl
          rw [Nat.add_zero,show ((Kd.slice 3 (Kd.int .i64))).sz = 1 from rfl,Nat.mul_one] at hv132_0
          replace hv132_0 := Option.some.inj (hv132_0.symm.trans hx132_0)
          injection hv132_0 with hva_ hvn_ hvc_
          rw [hva_] at ge132_0
          rw [hvc_] at ul132_0
          have HL132_0 := Aside0.mk (show Kd.V (Kd.int .i64) 3 _ w.heap.size _ _ (rd_L2 t110 x153_3) from Kd.V_mk ul132_0 ge132_0)
          clear hva_ hvn_ hvc_ ge132_0 ul132_0
          clear hcc132 hce132
          have HR132_0 := Aside0.mk hi132_0
          have HC132_0 := Aside0.mk hl132_0
          clear hi132_0 hl132_0
          replace p132 := eq_true p132
          replace q132 := eq_true q132
          go_wp2
          repeat (go_quiet (fail);try go_wp2)
          go_roundg k3
          case measure => have := HJ11.out;have := HJ52.out;have := HK3.out;omega
          case rel => exact ⟨(wrap64 (x153_3 + 1)),(by first|rfl|(simp;done)|(simp [*];done)),H',⟨by have := HJ11.out;have := HJ52.out;have := HK3.out;omega⟩,⟨ZKN HO_5⟩,⟨ZKN HO_7⟩,⟨ZK HO_17⟩,⟨ZKN HO_151⟩,⟨ZQ HB⟩⟩
        rw [if_neg c61] at H
        have c61b0 := decide_eq_false c61
        clear c61
        replace H := Option.bind_eq_some_iff.mp H
        obtain ⟨⟨t133,t134,t135⟩,A650,H⟩ := H
        try dsimp only at H
        have A65 := Aside0.mk A650
        clear A650
        by_cases c66 : t135 = true
        ·subst c66
         rw [if_pos rfl] at H
         exact absurd H (by simp)
        replace c66 := Bool.eq_false_iff.mpr c66
        subst c66
        rw [if_neg (show ¬ (false = true) by decide)] at H
        as_aux_lemma =>
         have H' := Aside0.mk H
         clear H
         go_wp2_with (first|(go_at_call 16;(with_reducible refine (impl_FirstUntaught.calls k3 _ _ t102 _ _ t106 t133 t134 false _ ?side1 ?side2 ?side3 ?side4 A65.out).mono ?_);(case side1 => exact ZR (Kd.N_reads' HO_5.out).2.2);(case side2 => exact (Kd.N_reads' HO_5.out).2.1);(case side3 => exact ZR (Kd.N_reads' HO_7.out).2.2);(case side4 => exact (Kd.N_reads' HO_7.out).2.1);rintro e w67 ⟨rfl,hb⟩;replace HO_5 := ZBN HO_5 hb;replace HO_7 := ZBN HO_7 hb;replace HO_17 := ZBR HO_17 hb;replace HO_151 := ZBN HO_151 hb;replace HB := Aside0.mk (below_step (ZQ HB) hb);(try clear hb)))
         repeat (go_quiet (first|(go_at_call 16;(with_reducible refine (impl_FirstUntaught.calls k3 _ _ t102 _ _ t106 t133 t134 false _ ?side1 ?side2 ?side3 ?side4 A65.out).mono ?_);(case side1 => exact ZR (Kd.N_reads' HO_5.out).2.2);(case side2 => exact (Kd.N_reads' HO_5.out).2.1);(case side3 => exact ZR (Kd.N_reads' HO_7.out).2.2);(case side4 => exact (Kd.N_reads' HO_7.out).2.1);rintro e w67 ⟨rfl,hb⟩;replace HO_5 := ZBN HO_5 hb;replace HO_7 := ZBN HO_7 hb;replace HO_17 := ZBR HO_17 hb;replace HO_151 := ZBN HO_151 hb;replace HB := Aside0.mk (below_step (ZQ HB) hb);(try clear hb)));try go_wp2_with (first|(go_at_call 16;(with_reducible refine (impl_FirstUntaught.calls k3 _ _ t102 _ _ t106 t133 t134 false _ ?side1 ?side2 ?side3 ?side4 A65.out).mono ?_);(case side1 => exact ZR (Kd.N_reads' HO_5.out).2.2);(case side2 => exact (Kd.N_reads' HO_5.out).2.1);(case side3 => exact ZR (Kd.N_reads' HO_7.out).2.2);(case side4 => exact (Kd.N_reads' HO_7.out).2.1);rintro e w67 ⟨rfl,hb⟩;replace HO_5 := ZBN HO_5 hb;replace HO_7 := ZBN HO_7 hb;replace HO_17 := ZBR HO_17 hb;replace HO_151 := ZBN HO_151 hb;replace HB := Aside0.mk (below_step (ZQ HB) hb);(try clear hb))))
         go_meet
         case rel => exact ⟨_,H',⟨by have := HJ11.out;have := HJ52.out;have := HK3.out;first|omega|exact Nat.le_refl _⟩,⟨ZKN ⟨Kd.N_mono HO_5.out (fun _ hk => hk.2.1)⟩⟩,⟨ZK HO_17⟩,⟨ZQ HB⟩⟩
   case rest =>
    clear HC50
    obtain ⟨kq,HA,HJ49,HO_5,HO_17,HB⟩ := hcut
    cases kq with
    | zero => exact absurd HA.out (by simp [laws_FnLessons.j3])
    | succ kj49 =>
     have H := HA.out
     clear HA
     simp only [laws_FnLessons.j3] at H
     have HC68 := Aside0.mk H
     clear H
     go_upto_if 170 with (fail)
     repeat (go_quiet (fail);go_upto_if 170 with (fail))
     go_cut [] (fun wc => ∃ (kq : Nat),Aside0 (laws_FnLessons.j7 kq l1 = some r) ∧ Aside0 (kq ≤ kj49) ∧ Aside0 (Below w.heap.size w wc))
     case first =>
      have H := HC68.out
      clear HC68
      by_cases c69 : t119 = true;rotate_left
      ·replace c69 := Bool.eq_false_iff.mpr c69
       subst c69
       rw [if_neg (show ¬ (false = true) by decide)] at H
       as_aux_lemma =>
        have H' := Aside0.mk H
        clear H
        go_wp2
        repeat (go_quiet (fail);try go_wp2)
        go_meet
        case rel => exact ⟨_,H',⟨by have := HJ11.out;have := HJ49.out;first|omega|exact Nat.le_refl _⟩,⟨ZQ HB⟩⟩
      subst c69
      rw [if_pos rfl] at H
      by_cases c70 : 0 ≤ (t102.length : Int);rotate_left
      ·rw [if_neg c70] at H
       exact absurd H (by simp)
      rw [if_pos c70] at H
      have c70b0 := eq_true c70
      have c70b1 : decide (0 ≤ (t102.length : Int)) = true := decide_eq_true c70
      clear c70
      by_cases c71 : ((t102.length : Int) : Int).toNat ≤ 35184372088832;rotate_left
      ·rw [if_neg c71] at H
       exact absurd H (by simp)
      rw [if_pos c71] at H
      have c71b0 := eq_true c71
      have c71b1 : decide (((t102.length : Int) : Int).toNat ≤ 35184372088832) = true := decide_eq_true c71
      clear c71
      obtain ⟨y136,hy136⟩ : ∃ y_ : List Int,y_ = (List.replicate ((t102.length : Int) : Int).toNat 0) := ⟨_,rfl⟩
      replace H : (laws_FnLessons.l1 kj49 l1 t102 t122 y136 t122 (t122.length : Int) 0) = some r := by first|(rw [hy136];with_reducible exact H)|(have H2_ := (Option.bind_some _ _).symm.trans H;rw [hy136];with_reducible exact H2_)|(have H2_ := (Option.bind_some _ _).symm.trans H;with_reducible exact H2_)|with_reducible exact H|(rw [hy136];exact H)|exact H
      have Ny136 := Aside0.mk hy136
      clear hy136
      have H' := Aside0.mk H
      clear H
      go_wp2_with (first|((with_reducible refine gate_dst (N := 173) rfl ?_);(try (refine gate_guard (by rfl) ?_;dsimp only));refine Kd.R_make (Kd.int .i64) _ 3 rfl (N := 173) rfl 32 _ _ rfl (t102.length : Int) rfl rfl Try.underlying32 (.int .i64 0) 8 info3 rfl (by decide) (by omega) 0 (ok := fun _ => True) (okp := fun _ => True) rfl (fun _ hk => hk) trivial ZD (Nat.le_trans (Nat.mul_le_mul_right _ (ZD : (t102.length : Int).toNat ≤ 35184372088832)) (by omega)) (Below.refl _ _) (Nat.le_refl _) ?_;intro v137 w72 ho73 hb hg_ hnew_;clear hg_ hnew_;(first|rw [← Ny136.out] at ho73|(simp only [Int.reduceToNat] at ho73;rw [← Ny136.out] at ho73));replace HO_5 := Aside0.mk (Kd.N_elder' (ZKN HO_5) (Kd.R_base ho73) hb);have HO138 := Aside0.mk (Kd.R_lower (Kd.R_new' ho73 (Kd.R_lt (ZK HO_17))) (below_size (ZQ HB)));replace HO_17 := Aside0.mk (Kd.R_elder' (ZK HO_17) (Kd.R_base ho73) hb);replace HB := Aside0.mk (below_step (ZQ HB) hb);clear hb ho73;obtain ⟨Ao74,co74,eo74⟩ := Kd.R_slice HO_17.out;subst eo74))
      repeat (go_quiet (first|((with_reducible refine gate_dst (N := 173) rfl ?_);(try (refine gate_guard (by rfl) ?_;dsimp only));refine Kd.R_make (Kd.int .i64) _ 3 rfl (N := 173) rfl 32 _ _ rfl (t102.length : Int) rfl rfl Try.underlying32 (.int .i64 0) 8 info3 rfl (by decide) (by omega) 0 (ok := fun _ => True) (okp := fun _ => True) rfl (fun _ hk => hk) trivial ZD (Nat.le_trans (Nat.mul_le_mul_right _ (ZD : (t102.length : Int).toNat ≤ 35184372088832)) (by omega)) (Below.refl _ _) (Nat.le_refl _) ?_;intro v137 w72 ho73 hb hg_ hnew_;clear hg_ hnew_;(first|rw [← Ny136.out] at ho73|(simp only [Int.reduceToNat] at ho73;rw [← Ny136.out] at ho73));replace HO_5 := Aside0.mk (Kd.N_elder' (ZKN HO_5) (Kd.R_base ho73) hb);have HO138 := Aside0.mk (Kd.R_lower (Kd.R_new' ho73 (Kd.R_lt (ZK HO_17))) (below_size (ZQ HB)));replace HO_17 := Aside0.mk (Kd.R_elder' (ZK HO_17) (Kd.R_base ho73) hb);replace HB := Aside0.mk (below_step (ZQ HB) hb);clear hb ho73;obtain ⟨Ao74,co74,eo74⟩ := Kd.R_slice HO_17.out;subst eo74));try go_wp2_with (first|((with_reducible refine gate_dst (N := 173) rfl ?_);(try (refine gate_guard (by rfl) ?_;dsimp only));refine Kd.R_make (Kd.int .i64) _ 3 rfl (N := 173) rfl 32 _ _ rfl (t102.length : Int) rfl rfl Try.underlying32 (.int .i64 0) 8 info3 rfl (by decide) (by omega) 0 (ok := fun _ => True) (okp := fun _ => True) rfl (fun _ hk => hk) trivial ZD (Nat.le_trans (Nat.mul_le_mul_right _ (ZD : (t102.length : Int).toNat ≤ 35184372088832)) (by omega)) (Below.refl _ _) (Nat.le_refl _) ?_;intro v137 w72 ho73 hb hg_ hnew_;clear hg_ hnew_;(first|rw [← Ny136.out] at ho73|(simp only [Int.reduceToNat] at ho73;rw [← Ny136.out] at ho73));replace HO_5 := Aside0.mk (Kd.N_elder' (ZKN HO_5) (Kd.R_base ho73) hb);have HO138 := Aside0.mk (Kd.R_lower (Kd.R_new' ho73 (Kd.R_lt (ZK HO_17))) (below_size (ZQ HB)));replace HO_17 := Aside0.mk (Kd.R_elder' (ZK HO_17) (Kd.R_base ho73) hb);replace HB := Aside0.mk (below_step (ZQ HB) hb);clear hb ho73;obtain ⟨Ao74,co74,eo74⟩ := Kd.R_slice HO_17.out;subst eo74)))
      go_loopg [176] kj49 (fun kq v176 w' => ∃ (x26_3 : List Int) (x176_3 : Int),v176 = .int .i64 x176_3 ∧ Aside0 (laws_FnLessons.l1 kq l1 t102 t122 x26_3 t122 (t122.length : Int) x176_3 = some r) ∧ Aside0 (kq ≤ kj49) ∧ Aside0 (Kd.N k43 43 w' w.heap.size (fun k_ => some k_ ≠ ((.slice Ao74 t122.length co74) : Value).ownBlock ∧ some k_ ≠ (v137 : Value).ownBlock ∧ some k_ ≠ ((.slice Ao74 t122.length co74) : Value).ownBlock) (.slice Ao14 t102.length co14) t102) ∧ Aside0 (Kd.R (Kd.int .i64) 3 w' w.heap.size (fun k_ => some k_ ≠ (v137 : Value).ownBlock) (.slice Ao74 t122.length co74) t122) ∧ Aside0 (Kd.R (Kd.int .i64) 3 w' w.heap.size (fun k_ => some k_ ≠ ((.slice Ao74 t122.length co74) : Value).ownBlock ∧ some k_ ≠ ((.slice Ao74 t122.length co74) : Value).ownBlock) v137 x26_3) ∧ Aside0 (Kd.R (Kd.int .i64) 3 w' w.heap.size (fun k_ => some k_ ≠ (v137 : Value).ownBlock) (.slice Ao74 t122.length co74) t122) ∧ Aside0 (Below w.heap.size w w'))
      case atStart => exact ⟨(y136),(0),(by first|rfl|(simp;done)|(simp [*];done)),H',⟨Nat.le_refl _⟩,⟨ZKN ⟨Kd.N_mono HO_5.out (fun _ hk => ⟨hk.1,⟨hk.2,hk.1⟩⟩)⟩⟩,⟨ZK ⟨Kd.R_mono HO_17.out (fun _ hk => hk.2)⟩⟩,⟨ZK ⟨Kd.R_mono HO138.out (fun _ hk => ⟨hk.2,hk.2⟩)⟩⟩,⟨ZK ⟨Kd.R_mono HO_17.out (fun _ hk => hk.2)⟩⟩,⟨ZQ HB⟩⟩
      case round =>
       clear H'
       obtain ⟨x26_3,x176_3,rfl,HA,HK3,HO_5,HO_17,HO_26,HO_174,HB⟩ := hrel
       cases gk with
       | zero => exact absurd HA.out (by simp [laws_FnLessons.l1])
       | succ k3 =>
        have H := HA.out
        clear HA
        simp only [laws_FnLessons.l1] at H
        by_cases c75 : x176_3 < (t122.length : Int)
        ·rw [if_pos c75] at H
         have c75b0 := decide_eq_true c75
         clear c75
         (first|rw [c75b0]|rw [c75b1]|(simp only [i64_w,i32_w];rw [c75b0])|skip)
         by_cases c76 : 0 ≤ x176_3;rotate_left
         ·rw [if_neg c76] at H
          exact absurd H (by simp)
         rw [if_pos c76] at H
         have c76b0 : decide (0 ≤ x176_3) = true := decide_eq_true c76
         clear c76
         by_cases c77 : x176_3 < (t122.length : Int);rotate_left
         ·rw [if_neg c77] at H
          exact absurd H (by simp)
         rw [if_pos c77] at H
         have c77b0 : decide (x176_3 < (t122.length : Int)) = true := decide_eq_true c77
         clear c77
         by_cases c78 : (rd t122 x176_3) < 0
         ·rw [if_pos c78] at H
          exact absurd H (by simp)
         rw [if_neg c78] at H
         have c78b0 := decide_eq_false c78
         clear c78
         by_cases c79 : (rd t122 x176_3) ≥ (t102.length : Int)
         ·rw [if_pos c79] at H
          exact absurd H (by simp)
         rw [if_neg c79] at H
         have c79b0 : decide ((t102.length : Int) ≤ (rd t122 x176_3)) = false := decide_eq_false c79
         clear c79
         by_cases c80 : 0 ≤ (rd t122 x176_3);rotate_left
         ·rw [if_neg c80] at H
          exact absurd H (by simp)
         rw [if_pos c80] at H
         have c80b0 : decide (0 ≤ (rd t122 x176_3)) = true := decide_eq_true c80
         clear c80
         by_cases c81 : (rd t122 x176_3) < (x26_3.length : Int);rotate_left
         ·rw [if_neg c81] at H
          exact absurd H (by simp)
         rw [if_pos c81] at H
         have c81b0 : decide ((rd t122 x176_3) < (x26_3.length : Int)) = true := decide_eq_true c81
         clear c81
         obtain ⟨y140,hy140⟩ : ∃ y_ : List Int,y_ = (x26_3.set ((rd t122 x176_3) : Int).toNat x176_3) := ⟨_,rfl⟩
         replace H : (laws_FnLessons.l1 k3 l1 t102 t122 y140 t122 (t122.length : Int) (wrap64 (x176_3 + 1))) = some r := by first|(rw [hy140];with_reducible exact H)|(have H2_ := (Option.bind_some _ _).symm.trans H;rw [hy140];with_reducible exact H2_)|(have H2_ := (Option.bind_some _ _).symm.trans H;with_reducible exact H2_)|with_reducible exact H|(rw [hy140];exact H)|exact H
         have Ny140 := Aside0.mk hy140
         clear hy140
         as_aux_lemma =>
          have H' := Aside0.mk H
          clear H
          have p139 : 0 ≤ (x176_3 : Int) := ZD
          have q139 : x176_3 < (t122.length : Int) := ZD
          obtain ⟨ad139,e139,hx139_0⟩ := Kd.at_int (Kd.R_reads' HO_174.out).2.2 x176_3 p139 q139
          cases e139
          replace p139 := eq_true p139
          replace q139 := eq_true q139
          have p82 : 0 ≤ ((rd t122 x176_3) : Int) := ZD
          have q82 : ((rd t122 x176_3) : Int) < ((x26_3.length : Int) : Int) := ZD
          obtain ⟨go82,co82,eo82,gb82,gl82,cl82,HG82⟩ := Kd.R_form HO_26.out (by omega)
          (first|cases eo82|(injection eo82 with ea_ en_ ec_;(first|subst ea_|(injection ea_ with ea_;subst ea_));subst ec_;clear en_))
          have GB82 := Aside0.mk gb82
          have GG82 := Aside0.mk HG82
          clear gb82 gl82 HG82
          obtain ⟨hx82_0,hf82_0⟩ := Kd.R_celln 0 HO_26.out ((rd t122 x176_3) : Int) p82 q82
          replace p82 := eq_true p82
          replace q82 := eq_true q82
          have HP83 := Kd.R_putg HO_26.out ((rd t122 x176_3) : Int) x176_3
          go_wp2_with (first|((with_reducible refine gate_store (t := 3) (p := 192) rfl ?_);(try (rw [drewN_self wr];generalize hq_ : World.drewN wr _ = wr;replace HO_5 := Aside0.mk (Kd.N_at hq_ HO_5.out);replace HO_17 := Aside0.mk (Kd.R_at hq_ HO_17.out);replace HO_26 := Aside0.mk (Kd.R_at hq_ HO_26.out);replace HO_174 := Aside0.mk (Kd.R_at hq_ HO_174.out);replace HB := Aside0.mk (below_at hq_ HB.out);clear hq_;(try (have HP83 := Kd.R_putg HO_26.out ((rd t122 x176_3) : Int) x176_3))));refine store_event (t := 3) (p := 192) (v := ?vo_w84) (w1 := (wr.setCell ⟨go82,((rd t122 x176_3) : Int).toNat,none⟩ (.int .i64 x176_3))) ?hg ?ho ?hn ?hr ?_;(case ho => rfl);(case hg => rfl);(case hn => rfl);(case hr => first|(go_simp;done)|(go_simp;rfl));intro w84 hw;have hg : wr.grownBy w84 (some go82) := (by rw [hw];exact HP83.2);have hp_ : Kd.R (Kd.int .i64) 3 w84 w.heap.size (fun k_ => some k_ ≠ (.slice (some ad139) t122.length co74 : Value).ownBlock ∧ some k_ ≠ (.slice (some ad139) t122.length co74 : Value).ownBlock) (.slice (some ⟨go82,0,none⟩) x26_3.length co82) y140 := (by rw [hw,Ny140.out];exact HP83.1);clear HP83;replace HO_5 := Aside0.mk (Kd.N_afterv (v := (.slice (some ⟨go82,0,none⟩) x26_3.length co82)) (v1 := (.slice (some ⟨go82,0,none⟩) x26_3.length co82)) (ok := (fun k_ => some k_ ≠ (.slice (some ad139) t122.length co74 : Value).ownBlock ∧ some k_ ≠ (.slice (some ad139) t122.length co74 : Value).ownBlock)) (ZKN ⟨Kd.N_mono HO_5.out (fun _ hk => ⟨⟨hk.1,hk.2.2⟩,hk.2.1⟩)⟩) hg (.inl rfl));replace HO_17 := Aside0.mk (Kd.R_after (v := (.slice (some ⟨go82,0,none⟩) x26_3.length co82)) (v1 := (.slice (some ⟨go82,0,none⟩) x26_3.length co82)) (ok := (fun _ => True)) (ZK ⟨Kd.R_mono HO_17.out (fun _ hk => ⟨trivial,hk⟩)⟩) hg (.inl rfl));replace HO_26 := Aside0.mk (hp_);replace HO_174 := Aside0.mk (Kd.R_after (v := (.slice (some ⟨go82,0,none⟩) x26_3.length co82)) (v1 := (.slice (some ⟨go82,0,none⟩) x26_3.length co82)) (ok := (fun _ => True)) (ZK ⟨Kd.R_mono HO_174.out (fun _ hk => ⟨trivial,hk⟩)⟩) hg (.inl rfl));replace HB := Aside0.mk ((by rw [hw];exact below_set (HB.out) GB82.out : Below w.heap.size w w84));clear hg hw hp_))
          repeat (go_quiet (first|((with_reducible refine gate_store (t := 3) (p := 192) rfl ?_);(try (rw [drewN_self wr];generalize hq_ : World.drewN wr _ = wr;replace HO_5 := Aside0.mk (Kd.N_at hq_ HO_5.out);replace HO_17 := Aside0.mk (Kd.R_at hq_ HO_17.out);replace HO_26 := Aside0.mk (Kd.R_at hq_ HO_26.out);replace HO_174 := Aside0.mk (Kd.R_at hq_ HO_174.out);replace HB := Aside0.mk (below_at hq_ HB.out);clear hq_;(try (have HP83 := Kd.R_putg HO_26.out ((rd t122 x176_3) : Int) x176_3))));refine store_event (t := 3) (p := 192) (v := ?vo_w84) (w1 := (wr.setCell ⟨go82,((rd t122 x176_3) : Int).toNat,none⟩ (.int .i64 x176_3))) ?hg ?ho ?hn ?hr ?_;(case ho => rfl);(case hg => rfl);(case hn => rfl);(case hr => first|(go_simp;done)|(go_simp;rfl));intro w84 hw;have hg : wr.grownBy w84 (some go82) := (by rw [hw];exact HP83.2);have hp_ : Kd.R (Kd.int .i64) 3 w84 w.heap.size (fun k_ => some k_ ≠ (.slice (some ad139) t122.length co74 : Value).ownBlock ∧ some k_ ≠ (.slice (some ad139) t122.length co74 : Value).ownBlock) (.slice (some ⟨go82,0,none⟩) x26_3.length co82) y140 := (by rw [hw,Ny140.out];exact HP83.1);clear HP83;replace HO_5 := Aside0.mk (Kd.N_afterv (v := (.slice (some ⟨go82,0,none⟩) x26_3.length co82)) (v1 := (.slice (some ⟨go82,0,none⟩) x26_3.length co82)) (ok := (fun k_ => some k_ ≠ (.slice (some ad139) t122.length co74 : Value).ownBlock ∧ some k_ ≠ (.slice (some ad139) t122.length co74 : Value).ownBlock)) (ZKN ⟨Kd.N_mono HO_5.out (fun _ hk => ⟨⟨hk.1,hk.2.2⟩,hk.2.1⟩)⟩) hg (.inl rfl));replace HO_17 := Aside0.mk (Kd.R_after (v := (.slice (some ⟨go82,0,none⟩) x26_3.length co82)) (v1 := (.slice (some ⟨go82,0,none⟩) x26_3.length co82)) (ok := (fun _ => True)) (ZK ⟨Kd.R_mono HO_17.out (fun _ hk => ⟨trivial,hk⟩)⟩) hg (.inl rfl));replace HO_26 := Aside0.mk (hp_);replace HO_174 := Aside0.mk (Kd.R_after (v := (.slice (some ⟨go82,0,none⟩) x26_3.length co82)) (v1 := (.slice (some ⟨go82,0,none⟩) x26_3.length co82)) (ok := (fun _ => True)) (ZK ⟨Kd.R_mono HO_174.out (fun _ hk => ⟨trivial,hk⟩)⟩) hg (.inl rfl));replace HB := Aside0.mk ((by rw [hw];exact below_set (HB.out) GB82.out : Below w.heap.size w w84));clear hg hw hp_));try go_wp2_with (first|((with_reducible refine gate_store (t := 3) (p := 192) rfl ?_);(try (rw [drewN_self wr];generalize hq_ : World.drewN wr _ = wr;replace HO_5 := Aside0.mk (Kd.N_at hq_ HO_5.out);replace HO_17 := Aside0.mk (Kd.R_at hq_ HO_17.out);replace HO_26 := Aside0.mk (Kd.R_at hq_ HO_26.out);replace HO_174 := Aside0.mk (Kd.R_at hq_ HO_174.out);replace HB := Aside0.mk (below_at hq_ HB.out);clear hq_;(try (have HP83 := Kd.R_putg HO_26.out ((rd t122 x176_3) : Int) x176_3))));refine store_event (t := 3) (p := 192) (v := ?vo_w84) (w1 := (wr.setCell ⟨go82,((rd t122 x176_3) : Int).toNat,none⟩ (.int .i64 x176_3))) ?hg ?ho ?hn ?hr ?_;(case ho => rfl);(case hg => rfl);(case hn => rfl);(case hr => first|(go_simp;done)|(go_simp;rfl));intro w84 hw;have hg : wr.grownBy w84 (some go82) := (by rw [hw];exact HP83.2);have hp_ : Kd.R (Kd.int .i64) 3 w84 w.heap.size (fun k_ => some k_ ≠ (.slice (some ad139) t122.length co74 : Value).ownBlock ∧ some k_ ≠ (.slice (some ad139) t122.length co74 : Value).ownBlock) (.slice (some ⟨go82,0,none⟩) x26_3.length co82) y140 := (by rw [hw,Ny140.out];exact HP83.1);clear HP83;replace HO_5 := Aside0.mk (Kd.N_afterv (v := (.slice (some ⟨go82,0,none⟩) x26_3.length co82)) (v1 := (.slice (some ⟨go82,0,none⟩) x26_3.length co82)) (ok := (fun k_ => some k_ ≠ (.slice (some ad139) t122.length co74 : Value).ownBlock ∧ some k_ ≠ (.slice (some ad139) t122.length co74 : Value).ownBlock)) (ZKN ⟨Kd.N_mono HO_5.out (fun _ hk => ⟨⟨hk.1,hk.2.2⟩,hk.2.1⟩)⟩) hg (.inl rfl));replace HO_17 := Aside0.mk (Kd.R_after (v := (.slice (some ⟨go82,0,none⟩) x26_3.length co82)) (v1 := (.slice (some ⟨go82,0,none⟩) x26_3.length co82)) (ok := (fun _ => True)) (ZK ⟨Kd.R_mono HO_17.out (fun _ hk => ⟨trivial,hk⟩)⟩) hg (.inl rfl));replace HO_26 := Aside0.mk (hp_);replace HO_174 := Aside0.mk (Kd.R_after (v := (.slice (some ⟨go82,0,none⟩) x26_3.length co82)) (v1 := (.slice (some ⟨go82,0,none⟩) x26_3.length co82)) (ok := (fun _ => True)) (ZK ⟨Kd.R_mono HO_174.out (fun _ hk => ⟨trivial,hk⟩)⟩) hg (.inl rfl));replace HB := Aside0.mk ((by rw [hw];exact below_set (HB.out) GB82.out : Below w.heap.size w w84));clear hg hw hp_)))
          go_roundg k3
          case measure => have := HJ11.out;have := HJ49.out;have := HK3.out;omega
          case rel => exact ⟨(y140),(wrap64 (x176_3 + 1)),(by first|rfl|(simp;done)|(simp [*];done)),H',⟨by have := HJ11.out;have := HJ49.out;have := HK3.out;omega⟩,⟨ZKN ⟨Kd.N_mono HO_5.out (fun _ hk => ⟨hk.1.1,⟨hk.2,hk.1.2⟩⟩)⟩⟩,⟨ZK ⟨Kd.R_mono HO_17.out (fun _ hk => hk.2)⟩⟩,⟨ZK HO_26⟩,⟨ZK ⟨Kd.R_mono HO_174.out (fun _ hk => hk.2)⟩⟩,⟨ZQ HB⟩⟩
        rw [if_neg c75] at H
        have c75b0 := decide_eq_false c75
        clear c75
        (first|rw [c75b0]|rw [c75b1]|(simp only [i64_w,i32_w];rw [c75b0])|skip)
        have H' := Aside0.mk H
        clear H
        go_wp2
        repeat (go_quiet (fail);try go_wp2)
        go_loopg [196] k3 (fun kq v196 w' => ∃ (x196_4 : Int),v196 = .int .i64 x196_4 ∧ Aside0 (laws_FnLessons.l2 kq l1 t102 t122 x26_3 t102 (t102.length : Int) x196_4 = some r) ∧ Aside0 (kq ≤ k3) ∧ Aside0 (Kd.N k43 43 w' w.heap.size (fun k_ => some k_ ≠ ((.slice Ao74 t122.length co74) : Value).ownBlock ∧ some k_ ≠ (v137 : Value).ownBlock) (.slice Ao14 t102.length co14) t102) ∧ Aside0 (Kd.R (Kd.int .i64) 3 w' w.heap.size (fun k_ => some k_ ≠ (v137 : Value).ownBlock) (.slice Ao74 t122.length co74) t122) ∧ Aside0 (Kd.R (Kd.int .i64) 3 w' w.heap.size (fun k_ => some k_ ≠ ((.slice Ao74 t122.length co74) : Value).ownBlock) v137 x26_3) ∧ Aside0 (Kd.N k43 43 w' w.heap.size (fun k_ => some k_ ≠ ((.slice Ao74 t122.length co74) : Value).ownBlock ∧ some k_ ≠ (v137 : Value).ownBlock) (.slice Ao14 t102.length co14) t102) ∧ Aside0 (Below w.heap.size w w'))
        case atStart => exact ⟨(0),(by first|rfl|(simp;done)|(simp [*];done)),H',⟨Nat.le_refl _⟩,⟨ZKN ⟨Kd.N_mono HO_5.out (fun _ hk => ⟨hk.1,hk.2.1⟩)⟩⟩,⟨ZK HO_17⟩,⟨ZK ⟨Kd.R_mono HO_26.out (fun _ hk => hk.1)⟩⟩,⟨ZKN ⟨Kd.N_mono HO_5.out (fun _ hk => ⟨hk.1,hk.2.1⟩)⟩⟩,⟨ZQ HB⟩⟩
        case round =>
         clear H'
         obtain ⟨x196_4,rfl,HA,HK4,HO_5,HO_17,HO_26,HO_194,HB⟩ := hrel
         cases gk with
         | zero => exact absurd HA.out (by simp [laws_FnLessons.l2])
         | succ k4 =>
          have H := HA.out
          clear HA
          simp only [laws_FnLessons.l2] at H
          by_cases c85 : x196_4 < (t102.length : Int);rotate_left
          ·rw [if_neg c85] at H
           have c85b0 : decide (x196_4 < (t102.length : Int)) = false := decide_eq_false c85
           clear c85
           by_cases c99 : (t122.length : Int) = (t102.length : Int);rotate_left
           ·rw [if_neg c99] at H
            exact absurd H (by simp)
           rw [if_pos c99] at H
           have c99b0 : ((t122.length : Int) == (t102.length : Int)) = true := beq_iff_eq.mpr c99
           have c99b1 : ((t122.length : Int) != (t102.length : Int)) = false := bne_eq_false_iff_eq.mpr c99
           have c99b2 : (t122.length == t102.length) = true := by first|simpa using c99|(simp at c99 ⊢;omega)
           clear c99
           as_aux_lemma =>
            have H' := Aside0.mk H
            clear H
            go_wp2
            repeat (go_quiet (fail);try go_wp2)
            go_meet
            case rel => exact ⟨_,H',⟨by have := HJ11.out;have := HJ49.out;have := HK3.out;have := HK4.out;first|omega|exact Nat.le_refl _⟩,⟨ZQ HB⟩⟩
          rw [if_pos c85] at H
          have c85b0 : decide (x196_4 < (t102.length : Int)) = true := decide_eq_true c85
          clear c85
          by_cases c86 : 0 ≤ x196_4;rotate_left
          ·rw [if_neg c86] at H
           exact absurd H (by simp)
          rw [if_pos c86] at H
          have c86b0 : decide (0 ≤ x196_4) = true := decide_eq_true c86
          clear c86
          by_cases c87 : x196_4 < (t102.length : Int);rotate_left
          ·rw [if_neg c87] at H
           exact absurd H (by simp)
          rw [if_pos c87] at H
          have c87b0 : decide (x196_4 < (t102.length : Int)) = true := decide_eq_true c87
          clear c87
          have H' := Aside0.mk H
          clear H
          have p141 : 0 ≤ (x196_4 : Int) := ZD
          have q141 : x196_4 < (t102.length : Int) := ZD
          obtain ⟨ad141,A141_1,c141_1,e141,hx141_0,hx141_1,hx141_2,hl141_1,hi141_1⟩ := at_T43 (Kd.N_reads' HO_194.out).2.2 x196_4 p141 q141
          cases e141
          obtain ⟨ce141,hce141,hMe141,hcc141⟩ := Kd.N_get HO_194.out z43 x196_4 p141 (by first|exact q141|exact ZD|(have e_ := (Kd.N_reads' HO_194.out).1;omega))
          obtain ⟨ua141_1,uc141_1,rfl,ul141_1,ge141_1⟩ := k43_openF hMe141
          have hv141_1 := hcc141 1 _ rfl
          rw [add_field _ _ 1 (by omega)] at hv141_1
          replace hv141_1 := Option.some.inj (hv141_1.symm.trans hx141_1)
          injection hv141_1 with hva_ hvn_ hvc_
          rw [hva_] at ge141_1
          rw [hvc_] at ul141_1
          have HL141_1 := Aside0.mk (show Kd.V (Kd.int .i64) 3 _ w.heap.size _ _ ((rd_T43 t102 x196_4).f1) from Kd.V_mk ul141_1 ge141_1)
          clear hva_ hvn_ hvc_ ge141_1 ul141_1
          clear hcc141 hce141
          have HR141_1 := Aside0.mk hi141_1
          have HC141_1 := Aside0.mk hl141_1
          clear hi141_1 hl141_1
          replace p141 := eq_true p141
          replace q141 := eq_true q141
          go_wp2_with (first|((with_reducible refine gate_dst (N := 30) rfl ?_);(try (refine gate_guard (by rfl) ?_;dsimp only));refine ZE 30 #[.string (⟨#[]⟩ : ByteArray),.slice none 0 0,.int .i64 0] 43 ?_;intro gb142 hg w88 hbox hb;replace HO_5 := Aside0.mk (Kd.N_below (Kd.N_elderB (ZKN HO_5) gb142 (Nat.le_of_eq hg.symm)) hb);replace HO_17 := ZBR HO_17 hb;replace HO_26 := ZBR HO_26 hb;replace HO_194 := Aside0.mk (Kd.N_below (Kd.N_elderB (ZKN HO_194) gb142 (Nat.le_of_eq hg.symm)) hb);replace HL141_1 := Aside0.mk (Kd.V_below (Kd.V_elderB (ZKV HL141_1) gb142 (Nat.le_of_eq hg.symm)) hb);replace HR141_1 := Aside0.mk (Kd.C_below (by repeat (first|(with_reducible exact HR141_1.out)|(with_reducible refine Kd.C_alloc ?_ _)|(with_reducible refine Kd.C_drewN ?_ _)|(with_reducible refine Kd.C_drew ?_)|exact HR141_1.out)) hb);have BK142 := Aside0.mk (hbox);have GW142 := Aside0.mk ((by rw [hg];exact (below_size (ZQ HB)) : w.heap.size ≤ gb142));have GE142 := Aside0.mk ((by rw [hg];exact (below_size (ZQ HB)) : w.heap.size ≤ gb142));replace HB := Aside0.mk (below_step (ZQ HB) hb);clear hb hbox hg;have hcz89_0 : w88.cell? ⟨gb142,0,none⟩ = some (.string (⟨#[]⟩ : ByteArray)) := ZC BK142 0 rfl;have hcz89_1 : w88.cell? ⟨gb142,1,none⟩ = some (.slice none 0 0) := ZC BK142 1 rfl;have hcz89_2 : w88.cell? ⟨gb142,2,none⟩ = some (.int .i64 0) := ZC BK142 2 rfl;have hfz89_0 := blk_frozen BK142.out 0;have hfz89_1 := blk_frozen BK142.out 1;have hfz89_2 := blk_frozen BK142.out 2))
          repeat (go_quiet (first|((with_reducible refine gate_dst (N := 30) rfl ?_);(try (refine gate_guard (by rfl) ?_;dsimp only));refine ZE 30 #[.string (⟨#[]⟩ : ByteArray),.slice none 0 0,.int .i64 0] 43 ?_;intro gb142 hg w88 hbox hb;replace HO_5 := Aside0.mk (Kd.N_below (Kd.N_elderB (ZKN HO_5) gb142 (Nat.le_of_eq hg.symm)) hb);replace HO_17 := ZBR HO_17 hb;replace HO_26 := ZBR HO_26 hb;replace HO_194 := Aside0.mk (Kd.N_below (Kd.N_elderB (ZKN HO_194) gb142 (Nat.le_of_eq hg.symm)) hb);replace HL141_1 := Aside0.mk (Kd.V_below (Kd.V_elderB (ZKV HL141_1) gb142 (Nat.le_of_eq hg.symm)) hb);replace HR141_1 := Aside0.mk (Kd.C_below (by repeat (first|(with_reducible exact HR141_1.out)|(with_reducible refine Kd.C_alloc ?_ _)|(with_reducible refine Kd.C_drewN ?_ _)|(with_reducible refine Kd.C_drew ?_)|exact HR141_1.out)) hb);have BK142 := Aside0.mk (hbox);have GW142 := Aside0.mk ((by rw [hg];exact (below_size (ZQ HB)) : w.heap.size ≤ gb142));have GE142 := Aside0.mk ((by rw [hg];exact (below_size (ZQ HB)) : w.heap.size ≤ gb142));replace HB := Aside0.mk (below_step (ZQ HB) hb);clear hb hbox hg;have hcz89_0 : w88.cell? ⟨gb142,0,none⟩ = some (.string (⟨#[]⟩ : ByteArray)) := ZC BK142 0 rfl;have hcz89_1 : w88.cell? ⟨gb142,1,none⟩ = some (.slice none 0 0) := ZC BK142 1 rfl;have hcz89_2 : w88.cell? ⟨gb142,2,none⟩ = some (.int .i64 0) := ZC BK142 2 rfl;have hfz89_0 := blk_frozen BK142.out 0;have hfz89_1 := blk_frozen BK142.out 1;have hfz89_2 := blk_frozen BK142.out 2));try go_wp2_with (first|((with_reducible refine gate_dst (N := 30) rfl ?_);(try (refine gate_guard (by rfl) ?_;dsimp only));refine ZE 30 #[.string (⟨#[]⟩ : ByteArray),.slice none 0 0,.int .i64 0] 43 ?_;intro gb142 hg w88 hbox hb;replace HO_5 := Aside0.mk (Kd.N_below (Kd.N_elderB (ZKN HO_5) gb142 (Nat.le_of_eq hg.symm)) hb);replace HO_17 := ZBR HO_17 hb;replace HO_26 := ZBR HO_26 hb;replace HO_194 := Aside0.mk (Kd.N_below (Kd.N_elderB (ZKN HO_194) gb142 (Nat.le_of_eq hg.symm)) hb);replace HL141_1 := Aside0.mk (Kd.V_below (Kd.V_elderB (ZKV HL141_1) gb142 (Nat.le_of_eq hg.symm)) hb);replace HR141_1 := Aside0.mk (Kd.C_below (by repeat (first|(with_reducible exact HR141_1.out)|(with_reducible refine Kd.C_alloc ?_ _)|(with_reducible refine Kd.C_drewN ?_ _)|(with_reducible refine Kd.C_drew ?_)|exact HR141_1.out)) hb);have BK142 := Aside0.mk (hbox);have GW142 := Aside0.mk ((by rw [hg];exact (below_size (ZQ HB)) : w.heap.size ≤ gb142));have GE142 := Aside0.mk ((by rw [hg];exact (below_size (ZQ HB)) : w.heap.size ≤ gb142));replace HB := Aside0.mk (below_step (ZQ HB) hb);clear hb hbox hg;have hcz89_0 : w88.cell? ⟨gb142,0,none⟩ = some (.string (⟨#[]⟩ : ByteArray)) := ZC BK142 0 rfl;have hcz89_1 : w88.cell? ⟨gb142,1,none⟩ = some (.slice none 0 0) := ZC BK142 1 rfl;have hcz89_2 : w88.cell? ⟨gb142,2,none⟩ = some (.int .i64 0) := ZC BK142 2 rfl;have hfz89_0 := blk_frozen BK142.out 0;have hfz89_1 := blk_frozen BK142.out 1;have hfz89_2 := blk_frozen BK142.out 2)))
          go_loopg [204] k4 (fun kq v204 w' => ∃ (x204_5 : Int),v204 = .int .i64 x204_5 ∧ Aside0 (laws_FnLessons.l3 kq l1 t102 t122 x26_3 x196_4 t102 (t102.length : Int) x196_4 ((rd_T43 t102 x196_4).f1) (((rd_T43 t102 x196_4).f1).length : Int) x204_5 = some r) ∧ Aside0 (kq ≤ k4) ∧ Aside0 (Kd.N k43 43 w' w.heap.size (fun k_ => some k_ ≠ ((.slice Ao74 t122.length co74) : Value).ownBlock ∧ some k_ ≠ (v137 : Value).ownBlock ∧ k_ ≠ gb142) (.slice (some ad141) t102.length co14) t102) ∧ Aside0 (Kd.R (Kd.int .i64) 3 w' w.heap.size (fun k_ => some k_ ≠ (v137 : Value).ownBlock) (.slice Ao74 t122.length co74) t122) ∧ Aside0 (Kd.R (Kd.int .i64) 3 w' w.heap.size (fun k_ => some k_ ≠ ((.slice Ao74 t122.length co74) : Value).ownBlock) v137 x26_3) ∧ Aside0 (Kd.N k43 43 w' w.heap.size (fun k_ => some k_ ≠ ((.slice Ao74 t122.length co74) : Value).ownBlock ∧ some k_ ≠ (v137 : Value).ownBlock ∧ k_ ≠ gb142) (.slice (some ad141) t102.length co14) t102) ∧ Aside0 (w'.heap[gb142]? = some (.cells #[.string ((rd_T43 t102 x196_4).f0),(.slice A141_1 ((rd_T43 t102 x196_4).f1).length c141_1),.int .i64 ((rd_T43 t102 x196_4).f2)] 43 (0,0))) ∧ Aside0 (Kd.C (Kd.int .i64) w' A141_1 ((rd_T43 t102 x196_4).f1).length ((rd_T43 t102 x196_4).f1)) ∧ Aside0 (Below w.heap.size w w'))
          case atStart => exact ⟨(0),(by first|rfl|(simp;done)|(simp [*];done)),H',⟨Nat.le_refl _⟩,⟨ZKN ⟨Kd.N_mono (Kd.N_far (p := ⟨gb142,2,none⟩) (Kd.N_far (p := ⟨gb142,1,none⟩) (Kd.N_far (p := ⟨gb142,0,none⟩) (Kd.N_mono HO_5.out (fun k_ hk => (⟨hk,hk.2⟩ : _ ∧ k_ ≠ gb142))) (fun _ hk => hk.2) (.string ((rd_T43 t102 x196_4).f0))) (fun _ hk => hk.2) (.slice A141_1 ((rd_T43 t102 x196_4).f1).length c141_1)) (fun _ hk => hk.2) (.int .i64 ((rd_T43 t102 x196_4).f2))) (fun _ hk => ⟨hk.1.1.1,⟨hk.1.1.2,hk.1.2⟩⟩)⟩⟩,⟨ZK ⟨Kd.R_mono (Kd.R_far (p := ⟨gb142,2,none⟩) (Kd.R_far (p := ⟨gb142,1,none⟩) (Kd.R_far (p := ⟨gb142,0,none⟩) (Kd.R_types HO_17.out BK142.out (by decide)) (fun _ hk => hk.2) (.string ((rd_T43 t102 x196_4).f0))) (fun _ hk => hk.2) (.slice A141_1 ((rd_T43 t102 x196_4).f1).length c141_1)) (fun _ hk => hk.2) (.int .i64 ((rd_T43 t102 x196_4).f2))) (fun _ hk => hk.1)⟩⟩,⟨ZK ⟨Kd.R_mono (Kd.R_far (p := ⟨gb142,2,none⟩) (Kd.R_far (p := ⟨gb142,1,none⟩) (Kd.R_far (p := ⟨gb142,0,none⟩) (Kd.R_types HO_26.out BK142.out (by decide)) (fun _ hk => hk.2) (.string ((rd_T43 t102 x196_4).f0))) (fun _ hk => hk.2) (.slice A141_1 ((rd_T43 t102 x196_4).f1).length c141_1)) (fun _ hk => hk.2) (.int .i64 ((rd_T43 t102 x196_4).f2))) (fun _ hk => hk.1)⟩⟩,⟨ZKN ⟨Kd.N_mono (Kd.N_far (p := ⟨gb142,2,none⟩) (Kd.N_far (p := ⟨gb142,1,none⟩) (Kd.N_far (p := ⟨gb142,0,none⟩) (Kd.N_mono HO_194.out (fun k_ hk => (⟨hk,hk.2⟩ : _ ∧ k_ ≠ gb142))) (fun _ hk => hk.2) (.string ((rd_T43 t102 x196_4).f0))) (fun _ hk => hk.2) (.slice A141_1 ((rd_T43 t102 x196_4).f1).length c141_1)) (fun _ hk => hk.2) (.int .i64 ((rd_T43 t102 x196_4).f2))) (fun _ hk => ⟨hk.1.1.1,⟨hk.1.1.2,hk.1.2⟩⟩)⟩⟩,⟨by (with_reducible repeat (first|refine blk_drewN ?_ _|refine blk_drew ?_|refine blk_alloc ?_ _));refine blk_put (cs := #[.string ((rd_T43 t102 x196_4).f0),.slice A141_1 ((rd_T43 t102 x196_4).f1).length c141_1,.int .i64 0]) ?_ 2 _ rfl;(with_reducible repeat (first|refine blk_drewN ?_ _|refine blk_drew ?_|refine blk_alloc ?_ _));refine blk_put (cs := #[.string ((rd_T43 t102 x196_4).f0),.slice none 0 0,.int .i64 0]) ?_ 1 _ rfl;(with_reducible repeat (first|refine blk_drewN ?_ _|refine blk_drew ?_|refine blk_alloc ?_ _));refine blk_put (cs := #[.string (⟨#[]⟩ : ByteArray),.slice none 0 0,.int .i64 0]) ?_ 0 _ rfl;(with_reducible repeat (first|refine blk_drewN ?_ _|refine blk_drew ?_|refine blk_alloc ?_ _));exact BK142.out⟩,⟨(Kd.V_reads' (ZKV ⟨(Kd.V_mono (Kd.V_far (p := ⟨gb142,2,none⟩) (Kd.V_far (p := ⟨gb142,1,none⟩) (Kd.V_far (p := ⟨gb142,0,none⟩) (Kd.V_mono HL141_1.out (fun k_ hk => (⟨hk,hk.2⟩ : _ ∧ k_ ≠ gb142))) (fun _ hk => hk.2) (.string ((rd_T43 t102 x196_4).f0))) (fun _ hk => hk.2) (.slice A141_1 ((rd_T43 t102 x196_4).f1).length c141_1)) (fun _ hk => hk.2) (.int .i64 ((rd_T43 t102 x196_4).f2))) (fun _ h_ => h_.1))⟩)).2.2⟩,⟨by repeat (first|(with_reducible first|exact HB.out|apply below_alloc|apply pw_below_drewN|apply below_drew1|refine below_set ?_ GE142.out)|exact HB.out)⟩⟩
          case round =>
           clear H'
           obtain ⟨x204_5,rfl,HA,HK5,HO_5,HO_17,HO_26,HO_194,BK142,HR141_1,HB⟩ := hrel
           cases gk with
           | zero => exact absurd HA.out (by simp [laws_FnLessons.l3])
           | succ k5 =>
            have H := HA.out
            clear HA
            simp only [laws_FnLessons.l3] at H
            by_cases c90 : x204_5 < (((rd_T43 t102 x196_4).f1).length : Int);rotate_left
            ·rw [if_neg c90] at H
             have c90b0 : decide (x204_5 < (((rd_T43 t102 x196_4).f1).length : Int)) = false := decide_eq_false c90
             clear c90
             as_aux_lemma =>
              have H' := Aside0.mk H
              clear H
              go_wp2
              repeat (go_quiet (fail);try go_wp2)
              go_roundg k5
              case measure => have := HJ11.out;have := HJ49.out;have := HK3.out;have := HK4.out;have := HK5.out;omega
              case rel => exact ⟨(wrap64 (x196_4 + 1)),(by first|rfl|(simp;done)|(simp [*];done)),H',⟨by have := HJ11.out;have := HJ49.out;have := HK3.out;have := HK4.out;have := HK5.out;omega⟩,⟨ZKN ⟨Kd.N_mono HO_5.out (fun _ hk => ⟨hk.1,hk.2.1⟩)⟩⟩,⟨ZK HO_17⟩,⟨ZK HO_26⟩,⟨ZKN ⟨Kd.N_mono HO_194.out (fun _ hk => ⟨hk.1,hk.2.1⟩)⟩⟩,⟨by repeat (first|(with_reducible first|exact HB.out|apply below_alloc|apply pw_below_drewN|apply below_drew1|refine below_set ?_ GE142.out)|exact HB.out)⟩⟩
            rw [if_pos c90] at H
            have c90b0 : decide (x204_5 < (((rd_T43 t102 x196_4).f1).length : Int)) = true := decide_eq_true c90
            clear c90
            by_cases c91 : 0 ≤ x204_5;rotate_left
            ·rw [if_neg c91] at H
             exact absurd H (by simp)
            rw [if_pos c91] at H
            have c91b0 : decide (0 ≤ x204_5) = true := decide_eq_true c91
            clear c91
            by_cases c92 : x204_5 < (((rd_T43 t102 x196_4).f1).length : Int);rotate_left
            ·rw [if_neg c92] at H
             exact absurd H (by simp)
            rw [if_pos c92] at H
            have c92b0 : decide (x204_5 < (((rd_T43 t102 x196_4).f1).length : Int)) = true := decide_eq_true c92
            clear c92
            by_cases c93 : 0 ≤ (rd ((rd_T43 t102 x196_4).f1) x204_5);rotate_left
            ·rw [if_neg c93] at H
             exact absurd H (by simp)
            rw [if_pos c93] at H
            have c93b0 : decide (0 ≤ (rd ((rd_T43 t102 x196_4).f1) x204_5)) = true := decide_eq_true c93
            clear c93
            by_cases c94 : (rd ((rd_T43 t102 x196_4).f1) x204_5) < (x26_3.length : Int);rotate_left
            ·rw [if_neg c94] at H
             exact absurd H (by simp)
            rw [if_pos c94] at H
            have c94b0 : decide ((rd ((rd_T43 t102 x196_4).f1) x204_5) < (x26_3.length : Int)) = true := decide_eq_true c94
            clear c94
            by_cases c95 : 0 ≤ x196_4;rotate_left
            ·rw [if_neg c95] at H
             exact absurd H (by simp)
            rw [if_pos c95] at H
            have c95b0 : decide (0 ≤ x196_4) = true := decide_eq_true c95
            clear c95
            by_cases c96 : x196_4 < (x26_3.length : Int);rotate_left
            ·rw [if_neg c96] at H
             exact absurd H (by simp)
            rw [if_pos c96] at H
            have c96b0 : decide (x196_4 < (x26_3.length : Int)) = true := decide_eq_true c96
            clear c96
            by_cases c97 : (rd x26_3 (rd ((rd_T43 t102 x196_4).f1) x204_5)) ≥ (rd x26_3 x196_4)
            ·rw [if_pos c97] at H
             exact absurd H (by simp)
            rw [if_neg c97] at H
            have c97b0 : decide ((rd x26_3 x196_4) ≤ (rd x26_3 (rd ((rd_T43 t102 x196_4).f1) x204_5))) = false := decide_eq_false c97
            clear c97
            as_aux_lemma =>
             have H' := Aside0.mk H
             clear H
             have p143 : 0 ≤ (x204_5 : Int) := ZD
             have q143 : x204_5 < (((rd_T43 t102 x196_4).f1).length : Int) := ZD
             obtain ⟨ad143,e143,hx143_0⟩ := Kd.at_int HR141_1.out x204_5 p143 q143
             cases e143
             replace p143 := eq_true p143
             replace q143 := eq_true q143
             obtain ⟨Ao98,co98,eo98⟩ := Kd.R_slice HO_26.out
             subst eo98
             have p144 : 0 ≤ ((rd ((rd_T43 t102 x196_4).f1) x204_5) : Int) := ZD
             have q144 : (rd ((rd_T43 t102 x196_4).f1) x204_5) < (x26_3.length : Int) := ZD
             obtain ⟨ad144,e144,hx144_0⟩ := Kd.at_int (Kd.R_reads' HO_26.out).2.2 (rd ((rd_T43 t102 x196_4).f1) x204_5) p144 q144
             cases e144
             replace p144 := eq_true p144
             replace q144 := eq_true q144
             have p145 : 0 ≤ (x196_4 : Int) := ZD
             have q145 : x196_4 < (x26_3.length : Int) := ZD
             obtain ⟨ad145,e145,hx145_0⟩ := Kd.at_int (Kd.R_reads' HO_26.out).2.2 x196_4 p145 q145
             obtain rfl : ad144 = ad145 := (by injection e145)
             replace p145 := eq_true p145
             replace q145 := eq_true q145
             go_wp2
             repeat (go_quiet (fail);try go_wp2)
             go_roundg k5
             case measure => have := HJ11.out;have := HJ49.out;have := HK3.out;have := HK4.out;have := HK5.out;omega
             case rel => exact ⟨(wrap64 (x204_5 + 1)),(by first|rfl|(simp;done)|(simp [*];done)),H',⟨by have := HJ11.out;have := HJ49.out;have := HK3.out;have := HK4.out;have := HK5.out;omega⟩,⟨ZKN HO_5⟩,⟨ZK HO_17⟩,⟨ZK HO_26⟩,⟨ZKN HO_194⟩,⟨by (with_reducible repeat (first|refine blk_drewN ?_ _|refine blk_drew ?_|refine blk_alloc ?_ _));exact BK142.out⟩,⟨by repeat (first|(with_reducible exact HR141_1.out)|(with_reducible refine Kd.C_alloc ?_ _)|(with_reducible refine Kd.C_drewN ?_ _)|(with_reducible refine Kd.C_drew ?_)|exact HR141_1.out)⟩,⟨by repeat (first|(with_reducible first|exact HB.out|apply below_alloc|apply pw_below_drewN|apply below_drew1|refine below_set ?_ GE142.out)|exact HB.out)⟩⟩
     case rest =>
      clear HC68
      obtain ⟨kq,HA,HJ67,HB⟩ := hcut
      cases kq with
      | zero => exact absurd HA.out (by simp [laws_FnLessons.j7])
      | succ kj67 =>
       have H := HA.out
       clear HA
       simp only [laws_FnLessons.j7] at H
       replace H := Option.bind_eq_some_iff.mp H
       obtain ⟨t146,A1000,H⟩ := H
       try dsimp only at H
       have A100 := Aside0.mk A1000
       clear A1000
       replace H := Option.bind_eq_some_iff.mp H
       obtain ⟨⟨t149,t150⟩,A1010,H⟩ := H
       try dsimp only at H
       have A101 := Aside0.mk A1010
       clear A1010
       replace H := Option.bind_eq_some_iff.mp H
       obtain ⟨⟨t153,t156⟩,A1020,H⟩ := H
       try dsimp only at H
       have A102 := Aside0.mk A1020
       clear A1020
       replace H := Option.bind_eq_some_iff.mp H
       obtain ⟨⟨t157,t158⟩,A1030,H⟩ := H
       try dsimp only at H
       have A103 := Aside0.mk A1030
       clear A1030
       have HC104 := Aside0.mk H
       clear H
       go_upto_region 50 with (first|(go_at_call 17;(with_reducible refine (spec_DrawCycleOf.calls kj67 _ _ l1 t146 _ ?side1 ?side2 A100.out).mono ?_);(case side1 => exact ZR (Kd.C_below HR1.out HB.out));(case side2 => exact HC1.out);rintro e w105 ⟨v147,rfl,ho0,hb⟩;have HO148 := Aside0.mk (Kd.N_lower (Kd.N_mono (ok' := fun k_ => True) ho0 (fun k_ hk_ => trivial)) (below_size (ZQ HB)));replace HB := Aside0.mk (below_step (ZQ HB) hb);(try clear hb);(try clear ho0);obtain ⟨Ao106,co106,eo106⟩ := Kd.N_slice HO148.out;subst eo106)|(go_at_call 18;(with_reducible refine (impl_CycleOf.calls kj67 _ _ t146 t149 t150 _ ?side1 ?side2 A101.out).mono ?_);(case side1 => exact ZR (Kd.N_reads' HO148.out).2.2);(case side2 => exact (Kd.N_reads' HO148.out).2.1);rintro e w107 ⟨v151,rfl,ho0,hb⟩;replace HO148 := Aside0.mk (Kd.N_elder' (ZKN HO148) (Kd.R_base ho0) hb);have HO152 := Aside0.mk (Kd.R_lower ho0 (below_size (ZQ HB)));replace HB := Aside0.mk (below_step (ZQ HB) hb);(try clear hb);(try clear ho0))|(go_at_call 19;(with_reducible refine (spec_CycleOf.calls kj67 _ _ t146 t153 t156 _ ?side1 ?side2 A102.out).mono ?_);(case side1 => exact ZR (Kd.N_reads' HO148.out).2.2);(case side2 => exact (Kd.N_reads' HO148.out).2.1);rintro e w108 ⟨v154,rfl,ho0,hb⟩;have HO155 := Aside0.mk (Kd.V_lower (Kd.V_mono (ok' := fun k_ => some k_ ≠ (.slice Ao106 t146.length co106 : Value).ownBlock ∧ some k_ ≠ (v151 : Value).ownBlock) ho0 (fun k_ hk_ => ⟨(Kd.fresh' (Kd.N_lt (ZKN HO148)) k_ hk_),(Kd.fresh' (Kd.R_lt (ZK HO152)) k_ hk_)⟩)) (below_size (ZQ HB)));replace HO148 := ZBN HO148 hb;replace HO152 := ZBR HO152 hb;replace HB := Aside0.mk (below_step (ZQ HB) hb);(try clear hb);(try clear ho0))|(go_at_call 10;(with_reducible refine (impl_TeachOrder.calls kj67 _ _ t146 t157 t158 _ ?side1 ?side2 A103.out).mono ?_);(case side1 => exact ZR (Kd.N_reads' HO148.out).2.2);(case side2 => exact (Kd.N_reads' HO148.out).2.1);rintro e w109 ⟨v159,rfl,ho0,hb⟩;replace HO148 := Aside0.mk (Kd.N_elder' (ZKN HO148) (Kd.R_base ho0) hb);replace HO155 := Aside0.mk (Kd.V_elder' (ZKV HO155) (Kd.R_base ho0) hb);have HO160 := Aside0.mk (Kd.R_lower (Kd.R_new' ho0 (Kd.R_lt (ZK HO152))) (below_size (ZQ HB)));replace HO152 := Aside0.mk (Kd.R_elder' (ZK HO152) (Kd.R_base ho0) hb);replace HB := Aside0.mk (below_step (ZQ HB) hb);(try clear hb);(try clear ho0)))
       repeat (go_quiet (first|(go_at_call 17;(with_reducible refine (spec_DrawCycleOf.calls kj67 _ _ l1 t146 _ ?side1 ?side2 A100.out).mono ?_);(case side1 => exact ZR (Kd.C_below HR1.out HB.out));(case side2 => exact HC1.out);rintro e w105 ⟨v147,rfl,ho0,hb⟩;have HO148 := Aside0.mk (Kd.N_lower (Kd.N_mono (ok' := fun k_ => True) ho0 (fun k_ hk_ => trivial)) (below_size (ZQ HB)));replace HB := Aside0.mk (below_step (ZQ HB) hb);(try clear hb);(try clear ho0);obtain ⟨Ao106,co106,eo106⟩ := Kd.N_slice HO148.out;subst eo106)|(go_at_call 18;(with_reducible refine (impl_CycleOf.calls kj67 _ _ t146 t149 t150 _ ?side1 ?side2 A101.out).mono ?_);(case side1 => exact ZR (Kd.N_reads' HO148.out).2.2);(case side2 => exact (Kd.N_reads' HO148.out).2.1);rintro e w107 ⟨v151,rfl,ho0,hb⟩;replace HO148 := Aside0.mk (Kd.N_elder' (ZKN HO148) (Kd.R_base ho0) hb);have HO152 := Aside0.mk (Kd.R_lower ho0 (below_size (ZQ HB)));replace HB := Aside0.mk (below_step (ZQ HB) hb);(try clear hb);(try clear ho0))|(go_at_call 19;(with_reducible refine (spec_CycleOf.calls kj67 _ _ t146 t153 t156 _ ?side1 ?side2 A102.out).mono ?_);(case side1 => exact ZR (Kd.N_reads' HO148.out).2.2);(case side2 => exact (Kd.N_reads' HO148.out).2.1);rintro e w108 ⟨v154,rfl,ho0,hb⟩;have HO155 := Aside0.mk (Kd.V_lower (Kd.V_mono (ok' := fun k_ => some k_ ≠ (.slice Ao106 t146.length co106 : Value).ownBlock ∧ some k_ ≠ (v151 : Value).ownBlock) ho0 (fun k_ hk_ => ⟨(Kd.fresh' (Kd.N_lt (ZKN HO148)) k_ hk_),(Kd.fresh' (Kd.R_lt (ZK HO152)) k_ hk_)⟩)) (below_size (ZQ HB)));replace HO148 := ZBN HO148 hb;replace HO152 := ZBR HO152 hb;replace HB := Aside0.mk (below_step (ZQ HB) hb);(try clear hb);(try clear ho0))|(go_at_call 10;(with_reducible refine (impl_TeachOrder.calls kj67 _ _ t146 t157 t158 _ ?side1 ?side2 A103.out).mono ?_);(case side1 => exact ZR (Kd.N_reads' HO148.out).2.2);(case side2 => exact (Kd.N_reads' HO148.out).2.1);rintro e w109 ⟨v159,rfl,ho0,hb⟩;replace HO148 := Aside0.mk (Kd.N_elder' (ZKN HO148) (Kd.R_base ho0) hb);replace HO155 := Aside0.mk (Kd.V_elder' (ZKV HO155) (Kd.R_base ho0) hb);have HO160 := Aside0.mk (Kd.R_lower (Kd.R_new' ho0 (Kd.R_lt (ZK HO152))) (below_size (ZQ HB)));replace HO152 := Aside0.mk (Kd.R_elder' (ZK HO152) (Kd.R_base ho0) hb);replace HB := Aside0.mk (below_step (ZQ HB) hb);(try clear hb);(try clear ho0)));go_upto_region 50 with (first|(go_at_call 17;(with_reducible refine (spec_DrawCycleOf.calls kj67 _ _ l1 t146 _ ?side1 ?side2 A100.out).mono ?_);(case side1 => exact ZR (Kd.C_below HR1.out HB.out));(case side2 => exact HC1.out);rintro e w105 ⟨v147,rfl,ho0,hb⟩;have HO148 := Aside0.mk (Kd.N_lower (Kd.N_mono (ok' := fun k_ => True) ho0 (fun k_ hk_ => trivial)) (below_size (ZQ HB)));replace HB := Aside0.mk (below_step (ZQ HB) hb);(try clear hb);(try clear ho0);obtain ⟨Ao106,co106,eo106⟩ := Kd.N_slice HO148.out;subst eo106)|(go_at_call 18;(with_reducible refine (impl_CycleOf.calls kj67 _ _ t146 t149 t150 _ ?side1 ?side2 A101.out).mono ?_);(case side1 => exact ZR (Kd.N_reads' HO148.out).2.2);(case side2 => exact (Kd.N_reads' HO148.out).2.1);rintro e w107 ⟨v151,rfl,ho0,hb⟩;replace HO148 := Aside0.mk (Kd.N_elder' (ZKN HO148) (Kd.R_base ho0) hb);have HO152 := Aside0.mk (Kd.R_lower ho0 (below_size (ZQ HB)));replace HB := Aside0.mk (below_step (ZQ HB) hb);(try clear hb);(try clear ho0))|(go_at_call 19;(with_reducible refine (spec_CycleOf.calls kj67 _ _ t146 t153 t156 _ ?side1 ?side2 A102.out).mono ?_);(case side1 => exact ZR (Kd.N_reads' HO148.out).2.2);(case side2 => exact (Kd.N_reads' HO148.out).2.1);rintro e w108 ⟨v154,rfl,ho0,hb⟩;have HO155 := Aside0.mk (Kd.V_lower (Kd.V_mono (ok' := fun k_ => some k_ ≠ (.slice Ao106 t146.length co106 : Value).ownBlock ∧ some k_ ≠ (v151 : Value).ownBlock) ho0 (fun k_ hk_ => ⟨(Kd.fresh' (Kd.N_lt (ZKN HO148)) k_ hk_),(Kd.fresh' (Kd.R_lt (ZK HO152)) k_ hk_)⟩)) (below_size (ZQ HB)));replace HO148 := ZBN HO148 hb;replace HO152 := ZBR HO152 hb;replace HB := Aside0.mk (below_step (ZQ HB) hb);(try clear hb);(try clear ho0))|(go_at_call 10;(with_reducible refine (impl_TeachOrder.calls kj67 _ _ t146 t157 t158 _ ?side1 ?side2 A103.out).mono ?_);(case side1 => exact ZR (Kd.N_reads' HO148.out).2.2);(case side2 => exact (Kd.N_reads' HO148.out).2.1);rintro e w109 ⟨v159,rfl,ho0,hb⟩;replace HO148 := Aside0.mk (Kd.N_elder' (ZKN HO148) (Kd.R_base ho0) hb);replace HO155 := Aside0.mk (Kd.V_elder' (ZKV HO155) (Kd.R_base ho0) hb);have HO160 := Aside0.mk (Kd.R_lower (Kd.R_new' ho0 (Kd.R_lt (ZK HO152))) (below_size (ZQ HB)));replace HO152 := Aside0.mk (Kd.R_elder' (ZK HO152) (Kd.R_base ho0) hb);replace HB := Aside0.mk (below_step (ZQ HB) hb);(try clear hb);(try clear ho0))))
       (try simp only [Act.put,zuA,zuB,zuC])
       go_cut [259] (fun v259 wc => ∃ (kq : Nat) (x259_103 : Bool),v259 = .bool x259_103 ∧ Aside0 (laws_FnLessons.j8 kq t146 t150 t153 x259_103 = some r) ∧ Aside0 (kq ≤ kj67) ∧ Aside0 (Kd.N k43 43 wc w.heap.size (fun _ => True) (.slice Ao106 t146.length co106) t146) ∧ Aside0 (Kd.V (Kd.int .i64) 3 wc w.heap.size (fun k_ => some k_ ≠ ((.slice Ao106 t146.length co106) : Value).ownBlock) v154 t153) ∧ Aside0 (Below w.heap.size w wc))
       case first =>
        have H := HC104.out
        clear HC104
        by_cases c110 : (t150 != t156) = true
        ·rw [if_pos c110] at H
         exact absurd H (by simp)
        rw [if_neg c110] at H
        have c110b0 : (t150 != t156) = false := by simpa using c110
        (try (have c110b1 : decide (t150 = t156) = true := by simpa using c110))
        (try (have c110b2 : (t150 == t156) = true := by simpa using c110))
        clear c110
        (first|rw [c110b0]|rw [c110b1]|(simp only [i64_w,i32_w];rw [c110b0])|skip)
        replace H := Option.bind_eq_some_iff.mp H
        obtain ⟨t161,A1110,H⟩ := H
        try dsimp only at H
        have A111 := Aside0.mk A1110
        clear A1110
        by_cases c112 : t161 = true;rotate_left
        ·replace c112 := Bool.eq_false_iff.mpr c112
         subst c112
         rw [if_neg (show ¬ (false = true) by decide)] at H
         exact absurd H (by simp)
        subst c112
        rw [if_pos rfl] at H
        replace H := Option.bind_eq_some_iff.mp H
        obtain ⟨t162,A1130,H⟩ := H
        try dsimp only at H
        have A113 := Aside0.mk A1130
        clear A1130
        by_cases c114 : t162 = true
        ·subst c114
         rw [if_pos rfl] at H
         as_aux_lemma =>
          have H' := Aside0.mk H
          clear H
          obtain ⟨Ao115,co115,eo115⟩ := Kd.R_slice HO152.out
          subst eo115
          obtain ⟨Ao116,co116,eo116⟩ := Kd.V_slice HO155.out
          subst eo116
          go_wp2_with (first|(go_at_call 13;(with_reducible refine (laws_sameInts.calls kj67 _ _ t149 _ _ t153 true _ ?side1 ?side2 ?side3 ?side4 A111.out).mono ?_);(case side1 => exact ZR (Kd.R_reads' HO152.out).2.2);(case side2 => exact (Kd.R_reads' HO152.out).2.1);(case side3 => exact ZR (Kd.V_reads' HO155.out).2.2);(case side4 => exact (Kd.V_reads' HO155.out).2.1);rintro e w' ⟨rfl,⟨nd,rfl⟩⟩;(try first|exact ⟨rfl,_,World.drewN_drewN _ _ _⟩|exact ⟨rfl,_,Eq.trans (World.drewN_drewN _ _ _) (congrArg (World.drewN _) (Nat.add_assoc _ _ _))⟩))|(go_at_call 14;(with_reducible refine (impl_AreWords.calls kj67 _ _ t146 true _ ?side1 ?side2 A113.out).mono ?_);(case side1 => exact ZR (Kd.N_reads' HO148.out).2.2);(case side2 => exact (Kd.N_reads' HO148.out).2.1);rintro e w117 ⟨rfl,hb⟩;replace HO148 := ZBN HO148 hb;replace HO152 := ZBR HO152 hb;replace HO155 := ZBV HO155 hb;replace HO160 := ZBR HO160 hb;replace HB := Aside0.mk (below_step (ZQ HB) hb);(try clear hb)))
          repeat (go_quiet (first|(go_at_call 13;(with_reducible refine (laws_sameInts.calls kj67 _ _ t149 _ _ t153 true _ ?side1 ?side2 ?side3 ?side4 A111.out).mono ?_);(case side1 => exact ZR (Kd.R_reads' HO152.out).2.2);(case side2 => exact (Kd.R_reads' HO152.out).2.1);(case side3 => exact ZR (Kd.V_reads' HO155.out).2.2);(case side4 => exact (Kd.V_reads' HO155.out).2.1);rintro e w' ⟨rfl,⟨nd,rfl⟩⟩;(try first|exact ⟨rfl,_,World.drewN_drewN _ _ _⟩|exact ⟨rfl,_,Eq.trans (World.drewN_drewN _ _ _) (congrArg (World.drewN _) (Nat.add_assoc _ _ _))⟩))|(go_at_call 14;(with_reducible refine (impl_AreWords.calls kj67 _ _ t146 true _ ?side1 ?side2 A113.out).mono ?_);(case side1 => exact ZR (Kd.N_reads' HO148.out).2.2);(case side2 => exact (Kd.N_reads' HO148.out).2.1);rintro e w117 ⟨rfl,hb⟩;replace HO148 := ZBN HO148 hb;replace HO152 := ZBR HO152 hb;replace HO155 := ZBV HO155 hb;replace HO160 := ZBR HO160 hb;replace HB := Aside0.mk (below_step (ZQ HB) hb);(try clear hb)));try go_wp2_with (first|(go_at_call 13;(with_reducible refine (laws_sameInts.calls kj67 _ _ t149 _ _ t153 true _ ?side1 ?side2 ?side3 ?side4 A111.out).mono ?_);(case side1 => exact ZR (Kd.R_reads' HO152.out).2.2);(case side2 => exact (Kd.R_reads' HO152.out).2.1);(case side3 => exact ZR (Kd.V_reads' HO155.out).2.2);(case side4 => exact (Kd.V_reads' HO155.out).2.1);rintro e w' ⟨rfl,⟨nd,rfl⟩⟩;(try first|exact ⟨rfl,_,World.drewN_drewN _ _ _⟩|exact ⟨rfl,_,Eq.trans (World.drewN_drewN _ _ _) (congrArg (World.drewN _) (Nat.add_assoc _ _ _))⟩))|(go_at_call 14;(with_reducible refine (impl_AreWords.calls kj67 _ _ t146 true _ ?side1 ?side2 A113.out).mono ?_);(case side1 => exact ZR (Kd.N_reads' HO148.out).2.2);(case side2 => exact (Kd.N_reads' HO148.out).2.1);rintro e w117 ⟨rfl,hb⟩;replace HO148 := ZBN HO148 hb;replace HO152 := ZBR HO152 hb;replace HO155 := ZBV HO155 hb;replace HO160 := ZBR HO160 hb;replace HB := Aside0.mk (below_step (ZQ HB) hb);(try clear hb))))
          go_meet
          case rel => exact ⟨_,((t150 != (!t158))),(by first|rfl|(simp;done)|(simp [*];done)),H',⟨by have := HJ11.out;have := HJ49.out;have := HJ67.out;first|omega|exact Nat.le_refl _⟩,⟨ZKN ⟨Kd.N_mono HO148.out (fun _ hk => trivial)⟩⟩,⟨ZKV ⟨Kd.V_mono HO155.out (fun _ hk => hk.1.1)⟩⟩,⟨ZQ HB⟩⟩
        replace c114 := Bool.eq_false_iff.mpr c114
        subst c114
        rw [if_neg (show ¬ (false = true) by decide)] at H
        as_aux_lemma =>
         have H' := Aside0.mk H
         clear H
         obtain ⟨Ao118,co118,eo118⟩ := Kd.R_slice HO152.out
         subst eo118
         obtain ⟨Ao119,co119,eo119⟩ := Kd.V_slice HO155.out
         subst eo119
         go_wp2_with (first|(go_at_call 13;(with_reducible refine (laws_sameInts.calls kj67 _ _ t149 _ _ t153 true _ ?side1 ?side2 ?side3 ?side4 A111.out).mono ?_);(case side1 => exact ZR (Kd.R_reads' HO152.out).2.2);(case side2 => exact (Kd.R_reads' HO152.out).2.1);(case side3 => exact ZR (Kd.V_reads' HO155.out).2.2);(case side4 => exact (Kd.V_reads' HO155.out).2.1);rintro e w' ⟨rfl,⟨nd,rfl⟩⟩;(try first|exact ⟨rfl,_,World.drewN_drewN _ _ _⟩|exact ⟨rfl,_,Eq.trans (World.drewN_drewN _ _ _) (congrArg (World.drewN _) (Nat.add_assoc _ _ _))⟩))|(go_at_call 14;(with_reducible refine (impl_AreWords.calls kj67 _ _ t146 false _ ?side1 ?side2 A113.out).mono ?_);(case side1 => exact ZR (Kd.N_reads' HO148.out).2.2);(case side2 => exact (Kd.N_reads' HO148.out).2.1);rintro e w120 ⟨rfl,hb⟩;replace HO148 := ZBN HO148 hb;replace HO152 := ZBR HO152 hb;replace HO155 := ZBV HO155 hb;replace HO160 := ZBR HO160 hb;replace HB := Aside0.mk (below_step (ZQ HB) hb);(try clear hb)))
         repeat (go_quiet (first|(go_at_call 13;(with_reducible refine (laws_sameInts.calls kj67 _ _ t149 _ _ t153 true _ ?side1 ?side2 ?side3 ?side4 A111.out).mono ?_);(case side1 => exact ZR (Kd.R_reads' HO152.out).2.2);(case side2 => exact (Kd.R_reads' HO152.out).2.1);(case side3 => exact ZR (Kd.V_reads' HO155.out).2.2);(case side4 => exact (Kd.V_reads' HO155.out).2.1);rintro e w' ⟨rfl,⟨nd,rfl⟩⟩;(try first|exact ⟨rfl,_,World.drewN_drewN _ _ _⟩|exact ⟨rfl,_,Eq.trans (World.drewN_drewN _ _ _) (congrArg (World.drewN _) (Nat.add_assoc _ _ _))⟩))|(go_at_call 14;(with_reducible refine (impl_AreWords.calls kj67 _ _ t146 false _ ?side1 ?side2 A113.out).mono ?_);(case side1 => exact ZR (Kd.N_reads' HO148.out).2.2);(case side2 => exact (Kd.N_reads' HO148.out).2.1);rintro e w120 ⟨rfl,hb⟩;replace HO148 := ZBN HO148 hb;replace HO152 := ZBR HO152 hb;replace HO155 := ZBV HO155 hb;replace HO160 := ZBR HO160 hb;replace HB := Aside0.mk (below_step (ZQ HB) hb);(try clear hb)));try go_wp2_with (first|(go_at_call 13;(with_reducible refine (laws_sameInts.calls kj67 _ _ t149 _ _ t153 true _ ?side1 ?side2 ?side3 ?side4 A111.out).mono ?_);(case side1 => exact ZR (Kd.R_reads' HO152.out).2.2);(case side2 => exact (Kd.R_reads' HO152.out).2.1);(case side3 => exact ZR (Kd.V_reads' HO155.out).2.2);(case side4 => exact (Kd.V_reads' HO155.out).2.1);rintro e w' ⟨rfl,⟨nd,rfl⟩⟩;(try first|exact ⟨rfl,_,World.drewN_drewN _ _ _⟩|exact ⟨rfl,_,Eq.trans (World.drewN_drewN _ _ _) (congrArg (World.drewN _) (Nat.add_assoc _ _ _))⟩))|(go_at_call 14;(with_reducible refine (impl_AreWords.calls kj67 _ _ t146 false _ ?side1 ?side2 A113.out).mono ?_);(case side1 => exact ZR (Kd.N_reads' HO148.out).2.2);(case side2 => exact (Kd.N_reads' HO148.out).2.1);rintro e w120 ⟨rfl,hb⟩;replace HO148 := ZBN HO148 hb;replace HO152 := ZBR HO152 hb;replace HO155 := ZBV HO155 hb;replace HO160 := ZBR HO160 hb;replace HB := Aside0.mk (below_step (ZQ HB) hb);(try clear hb))))
         go_meet
         case rel => exact ⟨_,((t150 != false)),(by first|rfl|(simp;done)|(simp [*];done)),H',⟨by have := HJ11.out;have := HJ49.out;have := HJ67.out;first|omega|exact Nat.le_refl _⟩,⟨ZKN ⟨Kd.N_mono HO148.out (fun _ hk => trivial)⟩⟩,⟨ZKV ⟨Kd.V_mono HO155.out (fun _ hk => hk.1.1)⟩⟩,⟨ZQ HB⟩⟩
       case rest =>
        clear HC104
        obtain ⟨kq,x259_103,rfl,HA,HJ103,HO_33,HO_36,HB⟩ := hcut
        cases kq with
        | zero => exact absurd HA.out (by simp [laws_FnLessons.j8])
        | succ kj103 =>
         have H := HA.out
         clear HA
         simp only [laws_FnLessons.j8] at H
         by_cases c121 : x259_103 = true
         ·subst c121
          rw [if_pos rfl] at H
          exact absurd H (by simp)
         replace c121 := Bool.eq_false_iff.mpr c121
         subst c121
         rw [if_neg (show ¬ (false = true) by decide)] at H
         by_cases c122 : t150 = true;rotate_left
         ·replace c122 := Bool.eq_false_iff.mpr c122
          subst c122
          rw [if_neg (show ¬ (false = true) by decide)] at H
          as_aux_lemma =>
           obtain rfl := Option.some.inj H
           go_wp2
           repeat (go_quiet (fail);try go_wp2)
           go_ret
           exact ⟨by first|rfl|(simp [*,errW_none,errW_some] <;> rfl),ZQ HB⟩

         subst c122
         rw [if_pos rfl] at H
         by_cases c123 : (t153.length : Int) < 2
         ·rw [if_pos c123] at H
          exact absurd H (by simp)
         rw [if_neg c123] at H
         have c123b0 := decide_eq_false c123
         have c123b1 : decide (t153.length < 2) = false := decide_eq_false (by omega)
         clear c123
         have H' := Aside0.mk H
         clear H
         obtain ⟨Ao124,co124,eo124⟩ := Kd.V_slice HO_36.out
         subst eo124
         go_wp2
         repeat (go_quiet (fail);try go_wp2)
         go_loopg [266] kj103 (fun kq v266 w' => ∃ (x266_5 : Int),v266 = .int .i64 x266_5 ∧ Aside0 (laws_FnLessons.l4 kq t146 t153 t153 (t153.length : Int) x266_5 = some r) ∧ Aside0 (kq ≤ kj103) ∧ Aside0 (Kd.N k43 43 w' w.heap.size (fun _ => True) (.slice Ao106 t146.length co106) t146) ∧ Aside0 (Kd.V (Kd.int .i64) 3 w' w.heap.size (fun k_ => some k_ ≠ ((.slice Ao106 t146.length co106) : Value).ownBlock) (.slice Ao124 t153.length co124) t153) ∧ Aside0 (Kd.V (Kd.int .i64) 3 w' w.heap.size (fun k_ => some k_ ≠ ((.slice Ao106 t146.length co106) : Value).ownBlock) (.slice Ao124 t153.length co124) t153) ∧ Aside0 (Below w.heap.size w w'))
         case atStart => exact ⟨(0),(by first|rfl|(simp;done)|(simp [*];done)),H',⟨Nat.le_refl _⟩,⟨ZKN HO_33⟩,⟨ZKV HO_36⟩,⟨ZKV HO_36⟩,⟨ZQ HB⟩⟩
         case round =>
          clear H'
          obtain ⟨x266_5,rfl,HA,HK5,HO_33,HO_36,HO_264,HB⟩ := hrel
          cases gk with
          | zero => exact absurd HA.out (by simp [laws_FnLessons.l4])
          | succ k5 =>
           have H := HA.out
           clear HA
           simp only [laws_FnLessons.l4] at H
           by_cases c125 : x266_5 < (t153.length : Int);rotate_left
           ·rw [if_neg c125] at H
            have c125b0 : decide (x266_5 < (t153.length : Int)) = false := decide_eq_false c125
            clear c125
            as_aux_lemma =>
             obtain rfl := Option.some.inj H
             go_wp2
             repeat (go_quiet (fail);try go_wp2)
             go_ret
             exact ⟨by first|rfl|(simp [*,errW_none,errW_some] <;> rfl),ZQ HB⟩
           rw [if_pos c125] at H
           have c125b0 : decide (x266_5 < (t153.length : Int)) = true := decide_eq_true c125
           clear c125
           by_cases c126 : 0 ≤ x266_5;rotate_left
           ·rw [if_neg c126] at H
            exact absurd H (by simp)
           rw [if_pos c126] at H
           have c126b0 : decide (0 ≤ x266_5) = true := decide_eq_true c126
           clear c126
           by_cases c127 : x266_5 < (t153.length : Int);rotate_left
           ·rw [if_neg c127] at H
            exact absurd H (by simp)
           rw [if_pos c127] at H
           have c127b0 : decide (x266_5 < (t153.length : Int)) = true := decide_eq_true c127
           clear c127
           by_cases c128 : 0 ≤ (rd t153 x266_5);rotate_left
           ·rw [if_neg c128] at H
            exact absurd H (by simp)
           rw [if_pos c128] at H
           have c128b0 : decide (0 ≤ (rd t153 x266_5)) = true := decide_eq_true c128
           clear c128
           by_cases c129 : (rd t153 x266_5) < (t146.length : Int);rotate_left
           ·rw [if_neg c129] at H
            exact absurd H (by simp)
           rw [if_pos c129] at H
           have c129b0 : decide ((rd t153 x266_5) < (t146.length : Int)) = true := decide_eq_true c129
           clear c129
           by_cases c130 : (t153.length : Int) = 0
           ·rw [if_pos c130] at H
            exact absurd H (by simp)
           rw [if_neg c130] at H
           have c130b0 : ((t153.length : Int) == 0) = false := beq_eq_false_iff_ne.mpr c130
           have c130b1 : ((t153.length : Int) != 0) = true := bne_iff_ne.mpr c130
           have c130b2 : ¬ (t153 = []) := fun h_ => c130 (by rw [h_];rfl)
           obtain ⟨ji131,hji131⟩ : ∃ j_ : Int,(Int.tmod (wrap64 (x266_5 + 1)) (t153.length : Int)) = j_ := ⟨_,rfl⟩
           have hji131w : Int.tmod (IntKind.i64.wrap (x266_5 + 1)) (t153.length : Int) = ji131 := by rw [i64_w];exact hji131
           replace H : (if 0 ≤ (ji131) then (if (ji131) < (t153.length : Int) then ((laws_pIn.f k5 ((rd_T43 t146 (rd t153 x266_5)).f1) (rd t153 (ji131))).bind fun t166 => (if t166 = true then (if 0 < (t153.length : Int) then (if (rd t153 x266_5) < (rd t153 0) then (none) else (laws_FnLessons.l4 k5 t146 t153 t153 (t153.length : Int) (wrap64 (x266_5 + 1)))) else (none)) else (none))) else (none)) else (none)) = some r := by first|(rw [hji131] at H;exact H)|(simp only [hji131] at H ⊢;exact H)
           by_cases c132 : 0 ≤ (ji131);rotate_left
           ·rw [if_neg c132] at H
            exact absurd H (by simp)
           rw [if_pos c132] at H
           have c132b0 : decide (0 ≤ (ji131)) = true := decide_eq_true c132
           clear c132
           by_cases c133 : (ji131) < (t153.length : Int);rotate_left
           ·rw [if_neg c133] at H
            exact absurd H (by simp)
           rw [if_pos c133] at H
           have c133b0 : decide ((ji131) < (t153.length : Int)) = true := decide_eq_true c133
           clear c133
           replace H := Option.bind_eq_some_iff.mp H
           obtain ⟨t166,A1340,H⟩ := H
           try dsimp only at H
           have A134 := Aside0.mk A1340
           clear A1340
           by_cases c135 : t166 = true;rotate_left
           ·replace c135 := Bool.eq_false_iff.mpr c135
            subst c135
            rw [if_neg (show ¬ (false = true) by decide)] at H
            exact absurd H (by simp)
           subst c135
           rw [if_pos rfl] at H
           by_cases c136 : 0 < (t153.length : Int);rotate_left
           ·rw [if_neg c136] at H
            exact absurd H (by simp)
           rw [if_pos c136] at H
           have c136b0 : decide (0 < (t153.length : Int)) = true := decide_eq_true c136
           have c136b1 : decide (0 < t153.length) = true := decide_eq_true (by omega)
           clear c136
           by_cases c137 : (rd t153 x266_5) < (rd t153 0)
           ·rw [if_pos c137] at H
            exact absurd H (by simp)
           rw [if_neg c137] at H
           have c137b0 := decide_eq_false c137
           clear c137
           as_aux_lemma =>
            have H' := Aside0.mk H
            clear H
            have p163 : 0 ≤ (x266_5 : Int) := ZD
            have q163 : x266_5 < (t153.length : Int) := ZD
            obtain ⟨ad163,e163,hx163_0⟩ := Kd.at_int (Kd.V_reads' HO_264.out).2.2 x266_5 p163 q163
            cases e163
            replace p163 := eq_true p163
            replace q163 := eq_true q163
            have p164 : 0 ≤ ((rd t153 x266_5) : Int) := ZD
            have q164 : (rd t153 x266_5) < (t146.length : Int) := ZD
            obtain ⟨ad164,A164_1,c164_1,e164,hx164_0,hx164_1,hx164_2,hl164_1,hi164_1⟩ := at_T43 (Kd.N_reads' HO_33.out).2.2 (rd t153 x266_5) p164 q164
            cases e164
            obtain ⟨ce164,hce164,hMe164,hcc164⟩ := Kd.N_get HO_33.out z43 (rd t153 x266_5) p164 (by first|exact q164|exact ZD|(have e_ := (Kd.N_reads' HO_33.out).1;omega))
            obtain ⟨ua164_1,uc164_1,rfl,ul164_1,ge164_1⟩ := k43_openF hMe164
            have hv164_1 := hcc164 1 _ rfl
            rw [add_field _ _ 1 (by omega)] at hv164_1
            replace hv164_1 := Option.some.inj (hv164_1.symm.trans hx164_1)
            injection hv164_1 with hva_ hvn_ hvc_
            rw [hva_] at ge164_1
            rw [hvc_] at ul164_1
            have HL164_1 := Aside0.mk (show Kd.V (Kd.int .i64) 3 _ w.heap.size _ _ ((rd_T43 t146 (rd t153 x266_5)).f1) from Kd.V_mk ul164_1 ge164_1)
            clear hva_ hvn_ hvc_ ge164_1 ul164_1
            clear hcc164 hce164
            have HR164_1 := Aside0.mk hi164_1
            have HC164_1 := Aside0.mk hl164_1
            clear hi164_1 hl164_1
            replace p164 := eq_true p164
            replace q164 := eq_true q164
            have p165 : 0 ≤ ((ji131) : Int) := ZD
            have q165 : (ji131) < (t153.length : Int) := ZD
            obtain ⟨ad165,e165,hx165_0⟩ := Kd.at_int (Kd.V_reads' HO_36.out).2.2 (ji131) p165 q165
            obtain rfl : ad163 = ad165 := (by injection e165)
            replace p165 := eq_true p165
            replace q165 := eq_true q165
            go_wp2_with (first|(go_at_call 20;(with_reducible refine (laws_pIn.calls k5 _ _ ((rd_T43 t146 (rd t153 x266_5)).f1) (rd t153 (ji131)) true _ ?side1 ?side2 A134.out).mono ?_);(case side1 => repeat (first|exact (by repeat (first|(with_reducible exact HR164_1.out)|(with_reducible refine Kd.C_alloc ?_ _)|(with_reducible refine Kd.C_drewN ?_ _)|(with_reducible refine Kd.C_drew ?_)|exact HR164_1.out))|(with_reducible refine Kd.C_alloc ?_ _)|(with_reducible refine Kd.C_drewN ?_ _)|(with_reducible refine Kd.C_drew ?_)));(case side2 => exact HC164_1.out);rintro e w' ⟨rfl,⟨nd,rfl⟩⟩;(try first|exact ⟨rfl,_,World.drewN_drewN _ _ _⟩|exact ⟨rfl,_,Eq.trans (World.drewN_drewN _ _ _) (congrArg (World.drewN _) (Nat.add_assoc _ _ _))⟩);have p167 : 0 ≤ (0 : Int) := (by omega);have q167 : 0 < (t153.length : Int) := ZD;obtain ⟨ad167,e167,hx167_0⟩ := Kd.at_int (Kd.V_reads' HO_36.out).2.2 0 p167 q167;obtain rfl : ad163 = ad167 := (by injection e167);have qi167 : (0 < t153.length) = True := eq_true (by omega);(try rw [show ((0 : Int)).toNat = 0 from rfl] at hx167_0);(try rw [Addr.add_zero'] at hx167_0);replace p167 := eq_true p167;replace q167 := eq_true q167))
            repeat (go_quiet (first|(go_at_call 20;(with_reducible refine (laws_pIn.calls k5 _ _ ((rd_T43 t146 (rd t153 x266_5)).f1) (rd t153 (ji131)) true _ ?side1 ?side2 A134.out).mono ?_);(case side1 => repeat (first|exact (by repeat (first|(with_reducible exact HR164_1.out)|(with_reducible refine Kd.C_alloc ?_ _)|(with_reducible refine Kd.C_drewN ?_ _)|(with_reducible refine Kd.C_drew ?_)|exact HR164_1.out))|(with_reducible refine Kd.C_alloc ?_ _)|(with_reducible refine Kd.C_drewN ?_ _)|(with_reducible refine Kd.C_drew ?_)));(case side2 => exact HC164_1.out);rintro e w' ⟨rfl,⟨nd,rfl⟩⟩;(try first|exact ⟨rfl,_,World.drewN_drewN _ _ _⟩|exact ⟨rfl,_,Eq.trans (World.drewN_drewN _ _ _) (congrArg (World.drewN _) (Nat.add_assoc _ _ _))⟩);have p167 : 0 ≤ (0 : Int) := (by omega);have q167 : 0 < (t153.length : Int) := ZD;obtain ⟨ad167,e167,hx167_0⟩ := Kd.at_int (Kd.V_reads' HO_36.out).2.2 0 p167 q167;obtain rfl : ad163 = ad167 := (by injection e167);have qi167 : (0 < t153.length) = True := eq_true (by omega);(try rw [show ((0 : Int)).toNat = 0 from rfl] at hx167_0);(try rw [Addr.add_zero'] at hx167_0);replace p167 := eq_true p167;replace q167 := eq_true q167));try go_wp2_with (first|(go_at_call 20;(with_reducible refine (laws_pIn.calls k5 _ _ ((rd_T43 t146 (rd t153 x266_5)).f1) (rd t153 (ji131)) true _ ?side1 ?side2 A134.out).mono ?_);(case side1 => repeat (first|exact (by repeat (first|(with_reducible exact HR164_1.out)|(with_reducible refine Kd.C_alloc ?_ _)|(with_reducible refine Kd.C_drewN ?_ _)|(with_reducible refine Kd.C_drew ?_)|exact HR164_1.out))|(with_reducible refine Kd.C_alloc ?_ _)|(with_reducible refine Kd.C_drewN ?_ _)|(with_reducible refine Kd.C_drew ?_)));(case side2 => exact HC164_1.out);rintro e w' ⟨rfl,⟨nd,rfl⟩⟩;(try first|exact ⟨rfl,_,World.drewN_drewN _ _ _⟩|exact ⟨rfl,_,Eq.trans (World.drewN_drewN _ _ _) (congrArg (World.drewN _) (Nat.add_assoc _ _ _))⟩);have p167 : 0 ≤ (0 : Int) := (by omega);have q167 : 0 < (t153.length : Int) := ZD;obtain ⟨ad167,e167,hx167_0⟩ := Kd.at_int (Kd.V_reads' HO_36.out).2.2 0 p167 q167;obtain rfl : ad163 = ad167 := (by injection e167);have qi167 : (0 < t153.length) = True := eq_true (by omega);(try rw [show ((0 : Int)).toNat = 0 from rfl] at hx167_0);(try rw [Addr.add_zero'] at hx167_0);replace p167 := eq_true p167;replace q167 := eq_true q167)))
            go_roundg k5
            case measure => have := HJ11.out;have := HJ49.out;have := HJ67.out;have := HJ103.out;have := HK5.out;omega
            case rel => exact ⟨(wrap64 (x266_5 + 1)),(by first|rfl|(simp;done)|(simp [*];done)),H',⟨by have := HJ11.out;have := HJ49.out;have := HJ67.out;have := HJ103.out;have := HK5.out;omega⟩,⟨ZKN HO_33⟩,⟨ZKV HO_36⟩,⟨ZKV HO_264⟩,⟨ZQ HB⟩⟩
/-- The one pure statement of laws_FnLessons. -/
def laws_FnLessons.Pure : Prop := ∀ (l0 : List Int) (l1 : List Int),l0.length * 1 ≤ 140737488351232 → (∀ y,y ∈ l0 → (Lit.int .u8 y).wf = true) → l1.length * 1 ≤ 140737488351232 → (∀ y,y ∈ l1 → (Lit.int .u8 y).wf = true) → ∃ k,laws_FnLessons.f k l0 l1 = some true
theorem laws_FnLessons.walk (P : laws_FnLessons.Pure) (w : World) (A0 : Option Addr) (c0 : Nat) (l0 : List Int) (hr0 : Kd.C (Kd.int .u8) w A0 l0.length l0) (hc0 : l0.length ≤ c0) (hx0 : l0.length * 1 ≤ 140737488351232 ∧ ∀ y,y ∈ l0 → (Lit.int .u8 y).wf = true) (A1 : Option Addr) (c1 : Nat) (l1 : List Int) (hr1 : Kd.C (Kd.int .u8) w A1 l1.length l1) (hc1 : l1.length ≤ c1) (hx1 : l1.length * 1 ≤ 140737488351232 ∧ ∀ y,y ∈ l1 → (Lit.int .u8 y).wf = true) :
  Calls Try.prog 3 #[.slice A0 l0.length c0,.slice A1 l1.length c1] w fun e w' => e = .returned (.bool true) ∧ Below w.heap.size w w' := by
 obtain ⟨k,h⟩ := P l0 l1 hx0.1 hx0.2 hx1.1 hx1.2
 refine (laws_FnLessons.calls k A0 c0 l0 A1 c1 l1 true w hr0 hc0 hr1 hc1 h).mono ?_
 rintro e w' ⟨rfl,hd⟩
 exact ⟨rfl,hd⟩

end Go.Proofs.Ytgnijnlgbelifaa.Q
