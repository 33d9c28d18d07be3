-- Written for the seat Ytkobnljfoedmnaa by a program of this session (wip/tool/gx.py) out of the translation. Lean checks it.
import Derived.Test.YtkobnljfoedmnaaQ0
import Derived.Test.YtkobnljfoedmnaaGCall
import Derived.Test.YtkobnljfoedmnaaQBEq52
import Derived.Test.YtkobnljfoedmnaaQBSpecDrawAreKeys
import Derived.Test.YtkobnljfoedmnaaQBSpecL1CurKeyFrame
import Derived.Test.YtkobnljfoedmnaaQBSpecL1CurSpeedOf
import Derived.Test.YtkobnljfoedmnaaQImplPoseAt
import Derived.Test.YtkobnljfoedmnaaQSpecPoseAt
import Derived.Test.YtkobnljfoedmnaaWApart
import Derived.Test.YtkobnljfoedmnaaWFoot
import Derived.Test.YtkobnljfoedmnaaWKept
import Derived.Test.YtkobnljfoedmnaaWShare
import Derived.Test.YtkobnljfoedmnaaWN
import Derived.Test.YtkobnljfoedmnaaWRepsOne
import Derived.Test.YtkobnljfoedmnaaWGuard
namespace Go.Proofs.Ytkobnljfoedmnaa.Q
open Go.RowKit Go.Proofs.YtkobnljfoedmnaaW.PrintWords Go.Proofs.YtkobnljfoedmnaaW.PrintLast Go.Proofs.YtkobnljfoedmnaaW.PrintMore Go.Proofs.YtkobnljfoedmnaaW.GCall
attribute [local go_sem] max2_int min2_int max_two min_two max_three min_three max_four min_four   -- for this text's walks alone
set_option linter.unusedVariables false
set_option linter.unusedSimpArgs false

attribute [local go_sem high] eqA52
/-! ### laws_FnKeyframes: function 4 -/
mutual
def laws_FnKeyframes.j0 : Nat → Int → Bool → List (S52) → Bool → Int → Int → Int → List (S52) → Int → Int → Bool → Int → Bool → Bool → Int → Int → Int → Int → Int → Int → Int → Int → Int → Int → Option (Bool)
 | 0, _, _, _, _, _, _, _, _, _, _, _, _, _, _, _, _, _, _, _, _, _, _, _, _ => none
 | k + 1, x6, x8, x11, x15, x16, x17, x18, x20, x21, x22, x23, x24, x28, x164, x112000, x112001, x112002, x112003, x112004, x119000, x119001, x119002, x119003, x119004 => if x164 = true then (none) else (if x8 = true then ((impl_IsKey.f x112000 x112001 x112002 x112003 x112004).bind fun t142 => (if t142 = true then (laws_FnKeyframes.j1 k x11 x15 x16 x17 x18 x20 x21 x22 x23 x24 x28 (x119000 != x6)) else (none))) else (laws_FnKeyframes.j1 k x11 x15 x16 x17 x18 x20 x21 x22 x23 x24 x28 false))
def laws_FnKeyframes.j1 : Nat → List (S52) → Bool → Int → Int → Int → List (S52) → Int → Int → Bool → Int → Bool → Bool → Option (Bool)
 | 0, _, _, _, _, _, _, _, _, _, _, _, _ => none
 | k + 1, x11, x15, x16, x17, x18, x20, x21, x22, x23, x24, x28, x176 => if x176 = true then (none) else (if x15 = true then (if x16 < 0 then (none) else (if x16 > (wrap64 ((x11.length : Int) - 2)) then (none) else (if x18 < 0 then (none) else (laws_FnKeyframes.j2 k x11 x17 x20 x21 x22 x23 x24 x28 (decide (x18 ≥ 4)))))) else (laws_FnKeyframes.j5 k x20 x21 x22 x23 x24 x28))
def laws_FnKeyframes.j5 : Nat → List (S52) → Int → Int → Bool → Int → Bool → Option (Bool)
 | 0, _, _, _, _, _, _ => none
 | k + 1, x20, x21, x22, x23, x24, x28 => if x23 = true then ((impl_StretchKeys.f k x20 x22).bind fun bt147 => ((impl_KeepsSpeed.f k bt147.1 x21).bind fun bt151 => (if bt147.2 = true then (if bt151.2 = true then (if bt151.1 = true then (if x28 = true then (laws_FnKeyframes.j6 k x20 x21 x22 x24 (x24 != 1)) else (laws_FnKeyframes.j6 k x20 x21 x22 x24 false)) else (none)) else (none)) else (none)))) else (some true)
def laws_FnKeyframes.j6 : Nat → List (S52) → Int → Int → Int → Bool → Option (Bool)
 | 0, _, _, _, _, _ => none
 | k + 1, x20, x21, x22, x24, x256 => if x256 = true then (none) else (if x24 > 1 then ((impl_StretchKeys.f k x20 (wrap64 (x22 - 1))).bind fun bt153 => ((impl_KeepsSpeed.f k bt153.1 x21).bind fun bt157 => (if bt153.2 = true then (if bt157.2 = true then (if bt157.1 = true then (none) else (some true)) else (none)) else (some true)))) else (some true))
def laws_FnKeyframes.j2 : Nat → List (S52) → Int → List (S52) → Int → Int → Bool → Int → Bool → Bool → Option (Bool)
 | 0, _, _, _, _, _, _, _, _, _ => none
 | k + 1, x11, x17, x20, x21, x22, x23, x24, x28, x194 => if x194 = true then (none) else (if x17 ≥ 1 then (laws_FnKeyframes.j3 k x11 x17 x20 x21 x22 x23 x24 x28 (decide (x17 ≤ 360))) else (laws_FnKeyframes.j3 k x11 x17 x20 x21 x22 x23 x24 x28 false))
def laws_FnKeyframes.j3 : Nat → List (S52) → Int → List (S52) → Int → Int → Bool → Int → Bool → Bool → Option (Bool)
 | 0, _, _, _, _, _, _, _, _, _ => none
 | k + 1, x11, x17, x20, x21, x22, x23, x24, x28, x200 => if x200 = true then ((impl_KeepsSpeed.f k x11 x17).bind fun bt143 => (if bt143.2 = true then (laws_FnKeyframes.j4 k x11 x17 x20 x21 x22 x23 x24 x28 (!bt143.1)) else (none))) else (laws_FnKeyframes.j5 k x20 x21 x22 x23 x24 x28)
def laws_FnKeyframes.j4 : Nat → List (S52) → Int → List (S52) → Int → Int → Bool → Int → Bool → Bool → Option (Bool)
 | 0, _, _, _, _, _, _, _, _, _ => none
 | k + 1, x11, x17, x20, x21, x22, x23, x24, x28, x212 => if x212 = true then (none) else (if x17 > 1 then ((impl_KeepsSpeed.f k x11 (wrap64 (x17 - 1))).bind fun bt145 => (if bt145.2 = true then (if bt145.1 = true then (none) else (laws_FnKeyframes.j5 k x20 x21 x22 x23 x24 x28)) else (none))) else (laws_FnKeyframes.j5 k x20 x21 x22 x23 x24 x28))
end
def laws_FnKeyframes.f (k : Nat) (l0 : List Int) (l1 : List Int) : Option (Bool) := if (wrap64 ((l0.length : Int) + (l1.length : Int))) > 1048576 then (some true) else ((spec_DrawPoseAt.f k l0).bind fun bt101 => ((impl_PoseAt.f k bt101.1 bt101.2).bind fun bt105 => ((spec_PoseAt.f k bt101.1 bt101.2).bind fun bt112 => ((spec_DrawFastestPart.f k l1).bind fun t119 => ((impl_FastestPart.f k t119).bind fun bt122 => ((spec_FastestPart.f k t119).bind fun bt126 => ((spec_DrawLeastStretch.f k l1).bind fun bt130 => ((impl_LeastStretch.f k bt130.1 bt130.2).bind fun bt134 => ((spec_LeastStretch.f k bt130.1 bt130.2).bind fun bt136 => ((impl_KeepsSpeed.f k bt130.1 bt130.2).bind fun bt138 => ((spec_KeepsSpeed.f k bt130.1 bt130.2).bind fun bt140 => (if (bt105.2.2.2.2.2 != bt112.2.2.2.2.2) = true then (none) else (if (!(bt105.1 == bt112.1) || (!(bt105.2.1 == bt112.2.1) || (!(bt105.2.2.1 == bt112.2.2.1) || (!(bt105.2.2.2.1 == bt112.2.2.2.1) || (!(bt105.2.2.2.2.1 == bt112.2.2.2.2.1)))))) = true then (none) else (if (bt122.2.2.2 != bt126.2.2.2) = true then (none) else (if bt122.1 = bt126.1 then (if bt122.2.1 = bt126.2.1 then (if bt122.2.2.1 = bt126.2.2.1 then (if (bt134.2 != bt136.2) = true then (none) else (if bt134.1 = bt136.1 then (if (bt138.2 != bt140.2) = true then (none) else (if (bt138.1 != bt140.1) = true then (none) else (if bt134.2 = true then (laws_FnKeyframes.j0 k bt101.2 bt105.2.2.2.2.2 t119 bt122.2.2.2 bt126.1 bt126.2.1 bt126.2.2.1 bt130.1 bt130.2 bt134.1 bt134.2 bt136.1 bt140.1 (!bt138.2) bt105.1 bt105.2.1 bt105.2.2.1 bt105.2.2.2.1 bt105.2.2.2.2.1 bt112.1 bt112.2.1 bt112.2.2.1 bt112.2.2.2.1 bt112.2.2.2.2.1) else (laws_FnKeyframes.j0 k bt101.2 bt105.2.2.2.2.2 t119 bt122.2.2.2 bt126.1 bt126.2.1 bt126.2.2.1 bt130.1 bt130.2 bt134.1 bt134.2 bt136.1 bt140.1 false bt105.1 bt105.2.1 bt105.2.2.1 bt105.2.2.2.1 bt105.2.2.2.2.1 bt112.1 bt112.2.1 bt112.2.2.1 bt112.2.2.2.1 bt112.2.2.2.2.1)))) else (none))) else (none)) else (none)) else (none))))))))))))))))
theorem laws_FnKeyframes.mono_l : ∀ k, (∀ y0 y1 y2 y3 y4 y5 y6 y7 y8 y9 y10 y11 y12 y13 y14 y15 y16 y17 y18 y19 y20 y21 y22 y23, LeO (laws_FnKeyframes.j0 k y0 y1 y2 y3 y4 y5 y6 y7 y8 y9 y10 y11 y12 y13 y14 y15 y16 y17 y18 y19 y20 y21 y22 y23) (laws_FnKeyframes.j0 (k + 1) y0 y1 y2 y3 y4 y5 y6 y7 y8 y9 y10 y11 y12 y13 y14 y15 y16 y17 y18 y19 y20 y21 y22 y23)) ∧ (∀ y0 y1 y2 y3 y4 y5 y6 y7 y8 y9 y10 y11, LeO (laws_FnKeyframes.j1 k y0 y1 y2 y3 y4 y5 y6 y7 y8 y9 y10 y11) (laws_FnKeyframes.j1 (k + 1) y0 y1 y2 y3 y4 y5 y6 y7 y8 y9 y10 y11)) ∧ (∀ y0 y1 y2 y3 y4 y5, LeO (laws_FnKeyframes.j5 k y0 y1 y2 y3 y4 y5) (laws_FnKeyframes.j5 (k + 1) y0 y1 y2 y3 y4 y5)) ∧ (∀ y0 y1 y2 y3 y4, LeO (laws_FnKeyframes.j6 k y0 y1 y2 y3 y4) (laws_FnKeyframes.j6 (k + 1) y0 y1 y2 y3 y4)) ∧ (∀ y0 y1 y2 y3 y4 y5 y6 y7 y8, LeO (laws_FnKeyframes.j2 k y0 y1 y2 y3 y4 y5 y6 y7 y8) (laws_FnKeyframes.j2 (k + 1) y0 y1 y2 y3 y4 y5 y6 y7 y8)) ∧ (∀ y0 y1 y2 y3 y4 y5 y6 y7 y8, LeO (laws_FnKeyframes.j3 k y0 y1 y2 y3 y4 y5 y6 y7 y8) (laws_FnKeyframes.j3 (k + 1) y0 y1 y2 y3 y4 y5 y6 y7 y8)) ∧ (∀ y0 y1 y2 y3 y4 y5 y6 y7 y8, LeO (laws_FnKeyframes.j4 k y0 y1 y2 y3 y4 y5 y6 y7 y8) (laws_FnKeyframes.j4 (k + 1) y0 y1 y2 y3 y4 y5 y6 y7 y8))
 | 0 => ⟨fun _ _ _ _ _ _ _ _ _ _ _ _ _ _ _ _ _ _ _ _ _ _ _ _ r h => by simp [laws_FnKeyframes.j0] at h, fun _ _ _ _ _ _ _ _ _ _ _ _ r h => by simp [laws_FnKeyframes.j1] at h, fun _ _ _ _ _ _ r h => by simp [laws_FnKeyframes.j5] at h, fun _ _ _ _ _ r h => by simp [laws_FnKeyframes.j6] at h, fun _ _ _ _ _ _ _ _ _ r h => by simp [laws_FnKeyframes.j2] at h, fun _ _ _ _ _ _ _ _ _ r h => by simp [laws_FnKeyframes.j3] at h, fun _ _ _ _ _ _ _ _ _ r h => by simp [laws_FnKeyframes.j4] at h⟩
 | k + 1 => by
  obtain ⟨ih0, ih1, ih2, ih3, ih4, ih5, ih6⟩ := laws_FnKeyframes.mono_l k
  refine ⟨?_, ?_, ?_, ?_, ?_, ?_, ?_⟩
  ·intro y0 y1 y2 y3 y4 y5 y6 y7 y8 y9 y10 y11 y12 y13 y14 y15 y16 y17 y18 y19 y20 y21 y22 y23
   unfold laws_FnKeyframes.j0
   repeat' first
   | (with_reducible exact ih0 _ _ _ _ _ _ _ _ _ _ _ _ _ _ _ _ _ _ _ _ _ _ _ _)
   | (with_reducible exact ih1 _ _ _ _ _ _ _ _ _ _ _ _)
   | (with_reducible exact ih2 _ _ _ _ _ _)
   | (with_reducible exact ih3 _ _ _ _ _)
   | (with_reducible exact ih4 _ _ _ _ _ _ _ _ _)
   | (with_reducible exact ih5 _ _ _ _ _ _ _ _ _)
   | (with_reducible exact ih6 _ _ _ _ _ _ _ _ _)
   | (with_reducible exact impl_FastestPart.mono _ _)
   | (with_reducible exact impl_KeepsSpeed.mono _ _ _)
   | (with_reducible exact impl_LeastStretch.mono _ _ _)
   | (with_reducible exact impl_PoseAt.mono _ _ _)
   | (with_reducible exact impl_StretchKeys.mono _ _ _)
   | (with_reducible exact spec_DrawFastestPart.mono _ _)
   | (with_reducible exact spec_DrawLeastStretch.mono _ _)
   | (with_reducible exact spec_DrawPoseAt.mono _ _)
   | (with_reducible exact spec_FastestPart.mono _ _)
   | (with_reducible exact spec_KeepsSpeed.mono _ _ _)
   | (with_reducible exact spec_LeastStretch.mono _ _ _)
   | (with_reducible exact spec_PoseAt.mono _ _ _)
   | (with_reducible exact LeO.refl _)
   | (with_reducible exact LeO.none _)
   | (with_reducible refine LeO.ite ?_ ?_)
   | (with_reducible refine LeO.bind ?_ (fun _ => ?_))
  ·intro y0 y1 y2 y3 y4 y5 y6 y7 y8 y9 y10 y11
   unfold laws_FnKeyframes.j1
   repeat' first
   | (with_reducible exact ih0 _ _ _ _ _ _ _ _ _ _ _ _ _ _ _ _ _ _ _ _ _ _ _ _)
   | (with_reducible exact ih1 _ _ _ _ _ _ _ _ _ _ _ _)
   | (with_reducible exact ih2 _ _ _ _ _ _)
   | (with_reducible exact ih3 _ _ _ _ _)
   | (with_reducible exact ih4 _ _ _ _ _ _ _ _ _)
   | (with_reducible exact ih5 _ _ _ _ _ _ _ _ _)
   | (with_reducible exact ih6 _ _ _ _ _ _ _ _ _)
   | (with_reducible exact impl_FastestPart.mono _ _)
   | (with_reducible exact impl_KeepsSpeed.mono _ _ _)
   | (with_reducible exact impl_LeastStretch.mono _ _ _)
   | (with_reducible exact impl_PoseAt.mono _ _ _)
   | (with_reducible exact impl_StretchKeys.mono _ _ _)
   | (with_reducible exact spec_DrawFastestPart.mono _ _)
   | (with_reducible exact spec_DrawLeastStretch.mono _ _)
   | (with_reducible exact spec_DrawPoseAt.mono _ _)
   | (with_reducible exact spec_FastestPart.mono _ _)
   | (with_reducible exact spec_KeepsSpeed.mono _ _ _)
   | (with_reducible exact spec_LeastStretch.mono _ _ _)
   | (with_reducible exact spec_PoseAt.mono _ _ _)
   | (with_reducible exact LeO.refl _)
   | (with_reducible exact LeO.none _)
   | (with_reducible refine LeO.ite ?_ ?_)
   | (with_reducible refine LeO.bind ?_ (fun _ => ?_))
  ·intro y0 y1 y2 y3 y4 y5
   unfold laws_FnKeyframes.j5
   repeat' first
   | (with_reducible exact ih0 _ _ _ _ _ _ _ _ _ _ _ _ _ _ _ _ _ _ _ _ _ _ _ _)
   | (with_reducible exact ih1 _ _ _ _ _ _ _ _ _ _ _ _)
   | (with_reducible exact ih2 _ _ _ _ _ _)
   | (with_reducible exact ih3 _ _ _ _ _)
   | (with_reducible exact ih4 _ _ _ _ _ _ _ _ _)
   | (with_reducible exact ih5 _ _ _ _ _ _ _ _ _)
   | (with_reducible exact ih6 _ _ _ _ _ _ _ _ _)
   | (with_reducible exact impl_FastestPart.mono _ _)
   | (with_reducible exact impl_KeepsSpeed.mono _ _ _)
   | (with_reducible exact impl_LeastStretch.mono _ _ _)
   | (with_reducible exact impl_PoseAt.mono _ _ _)
   | (with_reducible exact impl_StretchKeys.mono _ _ _)
   | (with_reducible exact spec_DrawFastestPart.mono _ _)
   | (with_reducible exact spec_DrawLeastStretch.mono _ _)
   | (with_reducible exact spec_DrawPoseAt.mono _ _)
   | (with_reducible exact spec_FastestPart.mono _ _)
   | (with_reducible exact spec_KeepsSpeed.mono _ _ _)
   | (with_reducible exact spec_LeastStretch.mono _ _ _)
   | (with_reducible exact spec_PoseAt.mono _ _ _)
   | (with_reducible exact LeO.refl _)
   | (with_reducible exact LeO.none _)
   | (with_reducible refine LeO.ite ?_ ?_)
   | (with_reducible refine LeO.bind ?_ (fun _ => ?_))
  ·intro y0 y1 y2 y3 y4
   unfold laws_FnKeyframes.j6
   repeat' first
   | (with_reducible exact ih0 _ _ _ _ _ _ _ _ _ _ _ _ _ _ _ _ _ _ _ _ _ _ _ _)
   | (with_reducible exact ih1 _ _ _ _ _ _ _ _ _ _ _ _)
   | (with_reducible exact ih2 _ _ _ _ _ _)
   | (with_reducible exact ih3 _ _ _ _ _)
   | (with_reducible exact ih4 _ _ _ _ _ _ _ _ _)
   | (with_reducible exact ih5 _ _ _ _ _ _ _ _ _)
   | (with_reducible exact ih6 _ _ _ _ _ _ _ _ _)
   | (with_reducible exact impl_FastestPart.mono _ _)
   | (with_reducible exact impl_KeepsSpeed.mono _ _ _)
   | (with_reducible exact impl_LeastStretch.mono _ _ _)
   | (with_reducible exact impl_PoseAt.mono _ _ _)
   | (with_reducible exact impl_StretchKeys.mono _ _ _)
   | (with_reducible exact spec_DrawFastestPart.mono _ _)
   | (with_reducible exact spec_DrawLeastStretch.mono _ _)
   | (with_reducible exact spec_DrawPoseAt.mono _ _)
   | (with_reducible exact spec_FastestPart.mono _ _)
   | (with_reducible exact spec_KeepsSpeed.mono _ _ _)
   | (with_reducible exact spec_LeastStretch.mono _ _ _)
   | (with_reducible exact spec_PoseAt.mono _ _ _)
   | (with_reducible exact LeO.refl _)
   | (with_reducible exact LeO.none _)
   | (with_reducible refine LeO.ite ?_ ?_)
   | (with_reducible refine LeO.bind ?_ (fun _ => ?_))
  ·intro y0 y1 y2 y3 y4 y5 y6 y7 y8
   unfold laws_FnKeyframes.j2
   repeat' first
   | (with_reducible exact ih0 _ _ _ _ _ _ _ _ _ _ _ _ _ _ _ _ _ _ _ _ _ _ _ _)
   | (with_reducible exact ih1 _ _ _ _ _ _ _ _ _ _ _ _)
   | (with_reducible exact ih2 _ _ _ _ _ _)
   | (with_reducible exact ih3 _ _ _ _ _)
   | (with_reducible exact ih4 _ _ _ _ _ _ _ _ _)
   | (with_reducible exact ih5 _ _ _ _ _ _ _ _ _)
   | (with_reducible exact ih6 _ _ _ _ _ _ _ _ _)
   | (with_reducible exact impl_FastestPart.mono _ _)
   | (with_reducible exact impl_KeepsSpeed.mono _ _ _)
   | (with_reducible exact impl_LeastStretch.mono _ _ _)
   | (with_reducible exact impl_PoseAt.mono _ _ _)
   | (with_reducible exact impl_StretchKeys.mono _ _ _)
   | (with_reducible exact spec_DrawFastestPart.mono _ _)
   | (with_reducible exact spec_DrawLeastStretch.mono _ _)
   | (with_reducible exact spec_DrawPoseAt.mono _ _)
   | (with_reducible exact spec_FastestPart.mono _ _)
   | (with_reducible exact spec_KeepsSpeed.mono _ _ _)
   | (with_reducible exact spec_LeastStretch.mono _ _ _)
   | (with_reducible exact spec_PoseAt.mono _ _ _)
   | (with_reducible exact LeO.refl _)
   | (with_reducible exact LeO.none _)
   | (with_reducible refine LeO.ite ?_ ?_)
   | (with_reducible refine LeO.bind ?_ (fun _ => ?_))
  ·intro y0 y1 y2 y3 y4 y5 y6 y7 y8
   unfold laws_FnKeyframes.j3
   repeat' first
   | (with_reducible exact ih0 _ _ _ _ _ _ _ _ _ _ _ _ _ _ _ _ _ _ _ _ _ _ _ _)
   | (with_reducible exact ih1 _ _ _ _ _ _ _ _ _ _ _ _)
   | (with_reducible exact ih2 _ _ _ _ _ _)
   | (with_reducible exact ih3 _ _ _ _ _)
   | (with_reducible exact ih4 _ _ _ _ _ _ _ _ _)
   | (with_reducible exact ih5 _ _ _ _ _ _ _ _ _)
   | (with_reducible exact ih6 _ _ _ _ _ _ _ _ _)
   | (with_reducible exact impl_FastestPart.mono _ _)
   | (with_reducible exact impl_KeepsSpeed.mono _ _ _)
   | (with_reducible exact impl_LeastStretch.mono _ _ _)
   | (with_reducible exact impl_PoseAt.mono _ _ _)
   | (with_reducible exact impl_StretchKeys.mono _ _ _)
   | (with_reducible exact spec_DrawFastestPart.mono _ _)
   | (with_reducible exact spec_DrawLeastStretch.mono _ _)
   | (with_reducible exact spec_DrawPoseAt.mono _ _)
   | (with_reducible exact spec_FastestPart.mono _ _)
   | (with_reducible exact spec_KeepsSpeed.mono _ _ _)
   | (with_reducible exact spec_LeastStretch.mono _ _ _)
   | (with_reducible exact spec_PoseAt.mono _ _ _)
   | (with_reducible exact LeO.refl _)
   | (with_reducible exact LeO.none _)
   | (with_reducible refine LeO.ite ?_ ?_)
   | (with_reducible refine LeO.bind ?_ (fun _ => ?_))
  ·intro y0 y1 y2 y3 y4 y5 y6 y7 y8
   unfold laws_FnKeyframes.j4
   repeat' first
   | (with_reducible exact ih0 _ _ _ _ _ _ _ _ _ _ _ _ _ _ _ _ _ _ _ _ _ _ _ _)
   | (with_reducible exact ih1 _ _ _ _ _ _ _ _ _ _ _ _)
   | (with_reducible exact ih2 _ _ _ _ _ _)
   | (with_reducible exact ih3 _ _ _ _ _)
   | (with_reducible exact ih4 _ _ _ _ _ _ _ _ _)
   | (with_reducible exact ih5 _ _ _ _ _ _ _ _ _)
   | (with_reducible exact ih6 _ _ _ _ _ _ _ _ _)
   | (with_reducible exact impl_FastestPart.mono _ _)
   | (with_reducible exact impl_KeepsSpeed.mono _ _ _)
   | (with_reducible exact impl_LeastStretch.mono _ _ _)
   | (with_reducible exact impl_PoseAt.mono _ _ _)
   | (with_reducible exact impl_StretchKeys.mono _ _ _)
   | (with_reducible exact spec_DrawFastestPart.mono _ _)
   | (with_reducible exact spec_DrawLeastStretch.mono _ _)
   | (with_reducible exact spec_DrawPoseAt.mono _ _)
   | (with_reducible exact spec_FastestPart.mono _ _)
   | (with_reducible exact spec_KeepsSpeed.mono _ _ _)
   | (with_reducible exact spec_LeastStretch.mono _ _ _)
   | (with_reducible exact spec_PoseAt.mono _ _ _)
   | (with_reducible exact LeO.refl _)
   | (with_reducible exact LeO.none _)
   | (with_reducible refine LeO.ite ?_ ?_)
   | (with_reducible refine LeO.bind ?_ (fun _ => ?_))
theorem laws_FnKeyframes.mono : ∀ a0 a1 k, LeO (laws_FnKeyframes.f k a0 a1) (laws_FnKeyframes.f (k + 1) a0 a1) := by
 intro a0 a1 k
 obtain ⟨ih0, ih1, ih2, ih3, ih4, ih5, ih6⟩ := laws_FnKeyframes.mono_l k
 unfold laws_FnKeyframes.f
 repeat' first
   | (with_reducible exact ih0 _ _ _ _ _ _ _ _ _ _ _ _ _ _ _ _ _ _ _ _ _ _ _ _)
   | (with_reducible exact ih1 _ _ _ _ _ _ _ _ _ _ _ _)
   | (with_reducible exact ih2 _ _ _ _ _ _)
   | (with_reducible exact ih3 _ _ _ _ _)
   | (with_reducible exact ih4 _ _ _ _ _ _ _ _ _)
   | (with_reducible exact ih5 _ _ _ _ _ _ _ _ _)
   | (with_reducible exact ih6 _ _ _ _ _ _ _ _ _)
   | (with_reducible exact impl_FastestPart.mono _ _)
   | (with_reducible exact impl_KeepsSpeed.mono _ _ _)
   | (with_reducible exact impl_LeastStretch.mono _ _ _)
   | (with_reducible exact impl_PoseAt.mono _ _ _)
   | (with_reducible exact impl_StretchKeys.mono _ _ _)
   | (with_reducible exact spec_DrawFastestPart.mono _ _)
   | (with_reducible exact spec_DrawLeastStretch.mono _ _)
   | (with_reducible exact spec_DrawPoseAt.mono _ _)
   | (with_reducible exact spec_FastestPart.mono _ _)
   | (with_reducible exact spec_KeepsSpeed.mono _ _ _)
   | (with_reducible exact spec_LeastStretch.mono _ _ _)
   | (with_reducible exact spec_PoseAt.mono _ _ _)
   | (with_reducible exact LeO.refl _)
   | (with_reducible exact LeO.none _)
   | (with_reducible refine LeO.ite ?_ ?_)
   | (with_reducible refine LeO.bind ?_ (fun _ => ?_))
set_option maxHeartbeats 3000000 in
set_option maxRecDepth 100000 in
theorem laws_FnKeyframes.calls (k : Nat) (A0 : Option Addr) (c0 : Nat) (l0 : List Int) (A1 : Option Addr) (c1 : Nat) (l1 : List Int) (r : Bool) (w : World) (hr0 : Kd.C (Kd.int .u8) w A0 l0.length l0) (hc0 : l0.length ≤ c0) (hr1 : Kd.C (Kd.int .u8) w A1 l1.length l1) (hc1 : l1.length ≤ c1) (h : laws_FnKeyframes.f k l0 l1 = some r) :
  Calls Try.prog 4 #[.slice A0 l0.length c0, .slice A1 l1.length c1] w fun e w' => e = .returned (.bool r) ∧ Below w.heap.size w w' := by
 have hu52 := Try.underlying52
 have HR0 := Aside0.mk hr0
 have HC0 := Aside0.mk hc0
 clear hr0 hc0
 have HR1 := Aside0.mk hr1
 have HC1 := Aside0.mk hc1
 clear hr1 hc1
 have HB := Aside0.mk (Below.refl w.heap.size w)
 have H : (if (wrap64 ((l0.length : Int) + (l1.length : Int))) > 1048576 then (some true) else ((spec_DrawPoseAt.f k l0).bind fun bt101 => ((impl_PoseAt.f k bt101.1 bt101.2).bind fun bt105 => ((spec_PoseAt.f k bt101.1 bt101.2).bind fun bt112 => ((spec_DrawFastestPart.f k l1).bind fun t119 => ((impl_FastestPart.f k t119).bind fun bt122 => ((spec_FastestPart.f k t119).bind fun bt126 => ((spec_DrawLeastStretch.f k l1).bind fun bt130 => ((impl_LeastStretch.f k bt130.1 bt130.2).bind fun bt134 => ((spec_LeastStretch.f k bt130.1 bt130.2).bind fun bt136 => ((impl_KeepsSpeed.f k bt130.1 bt130.2).bind fun bt138 => ((spec_KeepsSpeed.f k bt130.1 bt130.2).bind fun bt140 => (if (bt105.2.2.2.2.2 != bt112.2.2.2.2.2) = true then (none) else (if (!(bt105.1 == bt112.1) || (!(bt105.2.1 == bt112.2.1) || (!(bt105.2.2.1 == bt112.2.2.1) || (!(bt105.2.2.2.1 == bt112.2.2.2.1) || (!(bt105.2.2.2.2.1 == bt112.2.2.2.2.1)))))) = true then (none) else (if (bt122.2.2.2 != bt126.2.2.2) = true then (none) else (if bt122.1 = bt126.1 then (if bt122.2.1 = bt126.2.1 then (if bt122.2.2.1 = bt126.2.2.1 then (if (bt134.2 != bt136.2) = true then (none) else (if bt134.1 = bt136.1 then (if (bt138.2 != bt140.2) = true then (none) else (if (bt138.1 != bt140.1) = true then (none) else (if bt134.2 = true then (laws_FnKeyframes.j0 k bt101.2 bt105.2.2.2.2.2 t119 bt122.2.2.2 bt126.1 bt126.2.1 bt126.2.2.1 bt130.1 bt130.2 bt134.1 bt134.2 bt136.1 bt140.1 (!bt138.2) bt105.1 bt105.2.1 bt105.2.2.1 bt105.2.2.2.1 bt105.2.2.2.2.1 bt112.1 bt112.2.1 bt112.2.2.1 bt112.2.2.2.1 bt112.2.2.2.2.1) else (laws_FnKeyframes.j0 k bt101.2 bt105.2.2.2.2.2 t119 bt122.2.2.2 bt126.1 bt126.2.1 bt126.2.2.1 bt130.1 bt130.2 bt134.1 bt134.2 bt136.1 bt140.1 false bt105.1 bt105.2.1 bt105.2.2.1 bt105.2.2.2.1 bt105.2.2.2.2.1 bt112.1 bt112.2.1 bt112.2.2.1 bt112.2.2.2.1 bt112.2.2.2.2.1)))) else (none))) else (none)) else (none)) else (none))))))))))))))))) = some r := h
 clear h
 by_cases c3 : (wrap64 ((l0.length : Int) + (l1.length : Int))) > 1048576
 ·rw [if_pos c3] at H
  have c3b0 : decide (1048576 < (wrap64 ((l0.length : Int) + (l1.length : Int)))) = true := decide_eq_true c3
  clear c3
  as_aux_lemma =>
   obtain rfl := Option.some.inj H
   go_enter Try.func4, Try.ntmps4
   go_wp2
   go_ret
   exact ⟨by first | rfl | (simp [*, errW_none, errW_some] <;> rfl), by repeat (first | exact HB.out | apply zbA | apply zbB | apply zbC)⟩
 ·rw [if_neg c3] at H
  have c3b0 : decide (1048576 < (wrap64 ((l0.length : Int) + (l1.length : Int)))) = false := decide_eq_false c3
  clear c3
  replace H := Option.bind_eq_some_iff.mp H
  obtain ⟨⟨t101, t102⟩, A40, H⟩ := H
  try dsimp only at H
  have A4 := Aside0.mk A40
  clear A40
  replace H := Option.bind_eq_some_iff.mp H
  obtain ⟨⟨t105, t106, t107, t108, t109, t110⟩, A50, H⟩ := H
  try dsimp only at H
  have A5 := Aside0.mk A50
  clear A50
  replace H := Option.bind_eq_some_iff.mp H
  obtain ⟨⟨t112, t113, t114, t115, t116, t117⟩, A60, H⟩ := H
  try dsimp only at H
  have A6 := Aside0.mk A60
  clear A60
  replace H := Option.bind_eq_some_iff.mp H
  obtain ⟨t119, A70, H⟩ := H
  try dsimp only at H
  have A7 := Aside0.mk A70
  clear A70
  replace H := Option.bind_eq_some_iff.mp H
  obtain ⟨⟨t122, t123, t124, t125⟩, A80, H⟩ := H
  try dsimp only at H
  have A8 := Aside0.mk A80
  clear A80
  replace H := Option.bind_eq_some_iff.mp H
  obtain ⟨⟨t126, t127, t128, t129⟩, A90, H⟩ := H
  try dsimp only at H
  have A9 := Aside0.mk A90
  clear A90
  replace H := Option.bind_eq_some_iff.mp H
  obtain ⟨⟨t130, t131⟩, A100, H⟩ := H
  try dsimp only at H
  have A10 := Aside0.mk A100
  clear A100
  replace H := Option.bind_eq_some_iff.mp H
  obtain ⟨⟨t134, t135⟩, A110, H⟩ := H
  try dsimp only at H
  have A11 := Aside0.mk A110
  clear A110
  replace H := Option.bind_eq_some_iff.mp H
  obtain ⟨⟨t136, t137⟩, A120, H⟩ := H
  try dsimp only at H
  have A12 := Aside0.mk A120
  clear A120
  replace H := Option.bind_eq_some_iff.mp H
  obtain ⟨⟨t138, t139⟩, A130, H⟩ := H
  try dsimp only at H
  have A13 := Aside0.mk A130
  clear A130
  replace H := Option.bind_eq_some_iff.mp H
  obtain ⟨⟨t140, t141⟩, A140, H⟩ := H
  try dsimp only at H
  have A14 := Aside0.mk A140
  clear A140
  have HC15 := Aside0.mk H
  clear H
  go_enter Try.func4, Try.ntmps4
  go_upto_region 14 with (first | ((with_reducible refine gate_callee (f := 18) rfl ?_); refine goesM_ (some 50) Try.func18 #[.slice A0 l0.length c0] ?_; (with_reducible refine (spec_DrawPoseAt.calls k _ _ l0 t101 t102 _ ?side1 ?side2 A4.out).mono ?_); (case side1 => repeat (first | exact HR0.out | (with_reducible refine Kd.C_alloc ?_ _) | (with_reducible refine Kd.C_drewN ?_ _) | (with_reducible refine Kd.C_drew ?_))); (case side2 => exact HC0.out); rintro e w16 ⟨v103, rfl, ho0, hb⟩; refine ⟨_, rfl, ?_⟩; have n0_ := Aside0.mk (Kd.R_lower ho0 (below_size (by repeat (first | exact HB.out | apply zbA | apply zbB | apply zbC)))); have n1_ := Aside0.mk (below_step (by repeat (first | exact HB.out | apply zbA | apply zbB | apply zbC)) hb); clear HB; have HO104 := n0_; have HB := n1_; clear n0_ n1_; (try clear hb); (try clear ho0); obtain ⟨Ao17, co17, eo17⟩ := Kd.R_slice HO104.out; subst eo17) | ((with_reducible refine gate_callee (f := 19) rfl ?_); refine goesM_ (some 56) Try.func19 #[.slice Ao17 t101.length co17, .int .i64 t102] ?_; (with_reducible refine (impl_PoseAt.calls k _ _ t101 t102 t105 t106 t107 t108 t109 t110 _ ?side1 ?side2 A5.out).mono ?_); (case side1 => repeat (first | exact (Kd.R_reads' HO104.out).2.2 | (with_reducible refine Kd.C_alloc ?_ _) | (with_reducible refine Kd.C_drewN ?_ _) | (with_reducible refine Kd.C_drew ?_))); (case side2 => exact (Kd.R_reads' HO104.out).2.1); rintro e w18 ⟨rfl, hb⟩; refine ⟨_, rfl, ?_⟩; have n0_ := Aside0.mk (Kd.R_below (by (with_reducible repeat (first | apply zkA | apply zkB | apply zkC)); exact HO104.out) hb); have n1_ := Aside0.mk (below_step (by repeat (first | exact HB.out | apply zbA | apply zbB | apply zbC)) hb); clear HO104; clear HB; have HO104 := n0_; have HB := n1_; clear n0_ n1_; (try clear hb)) | ((with_reducible refine gate_dst (N := 7) rfl ?_); (try (refine gate_guard (by rfl) ?_; dsimp only)); refine box_event ?hg (N := 7) ?hd (cs := #[.int .i64 0, .int .i64 0, .int .i64 0, .int .i64 0, .int .i64 0]) (t := 52) ?hr ?_; (case hd => rfl); (case hg => rfl); (case hr => first | (go_simp; done) | (go_simp; rfl)); intro gb111 hg w19 hbox hb; have n0_ := Aside0.mk (Kd.R_below (Kd.R_elderB (by (with_reducible repeat (first | apply zkA | apply zkB | apply zkC)); exact HO104.out) gb111 (Nat.le_of_eq hg.symm)) hb); have n1_ := Aside0.mk (below_step (by repeat (first | exact HB.out | apply zbA | apply zbB | apply zbC)) hb); have n2_ := Aside0.mk (hbox); have n3_ := Aside0.mk ((by rw [hg]; exact (below_size (by repeat (first | exact HB.out | apply zbA | apply zbB | apply zbC))) : w.heap.size ≤ gb111)); have n4_ := Aside0.mk ((by rw [hg]; exact (below_size (by repeat (first | exact HB.out | apply zbA | apply zbB | apply zbC))) : w.heap.size ≤ gb111)); clear HO104; clear HB; have HO104 := n0_; have HB := n1_; have BK111 := n2_; have GW111 := n3_; have GE111 := n4_; clear n0_ n1_ n2_ n3_ n4_; clear hb hbox hg; have hcz20_0 : w19.cell? ⟨gb111, 0, none⟩ = some (.int .i64 0) := (blk_cell BK111.out 0).trans rfl; have hcz20_1 : w19.cell? ⟨gb111, 1, none⟩ = some (.int .i64 0) := (blk_cell BK111.out 1).trans rfl; have hcz20_2 : w19.cell? ⟨gb111, 2, none⟩ = some (.int .i64 0) := (blk_cell BK111.out 2).trans rfl; have hcz20_3 : w19.cell? ⟨gb111, 3, none⟩ = some (.int .i64 0) := (blk_cell BK111.out 3).trans rfl; have hcz20_4 : w19.cell? ⟨gb111, 4, none⟩ = some (.int .i64 0) := (blk_cell BK111.out 4).trans rfl; have hfz20_0 := blk_frozen BK111.out 0; have hfz20_1 := blk_frozen BK111.out 1; have hfz20_2 := blk_frozen BK111.out 2; have hfz20_3 := blk_frozen BK111.out 3; have hfz20_4 := blk_frozen BK111.out 4) | ((with_reducible refine gate_callee (f := 20) rfl ?_); refine goesM_ (some 62) Try.func20 #[.slice Ao17 t101.length co17, .int .i64 t102] ?_; (with_reducible refine (spec_PoseAt.calls k _ _ t101 t102 t112 t113 t114 t115 t116 t117 _ ?side1 ?side2 A6.out).mono ?_); (case side1 => refine (Kd.R_reads' (e := 52) (base := w.heap.size) (ok := fun k_ => (True ∧ k_ ≠ gb111)) (n := t101.length) (c := co17) ?_).2.2; exact (by (with_reducible repeat (first | apply zkA | apply zkB | apply zkC)); exact (Kd.R_mono (Kd.R_far (p := ⟨gb111, 4, none⟩) (Kd.R_far (p := ⟨gb111, 3, none⟩) (Kd.R_far (p := ⟨gb111, 2, none⟩) (Kd.R_far (p := ⟨gb111, 1, none⟩) (Kd.R_far (p := ⟨gb111, 0, none⟩) (Kd.R_mono HO104.out (fun k_ hk => (⟨hk, hk.2⟩ : _ ∧ k_ ≠ gb111))) (fun _ hk => hk.2) (.int .i64 t105)) (fun _ hk => hk.2) (.int .i64 t106)) (fun _ hk => hk.2) (.int .i64 t107)) (fun _ hk => hk.2) (.int .i64 t108)) (fun _ hk => hk.2) (.int .i64 t109)) (fun _ h_ => h_.1)))); (case side2 => exact (Kd.R_reads' HO104.out).2.1); rintro e w21 ⟨rfl, hb⟩; refine ⟨_, rfl, ?_⟩; have n0_ := Aside0.mk (Kd.R_below (by (with_reducible repeat (first | apply zkA | apply zkB | apply zkC)); exact (Kd.R_mono (Kd.R_far (p := ⟨gb111, 4, none⟩) (Kd.R_far (p := ⟨gb111, 3, none⟩) (Kd.R_far (p := ⟨gb111, 2, none⟩) (Kd.R_far (p := ⟨gb111, 1, none⟩) (Kd.R_far (p := ⟨gb111, 0, none⟩) (Kd.R_mono HO104.out (fun k_ hk => (⟨hk, hk.2⟩ : _ ∧ k_ ≠ gb111))) (fun _ hk => hk.2) (.int .i64 t105)) (fun _ hk => hk.2) (.int .i64 t106)) (fun _ hk => hk.2) (.int .i64 t107)) (fun _ hk => hk.2) (.int .i64 t108)) (fun _ hk => hk.2) (.int .i64 t109)) (fun _ h_ => h_.1))) hb); have n1_ := Aside0.mk (blk_below (g := gb111) (o := .cells #[.int .i64 t105, .int .i64 t106, .int .i64 t107, .int .i64 t108, .int .i64 t109] 52 (0, 0)) (by (with_reducible repeat (first | refine blk_drewN ?_ _ | refine blk_drew ?_ | refine blk_alloc ?_ _)); refine blk_put (cs := #[.int .i64 t105, .int .i64 t106, .int .i64 t107, .int .i64 t108, .int .i64 0]) ?_ 4 _ rfl; (with_reducible repeat (first | refine blk_drewN ?_ _ | refine blk_drew ?_ | refine blk_alloc ?_ _)); refine blk_put (cs := #[.int .i64 t105, .int .i64 t106, .int .i64 t107, .int .i64 0, .int .i64 0]) ?_ 3 _ rfl; (with_reducible repeat (first | refine blk_drewN ?_ _ | refine blk_drew ?_ | refine blk_alloc ?_ _)); refine blk_put (cs := #[.int .i64 t105, .int .i64 t106, .int .i64 0, .int .i64 0, .int .i64 0]) ?_ 2 _ rfl; (with_reducible repeat (first | refine blk_drewN ?_ _ | refine blk_drew ?_ | refine blk_alloc ?_ _)); refine blk_put (cs := #[.int .i64 t105, .int .i64 0, .int .i64 0, .int .i64 0, .int .i64 0]) ?_ 1 _ rfl; (with_reducible repeat (first | refine blk_drewN ?_ _ | refine blk_drew ?_ | refine blk_alloc ?_ _)); refine blk_put (cs := #[.int .i64 0, .int .i64 0, .int .i64 0, .int .i64 0, .int .i64 0]) ?_ 0 _ rfl; (with_reducible repeat (first | refine blk_drewN ?_ _ | refine blk_drew ?_ | refine blk_alloc ?_ _)); exact BK111.out) hb); have n2_ := Aside0.mk (below_step (by repeat (first | (with_reducible first | exact HB.out | apply zbA | apply zbB | apply zbC | refine below_set ?_ GE111.out) | exact HB.out)) hb); clear HO104; clear BK111; clear HB; have HO104 := n0_; have BK111 := n1_; have HB := n2_; clear n0_ n1_ n2_; (try clear hb)) | ((with_reducible refine gate_dst (N := 9) rfl ?_); (try (refine gate_guard (by rfl) ?_; dsimp only)); refine box_event ?hg (N := 9) ?hd (cs := #[.int .i64 0, .int .i64 0, .int .i64 0, .int .i64 0, .int .i64 0]) (t := 52) ?hr ?_; (case hd => rfl); (case hg => rfl); (case hr => first | (go_simp; done) | (go_simp; rfl)); intro gb118 hg w22 hbox hb; have n0_ := Aside0.mk (Kd.R_below (Kd.R_elderB (by (with_reducible repeat (first | apply zkA | apply zkB | apply zkC)); exact HO104.out) gb118 (Nat.le_of_eq hg.symm)) hb); have n1_ := Aside0.mk (blk_below (g := gb111) (o := .cells #[.int .i64 t105, .int .i64 t106, .int .i64 t107, .int .i64 t108, .int .i64 t109] 52 (0, 0)) (by (with_reducible repeat (first | refine blk_drewN ?_ _ | refine blk_drew ?_ | refine blk_alloc ?_ _)); exact BK111.out) hb); have n2_ := Aside0.mk (below_step (by repeat (first | (with_reducible first | exact HB.out | apply zbA | apply zbB | apply zbC | refine below_set ?_ GE111.out) | exact HB.out)) hb); have n3_ := Aside0.mk (hbox); have n4_ := Aside0.mk ((by rw [hg]; exact (below_size (by repeat (first | (with_reducible first | exact HB.out | apply zbA | apply zbB | apply zbC | refine below_set ?_ GE111.out) | exact HB.out))) : w.heap.size ≤ gb118)); have n5_ := Aside0.mk ((by rw [hg]; exact (below_size (by repeat (first | (with_reducible first | exact HB.out | apply zbA | apply zbB | apply zbC | refine below_set ?_ GE111.out) | exact HB.out))) : w.heap.size ≤ gb118)); have n6_ := Aside0.mk ((by rw [hg]; exact Nat.ne_of_lt (blk_lt (g := gb111) (o := .cells #[.int .i64 t105, .int .i64 t106, .int .i64 t107, .int .i64 t108, .int .i64 t109] 52 (0, 0)) (by (with_reducible repeat (first | refine blk_drewN ?_ _ | refine blk_drew ?_ | refine blk_alloc ?_ _)); exact BK111.out)) : gb111 ≠ gb118)); have n7_ := Aside0.mk ((by rw [hg]; exact Nat.ne_of_gt (blk_lt (g := gb111) (o := .cells #[.int .i64 t105, .int .i64 t106, .int .i64 t107, .int .i64 t108, .int .i64 t109] 52 (0, 0)) (by (with_reducible repeat (first | refine blk_drewN ?_ _ | refine blk_drew ?_ | refine blk_alloc ?_ _)); exact BK111.out)) : gb118 ≠ gb111)); clear HO104; clear BK111; clear HB; have HO104 := n0_; have BK111 := n1_; have HB := n2_; have BK118 := n3_; have GW118 := n4_; have GE118 := n5_; have NB111_118 := n6_; have NB118_111 := n7_; clear n0_ n1_ n2_ n3_ n4_ n5_ n6_ n7_; clear hb hbox hg; have hnb23 := NB118_111.out; have hnc23 := NB111_118.out; have hcz24_0 : w22.cell? ⟨gb118, 0, none⟩ = some (.int .i64 0) := (blk_cell BK118.out 0).trans rfl; have hcz24_1 : w22.cell? ⟨gb118, 1, none⟩ = some (.int .i64 0) := (blk_cell BK118.out 1).trans rfl; have hcz24_2 : w22.cell? ⟨gb118, 2, none⟩ = some (.int .i64 0) := (blk_cell BK118.out 2).trans rfl; have hcz24_3 : w22.cell? ⟨gb118, 3, none⟩ = some (.int .i64 0) := (blk_cell BK118.out 3).trans rfl; have hcz24_4 : w22.cell? ⟨gb118, 4, none⟩ = some (.int .i64 0) := (blk_cell BK118.out 4).trans rfl; have hfz24_0 := blk_frozen BK118.out 0; have hfz24_1 := blk_frozen BK118.out 1; have hfz24_2 := blk_frozen BK118.out 2; have hfz24_3 := blk_frozen BK118.out 3; have hfz24_4 := blk_frozen BK118.out 4) | ((with_reducible refine gate_callee (f := 21) rfl ?_); refine goesM_ (some 66) Try.func21 #[.slice A1 l1.length c1] ?_; (with_reducible refine (spec_DrawFastestPart.calls k _ _ l1 t119 _ ?side1 ?side2 A7.out).mono ?_); (case side1 => exact Kd.C_below HR1.out (by repeat (first | (with_reducible first | exact HB.out | apply zbA | apply zbB | apply zbC | refine below_set ?_ GE111.out | refine below_set ?_ GE118.out) | exact HB.out))); (case side2 => exact HC1.out); rintro e w25 ⟨v120, rfl, ho0, hb⟩; refine ⟨_, rfl, ?_⟩; have n0_ := Aside0.mk (Kd.R_elder' (by (with_reducible repeat (first | apply zkA | apply zkB | apply zkC)); exact (Kd.R_mono (Kd.R_far (p := ⟨gb118, 4, none⟩) (Kd.R_far (p := ⟨gb118, 3, none⟩) (Kd.R_far (p := ⟨gb118, 2, none⟩) (Kd.R_far (p := ⟨gb118, 1, none⟩) (Kd.R_far (p := ⟨gb118, 0, none⟩) (Kd.R_mono HO104.out (fun k_ hk => (⟨hk, hk.2⟩ : _ ∧ k_ ≠ gb118))) (fun _ hk => hk.2) (.int .i64 t112)) (fun _ hk => hk.2) (.int .i64 t113)) (fun _ hk => hk.2) (.int .i64 t114)) (fun _ hk => hk.2) (.int .i64 t115)) (fun _ hk => hk.2) (.int .i64 t116)) (fun _ h_ => h_.1))) (Kd.R_base ho0) hb); have n1_ := Aside0.mk (Kd.R_lower (Kd.R_newB (Kd.R_newB (Kd.R_new' ho0 (Kd.R_lt (by (with_reducible repeat (first | apply zkA | apply zkB | apply zkC)); exact (Kd.R_mono (Kd.R_far (p := ⟨gb118, 4, none⟩) (Kd.R_far (p := ⟨gb118, 3, none⟩) (Kd.R_far (p := ⟨gb118, 2, none⟩) (Kd.R_far (p := ⟨gb118, 1, none⟩) (Kd.R_far (p := ⟨gb118, 0, none⟩) (Kd.R_mono HO104.out (fun k_ hk => (⟨hk, hk.2⟩ : _ ∧ k_ ≠ gb118))) (fun _ hk => hk.2) (.int .i64 t112)) (fun _ hk => hk.2) (.int .i64 t113)) (fun _ hk => hk.2) (.int .i64 t114)) (fun _ hk => hk.2) (.int .i64 t115)) (fun _ hk => hk.2) (.int .i64 t116)) (fun _ h_ => h_.1))))) (g := gb111) (o := .cells #[.int .i64 t105, .int .i64 t106, .int .i64 t107, .int .i64 t108, .int .i64 t109] 52 (0, 0)) (by (with_reducible repeat (first | refine blk_drewN ?_ _ | refine blk_drew ?_ | refine blk_alloc ?_ _)); refine blk_far ?_ NB111_118.out _; (with_reducible repeat (first | refine blk_drewN ?_ _ | refine blk_drew ?_ | refine blk_alloc ?_ _)); refine blk_far ?_ NB111_118.out _; (with_reducible repeat (first | refine blk_drewN ?_ _ | refine blk_drew ?_ | refine blk_alloc ?_ _)); refine blk_far ?_ NB111_118.out _; (with_reducible repeat (first | refine blk_drewN ?_ _ | refine blk_drew ?_ | refine blk_alloc ?_ _)); refine blk_far ?_ NB111_118.out _; (with_reducible repeat (first | refine blk_drewN ?_ _ | refine blk_drew ?_ | refine blk_alloc ?_ _)); refine blk_far ?_ NB111_118.out _; (with_reducible repeat (first | refine blk_drewN ?_ _ | refine blk_drew ?_ | refine blk_alloc ?_ _)); exact BK111.out)) (g := gb118) (o := .cells #[.int .i64 t112, .int .i64 t113, .int .i64 t114, .int .i64 t115, .int .i64 t116] 52 (0, 0)) (by (with_reducible repeat (first | refine blk_drewN ?_ _ | refine blk_drew ?_ | refine blk_alloc ?_ _)); refine blk_put (cs := #[.int .i64 t112, .int .i64 t113, .int .i64 t114, .int .i64 t115, .int .i64 0]) ?_ 4 _ rfl; (with_reducible repeat (first | refine blk_drewN ?_ _ | refine blk_drew ?_ | refine blk_alloc ?_ _)); refine blk_put (cs := #[.int .i64 t112, .int .i64 t113, .int .i64 t114, .int .i64 0, .int .i64 0]) ?_ 3 _ rfl; (with_reducible repeat (first | refine blk_drewN ?_ _ | refine blk_drew ?_ | refine blk_alloc ?_ _)); refine blk_put (cs := #[.int .i64 t112, .int .i64 t113, .int .i64 0, .int .i64 0, .int .i64 0]) ?_ 2 _ rfl; (with_reducible repeat (first | refine blk_drewN ?_ _ | refine blk_drew ?_ | refine blk_alloc ?_ _)); refine blk_put (cs := #[.int .i64 t112, .int .i64 0, .int .i64 0, .int .i64 0, .int .i64 0]) ?_ 1 _ rfl; (with_reducible repeat (first | refine blk_drewN ?_ _ | refine blk_drew ?_ | refine blk_alloc ?_ _)); refine blk_put (cs := #[.int .i64 0, .int .i64 0, .int .i64 0, .int .i64 0, .int .i64 0]) ?_ 0 _ rfl; (with_reducible repeat (first | refine blk_drewN ?_ _ | refine blk_drew ?_ | refine blk_alloc ?_ _)); exact BK118.out)) (below_size (by repeat (first | (with_reducible first | exact HB.out | apply zbA | apply zbB | apply zbC | refine below_set ?_ GE111.out | refine below_set ?_ GE118.out) | exact HB.out)))); have n2_ := Aside0.mk (blk_below (g := gb111) (o := .cells #[.int .i64 t105, .int .i64 t106, .int .i64 t107, .int .i64 t108, .int .i64 t109] 52 (0, 0)) (by (with_reducible repeat (first | refine blk_drewN ?_ _ | refine blk_drew ?_ | refine blk_alloc ?_ _)); refine blk_far ?_ NB111_118.out _; (with_reducible repeat (first | refine blk_drewN ?_ _ | refine blk_drew ?_ | refine blk_alloc ?_ _)); refine blk_far ?_ NB111_118.out _; (with_reducible repeat (first | refine blk_drewN ?_ _ | refine blk_drew ?_ | refine blk_alloc ?_ _)); refine blk_far ?_ NB111_118.out _; (with_reducible repeat (first | refine blk_drewN ?_ _ | refine blk_drew ?_ | refine blk_alloc ?_ _)); refine blk_far ?_ NB111_118.out _; (with_reducible repeat (first | refine blk_drewN ?_ _ | refine blk_drew ?_ | refine blk_alloc ?_ _)); refine blk_far ?_ NB111_118.out _; (with_reducible repeat (first | refine blk_drewN ?_ _ | refine blk_drew ?_ | refine blk_alloc ?_ _)); exact BK111.out) hb); have n3_ := Aside0.mk (blk_below (g := gb118) (o := .cells #[.int .i64 t112, .int .i64 t113, .int .i64 t114, .int .i64 t115, .int .i64 t116] 52 (0, 0)) (by (with_reducible repeat (first | refine blk_drewN ?_ _ | refine blk_drew ?_ | refine blk_alloc ?_ _)); refine blk_put (cs := #[.int .i64 t112, .int .i64 t113, .int .i64 t114, .int .i64 t115, .int .i64 0]) ?_ 4 _ rfl; (with_reducible repeat (first | refine blk_drewN ?_ _ | refine blk_drew ?_ | refine blk_alloc ?_ _)); refine blk_put (cs := #[.int .i64 t112, .int .i64 t113, .int .i64 t114, .int .i64 0, .int .i64 0]) ?_ 3 _ rfl; (with_reducible repeat (first | refine blk_drewN ?_ _ | refine blk_drew ?_ | refine blk_alloc ?_ _)); refine blk_put (cs := #[.int .i64 t112, .int .i64 t113, .int .i64 0, .int .i64 0, .int .i64 0]) ?_ 2 _ rfl; (with_reducible repeat (first | refine blk_drewN ?_ _ | refine blk_drew ?_ | refine blk_alloc ?_ _)); refine blk_put (cs := #[.int .i64 t112, .int .i64 0, .int .i64 0, .int .i64 0, .int .i64 0]) ?_ 1 _ rfl; (with_reducible repeat (first | refine blk_drewN ?_ _ | refine blk_drew ?_ | refine blk_alloc ?_ _)); refine blk_put (cs := #[.int .i64 0, .int .i64 0, .int .i64 0, .int .i64 0, .int .i64 0]) ?_ 0 _ rfl; (with_reducible repeat (first | refine blk_drewN ?_ _ | refine blk_drew ?_ | refine blk_alloc ?_ _)); exact BK118.out) hb); have n4_ := Aside0.mk (below_step (by repeat (first | (with_reducible first | exact HB.out | apply zbA | apply zbB | apply zbC | refine below_set ?_ GE111.out | refine below_set ?_ GE118.out) | exact HB.out)) hb); clear HO104; clear BK111; clear BK118; clear HB; have HO104 := n0_; have HO121 := n1_; have BK111 := n2_; have BK118 := n3_; have HB := n4_; clear n0_ n1_ n2_ n3_ n4_; (try clear hb); (try clear ho0); obtain ⟨Ao26, co26, eo26⟩ := Kd.R_slice HO121.out; subst eo26) | ((with_reducible refine gate_callee (f := 22) rfl ?_); refine goesM_ (some 69) Try.func22 #[.slice Ao26 t119.length co26] ?_; (with_reducible refine (impl_FastestPart.calls k _ _ t119 t122 t123 t124 t125 _ ?side1 ?side2 A8.out).mono ?_); (case side1 => repeat (first | exact (Kd.R_reads' HO121.out).2.2 | (with_reducible refine Kd.C_alloc ?_ _) | (with_reducible refine Kd.C_drewN ?_ _) | (with_reducible refine Kd.C_drew ?_))); (case side2 => exact (Kd.R_reads' HO121.out).2.1); rintro e w27 ⟨rfl, hb⟩; refine ⟨_, rfl, ?_⟩; have n0_ := Aside0.mk (Kd.R_below (by (with_reducible repeat (first | apply zkA | apply zkB | apply zkC)); exact HO104.out) hb); have n1_ := Aside0.mk (Kd.R_below (by (with_reducible repeat (first | apply zkA | apply zkB | apply zkC)); exact HO121.out) hb); have n2_ := Aside0.mk (blk_below (g := gb111) (o := .cells #[.int .i64 t105, .int .i64 t106, .int .i64 t107, .int .i64 t108, .int .i64 t109] 52 (0, 0)) (by (with_reducible repeat (first | refine blk_drewN ?_ _ | refine blk_drew ?_ | refine blk_alloc ?_ _)); exact BK111.out) hb); have n3_ := Aside0.mk (blk_below (g := gb118) (o := .cells #[.int .i64 t112, .int .i64 t113, .int .i64 t114, .int .i64 t115, .int .i64 t116] 52 (0, 0)) (by (with_reducible repeat (first | refine blk_drewN ?_ _ | refine blk_drew ?_ | refine blk_alloc ?_ _)); exact BK118.out) hb); have n4_ := Aside0.mk (below_step (by repeat (first | (with_reducible first | exact HB.out | apply zbA | apply zbB | apply zbC | refine below_set ?_ GE111.out | refine below_set ?_ GE118.out) | exact HB.out)) hb); clear HO104; clear HO121; clear BK111; clear BK118; clear HB; have HO104 := n0_; have HO121 := n1_; have BK111 := n2_; have BK118 := n3_; have HB := n4_; clear n0_ n1_ n2_ n3_ n4_; (try clear hb)) | ((with_reducible refine gate_callee (f := 23) rfl ?_); refine goesM_ (some 76) Try.func23 #[.slice Ao26 t119.length co26] ?_; (with_reducible refine (spec_FastestPart.calls k _ _ t119 t126 t127 t128 t129 _ ?side1 ?side2 A9.out).mono ?_); (case side1 => repeat (first | exact (Kd.R_reads' HO121.out).2.2 | (with_reducible refine Kd.C_alloc ?_ _) | (with_reducible refine Kd.C_drewN ?_ _) | (with_reducible refine Kd.C_drew ?_))); (case side2 => exact (Kd.R_reads' HO121.out).2.1); rintro e w28 ⟨rfl, hb⟩; refine ⟨_, rfl, ?_⟩; have n0_ := Aside0.mk (Kd.R_below (by (with_reducible repeat (first | apply zkA | apply zkB | apply zkC)); exact HO104.out) hb); have n1_ := Aside0.mk (Kd.R_below (by (with_reducible repeat (first | apply zkA | apply zkB | apply zkC)); exact HO121.out) hb); have n2_ := Aside0.mk (blk_below (g := gb111) (o := .cells #[.int .i64 t105, .int .i64 t106, .int .i64 t107, .int .i64 t108, .int .i64 t109] 52 (0, 0)) (by (with_reducible repeat (first | refine blk_drewN ?_ _ | refine blk_drew ?_ | refine blk_alloc ?_ _)); exact BK111.out) hb); have n3_ := Aside0.mk (blk_below (g := gb118) (o := .cells #[.int .i64 t112, .int .i64 t113, .int .i64 t114, .int .i64 t115, .int .i64 t116] 52 (0, 0)) (by (with_reducible repeat (first | refine blk_drewN ?_ _ | refine blk_drew ?_ | refine blk_alloc ?_ _)); exact BK118.out) hb); have n4_ := Aside0.mk (below_step (by repeat (first | (with_reducible first | exact HB.out | apply zbA | apply zbB | apply zbC | refine below_set ?_ GE111.out | refine below_set ?_ GE118.out) | exact HB.out)) hb); clear HO104; clear HO121; clear BK111; clear BK118; clear HB; have HO104 := n0_; have HO121 := n1_; have BK111 := n2_; have BK118 := n3_; have HB := n4_; clear n0_ n1_ n2_ n3_ n4_; (try clear hb)) | ((with_reducible refine gate_callee (f := 24) rfl ?_); refine goesM_ (some 83) Try.func24 #[.slice A1 l1.length c1] ?_; (with_reducible refine (spec_DrawLeastStretch.calls k _ _ l1 t130 t131 _ ?side1 ?side2 A10.out).mono ?_); (case side1 => repeat (first | exact (Kd.C_below HR1.out HB.out) | (with_reducible refine Kd.C_alloc ?_ _) | (with_reducible refine Kd.C_drewN ?_ _) | (with_reducible refine Kd.C_drew ?_))); (case side2 => exact HC1.out); rintro e w29 ⟨v132, rfl, ho0, hb⟩; refine ⟨_, rfl, ?_⟩; have n0_ := Aside0.mk (Kd.R_elder' (by (with_reducible repeat (first | apply zkA | apply zkB | apply zkC)); exact HO104.out) (Kd.R_base ho0) hb); have n1_ := Aside0.mk (Kd.R_elder' (by (with_reducible repeat (first | apply zkA | apply zkB | apply zkC)); exact HO121.out) (Kd.R_base ho0) hb); have n2_ := Aside0.mk (Kd.R_lower (Kd.R_newB (Kd.R_newB (Kd.R_new' (Kd.R_new' ho0 (Kd.R_lt (by (with_reducible repeat (first | apply zkA | apply zkB | apply zkC)); exact HO104.out))) (Kd.R_lt (by (with_reducible repeat (first | apply zkA | apply zkB | apply zkC)); exact HO121.out))) (g := gb111) (o := .cells #[.int .i64 t105, .int .i64 t106, .int .i64 t107, .int .i64 t108, .int .i64 t109] 52 (0, 0)) (by (with_reducible repeat (first | refine blk_drewN ?_ _ | refine blk_drew ?_ | refine blk_alloc ?_ _)); exact BK111.out)) (g := gb118) (o := .cells #[.int .i64 t112, .int .i64 t113, .int .i64 t114, .int .i64 t115, .int .i64 t116] 52 (0, 0)) (by (with_reducible repeat (first | refine blk_drewN ?_ _ | refine blk_drew ?_ | refine blk_alloc ?_ _)); exact BK118.out)) (below_size (by repeat (first | (with_reducible first | exact HB.out | apply zbA | apply zbB | apply zbC | refine below_set ?_ GE111.out | refine below_set ?_ GE118.out) | exact HB.out)))); have n3_ := Aside0.mk (blk_below (g := gb111) (o := .cells #[.int .i64 t105, .int .i64 t106, .int .i64 t107, .int .i64 t108, .int .i64 t109] 52 (0, 0)) (by (with_reducible repeat (first | refine blk_drewN ?_ _ | refine blk_drew ?_ | refine blk_alloc ?_ _)); exact BK111.out) hb); have n4_ := Aside0.mk (blk_below (g := gb118) (o := .cells #[.int .i64 t112, .int .i64 t113, .int .i64 t114, .int .i64 t115, .int .i64 t116] 52 (0, 0)) (by (with_reducible repeat (first | refine blk_drewN ?_ _ | refine blk_drew ?_ | refine blk_alloc ?_ _)); exact BK118.out) hb); have n5_ := Aside0.mk (below_step (by repeat (first | (with_reducible first | exact HB.out | apply zbA | apply zbB | apply zbC | refine below_set ?_ GE111.out | refine below_set ?_ GE118.out) | exact HB.out)) hb); clear HO104; clear HO121; clear BK111; clear BK118; clear HB; have HO104 := n0_; have HO121 := n1_; have HO133 := n2_; have BK111 := n3_; have BK118 := n4_; have HB := n5_; clear n0_ n1_ n2_ n3_ n4_ n5_; (try clear hb); (try clear ho0); obtain ⟨Ao30, co30, eo30⟩ := Kd.R_slice HO133.out; subst eo30) | ((with_reducible refine gate_callee (f := 25) rfl ?_); refine goesM_ (some 89) Try.func25 #[.slice Ao30 t130.length co30, .int .i64 t131] ?_; (with_reducible refine (impl_LeastStretch.calls k _ _ t130 t131 t134 t135 _ ?side1 ?side2 A11.out).mono ?_); (case side1 => repeat (first | exact (Kd.R_reads' HO133.out).2.2 | (with_reducible refine Kd.C_alloc ?_ _) | (with_reducible refine Kd.C_drewN ?_ _) | (with_reducible refine Kd.C_drew ?_))); (case side2 => exact (Kd.R_reads' HO133.out).2.1); rintro e w31 ⟨rfl, hb⟩; refine ⟨_, rfl, ?_⟩; have n0_ := Aside0.mk (Kd.R_below (by (with_reducible repeat (first | apply zkA | apply zkB | apply zkC)); exact HO104.out) hb); have n1_ := Aside0.mk (Kd.R_below (by (with_reducible repeat (first | apply zkA | apply zkB | apply zkC)); exact HO121.out) hb); have n2_ := Aside0.mk (Kd.R_below (by (with_reducible repeat (first | apply zkA | apply zkB | apply zkC)); exact HO133.out) hb); have n3_ := Aside0.mk (blk_below (g := gb111) (o := .cells #[.int .i64 t105, .int .i64 t106, .int .i64 t107, .int .i64 t108, .int .i64 t109] 52 (0, 0)) (by (with_reducible repeat (first | refine blk_drewN ?_ _ | refine blk_drew ?_ | refine blk_alloc ?_ _)); exact BK111.out) hb); have n4_ := Aside0.mk (blk_below (g := gb118) (o := .cells #[.int .i64 t112, .int .i64 t113, .int .i64 t114, .int .i64 t115, .int .i64 t116] 52 (0, 0)) (by (with_reducible repeat (first | refine blk_drewN ?_ _ | refine blk_drew ?_ | refine blk_alloc ?_ _)); exact BK118.out) hb); have n5_ := Aside0.mk (below_step (by repeat (first | (with_reducible first | exact HB.out | apply zbA | apply zbB | apply zbC | refine below_set ?_ GE111.out | refine below_set ?_ GE118.out) | exact HB.out)) hb); clear HO104; clear HO121; clear HO133; clear BK111; clear BK118; clear HB; have HO104 := n0_; have HO121 := n1_; have HO133 := n2_; have BK111 := n3_; have BK118 := n4_; have HB := n5_; clear n0_ n1_ n2_ n3_ n4_ n5_; (try clear hb)) | ((with_reducible refine gate_callee (f := 26) rfl ?_); refine goesM_ (some 95) Try.func26 #[.slice Ao30 t130.length co30, .int .i64 t131] ?_; (with_reducible refine (spec_LeastStretch.calls k _ _ t130 t131 t136 t137 _ ?side1 ?side2 A12.out).mono ?_); (case side1 => repeat (first | exact (Kd.R_reads' HO133.out).2.2 | (with_reducible refine Kd.C_alloc ?_ _) | (with_reducible refine Kd.C_drewN ?_ _) | (with_reducible refine Kd.C_drew ?_))); (case side2 => exact (Kd.R_reads' HO133.out).2.1); rintro e w32 ⟨rfl, hb⟩; refine ⟨_, rfl, ?_⟩; have n0_ := Aside0.mk (Kd.R_below (by (with_reducible repeat (first | apply zkA | apply zkB | apply zkC)); exact HO104.out) hb); have n1_ := Aside0.mk (Kd.R_below (by (with_reducible repeat (first | apply zkA | apply zkB | apply zkC)); exact HO121.out) hb); have n2_ := Aside0.mk (Kd.R_below (by (with_reducible repeat (first | apply zkA | apply zkB | apply zkC)); exact HO133.out) hb); have n3_ := Aside0.mk (blk_below (g := gb111) (o := .cells #[.int .i64 t105, .int .i64 t106, .int .i64 t107, .int .i64 t108, .int .i64 t109] 52 (0, 0)) (by (with_reducible repeat (first | refine blk_drewN ?_ _ | refine blk_drew ?_ | refine blk_alloc ?_ _)); exact BK111.out) hb); have n4_ := Aside0.mk (blk_below (g := gb118) (o := .cells #[.int .i64 t112, .int .i64 t113, .int .i64 t114, .int .i64 t115, .int .i64 t116] 52 (0, 0)) (by (with_reducible repeat (first | refine blk_drewN ?_ _ | refine blk_drew ?_ | refine blk_alloc ?_ _)); exact BK118.out) hb); have n5_ := Aside0.mk (below_step (by repeat (first | (with_reducible first | exact HB.out | apply zbA | apply zbB | apply zbC | refine below_set ?_ GE111.out | refine below_set ?_ GE118.out) | exact HB.out)) hb); clear HO104; clear HO121; clear HO133; clear BK111; clear BK118; clear HB; have HO104 := n0_; have HO121 := n1_; have HO133 := n2_; have BK111 := n3_; have BK118 := n4_; have HB := n5_; clear n0_ n1_ n2_ n3_ n4_ n5_; (try clear hb)) | ((with_reducible refine gate_callee (f := 27) rfl ?_); refine goesM_ (some 101) Try.func27 #[.slice Ao30 t130.length co30, .int .i64 t131] ?_; (with_reducible refine (impl_KeepsSpeed.calls k _ _ t130 t131 t138 t139 _ ?side1 ?side2 A13.out).mono ?_); (case side1 => repeat (first | exact (Kd.R_reads' HO133.out).2.2 | (with_reducible refine Kd.C_alloc ?_ _) | (with_reducible refine Kd.C_drewN ?_ _) | (with_reducible refine Kd.C_drew ?_))); (case side2 => exact (Kd.R_reads' HO133.out).2.1); rintro e w33 ⟨rfl, hb⟩; refine ⟨_, rfl, ?_⟩; have n0_ := Aside0.mk (Kd.R_below (by (with_reducible repeat (first | apply zkA | apply zkB | apply zkC)); exact HO104.out) hb); have n1_ := Aside0.mk (Kd.R_below (by (with_reducible repeat (first | apply zkA | apply zkB | apply zkC)); exact HO121.out) hb); have n2_ := Aside0.mk (Kd.R_below (by (with_reducible repeat (first | apply zkA | apply zkB | apply zkC)); exact HO133.out) hb); have n3_ := Aside0.mk (blk_below (g := gb111) (o := .cells #[.int .i64 t105, .int .i64 t106, .int .i64 t107, .int .i64 t108, .int .i64 t109] 52 (0, 0)) (by (with_reducible repeat (first | refine blk_drewN ?_ _ | refine blk_drew ?_ | refine blk_alloc ?_ _)); exact BK111.out) hb); have n4_ := Aside0.mk (blk_below (g := gb118) (o := .cells #[.int .i64 t112, .int .i64 t113, .int .i64 t114, .int .i64 t115, .int .i64 t116] 52 (0, 0)) (by (with_reducible repeat (first | refine blk_drewN ?_ _ | refine blk_drew ?_ | refine blk_alloc ?_ _)); exact BK118.out) hb); have n5_ := Aside0.mk (below_step (by repeat (first | (with_reducible first | exact HB.out | apply zbA | apply zbB | apply zbC | refine below_set ?_ GE111.out | refine below_set ?_ GE118.out) | exact HB.out)) hb); clear HO104; clear HO121; clear HO133; clear BK111; clear BK118; clear HB; have HO104 := n0_; have HO121 := n1_; have HO133 := n2_; have BK111 := n3_; have BK118 := n4_; have HB := n5_; clear n0_ n1_ n2_ n3_ n4_ n5_; (try clear hb)) | ((with_reducible refine gate_callee (f := 28) rfl ?_); refine goesM_ (some 107) Try.func28 #[.slice Ao30 t130.length co30, .int .i64 t131] ?_; (with_reducible refine (spec_KeepsSpeed.calls k _ _ t130 t131 t140 t141 _ ?side1 ?side2 A14.out).mono ?_); (case side1 => repeat (first | exact (Kd.R_reads' HO133.out).2.2 | (with_reducible refine Kd.C_alloc ?_ _) | (with_reducible refine Kd.C_drewN ?_ _) | (with_reducible refine Kd.C_drew ?_))); (case side2 => exact (Kd.R_reads' HO133.out).2.1); rintro e w34 ⟨rfl, hb⟩; refine ⟨_, rfl, ?_⟩; have n0_ := Aside0.mk (Kd.R_below (by (with_reducible repeat (first | apply zkA | apply zkB | apply zkC)); exact HO104.out) hb); have n1_ := Aside0.mk (Kd.R_below (by (with_reducible repeat (first | apply zkA | apply zkB | apply zkC)); exact HO121.out) hb); have n2_ := Aside0.mk (Kd.R_below (by (with_reducible repeat (first | apply zkA | apply zkB | apply zkC)); exact HO133.out) hb); have n3_ := Aside0.mk (blk_below (g := gb111) (o := .cells #[.int .i64 t105, .int .i64 t106, .int .i64 t107, .int .i64 t108, .int .i64 t109] 52 (0, 0)) (by (with_reducible repeat (first | refine blk_drewN ?_ _ | refine blk_drew ?_ | refine blk_alloc ?_ _)); exact BK111.out) hb); have n4_ := Aside0.mk (blk_below (g := gb118) (o := .cells #[.int .i64 t112, .int .i64 t113, .int .i64 t114, .int .i64 t115, .int .i64 t116] 52 (0, 0)) (by (with_reducible repeat (first | refine blk_drewN ?_ _ | refine blk_drew ?_ | refine blk_alloc ?_ _)); exact BK118.out) hb); have n5_ := Aside0.mk (below_step (by repeat (first | (with_reducible first | exact HB.out | apply zbA | apply zbB | apply zbC | refine below_set ?_ GE111.out | refine below_set ?_ GE118.out) | exact HB.out)) hb); clear HO104; clear HO121; clear HO133; clear BK111; clear BK118; clear HB; have HO104 := n0_; have HO121 := n1_; have HO133 := n2_; have BK111 := n3_; have BK118 := n4_; have HB := n5_; clear n0_ n1_ n2_ n3_ n4_ n5_; (try clear hb)))
  (try simp only [Act.put, List.setIfInBounds_toArray, List.set_cons_zero, List.set_cons_succ])
  go_cut [164] (fun v164 wc => ∃ (kq : Nat) (x164_14 : Bool), v164 = .bool x164_14 ∧ Aside0 (laws_FnKeyframes.j0 kq t102 t110 t119 t125 t126 t127 t128 t130 t131 t134 t135 t136 t140 x164_14 t105 t106 t107 t108 t109 t112 t113 t114 t115 t116 = some r) ∧ Aside0 (kq ≤ k) ∧ Aside0 (Kd.R k52 52 wc w.heap.size (fun k_ => some k_ ≠ ((.slice Ao30 t130.length co30) : Value).ownBlock ∧ k_ ≠ gb111 ∧ k_ ≠ gb118) (.slice Ao26 t119.length co26) t119) ∧ Aside0 (Kd.R k52 52 wc w.heap.size (fun k_ => some k_ ≠ ((.slice Ao26 t119.length co26) : Value).ownBlock ∧ k_ ≠ gb111 ∧ k_ ≠ gb118) (.slice Ao30 t130.length co30) t130) ∧ Aside0 (wc.heap[gb111]? = some (.cells #[.int .i64 t105, .int .i64 t106, .int .i64 t107, .int .i64 t108, .int .i64 t109] 52 (0, 0))) ∧ Aside0 (wc.heap[gb118]? = some (.cells #[.int .i64 t112, .int .i64 t113, .int .i64 t114, .int .i64 t115, .int .i64 t116] 52 (0, 0))) ∧ Aside0 (Below w.heap.size w wc))
  case first =>
   have H := HC15.out
   clear HC15
   by_cases c35 : (t110 != t117) = true
   ·rw [if_pos c35] at H
    exact absurd H (by simp)
   ·rw [if_neg c35] at H
    have c35b0 : (t110 != t117) = false := by simpa using c35
    (try (have c35b1 : decide (t110 = t117) = true := by simpa using c35))
    (try (have c35b2 : (t110 == t117) = true := by simpa using c35))
    clear c35
    (first | rw [c35b0] | (simp only [i64_w, i32_w]; rw [c35b0]) | skip)
    by_cases c36 : (!(t105 == t112) || (!(t106 == t113) || (!(t107 == t114) || (!(t108 == t115) || (!(t109 == t116)))))) = true
    ·rw [if_pos c36] at H
     exact absurd H (by simp)
    ·rw [if_neg c36] at H
     have c36b0 : (!(t105 == t112) || (!(t106 == t113) || (!(t107 == t114) || (!(t108 == t115) || (!(t109 == t116)))))) = false := by simpa using c36
     clear c36
     by_cases c37 : (t125 != t129) = true
     ·rw [if_pos c37] at H
      exact absurd H (by simp)
     ·rw [if_neg c37] at H
      have c37b0 : (t125 != t129) = false := by simpa using c37
      (try (have c37b1 : decide (t125 = t129) = true := by simpa using c37))
      (try (have c37b2 : (t125 == t129) = true := by simpa using c37))
      clear c37
      by_cases c38 : t122 = t126
      ·rw [if_pos c38] at H
       have c38b0 : (t122 == t126) = true := beq_iff_eq.mpr c38
       have c38b1 : (t122 != t126) = false := bne_eq_false_iff_eq.mpr c38
       clear c38
       by_cases c39 : t123 = t127
       ·rw [if_pos c39] at H
        have c39b0 : (t123 == t127) = true := beq_iff_eq.mpr c39
        have c39b1 : (t123 != t127) = false := bne_eq_false_iff_eq.mpr c39
        clear c39
        by_cases c40 : t124 = t128
        ·rw [if_pos c40] at H
         have c40b0 : (t124 == t128) = true := beq_iff_eq.mpr c40
         have c40b1 : (t124 != t128) = false := bne_eq_false_iff_eq.mpr c40
         clear c40
         by_cases c41 : (t135 != t137) = true
         ·rw [if_pos c41] at H
          exact absurd H (by simp)
         ·rw [if_neg c41] at H
          have c41b0 : (t135 != t137) = false := by simpa using c41
          (try (have c41b1 : decide (t135 = t137) = true := by simpa using c41))
          (try (have c41b2 : (t135 == t137) = true := by simpa using c41))
          clear c41
          by_cases c42 : t134 = t136
          ·rw [if_pos c42] at H
           have c42b0 : (t134 == t136) = true := beq_iff_eq.mpr c42
           have c42b1 : (t134 != t136) = false := bne_eq_false_iff_eq.mpr c42
           clear c42
           by_cases c43 : (t139 != t141) = true
           ·rw [if_pos c43] at H
            exact absurd H (by simp)
           ·rw [if_neg c43] at H
            have c43b0 : (t139 != t141) = false := by simpa using c43
            (try (have c43b1 : decide (t139 = t141) = true := by simpa using c43))
            (try (have c43b2 : (t139 == t141) = true := by simpa using c43))
            clear c43
            by_cases c44 : (t138 != t140) = true
            ·rw [if_pos c44] at H
             exact absurd H (by simp)
            ·rw [if_neg c44] at H
             have c44b0 : (t138 != t140) = false := by simpa using c44
             (try (have c44b1 : decide (t138 = t140) = true := by simpa using c44))
             (try (have c44b2 : (t138 == t140) = true := by simpa using c44))
             clear c44
             by_cases c45 : t135 = true
             ·subst c45
              rw [if_pos rfl] at H
              as_aux_lemma =>
               have H' := Aside0.mk H
               clear H
               have hnb46 := NB111_118.out
               have hnc46 := NB118_111.out
               have hcz47_0 : w34.cell? ⟨gb111, 0, none⟩ = some (.int .i64 t105) := (blk_cell BK111.out 0).trans rfl
               have hcz47_1 : w34.cell? ⟨gb111, 1, none⟩ = some (.int .i64 t106) := (blk_cell BK111.out 1).trans rfl
               have hcz47_2 : w34.cell? ⟨gb111, 2, none⟩ = some (.int .i64 t107) := (blk_cell BK111.out 2).trans rfl
               have hcz47_3 : w34.cell? ⟨gb111, 3, none⟩ = some (.int .i64 t108) := (blk_cell BK111.out 3).trans rfl
               have hcz47_4 : w34.cell? ⟨gb111, 4, none⟩ = some (.int .i64 t109) := (blk_cell BK111.out 4).trans rfl
               have hfz47_0 := blk_frozen BK111.out 0
               have hfz47_1 := blk_frozen BK111.out 1
               have hfz47_2 := blk_frozen BK111.out 2
               have hfz47_3 := blk_frozen BK111.out 3
               have hfz47_4 := blk_frozen BK111.out 4
               have hcz48_0 : w34.cell? ⟨gb118, 0, none⟩ = some (.int .i64 t112) := (blk_cell BK118.out 0).trans rfl
               have hcz48_1 : w34.cell? ⟨gb118, 1, none⟩ = some (.int .i64 t113) := (blk_cell BK118.out 1).trans rfl
               have hcz48_2 : w34.cell? ⟨gb118, 2, none⟩ = some (.int .i64 t114) := (blk_cell BK118.out 2).trans rfl
               have hcz48_3 : w34.cell? ⟨gb118, 3, none⟩ = some (.int .i64 t115) := (blk_cell BK118.out 3).trans rfl
               have hcz48_4 : w34.cell? ⟨gb118, 4, none⟩ = some (.int .i64 t116) := (blk_cell BK118.out 4).trans rfl
               have hfz48_0 := blk_frozen BK118.out 0
               have hfz48_1 := blk_frozen BK118.out 1
               have hfz48_2 := blk_frozen BK118.out 2
               have hfz48_3 := blk_frozen BK118.out 3
               have hfz48_4 := blk_frozen BK118.out 4
               go_wp2
               go_meet
               case rel => exact ⟨_, (!t139), (by first | rfl | (simp; done) | (simp [*]; done)), H', ⟨by first | omega | exact Nat.le_refl _⟩, ⟨by (with_reducible repeat (first | apply zkA | apply zkB | apply zkC)); exact Kd.R_mono HO121.out (fun _ hk => ⟨hk.2, ⟨hk.1.1.2, hk.1.2⟩⟩)⟩, ⟨by (with_reducible repeat (first | apply zkA | apply zkB | apply zkC)); exact Kd.R_mono HO133.out (fun _ hk => ⟨hk.1.1.2, ⟨hk.1.2, hk.2⟩⟩)⟩, ⟨by (with_reducible repeat (first | refine blk_drewN ?_ _ | refine blk_drew ?_ | refine blk_alloc ?_ _)); exact BK111.out⟩, ⟨by (with_reducible repeat (first | refine blk_drewN ?_ _ | refine blk_drew ?_ | refine blk_alloc ?_ _)); exact BK118.out⟩, ⟨by repeat (first | (with_reducible first | exact HB.out | apply zbA | apply zbB | apply zbC | refine below_set ?_ GE111.out | refine below_set ?_ GE118.out) | exact HB.out)⟩⟩
             ·replace c45 := Bool.eq_false_iff.mpr c45
              subst c45
              rw [if_neg (show ¬ (false = true) by decide)] at H
              as_aux_lemma =>
               have H' := Aside0.mk H
               clear H
               have hnb49 := NB111_118.out
               have hnc49 := NB118_111.out
               have hcz50_0 : w34.cell? ⟨gb111, 0, none⟩ = some (.int .i64 t105) := (blk_cell BK111.out 0).trans rfl
               have hcz50_1 : w34.cell? ⟨gb111, 1, none⟩ = some (.int .i64 t106) := (blk_cell BK111.out 1).trans rfl
               have hcz50_2 : w34.cell? ⟨gb111, 2, none⟩ = some (.int .i64 t107) := (blk_cell BK111.out 2).trans rfl
               have hcz50_3 : w34.cell? ⟨gb111, 3, none⟩ = some (.int .i64 t108) := (blk_cell BK111.out 3).trans rfl
               have hcz50_4 : w34.cell? ⟨gb111, 4, none⟩ = some (.int .i64 t109) := (blk_cell BK111.out 4).trans rfl
               have hfz50_0 := blk_frozen BK111.out 0
               have hfz50_1 := blk_frozen BK111.out 1
               have hfz50_2 := blk_frozen BK111.out 2
               have hfz50_3 := blk_frozen BK111.out 3
               have hfz50_4 := blk_frozen BK111.out 4
               have hcz51_0 : w34.cell? ⟨gb118, 0, none⟩ = some (.int .i64 t112) := (blk_cell BK118.out 0).trans rfl
               have hcz51_1 : w34.cell? ⟨gb118, 1, none⟩ = some (.int .i64 t113) := (blk_cell BK118.out 1).trans rfl
               have hcz51_2 : w34.cell? ⟨gb118, 2, none⟩ = some (.int .i64 t114) := (blk_cell BK118.out 2).trans rfl
               have hcz51_3 : w34.cell? ⟨gb118, 3, none⟩ = some (.int .i64 t115) := (blk_cell BK118.out 3).trans rfl
               have hcz51_4 : w34.cell? ⟨gb118, 4, none⟩ = some (.int .i64 t116) := (blk_cell BK118.out 4).trans rfl
               have hfz51_0 := blk_frozen BK118.out 0
               have hfz51_1 := blk_frozen BK118.out 1
               have hfz51_2 := blk_frozen BK118.out 2
               have hfz51_3 := blk_frozen BK118.out 3
               have hfz51_4 := blk_frozen BK118.out 4
               go_wp2
               go_meet
               case rel => exact ⟨_, (false), (by first | rfl | (simp; done) | (simp [*]; done)), H', ⟨by first | omega | exact Nat.le_refl _⟩, ⟨by (with_reducible repeat (first | apply zkA | apply zkB | apply zkC)); exact Kd.R_mono HO121.out (fun _ hk => ⟨hk.2, ⟨hk.1.1.2, hk.1.2⟩⟩)⟩, ⟨by (with_reducible repeat (first | apply zkA | apply zkB | apply zkC)); exact Kd.R_mono HO133.out (fun _ hk => ⟨hk.1.1.2, ⟨hk.1.2, hk.2⟩⟩)⟩, ⟨by (with_reducible repeat (first | refine blk_drewN ?_ _ | refine blk_drew ?_ | refine blk_alloc ?_ _)); exact BK111.out⟩, ⟨by (with_reducible repeat (first | refine blk_drewN ?_ _ | refine blk_drew ?_ | refine blk_alloc ?_ _)); exact BK118.out⟩, ⟨by repeat (first | (with_reducible first | exact HB.out | apply zbA | apply zbB | apply zbC | refine below_set ?_ GE111.out | refine below_set ?_ GE118.out) | exact HB.out)⟩⟩
          ·rw [if_neg c42] at H
           exact absurd H (by simp)
        ·rw [if_neg c40] at H
         exact absurd H (by simp)
       ·rw [if_neg c39] at H
        exact absurd H (by simp)
      ·rw [if_neg c38] at H
       exact absurd H (by simp)
  case rest =>
   clear HC15
   try clear c1
   try clear c2
   try clear p2
   try clear c3
   try clear c3b0
   try clear c4
   try clear p6
   try clear c18
   try clear c19
   try clear c20
   try clear c21
   try clear c22
   try clear c23
   try clear c24
   try clear c25
   try clear c26
   try clear c27
   try clear c28
   try clear c35
   try clear c35b0
   try clear c35b1
   try clear c35b2
   try clear c36
   try clear c36b0
   try clear c37
   try clear c37b0
   try clear c37b1
   try clear c37b2
   try clear c38
   try clear c38b0
   try clear c38b1
   try clear c39
   try clear c39b0
   try clear c39b1
   try clear c40
   try clear c40b0
   try clear c40b1
   try clear c41
   try clear c41b0
   try clear c41b1
   try clear c41b2
   try clear c42
   try clear c42b0
   try clear c42b1
   try clear c43
   try clear c43b0
   try clear c43b1
   try clear c43b2
   try clear c44
   try clear c44b0
   try clear c44b1
   try clear c44b2
   try clear c45
   try clear c46
   try clear c49
   try clear hcz20_0
   try clear hcz20_1
   try clear hcz20_2
   try clear hcz20_3
   try clear hcz20_4
   try clear hcz24_0
   try clear hcz24_1
   try clear hcz24_2
   try clear hcz24_3
   try clear hcz24_4
   try clear hcz47_0
   try clear hcz47_1
   try clear hcz47_2
   try clear hcz47_3
   try clear hcz47_4
   try clear hcz48_0
   try clear hcz48_1
   try clear hcz48_2
   try clear hcz48_3
   try clear hcz48_4
   try clear hcz50_0
   try clear hcz50_1
   try clear hcz50_2
   try clear hcz50_3
   try clear hcz50_4
   try clear hcz51_0
   try clear hcz51_1
   try clear hcz51_2
   try clear hcz51_3
   try clear hcz51_4
   try clear hfz20_0
   try clear hfz20_1
   try clear hfz20_2
   try clear hfz20_3
   try clear hfz20_4
   try clear hfz24_0
   try clear hfz24_1
   try clear hfz24_2
   try clear hfz24_3
   try clear hfz24_4
   try clear hfz47_0
   try clear hfz47_1
   try clear hfz47_2
   try clear hfz47_3
   try clear hfz47_4
   try clear hfz48_0
   try clear hfz48_1
   try clear hfz48_2
   try clear hfz48_3
   try clear hfz48_4
   try clear hfz50_0
   try clear hfz50_1
   try clear hfz50_2
   try clear hfz50_3
   try clear hfz50_4
   try clear hfz51_0
   try clear hfz51_1
   try clear hfz51_2
   try clear hfz51_3
   try clear hfz51_4
   obtain ⟨kq, x164_14, rfl, HA, HJ14, HO_11, HO_20, BK111, BK118, HB⟩ := hcut
   cases kq with
   | zero => exact absurd HA.out (by simp [laws_FnKeyframes.j0])
   | succ kj14 =>
    have H := HA.out
    clear HA
    simp only [laws_FnKeyframes.j0] at H
    by_cases c52 : x164_14 = true
    ·subst c52
     rw [if_pos rfl] at H
     exact absurd H (by simp)
    ·replace c52 := Bool.eq_false_iff.mpr c52
     subst c52
     rw [if_neg (show ¬ (false = true) by decide)] at H
     have HC53 := Aside0.mk H
     clear H
     go_upto_region 16 with (fail)
     go_cut [176] (fun v176 wc => ∃ (kq : Nat) (x176_52 : Bool), v176 = .bool x176_52 ∧ Aside0 (laws_FnKeyframes.j1 kq t119 t125 t126 t127 t128 t130 t131 t134 t135 t136 t140 x176_52 = some r) ∧ Aside0 (kq ≤ kj14) ∧ Aside0 (Kd.R k52 52 wc w.heap.size (fun k_ => some k_ ≠ ((.slice Ao30 t130.length co30) : Value).ownBlock ∧ k_ ≠ gb111 ∧ k_ ≠ gb118) (.slice Ao26 t119.length co26) t119) ∧ Aside0 (Kd.R k52 52 wc w.heap.size (fun k_ => some k_ ≠ ((.slice Ao26 t119.length co26) : Value).ownBlock ∧ k_ ≠ gb111 ∧ k_ ≠ gb118) (.slice Ao30 t130.length co30) t130) ∧ Aside0 (wc.heap[gb111]? = some (.cells #[.int .i64 t105, .int .i64 t106, .int .i64 t107, .int .i64 t108, .int .i64 t109] 52 (0, 0))) ∧ Aside0 (wc.heap[gb118]? = some (.cells #[.int .i64 t112, .int .i64 t113, .int .i64 t114, .int .i64 t115, .int .i64 t116] 52 (0, 0))) ∧ Aside0 (Below w.heap.size w wc))
     case first =>
      have H := HC53.out
      clear HC53
      by_cases c54 : t110 = true
      ·subst c54
       rw [if_pos rfl] at H
       replace H := Option.bind_eq_some_iff.mp H
       obtain ⟨t142, A550, H⟩ := H
       try dsimp only at H
       have A55 := Aside0.mk A550
       clear A550
       by_cases c56 : t142 = true
       ·subst c56
        rw [if_pos rfl] at H
        as_aux_lemma =>
         have H' := Aside0.mk H
         clear H
         have hnb57 := NB111_118.out
         have hnc57 := NB118_111.out
         have hcz58_0 : wc.cell? ⟨gb111, 0, none⟩ = some (.int .i64 t105) := (blk_cell BK111.out 0).trans rfl
         have hcz58_1 : wc.cell? ⟨gb111, 1, none⟩ = some (.int .i64 t106) := (blk_cell BK111.out 1).trans rfl
         have hcz58_2 : wc.cell? ⟨gb111, 2, none⟩ = some (.int .i64 t107) := (blk_cell BK111.out 2).trans rfl
         have hcz58_3 : wc.cell? ⟨gb111, 3, none⟩ = some (.int .i64 t108) := (blk_cell BK111.out 3).trans rfl
         have hcz58_4 : wc.cell? ⟨gb111, 4, none⟩ = some (.int .i64 t109) := (blk_cell BK111.out 4).trans rfl
         have hfz58_0 := blk_frozen BK111.out 0
         have hfz58_1 := blk_frozen BK111.out 1
         have hfz58_2 := blk_frozen BK111.out 2
         have hfz58_3 := blk_frozen BK111.out 3
         have hfz58_4 := blk_frozen BK111.out 4
         go_wp2_with (first | (go_at_call 29; (with_reducible refine (impl_IsKey.calls t105 t106 t107 t108 t109 true _ A55.out).mono ?_); rintro e w59 ⟨rfl, hb⟩; have n0_ := Aside0.mk (Kd.R_below (by (with_reducible repeat (first | apply zkA | apply zkB | apply zkC)); exact HO_11.out) hb); have n1_ := Aside0.mk (Kd.R_below (by (with_reducible repeat (first | apply zkA | apply zkB | apply zkC)); exact HO_20.out) hb); have n2_ := Aside0.mk (blk_below (g := gb111) (o := .cells #[.int .i64 t105, .int .i64 t106, .int .i64 t107, .int .i64 t108, .int .i64 t109] 52 (0, 0)) (by (with_reducible repeat (first | refine blk_drewN ?_ _ | refine blk_drew ?_ | refine blk_alloc ?_ _)); exact BK111.out) hb); have n3_ := Aside0.mk (blk_below (g := gb118) (o := .cells #[.int .i64 t112, .int .i64 t113, .int .i64 t114, .int .i64 t115, .int .i64 t116] 52 (0, 0)) (by (with_reducible repeat (first | refine blk_drewN ?_ _ | refine blk_drew ?_ | refine blk_alloc ?_ _)); exact BK118.out) hb); have n4_ := Aside0.mk (below_step (by repeat (first | (with_reducible first | exact HB.out | apply zbA | apply zbB | apply zbC | refine below_set ?_ GE111.out | refine below_set ?_ GE118.out) | exact HB.out)) hb); clear HO_11; clear HO_20; clear BK111; clear BK118; clear HB; have HO_11 := n0_; have HO_20 := n1_; have BK111 := n2_; have BK118 := n3_; have HB := n4_; clear n0_ n1_ n2_ n3_ n4_; (try clear hb); have hcz60_0 : w59.cell? ⟨gb118, 0, none⟩ = some (.int .i64 t112) := (blk_cell BK118.out 0).trans rfl; have hcz60_1 : w59.cell? ⟨gb118, 1, none⟩ = some (.int .i64 t113) := (blk_cell BK118.out 1).trans rfl; have hcz60_2 : w59.cell? ⟨gb118, 2, none⟩ = some (.int .i64 t114) := (blk_cell BK118.out 2).trans rfl; have hcz60_3 : w59.cell? ⟨gb118, 3, none⟩ = some (.int .i64 t115) := (blk_cell BK118.out 3).trans rfl; have hcz60_4 : w59.cell? ⟨gb118, 4, none⟩ = some (.int .i64 t116) := (blk_cell BK118.out 4).trans rfl; have hfz60_0 := blk_frozen BK118.out 0; have hfz60_1 := blk_frozen BK118.out 1; have hfz60_2 := blk_frozen BK118.out 2; have hfz60_3 := blk_frozen BK118.out 3; have hfz60_4 := blk_frozen BK118.out 4))
         go_meet
         case rel => exact ⟨_, ((t112 != t102)), (by first | rfl | (simp; done) | (simp [*]; done)), H', ⟨by have := HJ14.out; first | omega | exact Nat.le_refl _⟩, ⟨by (with_reducible repeat (first | apply zkA | apply zkB | apply zkC)); exact HO_11.out⟩, ⟨by (with_reducible repeat (first | apply zkA | apply zkB | apply zkC)); exact HO_20.out⟩, ⟨by (with_reducible repeat (first | refine blk_drewN ?_ _ | refine blk_drew ?_ | refine blk_alloc ?_ _)); exact BK111.out⟩, ⟨by (with_reducible repeat (first | refine blk_drewN ?_ _ | refine blk_drew ?_ | refine blk_alloc ?_ _)); exact BK118.out⟩, ⟨by repeat (first | (with_reducible first | exact HB.out | apply zbA | apply zbB | apply zbC | refine below_set ?_ GE111.out | refine below_set ?_ GE118.out) | exact HB.out)⟩⟩
       ·replace c56 := Bool.eq_false_iff.mpr c56
        subst c56
        rw [if_neg (show ¬ (false = true) by decide)] at H
        exact absurd H (by simp)
      ·replace c54 := Bool.eq_false_iff.mpr c54
       subst c54
       rw [if_neg (show ¬ (false = true) by decide)] at H
       as_aux_lemma =>
        have H' := Aside0.mk H
        clear H
        go_wp2
        go_meet
        case rel => exact ⟨_, (false), (by first | rfl | (simp; done) | (simp [*]; done)), H', ⟨by have := HJ14.out; first | omega | exact Nat.le_refl _⟩, ⟨by (with_reducible repeat (first | apply zkA | apply zkB | apply zkC)); exact HO_11.out⟩, ⟨by (with_reducible repeat (first | apply zkA | apply zkB | apply zkC)); exact HO_20.out⟩, ⟨by (with_reducible repeat (first | refine blk_drewN ?_ _ | refine blk_drew ?_ | refine blk_alloc ?_ _)); exact BK111.out⟩, ⟨by (with_reducible repeat (first | refine blk_drewN ?_ _ | refine blk_drew ?_ | refine blk_alloc ?_ _)); exact BK118.out⟩, ⟨by repeat (first | (with_reducible first | exact HB.out | apply zbA | apply zbB | apply zbC | refine below_set ?_ GE111.out | refine below_set ?_ GE118.out) | exact HB.out)⟩⟩
     case rest =>
      clear HC53
      try clear c1
      try clear c2
      try clear p2
      try clear c3
      try clear c3b0
      try clear c4
      try clear c5
      try clear p6
      try clear c18
      try clear c19
      try clear c20
      try clear c21
      try clear c22
      try clear c23
      try clear c24
      try clear c25
      try clear c26
      try clear c27
      try clear c28
      try clear c35
      try clear c35b0
      try clear c35b1
      try clear c35b2
      try clear c36
      try clear c36b0
      try clear c37
      try clear c37b0
      try clear c37b1
      try clear c37b2
      try clear c38
      try clear c38b0
      try clear c38b1
      try clear c39
      try clear c39b0
      try clear c39b1
      try clear c40
      try clear c40b0
      try clear c40b1
      try clear c41
      try clear c41b0
      try clear c41b1
      try clear c41b2
      try clear c42
      try clear c42b0
      try clear c42b1
      try clear c43
      try clear c43b0
      try clear c43b1
      try clear c43b2
      try clear c44
      try clear c44b0
      try clear c44b1
      try clear c44b2
      try clear c45
      try clear c46
      try clear c49
      try clear c52
      try clear c54
      try clear c56
      try clear c57
      try clear hcz20_0
      try clear hcz20_1
      try clear hcz20_2
      try clear hcz20_3
      try clear hcz20_4
      try clear hcz24_0
      try clear hcz24_1
      try clear hcz24_2
      try clear hcz24_3
      try clear hcz24_4
      try clear hcz47_0
      try clear hcz47_1
      try clear hcz47_2
      try clear hcz47_3
      try clear hcz47_4
      try clear hcz48_0
      try clear hcz48_1
      try clear hcz48_2
      try clear hcz48_3
      try clear hcz48_4
      try clear hcz50_0
      try clear hcz50_1
      try clear hcz50_2
      try clear hcz50_3
      try clear hcz50_4
      try clear hcz51_0
      try clear hcz51_1
      try clear hcz51_2
      try clear hcz51_3
      try clear hcz51_4
      try clear hcz58_0
      try clear hcz58_1
      try clear hcz58_2
      try clear hcz58_3
      try clear hcz58_4
      try clear hcz60_0
      try clear hcz60_1
      try clear hcz60_2
      try clear hcz60_3
      try clear hcz60_4
      try clear hfz20_0
      try clear hfz20_1
      try clear hfz20_2
      try clear hfz20_3
      try clear hfz20_4
      try clear hfz24_0
      try clear hfz24_1
      try clear hfz24_2
      try clear hfz24_3
      try clear hfz24_4
      try clear hfz47_0
      try clear hfz47_1
      try clear hfz47_2
      try clear hfz47_3
      try clear hfz47_4
      try clear hfz48_0
      try clear hfz48_1
      try clear hfz48_2
      try clear hfz48_3
      try clear hfz48_4
      try clear hfz50_0
      try clear hfz50_1
      try clear hfz50_2
      try clear hfz50_3
      try clear hfz50_4
      try clear hfz51_0
      try clear hfz51_1
      try clear hfz51_2
      try clear hfz51_3
      try clear hfz51_4
      try clear hfz58_0
      try clear hfz58_1
      try clear hfz58_2
      try clear hfz58_3
      try clear hfz58_4
      try clear hfz60_0
      try clear hfz60_1
      try clear hfz60_2
      try clear hfz60_3
      try clear hfz60_4
      try clear p2
      try clear p6
      obtain ⟨kq, x176_52, rfl, HA, HJ52, HO_11, HO_20, BK111, BK118, HB⟩ := hcut
      cases kq with
      | zero => exact absurd HA.out (by simp [laws_FnKeyframes.j1])
      | succ kj52 =>
       have H := HA.out
       clear HA
       simp only [laws_FnKeyframes.j1] at H
       by_cases c61 : x176_52 = true
       ·subst c61
        rw [if_pos rfl] at H
        exact absurd H (by simp)
       ·replace c61 := Bool.eq_false_iff.mpr c61
        subst c61
        rw [if_neg (show ¬ (false = true) by decide)] at H
        have HC62 := Aside0.mk H
        clear H
        go_upto_if 177 with (fail)
        go_cut [] (fun wc => ∃ (kq : Nat), Aside0 (laws_FnKeyframes.j5 kq t130 t131 t134 t135 t136 t140 = some r) ∧ Aside0 (kq ≤ kj52) ∧ Aside0 (Kd.R k52 52 wc w.heap.size (fun k_ => k_ ≠ gb111 ∧ k_ ≠ gb118) (.slice Ao30 t130.length co30) t130) ∧ Aside0 (wc.heap[gb111]? = some (.cells #[.int .i64 t105, .int .i64 t106, .int .i64 t107, .int .i64 t108, .int .i64 t109] 52 (0, 0))) ∧ Aside0 (wc.heap[gb118]? = some (.cells #[.int .i64 t112, .int .i64 t113, .int .i64 t114, .int .i64 t115, .int .i64 t116] 52 (0, 0))) ∧ Aside0 (Below w.heap.size w wc))
        case first =>
         have H := HC62.out
         clear HC62
         by_cases c63 : t125 = true
         ·subst c63
          rw [if_pos rfl] at H
          have HC64 := Aside0.mk H
          clear H
          go_upto_region 19 with (fail)
          go_cut [194] (fun v194 wc => ∃ (kq : Nat) (x194_63 : Bool), v194 = .bool x194_63 ∧ Aside0 (laws_FnKeyframes.j2 kq t119 t127 t130 t131 t134 t135 t136 t140 x194_63 = some r) ∧ Aside0 (kq ≤ kj52) ∧ Aside0 (Kd.R k52 52 wc w.heap.size (fun k_ => some k_ ≠ ((.slice Ao30 t130.length co30) : Value).ownBlock ∧ k_ ≠ gb111 ∧ k_ ≠ gb118) (.slice Ao26 t119.length co26) t119) ∧ Aside0 (Kd.R k52 52 wc w.heap.size (fun k_ => some k_ ≠ ((.slice Ao26 t119.length co26) : Value).ownBlock ∧ k_ ≠ gb111 ∧ k_ ≠ gb118) (.slice Ao30 t130.length co30) t130) ∧ Aside0 (wc.heap[gb111]? = some (.cells #[.int .i64 t105, .int .i64 t106, .int .i64 t107, .int .i64 t108, .int .i64 t109] 52 (0, 0))) ∧ Aside0 (wc.heap[gb118]? = some (.cells #[.int .i64 t112, .int .i64 t113, .int .i64 t114, .int .i64 t115, .int .i64 t116] 52 (0, 0))) ∧ Aside0 (Below w.heap.size w wc))
          case first =>
           have H := HC64.out
           clear HC64
           by_cases c65 : t126 < 0
           ·rw [if_pos c65] at H
            exact absurd H (by simp)
           ·rw [if_neg c65] at H
            have c65b0 : decide (t126 < 0) = false := decide_eq_false c65
            clear c65
            (first | rw [c65b0] | (simp only [i64_w, i32_w]; rw [c65b0]) | skip)
            by_cases c66 : t126 > (wrap64 ((t119.length : Int) - 2))
            ·rw [if_pos c66] at H
             exact absurd H (by simp)
            ·rw [if_neg c66] at H
             have c66b0 : decide ((wrap64 ((t119.length : Int) - 2)) < t126) = false := decide_eq_false c66
             clear c66
             by_cases c67 : t128 < 0
             ·rw [if_pos c67] at H
              exact absurd H (by simp)
             ·rw [if_neg c67] at H
              have c67b0 : decide (t128 < 0) = false := decide_eq_false c67
              clear c67
              as_aux_lemma =>
               have H' := Aside0.mk H
               clear H
               go_wp2
               go_meet
               case rel => exact ⟨_, (decide (t128 ≥ 4)), (by first | rfl | (simp; done) | (simp [*]; done)), H', ⟨by have := HJ14.out; have := HJ52.out; first | omega | exact Nat.le_refl _⟩, ⟨by (with_reducible repeat (first | apply zkA | apply zkB | apply zkC)); exact HO_11.out⟩, ⟨by (with_reducible repeat (first | apply zkA | apply zkB | apply zkC)); exact HO_20.out⟩, ⟨by (with_reducible repeat (first | refine blk_drewN ?_ _ | refine blk_drew ?_ | refine blk_alloc ?_ _)); exact BK111.out⟩, ⟨by (with_reducible repeat (first | refine blk_drewN ?_ _ | refine blk_drew ?_ | refine blk_alloc ?_ _)); exact BK118.out⟩, ⟨by repeat (first | (with_reducible first | exact HB.out | apply zbA | apply zbB | apply zbC | refine below_set ?_ GE111.out | refine below_set ?_ GE118.out) | exact HB.out)⟩⟩
          case rest =>
           clear HC64
           try clear c1
           try clear c2
           try clear p2
           try clear c3
           try clear c3b0
           try clear c4
           try clear c5
           try clear c6
           try clear p6
           try clear c18
           try clear c19
           try clear c20
           try clear c21
           try clear c22
           try clear c23
           try clear c24
           try clear c25
           try clear c26
           try clear c27
           try clear c28
           try clear c35
           try clear c35b0
           try clear c35b1
           try clear c35b2
           try clear c36
           try clear c36b0
           try clear c37
           try clear c37b0
           try clear c37b1
           try clear c37b2
           try clear c38
           try clear c38b0
           try clear c38b1
           try clear c39
           try clear c39b0
           try clear c39b1
           try clear c40
           try clear c40b0
           try clear c40b1
           try clear c41
           try clear c41b0
           try clear c41b1
           try clear c41b2
           try clear c42
           try clear c42b0
           try clear c42b1
           try clear c43
           try clear c43b0
           try clear c43b1
           try clear c43b2
           try clear c44
           try clear c44b0
           try clear c44b1
           try clear c44b2
           try clear c45
           try clear c46
           try clear c49
           try clear c52
           try clear c54
           try clear c56
           try clear c57
           try clear c61
           try clear c63
           try clear p64
           try clear c65
           try clear c65b0
           try clear c66
           try clear c66b0
           try clear c67
           try clear c67b0
           try clear hcz20_0
           try clear hcz20_1
           try clear hcz20_2
           try clear hcz20_3
           try clear hcz20_4
           try clear hcz24_0
           try clear hcz24_1
           try clear hcz24_2
           try clear hcz24_3
           try clear hcz24_4
           try clear hcz47_0
           try clear hcz47_1
           try clear hcz47_2
           try clear hcz47_3
           try clear hcz47_4
           try clear hcz48_0
           try clear hcz48_1
           try clear hcz48_2
           try clear hcz48_3
           try clear hcz48_4
           try clear hcz50_0
           try clear hcz50_1
           try clear hcz50_2
           try clear hcz50_3
           try clear hcz50_4
           try clear hcz51_0
           try clear hcz51_1
           try clear hcz51_2
           try clear hcz51_3
           try clear hcz51_4
           try clear hcz58_0
           try clear hcz58_1
           try clear hcz58_2
           try clear hcz58_3
           try clear hcz58_4
           try clear hcz60_0
           try clear hcz60_1
           try clear hcz60_2
           try clear hcz60_3
           try clear hcz60_4
           try clear hfz20_0
           try clear hfz20_1
           try clear hfz20_2
           try clear hfz20_3
           try clear hfz20_4
           try clear hfz24_0
           try clear hfz24_1
           try clear hfz24_2
           try clear hfz24_3
           try clear hfz24_4
           try clear hfz47_0
           try clear hfz47_1
           try clear hfz47_2
           try clear hfz47_3
           try clear hfz47_4
           try clear hfz48_0
           try clear hfz48_1
           try clear hfz48_2
           try clear hfz48_3
           try clear hfz48_4
           try clear hfz50_0
           try clear hfz50_1
           try clear hfz50_2
           try clear hfz50_3
           try clear hfz50_4
           try clear hfz51_0
           try clear hfz51_1
           try clear hfz51_2
           try clear hfz51_3
           try clear hfz51_4
           try clear hfz58_0
           try clear hfz58_1
           try clear hfz58_2
           try clear hfz58_3
           try clear hfz58_4
           try clear hfz60_0
           try clear hfz60_1
           try clear hfz60_2
           try clear hfz60_3
           try clear hfz60_4
           try clear p2
           try clear p6
           obtain ⟨kq, x194_63, rfl, HA, HJ63, HO_11, HO_20, BK111, BK118, HB⟩ := hcut
           cases kq with
           | zero => exact absurd HA.out (by simp [laws_FnKeyframes.j2])
           | succ kj63 =>
            have H := HA.out
            clear HA
            simp only [laws_FnKeyframes.j2] at H
            by_cases c68 : x194_63 = true
            ·subst c68
             rw [if_pos rfl] at H
             exact absurd H (by simp)
            ·replace c68 := Bool.eq_false_iff.mpr c68
             subst c68
             rw [if_neg (show ¬ (false = true) by decide)] at H
             have HC69 := Aside0.mk H
             clear H
             go_upto_region 21 with (fail)
             go_cut [200] (fun v200 wc => ∃ (kq : Nat) (x200_68 : Bool), v200 = .bool x200_68 ∧ Aside0 (laws_FnKeyframes.j3 kq t119 t127 t130 t131 t134 t135 t136 t140 x200_68 = some r) ∧ Aside0 (kq ≤ kj63) ∧ Aside0 (Kd.R k52 52 wc w.heap.size (fun k_ => some k_ ≠ ((.slice Ao30 t130.length co30) : Value).ownBlock ∧ k_ ≠ gb111 ∧ k_ ≠ gb118) (.slice Ao26 t119.length co26) t119) ∧ Aside0 (Kd.R k52 52 wc w.heap.size (fun k_ => some k_ ≠ ((.slice Ao26 t119.length co26) : Value).ownBlock ∧ k_ ≠ gb111 ∧ k_ ≠ gb118) (.slice Ao30 t130.length co30) t130) ∧ Aside0 (wc.heap[gb111]? = some (.cells #[.int .i64 t105, .int .i64 t106, .int .i64 t107, .int .i64 t108, .int .i64 t109] 52 (0, 0))) ∧ Aside0 (wc.heap[gb118]? = some (.cells #[.int .i64 t112, .int .i64 t113, .int .i64 t114, .int .i64 t115, .int .i64 t116] 52 (0, 0))) ∧ Aside0 (Below w.heap.size w wc))
             case first =>
              have H := HC69.out
              clear HC69
              by_cases c70 : t127 ≥ 1
              ·rw [if_pos c70] at H
               have c70b0 : decide (1 ≤ t127) = true := decide_eq_true c70
               clear c70
               (first | rw [c70b0] | (simp only [i64_w, i32_w]; rw [c70b0]) | skip)
               as_aux_lemma =>
                have H' := Aside0.mk H
                clear H
                go_wp2
                go_meet
                case rel => exact ⟨_, (decide (t127 ≤ 360)), (by first | rfl | (simp; done) | (simp [*]; done)), H', ⟨by have := HJ14.out; have := HJ52.out; have := HJ63.out; first | omega | exact Nat.le_refl _⟩, ⟨by (with_reducible repeat (first | apply zkA | apply zkB | apply zkC)); exact HO_11.out⟩, ⟨by (with_reducible repeat (first | apply zkA | apply zkB | apply zkC)); exact HO_20.out⟩, ⟨by (with_reducible repeat (first | refine blk_drewN ?_ _ | refine blk_drew ?_ | refine blk_alloc ?_ _)); exact BK111.out⟩, ⟨by (with_reducible repeat (first | refine blk_drewN ?_ _ | refine blk_drew ?_ | refine blk_alloc ?_ _)); exact BK118.out⟩, ⟨by repeat (first | (with_reducible first | exact HB.out | apply zbA | apply zbB | apply zbC | refine below_set ?_ GE111.out | refine below_set ?_ GE118.out) | exact HB.out)⟩⟩
              ·rw [if_neg c70] at H
               have c70b0 : decide (1 ≤ t127) = false := decide_eq_false c70
               clear c70
               (first | rw [c70b0] | (simp only [i64_w, i32_w]; rw [c70b0]) | skip)
               as_aux_lemma =>
                have H' := Aside0.mk H
                clear H
                go_wp2
                go_meet
                case rel => exact ⟨_, (false), (by first | rfl | (simp; done) | (simp [*]; done)), H', ⟨by have := HJ14.out; have := HJ52.out; have := HJ63.out; first | omega | exact Nat.le_refl _⟩, ⟨by (with_reducible repeat (first | apply zkA | apply zkB | apply zkC)); exact HO_11.out⟩, ⟨by (with_reducible repeat (first | apply zkA | apply zkB | apply zkC)); exact HO_20.out⟩, ⟨by (with_reducible repeat (first | refine blk_drewN ?_ _ | refine blk_drew ?_ | refine blk_alloc ?_ _)); exact BK111.out⟩, ⟨by (with_reducible repeat (first | refine blk_drewN ?_ _ | refine blk_drew ?_ | refine blk_alloc ?_ _)); exact BK118.out⟩, ⟨by repeat (first | (with_reducible first | exact HB.out | apply zbA | apply zbB | apply zbC | refine below_set ?_ GE111.out | refine below_set ?_ GE118.out) | exact HB.out)⟩⟩
             case rest =>
              clear HC69
              try clear c1
              try clear c2
              try clear p2
              try clear c3
              try clear c3b0
              try clear c4
              try clear c5
              try clear c6
              try clear p6
              try clear c7
              try clear c18
              try clear c19
              try clear c20
              try clear c21
              try clear c22
              try clear c23
              try clear c24
              try clear c25
              try clear c26
              try clear c27
              try clear c28
              try clear c35
              try clear c35b0
              try clear c35b1
              try clear c35b2
              try clear c36
              try clear c36b0
              try clear c37
              try clear c37b0
              try clear c37b1
              try clear c37b2
              try clear c38
              try clear c38b0
              try clear c38b1
              try clear c39
              try clear c39b0
              try clear c39b1
              try clear c40
              try clear c40b0
              try clear c40b1
              try clear c41
              try clear c41b0
              try clear c41b1
              try clear c41b2
              try clear c42
              try clear c42b0
              try clear c42b1
              try clear c43
              try clear c43b0
              try clear c43b1
              try clear c43b2
              try clear c44
              try clear c44b0
              try clear c44b1
              try clear c44b2
              try clear c45
              try clear c46
              try clear c49
              try clear c52
              try clear c54
              try clear c56
              try clear c57
              try clear c61
              try clear c63
              try clear p64
              try clear c65
              try clear c65b0
              try clear c66
              try clear c66b0
              try clear c67
              try clear c67b0
              try clear c68
              try clear c70
              try clear c70b0
              try clear hcz20_0
              try clear hcz20_1
              try clear hcz20_2
              try clear hcz20_3
              try clear hcz20_4
              try clear hcz24_0
              try clear hcz24_1
              try clear hcz24_2
              try clear hcz24_3
              try clear hcz24_4
              try clear hcz47_0
              try clear hcz47_1
              try clear hcz47_2
              try clear hcz47_3
              try clear hcz47_4
              try clear hcz48_0
              try clear hcz48_1
              try clear hcz48_2
              try clear hcz48_3
              try clear hcz48_4
              try clear hcz50_0
              try clear hcz50_1
              try clear hcz50_2
              try clear hcz50_3
              try clear hcz50_4
              try clear hcz51_0
              try clear hcz51_1
              try clear hcz51_2
              try clear hcz51_3
              try clear hcz51_4
              try clear hcz58_0
              try clear hcz58_1
              try clear hcz58_2
              try clear hcz58_3
              try clear hcz58_4
              try clear hcz60_0
              try clear hcz60_1
              try clear hcz60_2
              try clear hcz60_3
              try clear hcz60_4
              try clear hfz20_0
              try clear hfz20_1
              try clear hfz20_2
              try clear hfz20_3
              try clear hfz20_4
              try clear hfz24_0
              try clear hfz24_1
              try clear hfz24_2
              try clear hfz24_3
              try clear hfz24_4
              try clear hfz47_0
              try clear hfz47_1
              try clear hfz47_2
              try clear hfz47_3
              try clear hfz47_4
              try clear hfz48_0
              try clear hfz48_1
              try clear hfz48_2
              try clear hfz48_3
              try clear hfz48_4
              try clear hfz50_0
              try clear hfz50_1
              try clear hfz50_2
              try clear hfz50_3
              try clear hfz50_4
              try clear hfz51_0
              try clear hfz51_1
              try clear hfz51_2
              try clear hfz51_3
              try clear hfz51_4
              try clear hfz58_0
              try clear hfz58_1
              try clear hfz58_2
              try clear hfz58_3
              try clear hfz58_4
              try clear hfz60_0
              try clear hfz60_1
              try clear hfz60_2
              try clear hfz60_3
              try clear hfz60_4
              try clear p2
              try clear p6
              try clear p64
              obtain ⟨kq, x200_68, rfl, HA, HJ68, HO_11, HO_20, BK111, BK118, HB⟩ := hcut
              cases kq with
              | zero => exact absurd HA.out (by simp [laws_FnKeyframes.j3])
              | succ kj68 =>
               have H := HA.out
               clear HA
               simp only [laws_FnKeyframes.j3] at H
               by_cases c71 : x200_68 = true
               ·subst c71
                rw [if_pos rfl] at H
                replace H := Option.bind_eq_some_iff.mp H
                obtain ⟨⟨t143, t144⟩, A720, H⟩ := H
                try dsimp only at H
                have A72 := Aside0.mk A720
                clear A720
                have HC73 := Aside0.mk H
                clear H
                go_upto_region 23 with (first | ((with_reducible refine gate_callee (f := 27) rfl ?_); refine goesM_ (some 204) Try.func27 #[.slice Ao26 t119.length co26, .int .i64 t127] ?_; (with_reducible refine (impl_KeepsSpeed.calls kj68 _ _ t119 t127 t143 t144 _ ?side1 ?side2 A72.out).mono ?_); (case side1 => repeat (first | exact (Kd.R_reads' HO_11.out).2.2 | (with_reducible refine Kd.C_alloc ?_ _) | (with_reducible refine Kd.C_drewN ?_ _) | (with_reducible refine Kd.C_drew ?_))); (case side2 => exact (Kd.R_reads' HO_11.out).2.1); rintro e w74 ⟨rfl, hb⟩; refine ⟨_, rfl, ?_⟩; have n0_ := Aside0.mk (Kd.R_below (by (with_reducible repeat (first | apply zkA | apply zkB | apply zkC)); exact HO_11.out) hb); have n1_ := Aside0.mk (Kd.R_below (by (with_reducible repeat (first | apply zkA | apply zkB | apply zkC)); exact HO_20.out) hb); have n2_ := Aside0.mk (blk_below (g := gb111) (o := .cells #[.int .i64 t105, .int .i64 t106, .int .i64 t107, .int .i64 t108, .int .i64 t109] 52 (0, 0)) (by (with_reducible repeat (first | refine blk_drewN ?_ _ | refine blk_drew ?_ | refine blk_alloc ?_ _)); exact BK111.out) hb); have n3_ := Aside0.mk (blk_below (g := gb118) (o := .cells #[.int .i64 t112, .int .i64 t113, .int .i64 t114, .int .i64 t115, .int .i64 t116] 52 (0, 0)) (by (with_reducible repeat (first | refine blk_drewN ?_ _ | refine blk_drew ?_ | refine blk_alloc ?_ _)); exact BK118.out) hb); have n4_ := Aside0.mk (below_step (by repeat (first | (with_reducible first | exact HB.out | apply zbA | apply zbB | apply zbC | refine below_set ?_ GE111.out | refine below_set ?_ GE118.out) | exact HB.out)) hb); clear HO_11; clear HO_20; clear BK111; clear BK118; clear HB; have HO_11 := n0_; have HO_20 := n1_; have BK111 := n2_; have BK118 := n3_; have HB := n4_; clear n0_ n1_ n2_ n3_ n4_; (try clear hb)))
                (try simp only [Act.put, List.setIfInBounds_toArray, List.set_cons_zero, List.set_cons_succ])
                go_cut [212] (fun v212 wc => ∃ (kq : Nat) (x212_72 : Bool), v212 = .bool x212_72 ∧ Aside0 (laws_FnKeyframes.j4 kq t119 t127 t130 t131 t134 t135 t136 t140 x212_72 = some r) ∧ Aside0 (kq ≤ kj68) ∧ Aside0 (Kd.R k52 52 wc w.heap.size (fun k_ => some k_ ≠ ((.slice Ao30 t130.length co30) : Value).ownBlock ∧ k_ ≠ gb111 ∧ k_ ≠ gb118) (.slice Ao26 t119.length co26) t119) ∧ Aside0 (Kd.R k52 52 wc w.heap.size (fun k_ => some k_ ≠ ((.slice Ao26 t119.length co26) : Value).ownBlock ∧ k_ ≠ gb111 ∧ k_ ≠ gb118) (.slice Ao30 t130.length co30) t130) ∧ Aside0 (wc.heap[gb111]? = some (.cells #[.int .i64 t105, .int .i64 t106, .int .i64 t107, .int .i64 t108, .int .i64 t109] 52 (0, 0))) ∧ Aside0 (wc.heap[gb118]? = some (.cells #[.int .i64 t112, .int .i64 t113, .int .i64 t114, .int .i64 t115, .int .i64 t116] 52 (0, 0))) ∧ Aside0 (Below w.heap.size w wc))
                case first =>
                 have H := HC73.out
                 clear HC73
                 by_cases c75 : t144 = true
                 ·subst c75
                  rw [if_pos rfl] at H
                  as_aux_lemma =>
                   have H' := Aside0.mk H
                   clear H
                   go_wp2
                   go_meet
                   case rel => exact ⟨_, (!t143), (by first | rfl | (simp; done) | (simp [*]; done)), H', ⟨by have := HJ14.out; have := HJ52.out; have := HJ63.out; have := HJ68.out; first | omega | exact Nat.le_refl _⟩, ⟨by (with_reducible repeat (first | apply zkA | apply zkB | apply zkC)); exact HO_11.out⟩, ⟨by (with_reducible repeat (first | apply zkA | apply zkB | apply zkC)); exact HO_20.out⟩, ⟨by (with_reducible repeat (first | refine blk_drewN ?_ _ | refine blk_drew ?_ | refine blk_alloc ?_ _)); exact BK111.out⟩, ⟨by (with_reducible repeat (first | refine blk_drewN ?_ _ | refine blk_drew ?_ | refine blk_alloc ?_ _)); exact BK118.out⟩, ⟨by repeat (first | (with_reducible first | exact HB.out | apply zbA | apply zbB | apply zbC | refine below_set ?_ GE111.out | refine below_set ?_ GE118.out) | exact HB.out)⟩⟩
                 ·replace c75 := Bool.eq_false_iff.mpr c75
                  subst c75
                  rw [if_neg (show ¬ (false = true) by decide)] at H
                  exact absurd H (by simp)
                case rest =>
                 clear HC73
                 try clear c1
                 try clear c2
                 try clear p2
                 try clear c3
                 try clear c3b0
                 try clear c4
                 try clear c5
                 try clear c6
                 try clear p6
                 try clear c7
                 try clear c18
                 try clear c19
                 try clear c20
                 try clear c21
                 try clear c22
                 try clear c23
                 try clear c24
                 try clear c25
                 try clear c26
                 try clear c27
                 try clear c28
                 try clear c35
                 try clear c35b0
                 try clear c35b1
                 try clear c35b2
                 try clear c36
                 try clear c36b0
                 try clear c37
                 try clear c37b0
                 try clear c37b1
                 try clear c37b2
                 try clear c38
                 try clear c38b0
                 try clear c38b1
                 try clear c39
                 try clear c39b0
                 try clear c39b1
                 try clear c40
                 try clear c40b0
                 try clear c40b1
                 try clear c41
                 try clear c41b0
                 try clear c41b1
                 try clear c41b2
                 try clear c42
                 try clear c42b0
                 try clear c42b1
                 try clear c43
                 try clear c43b0
                 try clear c43b1
                 try clear c43b2
                 try clear c44
                 try clear c44b0
                 try clear c44b1
                 try clear c44b2
                 try clear c45
                 try clear c46
                 try clear c49
                 try clear c52
                 try clear c54
                 try clear c56
                 try clear c57
                 try clear c61
                 try clear c63
                 try clear p64
                 try clear c65
                 try clear c65b0
                 try clear c66
                 try clear c66b0
                 try clear c67
                 try clear c67b0
                 try clear c68
                 try clear c70
                 try clear c70b0
                 try clear c71
                 try clear c75
                 try clear hcz20_0
                 try clear hcz20_1
                 try clear hcz20_2
                 try clear hcz20_3
                 try clear hcz20_4
                 try clear hcz24_0
                 try clear hcz24_1
                 try clear hcz24_2
                 try clear hcz24_3
                 try clear hcz24_4
                 try clear hcz47_0
                 try clear hcz47_1
                 try clear hcz47_2
                 try clear hcz47_3
                 try clear hcz47_4
                 try clear hcz48_0
                 try clear hcz48_1
                 try clear hcz48_2
                 try clear hcz48_3
                 try clear hcz48_4
                 try clear hcz50_0
                 try clear hcz50_1
                 try clear hcz50_2
                 try clear hcz50_3
                 try clear hcz50_4
                 try clear hcz51_0
                 try clear hcz51_1
                 try clear hcz51_2
                 try clear hcz51_3
                 try clear hcz51_4
                 try clear hcz58_0
                 try clear hcz58_1
                 try clear hcz58_2
                 try clear hcz58_3
                 try clear hcz58_4
                 try clear hcz60_0
                 try clear hcz60_1
                 try clear hcz60_2
                 try clear hcz60_3
                 try clear hcz60_4
                 try clear hfz20_0
                 try clear hfz20_1
                 try clear hfz20_2
                 try clear hfz20_3
                 try clear hfz20_4
                 try clear hfz24_0
                 try clear hfz24_1
                 try clear hfz24_2
                 try clear hfz24_3
                 try clear hfz24_4
                 try clear hfz47_0
                 try clear hfz47_1
                 try clear hfz47_2
                 try clear hfz47_3
                 try clear hfz47_4
                 try clear hfz48_0
                 try clear hfz48_1
                 try clear hfz48_2
                 try clear hfz48_3
                 try clear hfz48_4
                 try clear hfz50_0
                 try clear hfz50_1
                 try clear hfz50_2
                 try clear hfz50_3
                 try clear hfz50_4
                 try clear hfz51_0
                 try clear hfz51_1
                 try clear hfz51_2
                 try clear hfz51_3
                 try clear hfz51_4
                 try clear hfz58_0
                 try clear hfz58_1
                 try clear hfz58_2
                 try clear hfz58_3
                 try clear hfz58_4
                 try clear hfz60_0
                 try clear hfz60_1
                 try clear hfz60_2
                 try clear hfz60_3
                 try clear hfz60_4
                 try clear p2
                 try clear p6
                 try clear p64
                 obtain ⟨kq, x212_72, rfl, HA, HJ72, HO_11, HO_20, BK111, BK118, HB⟩ := hcut
                 cases kq with
                 | zero => exact absurd HA.out (by simp [laws_FnKeyframes.j4])
                 | succ kj72 =>
                  have H := HA.out
                  clear HA
                  simp only [laws_FnKeyframes.j4] at H
                  by_cases c76 : x212_72 = true
                  ·subst c76
                   rw [if_pos rfl] at H
                   exact absurd H (by simp)
                  ·replace c76 := Bool.eq_false_iff.mpr c76
                   subst c76
                   rw [if_neg (show ¬ (false = true) by decide)] at H
                   by_cases c77 : t127 > 1
                   ·rw [if_pos c77] at H
                    have c77b0 : decide (1 < t127) = true := decide_eq_true c77
                    clear c77
                    replace H := Option.bind_eq_some_iff.mp H
                    obtain ⟨⟨t145, t146⟩, A780, H⟩ := H
                    try dsimp only at H
                    have A78 := Aside0.mk A780
                    clear A780
                    by_cases c79 : t146 = true
                    ·subst c79
                     rw [if_pos rfl] at H
                     by_cases c80 : t145 = true
                     ·subst c80
                      rw [if_pos rfl] at H
                      exact absurd H (by simp)
                     ·replace c80 := Bool.eq_false_iff.mpr c80
                      subst c80
                      rw [if_neg (show ¬ (false = true) by decide)] at H
                      as_aux_lemma =>
                       have H' := Aside0.mk H
                       clear H
                       go_wp2_with (first | ((with_reducible refine gate_callee (f := 27) rfl ?_); refine goesM_ (some 219) Try.func27 #[.slice Ao26 t119.length co26, .int .i64 (wrap64 (t127 - 1))] ?_; (with_reducible refine (impl_KeepsSpeed.calls kj72 _ _ t119 (wrap64 (t127 - 1)) false true _ ?side1 ?side2 A78.out).mono ?_); (case side1 => repeat (first | exact (Kd.R_reads' HO_11.out).2.2 | (with_reducible refine Kd.C_alloc ?_ _) | (with_reducible refine Kd.C_drewN ?_ _) | (with_reducible refine Kd.C_drew ?_))); (case side2 => exact (Kd.R_reads' HO_11.out).2.1); rintro e w81 ⟨rfl, hb⟩; refine ⟨_, rfl, ?_⟩; have n0_ := Aside0.mk (Kd.R_below (by (with_reducible repeat (first | apply zkA | apply zkB | apply zkC)); exact HO_11.out) hb); have n1_ := Aside0.mk (Kd.R_below (by (with_reducible repeat (first | apply zkA | apply zkB | apply zkC)); exact HO_20.out) hb); have n2_ := Aside0.mk (blk_below (g := gb111) (o := .cells #[.int .i64 t105, .int .i64 t106, .int .i64 t107, .int .i64 t108, .int .i64 t109] 52 (0, 0)) (by (with_reducible repeat (first | refine blk_drewN ?_ _ | refine blk_drew ?_ | refine blk_alloc ?_ _)); exact BK111.out) hb); have n3_ := Aside0.mk (blk_below (g := gb118) (o := .cells #[.int .i64 t112, .int .i64 t113, .int .i64 t114, .int .i64 t115, .int .i64 t116] 52 (0, 0)) (by (with_reducible repeat (first | refine blk_drewN ?_ _ | refine blk_drew ?_ | refine blk_alloc ?_ _)); exact BK118.out) hb); have n4_ := Aside0.mk (below_step (by repeat (first | (with_reducible first | exact HB.out | apply zbA | apply zbB | apply zbC | refine below_set ?_ GE111.out | refine below_set ?_ GE118.out) | exact HB.out)) hb); clear HO_11; clear HO_20; clear BK111; clear BK118; clear HB; have HO_11 := n0_; have HO_20 := n1_; have BK111 := n2_; have BK118 := n3_; have HB := n4_; clear n0_ n1_ n2_ n3_ n4_; (try clear hb)))
                       go_meet
                       case rel => exact ⟨_, H', ⟨by have := HJ14.out; have := HJ52.out; have := HJ63.out; have := HJ68.out; have := HJ72.out; first | omega | exact Nat.le_refl _⟩, ⟨by (with_reducible repeat (first | apply zkA | apply zkB | apply zkC)); exact Kd.R_mono HO_20.out (fun _ hk => ⟨hk.2.1, hk.2.2⟩)⟩, ⟨by (with_reducible repeat (first | refine blk_drewN ?_ _ | refine blk_drew ?_ | refine blk_alloc ?_ _)); exact BK111.out⟩, ⟨by (with_reducible repeat (first | refine blk_drewN ?_ _ | refine blk_drew ?_ | refine blk_alloc ?_ _)); exact BK118.out⟩, ⟨by repeat (first | (with_reducible first | exact HB.out | apply zbA | apply zbB | apply zbC | refine below_set ?_ GE111.out | refine below_set ?_ GE118.out) | exact HB.out)⟩⟩
                    ·replace c79 := Bool.eq_false_iff.mpr c79
                     subst c79
                     rw [if_neg (show ¬ (false = true) by decide)] at H
                     exact absurd H (by simp)
                   ·rw [if_neg c77] at H
                    have c77b0 : decide (1 < t127) = false := decide_eq_false c77
                    clear c77
                    as_aux_lemma =>
                     have H' := Aside0.mk H
                     clear H
                     go_wp2
                     go_meet
                     case rel => exact ⟨_, H', ⟨by have := HJ14.out; have := HJ52.out; have := HJ63.out; have := HJ68.out; have := HJ72.out; first | omega | exact Nat.le_refl _⟩, ⟨by (with_reducible repeat (first | apply zkA | apply zkB | apply zkC)); exact Kd.R_mono HO_20.out (fun _ hk => ⟨hk.2.1, hk.2.2⟩)⟩, ⟨by (with_reducible repeat (first | refine blk_drewN ?_ _ | refine blk_drew ?_ | refine blk_alloc ?_ _)); exact BK111.out⟩, ⟨by (with_reducible repeat (first | refine blk_drewN ?_ _ | refine blk_drew ?_ | refine blk_alloc ?_ _)); exact BK118.out⟩, ⟨by repeat (first | (with_reducible first | exact HB.out | apply zbA | apply zbB | apply zbC | refine below_set ?_ GE111.out | refine below_set ?_ GE118.out) | exact HB.out)⟩⟩
               ·replace c71 := Bool.eq_false_iff.mpr c71
                subst c71
                rw [if_neg (show ¬ (false = true) by decide)] at H
                as_aux_lemma =>
                 have H' := Aside0.mk H
                 clear H
                 go_wp2
                 go_meet
                 case rel => exact ⟨_, H', ⟨by have := HJ14.out; have := HJ52.out; have := HJ63.out; have := HJ68.out; first | omega | exact Nat.le_refl _⟩, ⟨by (with_reducible repeat (first | apply zkA | apply zkB | apply zkC)); exact Kd.R_mono HO_20.out (fun _ hk => ⟨hk.2.1, hk.2.2⟩)⟩, ⟨by (with_reducible repeat (first | refine blk_drewN ?_ _ | refine blk_drew ?_ | refine blk_alloc ?_ _)); exact BK111.out⟩, ⟨by (with_reducible repeat (first | refine blk_drewN ?_ _ | refine blk_drew ?_ | refine blk_alloc ?_ _)); exact BK118.out⟩, ⟨by repeat (first | (with_reducible first | exact HB.out | apply zbA | apply zbB | apply zbC | refine below_set ?_ GE111.out | refine below_set ?_ GE118.out) | exact HB.out)⟩⟩
         ·replace c63 := Bool.eq_false_iff.mpr c63
          subst c63
          rw [if_neg (show ¬ (false = true) by decide)] at H
          as_aux_lemma =>
           have H' := Aside0.mk H
           clear H
           go_wp2
           go_meet
           case rel => exact ⟨_, H', ⟨by have := HJ14.out; have := HJ52.out; first | omega | exact Nat.le_refl _⟩, ⟨by (with_reducible repeat (first | apply zkA | apply zkB | apply zkC)); exact Kd.R_mono HO_20.out (fun _ hk => ⟨hk.2.1, hk.2.2⟩)⟩, ⟨by (with_reducible repeat (first | refine blk_drewN ?_ _ | refine blk_drew ?_ | refine blk_alloc ?_ _)); exact BK111.out⟩, ⟨by (with_reducible repeat (first | refine blk_drewN ?_ _ | refine blk_drew ?_ | refine blk_alloc ?_ _)); exact BK118.out⟩, ⟨by repeat (first | (with_reducible first | exact HB.out | apply zbA | apply zbB | apply zbC | refine below_set ?_ GE111.out | refine below_set ?_ GE118.out) | exact HB.out)⟩⟩
        case rest =>
         clear HC62
         try clear c1
         try clear c2
         try clear p2
         try clear c3
         try clear c3b0
         try clear c4
         try clear c5
         try clear c6
         try clear p6
         try clear c7
         try clear c8
         try clear c18
         try clear c19
         try clear c20
         try clear c21
         try clear c22
         try clear c23
         try clear c24
         try clear c25
         try clear c26
         try clear c27
         try clear c28
         try clear c35
         try clear c35b0
         try clear c35b1
         try clear c35b2
         try clear c36
         try clear c36b0
         try clear c37
         try clear c37b0
         try clear c37b1
         try clear c37b2
         try clear c38
         try clear c38b0
         try clear c38b1
         try clear c39
         try clear c39b0
         try clear c39b1
         try clear c40
         try clear c40b0
         try clear c40b1
         try clear c41
         try clear c41b0
         try clear c41b1
         try clear c41b2
         try clear c42
         try clear c42b0
         try clear c42b1
         try clear c43
         try clear c43b0
         try clear c43b1
         try clear c43b2
         try clear c44
         try clear c44b0
         try clear c44b1
         try clear c44b2
         try clear c45
         try clear c46
         try clear c49
         try clear c52
         try clear c54
         try clear c56
         try clear c57
         try clear c61
         try clear c63
         try clear p64
         try clear c65
         try clear c65b0
         try clear c66
         try clear c66b0
         try clear c67
         try clear c67b0
         try clear c68
         try clear c70
         try clear c70b0
         try clear c71
         try clear c75
         try clear c76
         try clear c77
         try clear c77b0
         try clear c79
         try clear c80
         try clear hcz20_0
         try clear hcz20_1
         try clear hcz20_2
         try clear hcz20_3
         try clear hcz20_4
         try clear hcz24_0
         try clear hcz24_1
         try clear hcz24_2
         try clear hcz24_3
         try clear hcz24_4
         try clear hcz47_0
         try clear hcz47_1
         try clear hcz47_2
         try clear hcz47_3
         try clear hcz47_4
         try clear hcz48_0
         try clear hcz48_1
         try clear hcz48_2
         try clear hcz48_3
         try clear hcz48_4
         try clear hcz50_0
         try clear hcz50_1
         try clear hcz50_2
         try clear hcz50_3
         try clear hcz50_4
         try clear hcz51_0
         try clear hcz51_1
         try clear hcz51_2
         try clear hcz51_3
         try clear hcz51_4
         try clear hcz58_0
         try clear hcz58_1
         try clear hcz58_2
         try clear hcz58_3
         try clear hcz58_4
         try clear hcz60_0
         try clear hcz60_1
         try clear hcz60_2
         try clear hcz60_3
         try clear hcz60_4
         try clear hfz20_0
         try clear hfz20_1
         try clear hfz20_2
         try clear hfz20_3
         try clear hfz20_4
         try clear hfz24_0
         try clear hfz24_1
         try clear hfz24_2
         try clear hfz24_3
         try clear hfz24_4
         try clear hfz47_0
         try clear hfz47_1
         try clear hfz47_2
         try clear hfz47_3
         try clear hfz47_4
         try clear hfz48_0
         try clear hfz48_1
         try clear hfz48_2
         try clear hfz48_3
         try clear hfz48_4
         try clear hfz50_0
         try clear hfz50_1
         try clear hfz50_2
         try clear hfz50_3
         try clear hfz50_4
         try clear hfz51_0
         try clear hfz51_1
         try clear hfz51_2
         try clear hfz51_3
         try clear hfz51_4
         try clear hfz58_0
         try clear hfz58_1
         try clear hfz58_2
         try clear hfz58_3
         try clear hfz58_4
         try clear hfz60_0
         try clear hfz60_1
         try clear hfz60_2
         try clear hfz60_3
         try clear hfz60_4
         try clear p2
         try clear p6
         try clear p64
         obtain ⟨kq, HA, HJ61, HO_20, BK111, BK118, HB⟩ := hcut
         cases kq with
         | zero => exact absurd HA.out (by simp [laws_FnKeyframes.j5])
         | succ kj61 =>
          have H := HA.out
          clear HA
          simp only [laws_FnKeyframes.j5] at H
          by_cases c82 : t135 = true
          ·subst c82
           rw [if_pos rfl] at H
           replace H := Option.bind_eq_some_iff.mp H
           obtain ⟨⟨t147, t148⟩, A830, H⟩ := H
           try dsimp only at H
           have A83 := Aside0.mk A830
           clear A830
           replace H := Option.bind_eq_some_iff.mp H
           obtain ⟨⟨t151, t152⟩, A840, H⟩ := H
           try dsimp only at H
           have A84 := Aside0.mk A840
           clear A840
           have HC85 := Aside0.mk H
           clear H
           go_upto_region 32 with (first | ((with_reducible refine gate_callee (f := 30) rfl ?_); refine goesM_ (some 231) Try.func30 #[.slice Ao30 t130.length co30, .int .i64 t134] ?_; (with_reducible refine (impl_StretchKeys.calls kj61 _ _ t130 t134 t147 t148 _ ?side1 ?side2 A83.out).mono ?_); (case side1 => repeat (first | exact (Kd.R_reads' HO_20.out).2.2 | (with_reducible refine Kd.C_alloc ?_ _) | (with_reducible refine Kd.C_drewN ?_ _) | (with_reducible refine Kd.C_drew ?_))); (case side2 => exact (Kd.R_reads' HO_20.out).2.1); rintro e w86 ⟨v149, rfl, ho0, hb⟩; refine ⟨_, rfl, ?_⟩; have n0_ := Aside0.mk (Kd.R_elder' (by (with_reducible repeat (first | apply zkA | apply zkB | apply zkC)); exact HO_20.out) (Kd.R_base ho0) hb); have n1_ := Aside0.mk (Kd.R_lower (Kd.R_newB (Kd.R_newB (Kd.R_new' ho0 (Kd.R_lt (by (with_reducible repeat (first | apply zkA | apply zkB | apply zkC)); exact HO_20.out))) (g := gb111) (o := .cells #[.int .i64 t105, .int .i64 t106, .int .i64 t107, .int .i64 t108, .int .i64 t109] 52 (0, 0)) (by (with_reducible repeat (first | refine blk_drewN ?_ _ | refine blk_drew ?_ | refine blk_alloc ?_ _)); exact BK111.out)) (g := gb118) (o := .cells #[.int .i64 t112, .int .i64 t113, .int .i64 t114, .int .i64 t115, .int .i64 t116] 52 (0, 0)) (by (with_reducible repeat (first | refine blk_drewN ?_ _ | refine blk_drew ?_ | refine blk_alloc ?_ _)); exact BK118.out)) (below_size (by repeat (first | (with_reducible first | exact HB.out | apply zbA | apply zbB | apply zbC | refine below_set ?_ GE111.out | refine below_set ?_ GE118.out) | exact HB.out)))); have n2_ := Aside0.mk (blk_below (g := gb111) (o := .cells #[.int .i64 t105, .int .i64 t106, .int .i64 t107, .int .i64 t108, .int .i64 t109] 52 (0, 0)) (by (with_reducible repeat (first | refine blk_drewN ?_ _ | refine blk_drew ?_ | refine blk_alloc ?_ _)); exact BK111.out) hb); have n3_ := Aside0.mk (blk_below (g := gb118) (o := .cells #[.int .i64 t112, .int .i64 t113, .int .i64 t114, .int .i64 t115, .int .i64 t116] 52 (0, 0)) (by (with_reducible repeat (first | refine blk_drewN ?_ _ | refine blk_drew ?_ | refine blk_alloc ?_ _)); exact BK118.out) hb); have n4_ := Aside0.mk (below_step (by repeat (first | (with_reducible first | exact HB.out | apply zbA | apply zbB | apply zbC | refine below_set ?_ GE111.out | refine below_set ?_ GE118.out) | exact HB.out)) hb); clear HO_20; clear BK111; clear BK118; clear HB; have HO_20 := n0_; have HO150 := n1_; have BK111 := n2_; have BK118 := n3_; have HB := n4_; clear n0_ n1_ n2_ n3_ n4_; (try clear hb); (try clear ho0); obtain ⟨Ao87, co87, eo87⟩ := Kd.R_slice HO150.out; subst eo87) | ((with_reducible refine gate_callee (f := 27) rfl ?_); refine goesM_ (some 237) Try.func27 #[.slice Ao87 t147.length co87, .int .i64 t131] ?_; (with_reducible refine (impl_KeepsSpeed.calls kj61 _ _ t147 t131 t151 t152 _ ?side1 ?side2 A84.out).mono ?_); (case side1 => repeat (first | exact (Kd.R_reads' HO150.out).2.2 | (with_reducible refine Kd.C_alloc ?_ _) | (with_reducible refine Kd.C_drewN ?_ _) | (with_reducible refine Kd.C_drew ?_))); (case side2 => exact (Kd.R_reads' HO150.out).2.1); rintro e w88 ⟨rfl, hb⟩; refine ⟨_, rfl, ?_⟩; have n0_ := Aside0.mk (Kd.R_below (by (with_reducible repeat (first | apply zkA | apply zkB | apply zkC)); exact HO_20.out) hb); have n1_ := Aside0.mk (Kd.R_below (by (with_reducible repeat (first | apply zkA | apply zkB | apply zkC)); exact HO150.out) hb); have n2_ := Aside0.mk (blk_below (g := gb111) (o := .cells #[.int .i64 t105, .int .i64 t106, .int .i64 t107, .int .i64 t108, .int .i64 t109] 52 (0, 0)) (by (with_reducible repeat (first | refine blk_drewN ?_ _ | refine blk_drew ?_ | refine blk_alloc ?_ _)); exact BK111.out) hb); have n3_ := Aside0.mk (blk_below (g := gb118) (o := .cells #[.int .i64 t112, .int .i64 t113, .int .i64 t114, .int .i64 t115, .int .i64 t116] 52 (0, 0)) (by (with_reducible repeat (first | refine blk_drewN ?_ _ | refine blk_drew ?_ | refine blk_alloc ?_ _)); exact BK118.out) hb); have n4_ := Aside0.mk (below_step (by repeat (first | (with_reducible first | exact HB.out | apply zbA | apply zbB | apply zbC | refine below_set ?_ GE111.out | refine below_set ?_ GE118.out) | exact HB.out)) hb); clear HO_20; clear HO150; clear BK111; clear BK118; clear HB; have HO_20 := n0_; have HO150 := n1_; have BK111 := n2_; have BK118 := n3_; have HB := n4_; clear n0_ n1_ n2_ n3_ n4_; (try clear hb)))
           (try simp only [Act.put, List.setIfInBounds_toArray, List.set_cons_zero, List.set_cons_succ])
           go_cut [256] (fun v256 wc => ∃ (kq : Nat) (x256_84 : Bool), v256 = .bool x256_84 ∧ Aside0 (laws_FnKeyframes.j6 kq t130 t131 t134 t136 x256_84 = some r) ∧ Aside0 (kq ≤ kj61) ∧ Aside0 (Kd.R k52 52 wc w.heap.size (fun k_ => k_ ≠ gb111 ∧ k_ ≠ gb118) (.slice Ao30 t130.length co30) t130) ∧ Aside0 (wc.heap[gb111]? = some (.cells #[.int .i64 t105, .int .i64 t106, .int .i64 t107, .int .i64 t108, .int .i64 t109] 52 (0, 0))) ∧ Aside0 (wc.heap[gb118]? = some (.cells #[.int .i64 t112, .int .i64 t113, .int .i64 t114, .int .i64 t115, .int .i64 t116] 52 (0, 0))) ∧ Aside0 (Below w.heap.size w wc))
           case first =>
            have H := HC85.out
            clear HC85
            by_cases c89 : t148 = true
            ·subst c89
             rw [if_pos rfl] at H
             by_cases c90 : t152 = true
             ·subst c90
              rw [if_pos rfl] at H
              by_cases c91 : t151 = true
              ·subst c91
               rw [if_pos rfl] at H
               by_cases c92 : t140 = true
               ·subst c92
                rw [if_pos rfl] at H
                as_aux_lemma =>
                 have H' := Aside0.mk H
                 clear H
                 go_wp2
                 go_meet
                 case rel => exact ⟨_, ((t136 != 1)), (by first | rfl | (simp; done) | (simp [*]; done)), H', ⟨by have := HJ14.out; have := HJ52.out; have := HJ61.out; first | omega | exact Nat.le_refl _⟩, ⟨by (with_reducible repeat (first | apply zkA | apply zkB | apply zkC)); exact Kd.R_mono HO_20.out (fun _ hk => ⟨hk.1.1, hk.1.2⟩)⟩, ⟨by (with_reducible repeat (first | refine blk_drewN ?_ _ | refine blk_drew ?_ | refine blk_alloc ?_ _)); exact BK111.out⟩, ⟨by (with_reducible repeat (first | refine blk_drewN ?_ _ | refine blk_drew ?_ | refine blk_alloc ?_ _)); exact BK118.out⟩, ⟨by repeat (first | (with_reducible first | exact HB.out | apply zbA | apply zbB | apply zbC | refine below_set ?_ GE111.out | refine below_set ?_ GE118.out) | exact HB.out)⟩⟩
               ·replace c92 := Bool.eq_false_iff.mpr c92
                subst c92
                rw [if_neg (show ¬ (false = true) by decide)] at H
                as_aux_lemma =>
                 have H' := Aside0.mk H
                 clear H
                 go_wp2
                 go_meet
                 case rel => exact ⟨_, (false), (by first | rfl | (simp; done) | (simp [*]; done)), H', ⟨by have := HJ14.out; have := HJ52.out; have := HJ61.out; first | omega | exact Nat.le_refl _⟩, ⟨by (with_reducible repeat (first | apply zkA | apply zkB | apply zkC)); exact Kd.R_mono HO_20.out (fun _ hk => ⟨hk.1.1, hk.1.2⟩)⟩, ⟨by (with_reducible repeat (first | refine blk_drewN ?_ _ | refine blk_drew ?_ | refine blk_alloc ?_ _)); exact BK111.out⟩, ⟨by (with_reducible repeat (first | refine blk_drewN ?_ _ | refine blk_drew ?_ | refine blk_alloc ?_ _)); exact BK118.out⟩, ⟨by repeat (first | (with_reducible first | exact HB.out | apply zbA | apply zbB | apply zbC | refine below_set ?_ GE111.out | refine below_set ?_ GE118.out) | exact HB.out)⟩⟩
              ·replace c91 := Bool.eq_false_iff.mpr c91
               subst c91
               rw [if_neg (show ¬ (false = true) by decide)] at H
               exact absurd H (by simp)
             ·replace c90 := Bool.eq_false_iff.mpr c90
              subst c90
              rw [if_neg (show ¬ (false = true) by decide)] at H
              exact absurd H (by simp)
            ·replace c89 := Bool.eq_false_iff.mpr c89
             subst c89
             rw [if_neg (show ¬ (false = true) by decide)] at H
             exact absurd H (by simp)
           case rest =>
            clear HC85
            try clear c1
            try clear c2
            try clear p2
            try clear c3
            try clear c3b0
            try clear c4
            try clear c5
            try clear c6
            try clear p6
            try clear c7
            try clear c8
            try clear c9
            try clear c18
            try clear c19
            try clear c20
            try clear c21
            try clear c22
            try clear c23
            try clear c24
            try clear c25
            try clear c26
            try clear c27
            try clear c28
            try clear c30
            try clear c35
            try clear c35b0
            try clear c35b1
            try clear c35b2
            try clear c36
            try clear c36b0
            try clear c37
            try clear c37b0
            try clear c37b1
            try clear c37b2
            try clear c38
            try clear c38b0
            try clear c38b1
            try clear c39
            try clear c39b0
            try clear c39b1
            try clear c40
            try clear c40b0
            try clear c40b1
            try clear c41
            try clear c41b0
            try clear c41b1
            try clear c41b2
            try clear c42
            try clear c42b0
            try clear c42b1
            try clear c43
            try clear c43b0
            try clear c43b1
            try clear c43b2
            try clear c44
            try clear c44b0
            try clear c44b1
            try clear c44b2
            try clear c45
            try clear c46
            try clear c49
            try clear c52
            try clear c54
            try clear c56
            try clear c57
            try clear c61
            try clear c63
            try clear p64
            try clear c65
            try clear c65b0
            try clear c66
            try clear c66b0
            try clear c67
            try clear c67b0
            try clear c68
            try clear c70
            try clear c70b0
            try clear c71
            try clear c75
            try clear c76
            try clear c77
            try clear c77b0
            try clear c79
            try clear c80
            try clear c82
            try clear c89
            try clear c90
            try clear c91
            try clear c92
            try clear hcz20_0
            try clear hcz20_1
            try clear hcz20_2
            try clear hcz20_3
            try clear hcz20_4
            try clear hcz24_0
            try clear hcz24_1
            try clear hcz24_2
            try clear hcz24_3
            try clear hcz24_4
            try clear hcz47_0
            try clear hcz47_1
            try clear hcz47_2
            try clear hcz47_3
            try clear hcz47_4
            try clear hcz48_0
            try clear hcz48_1
            try clear hcz48_2
            try clear hcz48_3
            try clear hcz48_4
            try clear hcz50_0
            try clear hcz50_1
            try clear hcz50_2
            try clear hcz50_3
            try clear hcz50_4
            try clear hcz51_0
            try clear hcz51_1
            try clear hcz51_2
            try clear hcz51_3
            try clear hcz51_4
            try clear hcz58_0
            try clear hcz58_1
            try clear hcz58_2
            try clear hcz58_3
            try clear hcz58_4
            try clear hcz60_0
            try clear hcz60_1
            try clear hcz60_2
            try clear hcz60_3
            try clear hcz60_4
            try clear hfz20_0
            try clear hfz20_1
            try clear hfz20_2
            try clear hfz20_3
            try clear hfz20_4
            try clear hfz24_0
            try clear hfz24_1
            try clear hfz24_2
            try clear hfz24_3
            try clear hfz24_4
            try clear hfz47_0
            try clear hfz47_1
            try clear hfz47_2
            try clear hfz47_3
            try clear hfz47_4
            try clear hfz48_0
            try clear hfz48_1
            try clear hfz48_2
            try clear hfz48_3
            try clear hfz48_4
            try clear hfz50_0
            try clear hfz50_1
            try clear hfz50_2
            try clear hfz50_3
            try clear hfz50_4
            try clear hfz51_0
            try clear hfz51_1
            try clear hfz51_2
            try clear hfz51_3
            try clear hfz51_4
            try clear hfz58_0
            try clear hfz58_1
            try clear hfz58_2
            try clear hfz58_3
            try clear hfz58_4
            try clear hfz60_0
            try clear hfz60_1
            try clear hfz60_2
            try clear hfz60_3
            try clear hfz60_4
            try clear p2
            try clear p6
            try clear p64
            obtain ⟨kq, x256_84, rfl, HA, HJ84, HO_20, BK111, BK118, HB⟩ := hcut
            cases kq with
            | zero => exact absurd HA.out (by simp [laws_FnKeyframes.j6])
            | succ kj84 =>
             have H := HA.out
             clear HA
             simp only [laws_FnKeyframes.j6] at H
             by_cases c93 : x256_84 = true
             ·subst c93
              rw [if_pos rfl] at H
              exact absurd H (by simp)
             ·replace c93 := Bool.eq_false_iff.mpr c93
              subst c93
              rw [if_neg (show ¬ (false = true) by decide)] at H
              by_cases c94 : t136 > 1
              ·rw [if_pos c94] at H
               have c94b0 : decide (1 < t136) = true := decide_eq_true c94
               clear c94
               replace H := Option.bind_eq_some_iff.mp H
               obtain ⟨⟨t153, t154⟩, A950, H⟩ := H
               try dsimp only at H
               have A95 := Aside0.mk A950
               clear A950
               replace H := Option.bind_eq_some_iff.mp H
               obtain ⟨⟨t157, t158⟩, A960, H⟩ := H
               try dsimp only at H
               have A96 := Aside0.mk A960
               clear A960
               by_cases c97 : t154 = true
               ·subst c97
                rw [if_pos rfl] at H
                by_cases c98 : t158 = true
                ·subst c98
                 rw [if_pos rfl] at H
                 by_cases c99 : t157 = true
                 ·subst c99
                  rw [if_pos rfl] at H
                  exact absurd H (by simp)
                 ·replace c99 := Bool.eq_false_iff.mpr c99
                  subst c99
                  rw [if_neg (show ¬ (false = true) by decide)] at H
                  as_aux_lemma =>
                   obtain rfl := Option.some.inj H
                   go_wp2_with (first | ((with_reducible refine gate_callee (f := 30) rfl ?_); refine goesM_ (some 263) Try.func30 #[.slice Ao30 t130.length co30, .int .i64 (wrap64 (t134 - 1))] ?_; (with_reducible refine (impl_StretchKeys.calls kj84 _ _ t130 (wrap64 (t134 - 1)) t153 true _ ?side1 ?side2 A95.out).mono ?_); (case side1 => repeat (first | exact (Kd.R_reads' HO_20.out).2.2 | (with_reducible refine Kd.C_alloc ?_ _) | (with_reducible refine Kd.C_drewN ?_ _) | (with_reducible refine Kd.C_drew ?_))); (case side2 => exact (Kd.R_reads' HO_20.out).2.1); rintro e w100 ⟨v155, rfl, ho0, hb⟩; refine ⟨_, rfl, ?_⟩; have n0_ := Aside0.mk (Kd.R_elder' (by (with_reducible repeat (first | apply zkA | apply zkB | apply zkC)); exact HO_20.out) (Kd.R_base ho0) hb); have n1_ := Aside0.mk (Kd.R_lower (Kd.R_newB (Kd.R_newB (Kd.R_new' ho0 (Kd.R_lt (by (with_reducible repeat (first | apply zkA | apply zkB | apply zkC)); exact HO_20.out))) (g := gb111) (o := .cells #[.int .i64 t105, .int .i64 t106, .int .i64 t107, .int .i64 t108, .int .i64 t109] 52 (0, 0)) (by (with_reducible repeat (first | refine blk_drewN ?_ _ | refine blk_drew ?_ | refine blk_alloc ?_ _)); exact BK111.out)) (g := gb118) (o := .cells #[.int .i64 t112, .int .i64 t113, .int .i64 t114, .int .i64 t115, .int .i64 t116] 52 (0, 0)) (by (with_reducible repeat (first | refine blk_drewN ?_ _ | refine blk_drew ?_ | refine blk_alloc ?_ _)); exact BK118.out)) (below_size (by repeat (first | (with_reducible first | exact HB.out | apply zbA | apply zbB | apply zbC | refine below_set ?_ GE111.out | refine below_set ?_ GE118.out) | exact HB.out)))); have n2_ := Aside0.mk (blk_below (g := gb111) (o := .cells #[.int .i64 t105, .int .i64 t106, .int .i64 t107, .int .i64 t108, .int .i64 t109] 52 (0, 0)) (by (with_reducible repeat (first | refine blk_drewN ?_ _ | refine blk_drew ?_ | refine blk_alloc ?_ _)); exact BK111.out) hb); have n3_ := Aside0.mk (blk_below (g := gb118) (o := .cells #[.int .i64 t112, .int .i64 t113, .int .i64 t114, .int .i64 t115, .int .i64 t116] 52 (0, 0)) (by (with_reducible repeat (first | refine blk_drewN ?_ _ | refine blk_drew ?_ | refine blk_alloc ?_ _)); exact BK118.out) hb); have n4_ := Aside0.mk (below_step (by repeat (first | (with_reducible first | exact HB.out | apply zbA | apply zbB | apply zbC | refine below_set ?_ GE111.out | refine below_set ?_ GE118.out) | exact HB.out)) hb); clear HO_20; clear BK111; clear BK118; clear HB; have HO_20 := n0_; have HO156 := n1_; have BK111 := n2_; have BK118 := n3_; have HB := n4_; clear n0_ n1_ n2_ n3_ n4_; (try clear hb); (try clear ho0); obtain ⟨Ao101, co101, eo101⟩ := Kd.R_slice HO156.out; subst eo101) | ((with_reducible refine gate_callee (f := 27) rfl ?_); refine goesM_ (some 269) Try.func27 #[.slice Ao101 t153.length co101, .int .i64 t131] ?_; (with_reducible refine (impl_KeepsSpeed.calls kj84 _ _ t153 t131 false true _ ?side1 ?side2 A96.out).mono ?_); (case side1 => repeat (first | exact (Kd.R_reads' HO156.out).2.2 | (with_reducible refine Kd.C_alloc ?_ _) | (with_reducible refine Kd.C_drewN ?_ _) | (with_reducible refine Kd.C_drew ?_))); (case side2 => exact (Kd.R_reads' HO156.out).2.1); rintro e w102 ⟨rfl, hb⟩; refine ⟨_, rfl, ?_⟩; have n0_ := Aside0.mk (Kd.R_below (by (with_reducible repeat (first | apply zkA | apply zkB | apply zkC)); exact HO_20.out) hb); have n1_ := Aside0.mk (Kd.R_below (by (with_reducible repeat (first | apply zkA | apply zkB | apply zkC)); exact HO156.out) hb); have n2_ := Aside0.mk (blk_below (g := gb111) (o := .cells #[.int .i64 t105, .int .i64 t106, .int .i64 t107, .int .i64 t108, .int .i64 t109] 52 (0, 0)) (by (with_reducible repeat (first | refine blk_drewN ?_ _ | refine blk_drew ?_ | refine blk_alloc ?_ _)); exact BK111.out) hb); have n3_ := Aside0.mk (blk_below (g := gb118) (o := .cells #[.int .i64 t112, .int .i64 t113, .int .i64 t114, .int .i64 t115, .int .i64 t116] 52 (0, 0)) (by (with_reducible repeat (first | refine blk_drewN ?_ _ | refine blk_drew ?_ | refine blk_alloc ?_ _)); exact BK118.out) hb); have n4_ := Aside0.mk (below_step (by repeat (first | (with_reducible first | exact HB.out | apply zbA | apply zbB | apply zbC | refine below_set ?_ GE111.out | refine below_set ?_ GE118.out) | exact HB.out)) hb); clear HO_20; clear HO156; clear BK111; clear BK118; clear HB; have HO_20 := n0_; have HO156 := n1_; have BK111 := n2_; have BK118 := n3_; have HB := n4_; clear n0_ n1_ n2_ n3_ n4_; (try clear hb)))
                   go_ret
                   exact ⟨by first | rfl | (simp [*, errW_none, errW_some] <;> rfl), by repeat (first | (with_reducible first | exact HB.out | apply zbA | apply zbB | apply zbC | refine below_set ?_ GE111.out | refine below_set ?_ GE118.out) | exact HB.out)⟩
                ·replace c98 := Bool.eq_false_iff.mpr c98
                 subst c98
                 rw [if_neg (show ¬ (false = true) by decide)] at H
                 exact absurd H (by simp)
               ·replace c97 := Bool.eq_false_iff.mpr c97
                subst c97
                rw [if_neg (show ¬ (false = true) by decide)] at H
                as_aux_lemma =>
                 obtain rfl := Option.some.inj H
                 go_wp2_with (first | ((with_reducible refine gate_callee (f := 30) rfl ?_); refine goesM_ (some 263) Try.func30 #[.slice Ao30 t130.length co30, .int .i64 (wrap64 (t134 - 1))] ?_; (with_reducible refine (impl_StretchKeys.calls kj84 _ _ t130 (wrap64 (t134 - 1)) t153 false _ ?side1 ?side2 A95.out).mono ?_); (case side1 => repeat (first | exact (Kd.R_reads' HO_20.out).2.2 | (with_reducible refine Kd.C_alloc ?_ _) | (with_reducible refine Kd.C_drewN ?_ _) | (with_reducible refine Kd.C_drew ?_))); (case side2 => exact (Kd.R_reads' HO_20.out).2.1); rintro e w103 ⟨v155, rfl, ho0, hb⟩; refine ⟨_, rfl, ?_⟩; have n0_ := Aside0.mk (Kd.R_elder' (by (with_reducible repeat (first | apply zkA | apply zkB | apply zkC)); exact HO_20.out) (Kd.R_base ho0) hb); have n1_ := Aside0.mk (Kd.R_lower (Kd.R_newB (Kd.R_newB (Kd.R_new' ho0 (Kd.R_lt (by (with_reducible repeat (first | apply zkA | apply zkB | apply zkC)); exact HO_20.out))) (g := gb111) (o := .cells #[.int .i64 t105, .int .i64 t106, .int .i64 t107, .int .i64 t108, .int .i64 t109] 52 (0, 0)) (by (with_reducible repeat (first | refine blk_drewN ?_ _ | refine blk_drew ?_ | refine blk_alloc ?_ _)); exact BK111.out)) (g := gb118) (o := .cells #[.int .i64 t112, .int .i64 t113, .int .i64 t114, .int .i64 t115, .int .i64 t116] 52 (0, 0)) (by (with_reducible repeat (first | refine blk_drewN ?_ _ | refine blk_drew ?_ | refine blk_alloc ?_ _)); exact BK118.out)) (below_size (by repeat (first | (with_reducible first | exact HB.out | apply zbA | apply zbB | apply zbC | refine below_set ?_ GE111.out | refine below_set ?_ GE118.out) | exact HB.out)))); have n2_ := Aside0.mk (blk_below (g := gb111) (o := .cells #[.int .i64 t105, .int .i64 t106, .int .i64 t107, .int .i64 t108, .int .i64 t109] 52 (0, 0)) (by (with_reducible repeat (first | refine blk_drewN ?_ _ | refine blk_drew ?_ | refine blk_alloc ?_ _)); exact BK111.out) hb); have n3_ := Aside0.mk (blk_below (g := gb118) (o := .cells #[.int .i64 t112, .int .i64 t113, .int .i64 t114, .int .i64 t115, .int .i64 t116] 52 (0, 0)) (by (with_reducible repeat (first | refine blk_drewN ?_ _ | refine blk_drew ?_ | refine blk_alloc ?_ _)); exact BK118.out) hb); have n4_ := Aside0.mk (below_step (by repeat (first | (with_reducible first | exact HB.out | apply zbA | apply zbB | apply zbC | refine below_set ?_ GE111.out | refine below_set ?_ GE118.out) | exact HB.out)) hb); clear HO_20; clear BK111; clear BK118; clear HB; have HO_20 := n0_; have HO156 := n1_; have BK111 := n2_; have BK118 := n3_; have HB := n4_; clear n0_ n1_ n2_ n3_ n4_; (try clear hb); (try clear ho0); obtain ⟨Ao104, co104, eo104⟩ := Kd.R_slice HO156.out; subst eo104) | ((with_reducible refine gate_callee (f := 27) rfl ?_); refine goesM_ (some 269) Try.func27 #[.slice Ao104 t153.length co104, .int .i64 t131] ?_; (with_reducible refine (impl_KeepsSpeed.calls kj84 _ _ t153 t131 t157 t158 _ ?side1 ?side2 A96.out).mono ?_); (case side1 => repeat (first | exact (Kd.R_reads' HO156.out).2.2 | (with_reducible refine Kd.C_alloc ?_ _) | (with_reducible refine Kd.C_drewN ?_ _) | (with_reducible refine Kd.C_drew ?_))); (case side2 => exact (Kd.R_reads' HO156.out).2.1); rintro e w105 ⟨rfl, hb⟩; refine ⟨_, rfl, ?_⟩; have n0_ := Aside0.mk (Kd.R_below (by (with_reducible repeat (first | apply zkA | apply zkB | apply zkC)); exact HO_20.out) hb); have n1_ := Aside0.mk (Kd.R_below (by (with_reducible repeat (first | apply zkA | apply zkB | apply zkC)); exact HO156.out) hb); have n2_ := Aside0.mk (blk_below (g := gb111) (o := .cells #[.int .i64 t105, .int .i64 t106, .int .i64 t107, .int .i64 t108, .int .i64 t109] 52 (0, 0)) (by (with_reducible repeat (first | refine blk_drewN ?_ _ | refine blk_drew ?_ | refine blk_alloc ?_ _)); exact BK111.out) hb); have n3_ := Aside0.mk (blk_below (g := gb118) (o := .cells #[.int .i64 t112, .int .i64 t113, .int .i64 t114, .int .i64 t115, .int .i64 t116] 52 (0, 0)) (by (with_reducible repeat (first | refine blk_drewN ?_ _ | refine blk_drew ?_ | refine blk_alloc ?_ _)); exact BK118.out) hb); have n4_ := Aside0.mk (below_step (by repeat (first | (with_reducible first | exact HB.out | apply zbA | apply zbB | apply zbC | refine below_set ?_ GE111.out | refine below_set ?_ GE118.out) | exact HB.out)) hb); clear HO_20; clear HO156; clear BK111; clear BK118; clear HB; have HO_20 := n0_; have HO156 := n1_; have BK111 := n2_; have BK118 := n3_; have HB := n4_; clear n0_ n1_ n2_ n3_ n4_; (try clear hb)))
                 go_ret
                 exact ⟨by first | rfl | (simp [*, errW_none, errW_some] <;> rfl), by repeat (first | (with_reducible first | exact HB.out | apply zbA | apply zbB | apply zbC | refine below_set ?_ GE111.out | refine below_set ?_ GE118.out) | exact HB.out)⟩
              ·rw [if_neg c94] at H
               have c94b0 : decide (1 < t136) = false := decide_eq_false c94
               clear c94
               as_aux_lemma =>
                obtain rfl := Option.some.inj H
                go_wp2
                go_ret
                exact ⟨by first | rfl | (simp [*, errW_none, errW_some] <;> rfl), by repeat (first | (with_reducible first | exact HB.out | apply zbA | apply zbB | apply zbC | refine below_set ?_ GE111.out | refine below_set ?_ GE118.out) | exact HB.out)⟩
          ·replace c82 := Bool.eq_false_iff.mpr c82
           subst c82
           rw [if_neg (show ¬ (false = true) by decide)] at H
           as_aux_lemma =>
            obtain rfl := Option.some.inj H
            go_wp2
            go_ret
            exact ⟨by first | rfl | (simp [*, errW_none, errW_some] <;> rfl), by repeat (first | (with_reducible first | exact HB.out | apply zbA | apply zbB | apply zbC | refine below_set ?_ GE111.out | refine below_set ?_ GE118.out) | exact HB.out)⟩

/-- The one pure statement of laws_FnKeyframes. -/
def laws_FnKeyframes.Pure : Prop := ∀ (l0 : List Int) (l1 : List Int), l0.length * 1 ≤ 140737488351232 → (∀ y, y ∈ l0 → (Lit.int .u8 y).wf = true) → l1.length * 1 ≤ 140737488351232 → (∀ y, y ∈ l1 → (Lit.int .u8 y).wf = true) → ∃ k, laws_FnKeyframes.f k l0 l1 = some true
theorem laws_FnKeyframes.walk (P : laws_FnKeyframes.Pure) (w : World) (A0 : Option Addr) (c0 : Nat) (l0 : List Int) (hr0 : Kd.C (Kd.int .u8) w A0 l0.length l0) (hc0 : l0.length ≤ c0) (hx0 : l0.length * 1 ≤ 140737488351232 ∧ ∀ y, y ∈ l0 → (Lit.int .u8 y).wf = true) (A1 : Option Addr) (c1 : Nat) (l1 : List Int) (hr1 : Kd.C (Kd.int .u8) w A1 l1.length l1) (hc1 : l1.length ≤ c1) (hx1 : l1.length * 1 ≤ 140737488351232 ∧ ∀ y, y ∈ l1 → (Lit.int .u8 y).wf = true) :
  Calls Try.prog 4 #[.slice A0 l0.length c0, .slice A1 l1.length c1] w fun e w' => e = .returned (.bool true) ∧ Below w.heap.size w w' := by
 obtain ⟨k, h⟩ := P l0 l1 hx0.1 hx0.2 hx1.1 hx1.2
 refine (laws_FnKeyframes.calls k A0 c0 l0 A1 c1 l1 true w hr0 hc0 hr1 hc1 h).mono ?_
 rintro e w' ⟨rfl, hd⟩
 exact ⟨rfl, hd⟩

end Go.Proofs.Ytkobnljfoedmnaa.Q
