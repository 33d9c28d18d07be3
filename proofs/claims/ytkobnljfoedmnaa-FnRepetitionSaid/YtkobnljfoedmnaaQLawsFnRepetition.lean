-- Written for the seat Ytkobnljfoedmnaa by a program of this session (wip/tool/gx.py) out of the translation. Lean checks it.
import Derived.Test.YtkobnljfoedmnaaQ0
import Derived.Test.YtkobnljfoedmnaaGCall
import Derived.Test.YtkobnljfoedmnaaQBEq24
import Derived.Test.YtkobnljfoedmnaaQBImplAnswerCard
import Derived.Test.YtkobnljfoedmnaaQBSpecDrawDayOfLast
import Derived.Test.YtkobnljfoedmnaaQImplAreCards
import Derived.Test.YtkobnljfoedmnaaQImplRunAnswers
import Derived.Test.YtkobnljfoedmnaaQSpecDrawRunAnswers
import Derived.Test.YtkobnljfoedmnaaQSpecRunAnswers
import Derived.Test.YtkobnljfoedmnaaWApart
import Derived.Test.YtkobnljfoedmnaaWFoot
import Derived.Test.YtkobnljfoedmnaaWKept
import Derived.Test.YtkobnljfoedmnaaWShare
import Derived.Test.YtkobnljfoedmnaaWN
import Derived.Test.YtkobnljfoedmnaaWRepsOne
import Derived.Test.YtkobnljfoedmnaaWGuard
namespace Go.Proofs.Ytkobnljfoedmnaa.Q
open Go.RowKit Go.Proofs.YtkobnljfoedmnaaW.PrintWords Go.Proofs.YtkobnljfoedmnaaW.PrintLast Go.Proofs.YtkobnljfoedmnaaW.PrintMore Go.Proofs.YtkobnljfoedmnaaW.GCall
attribute [local go_sem] max2_int min2_int max_two min_two max_three min_three max_four min_four   -- for this text's walks alone
set_option linter.unusedVariables false
set_option linter.unusedSimpArgs false

attribute [local go_sem high] eqA24
/-! ### laws_FnRepetition: function 3 -/
mutual
def laws_FnRepetition.j0 : Nat → Int → Bool → Bool → List (S24) → List (S45) → List (S24) → Bool → List (S24) → List Int → Int → Bool → Int → Bool → ByteArray → Int → Int → ByteArray → Int → Int → ByteArray → Int → Int → Option (Bool)
 | 0,_,_,_,_,_,_,_,_,_,_,_,_,_,_,_,_,_,_,_,_,_,_ => none
 | k + 1,x6,x7,x9,x12,x13,x14,x16,x17,x18,x21,x23,x24,x135,x107000,x107001,x107002,x117000,x117001,x117002,x142000,x142001,x142002 => if x135 = true then (none) else (if x9 = true then (if x7 = true then (if (wrap64 (x107001 + 1)) > 5 then (if x117000.toList = x107000.toList then (if x117001 = 5 then (if x117002 ≤ x6 then (none) else (if x107002 > x6 then (none) else (if x117002 = (wrap64 (x6 + (1 * 32))) then (laws_FnRepetition.j1 k x12 x13 x14 x16 x17 x18 x21 x23 x24 x142000 x142001 x142002) else (none)))) else (none)) else (none)) else (if x117000.toList = x107000.toList then (if x117001 = (wrap64 (x107001 + 1)) then (if x117002 ≤ x6 then (none) else (if x107002 > x6 then (none) else (if 0 ≤ (IntKind.u64.wrap (wrap64 (x107001 + 1))) then (if x117002 = (wrap64 (x6 + (shl .i64 1 (IntKind.u64.wrap (wrap64 (x107001 + 1)))))) then (laws_FnRepetition.j1 k x12 x13 x14 x16 x17 x18 x21 x23 x24 x142000 x142001 x142002) else (none)) else (none)))) else (none)) else (none))) else (if x117000.toList = x107000.toList then (if x117001 = 0 then (if x117002 ≤ x6 then (none) else (if x107002 > x6 then (none) else (if x117002 = (wrap64 (x6 + 1)) then (laws_FnRepetition.j1 k x12 x13 x14 x16 x17 x18 x21 x23 x24 x142000 x142001 x142002) else (none)))) else (none)) else (none))) else (laws_FnRepetition.j1 k x12 x13 x14 x16 x17 x18 x21 x23 x24 x142000 x142001 x142002))
def laws_FnRepetition.j1 : Nat → List (S24) → List (S45) → List (S24) → Bool → List (S24) → List Int → Int → Bool → Int → ByteArray → Int → Int → Option (Bool)
 | 0,_,_,_,_,_,_,_,_,_,_,_,_ => none
 | k + 1,x12,x13,x14,x16,x17,x18,x21,x23,x24,x142000,x142001,x142002 => if x16 = true then (if (x17.length : Int) = (x12.length : Int) then ((impl_AreCards.f k x14).bind fun t148 => (laws_FnRepetition.j2 k x12 x13 x17 x18 x21 x23 x24 (!t148) x142000 x142001 x142002)) else (none)) else (laws_FnRepetition.j4 k x21 x23 x24 x142000 x142001 x142002)
def laws_FnRepetition.j4 : Nat → Int → Bool → Int → ByteArray → Int → Int → Option (Bool)
 | 0,_,_,_,_,_,_ => none
 | k + 1,x21,x23,x24,x142000,x142001,x142002 => if x23 = true then (laws_FnRepetition.l1 k x24 x21 x142000 x142001 x142002) else (some true)
def laws_FnRepetition.l1 : Nat → Int → Int → ByteArray → Int → Int → Option (Bool)
 | 0,_,_,_,_,_ => none
 | k + 1,x24,x34,x164000,x164001,x164002 => if x164001 < 5 then (if x34 < x164002 then (laws_FnRepetition.j6 k x24 x164002 x164000 x164001 x164002) else (laws_FnRepetition.j6 k x24 x34 x164000 x164001 x164002)) else (some (x34 == x24))
def laws_FnRepetition.j6 : Nat → Int → Int → ByteArray → Int → Int → Option (Bool)
 | 0,_,_,_,_,_ => none
 | k + 1,x24,x34,x164000,x164001,x164002 => (impl_AnswerCard.f k x164000 x164001 x164002 x34 true).bind fun bt164 => ((spec_AnswerCard.f k x164000 x164001 x164002 x34 true).bind fun bt169 => (if (bt164.2.2.2 != bt169.2.2.2) = true then (none) else (laws_FnRepetition.j7 k x24 x34 bt169.2.2.2 (!(bt164.1.toList == bt169.1.toList) || (!(bt164.2.1 == bt169.2.1) || (!(bt164.2.2.1 == bt169.2.2.1)))) x164000 x164001 x164002 bt169.1 bt169.2.1 bt169.2.2.1)))
def laws_FnRepetition.j7 : Nat → Int → Int → Bool → Bool → ByteArray → Int → Int → ByteArray → Int → Int → Option (Bool)
 | 0,_,_,_,_,_,_,_,_,_,_ => none
 | k + 1,x24,x34,x38,x254,x164000,x164001,x164002,x174000,x174001,x174002 => if x254 = true then (none) else (if x38 = true then (laws_FnRepetition.l1 k x24 x34 x174000 x174001 x174002) else (if x164001 = 4 then (some (x34 == x24)) else (none)))
def laws_FnRepetition.j2 : Nat → List (S24) → List (S45) → List (S24) → List Int → Int → Bool → Int → Bool → ByteArray → Int → Int → Option (Bool)
 | 0,_,_,_,_,_,_,_,_,_,_,_ => none
 | k + 1,x12,x13,x17,x18,x21,x23,x24,x186,x142000,x142001,x142002 => if x186 = true then (none) else (laws_FnRepetition.l0 k x12 x17 x18 x21 x23 x24 ([] : List (S45)) x13 (x13.length : Int) 0 x142000 x142001 x142002)
def laws_FnRepetition.l0 : Nat → List (S24) → List (S24) → List Int → Int → Bool → Int → List (S45) → List (S45) → Int → Int → ByteArray → Int → Int → Option (Bool)
 | 0,_,_,_,_,_,_,_,_,_,_,_,_,_ => none
 | k + 1,x12,x17,x18,x21,x23,x24,x27,x187,x188,x189,x142000,x142001,x142002 => if x189 < x188 then (if 0 ≤ x189 then (if x189 < (x187.length : Int) then ((laws_qHas.f k x18 x189).bind fun t151 => (if t151 = true then (laws_FnRepetition.l0 k x12 x17 x18 x21 x23 x24 x27 x187 x188 (wrap64 (x189 + 1)) x142000 x142001 x142002) else (if x27.length < 4398046511104 then (laws_FnRepetition.l0 k x12 x17 x18 x21 x23 x24 (x27 ++ [(⟨(rd_T45 x187 x189).f0,(rd_T45 x187 x189).f1,(rd_T45 x187 x189).f2⟩ : S45)]) x187 x188 (wrap64 (x189 + 1)) x142000 x142001 x142002) else (none)))) else (none)) else (none)) else ((impl_RunAnswers.f k x12 x27).bind fun bt155 => (if bt155.2.2 = true then (if (bt155.2.1.length : Int) > 0 then (none) else ((laws_qCards.f k bt155.1 x17).bind fun t162 => (if t162 = true then (laws_FnRepetition.j4 k x21 x23 x24 x142000 x142001 x142002) else (none)))) else (none)))
end
def laws_FnRepetition.f (k : Nat) (l0 : List Int) (l1 : List Int) : Option (Bool) := if (wrap64 ((l0.length : Int) + (l1.length : Int))) > 1048576 then (some true) else ((spec_DrawAnswerCard.f k l0).bind fun bt101 => ((impl_AnswerCard.f k bt101.1 bt101.2.1 bt101.2.2.1 bt101.2.2.2.1 bt101.2.2.2.2).bind fun bt107 => ((spec_AnswerCard.f k bt101.1 bt101.2.1 bt101.2.2.1 bt101.2.2.2.1 bt101.2.2.2.2).bind fun bt112 => ((spec_DrawRunAnswers.f k l1).bind fun bt117 => ((impl_RunAnswers.f k bt117.1 bt117.2).bind fun bt123 => ((spec_RunAnswers.f k bt117.1 bt117.2).bind fun bt130 => ((spec_DrawDayOfLast.f k l1).bind fun bt137 => ((impl_DayOfLast.f k bt137.1 bt137.2.1 bt137.2.2.1 bt137.2.2.2).bind fun bt142 => ((spec_DayOfLast.f k bt137.1 bt137.2.1 bt137.2.2.1 bt137.2.2.2).bind fun bt144 => (if (bt107.2.2.2 != bt112.2.2.2) = true then (none) else (if (!(bt107.1.toList == bt112.1.toList) || (!(bt107.2.1 == bt112.2.1) || (!(bt107.2.2.1 == bt112.2.2.1)))) = true then (none) else (if (bt123.2.2 != bt130.2.2) = true then (none) else ((laws_qCards.f k bt123.1 bt130.1).bind fun t146 => (if t146 = true then ((laws_qInts.f k bt123.2.1 bt130.2.1).bind fun t147 => (if t147 = true then (if (bt142.2 != bt144.2) = true then (none) else (laws_FnRepetition.j0 k bt101.2.2.2.1 bt101.2.2.2.2 bt107.2.2.2 bt117.1 bt117.2 bt123.1 bt123.2.2 bt130.1 bt130.2.1 bt137.2.2.2 bt142.2 bt144.1 (bt142.1 != bt144.1) bt101.1 bt101.2.1 bt101.2.2.1 bt112.1 bt112.2.1 bt112.2.2.1 bt137.1 bt137.2.1 bt137.2.2.1)) else (none))) else (none)))))))))))))))
theorem laws_FnRepetition.mono_l : ∀ k,(∀ y0 y1 y2 y3 y4 y5 y6 y7 y8 y9 y10 y11 y12 y13 y14 y15 y16 y17 y18 y19 y20 y21,LeO (laws_FnRepetition.j0 k y0 y1 y2 y3 y4 y5 y6 y7 y8 y9 y10 y11 y12 y13 y14 y15 y16 y17 y18 y19 y20 y21) (laws_FnRepetition.j0 (k + 1) y0 y1 y2 y3 y4 y5 y6 y7 y8 y9 y10 y11 y12 y13 y14 y15 y16 y17 y18 y19 y20 y21)) ∧ (∀ y0 y1 y2 y3 y4 y5 y6 y7 y8 y9 y10 y11,LeO (laws_FnRepetition.j1 k y0 y1 y2 y3 y4 y5 y6 y7 y8 y9 y10 y11) (laws_FnRepetition.j1 (k + 1) y0 y1 y2 y3 y4 y5 y6 y7 y8 y9 y10 y11)) ∧ (∀ y0 y1 y2 y3 y4 y5,LeO (laws_FnRepetition.j4 k y0 y1 y2 y3 y4 y5) (laws_FnRepetition.j4 (k + 1) y0 y1 y2 y3 y4 y5)) ∧ (∀ y0 y1 y2 y3 y4,LeO (laws_FnRepetition.l1 k y0 y1 y2 y3 y4) (laws_FnRepetition.l1 (k + 1) y0 y1 y2 y3 y4)) ∧ (∀ y0 y1 y2 y3 y4,LeO (laws_FnRepetition.j6 k y0 y1 y2 y3 y4) (laws_FnRepetition.j6 (k + 1) y0 y1 y2 y3 y4)) ∧ (∀ y0 y1 y2 y3 y4 y5 y6 y7 y8 y9,LeO (laws_FnRepetition.j7 k y0 y1 y2 y3 y4 y5 y6 y7 y8 y9) (laws_FnRepetition.j7 (k + 1) y0 y1 y2 y3 y4 y5 y6 y7 y8 y9)) ∧ (∀ y0 y1 y2 y3 y4 y5 y6 y7 y8 y9 y10,LeO (laws_FnRepetition.j2 k y0 y1 y2 y3 y4 y5 y6 y7 y8 y9 y10) (laws_FnRepetition.j2 (k + 1) y0 y1 y2 y3 y4 y5 y6 y7 y8 y9 y10)) ∧ (∀ y0 y1 y2 y3 y4 y5 y6 y7 y8 y9 y10 y11 y12,LeO (laws_FnRepetition.l0 k y0 y1 y2 y3 y4 y5 y6 y7 y8 y9 y10 y11 y12) (laws_FnRepetition.l0 (k + 1) y0 y1 y2 y3 y4 y5 y6 y7 y8 y9 y10 y11 y12))
 | 0 => ⟨fun _ _ _ _ _ _ _ _ _ _ _ _ _ _ _ _ _ _ _ _ _ _ r h => by simp [laws_FnRepetition.j0] at h,fun _ _ _ _ _ _ _ _ _ _ _ _ r h => by simp [laws_FnRepetition.j1] at h,fun _ _ _ _ _ _ r h => by simp [laws_FnRepetition.j4] at h,fun _ _ _ _ _ r h => by simp [laws_FnRepetition.l1] at h,fun _ _ _ _ _ r h => by simp [laws_FnRepetition.j6] at h,fun _ _ _ _ _ _ _ _ _ _ r h => by simp [laws_FnRepetition.j7] at h,fun _ _ _ _ _ _ _ _ _ _ _ r h => by simp [laws_FnRepetition.j2] at h,fun _ _ _ _ _ _ _ _ _ _ _ _ _ r h => by simp [laws_FnRepetition.l0] at h⟩
 | k + 1 => by
  obtain ⟨ih0,ih1,ih2,ih3,ih4,ih5,ih6,ih7⟩ := laws_FnRepetition.mono_l k
  refine ⟨?_,?_,?_,?_,?_,?_,?_,?_⟩
  ·intro y0 y1 y2 y3 y4 y5 y6 y7 y8 y9 y10 y11 y12 y13 y14 y15 y16 y17 y18 y19 y20 y21
   unfold laws_FnRepetition.j0
   repeat' first
   | (with_reducible exact ih0 _ _ _ _ _ _ _ _ _ _ _ _ _ _ _ _ _ _ _ _ _ _)
   | (with_reducible exact ih1 _ _ _ _ _ _ _ _ _ _ _ _)
   | (with_reducible exact ih2 _ _ _ _ _ _)
   | (with_reducible exact ih3 _ _ _ _ _)
   | (with_reducible exact ih4 _ _ _ _ _)
   | (with_reducible exact ih5 _ _ _ _ _ _ _ _ _ _)
   | (with_reducible exact ih6 _ _ _ _ _ _ _ _ _ _ _)
   | (with_reducible exact ih7 _ _ _ _ _ _ _ _ _ _ _ _ _)
   | (with_reducible exact impl_AnswerCard.mono _ _ _ _ _ _)
   | (with_reducible exact impl_AreCards.mono _ _)
   | (with_reducible exact impl_DayOfLast.mono _ _ _ _ _)
   | (with_reducible exact impl_RunAnswers.mono _ _ _)
   | (with_reducible exact laws_qCards.mono _ _ _)
   | (with_reducible exact laws_qHas.mono _ _ _)
   | (with_reducible exact laws_qInts.mono _ _ _)
   | (with_reducible exact spec_AnswerCard.mono _ _ _ _ _ _)
   | (with_reducible exact spec_DayOfLast.mono _ _ _ _ _)
   | (with_reducible exact spec_DrawAnswerCard.mono _ _)
   | (with_reducible exact spec_DrawDayOfLast.mono _ _)
   | (with_reducible exact spec_DrawRunAnswers.mono _ _)
   | (with_reducible exact spec_RunAnswers.mono _ _ _)
   | (with_reducible exact LeO.refl _)
   | (with_reducible exact LeO.none _)
   | (with_reducible refine LeO.ite ?_ ?_)
   | (with_reducible refine LeO.bind ?_ (fun _ => ?_))
  ·intro y0 y1 y2 y3 y4 y5 y6 y7 y8 y9 y10 y11
   unfold laws_FnRepetition.j1
   repeat' first
   | (with_reducible exact ih0 _ _ _ _ _ _ _ _ _ _ _ _ _ _ _ _ _ _ _ _ _ _)
   | (with_reducible exact ih1 _ _ _ _ _ _ _ _ _ _ _ _)
   | (with_reducible exact ih2 _ _ _ _ _ _)
   | (with_reducible exact ih3 _ _ _ _ _)
   | (with_reducible exact ih4 _ _ _ _ _)
   | (with_reducible exact ih5 _ _ _ _ _ _ _ _ _ _)
   | (with_reducible exact ih6 _ _ _ _ _ _ _ _ _ _ _)
   | (with_reducible exact ih7 _ _ _ _ _ _ _ _ _ _ _ _ _)
   | (with_reducible exact impl_AnswerCard.mono _ _ _ _ _ _)
   | (with_reducible exact impl_AreCards.mono _ _)
   | (with_reducible exact impl_DayOfLast.mono _ _ _ _ _)
   | (with_reducible exact impl_RunAnswers.mono _ _ _)
   | (with_reducible exact laws_qCards.mono _ _ _)
   | (with_reducible exact laws_qHas.mono _ _ _)
   | (with_reducible exact laws_qInts.mono _ _ _)
   | (with_reducible exact spec_AnswerCard.mono _ _ _ _ _ _)
   | (with_reducible exact spec_DayOfLast.mono _ _ _ _ _)
   | (with_reducible exact spec_DrawAnswerCard.mono _ _)
   | (with_reducible exact spec_DrawDayOfLast.mono _ _)
   | (with_reducible exact spec_DrawRunAnswers.mono _ _)
   | (with_reducible exact spec_RunAnswers.mono _ _ _)
   | (with_reducible exact LeO.refl _)
   | (with_reducible exact LeO.none _)
   | (with_reducible refine LeO.ite ?_ ?_)
   | (with_reducible refine LeO.bind ?_ (fun _ => ?_))
  ·intro y0 y1 y2 y3 y4 y5
   unfold laws_FnRepetition.j4
   repeat' first
   | (with_reducible exact ih0 _ _ _ _ _ _ _ _ _ _ _ _ _ _ _ _ _ _ _ _ _ _)
   | (with_reducible exact ih1 _ _ _ _ _ _ _ _ _ _ _ _)
   | (with_reducible exact ih2 _ _ _ _ _ _)
   | (with_reducible exact ih3 _ _ _ _ _)
   | (with_reducible exact ih4 _ _ _ _ _)
   | (with_reducible exact ih5 _ _ _ _ _ _ _ _ _ _)
   | (with_reducible exact ih6 _ _ _ _ _ _ _ _ _ _ _)
   | (with_reducible exact ih7 _ _ _ _ _ _ _ _ _ _ _ _ _)
   | (with_reducible exact impl_AnswerCard.mono _ _ _ _ _ _)
   | (with_reducible exact impl_AreCards.mono _ _)
   | (with_reducible exact impl_DayOfLast.mono _ _ _ _ _)
   | (with_reducible exact impl_RunAnswers.mono _ _ _)
   | (with_reducible exact laws_qCards.mono _ _ _)
   | (with_reducible exact laws_qHas.mono _ _ _)
   | (with_reducible exact laws_qInts.mono _ _ _)
   | (with_reducible exact spec_AnswerCard.mono _ _ _ _ _ _)
   | (with_reducible exact spec_DayOfLast.mono _ _ _ _ _)
   | (with_reducible exact spec_DrawAnswerCard.mono _ _)
   | (with_reducible exact spec_DrawDayOfLast.mono _ _)
   | (with_reducible exact spec_DrawRunAnswers.mono _ _)
   | (with_reducible exact spec_RunAnswers.mono _ _ _)
   | (with_reducible exact LeO.refl _)
   | (with_reducible exact LeO.none _)
   | (with_reducible refine LeO.ite ?_ ?_)
   | (with_reducible refine LeO.bind ?_ (fun _ => ?_))
  ·intro y0 y1 y2 y3 y4
   unfold laws_FnRepetition.l1
   repeat' first
   | (with_reducible exact ih0 _ _ _ _ _ _ _ _ _ _ _ _ _ _ _ _ _ _ _ _ _ _)
   | (with_reducible exact ih1 _ _ _ _ _ _ _ _ _ _ _ _)
   | (with_reducible exact ih2 _ _ _ _ _ _)
   | (with_reducible exact ih3 _ _ _ _ _)
   | (with_reducible exact ih4 _ _ _ _ _)
   | (with_reducible exact ih5 _ _ _ _ _ _ _ _ _ _)
   | (with_reducible exact ih6 _ _ _ _ _ _ _ _ _ _ _)
   | (with_reducible exact ih7 _ _ _ _ _ _ _ _ _ _ _ _ _)
   | (with_reducible exact impl_AnswerCard.mono _ _ _ _ _ _)
   | (with_reducible exact impl_AreCards.mono _ _)
   | (with_reducible exact impl_DayOfLast.mono _ _ _ _ _)
   | (with_reducible exact impl_RunAnswers.mono _ _ _)
   | (with_reducible exact laws_qCards.mono _ _ _)
   | (with_reducible exact laws_qHas.mono _ _ _)
   | (with_reducible exact laws_qInts.mono _ _ _)
   | (with_reducible exact spec_AnswerCard.mono _ _ _ _ _ _)
   | (with_reducible exact spec_DayOfLast.mono _ _ _ _ _)
   | (with_reducible exact spec_DrawAnswerCard.mono _ _)
   | (with_reducible exact spec_DrawDayOfLast.mono _ _)
   | (with_reducible exact spec_DrawRunAnswers.mono _ _)
   | (with_reducible exact spec_RunAnswers.mono _ _ _)
   | (with_reducible exact LeO.refl _)
   | (with_reducible exact LeO.none _)
   | (with_reducible refine LeO.ite ?_ ?_)
   | (with_reducible refine LeO.bind ?_ (fun _ => ?_))
  ·intro y0 y1 y2 y3 y4
   unfold laws_FnRepetition.j6
   repeat' first
   | (with_reducible exact ih0 _ _ _ _ _ _ _ _ _ _ _ _ _ _ _ _ _ _ _ _ _ _)
   | (with_reducible exact ih1 _ _ _ _ _ _ _ _ _ _ _ _)
   | (with_reducible exact ih2 _ _ _ _ _ _)
   | (with_reducible exact ih3 _ _ _ _ _)
   | (with_reducible exact ih4 _ _ _ _ _)
   | (with_reducible exact ih5 _ _ _ _ _ _ _ _ _ _)
   | (with_reducible exact ih6 _ _ _ _ _ _ _ _ _ _ _)
   | (with_reducible exact ih7 _ _ _ _ _ _ _ _ _ _ _ _ _)
   | (with_reducible exact impl_AnswerCard.mono _ _ _ _ _ _)
   | (with_reducible exact impl_AreCards.mono _ _)
   | (with_reducible exact impl_DayOfLast.mono _ _ _ _ _)
   | (with_reducible exact impl_RunAnswers.mono _ _ _)
   | (with_reducible exact laws_qCards.mono _ _ _)
   | (with_reducible exact laws_qHas.mono _ _ _)
   | (with_reducible exact laws_qInts.mono _ _ _)
   | (with_reducible exact spec_AnswerCard.mono _ _ _ _ _ _)
   | (with_reducible exact spec_DayOfLast.mono _ _ _ _ _)
   | (with_reducible exact spec_DrawAnswerCard.mono _ _)
   | (with_reducible exact spec_DrawDayOfLast.mono _ _)
   | (with_reducible exact spec_DrawRunAnswers.mono _ _)
   | (with_reducible exact spec_RunAnswers.mono _ _ _)
   | (with_reducible exact LeO.refl _)
   | (with_reducible exact LeO.none _)
   | (with_reducible refine LeO.ite ?_ ?_)
   | (with_reducible refine LeO.bind ?_ (fun _ => ?_))
  ·intro y0 y1 y2 y3 y4 y5 y6 y7 y8 y9
   unfold laws_FnRepetition.j7
   repeat' first
   | (with_reducible exact ih0 _ _ _ _ _ _ _ _ _ _ _ _ _ _ _ _ _ _ _ _ _ _)
   | (with_reducible exact ih1 _ _ _ _ _ _ _ _ _ _ _ _)
   | (with_reducible exact ih2 _ _ _ _ _ _)
   | (with_reducible exact ih3 _ _ _ _ _)
   | (with_reducible exact ih4 _ _ _ _ _)
   | (with_reducible exact ih5 _ _ _ _ _ _ _ _ _ _)
   | (with_reducible exact ih6 _ _ _ _ _ _ _ _ _ _ _)
   | (with_reducible exact ih7 _ _ _ _ _ _ _ _ _ _ _ _ _)
   | (with_reducible exact impl_AnswerCard.mono _ _ _ _ _ _)
   | (with_reducible exact impl_AreCards.mono _ _)
   | (with_reducible exact impl_DayOfLast.mono _ _ _ _ _)
   | (with_reducible exact impl_RunAnswers.mono _ _ _)
   | (with_reducible exact laws_qCards.mono _ _ _)
   | (with_reducible exact laws_qHas.mono _ _ _)
   | (with_reducible exact laws_qInts.mono _ _ _)
   | (with_reducible exact spec_AnswerCard.mono _ _ _ _ _ _)
   | (with_reducible exact spec_DayOfLast.mono _ _ _ _ _)
   | (with_reducible exact spec_DrawAnswerCard.mono _ _)
   | (with_reducible exact spec_DrawDayOfLast.mono _ _)
   | (with_reducible exact spec_DrawRunAnswers.mono _ _)
   | (with_reducible exact spec_RunAnswers.mono _ _ _)
   | (with_reducible exact LeO.refl _)
   | (with_reducible exact LeO.none _)
   | (with_reducible refine LeO.ite ?_ ?_)
   | (with_reducible refine LeO.bind ?_ (fun _ => ?_))
  ·intro y0 y1 y2 y3 y4 y5 y6 y7 y8 y9 y10
   unfold laws_FnRepetition.j2
   repeat' first
   | (with_reducible exact ih0 _ _ _ _ _ _ _ _ _ _ _ _ _ _ _ _ _ _ _ _ _ _)
   | (with_reducible exact ih1 _ _ _ _ _ _ _ _ _ _ _ _)
   | (with_reducible exact ih2 _ _ _ _ _ _)
   | (with_reducible exact ih3 _ _ _ _ _)
   | (with_reducible exact ih4 _ _ _ _ _)
   | (with_reducible exact ih5 _ _ _ _ _ _ _ _ _ _)
   | (with_reducible exact ih6 _ _ _ _ _ _ _ _ _ _ _)
   | (with_reducible exact ih7 _ _ _ _ _ _ _ _ _ _ _ _ _)
   | (with_reducible exact impl_AnswerCard.mono _ _ _ _ _ _)
   | (with_reducible exact impl_AreCards.mono _ _)
   | (with_reducible exact impl_DayOfLast.mono _ _ _ _ _)
   | (with_reducible exact impl_RunAnswers.mono _ _ _)
   | (with_reducible exact laws_qCards.mono _ _ _)
   | (with_reducible exact laws_qHas.mono _ _ _)
   | (with_reducible exact laws_qInts.mono _ _ _)
   | (with_reducible exact spec_AnswerCard.mono _ _ _ _ _ _)
   | (with_reducible exact spec_DayOfLast.mono _ _ _ _ _)
   | (with_reducible exact spec_DrawAnswerCard.mono _ _)
   | (with_reducible exact spec_DrawDayOfLast.mono _ _)
   | (with_reducible exact spec_DrawRunAnswers.mono _ _)
   | (with_reducible exact spec_RunAnswers.mono _ _ _)
   | (with_reducible exact LeO.refl _)
   | (with_reducible exact LeO.none _)
   | (with_reducible refine LeO.ite ?_ ?_)
   | (with_reducible refine LeO.bind ?_ (fun _ => ?_))
  ·intro y0 y1 y2 y3 y4 y5 y6 y7 y8 y9 y10 y11 y12
   unfold laws_FnRepetition.l0
   repeat' first
   | (with_reducible exact ih0 _ _ _ _ _ _ _ _ _ _ _ _ _ _ _ _ _ _ _ _ _ _)
   | (with_reducible exact ih1 _ _ _ _ _ _ _ _ _ _ _ _)
   | (with_reducible exact ih2 _ _ _ _ _ _)
   | (with_reducible exact ih3 _ _ _ _ _)
   | (with_reducible exact ih4 _ _ _ _ _)
   | (with_reducible exact ih5 _ _ _ _ _ _ _ _ _ _)
   | (with_reducible exact ih6 _ _ _ _ _ _ _ _ _ _ _)
   | (with_reducible exact ih7 _ _ _ _ _ _ _ _ _ _ _ _ _)
   | (with_reducible exact impl_AnswerCard.mono _ _ _ _ _ _)
   | (with_reducible exact impl_AreCards.mono _ _)
   | (with_reducible exact impl_DayOfLast.mono _ _ _ _ _)
   | (with_reducible exact impl_RunAnswers.mono _ _ _)
   | (with_reducible exact laws_qCards.mono _ _ _)
   | (with_reducible exact laws_qHas.mono _ _ _)
   | (with_reducible exact laws_qInts.mono _ _ _)
   | (with_reducible exact spec_AnswerCard.mono _ _ _ _ _ _)
   | (with_reducible exact spec_DayOfLast.mono _ _ _ _ _)
   | (with_reducible exact spec_DrawAnswerCard.mono _ _)
   | (with_reducible exact spec_DrawDayOfLast.mono _ _)
   | (with_reducible exact spec_DrawRunAnswers.mono _ _)
   | (with_reducible exact spec_RunAnswers.mono _ _ _)
   | (with_reducible exact LeO.refl _)
   | (with_reducible exact LeO.none _)
   | (with_reducible refine LeO.ite ?_ ?_)
   | (with_reducible refine LeO.bind ?_ (fun _ => ?_))
theorem laws_FnRepetition.mono : ∀ a0 a1 k,LeO (laws_FnRepetition.f k a0 a1) (laws_FnRepetition.f (k + 1) a0 a1) := by
 intro a0 a1 k
 obtain ⟨ih0,ih1,ih2,ih3,ih4,ih5,ih6,ih7⟩ := laws_FnRepetition.mono_l k
 unfold laws_FnRepetition.f
 repeat' first
   | (with_reducible exact ih0 _ _ _ _ _ _ _ _ _ _ _ _ _ _ _ _ _ _ _ _ _ _)
   | (with_reducible exact ih1 _ _ _ _ _ _ _ _ _ _ _ _)
   | (with_reducible exact ih2 _ _ _ _ _ _)
   | (with_reducible exact ih3 _ _ _ _ _)
   | (with_reducible exact ih4 _ _ _ _ _)
   | (with_reducible exact ih5 _ _ _ _ _ _ _ _ _ _)
   | (with_reducible exact ih6 _ _ _ _ _ _ _ _ _ _ _)
   | (with_reducible exact ih7 _ _ _ _ _ _ _ _ _ _ _ _ _)
   | (with_reducible exact impl_AnswerCard.mono _ _ _ _ _ _)
   | (with_reducible exact impl_AreCards.mono _ _)
   | (with_reducible exact impl_DayOfLast.mono _ _ _ _ _)
   | (with_reducible exact impl_RunAnswers.mono _ _ _)
   | (with_reducible exact laws_qCards.mono _ _ _)
   | (with_reducible exact laws_qHas.mono _ _ _)
   | (with_reducible exact laws_qInts.mono _ _ _)
   | (with_reducible exact spec_AnswerCard.mono _ _ _ _ _ _)
   | (with_reducible exact spec_DayOfLast.mono _ _ _ _ _)
   | (with_reducible exact spec_DrawAnswerCard.mono _ _)
   | (with_reducible exact spec_DrawDayOfLast.mono _ _)
   | (with_reducible exact spec_DrawRunAnswers.mono _ _)
   | (with_reducible exact spec_RunAnswers.mono _ _ _)
   | (with_reducible exact LeO.refl _)
   | (with_reducible exact LeO.none _)
   | (with_reducible refine LeO.ite ?_ ?_)
   | (with_reducible refine LeO.bind ?_ (fun _ => ?_))
set_option maxHeartbeats 3000000 in
set_option maxRecDepth 100000 in
theorem laws_FnRepetition.calls (k : Nat) (A0 : Option Addr) (c0 : Nat) (l0 : List Int) (A1 : Option Addr) (c1 : Nat) (l1 : List Int) (r : Bool) (w : World) (hr0 : Kd.C (Kd.int .u8) w A0 l0.length l0) (hc0 : l0.length ≤ c0) (hr1 : Kd.C (Kd.int .u8) w A1 l1.length l1) (hc1 : l1.length ≤ c1) (h : laws_FnRepetition.f k l0 l1 = some r) :
  Calls Try.prog 3 #[.slice A0 l0.length c0,.slice A1 l1.length c1] w fun e w' => e = .returned (.bool r) ∧ Below w.heap.size w w' := by
 have hu24 := Try.underlying24
 have hu45 := Try.underlying45
 have HR0 := Aside0.mk hr0
 have HC0 := Aside0.mk hc0
 clear hr0 hc0
 have HR1 := Aside0.mk hr1
 have HC1 := Aside0.mk hc1
 clear hr1 hc1
 have HB := Aside0.mk (Below.refl w.heap.size w)
 have H : (if (wrap64 ((l0.length : Int) + (l1.length : Int))) > 1048576 then (some true) else ((spec_DrawAnswerCard.f k l0).bind fun bt101 => ((impl_AnswerCard.f k bt101.1 bt101.2.1 bt101.2.2.1 bt101.2.2.2.1 bt101.2.2.2.2).bind fun bt107 => ((spec_AnswerCard.f k bt101.1 bt101.2.1 bt101.2.2.1 bt101.2.2.2.1 bt101.2.2.2.2).bind fun bt112 => ((spec_DrawRunAnswers.f k l1).bind fun bt117 => ((impl_RunAnswers.f k bt117.1 bt117.2).bind fun bt123 => ((spec_RunAnswers.f k bt117.1 bt117.2).bind fun bt130 => ((spec_DrawDayOfLast.f k l1).bind fun bt137 => ((impl_DayOfLast.f k bt137.1 bt137.2.1 bt137.2.2.1 bt137.2.2.2).bind fun bt142 => ((spec_DayOfLast.f k bt137.1 bt137.2.1 bt137.2.2.1 bt137.2.2.2).bind fun bt144 => (if (bt107.2.2.2 != bt112.2.2.2) = true then (none) else (if (!(bt107.1.toList == bt112.1.toList) || (!(bt107.2.1 == bt112.2.1) || (!(bt107.2.2.1 == bt112.2.2.1)))) = true then (none) else (if (bt123.2.2 != bt130.2.2) = true then (none) else ((laws_qCards.f k bt123.1 bt130.1).bind fun t146 => (if t146 = true then ((laws_qInts.f k bt123.2.1 bt130.2.1).bind fun t147 => (if t147 = true then (if (bt142.2 != bt144.2) = true then (none) else (laws_FnRepetition.j0 k bt101.2.2.2.1 bt101.2.2.2.2 bt107.2.2.2 bt117.1 bt117.2 bt123.1 bt123.2.2 bt130.1 bt130.2.1 bt137.2.2.2 bt142.2 bt144.1 (bt142.1 != bt144.1) bt101.1 bt101.2.1 bt101.2.2.1 bt112.1 bt112.2.1 bt112.2.2.1 bt137.1 bt137.2.1 bt137.2.2.1)) else (none))) else (none)))))))))))))))) = some r := h
 clear h
 by_cases c3 : (wrap64 ((l0.length : Int) + (l1.length : Int))) > 1048576
 ·rw [if_pos c3] at H
  have c3b0 : decide (1048576 < (wrap64 ((l0.length : Int) + (l1.length : Int)))) = true := decide_eq_true c3
  clear c3
  as_aux_lemma =>
   obtain rfl := Option.some.inj H
   go_enter Try.func3,Try.ntmps3
   go_wp2
   go_ret
   exact ⟨by first|rfl | (simp [*,errW_none,errW_some] <;> rfl),by repeat (first|exact HB.out | apply zbA | apply zbB | apply zbC)⟩
 ·rw [if_neg c3] at H
  have c3b0 : decide (1048576 < (wrap64 ((l0.length : Int) + (l1.length : Int)))) = false := decide_eq_false c3
  clear c3
  replace H := Option.bind_eq_some_iff.mp H
  obtain ⟨⟨t101,t102,t103,t104,t105⟩,A40,H⟩ := H
  try dsimp only at H
  have A4 := Aside0.mk A40
  clear A40
  replace H := Option.bind_eq_some_iff.mp H
  obtain ⟨⟨t107,t108,t109,t110⟩,A50,H⟩ := H
  try dsimp only at H
  have A5 := Aside0.mk A50
  clear A50
  replace H := Option.bind_eq_some_iff.mp H
  obtain ⟨⟨t112,t113,t114,t115⟩,A60,H⟩ := H
  try dsimp only at H
  have A6 := Aside0.mk A60
  clear A60
  replace H := Option.bind_eq_some_iff.mp H
  obtain ⟨⟨t117,t118⟩,A70,H⟩ := H
  try dsimp only at H
  have A7 := Aside0.mk A70
  clear A70
  replace H := Option.bind_eq_some_iff.mp H
  obtain ⟨⟨t123,t124,t125⟩,A80,H⟩ := H
  try dsimp only at H
  have A8 := Aside0.mk A80
  clear A80
  replace H := Option.bind_eq_some_iff.mp H
  obtain ⟨⟨t130,t131,t132⟩,A90,H⟩ := H
  try dsimp only at H
  have A9 := Aside0.mk A90
  clear A90
  replace H := Option.bind_eq_some_iff.mp H
  obtain ⟨⟨t137,t138,t139,t140⟩,A100,H⟩ := H
  try dsimp only at H
  have A10 := Aside0.mk A100
  clear A100
  replace H := Option.bind_eq_some_iff.mp H
  obtain ⟨⟨t142,t143⟩,A110,H⟩ := H
  try dsimp only at H
  have A11 := Aside0.mk A110
  clear A110
  replace H := Option.bind_eq_some_iff.mp H
  obtain ⟨⟨t144,t145⟩,A120,H⟩ := H
  try dsimp only at H
  have A12 := Aside0.mk A120
  clear A120
  have HC13 := Aside0.mk H
  clear H
  go_enter Try.func3,Try.ntmps3
  go_upto_region 12 with (first|((with_reducible refine gate_callee (f := 5) rfl ?_);refine goesM_ (some 47) Try.func5 #[.slice A0 l0.length c0] ?_;(with_reducible refine (spec_DrawAnswerCard.calls k _ _ l0 t101 t102 t103 t104 t105 _ ?side1 ?side2 A4.out).mono ?_);(case side1 => repeat (first|exact HR0.out | (with_reducible refine Kd.C_alloc ?_ _)|(with_reducible refine Kd.C_drewN ?_ _)|(with_reducible refine Kd.C_drew ?_)));(case side2 => exact HC0.out);rintro e w14 ⟨rfl,hb⟩;refine ⟨_,rfl,?_⟩;have n0_ := Aside0.mk (below_step (by repeat (first|exact HB.out | apply zbA | apply zbB | apply zbC)) hb);clear HB;have HB := n0_;clear n0_;(try clear hb))|((with_reducible refine gate_dst (N := 5) rfl ?_);(try (refine gate_guard (by rfl) ?_;dsimp only));refine box_event ?hg (N := 5) ?hd (cs := #[.string (⟨#[]⟩ : ByteArray),.int .i64 0,.int .i64 0]) (t := 24) ?hr ?_;(case hd => rfl);(case hg => rfl);(case hr => first|(go_simp;done)|(go_simp;rfl));intro gb106 hg w15 hbox hb;have n0_ := Aside0.mk (below_step (by repeat (first|exact HB.out | apply zbA | apply zbB | apply zbC)) hb);have n1_ := Aside0.mk (hbox);have n2_ := Aside0.mk ((by rw [hg];exact (below_size (by repeat (first|exact HB.out | apply zbA | apply zbB | apply zbC))) : w.heap.size ≤ gb106));have n3_ := Aside0.mk ((by rw [hg];exact (below_size (by repeat (first|exact HB.out | apply zbA | apply zbB | apply zbC))) : w.heap.size ≤ gb106));clear HB;have HB := n0_;have BK106 := n1_;have GW106 := n2_;have GE106 := n3_;clear n0_ n1_ n2_ n3_;clear hb hbox hg;have hcz16_0 : w15.cell? ⟨gb106,0,none⟩ = some (.string (⟨#[]⟩ : ByteArray)) := (blk_cell BK106.out 0).trans rfl;have hcz16_1 : w15.cell? ⟨gb106,1,none⟩ = some (.int .i64 0) := (blk_cell BK106.out 1).trans rfl;have hcz16_2 : w15.cell? ⟨gb106,2,none⟩ = some (.int .i64 0) := (blk_cell BK106.out 2).trans rfl;have hfz16_0 := blk_frozen BK106.out 0;have hfz16_1 := blk_frozen BK106.out 1;have hfz16_2 := blk_frozen BK106.out 2)|((with_reducible refine gate_callee (f := 6) rfl ?_);refine goesL_ (some 55) rfl rfl Try.func6 (by kernel_rfl) rfl #[.agg #[.string t101,.int .i64 t102,.int .i64 t103],.int .i64 t104,.bool t105] rfl (by (try simp only [List.map_toArray,List.map_cons,List.map_nil]);first|done | rfl | (simp only [List.length_drop,List.length_take];rfl)) ?_;(with_reducible refine (impl_AnswerCard.calls k t101 t102 t103 t104 t105 t107 t108 t109 t110 _ A5.out).mono ?_);rintro e w17 ⟨rfl,hb⟩;refine ⟨_,rfl,?_⟩;have n0_ := Aside0.mk (blk_below (g := gb106) (o := .cells #[.string t101,.int .i64 t102,.int .i64 t103] 24 (0,0)) (by (with_reducible repeat (first|apply zhA | apply zhB | apply zhC));refine blk_put (cs := #[.string t101,.int .i64 t102,.int .i64 0]) ?_ 2 _ rfl;(with_reducible repeat (first|apply zhA | apply zhB | apply zhC));refine blk_put (cs := #[.string t101,.int .i64 0,.int .i64 0]) ?_ 1 _ rfl;(with_reducible repeat (first|apply zhA | apply zhB | apply zhC));refine blk_put (cs := #[.string (⟨#[]⟩ : ByteArray),.int .i64 0,.int .i64 0]) ?_ 0 _ rfl;(with_reducible repeat (first|apply zhA | apply zhB | apply zhC));exact BK106.out) hb);have n1_ := Aside0.mk (below_step (by repeat (first|(with_reducible first|exact HB.out | apply zbA | apply zbB | apply zbC | refine below_set ?_ GE106.out) | exact HB.out)) hb);clear BK106;clear HB;have BK106 := n0_;have HB := n1_;clear n0_ n1_;(try clear hb))|((with_reducible refine gate_dst (N := 8) rfl ?_);(try (refine gate_guard (by rfl) ?_;dsimp only));refine box_event ?hg (N := 8) ?hd (cs := #[.string (⟨#[]⟩ : ByteArray),.int .i64 0,.int .i64 0]) (t := 24) ?hr ?_;(case hd => rfl);(case hg => rfl);(case hr => first|(go_simp;done)|(go_simp;rfl));intro gb111 hg w18 hbox hb;have n0_ := Aside0.mk (blk_below (g := gb106) (o := .cells #[.string t101,.int .i64 t102,.int .i64 t103] 24 (0,0)) (by (with_reducible repeat (first|apply zhA | apply zhB | apply zhC));exact BK106.out) hb);have n1_ := Aside0.mk (below_step (by repeat (first|(with_reducible first|exact HB.out | apply zbA | apply zbB | apply zbC | refine below_set ?_ GE106.out) | exact HB.out)) hb);have n2_ := Aside0.mk (hbox);have n3_ := Aside0.mk ((by rw [hg];exact (below_size (by repeat (first|(with_reducible first|exact HB.out | apply zbA | apply zbB | apply zbC | refine below_set ?_ GE106.out) | exact HB.out))) : w.heap.size ≤ gb111));have n4_ := Aside0.mk ((by rw [hg];exact (below_size (by repeat (first|(with_reducible first|exact HB.out | apply zbA | apply zbB | apply zbC | refine below_set ?_ GE106.out) | exact HB.out))) : w.heap.size ≤ gb111));have n5_ := Aside0.mk ((by rw [hg];exact Nat.ne_of_lt (blk_lt (g := gb106) (o := .cells #[.string t101,.int .i64 t102,.int .i64 t103] 24 (0,0)) (by (with_reducible repeat (first|apply zhA | apply zhB | apply zhC));exact BK106.out)) : gb106 ≠ gb111));have n6_ := Aside0.mk ((by rw [hg];exact Nat.ne_of_gt (blk_lt (g := gb106) (o := .cells #[.string t101,.int .i64 t102,.int .i64 t103] 24 (0,0)) (by (with_reducible repeat (first|apply zhA | apply zhB | apply zhC));exact BK106.out)) : gb111 ≠ gb106));clear BK106;clear HB;have BK106 := n0_;have HB := n1_;have BK111 := n2_;have GW111 := n3_;have GE111 := n4_;have NB106_111 := n5_;have NB111_106 := n6_;clear n0_ n1_ n2_ n3_ n4_ n5_ n6_;clear hb hbox hg;have hnb19 := NB111_106.out;have hnc19 := NB106_111.out;have hcz20_0 : w18.cell? ⟨gb111,0,none⟩ = some (.string (⟨#[]⟩ : ByteArray)) := (blk_cell BK111.out 0).trans rfl;have hcz20_1 : w18.cell? ⟨gb111,1,none⟩ = some (.int .i64 0) := (blk_cell BK111.out 1).trans rfl;have hcz20_2 : w18.cell? ⟨gb111,2,none⟩ = some (.int .i64 0) := (blk_cell BK111.out 2).trans rfl;have hfz20_0 := blk_frozen BK111.out 0;have hfz20_1 := blk_frozen BK111.out 1;have hfz20_2 := blk_frozen BK111.out 2;have hcz21_0 : w18.cell? ⟨gb106,0,none⟩ = some (.string t101) := (blk_cell BK106.out 0).trans rfl;have hcz21_1 : w18.cell? ⟨gb106,1,none⟩ = some (.int .i64 t102) := (blk_cell BK106.out 1).trans rfl;have hcz21_2 : w18.cell? ⟨gb106,2,none⟩ = some (.int .i64 t103) := (blk_cell BK106.out 2).trans rfl;have hfz21_0 := blk_frozen BK106.out 0;have hfz21_1 := blk_frozen BK106.out 1;have hfz21_2 := blk_frozen BK106.out 2)|((with_reducible refine gate_callee (f := 7) rfl ?_);refine goesL_ (some 62) rfl rfl Try.func7 (by kernel_rfl) rfl #[.agg #[.string t101,.int .i64 t102,.int .i64 t103],.int .i64 t104,.bool t105] rfl (by (try simp only [List.map_toArray,List.map_cons,List.map_nil]);first|done | rfl | (simp only [List.length_drop,List.length_take];rfl)) ?_;(with_reducible refine (spec_AnswerCard.calls k t101 t102 t103 t104 t105 t112 t113 t114 t115 _ A6.out).mono ?_);rintro e w22 ⟨rfl,hb⟩;refine ⟨_,rfl,?_⟩;have n0_ := Aside0.mk (blk_below (g := gb106) (o := .cells #[.string t101,.int .i64 t102,.int .i64 t103] 24 (0,0)) (by (with_reducible repeat (first|apply zhA | apply zhB | apply zhC));refine blk_far ?_ NB106_111.out _;(with_reducible repeat (first|apply zhA | apply zhB | apply zhC));refine blk_far ?_ NB106_111.out _;(with_reducible repeat (first|apply zhA | apply zhB | apply zhC));refine blk_far ?_ NB106_111.out _;(with_reducible repeat (first|apply zhA | apply zhB | apply zhC));exact BK106.out) hb);have n1_ := Aside0.mk (blk_below (g := gb111) (o := .cells #[.string t107,.int .i64 t108,.int .i64 t109] 24 (0,0)) (by (with_reducible repeat (first|apply zhA | apply zhB | apply zhC));refine blk_put (cs := #[.string t107,.int .i64 t108,.int .i64 0]) ?_ 2 _ rfl;(with_reducible repeat (first|apply zhA | apply zhB | apply zhC));refine blk_put (cs := #[.string t107,.int .i64 0,.int .i64 0]) ?_ 1 _ rfl;(with_reducible repeat (first|apply zhA | apply zhB | apply zhC));refine blk_put (cs := #[.string (⟨#[]⟩ : ByteArray),.int .i64 0,.int .i64 0]) ?_ 0 _ rfl;(with_reducible repeat (first|apply zhA | apply zhB | apply zhC));exact BK111.out) hb);have n2_ := Aside0.mk (below_step (by repeat (first|(with_reducible first|exact HB.out | apply zbA | apply zbB | apply zbC | refine below_set ?_ GE106.out | refine below_set ?_ GE111.out) | exact HB.out)) hb);clear BK106;clear BK111;clear HB;have BK106 := n0_;have BK111 := n1_;have HB := n2_;clear n0_ n1_ n2_;(try clear hb))|((with_reducible refine gate_dst (N := 10) rfl ?_);(try (refine gate_guard (by rfl) ?_;dsimp only));refine box_event ?hg (N := 10) ?hd (cs := #[.string (⟨#[]⟩ : ByteArray),.int .i64 0,.int .i64 0]) (t := 24) ?hr ?_;(case hd => rfl);(case hg => rfl);(case hr => first|(go_simp;done)|(go_simp;rfl));intro gb116 hg w23 hbox hb;have n0_ := Aside0.mk (blk_below (g := gb106) (o := .cells #[.string t101,.int .i64 t102,.int .i64 t103] 24 (0,0)) (by (with_reducible repeat (first|apply zhA | apply zhB | apply zhC));exact BK106.out) hb);have n1_ := Aside0.mk (blk_below (g := gb111) (o := .cells #[.string t107,.int .i64 t108,.int .i64 t109] 24 (0,0)) (by (with_reducible repeat (first|apply zhA | apply zhB | apply zhC));exact BK111.out) hb);have n2_ := Aside0.mk (below_step (by repeat (first|(with_reducible first|exact HB.out | apply zbA | apply zbB | apply zbC | refine below_set ?_ GE106.out | refine below_set ?_ GE111.out) | exact HB.out)) hb);have n3_ := Aside0.mk (hbox);have n4_ := Aside0.mk ((by rw [hg];exact (below_size (by repeat (first|(with_reducible first|exact HB.out | apply zbA | apply zbB | apply zbC | refine below_set ?_ GE106.out | refine below_set ?_ GE111.out) | exact HB.out))) : w.heap.size ≤ gb116));have n5_ := Aside0.mk ((by rw [hg];exact (below_size (by repeat (first|(with_reducible first|exact HB.out | apply zbA | apply zbB | apply zbC | refine below_set ?_ GE106.out | refine below_set ?_ GE111.out) | exact HB.out))) : w.heap.size ≤ gb116));have n6_ := Aside0.mk ((by rw [hg];exact Nat.ne_of_lt (blk_lt (g := gb106) (o := .cells #[.string t101,.int .i64 t102,.int .i64 t103] 24 (0,0)) (by (with_reducible repeat (first|apply zhA | apply zhB | apply zhC));exact BK106.out)) : gb106 ≠ gb116));have n7_ := Aside0.mk ((by rw [hg];exact Nat.ne_of_gt (blk_lt (g := gb106) (o := .cells #[.string t101,.int .i64 t102,.int .i64 t103] 24 (0,0)) (by (with_reducible repeat (first|apply zhA | apply zhB | apply zhC));exact BK106.out)) : gb116 ≠ gb106));have n8_ := Aside0.mk ((by rw [hg];exact Nat.ne_of_lt (blk_lt (g := gb111) (o := .cells #[.string t107,.int .i64 t108,.int .i64 t109] 24 (0,0)) (by (with_reducible repeat (first|apply zhA | apply zhB | apply zhC));exact BK111.out)) : gb111 ≠ gb116));have n9_ := Aside0.mk ((by rw [hg];exact Nat.ne_of_gt (blk_lt (g := gb111) (o := .cells #[.string t107,.int .i64 t108,.int .i64 t109] 24 (0,0)) (by (with_reducible repeat (first|apply zhA | apply zhB | apply zhC));exact BK111.out)) : gb116 ≠ gb111));clear BK106;clear BK111;clear HB;have BK106 := n0_;have BK111 := n1_;have HB := n2_;have BK116 := n3_;have GW116 := n4_;have GE116 := n5_;have NB106_116 := n6_;have NB116_106 := n7_;have NB111_116 := n8_;have NB116_111 := n9_;clear n0_ n1_ n2_ n3_ n4_ n5_ n6_ n7_ n8_ n9_;clear hb hbox hg;have hnb24 := NB116_106.out;have hnc24 := NB106_116.out;have hnb25 := NB116_111.out;have hnc25 := NB111_116.out;have hcz26_0 : w23.cell? ⟨gb116,0,none⟩ = some (.string (⟨#[]⟩ : ByteArray)) := (blk_cell BK116.out 0).trans rfl;have hcz26_1 : w23.cell? ⟨gb116,1,none⟩ = some (.int .i64 0) := (blk_cell BK116.out 1).trans rfl;have hcz26_2 : w23.cell? ⟨gb116,2,none⟩ = some (.int .i64 0) := (blk_cell BK116.out 2).trans rfl;have hfz26_0 := blk_frozen BK116.out 0;have hfz26_1 := blk_frozen BK116.out 1;have hfz26_2 := blk_frozen BK116.out 2)|((with_reducible refine gate_callee (f := 8) rfl ?_);refine goesM_ (some 67) Try.func8 #[.slice A1 l1.length c1] ?_;(with_reducible refine (spec_DrawRunAnswers.calls k _ _ l1 t117 t118 _ ?side1 ?side2 A7.out).mono ?_);(case side1 => exact Kd.C_below HR1.out (by repeat (first|(with_reducible first|exact HB.out | apply zbA | apply zbB | apply zbC | refine below_set ?_ GE106.out | refine below_set ?_ GE111.out | refine below_set ?_ GE116.out) | exact HB.out)));(case side2 => exact HC1.out);rintro e w27 ⟨v119,v121,rfl,ho0,ho1,hb⟩;refine ⟨_,rfl,?_⟩;have n0_ := Aside0.mk (Kd.R_lower (Kd.R_newB (Kd.R_newB (Kd.R_newB ho0 (g := gb106) (o := .cells #[.string t101,.int .i64 t102,.int .i64 t103] 24 (0,0)) (by (with_reducible repeat (first|apply zhA | apply zhB | apply zhC));refine blk_far ?_ NB106_116.out _;(with_reducible repeat (first|apply zhA | apply zhB | apply zhC));refine blk_far ?_ NB106_116.out _;(with_reducible repeat (first|apply zhA | apply zhB | apply zhC));refine blk_far ?_ NB106_116.out _;(with_reducible repeat (first|apply zhA | apply zhB | apply zhC));exact BK106.out)) (g := gb111) (o := .cells #[.string t107,.int .i64 t108,.int .i64 t109] 24 (0,0)) (by (with_reducible repeat (first|apply zhA | apply zhB | apply zhC));refine blk_far ?_ NB111_116.out _;(with_reducible repeat (first|apply zhA | apply zhB | apply zhC));refine blk_far ?_ NB111_116.out _;(with_reducible repeat (first|apply zhA | apply zhB | apply zhC));refine blk_far ?_ NB111_116.out _;(with_reducible repeat (first|apply zhA | apply zhB | apply zhC));exact BK111.out)) (g := gb116) (o := .cells #[.string t112,.int .i64 t113,.int .i64 t114] 24 (0,0)) (by (with_reducible repeat (first|apply zhA | apply zhB | apply zhC));refine blk_put (cs := #[.string t112,.int .i64 t113,.int .i64 0]) ?_ 2 _ rfl;(with_reducible repeat (first|apply zhA | apply zhB | apply zhC));refine blk_put (cs := #[.string t112,.int .i64 0,.int .i64 0]) ?_ 1 _ rfl;(with_reducible repeat (first|apply zhA | apply zhB | apply zhC));refine blk_put (cs := #[.string (⟨#[]⟩ : ByteArray),.int .i64 0,.int .i64 0]) ?_ 0 _ rfl;(with_reducible repeat (first|apply zhA | apply zhB | apply zhC));exact BK116.out)) (below_size (by repeat (first|(with_reducible first|exact HB.out | apply zbA | apply zbB | apply zbC | refine below_set ?_ GE106.out | refine below_set ?_ GE111.out | refine below_set ?_ GE116.out) | exact HB.out))));have n1_ := Aside0.mk (Kd.R_lower ho1 (below_size (by repeat (first|(with_reducible first|exact HB.out | apply zbA | apply zbB | apply zbC | refine below_set ?_ GE106.out | refine below_set ?_ GE111.out | refine below_set ?_ GE116.out) | exact HB.out))));have n2_ := Aside0.mk (blk_below (g := gb106) (o := .cells #[.string t101,.int .i64 t102,.int .i64 t103] 24 (0,0)) (by (with_reducible repeat (first|apply zhA | apply zhB | apply zhC));refine blk_far ?_ NB106_116.out _;(with_reducible repeat (first|apply zhA | apply zhB | apply zhC));refine blk_far ?_ NB106_116.out _;(with_reducible repeat (first|apply zhA | apply zhB | apply zhC));refine blk_far ?_ NB106_116.out _;(with_reducible repeat (first|apply zhA | apply zhB | apply zhC));exact BK106.out) hb);have n3_ := Aside0.mk (blk_below (g := gb111) (o := .cells #[.string t107,.int .i64 t108,.int .i64 t109] 24 (0,0)) (by (with_reducible repeat (first|apply zhA | apply zhB | apply zhC));refine blk_far ?_ NB111_116.out _;(with_reducible repeat (first|apply zhA | apply zhB | apply zhC));refine blk_far ?_ NB111_116.out _;(with_reducible repeat (first|apply zhA | apply zhB | apply zhC));refine blk_far ?_ NB111_116.out _;(with_reducible repeat (first|apply zhA | apply zhB | apply zhC));exact BK111.out) hb);have n4_ := Aside0.mk (blk_below (g := gb116) (o := .cells #[.string t112,.int .i64 t113,.int .i64 t114] 24 (0,0)) (by (with_reducible repeat (first|apply zhA | apply zhB | apply zhC));refine blk_put (cs := #[.string t112,.int .i64 t113,.int .i64 0]) ?_ 2 _ rfl;(with_reducible repeat (first|apply zhA | apply zhB | apply zhC));refine blk_put (cs := #[.string t112,.int .i64 0,.int .i64 0]) ?_ 1 _ rfl;(with_reducible repeat (first|apply zhA | apply zhB | apply zhC));refine blk_put (cs := #[.string (⟨#[]⟩ : ByteArray),.int .i64 0,.int .i64 0]) ?_ 0 _ rfl;(with_reducible repeat (first|apply zhA | apply zhB | apply zhC));exact BK116.out) hb);have n5_ := Aside0.mk (below_step (by repeat (first|(with_reducible first|exact HB.out | apply zbA | apply zbB | apply zbC | refine below_set ?_ GE106.out | refine below_set ?_ GE111.out | refine below_set ?_ GE116.out) | exact HB.out)) hb);clear BK106;clear BK111;clear BK116;clear HB;have HO120 := n0_;have HO122 := n1_;have BK106 := n2_;have BK111 := n3_;have BK116 := n4_;have HB := n5_;clear n0_ n1_ n2_ n3_ n4_ n5_;(try clear hb);(try clear ho0);(try clear ho1);obtain ⟨Ao28,co28,eo28⟩ := Kd.R_slice HO120.out;subst eo28;obtain ⟨Ao29,co29,eo29⟩ := Kd.R_slice HO122.out;subst eo29)|((with_reducible refine gate_callee (f := 9) rfl ?_);refine goesM_ (some 73) Try.func9 #[.slice Ao28 t117.length co28,.slice Ao29 t118.length co29] ?_;(with_reducible refine (impl_RunAnswers.calls k _ _ t117 _ _ t118 t123 t124 t125 _ ?side1 ?side2 ?side3 ?side4 A8.out).mono ?_);(case side1 => repeat (first|exact (Kd.R_reads' HO120.out).2.2 | (with_reducible refine Kd.C_alloc ?_ _)|(with_reducible refine Kd.C_drewN ?_ _)|(with_reducible refine Kd.C_drew ?_)));(case side2 => exact (Kd.R_reads' HO120.out).2.1);(case side3 => repeat (first|exact (Kd.R_reads' HO122.out).2.2 | (with_reducible refine Kd.C_alloc ?_ _)|(with_reducible refine Kd.C_drewN ?_ _)|(with_reducible refine Kd.C_drew ?_)));(case side4 => exact (Kd.R_reads' HO122.out).2.1);rintro e w30 ⟨v126,v128,rfl,ho0,ho1,hb⟩;refine ⟨_,rfl,?_⟩;have n0_ := Aside0.mk (Kd.R_elder' (by (with_reducible repeat (first|apply zkA | apply zkB | apply zkC));exact HO120.out) (Kd.R_base ho0) hb);have n1_ := Aside0.mk (Kd.R_below (by (with_reducible repeat (first|apply zkA | apply zkB | apply zkC));exact HO122.out) hb);have n2_ := Aside0.mk (Kd.R_lower (Kd.R_newB (Kd.R_newB (Kd.R_newB (Kd.R_new' ho0 (Kd.R_lt (by (with_reducible repeat (first|apply zkA | apply zkB | apply zkC));exact HO120.out))) (g := gb106) (o := .cells #[.string t101,.int .i64 t102,.int .i64 t103] 24 (0,0)) (by (with_reducible repeat (first|apply zhA | apply zhB | apply zhC));exact BK106.out)) (g := gb111) (o := .cells #[.string t107,.int .i64 t108,.int .i64 t109] 24 (0,0)) (by (with_reducible repeat (first|apply zhA | apply zhB | apply zhC));exact BK111.out)) (g := gb116) (o := .cells #[.string t112,.int .i64 t113,.int .i64 t114] 24 (0,0)) (by (with_reducible repeat (first|apply zhA | apply zhB | apply zhC));exact BK116.out)) (below_size (by repeat (first|(with_reducible first|exact HB.out | apply zbA | apply zbB | apply zbC | refine below_set ?_ GE106.out | refine below_set ?_ GE111.out | refine below_set ?_ GE116.out) | exact HB.out))));have n3_ := Aside0.mk (Kd.R_lower ho1 (below_size (by repeat (first|(with_reducible first|exact HB.out | apply zbA | apply zbB | apply zbC | refine below_set ?_ GE106.out | refine below_set ?_ GE111.out | refine below_set ?_ GE116.out) | exact HB.out))));have n4_ := Aside0.mk (blk_below (g := gb106) (o := .cells #[.string t101,.int .i64 t102,.int .i64 t103] 24 (0,0)) (by (with_reducible repeat (first|apply zhA | apply zhB | apply zhC));exact BK106.out) hb);have n5_ := Aside0.mk (blk_below (g := gb111) (o := .cells #[.string t107,.int .i64 t108,.int .i64 t109] 24 (0,0)) (by (with_reducible repeat (first|apply zhA | apply zhB | apply zhC));exact BK111.out) hb);have n6_ := Aside0.mk (blk_below (g := gb116) (o := .cells #[.string t112,.int .i64 t113,.int .i64 t114] 24 (0,0)) (by (with_reducible repeat (first|apply zhA | apply zhB | apply zhC));exact BK116.out) hb);have n7_ := Aside0.mk (below_step (by repeat (first|(with_reducible first|exact HB.out | apply zbA | apply zbB | apply zbC | refine below_set ?_ GE106.out | refine below_set ?_ GE111.out | refine below_set ?_ GE116.out) | exact HB.out)) hb);clear HO120;clear HO122;clear BK106;clear BK111;clear BK116;clear HB;have HO120 := n0_;have HO122 := n1_;have HO127 := n2_;have HO129 := n3_;have BK106 := n4_;have BK111 := n5_;have BK116 := n6_;have HB := n7_;clear n0_ n1_ n2_ n3_ n4_ n5_ n6_ n7_;(try clear hb);(try clear ho0);(try clear ho1))|((with_reducible refine gate_callee (f := 10) rfl ?_);refine goesM_ (some 80) Try.func10 #[.slice Ao28 t117.length co28,.slice Ao29 t118.length co29] ?_;(with_reducible refine (spec_RunAnswers.calls k _ _ t117 _ _ t118 t130 t131 t132 _ ?side1 ?side2 ?side3 ?side4 A9.out).mono ?_);(case side1 => repeat (first|exact (Kd.R_reads' HO120.out).2.2 | (with_reducible refine Kd.C_alloc ?_ _)|(with_reducible refine Kd.C_drewN ?_ _)|(with_reducible refine Kd.C_drew ?_)));(case side2 => exact (Kd.R_reads' HO120.out).2.1);(case side3 => repeat (first|exact (Kd.R_reads' HO122.out).2.2 | (with_reducible refine Kd.C_alloc ?_ _)|(with_reducible refine Kd.C_drewN ?_ _)|(with_reducible refine Kd.C_drew ?_)));(case side4 => exact (Kd.R_reads' HO122.out).2.1);rintro e w31 ⟨v133,v135,rfl,ho0,ho1,hb⟩;refine ⟨_,rfl,?_⟩;have n0_ := Aside0.mk (Kd.R_elder' (by (with_reducible repeat (first|apply zkA | apply zkB | apply zkC));exact HO120.out) (Kd.R_base ho0) hb);have n1_ := Aside0.mk (Kd.R_below (by (with_reducible repeat (first|apply zkA | apply zkB | apply zkC));exact HO122.out) hb);have n2_ := Aside0.mk (Kd.R_elder' (by (with_reducible repeat (first|apply zkA | apply zkB | apply zkC));exact HO127.out) (Kd.R_base ho0) hb);have n3_ := Aside0.mk (Kd.R_elder' (by (with_reducible repeat (first|apply zkA | apply zkB | apply zkC));exact HO129.out) (Kd.R_base ho1) hb);have n4_ := Aside0.mk (Kd.R_lower (Kd.R_newB (Kd.R_newB (Kd.R_newB (Kd.R_new' (Kd.R_new' ho0 (Kd.R_lt (by (with_reducible repeat (first|apply zkA | apply zkB | apply zkC));exact HO120.out))) (Kd.R_lt (by (with_reducible repeat (first|apply zkA | apply zkB | apply zkC));exact HO127.out))) (g := gb106) (o := .cells #[.string t101,.int .i64 t102,.int .i64 t103] 24 (0,0)) (by (with_reducible repeat (first|apply zhA | apply zhB | apply zhC));exact BK106.out)) (g := gb111) (o := .cells #[.string t107,.int .i64 t108,.int .i64 t109] 24 (0,0)) (by (with_reducible repeat (first|apply zhA | apply zhB | apply zhC));exact BK111.out)) (g := gb116) (o := .cells #[.string t112,.int .i64 t113,.int .i64 t114] 24 (0,0)) (by (with_reducible repeat (first|apply zhA | apply zhB | apply zhC));exact BK116.out)) (below_size (by repeat (first|(with_reducible first|exact HB.out | apply zbA | apply zbB | apply zbC | refine below_set ?_ GE106.out | refine below_set ?_ GE111.out | refine below_set ?_ GE116.out) | exact HB.out))));have n5_ := Aside0.mk (Kd.R_lower (Kd.R_new' ho1 (Kd.R_lt (by (with_reducible repeat (first|apply zkA | apply zkB | apply zkC));exact HO129.out))) (below_size (by repeat (first|(with_reducible first|exact HB.out | apply zbA | apply zbB | apply zbC | refine below_set ?_ GE106.out | refine below_set ?_ GE111.out | refine below_set ?_ GE116.out) | exact HB.out))));have n6_ := Aside0.mk (blk_below (g := gb106) (o := .cells #[.string t101,.int .i64 t102,.int .i64 t103] 24 (0,0)) (by (with_reducible repeat (first|apply zhA | apply zhB | apply zhC));exact BK106.out) hb);have n7_ := Aside0.mk (blk_below (g := gb111) (o := .cells #[.string t107,.int .i64 t108,.int .i64 t109] 24 (0,0)) (by (with_reducible repeat (first|apply zhA | apply zhB | apply zhC));exact BK111.out) hb);have n8_ := Aside0.mk (blk_below (g := gb116) (o := .cells #[.string t112,.int .i64 t113,.int .i64 t114] 24 (0,0)) (by (with_reducible repeat (first|apply zhA | apply zhB | apply zhC));exact BK116.out) hb);have n9_ := Aside0.mk (below_step (by repeat (first|(with_reducible first|exact HB.out | apply zbA | apply zbB | apply zbC | refine below_set ?_ GE106.out | refine below_set ?_ GE111.out | refine below_set ?_ GE116.out) | exact HB.out)) hb);clear HO120;clear HO122;clear HO127;clear HO129;clear BK106;clear BK111;clear BK116;clear HB;have HO120 := n0_;have HO122 := n1_;have HO127 := n2_;have HO129 := n3_;have HO134 := n4_;have HO136 := n5_;have BK106 := n6_;have BK111 := n7_;have BK116 := n8_;have HB := n9_;clear n0_ n1_ n2_ n3_ n4_ n5_ n6_ n7_ n8_ n9_;(try clear hb);(try clear ho0);(try clear ho1))|((with_reducible refine gate_callee (f := 11) rfl ?_);refine goesM_ (some 86) Try.func11 #[.slice A1 l1.length c1] ?_;(with_reducible refine (spec_DrawDayOfLast.calls k _ _ l1 t137 t138 t139 t140 _ ?side1 ?side2 A10.out).mono ?_);(case side1 => repeat (first|exact (Kd.C_below HR1.out HB.out)|(with_reducible refine Kd.C_alloc ?_ _)|(with_reducible refine Kd.C_drewN ?_ _)|(with_reducible refine Kd.C_drew ?_)));(case side2 => exact HC1.out);rintro e w32 ⟨rfl,hb⟩;refine ⟨_,rfl,?_⟩;have n0_ := Aside0.mk (Kd.R_below (by (with_reducible repeat (first|apply zkA | apply zkB | apply zkC));exact HO120.out) hb);have n1_ := Aside0.mk (Kd.R_below (by (with_reducible repeat (first|apply zkA | apply zkB | apply zkC));exact HO122.out) hb);have n2_ := Aside0.mk (Kd.R_below (by (with_reducible repeat (first|apply zkA | apply zkB | apply zkC));exact HO127.out) hb);have n3_ := Aside0.mk (Kd.R_below (by (with_reducible repeat (first|apply zkA | apply zkB | apply zkC));exact HO129.out) hb);have n4_ := Aside0.mk (Kd.R_below (by (with_reducible repeat (first|apply zkA | apply zkB | apply zkC));exact HO134.out) hb);have n5_ := Aside0.mk (Kd.R_below (by (with_reducible repeat (first|apply zkA | apply zkB | apply zkC));exact HO136.out) hb);have n6_ := Aside0.mk (blk_below (g := gb106) (o := .cells #[.string t101,.int .i64 t102,.int .i64 t103] 24 (0,0)) (by (with_reducible repeat (first|apply zhA | apply zhB | apply zhC));exact BK106.out) hb);have n7_ := Aside0.mk (blk_below (g := gb111) (o := .cells #[.string t107,.int .i64 t108,.int .i64 t109] 24 (0,0)) (by (with_reducible repeat (first|apply zhA | apply zhB | apply zhC));exact BK111.out) hb);have n8_ := Aside0.mk (blk_below (g := gb116) (o := .cells #[.string t112,.int .i64 t113,.int .i64 t114] 24 (0,0)) (by (with_reducible repeat (first|apply zhA | apply zhB | apply zhC));exact BK116.out) hb);have n9_ := Aside0.mk (below_step (by repeat (first|(with_reducible first|exact HB.out | apply zbA | apply zbB | apply zbC | refine below_set ?_ GE106.out | refine below_set ?_ GE111.out | refine below_set ?_ GE116.out) | exact HB.out)) hb);clear HO120;clear HO122;clear HO127;clear HO129;clear HO134;clear HO136;clear BK106;clear BK111;clear BK116;clear HB;have HO120 := n0_;have HO122 := n1_;have HO127 := n2_;have HO129 := n3_;have HO134 := n4_;have HO136 := n5_;have BK106 := n6_;have BK111 := n7_;have BK116 := n8_;have HB := n9_;clear n0_ n1_ n2_ n3_ n4_ n5_ n6_ n7_ n8_ n9_;(try clear hb))|((with_reducible refine gate_dst (N := 20) rfl ?_);(try (refine gate_guard (by rfl) ?_;dsimp only));refine box_event ?hg (N := 20) ?hd (cs := #[.string (⟨#[]⟩ : ByteArray),.int .i64 0,.int .i64 0]) (t := 24) ?hr ?_;(case hd => rfl);(case hg => rfl);(case hr => first|(go_simp;done)|(go_simp;rfl));intro gb141 hg w33 hbox hb;have n0_ := Aside0.mk (Kd.R_below (Kd.R_elderB (by (with_reducible repeat (first|apply zkA | apply zkB | apply zkC));exact HO120.out) gb141 (Nat.le_of_eq hg.symm)) hb);have n1_ := Aside0.mk (Kd.R_below (by (with_reducible repeat (first|apply zkA | apply zkB | apply zkC));exact HO122.out) hb);have n2_ := Aside0.mk (Kd.R_below (Kd.R_elderB (by (with_reducible repeat (first|apply zkA | apply zkB | apply zkC));exact HO127.out) gb141 (Nat.le_of_eq hg.symm)) hb);have n3_ := Aside0.mk (Kd.R_below (by (with_reducible repeat (first|apply zkA | apply zkB | apply zkC));exact HO129.out) hb);have n4_ := Aside0.mk (Kd.R_below (Kd.R_elderB (by (with_reducible repeat (first|apply zkA | apply zkB | apply zkC));exact HO134.out) gb141 (Nat.le_of_eq hg.symm)) hb);have n5_ := Aside0.mk (Kd.R_below (by (with_reducible repeat (first|apply zkA | apply zkB | apply zkC));exact HO136.out) hb);have n6_ := Aside0.mk (blk_below (g := gb106) (o := .cells #[.string t101,.int .i64 t102,.int .i64 t103] 24 (0,0)) (by (with_reducible repeat (first|apply zhA | apply zhB | apply zhC));exact BK106.out) hb);have n7_ := Aside0.mk (blk_below (g := gb111) (o := .cells #[.string t107,.int .i64 t108,.int .i64 t109] 24 (0,0)) (by (with_reducible repeat (first|apply zhA | apply zhB | apply zhC));exact BK111.out) hb);have n8_ := Aside0.mk (blk_below (g := gb116) (o := .cells #[.string t112,.int .i64 t113,.int .i64 t114] 24 (0,0)) (by (with_reducible repeat (first|apply zhA | apply zhB | apply zhC));exact BK116.out) hb);have n9_ := Aside0.mk (below_step (by repeat (first|(with_reducible first|exact HB.out | apply zbA | apply zbB | apply zbC | refine below_set ?_ GE106.out | refine below_set ?_ GE111.out | refine below_set ?_ GE116.out) | exact HB.out)) hb);have n10_ := Aside0.mk (hbox);have n11_ := Aside0.mk ((by rw [hg];exact (below_size (by repeat (first|(with_reducible first|exact HB.out | apply zbA | apply zbB | apply zbC | refine below_set ?_ GE106.out | refine below_set ?_ GE111.out | refine below_set ?_ GE116.out) | exact HB.out))) : w.heap.size ≤ gb141));have n12_ := Aside0.mk ((by rw [hg];exact (below_size (by repeat (first|(with_reducible first|exact HB.out | apply zbA | apply zbB | apply zbC | refine below_set ?_ GE106.out | refine below_set ?_ GE111.out | refine below_set ?_ GE116.out) | exact HB.out))) : w.heap.size ≤ gb141));have n13_ := Aside0.mk ((by rw [hg];exact Nat.ne_of_lt (blk_lt (g := gb106) (o := .cells #[.string t101,.int .i64 t102,.int .i64 t103] 24 (0,0)) (by (with_reducible repeat (first|apply zhA | apply zhB | apply zhC));exact BK106.out)) : gb106 ≠ gb141));have n14_ := Aside0.mk ((by rw [hg];exact Nat.ne_of_gt (blk_lt (g := gb106) (o := .cells #[.string t101,.int .i64 t102,.int .i64 t103] 24 (0,0)) (by (with_reducible repeat (first|apply zhA | apply zhB | apply zhC));exact BK106.out)) : gb141 ≠ gb106));have n15_ := Aside0.mk ((by rw [hg];exact Nat.ne_of_lt (blk_lt (g := gb111) (o := .cells #[.string t107,.int .i64 t108,.int .i64 t109] 24 (0,0)) (by (with_reducible repeat (first|apply zhA | apply zhB | apply zhC));exact BK111.out)) : gb111 ≠ gb141));have n16_ := Aside0.mk ((by rw [hg];exact Nat.ne_of_gt (blk_lt (g := gb111) (o := .cells #[.string t107,.int .i64 t108,.int .i64 t109] 24 (0,0)) (by (with_reducible repeat (first|apply zhA | apply zhB | apply zhC));exact BK111.out)) : gb141 ≠ gb111));have n17_ := Aside0.mk ((by rw [hg];exact Nat.ne_of_lt (blk_lt (g := gb116) (o := .cells #[.string t112,.int .i64 t113,.int .i64 t114] 24 (0,0)) (by (with_reducible repeat (first|apply zhA | apply zhB | apply zhC));exact BK116.out)) : gb116 ≠ gb141));have n18_ := Aside0.mk ((by rw [hg];exact Nat.ne_of_gt (blk_lt (g := gb116) (o := .cells #[.string t112,.int .i64 t113,.int .i64 t114] 24 (0,0)) (by (with_reducible repeat (first|apply zhA | apply zhB | apply zhC));exact BK116.out)) : gb141 ≠ gb116));clear HO120;clear HO122;clear HO127;clear HO129;clear HO134;clear HO136;clear BK106;clear BK111;clear BK116;clear HB;have HO120 := n0_;have HO122 := n1_;have HO127 := n2_;have HO129 := n3_;have HO134 := n4_;have HO136 := n5_;have BK106 := n6_;have BK111 := n7_;have BK116 := n8_;have HB := n9_;have BK141 := n10_;have GW141 := n11_;have GE141 := n12_;have NB106_141 := n13_;have NB141_106 := n14_;have NB111_141 := n15_;have NB141_111 := n16_;have NB116_141 := n17_;have NB141_116 := n18_;clear n0_ n1_ n2_ n3_ n4_ n5_ n6_ n7_ n8_ n9_ n10_ n11_ n12_ n13_ n14_ n15_ n16_ n17_ n18_;clear hb hbox hg;have hnb34 := NB141_106.out;have hnc34 := NB106_141.out;have hnb35 := NB141_111.out;have hnc35 := NB111_141.out;have hnb36 := NB141_116.out;have hnc36 := NB116_141.out;have hcz37_0 : w33.cell? ⟨gb141,0,none⟩ = some (.string (⟨#[]⟩ : ByteArray)) := (blk_cell BK141.out 0).trans rfl;have hcz37_1 : w33.cell? ⟨gb141,1,none⟩ = some (.int .i64 0) := (blk_cell BK141.out 1).trans rfl;have hcz37_2 : w33.cell? ⟨gb141,2,none⟩ = some (.int .i64 0) := (blk_cell BK141.out 2).trans rfl;have hfz37_0 := blk_frozen BK141.out 0;have hfz37_1 := blk_frozen BK141.out 1;have hfz37_2 := blk_frozen BK141.out 2)|((with_reducible refine gate_callee (f := 12) rfl ?_);refine goesL_ (some 92) rfl rfl Try.func12 (by kernel_rfl) rfl #[.agg #[.string t137,.int .i64 t138,.int .i64 t139],.int .i64 t140] rfl (by (try simp only [List.map_toArray,List.map_cons,List.map_nil]);first|done | rfl | (simp only [List.length_drop,List.length_take];rfl)) ?_;(with_reducible refine (impl_DayOfLast.calls k t137 t138 t139 t140 t142 t143 _ A11.out).mono ?_);rintro e w38 ⟨rfl,hb⟩;refine ⟨_,rfl,?_⟩;have n0_ := Aside0.mk (Kd.R_below (by (with_reducible repeat (first|apply zkA | apply zkB | apply zkC));exact (Kd.R_mono (Kd.R_far (p := ⟨gb141,2,none⟩) (Kd.R_far (p := ⟨gb141,1,none⟩) (Kd.R_far (p := ⟨gb141,0,none⟩) (Kd.R_mono HO120.out (fun k_ hk => (⟨hk,hk.2⟩ : _ ∧ k_ ≠ gb141))) (fun _ hk => hk.2) (.string t137)) (fun _ hk => hk.2) (.int .i64 t138)) (fun _ hk => hk.2) (.int .i64 t139)) (fun _ h_ => h_.1))) hb);have n1_ := Aside0.mk (Kd.R_below (by (with_reducible repeat (first|apply zkA | apply zkB | apply zkC));exact (Kd.R_mono (Kd.R_far (p := ⟨gb141,2,none⟩) (Kd.R_far (p := ⟨gb141,1,none⟩) (Kd.R_far (p := ⟨gb141,0,none⟩) (Kd.R_types HO122.out BK141.out (by decide)) (fun _ hk => hk.2) (.string t137)) (fun _ hk => hk.2) (.int .i64 t138)) (fun _ hk => hk.2) (.int .i64 t139)) (fun _ h_ => h_.1))) hb);have n2_ := Aside0.mk (Kd.R_below (by (with_reducible repeat (first|apply zkA | apply zkB | apply zkC));exact (Kd.R_mono (Kd.R_far (p := ⟨gb141,2,none⟩) (Kd.R_far (p := ⟨gb141,1,none⟩) (Kd.R_far (p := ⟨gb141,0,none⟩) (Kd.R_mono HO127.out (fun k_ hk => (⟨hk,hk.2⟩ : _ ∧ k_ ≠ gb141))) (fun _ hk => hk.2) (.string t137)) (fun _ hk => hk.2) (.int .i64 t138)) (fun _ hk => hk.2) (.int .i64 t139)) (fun _ h_ => h_.1))) hb);have n3_ := Aside0.mk (Kd.R_below (by (with_reducible repeat (first|apply zkA | apply zkB | apply zkC));exact (Kd.R_mono (Kd.R_far (p := ⟨gb141,2,none⟩) (Kd.R_far (p := ⟨gb141,1,none⟩) (Kd.R_far (p := ⟨gb141,0,none⟩) (Kd.R_types HO129.out BK141.out (by decide)) (fun _ hk => hk.2) (.string t137)) (fun _ hk => hk.2) (.int .i64 t138)) (fun _ hk => hk.2) (.int .i64 t139)) (fun _ h_ => h_.1))) hb);have n4_ := Aside0.mk (Kd.R_below (by (with_reducible repeat (first|apply zkA | apply zkB | apply zkC));exact (Kd.R_mono (Kd.R_far (p := ⟨gb141,2,none⟩) (Kd.R_far (p := ⟨gb141,1,none⟩) (Kd.R_far (p := ⟨gb141,0,none⟩) (Kd.R_mono HO134.out (fun k_ hk => (⟨hk,hk.2⟩ : _ ∧ k_ ≠ gb141))) (fun _ hk => hk.2) (.string t137)) (fun _ hk => hk.2) (.int .i64 t138)) (fun _ hk => hk.2) (.int .i64 t139)) (fun _ h_ => h_.1))) hb);have n5_ := Aside0.mk (Kd.R_below (by (with_reducible repeat (first|apply zkA | apply zkB | apply zkC));exact (Kd.R_mono (Kd.R_far (p := ⟨gb141,2,none⟩) (Kd.R_far (p := ⟨gb141,1,none⟩) (Kd.R_far (p := ⟨gb141,0,none⟩) (Kd.R_types HO136.out BK141.out (by decide)) (fun _ hk => hk.2) (.string t137)) (fun _ hk => hk.2) (.int .i64 t138)) (fun _ hk => hk.2) (.int .i64 t139)) (fun _ h_ => h_.1))) hb);have n6_ := Aside0.mk (blk_below (g := gb106) (o := .cells #[.string t101,.int .i64 t102,.int .i64 t103] 24 (0,0)) (by (with_reducible repeat (first|apply zhA | apply zhB | apply zhC));refine blk_far ?_ NB106_141.out _;(with_reducible repeat (first|apply zhA | apply zhB | apply zhC));refine blk_far ?_ NB106_141.out _;(with_reducible repeat (first|apply zhA | apply zhB | apply zhC));refine blk_far ?_ NB106_141.out _;(with_reducible repeat (first|apply zhA | apply zhB | apply zhC));exact BK106.out) hb);have n7_ := Aside0.mk (blk_below (g := gb111) (o := .cells #[.string t107,.int .i64 t108,.int .i64 t109] 24 (0,0)) (by (with_reducible repeat (first|apply zhA | apply zhB | apply zhC));refine blk_far ?_ NB111_141.out _;(with_reducible repeat (first|apply zhA | apply zhB | apply zhC));refine blk_far ?_ NB111_141.out _;(with_reducible repeat (first|apply zhA | apply zhB | apply zhC));refine blk_far ?_ NB111_141.out _;(with_reducible repeat (first|apply zhA | apply zhB | apply zhC));exact BK111.out) hb);have n8_ := Aside0.mk (blk_below (g := gb116) (o := .cells #[.string t112,.int .i64 t113,.int .i64 t114] 24 (0,0)) (by (with_reducible repeat (first|apply zhA | apply zhB | apply zhC));refine blk_far ?_ NB116_141.out _;(with_reducible repeat (first|apply zhA | apply zhB | apply zhC));refine blk_far ?_ NB116_141.out _;(with_reducible repeat (first|apply zhA | apply zhB | apply zhC));refine blk_far ?_ NB116_141.out _;(with_reducible repeat (first|apply zhA | apply zhB | apply zhC));exact BK116.out) hb);have n9_ := Aside0.mk (blk_below (g := gb141) (o := .cells #[.string t137,.int .i64 t138,.int .i64 t139] 24 (0,0)) (by (with_reducible repeat (first|apply zhA | apply zhB | apply zhC));refine blk_put (cs := #[.string t137,.int .i64 t138,.int .i64 0]) ?_ 2 _ rfl;(with_reducible repeat (first|apply zhA | apply zhB | apply zhC));refine blk_put (cs := #[.string t137,.int .i64 0,.int .i64 0]) ?_ 1 _ rfl;(with_reducible repeat (first|apply zhA | apply zhB | apply zhC));refine blk_put (cs := #[.string (⟨#[]⟩ : ByteArray),.int .i64 0,.int .i64 0]) ?_ 0 _ rfl;(with_reducible repeat (first|apply zhA | apply zhB | apply zhC));exact BK141.out) hb);have n10_ := Aside0.mk (below_step (by repeat (first|(with_reducible first|exact HB.out | apply zbA | apply zbB | apply zbC | refine below_set ?_ GE106.out | refine below_set ?_ GE111.out | refine below_set ?_ GE116.out | refine below_set ?_ GE141.out) | exact HB.out)) hb);clear HO120;clear HO122;clear HO127;clear HO129;clear HO134;clear HO136;clear BK106;clear BK111;clear BK116;clear BK141;clear HB;have HO120 := n0_;have HO122 := n1_;have HO127 := n2_;have HO129 := n3_;have HO134 := n4_;have HO136 := n5_;have BK106 := n6_;have BK111 := n7_;have BK116 := n8_;have BK141 := n9_;have HB := n10_;clear n0_ n1_ n2_ n3_ n4_ n5_ n6_ n7_ n8_ n9_ n10_;(try clear hb);have hcz39_0 : w38.cell? ⟨gb141,0,none⟩ = some (.string t137) := (blk_cell BK141.out 0).trans rfl;have hcz39_1 : w38.cell? ⟨gb141,1,none⟩ = some (.int .i64 t138) := (blk_cell BK141.out 1).trans rfl;have hcz39_2 : w38.cell? ⟨gb141,2,none⟩ = some (.int .i64 t139) := (blk_cell BK141.out 2).trans rfl;have hfz39_0 := blk_frozen BK141.out 0;have hfz39_1 := blk_frozen BK141.out 1;have hfz39_2 := blk_frozen BK141.out 2)|((with_reducible refine gate_callee (f := 13) rfl ?_);refine goesL_ (some 98) rfl rfl Try.func13 (by kernel_rfl) rfl #[.agg #[.string t137,.int .i64 t138,.int .i64 t139],.int .i64 t140] rfl (by (try simp only [List.map_toArray,List.map_cons,List.map_nil]);first|done | rfl | (simp only [List.length_drop,List.length_take];rfl)) ?_;(with_reducible refine (spec_DayOfLast.calls k t137 t138 t139 t140 t144 t145 _ A12.out).mono ?_);rintro e w40 ⟨rfl,hb⟩;refine ⟨_,rfl,?_⟩;have n0_ := Aside0.mk (Kd.R_below (by (with_reducible repeat (first|apply zkA | apply zkB | apply zkC));exact HO120.out) hb);have n1_ := Aside0.mk (Kd.R_below (by (with_reducible repeat (first|apply zkA | apply zkB | apply zkC));exact HO122.out) hb);have n2_ := Aside0.mk (Kd.R_below (by (with_reducible repeat (first|apply zkA | apply zkB | apply zkC));exact HO127.out) hb);have n3_ := Aside0.mk (Kd.R_below (by (with_reducible repeat (first|apply zkA | apply zkB | apply zkC));exact HO129.out) hb);have n4_ := Aside0.mk (Kd.R_below (by (with_reducible repeat (first|apply zkA | apply zkB | apply zkC));exact HO134.out) hb);have n5_ := Aside0.mk (Kd.R_below (by (with_reducible repeat (first|apply zkA | apply zkB | apply zkC));exact HO136.out) hb);have n6_ := Aside0.mk (blk_below (g := gb106) (o := .cells #[.string t101,.int .i64 t102,.int .i64 t103] 24 (0,0)) (by (with_reducible repeat (first|apply zhA | apply zhB | apply zhC));exact BK106.out) hb);have n7_ := Aside0.mk (blk_below (g := gb111) (o := .cells #[.string t107,.int .i64 t108,.int .i64 t109] 24 (0,0)) (by (with_reducible repeat (first|apply zhA | apply zhB | apply zhC));exact BK111.out) hb);have n8_ := Aside0.mk (blk_below (g := gb116) (o := .cells #[.string t112,.int .i64 t113,.int .i64 t114] 24 (0,0)) (by (with_reducible repeat (first|apply zhA | apply zhB | apply zhC));exact BK116.out) hb);have n9_ := Aside0.mk (blk_below (g := gb141) (o := .cells #[.string t137,.int .i64 t138,.int .i64 t139] 24 (0,0)) (by (with_reducible repeat (first|apply zhA | apply zhB | apply zhC));exact BK141.out) hb);have n10_ := Aside0.mk (below_step (by repeat (first|(with_reducible first|exact HB.out | apply zbA | apply zbB | apply zbC | refine below_set ?_ GE106.out | refine below_set ?_ GE111.out | refine below_set ?_ GE116.out | refine below_set ?_ GE141.out) | exact HB.out)) hb);clear HO120;clear HO122;clear HO127;clear HO129;clear HO134;clear HO136;clear BK106;clear BK111;clear BK116;clear BK141;clear HB;have HO120 := n0_;have HO122 := n1_;have HO127 := n2_;have HO129 := n3_;have HO134 := n4_;have HO136 := n5_;have BK106 := n6_;have BK111 := n7_;have BK116 := n8_;have BK141 := n9_;have HB := n10_;clear n0_ n1_ n2_ n3_ n4_ n5_ n6_ n7_ n8_ n9_ n10_;(try clear hb)))
  (try simp only [Act.put,List.setIfInBounds_toArray,List.set_cons_zero,List.set_cons_succ])
  go_cut [135] (fun jv135 wc => ∃ (kq : Nat) (x135_12 : Bool),jv135 = .bool x135_12 ∧ Aside0 (laws_FnRepetition.j0 kq t104 t105 t110 t117 t118 t123 t125 t130 t131 t140 t143 t144 x135_12 t101 t102 t103 t112 t113 t114 t137 t138 t139 = some r) ∧ Aside0 (kq ≤ k) ∧ Aside0 (Kd.R k24 24 wc w.heap.size (fun k_ => some k_ ≠ (v126 : Value).ownBlock ∧ some k_ ≠ (v133 : Value).ownBlock ∧ k_ ≠ gb106 ∧ k_ ≠ gb111 ∧ k_ ≠ gb116 ∧ k_ ≠ gb141) (.slice Ao28 t117.length co28) t117) ∧ Aside0 (Kd.R k45 45 wc w.heap.size (fun _ => True) (.slice Ao29 t118.length co29) t118) ∧ Aside0 (Kd.R k24 24 wc w.heap.size (fun k_ => some k_ ≠ ((.slice Ao28 t117.length co28) : Value).ownBlock ∧ some k_ ≠ (v133 : Value).ownBlock ∧ k_ ≠ gb106 ∧ k_ ≠ gb111 ∧ k_ ≠ gb116 ∧ k_ ≠ gb141) v126 t123) ∧ Aside0 (Kd.R k24 24 wc w.heap.size (fun k_ => some k_ ≠ ((.slice Ao28 t117.length co28) : Value).ownBlock ∧ some k_ ≠ (v126 : Value).ownBlock ∧ k_ ≠ gb106 ∧ k_ ≠ gb111 ∧ k_ ≠ gb116 ∧ k_ ≠ gb141) v133 t130) ∧ Aside0 (Kd.R (Kd.int .i64) 3 wc w.heap.size (fun _ => True) v135 t131) ∧ Aside0 (wc.heap[gb106]? = some (.cells #[.string t101,.int .i64 t102,.int .i64 t103] 24 (0,0))) ∧ Aside0 (wc.heap[gb111]? = some (.cells #[.string t107,.int .i64 t108,.int .i64 t109] 24 (0,0))) ∧ Aside0 (wc.heap[gb116]? = some (.cells #[.string t112,.int .i64 t113,.int .i64 t114] 24 (0,0))) ∧ Aside0 (wc.heap[gb141]? = some (.cells #[.string t137,.int .i64 t138,.int .i64 t139] 24 (0,0))) ∧ Aside0 (Below w.heap.size w wc))
  case first =>
   have H := HC13.out
   clear HC13
   by_cases c41 : (t110 != t115) = true
   ·rw [if_pos c41] at H
    exact absurd H (by simp)
   ·rw [if_neg c41] at H
    have c41b0 : (t110 != t115) = false := by simpa using c41
    (try (have c41b1 : decide (t110 = t115) = true := by simpa using c41))
    (try (have c41b2 : (t110 == t115) = true := by simpa using c41))
    clear c41
    (first|rw [c41b0] | (simp only [i64_w,i32_w];rw [c41b0]) | skip)
    by_cases c42 : (!(t107.toList == t112.toList) || (!(t108 == t113) || (!(t109 == t114)))) = true
    ·rw [if_pos c42] at H
     exact absurd H (by simp)
    ·rw [if_neg c42] at H
     have c42b0 : (!(t107.toList == t112.toList) || (!(t108 == t113) || (!(t109 == t114)))) = false := by simpa using c42
     clear c42
     by_cases c43 : (t125 != t132) = true
     ·rw [if_pos c43] at H
      exact absurd H (by simp)
     ·rw [if_neg c43] at H
      have c43b0 : (t125 != t132) = false := by simpa using c43
      (try (have c43b1 : decide (t125 = t132) = true := by simpa using c43))
      (try (have c43b2 : (t125 == t132) = true := by simpa using c43))
      clear c43
      replace H := Option.bind_eq_some_iff.mp H
      obtain ⟨t146,A440,H⟩ := H
      try dsimp only at H
      have A44 := Aside0.mk A440
      clear A440
      by_cases c45 : t146 = true
      ·subst c45
       rw [if_pos rfl] at H
       replace H := Option.bind_eq_some_iff.mp H
       obtain ⟨t147,A460,H⟩ := H
       try dsimp only at H
       have A46 := Aside0.mk A460
       clear A460
       by_cases c47 : t147 = true
       ·subst c47
        rw [if_pos rfl] at H
        by_cases c48 : (t143 != t145) = true
        ·rw [if_pos c48] at H
         exact absurd H (by simp)
        ·rw [if_neg c48] at H
         have c48b0 : (t143 != t145) = false := by simpa using c48
         (try (have c48b1 : decide (t143 = t145) = true := by simpa using c48))
         (try (have c48b2 : (t143 == t145) = true := by simpa using c48))
         clear c48
         as_aux_lemma =>
          have H' := Aside0.mk H
          clear H
          have hnb49 := NB111_106.out
          have hnc49 := NB106_111.out
          have hnb50 := NB111_116.out
          have hnc50 := NB116_111.out
          have hnb51 := NB111_141.out
          have hnc51 := NB141_111.out
          have hcz52_0 : w40.cell? ⟨gb111,0,none⟩ = some (.string t107) := (blk_cell BK111.out 0).trans rfl
          have hcz52_1 : w40.cell? ⟨gb111,1,none⟩ = some (.int .i64 t108) := (blk_cell BK111.out 1).trans rfl
          have hcz52_2 : w40.cell? ⟨gb111,2,none⟩ = some (.int .i64 t109) := (blk_cell BK111.out 2).trans rfl
          have hfz52_0 := blk_frozen BK111.out 0
          have hfz52_1 := blk_frozen BK111.out 1
          have hfz52_2 := blk_frozen BK111.out 2
          have hnb53 := NB116_106.out
          have hnc53 := NB106_116.out
          have hnb54 := NB116_141.out
          have hnc54 := NB141_116.out
          have hcz55_0 : w40.cell? ⟨gb116,0,none⟩ = some (.string t112) := (blk_cell BK116.out 0).trans rfl
          have hcz55_1 : w40.cell? ⟨gb116,1,none⟩ = some (.int .i64 t113) := (blk_cell BK116.out 1).trans rfl
          have hcz55_2 : w40.cell? ⟨gb116,2,none⟩ = some (.int .i64 t114) := (blk_cell BK116.out 2).trans rfl
          have hfz55_0 := blk_frozen BK116.out 0
          have hfz55_1 := blk_frozen BK116.out 1
          have hfz55_2 := blk_frozen BK116.out 2
          obtain ⟨Ao56,co56,eo56⟩ := Kd.R_slice HO127.out
          subst eo56
          obtain ⟨Ao57,co57,eo57⟩ := Kd.R_slice HO134.out
          subst eo57
          go_wp2_with (first|(go_at_call 14;(with_reducible refine (laws_qCards.calls k _ _ t123 _ _ t130 true _ ?side1 ?side2 ?side3 ?side4 A44.out).mono ?_);(case side1 => repeat (first|exact (Kd.R_reads' HO127.out).2.2 | (with_reducible refine Kd.C_alloc ?_ _)|(with_reducible refine Kd.C_drewN ?_ _)|(with_reducible refine Kd.C_drew ?_)));(case side2 => exact (Kd.R_reads' HO127.out).2.1);(case side3 => repeat (first|exact (Kd.R_reads' HO134.out).2.2 | (with_reducible refine Kd.C_alloc ?_ _)|(with_reducible refine Kd.C_drewN ?_ _)|(with_reducible refine Kd.C_drew ?_)));(case side4 => exact (Kd.R_reads' HO134.out).2.1);rintro e w' ⟨rfl,⟨nd,rfl⟩⟩;obtain ⟨Ao58,co58,eo58⟩ := Kd.R_slice HO129.out;subst eo58;obtain ⟨Ao59,co59,eo59⟩ := Kd.R_slice HO136.out;subst eo59)|(go_at_call 15;(with_reducible refine (laws_qInts.calls k _ _ t124 _ _ t131 true _ ?side1 ?side2 ?side3 ?side4 A46.out).mono ?_);(case side1 => repeat (first|exact (Kd.R_reads' HO129.out).2.2 | (with_reducible refine Kd.C_alloc ?_ _)|(with_reducible refine Kd.C_drewN ?_ _)|(with_reducible refine Kd.C_drew ?_)));(case side2 => exact (Kd.R_reads' HO129.out).2.1);(case side3 => repeat (first|exact (Kd.R_reads' HO136.out).2.2 | (with_reducible refine Kd.C_alloc ?_ _)|(with_reducible refine Kd.C_drewN ?_ _)|(with_reducible refine Kd.C_drew ?_)));(case side4 => exact (Kd.R_reads' HO136.out).2.1);rintro e w' ⟨rfl,⟨nd,rfl⟩⟩))
          go_meet
          case rel => exact ⟨_,((t142 != t144)),(by first|rfl | (simp;done)|(simp [*];done)),H',⟨by first|omega | exact Nat.le_refl _⟩,⟨by (with_reducible repeat (first|apply zkA | apply zkB | apply zkC));exact Kd.R_mono HO120.out (fun _ hk => ⟨hk.1.1.2,⟨hk.1.2,⟨hk.1.1.1.1.1.2,⟨hk.1.1.1.1.2,⟨hk.1.1.1.2,hk.2⟩⟩⟩⟩⟩)⟩,⟨by (with_reducible repeat (first|apply zkA | apply zkB | apply zkC));exact HO122.out⟩,⟨by (with_reducible repeat (first|apply zkA | apply zkB | apply zkC));exact Kd.R_mono HO127.out (fun _ hk => ⟨hk.1.1.1.1.1.2,⟨hk.1.2,⟨hk.1.1.1.1.2,⟨hk.1.1.1.2,⟨hk.1.1.2,hk.2⟩⟩⟩⟩⟩)⟩,⟨by (with_reducible repeat (first|apply zkA | apply zkB | apply zkC));exact Kd.R_mono HO134.out (fun _ hk => ⟨hk.1.1.1.1.1.2,⟨hk.1.1.1.1.2,⟨hk.1.1.1.2,⟨hk.1.1.2,⟨hk.1.2,hk.2⟩⟩⟩⟩⟩)⟩,⟨by (with_reducible repeat (first|apply zkA | apply zkB | apply zkC));exact Kd.R_mono HO136.out (fun _ hk => trivial)⟩,⟨by (with_reducible repeat (first|apply zhA | apply zhB | apply zhC));exact BK106.out⟩,⟨by (with_reducible repeat (first|apply zhA | apply zhB | apply zhC));exact BK111.out⟩,⟨by (with_reducible repeat (first|apply zhA | apply zhB | apply zhC));exact BK116.out⟩,⟨by (with_reducible repeat (first|apply zhA | apply zhB | apply zhC));exact BK141.out⟩,⟨by repeat (first|(with_reducible first|exact HB.out | apply zbA | apply zbB | apply zbC | refine below_set ?_ GE106.out | refine below_set ?_ GE111.out | refine below_set ?_ GE116.out | refine below_set ?_ GE141.out) | exact HB.out)⟩⟩
       ·replace c47 := Bool.eq_false_iff.mpr c47
        subst c47
        rw [if_neg (show ¬ (false = true) by decide)] at H
        exact absurd H (by simp)
      ·replace c45 := Bool.eq_false_iff.mpr c45
       subst c45
       rw [if_neg (show ¬ (false = true) by decide)] at H
       exact absurd H (by simp)
  case rest =>
   clear HC13
   (try clear c1);(try clear c2);(try clear p2);(try clear c3);(try clear c3b0);(try clear c4);(try clear c5);(try clear c6);(try clear p6);(try clear c7);(try clear c8);(try clear c9);(try clear c10);(try clear c11);(try clear c12);(try clear c13);(try clear c19);(try clear c24);(try clear c25);(try clear c34);(try clear c35);(try clear c36);(try clear c41);(try clear c41b0);(try clear c41b1);(try clear c41b2);(try clear c42);(try clear c42b0);(try clear c43);(try clear c43b0);(try clear c43b1);(try clear c43b2);(try clear c45);(try clear c47);(try clear c48);(try clear c48b0);(try clear c48b1);(try clear c48b2);(try clear c49);(try clear c50);(try clear c51);(try clear c53);(try clear c54);(try clear hcz16_0);(try clear hcz16_1);(try clear hcz16_2);(try clear hcz20_0);(try clear hcz20_1);(try clear hcz20_2);(try clear hcz21_0);(try clear hcz21_1);(try clear hcz21_2);(try clear hcz26_0);(try clear hcz26_1);(try clear hcz26_2);(try clear hcz37_0);(try clear hcz37_1);(try clear hcz37_2);(try clear hcz39_0);(try clear hcz39_1);(try clear hcz39_2);(try clear hcz52_0);(try clear hcz52_1);(try clear hcz52_2);(try clear hcz55_0);(try clear hcz55_1);(try clear hcz55_2);(try clear hfz16_0);(try clear hfz16_1);(try clear hfz16_2);(try clear hfz20_0);(try clear hfz20_1);(try clear hfz20_2);(try clear hfz21_0);(try clear hfz21_1);(try clear hfz21_2);(try clear hfz26_0);(try clear hfz26_1);(try clear hfz26_2);(try clear hfz37_0);(try clear hfz37_1);(try clear hfz37_2);(try clear hfz39_0);(try clear hfz39_1);(try clear hfz39_2);(try clear hfz52_0);(try clear hfz52_1);(try clear hfz52_2);(try clear hfz55_0);(try clear hfz55_1);(try clear hfz55_2)
   obtain ⟨kq,x135_12,rfl,HA,HJ12,HO_12,HO_13,HO_14,HO_17,HO_18,BK106,BK111,BK116,BK141,HB⟩ := hcut
   cases kq with
   | zero => exact absurd HA.out (by simp [laws_FnRepetition.j0])
   | succ kj12 =>
    have H := HA.out
    clear HA
    simp only [laws_FnRepetition.j0] at H
    by_cases c60 : x135_12 = true
    ·subst c60
     rw [if_pos rfl] at H
     exact absurd H (by simp)
    ·replace c60 := Bool.eq_false_iff.mpr c60
     subst c60
     rw [if_neg (show ¬ (false = true) by decide)] at H
     have HC61 := Aside0.mk H
     clear H
     go_upto_if 136 with (fail)
     go_cut [] (fun wc => ∃ (kq : Nat),Aside0 (laws_FnRepetition.j1 kq t117 t118 t123 t125 t130 t131 t140 t143 t144 t137 t138 t139 = some r) ∧ Aside0 (kq ≤ kj12) ∧ Aside0 (Kd.R k24 24 wc w.heap.size (fun k_ => some k_ ≠ (v126 : Value).ownBlock ∧ some k_ ≠ (v133 : Value).ownBlock ∧ k_ ≠ gb106 ∧ k_ ≠ gb111 ∧ k_ ≠ gb116 ∧ k_ ≠ gb141) (.slice Ao28 t117.length co28) t117) ∧ Aside0 (Kd.R k45 45 wc w.heap.size (fun _ => True) (.slice Ao29 t118.length co29) t118) ∧ Aside0 (Kd.R k24 24 wc w.heap.size (fun k_ => some k_ ≠ ((.slice Ao28 t117.length co28) : Value).ownBlock ∧ some k_ ≠ (v133 : Value).ownBlock ∧ k_ ≠ gb106 ∧ k_ ≠ gb111 ∧ k_ ≠ gb116 ∧ k_ ≠ gb141) v126 t123) ∧ Aside0 (Kd.R k24 24 wc w.heap.size (fun k_ => some k_ ≠ ((.slice Ao28 t117.length co28) : Value).ownBlock ∧ some k_ ≠ (v126 : Value).ownBlock ∧ k_ ≠ gb106 ∧ k_ ≠ gb111 ∧ k_ ≠ gb116 ∧ k_ ≠ gb141) v133 t130) ∧ Aside0 (Kd.R (Kd.int .i64) 3 wc w.heap.size (fun _ => True) v135 t131) ∧ Aside0 (wc.heap[gb106]? = some (.cells #[.string t101,.int .i64 t102,.int .i64 t103] 24 (0,0))) ∧ Aside0 (wc.heap[gb111]? = some (.cells #[.string t107,.int .i64 t108,.int .i64 t109] 24 (0,0))) ∧ Aside0 (wc.heap[gb116]? = some (.cells #[.string t112,.int .i64 t113,.int .i64 t114] 24 (0,0))) ∧ Aside0 (wc.heap[gb141]? = some (.cells #[.string t137,.int .i64 t138,.int .i64 t139] 24 (0,0))) ∧ Aside0 (Below w.heap.size w wc))
     case first =>
      have H := HC61.out
      clear HC61
      by_cases c62 : t110 = true
      ·subst c62
       rw [if_pos rfl] at H
       by_cases c63 : t105 = true
       ·subst c63
        rw [if_pos rfl] at H
        by_cases c64 : (wrap64 (t102 + 1)) > 5
        ·rw [if_pos c64] at H
         have c64b0 : decide (5 < (wrap64 (t102 + 1))) = true := decide_eq_true c64
         clear c64
         (first|rw [c64b0] | (simp only [i64_w,i32_w];rw [c64b0]) | skip)
         by_cases c65 : t112.toList = t101.toList
         ·rw [if_pos c65] at H
          have c65b0 : (t112.toList == t101.toList) = true := beq_iff_eq.mpr c65
          have c65b1 : (t112.toList != t101.toList) = false := bne_eq_false_iff_eq.mpr c65
          clear c65
          by_cases c66 : t113 = 5
          ·rw [if_pos c66] at H
           have c66b0 : (t113 == 5) = true := beq_iff_eq.mpr c66
           have c66b1 : (t113 != 5) = false := bne_eq_false_iff_eq.mpr c66
           clear c66
           by_cases c67 : t114 ≤ t104
           ·rw [if_pos c67] at H
            exact absurd H (by simp)
           ·rw [if_neg c67] at H
            have c67b0 : decide (t114 ≤ t104) = false := decide_eq_false c67
            clear c67
            by_cases c68 : t103 > t104
            ·rw [if_pos c68] at H
             exact absurd H (by simp)
            ·rw [if_neg c68] at H
             have c68b0 : decide (t104 < t103) = false := decide_eq_false c68
             clear c68
             by_cases c69 : t114 = (wrap64 (t104 + (1 * 32)))
             ·rw [if_pos c69] at H
              have c69b0 : (t114 == (wrap64 (t104 + (1 * 32)))) = true := beq_iff_eq.mpr c69
              have c69b1 : (t114 != (wrap64 (t104 + (1 * 32)))) = false := bne_eq_false_iff_eq.mpr c69
              have c69z0 : (t114 == (wrap64 (t104 + 32))) = true := c69b0
              have c69z1 : (t114 != (wrap64 (t104 + 32))) = false := c69b1
              clear c69
              as_aux_lemma =>
               have H' := Aside0.mk H
               clear H
               have hnb70 := NB106_111.out
               have hnc70 := NB111_106.out
               have hnb71 := NB106_116.out
               have hnc71 := NB116_106.out
               have hnb72 := NB106_141.out
               have hnc72 := NB141_106.out
               have hcz73_0 : wc.cell? ⟨gb106,0,none⟩ = some (.string t101) := (blk_cell BK106.out 0).trans rfl
               have hcz73_1 : wc.cell? ⟨gb106,1,none⟩ = some (.int .i64 t102) := (blk_cell BK106.out 1).trans rfl
               have hcz73_2 : wc.cell? ⟨gb106,2,none⟩ = some (.int .i64 t103) := (blk_cell BK106.out 2).trans rfl
               have hfz73_0 := blk_frozen BK106.out 0
               have hfz73_1 := blk_frozen BK106.out 1
               have hfz73_2 := blk_frozen BK106.out 2
               have hnb74 := NB116_111.out
               have hnc74 := NB111_116.out
               have hnb75 := NB116_141.out
               have hnc75 := NB141_116.out
               have hcz76_0 : wc.cell? ⟨gb116,0,none⟩ = some (.string t112) := (blk_cell BK116.out 0).trans rfl
               have hcz76_1 : wc.cell? ⟨gb116,1,none⟩ = some (.int .i64 t113) := (blk_cell BK116.out 1).trans rfl
               have hcz76_2 : wc.cell? ⟨gb116,2,none⟩ = some (.int .i64 t114) := (blk_cell BK116.out 2).trans rfl
               have hfz76_0 := blk_frozen BK116.out 0
               have hfz76_1 := blk_frozen BK116.out 1
               have hfz76_2 := blk_frozen BK116.out 2
               go_wp2
               go_meet
               case rel => exact ⟨_,H',⟨by have := HJ12.out;first|omega | exact Nat.le_refl _⟩,⟨by (with_reducible repeat (first|apply zkA | apply zkB | apply zkC));exact HO_12.out⟩,⟨by (with_reducible repeat (first|apply zkA | apply zkB | apply zkC));exact HO_13.out⟩,⟨by (with_reducible repeat (first|apply zkA | apply zkB | apply zkC));exact HO_14.out⟩,⟨by (with_reducible repeat (first|apply zkA | apply zkB | apply zkC));exact HO_17.out⟩,⟨by (with_reducible repeat (first|apply zkA | apply zkB | apply zkC));exact HO_18.out⟩,⟨by (with_reducible repeat (first|apply zhA | apply zhB | apply zhC));exact BK106.out⟩,⟨by (with_reducible repeat (first|apply zhA | apply zhB | apply zhC));exact BK111.out⟩,⟨by (with_reducible repeat (first|apply zhA | apply zhB | apply zhC));exact BK116.out⟩,⟨by (with_reducible repeat (first|apply zhA | apply zhB | apply zhC));exact BK141.out⟩,⟨by repeat (first|(with_reducible first|exact HB.out | apply zbA | apply zbB | apply zbC | refine below_set ?_ GE106.out | refine below_set ?_ GE111.out | refine below_set ?_ GE116.out | refine below_set ?_ GE141.out) | exact HB.out)⟩⟩
             ·rw [if_neg c69] at H
              exact absurd H (by simp)
          ·rw [if_neg c66] at H
           exact absurd H (by simp)
         ·rw [if_neg c65] at H
          exact absurd H (by simp)
        ·rw [if_neg c64] at H
         have c64b0 : decide (5 < (wrap64 (t102 + 1))) = false := decide_eq_false c64
         clear c64
         (first|rw [c64b0] | (simp only [i64_w,i32_w];rw [c64b0]) | skip)
         by_cases c77 : t112.toList = t101.toList
         ·rw [if_pos c77] at H
          have c77b0 : (t112.toList == t101.toList) = true := beq_iff_eq.mpr c77
          have c77b1 : (t112.toList != t101.toList) = false := bne_eq_false_iff_eq.mpr c77
          clear c77
          by_cases c78 : t113 = (wrap64 (t102 + 1))
          ·rw [if_pos c78] at H
           have c78b0 : (t113 == (wrap64 (t102 + 1))) = true := beq_iff_eq.mpr c78
           have c78b1 : (t113 != (wrap64 (t102 + 1))) = false := bne_eq_false_iff_eq.mpr c78
           clear c78
           by_cases c79 : t114 ≤ t104
           ·rw [if_pos c79] at H
            exact absurd H (by simp)
           ·rw [if_neg c79] at H
            have c79b0 : decide (t114 ≤ t104) = false := decide_eq_false c79
            clear c79
            by_cases c80 : t103 > t104
            ·rw [if_pos c80] at H
             exact absurd H (by simp)
            ·rw [if_neg c80] at H
             have c80b0 : decide (t104 < t103) = false := decide_eq_false c80
             clear c80
             obtain ⟨ji81,hji81⟩ : ∃ j_ : Int,(IntKind.u64.wrap (wrap64 (t102 + 1))) = j_ := ⟨_,rfl⟩
             replace H : (if 0 ≤ (ji81) then (if t114 = (wrap64 (t104 + (shl .i64 1 (ji81)))) then (laws_FnRepetition.j1 kj12 t117 t118 t123 t125 t130 t131 t140 t143 t144 t137 t138 t139) else (none)) else (none)) = some r := by first|(rw [hji81] at H;exact H)|(simp only [hji81] at H ⊢;exact H)
             by_cases c82 : 0 ≤ (ji81)
             ·rw [if_pos c82] at H
              have c82b0 := eq_true c82
              have c82b1 : decide (0 ≤ (ji81)) = true := decide_eq_true c82
              clear c82
              obtain ⟨ji83,hji83⟩ : ∃ j_ : Int,(shl .i64 1 (ji81)) = j_ := ⟨_,rfl⟩
              replace H : (if t114 = (wrap64 (t104 + (ji83))) then (laws_FnRepetition.j1 kj12 t117 t118 t123 t125 t130 t131 t140 t143 t144 t137 t138 t139) else (none)) = some r := by first|(rw [hji83] at H;exact H)|(simp only [hji83] at H ⊢;exact H)
              have hji83_ : (IntKind.i64.wrap (1 * 2 ^ min (ji81).toNat 64)) = ji83 := hji83
              have hji83z : (ji81) ≤ 64 → (IntKind.i64.wrap (1 * 2 ^ (ji81).toNat)) = ji83 := shl_small hji83
              have hji83u : (IntKind.i64.wrap (2 ^ min (ji81).toNat 64)) = ji83 := by have h_ := hji83_;rw [Int.one_mul] at h_;exact h_
              have hji83v : (ji81) ≤ 64 → (IntKind.i64.wrap (2 ^ (ji81).toNat)) = ji83 := fun hle_ => by have h_ := hji83z hle_;rw [Int.one_mul] at h_;exact h_
              have hji83y : (wrap64 (1 * 2 ^ min (ji81).toNat 64)) = ji83 := (i64_w _).symm.trans hji83_
              have hji83x : (ji81) ≤ 64 → (wrap64 (1 * 2 ^ (ji81).toNat)) = ji83 := fun h_ => (i64_w _).symm.trans (hji83z h_)
              by_cases c84 : t114 = (wrap64 (t104 + (ji83)))
              ·rw [if_pos c84] at H
               have c84b0 : (t114 == (wrap64 (t104 + (ji83)))) = true := beq_iff_eq.mpr c84
               have c84b1 : (t114 != (wrap64 (t104 + (ji83)))) = false := bne_eq_false_iff_eq.mpr c84
               clear c84
               as_aux_lemma =>
                have H' := Aside0.mk H
                clear H
                have hnb85 := NB106_111.out
                have hnc85 := NB111_106.out
                have hnb86 := NB106_116.out
                have hnc86 := NB116_106.out
                have hnb87 := NB106_141.out
                have hnc87 := NB141_106.out
                have hcz88_0 : wc.cell? ⟨gb106,0,none⟩ = some (.string t101) := (blk_cell BK106.out 0).trans rfl
                have hcz88_1 : wc.cell? ⟨gb106,1,none⟩ = some (.int .i64 t102) := (blk_cell BK106.out 1).trans rfl
                have hcz88_2 : wc.cell? ⟨gb106,2,none⟩ = some (.int .i64 t103) := (blk_cell BK106.out 2).trans rfl
                have hfz88_0 := blk_frozen BK106.out 0
                have hfz88_1 := blk_frozen BK106.out 1
                have hfz88_2 := blk_frozen BK106.out 2
                have hnb89 := NB116_111.out
                have hnc89 := NB111_116.out
                have hnb90 := NB116_141.out
                have hnc90 := NB141_116.out
                have hcz91_0 : wc.cell? ⟨gb116,0,none⟩ = some (.string t112) := (blk_cell BK116.out 0).trans rfl
                have hcz91_1 : wc.cell? ⟨gb116,1,none⟩ = some (.int .i64 t113) := (blk_cell BK116.out 1).trans rfl
                have hcz91_2 : wc.cell? ⟨gb116,2,none⟩ = some (.int .i64 t114) := (blk_cell BK116.out 2).trans rfl
                have hfz91_0 := blk_frozen BK116.out 0
                have hfz91_1 := blk_frozen BK116.out 1
                have hfz91_2 := blk_frozen BK116.out 2
                go_wp2
                go_meet
                case rel => exact ⟨_,H',⟨by have := HJ12.out;first|omega | exact Nat.le_refl _⟩,⟨by (with_reducible repeat (first|apply zkA | apply zkB | apply zkC));exact HO_12.out⟩,⟨by (with_reducible repeat (first|apply zkA | apply zkB | apply zkC));exact HO_13.out⟩,⟨by (with_reducible repeat (first|apply zkA | apply zkB | apply zkC));exact HO_14.out⟩,⟨by (with_reducible repeat (first|apply zkA | apply zkB | apply zkC));exact HO_17.out⟩,⟨by (with_reducible repeat (first|apply zkA | apply zkB | apply zkC));exact HO_18.out⟩,⟨by (with_reducible repeat (first|apply zhA | apply zhB | apply zhC));exact BK106.out⟩,⟨by (with_reducible repeat (first|apply zhA | apply zhB | apply zhC));exact BK111.out⟩,⟨by (with_reducible repeat (first|apply zhA | apply zhB | apply zhC));exact BK116.out⟩,⟨by (with_reducible repeat (first|apply zhA | apply zhB | apply zhC));exact BK141.out⟩,⟨by repeat (first|(with_reducible first|exact HB.out | apply zbA | apply zbB | apply zbC | refine below_set ?_ GE106.out | refine below_set ?_ GE111.out | refine below_set ?_ GE116.out | refine below_set ?_ GE141.out) | exact HB.out)⟩⟩
              ·rw [if_neg c84] at H
               exact absurd H (by simp)
             ·rw [if_neg c82] at H
              exact absurd H (by simp)
          ·rw [if_neg c78] at H
           exact absurd H (by simp)
         ·rw [if_neg c77] at H
          exact absurd H (by simp)
       ·replace c63 := Bool.eq_false_iff.mpr c63
        subst c63
        rw [if_neg (show ¬ (false = true) by decide)] at H
        by_cases c92 : t112.toList = t101.toList
        ·rw [if_pos c92] at H
         have c92b0 : (t112.toList == t101.toList) = true := beq_iff_eq.mpr c92
         have c92b1 : (t112.toList != t101.toList) = false := bne_eq_false_iff_eq.mpr c92
         clear c92
         by_cases c93 : t113 = 0
         ·rw [if_pos c93] at H
          have c93b0 : (t113 == 0) = true := beq_iff_eq.mpr c93
          have c93b1 : (t113 != 0) = false := bne_eq_false_iff_eq.mpr c93
          clear c93
          by_cases c94 : t114 ≤ t104
          ·rw [if_pos c94] at H
           exact absurd H (by simp)
          ·rw [if_neg c94] at H
           have c94b0 : decide (t114 ≤ t104) = false := decide_eq_false c94
           clear c94
           by_cases c95 : t103 > t104
           ·rw [if_pos c95] at H
            exact absurd H (by simp)
           ·rw [if_neg c95] at H
            have c95b0 : decide (t104 < t103) = false := decide_eq_false c95
            clear c95
            by_cases c96 : t114 = (wrap64 (t104 + 1))
            ·rw [if_pos c96] at H
             have c96b0 : (t114 == (wrap64 (t104 + 1))) = true := beq_iff_eq.mpr c96
             have c96b1 : (t114 != (wrap64 (t104 + 1))) = false := bne_eq_false_iff_eq.mpr c96
             clear c96
             as_aux_lemma =>
              have H' := Aside0.mk H
              clear H
              have hnb97 := NB116_106.out
              have hnc97 := NB106_116.out
              have hnb98 := NB116_111.out
              have hnc98 := NB111_116.out
              have hnb99 := NB116_141.out
              have hnc99 := NB141_116.out
              have hcz100_0 : wc.cell? ⟨gb116,0,none⟩ = some (.string t112) := (blk_cell BK116.out 0).trans rfl
              have hcz100_1 : wc.cell? ⟨gb116,1,none⟩ = some (.int .i64 t113) := (blk_cell BK116.out 1).trans rfl
              have hcz100_2 : wc.cell? ⟨gb116,2,none⟩ = some (.int .i64 t114) := (blk_cell BK116.out 2).trans rfl
              have hfz100_0 := blk_frozen BK116.out 0
              have hfz100_1 := blk_frozen BK116.out 1
              have hfz100_2 := blk_frozen BK116.out 2
              have hnb101 := NB106_111.out
              have hnc101 := NB111_106.out
              have hnb102 := NB106_141.out
              have hnc102 := NB141_106.out
              have hcz103_0 : wc.cell? ⟨gb106,0,none⟩ = some (.string t101) := (blk_cell BK106.out 0).trans rfl
              have hcz103_1 : wc.cell? ⟨gb106,1,none⟩ = some (.int .i64 t102) := (blk_cell BK106.out 1).trans rfl
              have hcz103_2 : wc.cell? ⟨gb106,2,none⟩ = some (.int .i64 t103) := (blk_cell BK106.out 2).trans rfl
              have hfz103_0 := blk_frozen BK106.out 0
              have hfz103_1 := blk_frozen BK106.out 1
              have hfz103_2 := blk_frozen BK106.out 2
              go_wp2
              go_meet
              case rel => exact ⟨_,H',⟨by have := HJ12.out;first|omega | exact Nat.le_refl _⟩,⟨by (with_reducible repeat (first|apply zkA | apply zkB | apply zkC));exact HO_12.out⟩,⟨by (with_reducible repeat (first|apply zkA | apply zkB | apply zkC));exact HO_13.out⟩,⟨by (with_reducible repeat (first|apply zkA | apply zkB | apply zkC));exact HO_14.out⟩,⟨by (with_reducible repeat (first|apply zkA | apply zkB | apply zkC));exact HO_17.out⟩,⟨by (with_reducible repeat (first|apply zkA | apply zkB | apply zkC));exact HO_18.out⟩,⟨by (with_reducible repeat (first|apply zhA | apply zhB | apply zhC));exact BK106.out⟩,⟨by (with_reducible repeat (first|apply zhA | apply zhB | apply zhC));exact BK111.out⟩,⟨by (with_reducible repeat (first|apply zhA | apply zhB | apply zhC));exact BK116.out⟩,⟨by (with_reducible repeat (first|apply zhA | apply zhB | apply zhC));exact BK141.out⟩,⟨by repeat (first|(with_reducible first|exact HB.out | apply zbA | apply zbB | apply zbC | refine below_set ?_ GE106.out | refine below_set ?_ GE111.out | refine below_set ?_ GE116.out | refine below_set ?_ GE141.out) | exact HB.out)⟩⟩
            ·rw [if_neg c96] at H
             exact absurd H (by simp)
         ·rw [if_neg c93] at H
          exact absurd H (by simp)
        ·rw [if_neg c92] at H
         exact absurd H (by simp)
      ·replace c62 := Bool.eq_false_iff.mpr c62
       subst c62
       rw [if_neg (show ¬ (false = true) by decide)] at H
       as_aux_lemma =>
        have H' := Aside0.mk H
        clear H
        go_wp2
        go_meet
        case rel => exact ⟨_,H',⟨by have := HJ12.out;first|omega | exact Nat.le_refl _⟩,⟨by (with_reducible repeat (first|apply zkA | apply zkB | apply zkC));exact HO_12.out⟩,⟨by (with_reducible repeat (first|apply zkA | apply zkB | apply zkC));exact HO_13.out⟩,⟨by (with_reducible repeat (first|apply zkA | apply zkB | apply zkC));exact HO_14.out⟩,⟨by (with_reducible repeat (first|apply zkA | apply zkB | apply zkC));exact HO_17.out⟩,⟨by (with_reducible repeat (first|apply zkA | apply zkB | apply zkC));exact HO_18.out⟩,⟨by (with_reducible repeat (first|apply zhA | apply zhB | apply zhC));exact BK106.out⟩,⟨by (with_reducible repeat (first|apply zhA | apply zhB | apply zhC));exact BK111.out⟩,⟨by (with_reducible repeat (first|apply zhA | apply zhB | apply zhC));exact BK116.out⟩,⟨by (with_reducible repeat (first|apply zhA | apply zhB | apply zhC));exact BK141.out⟩,⟨by repeat (first|(with_reducible first|exact HB.out | apply zbA | apply zbB | apply zbC | refine below_set ?_ GE106.out | refine below_set ?_ GE111.out | refine below_set ?_ GE116.out | refine below_set ?_ GE141.out) | exact HB.out)⟩⟩
     case rest =>
      clear HC61
      (try clear c1);(try clear c2);(try clear p2);(try clear c3);(try clear c3b0);(try clear c4);(try clear c5);(try clear c6);(try clear p6);(try clear c7);(try clear c8);(try clear c9);(try clear c10);(try clear c11);(try clear c12);(try clear c13);(try clear c19);(try clear c24);(try clear c25);(try clear c34);(try clear c35);(try clear c36);(try clear c41);(try clear c41b0);(try clear c41b1);(try clear c41b2);(try clear c42);(try clear c42b0);(try clear c43);(try clear c43b0);(try clear c43b1);(try clear c43b2);(try clear c45);(try clear c47);(try clear c48);(try clear c48b0);(try clear c48b1);(try clear c48b2);(try clear c49);(try clear c50);(try clear c51);(try clear c53);(try clear c54);(try clear c60);(try clear c62);(try clear c63);(try clear c64);(try clear c64b0);(try clear p64);(try clear c65);(try clear c65b0);(try clear c65b1);(try clear c66);(try clear c66b0);(try clear c66b1);(try clear c67);(try clear c67b0);(try clear c68);(try clear c68b0);(try clear c69);(try clear c69b0);(try clear c69b1);(try clear c70);(try clear c71);(try clear c72);(try clear c74);(try clear c75);(try clear c77);(try clear c77b0);(try clear c77b1);(try clear c78);(try clear c78b0);(try clear c78b1);(try clear c79);(try clear c79b0);(try clear c80);(try clear c80b0);(try clear c82);(try clear c82b0);(try clear c82b1);(try clear c84);(try clear c84b0);(try clear c84b1);(try clear c85);(try clear c86);(try clear c87);(try clear c89);(try clear c90);(try clear c92);(try clear c92b0);(try clear c92b1);(try clear c93);(try clear c93b0);(try clear c93b1);(try clear c94);(try clear c94b0);(try clear c95);(try clear c95b0);(try clear c96);(try clear c96b0);(try clear c96b1);(try clear c97);(try clear c98);(try clear c99);(try clear c101);(try clear c102);(try clear hcz100_0);(try clear hcz100_1);(try clear hcz100_2);(try clear hcz103_0);(try clear hcz103_1);(try clear hcz103_2);(try clear hcz16_0);(try clear hcz16_1);(try clear hcz16_2);(try clear hcz20_0);(try clear hcz20_1);(try clear hcz20_2);(try clear hcz21_0);(try clear hcz21_1);(try clear hcz21_2);(try clear hcz26_0);(try clear hcz26_1);(try clear hcz26_2);(try clear hcz37_0);(try clear hcz37_1);(try clear hcz37_2);(try clear hcz39_0);(try clear hcz39_1);(try clear hcz39_2);(try clear hcz52_0);(try clear hcz52_1);(try clear hcz52_2);(try clear hcz55_0);(try clear hcz55_1);(try clear hcz55_2);(try clear hcz73_0);(try clear hcz73_1);(try clear hcz73_2);(try clear hcz76_0);(try clear hcz76_1);(try clear hcz76_2);(try clear hcz88_0);(try clear hcz88_1);(try clear hcz88_2);(try clear hcz91_0);(try clear hcz91_1);(try clear hcz91_2);(try clear hfz100_0);(try clear hfz100_1);(try clear hfz100_2);(try clear hfz103_0);(try clear hfz103_1);(try clear hfz103_2);(try clear hfz16_0);(try clear hfz16_1);(try clear hfz16_2);(try clear hfz20_0);(try clear hfz20_1);(try clear hfz20_2);(try clear hfz21_0);(try clear hfz21_1);(try clear hfz21_2);(try clear hfz26_0);(try clear hfz26_1);(try clear hfz26_2);(try clear hfz37_0);(try clear hfz37_1);(try clear hfz37_2);(try clear hfz39_0);(try clear hfz39_1);(try clear hfz39_2);(try clear hfz52_0);(try clear hfz52_1);(try clear hfz52_2);(try clear hfz55_0);(try clear hfz55_1);(try clear hfz55_2);(try clear hfz73_0);(try clear hfz73_1);(try clear hfz73_2);(try clear hfz76_0);(try clear hfz76_1);(try clear hfz76_2);(try clear hfz88_0);(try clear hfz88_1);(try clear hfz88_2);(try clear hfz91_0);(try clear hfz91_1);(try clear hfz91_2);(try clear p2);(try clear p6)
      obtain ⟨kq,HA,HJ60,HO_12,HO_13,HO_14,HO_17,HO_18,BK106,BK111,BK116,BK141,HB⟩ := hcut
      cases kq with
      | zero => exact absurd HA.out (by simp [laws_FnRepetition.j1])
      | succ kj60 =>
       have H := HA.out
       clear HA
       simp only [laws_FnRepetition.j1] at H
       have HC104 := Aside0.mk H
       clear H
       go_upto_if 176 with (fail)
       go_cut [] (fun wc => ∃ (kq : Nat),Aside0 (laws_FnRepetition.j4 kq t140 t143 t144 t137 t138 t139 = some r) ∧ Aside0 (kq ≤ kj60) ∧ Aside0 (wc.heap[gb106]? = some (.cells #[.string t101,.int .i64 t102,.int .i64 t103] 24 (0,0))) ∧ Aside0 (wc.heap[gb111]? = some (.cells #[.string t107,.int .i64 t108,.int .i64 t109] 24 (0,0))) ∧ Aside0 (wc.heap[gb116]? = some (.cells #[.string t112,.int .i64 t113,.int .i64 t114] 24 (0,0))) ∧ Aside0 (wc.heap[gb141]? = some (.cells #[.string t137,.int .i64 t138,.int .i64 t139] 24 (0,0))) ∧ Aside0 (Below w.heap.size w wc))
       case first =>
        have H := HC104.out
        clear HC104
        by_cases c105 : t125 = true
        ·subst c105
         rw [if_pos rfl] at H
         have HC106 := Aside0.mk H
         clear H
         go_upto_region 23 with (fail)
         go_cut [186] (fun v186 wc => ∃ (kq : Nat) (x186_105 : Bool),v186 = .bool x186_105 ∧ Aside0 (laws_FnRepetition.j2 kq t117 t118 t130 t131 t140 t143 t144 x186_105 t137 t138 t139 = some r) ∧ Aside0 (kq ≤ kj60) ∧ Aside0 (Kd.R k24 24 wc w.heap.size (fun k_ => some k_ ≠ (v133 : Value).ownBlock ∧ k_ ≠ gb106 ∧ k_ ≠ gb111 ∧ k_ ≠ gb116 ∧ k_ ≠ gb141) (.slice Ao28 t117.length co28) t117) ∧ Aside0 (Kd.R k45 45 wc w.heap.size (fun _ => True) (.slice Ao29 t118.length co29) t118) ∧ Aside0 (Kd.R k24 24 wc w.heap.size (fun k_ => some k_ ≠ ((.slice Ao28 t117.length co28) : Value).ownBlock ∧ k_ ≠ gb106 ∧ k_ ≠ gb111 ∧ k_ ≠ gb116 ∧ k_ ≠ gb141) v133 t130) ∧ Aside0 (Kd.R (Kd.int .i64) 3 wc w.heap.size (fun _ => True) v135 t131) ∧ Aside0 (wc.heap[gb106]? = some (.cells #[.string t101,.int .i64 t102,.int .i64 t103] 24 (0,0))) ∧ Aside0 (wc.heap[gb111]? = some (.cells #[.string t107,.int .i64 t108,.int .i64 t109] 24 (0,0))) ∧ Aside0 (wc.heap[gb116]? = some (.cells #[.string t112,.int .i64 t113,.int .i64 t114] 24 (0,0))) ∧ Aside0 (wc.heap[gb141]? = some (.cells #[.string t137,.int .i64 t138,.int .i64 t139] 24 (0,0))) ∧ Aside0 (Below w.heap.size w wc))
         case first =>
          have H := HC106.out
          clear HC106
          by_cases c107 : (t130.length : Int) = (t117.length : Int)
          ·rw [if_pos c107] at H
           have c107b0 : ((t130.length : Int) == (t117.length : Int)) = true := beq_iff_eq.mpr c107
           have c107b1 : ((t130.length : Int) != (t117.length : Int)) = false := bne_eq_false_iff_eq.mpr c107
           have c107b2 : (t130.length == t117.length) = true := by first|simpa using c107 | (simp at c107 ⊢;omega)
           clear c107
           (first|rw [c107b0] | (simp only [i64_w,i32_w];rw [c107b0]) | skip)
           replace H := Option.bind_eq_some_iff.mp H
           obtain ⟨t148,A1080,H⟩ := H
           try dsimp only at H
           have A108 := Aside0.mk A1080
           clear A1080
           as_aux_lemma =>
            have H' := Aside0.mk H
            clear H
            obtain ⟨Ao109,co109,eo109⟩ := Kd.R_slice HO_17.out
            subst eo109
            obtain ⟨Ao110,co110,eo110⟩ := Kd.R_slice HO_14.out
            subst eo110
            go_wp2_with (first|(go_at_call 16;(with_reducible refine (impl_AreCards.calls kj60 _ _ t123 t148 _ ?side1 ?side2 A108.out).mono ?_);(case side1 => repeat (first|exact (Kd.R_reads' HO_14.out).2.2 | (with_reducible refine Kd.C_alloc ?_ _)|(with_reducible refine Kd.C_drewN ?_ _)|(with_reducible refine Kd.C_drew ?_)));(case side2 => exact (Kd.R_reads' HO_14.out).2.1);rintro e w111 ⟨rfl,hb⟩;have n0_ := Aside0.mk (Kd.R_below (by (with_reducible repeat (first|apply zkA | apply zkB | apply zkC));exact HO_12.out) hb);have n1_ := Aside0.mk (Kd.R_below (by (with_reducible repeat (first|apply zkA | apply zkB | apply zkC));exact HO_13.out) hb);have n2_ := Aside0.mk (Kd.R_below (by (with_reducible repeat (first|apply zkA | apply zkB | apply zkC));exact HO_14.out) hb);have n3_ := Aside0.mk (Kd.R_below (by (with_reducible repeat (first|apply zkA | apply zkB | apply zkC));exact HO_17.out) hb);have n4_ := Aside0.mk (Kd.R_below (by (with_reducible repeat (first|apply zkA | apply zkB | apply zkC));exact HO_18.out) hb);have n5_ := Aside0.mk (blk_below (g := gb106) (o := .cells #[.string t101,.int .i64 t102,.int .i64 t103] 24 (0,0)) (by (with_reducible repeat (first|apply zhA | apply zhB | apply zhC));exact BK106.out) hb);have n6_ := Aside0.mk (blk_below (g := gb111) (o := .cells #[.string t107,.int .i64 t108,.int .i64 t109] 24 (0,0)) (by (with_reducible repeat (first|apply zhA | apply zhB | apply zhC));exact BK111.out) hb);have n7_ := Aside0.mk (blk_below (g := gb116) (o := .cells #[.string t112,.int .i64 t113,.int .i64 t114] 24 (0,0)) (by (with_reducible repeat (first|apply zhA | apply zhB | apply zhC));exact BK116.out) hb);have n8_ := Aside0.mk (blk_below (g := gb141) (o := .cells #[.string t137,.int .i64 t138,.int .i64 t139] 24 (0,0)) (by (with_reducible repeat (first|apply zhA | apply zhB | apply zhC));exact BK141.out) hb);have n9_ := Aside0.mk (below_step (by repeat (first|(with_reducible first|exact HB.out | apply zbA | apply zbB | apply zbC | refine below_set ?_ GE106.out | refine below_set ?_ GE111.out | refine below_set ?_ GE116.out | refine below_set ?_ GE141.out) | exact HB.out)) hb);clear HO_12;clear HO_13;clear HO_14;clear HO_17;clear HO_18;clear BK106;clear BK111;clear BK116;clear BK141;clear HB;have HO_12 := n0_;have HO_13 := n1_;have HO_14 := n2_;have HO_17 := n3_;have HO_18 := n4_;have BK106 := n5_;have BK111 := n6_;have BK116 := n7_;have BK141 := n8_;have HB := n9_;clear n0_ n1_ n2_ n3_ n4_ n5_ n6_ n7_ n8_ n9_;(try clear hb)))
            go_meet
            case rel => exact ⟨_,(!t148),(by first|rfl | (simp;done)|(simp [*];done)),H',⟨by have := HJ12.out;have := HJ60.out;first|omega | exact Nat.le_refl _⟩,⟨by (with_reducible repeat (first|apply zkA | apply zkB | apply zkC));exact Kd.R_mono HO_12.out (fun _ hk => ⟨hk.2.1,⟨hk.2.2.1,⟨hk.2.2.2.1,⟨hk.2.2.2.2.1,hk.2.2.2.2.2⟩⟩⟩⟩)⟩,⟨by (with_reducible repeat (first|apply zkA | apply zkB | apply zkC));exact HO_13.out⟩,⟨by (with_reducible repeat (first|apply zkA | apply zkB | apply zkC));exact Kd.R_mono HO_17.out (fun _ hk => ⟨hk.1,⟨hk.2.2.1,⟨hk.2.2.2.1,⟨hk.2.2.2.2.1,hk.2.2.2.2.2⟩⟩⟩⟩)⟩,⟨by (with_reducible repeat (first|apply zkA | apply zkB | apply zkC));exact HO_18.out⟩,⟨by (with_reducible repeat (first|apply zhA | apply zhB | apply zhC));exact BK106.out⟩,⟨by (with_reducible repeat (first|apply zhA | apply zhB | apply zhC));exact BK111.out⟩,⟨by (with_reducible repeat (first|apply zhA | apply zhB | apply zhC));exact BK116.out⟩,⟨by (with_reducible repeat (first|apply zhA | apply zhB | apply zhC));exact BK141.out⟩,⟨by repeat (first|(with_reducible first|exact HB.out | apply zbA | apply zbB | apply zbC | refine below_set ?_ GE106.out | refine below_set ?_ GE111.out | refine below_set ?_ GE116.out | refine below_set ?_ GE141.out) | exact HB.out)⟩⟩
          ·rw [if_neg c107] at H
           exact absurd H (by simp)
         case rest =>
          clear HC106
          (try clear c1);(try clear c2);(try clear p2);(try clear c3);(try clear c3b0);(try clear c4);(try clear c5);(try clear c6);(try clear p6);(try clear c7);(try clear c8);(try clear c9);(try clear c10);(try clear c11);(try clear c12);(try clear c13);(try clear c19);(try clear c24);(try clear c25);(try clear c34);(try clear c35);(try clear c36);(try clear c41);(try clear c41b0);(try clear c41b1);(try clear c41b2);(try clear c42);(try clear c42b0);(try clear c43);(try clear c43b0);(try clear c43b1);(try clear c43b2);(try clear c45);(try clear c47);(try clear c48);(try clear c48b0);(try clear c48b1);(try clear c48b2);(try clear c49);(try clear c50);(try clear c51);(try clear c53);(try clear c54);(try clear c60);(try clear c62);(try clear c63);(try clear c64);(try clear c64b0);(try clear p64);(try clear c65);(try clear c65b0);(try clear c65b1);(try clear c66);(try clear c66b0);(try clear c66b1);(try clear c67);(try clear c67b0);(try clear c68);(try clear c68b0);(try clear c69);(try clear c69b0);(try clear c69b1);(try clear c70);(try clear c71);(try clear c72);(try clear c74);(try clear c75);(try clear c77);(try clear c77b0);(try clear c77b1);(try clear c78);(try clear c78b0);(try clear c78b1);(try clear c79);(try clear c79b0);(try clear c80);(try clear c80b0);(try clear c82);(try clear c82b0);(try clear c82b1);(try clear c84);(try clear c84b0);(try clear c84b1);(try clear c85);(try clear c86);(try clear c87);(try clear c89);(try clear c90);(try clear c92);(try clear c92b0);(try clear c92b1);(try clear c93);(try clear c93b0);(try clear c93b1);(try clear c94);(try clear c94b0);(try clear c95);(try clear c95b0);(try clear c96);(try clear c96b0);(try clear c96b1);(try clear c97);(try clear c98);(try clear c99);(try clear c101);(try clear c102);(try clear c105);(try clear c107);(try clear c107b0);(try clear c107b1);(try clear c107b2);(try clear hcz100_0);(try clear hcz100_1);(try clear hcz100_2);(try clear hcz103_0);(try clear hcz103_1);(try clear hcz103_2);(try clear hcz16_0);(try clear hcz16_1);(try clear hcz16_2);(try clear hcz20_0);(try clear hcz20_1);(try clear hcz20_2);(try clear hcz21_0);(try clear hcz21_1);(try clear hcz21_2);(try clear hcz26_0);(try clear hcz26_1);(try clear hcz26_2);(try clear hcz37_0);(try clear hcz37_1);(try clear hcz37_2);(try clear hcz39_0);(try clear hcz39_1);(try clear hcz39_2);(try clear hcz52_0);(try clear hcz52_1);(try clear hcz52_2);(try clear hcz55_0);(try clear hcz55_1);(try clear hcz55_2);(try clear hcz73_0);(try clear hcz73_1);(try clear hcz73_2);(try clear hcz76_0);(try clear hcz76_1);(try clear hcz76_2);(try clear hcz88_0);(try clear hcz88_1);(try clear hcz88_2);(try clear hcz91_0);(try clear hcz91_1);(try clear hcz91_2);(try clear hfz100_0);(try clear hfz100_1);(try clear hfz100_2);(try clear hfz103_0);(try clear hfz103_1);(try clear hfz103_2);(try clear hfz16_0);(try clear hfz16_1);(try clear hfz16_2);(try clear hfz20_0);(try clear hfz20_1);(try clear hfz20_2);(try clear hfz21_0);(try clear hfz21_1);(try clear hfz21_2);(try clear hfz26_0);(try clear hfz26_1);(try clear hfz26_2);(try clear hfz37_0);(try clear hfz37_1);(try clear hfz37_2);(try clear hfz39_0);(try clear hfz39_1);(try clear hfz39_2);(try clear hfz52_0);(try clear hfz52_1);(try clear hfz52_2);(try clear hfz55_0);(try clear hfz55_1);(try clear hfz55_2);(try clear hfz73_0);(try clear hfz73_1);(try clear hfz73_2);(try clear hfz76_0);(try clear hfz76_1);(try clear hfz76_2);(try clear hfz88_0);(try clear hfz88_1);(try clear hfz88_2);(try clear hfz91_0);(try clear hfz91_1);(try clear hfz91_2);(try clear p2);(try clear p6);(try clear p64)
          obtain ⟨kq,x186_105,rfl,HA,HJ105,HO_12,HO_13,HO_17,HO_18,BK106,BK111,BK116,BK141,HB⟩ := hcut
          cases kq with
          | zero => exact absurd HA.out (by simp [laws_FnRepetition.j2])
          | succ kj105 =>
           have H := HA.out
           clear HA
           simp only [laws_FnRepetition.j2] at H
           by_cases c112 : x186_105 = true
           ·subst c112
            rw [if_pos rfl] at H
            exact absurd H (by simp)
           ·replace c112 := Bool.eq_false_iff.mpr c112
            subst c112
            rw [if_neg (show ¬ (false = true) by decide)] at H
            have H' := Aside0.mk H
            clear H
            go_wp2
            go_loopg [27,189] kj105 (fun kq v27 v189 w' => ∃ (x27_4 : List (S45)) (x189_4 : Int),v189 = .int .i64 x189_4 ∧ Aside0 (laws_FnRepetition.l0 kq t117 t130 t131 t140 t143 t144 x27_4 t118 (t118.length : Int) x189_4 t137 t138 t139 = some r) ∧ Aside0 (kq ≤ kj105) ∧ Aside0 (Kd.R k24 24 w' w.heap.size (fun k_ => some k_ ≠ (v133 : Value).ownBlock ∧ k_ ≠ gb106 ∧ k_ ≠ gb111 ∧ k_ ≠ gb116 ∧ k_ ≠ gb141) (.slice Ao28 t117.length co28) t117) ∧ Aside0 (Kd.R k24 24 w' w.heap.size (fun k_ => some k_ ≠ ((.slice Ao28 t117.length co28) : Value).ownBlock ∧ k_ ≠ gb106 ∧ k_ ≠ gb111 ∧ k_ ≠ gb116 ∧ k_ ≠ gb141) v133 t130) ∧ Aside0 (Kd.R (Kd.int .i64) 3 w' w.heap.size (fun _ => True) v135 t131) ∧ Aside0 (Kd.R k45 45 w' w.heap.size (fun k_ => some k_ ≠ ((.slice Ao29 t118.length co29) : Value).ownBlock) v27 x27_4) ∧ Aside0 (Kd.R k45 45 w' w.heap.size (fun k_ => some k_ ≠ (v27 : Value).ownBlock) (.slice Ao29 t118.length co29) t118) ∧ Aside0 (w'.heap[gb106]? = some (.cells #[.string t101,.int .i64 t102,.int .i64 t103] 24 (0,0))) ∧ Aside0 (w'.heap[gb111]? = some (.cells #[.string t107,.int .i64 t108,.int .i64 t109] 24 (0,0))) ∧ Aside0 (w'.heap[gb116]? = some (.cells #[.string t112,.int .i64 t113,.int .i64 t114] 24 (0,0))) ∧ Aside0 (w'.heap[gb141]? = some (.cells #[.string t137,.int .i64 t138,.int .i64 t139] 24 (0,0))) ∧ Aside0 (Below w.heap.size w w'))
            case atStart => exact ⟨(([] : List (S45))),(0),(by first|rfl | (simp;done)|(simp [*];done)),H',⟨Nat.le_refl _⟩,⟨by (with_reducible repeat (first|apply zkA | apply zkB | apply zkC));exact HO_12.out⟩,⟨by (with_reducible repeat (first|apply zkA | apply zkB | apply zkC));exact HO_17.out⟩,⟨by (with_reducible repeat (first|apply zkA | apply zkB | apply zkC));exact HO_18.out⟩,⟨by first|exact Kd.R_nil _ _ _ _ _ | exact Kd.N_nil _ _ _ _ _ | exact Kd.V_nil _ _ _ _ _ | exact Kd.Q_nil _ _ _ _ _ | exact Kd.S_nil _ _ _ _ _⟩,⟨by (with_reducible repeat (first|apply zkA | apply zkB | apply zkC));exact Kd.R_mono HO_13.out (fun _ hk => (by simp [Value.ownBlock]))⟩,⟨by (with_reducible repeat (first|apply zhA | apply zhB | apply zhC));exact BK106.out⟩,⟨by (with_reducible repeat (first|apply zhA | apply zhB | apply zhC));exact BK111.out⟩,⟨by (with_reducible repeat (first|apply zhA | apply zhB | apply zhC));exact BK116.out⟩,⟨by (with_reducible repeat (first|apply zhA | apply zhB | apply zhC));exact BK141.out⟩,⟨by repeat (first|(with_reducible first|exact HB.out | apply zbA | apply zbB | apply zbC | refine below_set ?_ GE106.out | refine below_set ?_ GE111.out | refine below_set ?_ GE116.out | refine below_set ?_ GE141.out) | exact HB.out)⟩⟩
            case round =>
             clear H'
             (try clear c1);(try clear c2);(try clear p2);(try clear c3);(try clear c3b0);(try clear c4);(try clear c5);(try clear c6);(try clear p6);(try clear c7);(try clear c8);(try clear c9);(try clear c10);(try clear c11);(try clear c12);(try clear c13);(try clear c19);(try clear c24);(try clear c25);(try clear c34);(try clear c35);(try clear c36);(try clear c41);(try clear c41b0);(try clear c41b1);(try clear c41b2);(try clear c42);(try clear c42b0);(try clear c43);(try clear c43b0);(try clear c43b1);(try clear c43b2);(try clear c45);(try clear c47);(try clear c48);(try clear c48b0);(try clear c48b1);(try clear c48b2);(try clear c49);(try clear c50);(try clear c51);(try clear c53);(try clear c54);(try clear c60);(try clear c62);(try clear c63);(try clear c64);(try clear c64b0);(try clear p64);(try clear c65);(try clear c65b0);(try clear c65b1);(try clear c66);(try clear c66b0);(try clear c66b1);(try clear c67);(try clear c67b0);(try clear c68);(try clear c68b0);(try clear c69);(try clear c69b0);(try clear c69b1);(try clear c70);(try clear c71);(try clear c72);(try clear c74);(try clear c75);(try clear c77);(try clear c77b0);(try clear c77b1);(try clear c78);(try clear c78b0);(try clear c78b1);(try clear c79);(try clear c79b0);(try clear c80);(try clear c80b0);(try clear c82);(try clear c82b0);(try clear c82b1);(try clear c84);(try clear c84b0);(try clear c84b1);(try clear c85);(try clear c86);(try clear c87);(try clear c89);(try clear c90);(try clear c92);(try clear c92b0);(try clear c92b1);(try clear c93);(try clear c93b0);(try clear c93b1);(try clear c94);(try clear c94b0);(try clear c95);(try clear c95b0);(try clear c96);(try clear c96b0);(try clear c96b1);(try clear c97);(try clear c98);(try clear c99);(try clear c101);(try clear c102);(try clear c105);(try clear c107);(try clear c107b0);(try clear c107b1);(try clear c107b2);(try clear c112);(try clear hcz100_0);(try clear hcz100_1);(try clear hcz100_2);(try clear hcz103_0);(try clear hcz103_1);(try clear hcz103_2);(try clear hcz16_0);(try clear hcz16_1);(try clear hcz16_2);(try clear hcz20_0);(try clear hcz20_1);(try clear hcz20_2);(try clear hcz21_0);(try clear hcz21_1);(try clear hcz21_2);(try clear hcz26_0);(try clear hcz26_1);(try clear hcz26_2);(try clear hcz37_0);(try clear hcz37_1);(try clear hcz37_2);(try clear hcz39_0);(try clear hcz39_1);(try clear hcz39_2);(try clear hcz52_0);(try clear hcz52_1);(try clear hcz52_2);(try clear hcz55_0);(try clear hcz55_1);(try clear hcz55_2);(try clear hcz73_0);(try clear hcz73_1);(try clear hcz73_2);(try clear hcz76_0);(try clear hcz76_1);(try clear hcz76_2);(try clear hcz88_0);(try clear hcz88_1);(try clear hcz88_2);(try clear hcz91_0);(try clear hcz91_1);(try clear hcz91_2);(try clear hfz100_0);(try clear hfz100_1);(try clear hfz100_2);(try clear hfz103_0);(try clear hfz103_1);(try clear hfz103_2);(try clear hfz16_0);(try clear hfz16_1);(try clear hfz16_2);(try clear hfz20_0);(try clear hfz20_1);(try clear hfz20_2);(try clear hfz21_0);(try clear hfz21_1);(try clear hfz21_2);(try clear hfz26_0);(try clear hfz26_1);(try clear hfz26_2);(try clear hfz37_0);(try clear hfz37_1);(try clear hfz37_2);(try clear hfz39_0);(try clear hfz39_1);(try clear hfz39_2);(try clear hfz52_0);(try clear hfz52_1);(try clear hfz52_2);(try clear hfz55_0);(try clear hfz55_1);(try clear hfz55_2);(try clear hfz73_0);(try clear hfz73_1);(try clear hfz73_2);(try clear hfz76_0);(try clear hfz76_1);(try clear hfz76_2);(try clear hfz88_0);(try clear hfz88_1);(try clear hfz88_2);(try clear hfz91_0);(try clear hfz91_1);(try clear hfz91_2);(try clear p2);(try clear p6);(try clear p64)
             obtain ⟨x27_4,x189_4,rfl,HA,HK4,HO_12,HO_17,HO_18,HO_27,HO_187,BK106,BK111,BK116,BK141,HB⟩ := hrel
             cases gk with
             | zero => exact absurd HA.out (by simp [laws_FnRepetition.l0])
             | succ k4 =>
              have H := HA.out
              clear HA
              simp only [laws_FnRepetition.l0] at H
              by_cases c113 : x189_4 < (t118.length : Int)
              ·rw [if_pos c113] at H
               have c113b0 : decide (x189_4 < (t118.length : Int)) = true := decide_eq_true c113
               clear c113
               by_cases c114 : 0 ≤ x189_4
               ·rw [if_pos c114] at H
                have c114b0 : decide (0 ≤ x189_4) = true := decide_eq_true c114
                clear c114
                by_cases c115 : x189_4 < (t118.length : Int)
                ·rw [if_pos c115] at H
                 have c115b0 : decide (x189_4 < (t118.length : Int)) = true := decide_eq_true c115
                 clear c115
                 replace H := Option.bind_eq_some_iff.mp H
                 obtain ⟨t151,A1160,H⟩ := H
                 try dsimp only at H
                 have A116 := Aside0.mk A1160
                 clear A1160
                 by_cases c117 : t151 = true
                 ·subst c117
                  rw [if_pos rfl] at H
                  as_aux_lemma =>
                   have H' := Aside0.mk H
                   clear H
                   have p149 : 0 ≤ (x189_4 : Int) := of_decide_eq_true (by assumption)
                   have q149 : x189_4 < (t118.length : Int) := of_decide_eq_true (by assumption)
                   obtain ⟨ad149,e149,hx149_0,hx149_1,hx149_2⟩ := at_T45 (Kd.R_reads' HO_187.out).2.2 x189_4 p149 q149
                   cases e149
                   replace p149 := eq_true p149
                   replace q149 := eq_true q149
                   go_wp2_with (first|((with_reducible refine gate_dst (N := 29) rfl ?_);(try (refine gate_guard (by rfl) ?_;dsimp only));refine box_event ?hg (N := 29) ?hd (cs := #[.int .i64 0,.string (⟨#[]⟩ : ByteArray),.bool false]) (t := 45) ?hr ?_;(case hd => rfl);(case hg => rfl);(case hr => first|(go_simp;done)|(go_simp;rfl));intro gb150 hg w118 hbox hb;have n0_ := Aside0.mk (Kd.R_below (by (with_reducible repeat (first|apply zkA | apply zkB | apply zkC));exact HO_12.out) hb);have n1_ := Aside0.mk (Kd.R_below (by (with_reducible repeat (first|apply zkA | apply zkB | apply zkC));exact HO_17.out) hb);have n2_ := Aside0.mk (Kd.R_below (by (with_reducible repeat (first|apply zkA | apply zkB | apply zkC));exact HO_18.out) hb);have n3_ := Aside0.mk (Kd.R_below (Kd.R_elderB (by (with_reducible repeat (first|apply zkA | apply zkB | apply zkC));exact HO_27.out) gb150 (Nat.le_of_eq hg.symm)) hb);have n4_ := Aside0.mk (Kd.R_below (Kd.R_elderB (by (with_reducible repeat (first|apply zkA | apply zkB | apply zkC));exact HO_187.out) gb150 (Nat.le_of_eq hg.symm)) hb);have n5_ := Aside0.mk (blk_below (g := gb106) (o := .cells #[.string t101,.int .i64 t102,.int .i64 t103] 24 (0,0)) (by (with_reducible repeat (first|apply zhA | apply zhB | apply zhC));exact BK106.out) hb);have n6_ := Aside0.mk (blk_below (g := gb111) (o := .cells #[.string t107,.int .i64 t108,.int .i64 t109] 24 (0,0)) (by (with_reducible repeat (first|apply zhA | apply zhB | apply zhC));exact BK111.out) hb);have n7_ := Aside0.mk (blk_below (g := gb116) (o := .cells #[.string t112,.int .i64 t113,.int .i64 t114] 24 (0,0)) (by (with_reducible repeat (first|apply zhA | apply zhB | apply zhC));exact BK116.out) hb);have n8_ := Aside0.mk (blk_below (g := gb141) (o := .cells #[.string t137,.int .i64 t138,.int .i64 t139] 24 (0,0)) (by (with_reducible repeat (first|apply zhA | apply zhB | apply zhC));exact BK141.out) hb);have n9_ := Aside0.mk (below_step (by repeat (first|(with_reducible first|exact HB.out | apply zbA | apply zbB | apply zbC | refine below_set ?_ GE106.out | refine below_set ?_ GE111.out | refine below_set ?_ GE116.out | refine below_set ?_ GE141.out) | exact HB.out)) hb);have n10_ := Aside0.mk (hbox);have n11_ := Aside0.mk ((by rw [hg];exact (below_size (by repeat (first|(with_reducible first|exact HB.out | apply zbA | apply zbB | apply zbC | refine below_set ?_ GE106.out | refine below_set ?_ GE111.out | refine below_set ?_ GE116.out | refine below_set ?_ GE141.out) | exact HB.out))) : w.heap.size ≤ gb150));have n12_ := Aside0.mk ((by rw [hg];exact (below_size (by repeat (first|(with_reducible first|exact HB.out | apply zbA | apply zbB | apply zbC | refine below_set ?_ GE106.out | refine below_set ?_ GE111.out | refine below_set ?_ GE116.out | refine below_set ?_ GE141.out) | exact HB.out))) : w.heap.size ≤ gb150));have n13_ := Aside0.mk ((by rw [hg];exact Nat.ne_of_lt (blk_lt (g := gb106) (o := .cells #[.string t101,.int .i64 t102,.int .i64 t103] 24 (0,0)) (by (with_reducible repeat (first|apply zhA | apply zhB | apply zhC));exact BK106.out)) : gb106 ≠ gb150));have n14_ := Aside0.mk ((by rw [hg];exact Nat.ne_of_gt (blk_lt (g := gb106) (o := .cells #[.string t101,.int .i64 t102,.int .i64 t103] 24 (0,0)) (by (with_reducible repeat (first|apply zhA | apply zhB | apply zhC));exact BK106.out)) : gb150 ≠ gb106));have n15_ := Aside0.mk ((by rw [hg];exact Nat.ne_of_lt (blk_lt (g := gb111) (o := .cells #[.string t107,.int .i64 t108,.int .i64 t109] 24 (0,0)) (by (with_reducible repeat (first|apply zhA | apply zhB | apply zhC));exact BK111.out)) : gb111 ≠ gb150));have n16_ := Aside0.mk ((by rw [hg];exact Nat.ne_of_gt (blk_lt (g := gb111) (o := .cells #[.string t107,.int .i64 t108,.int .i64 t109] 24 (0,0)) (by (with_reducible repeat (first|apply zhA | apply zhB | apply zhC));exact BK111.out)) : gb150 ≠ gb111));have n17_ := Aside0.mk ((by rw [hg];exact Nat.ne_of_lt (blk_lt (g := gb116) (o := .cells #[.string t112,.int .i64 t113,.int .i64 t114] 24 (0,0)) (by (with_reducible repeat (first|apply zhA | apply zhB | apply zhC));exact BK116.out)) : gb116 ≠ gb150));have n18_ := Aside0.mk ((by rw [hg];exact Nat.ne_of_gt (blk_lt (g := gb116) (o := .cells #[.string t112,.int .i64 t113,.int .i64 t114] 24 (0,0)) (by (with_reducible repeat (first|apply zhA | apply zhB | apply zhC));exact BK116.out)) : gb150 ≠ gb116));have n19_ := Aside0.mk ((by rw [hg];exact Nat.ne_of_lt (blk_lt (g := gb141) (o := .cells #[.string t137,.int .i64 t138,.int .i64 t139] 24 (0,0)) (by (with_reducible repeat (first|apply zhA | apply zhB | apply zhC));exact BK141.out)) : gb141 ≠ gb150));have n20_ := Aside0.mk ((by rw [hg];exact Nat.ne_of_gt (blk_lt (g := gb141) (o := .cells #[.string t137,.int .i64 t138,.int .i64 t139] 24 (0,0)) (by (with_reducible repeat (first|apply zhA | apply zhB | apply zhC));exact BK141.out)) : gb150 ≠ gb141));clear HO_12;clear HO_17;clear HO_18;clear HO_27;clear HO_187;clear BK106;clear BK111;clear BK116;clear BK141;clear HB;have HO_12 := n0_;have HO_17 := n1_;have HO_18 := n2_;have HO_27 := n3_;have HO_187 := n4_;have BK106 := n5_;have BK111 := n6_;have BK116 := n7_;have BK141 := n8_;have HB := n9_;have BK150 := n10_;have GW150 := n11_;have GE150 := n12_;have NB106_150 := n13_;have NB150_106 := n14_;have NB111_150 := n15_;have NB150_111 := n16_;have NB116_150 := n17_;have NB150_116 := n18_;have NB141_150 := n19_;have NB150_141 := n20_;clear n0_ n1_ n2_ n3_ n4_ n5_ n6_ n7_ n8_ n9_ n10_ n11_ n12_ n13_ n14_ n15_ n16_ n17_ n18_ n19_ n20_;clear hb hbox hg;have hnb119 := NB150_106.out;have hnc119 := NB106_150.out;have hnb120 := NB150_111.out;have hnc120 := NB111_150.out;have hnb121 := NB150_116.out;have hnc121 := NB116_150.out;have hnb122 := NB150_141.out;have hnc122 := NB141_150.out;have hcz123_0 : w118.cell? ⟨gb150,0,none⟩ = some (.int .i64 0) := (blk_cell BK150.out 0).trans rfl;have hcz123_1 : w118.cell? ⟨gb150,1,none⟩ = some (.string (⟨#[]⟩ : ByteArray)) := (blk_cell BK150.out 1).trans rfl;have hcz123_2 : w118.cell? ⟨gb150,2,none⟩ = some (.bool false) := (blk_cell BK150.out 2).trans rfl;have hfz123_0 := blk_frozen BK150.out 0;have hfz123_1 := blk_frozen BK150.out 1;have hfz123_2 := blk_frozen BK150.out 2;obtain ⟨Ao124,co124,eo124⟩ := Kd.R_slice HO_18.out;subst eo124)|((with_reducible refine gate_callee (f := 17) rfl ?_);refine goesM_ (some 196) Try.func17 #[.slice Ao124 t131.length co124,.int .i64 x189_4] ?_;(with_reducible refine (laws_qHas.calls k4 _ _ t131 x189_4 true _ ?side1 ?side2 A116.out).mono ?_);(case side1 => refine (Kd.R_reads' (e := 3) (base := w.heap.size) (ok := fun k_ => True) (n := t131.length) (c := co124) ?_).2.2;exact (by (with_reducible repeat (first|apply zkA | apply zkB | apply zkC));exact (Kd.R_mono (Kd.R_far (p := ⟨gb150,2,none⟩) (Kd.R_far (p := ⟨gb150,1,none⟩) (Kd.R_far (p := ⟨gb150,0,none⟩) (Kd.R_types HO_18.out BK150.out (by decide)) (fun _ hk => hk.2) (.int .i64 ((rd_T45 t118 x189_4).f0))) (fun _ hk => hk.2) (.string ((rd_T45 t118 x189_4).f1))) (fun _ hk => hk.2) (.bool ((rd_T45 t118 x189_4).f2))) (fun _ h_ => h_.1))));(case side2 => exact (Kd.R_reads' HO_18.out).2.1);rintro e w' ⟨rfl,⟨nd,rfl⟩⟩;refine ⟨_,rfl,?_⟩))
                   go_roundg k4
                   case measure => have := HJ12.out;have := HJ60.out;have := HJ105.out;have := HK4.out;omega
                   case rel => exact ⟨(x27_4),(wrap64 (x189_4 + 1)),(by first|rfl | (simp;done)|(simp [*];done)),H',⟨by have := HJ12.out;have := HJ60.out;have := HJ105.out;have := HK4.out;omega⟩,⟨by (with_reducible repeat (first|apply zkA | apply zkB | apply zkC));exact Kd.R_mono (Kd.R_far (p := ⟨gb150,2,none⟩) (Kd.R_far (p := ⟨gb150,1,none⟩) (Kd.R_far (p := ⟨gb150,0,none⟩) (Kd.R_types HO_12.out BK150.out (by decide)) (fun _ hk => hk.2) (.int .i64 ((rd_T45 t118 x189_4).f0))) (fun _ hk => hk.2) (.string ((rd_T45 t118 x189_4).f1))) (fun _ hk => hk.2) (.bool ((rd_T45 t118 x189_4).f2))) (fun _ hk => ⟨hk.1.1,⟨hk.1.2.1,⟨hk.1.2.2.1,⟨hk.1.2.2.2.1,hk.1.2.2.2.2⟩⟩⟩⟩)⟩,⟨by (with_reducible repeat (first|apply zkA | apply zkB | apply zkC));exact Kd.R_mono (Kd.R_far (p := ⟨gb150,2,none⟩) (Kd.R_far (p := ⟨gb150,1,none⟩) (Kd.R_far (p := ⟨gb150,0,none⟩) (Kd.R_types HO_17.out BK150.out (by decide)) (fun _ hk => hk.2) (.int .i64 ((rd_T45 t118 x189_4).f0))) (fun _ hk => hk.2) (.string ((rd_T45 t118 x189_4).f1))) (fun _ hk => hk.2) (.bool ((rd_T45 t118 x189_4).f2))) (fun _ hk => ⟨hk.1.1,⟨hk.1.2.1,⟨hk.1.2.2.1,⟨hk.1.2.2.2.1,hk.1.2.2.2.2⟩⟩⟩⟩)⟩,⟨by (with_reducible repeat (first|apply zkA | apply zkB | apply zkC));exact Kd.R_mono (Kd.R_far (p := ⟨gb150,2,none⟩) (Kd.R_far (p := ⟨gb150,1,none⟩) (Kd.R_far (p := ⟨gb150,0,none⟩) (Kd.R_types HO_18.out BK150.out (by decide)) (fun _ hk => hk.2) (.int .i64 ((rd_T45 t118 x189_4).f0))) (fun _ hk => hk.2) (.string ((rd_T45 t118 x189_4).f1))) (fun _ hk => hk.2) (.bool ((rd_T45 t118 x189_4).f2))) (fun _ hk => trivial)⟩,⟨by (with_reducible repeat (first|apply zkA | apply zkB | apply zkC));exact Kd.R_mono (Kd.R_far (p := ⟨gb150,2,none⟩) (Kd.R_far (p := ⟨gb150,1,none⟩) (Kd.R_far (p := ⟨gb150,0,none⟩) (Kd.R_mono HO_27.out (fun k_ hk => (⟨hk,hk.2⟩ : _ ∧ k_ ≠ gb150))) (fun _ hk => hk.2) (.int .i64 ((rd_T45 t118 x189_4).f0))) (fun _ hk => hk.2) (.string ((rd_T45 t118 x189_4).f1))) (fun _ hk => hk.2) (.bool ((rd_T45 t118 x189_4).f2))) (fun _ hk => hk.1.1)⟩,⟨by (with_reducible repeat (first|apply zkA | apply zkB | apply zkC));exact Kd.R_mono (Kd.R_far (p := ⟨gb150,2,none⟩) (Kd.R_far (p := ⟨gb150,1,none⟩) (Kd.R_far (p := ⟨gb150,0,none⟩) (Kd.R_mono HO_187.out (fun k_ hk => (⟨hk,hk.2⟩ : _ ∧ k_ ≠ gb150))) (fun _ hk => hk.2) (.int .i64 ((rd_T45 t118 x189_4).f0))) (fun _ hk => hk.2) (.string ((rd_T45 t118 x189_4).f1))) (fun _ hk => hk.2) (.bool ((rd_T45 t118 x189_4).f2))) (fun _ hk => hk.1.1)⟩,⟨by (with_reducible repeat (first|apply zhA | apply zhB | apply zhC));refine blk_far ?_ NB106_150.out _;(with_reducible repeat (first|apply zhA | apply zhB | apply zhC));refine blk_far ?_ NB106_150.out _;(with_reducible repeat (first|apply zhA | apply zhB | apply zhC));refine blk_far ?_ NB106_150.out _;(with_reducible repeat (first|apply zhA | apply zhB | apply zhC));exact BK106.out⟩,⟨by (with_reducible repeat (first|apply zhA | apply zhB | apply zhC));refine blk_far ?_ NB111_150.out _;(with_reducible repeat (first|apply zhA | apply zhB | apply zhC));refine blk_far ?_ NB111_150.out _;(with_reducible repeat (first|apply zhA | apply zhB | apply zhC));refine blk_far ?_ NB111_150.out _;(with_reducible repeat (first|apply zhA | apply zhB | apply zhC));exact BK111.out⟩,⟨by (with_reducible repeat (first|apply zhA | apply zhB | apply zhC));refine blk_far ?_ NB116_150.out _;(with_reducible repeat (first|apply zhA | apply zhB | apply zhC));refine blk_far ?_ NB116_150.out _;(with_reducible repeat (first|apply zhA | apply zhB | apply zhC));refine blk_far ?_ NB116_150.out _;(with_reducible repeat (first|apply zhA | apply zhB | apply zhC));exact BK116.out⟩,⟨by (with_reducible repeat (first|apply zhA | apply zhB | apply zhC));refine blk_far ?_ NB141_150.out _;(with_reducible repeat (first|apply zhA | apply zhB | apply zhC));refine blk_far ?_ NB141_150.out _;(with_reducible repeat (first|apply zhA | apply zhB | apply zhC));refine blk_far ?_ NB141_150.out _;(with_reducible repeat (first|apply zhA | apply zhB | apply zhC));exact BK141.out⟩,⟨by repeat (first|(with_reducible first|exact HB.out | apply zbA | apply zbB | apply zbC | refine below_set ?_ GE106.out | refine below_set ?_ GE111.out | refine below_set ?_ GE116.out | refine below_set ?_ GE141.out | refine below_set ?_ GE150.out) | exact HB.out)⟩⟩
                 ·replace c117 := Bool.eq_false_iff.mpr c117
                  subst c117
                  rw [if_neg (show ¬ (false = true) by decide)] at H
                  by_cases c125 : x27_4.length < 4398046511104
                  ·rw [if_pos c125] at H
                   have LMc125 := Aside0.mk c125
                   clear c125
                   obtain ⟨y152,hy152⟩ : ∃ y_ : List (S45),y_ = (x27_4 ++ [(⟨(rd_T45 t118 x189_4).f0,(rd_T45 t118 x189_4).f1,(rd_T45 t118 x189_4).f2⟩ : S45)]) := ⟨_,rfl⟩
                   replace H : (laws_FnRepetition.l0 k4 t117 t130 t131 t140 t143 t144 y152 t118 (t118.length : Int) (wrap64 (x189_4 + 1)) t137 t138 t139) = some r := by first|(rw [hy152];with_reducible exact H)|(have H2_ := (Option.bind_some _ _).symm.trans H;rw [hy152];with_reducible exact H2_)|(have H2_ := (Option.bind_some _ _).symm.trans H;with_reducible exact H2_) | with_reducible exact H | (rw [hy152];exact H) | exact H
                   have Ny152 := Aside0.mk hy152
                   clear hy152
                   as_aux_lemma =>
                    have H' := Aside0.mk H
                    clear H
                    have p149 : 0 ≤ (x189_4 : Int) := of_decide_eq_true (by assumption)
                    have q149 : x189_4 < (t118.length : Int) := of_decide_eq_true (by assumption)
                    obtain ⟨ad149,e149,hx149_0,hx149_1,hx149_2⟩ := at_T45 (Kd.R_reads' HO_187.out).2.2 x189_4 p149 q149
                    cases e149
                    replace p149 := eq_true p149
                    replace q149 := eq_true q149
                    go_wp2_with (first|((with_reducible refine gate_dst (N := 29) rfl ?_);(try (refine gate_guard (by rfl) ?_;dsimp only));refine box_event ?hg (N := 29) ?hd (cs := #[.int .i64 0,.string (⟨#[]⟩ : ByteArray),.bool false]) (t := 45) ?hr ?_;(case hd => rfl);(case hg => rfl);(case hr => first|(go_simp;done)|(go_simp;rfl));intro gb150 hg w126 hbox hb;have n0_ := Aside0.mk (Kd.R_below (by (with_reducible repeat (first|apply zkA | apply zkB | apply zkC));exact HO_12.out) hb);have n1_ := Aside0.mk (Kd.R_below (by (with_reducible repeat (first|apply zkA | apply zkB | apply zkC));exact HO_17.out) hb);have n2_ := Aside0.mk (Kd.R_below (by (with_reducible repeat (first|apply zkA | apply zkB | apply zkC));exact HO_18.out) hb);have n3_ := Aside0.mk (Kd.R_below (Kd.R_elderB (by (with_reducible repeat (first|apply zkA | apply zkB | apply zkC));exact HO_27.out) gb150 (Nat.le_of_eq hg.symm)) hb);have n4_ := Aside0.mk (Kd.R_below (Kd.R_elderB (by (with_reducible repeat (first|apply zkA | apply zkB | apply zkC));exact HO_187.out) gb150 (Nat.le_of_eq hg.symm)) hb);have n5_ := Aside0.mk (blk_below (g := gb106) (o := .cells #[.string t101,.int .i64 t102,.int .i64 t103] 24 (0,0)) (by (with_reducible repeat (first|apply zhA | apply zhB | apply zhC));exact BK106.out) hb);have n6_ := Aside0.mk (blk_below (g := gb111) (o := .cells #[.string t107,.int .i64 t108,.int .i64 t109] 24 (0,0)) (by (with_reducible repeat (first|apply zhA | apply zhB | apply zhC));exact BK111.out) hb);have n7_ := Aside0.mk (blk_below (g := gb116) (o := .cells #[.string t112,.int .i64 t113,.int .i64 t114] 24 (0,0)) (by (with_reducible repeat (first|apply zhA | apply zhB | apply zhC));exact BK116.out) hb);have n8_ := Aside0.mk (blk_below (g := gb141) (o := .cells #[.string t137,.int .i64 t138,.int .i64 t139] 24 (0,0)) (by (with_reducible repeat (first|apply zhA | apply zhB | apply zhC));exact BK141.out) hb);have n9_ := Aside0.mk (below_step (by repeat (first|(with_reducible first|exact HB.out | apply zbA | apply zbB | apply zbC | refine below_set ?_ GE106.out | refine below_set ?_ GE111.out | refine below_set ?_ GE116.out | refine below_set ?_ GE141.out) | exact HB.out)) hb);have n10_ := Aside0.mk (hbox);have n11_ := Aside0.mk ((by rw [hg];exact (below_size (by repeat (first|(with_reducible first|exact HB.out | apply zbA | apply zbB | apply zbC | refine below_set ?_ GE106.out | refine below_set ?_ GE111.out | refine below_set ?_ GE116.out | refine below_set ?_ GE141.out) | exact HB.out))) : w.heap.size ≤ gb150));have n12_ := Aside0.mk ((by rw [hg];exact (below_size (by repeat (first|(with_reducible first|exact HB.out | apply zbA | apply zbB | apply zbC | refine below_set ?_ GE106.out | refine below_set ?_ GE111.out | refine below_set ?_ GE116.out | refine below_set ?_ GE141.out) | exact HB.out))) : w.heap.size ≤ gb150));have n13_ := Aside0.mk ((by rw [hg];exact Nat.ne_of_lt (blk_lt (g := gb106) (o := .cells #[.string t101,.int .i64 t102,.int .i64 t103] 24 (0,0)) (by (with_reducible repeat (first|apply zhA | apply zhB | apply zhC));exact BK106.out)) : gb106 ≠ gb150));have n14_ := Aside0.mk ((by rw [hg];exact Nat.ne_of_gt (blk_lt (g := gb106) (o := .cells #[.string t101,.int .i64 t102,.int .i64 t103] 24 (0,0)) (by (with_reducible repeat (first|apply zhA | apply zhB | apply zhC));exact BK106.out)) : gb150 ≠ gb106));have n15_ := Aside0.mk ((by rw [hg];exact Nat.ne_of_lt (blk_lt (g := gb111) (o := .cells #[.string t107,.int .i64 t108,.int .i64 t109] 24 (0,0)) (by (with_reducible repeat (first|apply zhA | apply zhB | apply zhC));exact BK111.out)) : gb111 ≠ gb150));have n16_ := Aside0.mk ((by rw [hg];exact Nat.ne_of_gt (blk_lt (g := gb111) (o := .cells #[.string t107,.int .i64 t108,.int .i64 t109] 24 (0,0)) (by (with_reducible repeat (first|apply zhA | apply zhB | apply zhC));exact BK111.out)) : gb150 ≠ gb111));have n17_ := Aside0.mk ((by rw [hg];exact Nat.ne_of_lt (blk_lt (g := gb116) (o := .cells #[.string t112,.int .i64 t113,.int .i64 t114] 24 (0,0)) (by (with_reducible repeat (first|apply zhA | apply zhB | apply zhC));exact BK116.out)) : gb116 ≠ gb150));have n18_ := Aside0.mk ((by rw [hg];exact Nat.ne_of_gt (blk_lt (g := gb116) (o := .cells #[.string t112,.int .i64 t113,.int .i64 t114] 24 (0,0)) (by (with_reducible repeat (first|apply zhA | apply zhB | apply zhC));exact BK116.out)) : gb150 ≠ gb116));have n19_ := Aside0.mk ((by rw [hg];exact Nat.ne_of_lt (blk_lt (g := gb141) (o := .cells #[.string t137,.int .i64 t138,.int .i64 t139] 24 (0,0)) (by (with_reducible repeat (first|apply zhA | apply zhB | apply zhC));exact BK141.out)) : gb141 ≠ gb150));have n20_ := Aside0.mk ((by rw [hg];exact Nat.ne_of_gt (blk_lt (g := gb141) (o := .cells #[.string t137,.int .i64 t138,.int .i64 t139] 24 (0,0)) (by (with_reducible repeat (first|apply zhA | apply zhB | apply zhC));exact BK141.out)) : gb150 ≠ gb141));clear HO_12;clear HO_17;clear HO_18;clear HO_27;clear HO_187;clear BK106;clear BK111;clear BK116;clear BK141;clear HB;have HO_12 := n0_;have HO_17 := n1_;have HO_18 := n2_;have HO_27 := n3_;have HO_187 := n4_;have BK106 := n5_;have BK111 := n6_;have BK116 := n7_;have BK141 := n8_;have HB := n9_;have BK150 := n10_;have GW150 := n11_;have GE150 := n12_;have NB106_150 := n13_;have NB150_106 := n14_;have NB111_150 := n15_;have NB150_111 := n16_;have NB116_150 := n17_;have NB150_116 := n18_;have NB141_150 := n19_;have NB150_141 := n20_;clear n0_ n1_ n2_ n3_ n4_ n5_ n6_ n7_ n8_ n9_ n10_ n11_ n12_ n13_ n14_ n15_ n16_ n17_ n18_ n19_ n20_;clear hb hbox hg;have hnb127 := NB150_106.out;have hnc127 := NB106_150.out;have hnb128 := NB150_111.out;have hnc128 := NB111_150.out;have hnb129 := NB150_116.out;have hnc129 := NB116_150.out;have hnb130 := NB150_141.out;have hnc130 := NB141_150.out;have hcz131_0 : w126.cell? ⟨gb150,0,none⟩ = some (.int .i64 0) := (blk_cell BK150.out 0).trans rfl;have hcz131_1 : w126.cell? ⟨gb150,1,none⟩ = some (.string (⟨#[]⟩ : ByteArray)) := (blk_cell BK150.out 1).trans rfl;have hcz131_2 : w126.cell? ⟨gb150,2,none⟩ = some (.bool false) := (blk_cell BK150.out 2).trans rfl;have hfz131_0 := blk_frozen BK150.out 0;have hfz131_1 := blk_frozen BK150.out 1;have hfz131_2 := blk_frozen BK150.out 2;obtain ⟨Ao132,co132,eo132⟩ := Kd.R_slice HO_18.out;subst eo132)|((with_reducible refine gate_callee (f := 17) rfl ?_);refine goesM_ (some 196) Try.func17 #[.slice Ao132 t131.length co132,.int .i64 x189_4] ?_;(with_reducible refine (laws_qHas.calls k4 _ _ t131 x189_4 false _ ?side1 ?side2 A116.out).mono ?_);(case side1 => refine (Kd.R_reads' (e := 3) (base := w.heap.size) (ok := fun k_ => True) (n := t131.length) (c := co132) ?_).2.2;exact (by (with_reducible repeat (first|apply zkA | apply zkB | apply zkC));exact (Kd.R_mono (Kd.R_far (p := ⟨gb150,2,none⟩) (Kd.R_far (p := ⟨gb150,1,none⟩) (Kd.R_far (p := ⟨gb150,0,none⟩) (Kd.R_types HO_18.out BK150.out (by decide)) (fun _ hk => hk.2) (.int .i64 ((rd_T45 t118 x189_4).f0))) (fun _ hk => hk.2) (.string ((rd_T45 t118 x189_4).f1))) (fun _ hk => hk.2) (.bool ((rd_T45 t118 x189_4).f2))) (fun _ h_ => h_.1))));(case side2 => exact (Kd.R_reads' HO_18.out).2.1);rintro e w' ⟨rfl,⟨nd,rfl⟩⟩;refine ⟨_,rfl,?_⟩)|((with_reducible refine gate_builtin (b := .append) (xs := #[.tmp 198,.tmp 200]) rfl ?_);(try (refine gate_guard (by rfl) ?_;dsimp only));at_builtin;refine Kd.R_append k45 (w0 := w) w.heap.size rfl (.tmp 198) (.tmp 200) 30 45 (.agg #[(.int .i64 0),(.string ⟨#[]⟩),(.bool false)]) 32 rfl Try.underlying30 info45 rfl (by decide) (by omega) u27 x27_4 (⟨(rd_T45 t118 x189_4).f0,(rd_T45 t118 x189_4).f1,(rd_T45 t118 x189_4).f2⟩ : S45) [.int .i64 ((rd_T45 t118 x189_4).f0),.string ((rd_T45 t118 x189_4).f1),.bool ((rd_T45 t118 x189_4).f2)] (fun k_ => some k_ ≠ (.slice (some ad149) t118.length co29 : Value).ownBlock ∧ k_ ≠ gb150) (fun _ => False) rfl (by first|(go_simp;done)|(go_simp;rfl)) ?aP (fun _ hk => hk.elim) ?aF ?aO ?aB ?aS ?aL ?_;(case aP => exact k45_mkM _ _ _ (⟨(rd_T45 t118 x189_4).f0,(rd_T45 t118 x189_4).f1,(rd_T45 t118 x189_4).f2⟩ : S45));(case aB => exact (by repeat (first|(with_reducible first|exact HB.out | apply zbA | apply zbB | apply zbC | refine below_set ?_ GE106.out | refine below_set ?_ GE111.out | refine below_set ?_ GE116.out | refine below_set ?_ GE141.out | refine below_set ?_ GE150.out) | exact HB.out)));(case aF => exact (fun k_ hk => ⟨Kd.fresh' (Kd.R_lt (by (with_reducible repeat (first|apply zkA | apply zkB | apply zkC));exact (Kd.R_mono (Kd.R_far (p := ⟨gb150,2,none⟩) (Kd.R_far (p := ⟨gb150,1,none⟩) (Kd.R_far (p := ⟨gb150,0,none⟩) (Kd.R_mono HO_187.out (fun k_ hk => (⟨hk,hk.2⟩ : _ ∧ k_ ≠ gb150))) (fun _ hk => hk.2) (.int .i64 ((rd_T45 t118 x189_4).f0))) (fun _ hk => hk.2) (.string ((rd_T45 t118 x189_4).f1))) (fun _ hk => hk.2) (.bool ((rd_T45 t118 x189_4).f2))) (fun _ h_ => h_.1)))) k_ hk,Kd.freshB (g := gb150) (o := .cells #[.int .i64 ((rd_T45 t118 x189_4).f0),.string ((rd_T45 t118 x189_4).f1),.bool ((rd_T45 t118 x189_4).f2)] 45 (0,0)) (by (with_reducible repeat (first|apply zhA | apply zhB | apply zhC));refine blk_put (cs := #[.int .i64 ((rd_T45 t118 x189_4).f0),.string ((rd_T45 t118 x189_4).f1),.bool false]) ?_ 2 _ rfl;(with_reducible repeat (first|apply zhA | apply zhB | apply zhC));refine blk_put (cs := #[.int .i64 ((rd_T45 t118 x189_4).f0),.string (⟨#[]⟩ : ByteArray),.bool false]) ?_ 1 _ rfl;(with_reducible repeat (first|apply zhA | apply zhB | apply zhC));refine blk_put (cs := #[.int .i64 0,.string (⟨#[]⟩ : ByteArray),.bool false]) ?_ 0 _ rfl;(with_reducible repeat (first|apply zhA | apply zhB | apply zhC));exact BK150.out) k_ hk⟩));(case aO => exact (by (with_reducible repeat (first|apply zkA | apply zkB | apply zkC));exact Kd.R_mono (Kd.R_far (p := ⟨gb150,2,none⟩) (Kd.R_far (p := ⟨gb150,1,none⟩) (Kd.R_far (p := ⟨gb150,0,none⟩) (Kd.R_mono HO_27.out (fun k_ hk => (⟨hk,hk.2⟩ : _ ∧ k_ ≠ gb150))) (fun _ hk => hk.2) (.int .i64 ((rd_T45 t118 x189_4).f0))) (fun _ hk => hk.2) (.string ((rd_T45 t118 x189_4).f1))) (fun _ hk => hk.2) (.bool ((rd_T45 t118 x189_4).f2))) (fun _ hk => ⟨hk.1.1,hk.1.2⟩)));(case aS => exact (below_size (by repeat (first|(with_reducible first|exact HB.out | apply zbA | apply zbB | apply zbC | refine below_set ?_ GE106.out | refine below_set ?_ GE111.out | refine below_set ?_ GE116.out | refine below_set ?_ GE141.out | refine below_set ?_ GE150.out) | exact HB.out))));(case aL => have := LMc125.out;omega);intro v153 w133 ho hb hg hat;rw [← Ny152.out] at ho;have n0_ := Aside0.mk (Kd.R_over' (by (with_reducible repeat (first|apply zkA | apply zkB | apply zkC));exact (Kd.R_mono (Kd.R_far (p := ⟨gb150,2,none⟩) (Kd.R_far (p := ⟨gb150,1,none⟩) (Kd.R_far (p := ⟨gb150,0,none⟩) (Kd.R_types HO_12.out BK150.out (by decide)) (fun _ hk => hk.2) (.int .i64 ((rd_T45 t118 x189_4).f0))) (fun _ hk => hk.2) (.string ((rd_T45 t118 x189_4).f1))) (fun _ hk => hk.2) (.bool ((rd_T45 t118 x189_4).f2))) (fun _ h_ => h_.1))) (Kd.R_typed (by (with_reducible repeat (first|apply zkA | apply zkB | apply zkC));exact (Kd.R_mono (Kd.R_far (p := ⟨gb150,2,none⟩) (Kd.R_far (p := ⟨gb150,1,none⟩) (Kd.R_far (p := ⟨gb150,0,none⟩) (Kd.R_mono HO_27.out (fun k_ hk => (⟨hk,hk.2⟩ : _ ∧ k_ ≠ gb150))) (fun _ hk => hk.2) (.int .i64 ((rd_T45 t118 x189_4).f0))) (fun _ hk => hk.2) (.string ((rd_T45 t118 x189_4).f1))) (fun _ hk => hk.2) (.bool ((rd_T45 t118 x189_4).f2))) (fun _ h_ => h_.1)))) (by decide) hg);have n1_ := Aside0.mk (Kd.R_over' (by (with_reducible repeat (first|apply zkA | apply zkB | apply zkC));exact (Kd.R_mono (Kd.R_far (p := ⟨gb150,2,none⟩) (Kd.R_far (p := ⟨gb150,1,none⟩) (Kd.R_far (p := ⟨gb150,0,none⟩) (Kd.R_types HO_17.out BK150.out (by decide)) (fun _ hk => hk.2) (.int .i64 ((rd_T45 t118 x189_4).f0))) (fun _ hk => hk.2) (.string ((rd_T45 t118 x189_4).f1))) (fun _ hk => hk.2) (.bool ((rd_T45 t118 x189_4).f2))) (fun _ h_ => h_.1))) (Kd.R_typed (by (with_reducible repeat (first|apply zkA | apply zkB | apply zkC));exact (Kd.R_mono (Kd.R_far (p := ⟨gb150,2,none⟩) (Kd.R_far (p := ⟨gb150,1,none⟩) (Kd.R_far (p := ⟨gb150,0,none⟩) (Kd.R_mono HO_27.out (fun k_ hk => (⟨hk,hk.2⟩ : _ ∧ k_ ≠ gb150))) (fun _ hk => hk.2) (.int .i64 ((rd_T45 t118 x189_4).f0))) (fun _ hk => hk.2) (.string ((rd_T45 t118 x189_4).f1))) (fun _ hk => hk.2) (.bool ((rd_T45 t118 x189_4).f2))) (fun _ h_ => h_.1)))) (by decide) hg);have n2_ := Aside0.mk (Kd.R_over' (by (with_reducible repeat (first|apply zkA | apply zkB | apply zkC));exact (Kd.R_mono (Kd.R_far (p := ⟨gb150,2,none⟩) (Kd.R_far (p := ⟨gb150,1,none⟩) (Kd.R_far (p := ⟨gb150,0,none⟩) (Kd.R_types HO_18.out BK150.out (by decide)) (fun _ hk => hk.2) (.int .i64 ((rd_T45 t118 x189_4).f0))) (fun _ hk => hk.2) (.string ((rd_T45 t118 x189_4).f1))) (fun _ hk => hk.2) (.bool ((rd_T45 t118 x189_4).f2))) (fun _ h_ => h_.1))) (Kd.R_typed (by (with_reducible repeat (first|apply zkA | apply zkB | apply zkC));exact (Kd.R_mono (Kd.R_far (p := ⟨gb150,2,none⟩) (Kd.R_far (p := ⟨gb150,1,none⟩) (Kd.R_far (p := ⟨gb150,0,none⟩) (Kd.R_mono HO_27.out (fun k_ hk => (⟨hk,hk.2⟩ : _ ∧ k_ ≠ gb150))) (fun _ hk => hk.2) (.int .i64 ((rd_T45 t118 x189_4).f0))) (fun _ hk => hk.2) (.string ((rd_T45 t118 x189_4).f1))) (fun _ hk => hk.2) (.bool ((rd_T45 t118 x189_4).f2))) (fun _ h_ => h_.1)))) (by decide) hg);have n3_ := Aside0.mk (Kd.R_after (ok := (fun k_ => k_ ≠ gb150)) (by (with_reducible repeat (first|apply zkA | apply zkB | apply zkC));exact Kd.R_mono (Kd.R_far (p := ⟨gb150,2,none⟩) (Kd.R_far (p := ⟨gb150,1,none⟩) (Kd.R_far (p := ⟨gb150,0,none⟩) (Kd.R_mono HO_187.out (fun k_ hk => (⟨hk,hk.2⟩ : _ ∧ k_ ≠ gb150))) (fun _ hk => hk.2) (.int .i64 ((rd_T45 t118 x189_4).f0))) (fun _ hk => hk.2) (.string ((rd_T45 t118 x189_4).f1))) (fun _ hk => hk.2) (.bool ((rd_T45 t118 x189_4).f2))) (fun _ hk => ⟨hk.1.2,hk.1.1⟩)) hg hat);have n4_ := Aside0.mk (blk_grown (g := gb106) (o := .cells #[.string t101,.int .i64 t102,.int .i64 t103] 24 (0,0)) (by (with_reducible repeat (first|apply zhA | apply zhB | apply zhC));refine blk_far ?_ NB106_150.out _;(with_reducible repeat (first|apply zhA | apply zhB | apply zhC));refine blk_far ?_ NB106_150.out _;(with_reducible repeat (first|apply zhA | apply zhB | apply zhC));refine blk_far ?_ NB106_150.out _;(with_reducible repeat (first|apply zhA | apply zhB | apply zhC));exact BK106.out) hg (Kd.R_ne HO_27.out BK106.out (by decide)));have n5_ := Aside0.mk (blk_grown (g := gb111) (o := .cells #[.string t107,.int .i64 t108,.int .i64 t109] 24 (0,0)) (by (with_reducible repeat (first|apply zhA | apply zhB | apply zhC));refine blk_far ?_ NB111_150.out _;(with_reducible repeat (first|apply zhA | apply zhB | apply zhC));refine blk_far ?_ NB111_150.out _;(with_reducible repeat (first|apply zhA | apply zhB | apply zhC));refine blk_far ?_ NB111_150.out _;(with_reducible repeat (first|apply zhA | apply zhB | apply zhC));exact BK111.out) hg (Kd.R_ne HO_27.out BK111.out (by decide)));have n6_ := Aside0.mk (blk_grown (g := gb116) (o := .cells #[.string t112,.int .i64 t113,.int .i64 t114] 24 (0,0)) (by (with_reducible repeat (first|apply zhA | apply zhB | apply zhC));refine blk_far ?_ NB116_150.out _;(with_reducible repeat (first|apply zhA | apply zhB | apply zhC));refine blk_far ?_ NB116_150.out _;(with_reducible repeat (first|apply zhA | apply zhB | apply zhC));refine blk_far ?_ NB116_150.out _;(with_reducible repeat (first|apply zhA | apply zhB | apply zhC));exact BK116.out) hg (Kd.R_ne HO_27.out BK116.out (by decide)));have n7_ := Aside0.mk (blk_grown (g := gb141) (o := .cells #[.string t137,.int .i64 t138,.int .i64 t139] 24 (0,0)) (by (with_reducible repeat (first|apply zhA | apply zhB | apply zhC));refine blk_far ?_ NB141_150.out _;(with_reducible repeat (first|apply zhA | apply zhB | apply zhC));refine blk_far ?_ NB141_150.out _;(with_reducible repeat (first|apply zhA | apply zhB | apply zhC));refine blk_far ?_ NB141_150.out _;(with_reducible repeat (first|apply zhA | apply zhB | apply zhC));exact BK141.out) hg (Kd.R_ne HO_27.out BK141.out (by decide)));have n8_ := Aside0.mk (blk_grown (g := gb150) (o := .cells #[.int .i64 ((rd_T45 t118 x189_4).f0),.string ((rd_T45 t118 x189_4).f1),.bool ((rd_T45 t118 x189_4).f2)] 45 (0,0)) (by (with_reducible repeat (first|apply zhA | apply zhB | apply zhC));refine blk_put (cs := #[.int .i64 ((rd_T45 t118 x189_4).f0),.string ((rd_T45 t118 x189_4).f1),.bool false]) ?_ 2 _ rfl;(with_reducible repeat (first|apply zhA | apply zhB | apply zhC));refine blk_put (cs := #[.int .i64 ((rd_T45 t118 x189_4).f0),.string (⟨#[]⟩ : ByteArray),.bool false]) ?_ 1 _ rfl;(with_reducible repeat (first|apply zhA | apply zhB | apply zhC));refine blk_put (cs := #[.int .i64 0,.string (⟨#[]⟩ : ByteArray),.bool false]) ?_ 0 _ rfl;(with_reducible repeat (first|apply zhA | apply zhB | apply zhC));exact BK150.out) hg (Kd.R_away HO_27.out (fun _ hk => hk.2)));have n9_ := Aside0.mk (hb);have n10_ := Aside0.mk (ho);clear HO_12;clear HO_17;clear HO_18;clear HO_187;clear BK106;clear BK111;clear BK116;clear BK141;clear BK150;clear HB;clear HO_27;have HO_12 := n0_;have HO_17 := n1_;have HO_18 := n2_;have HO_187 := n3_;have BK106 := n4_;have BK111 := n5_;have BK116 := n6_;have BK141 := n7_;have BK150 := n8_;have HB := n9_;have HO154 := n10_;clear n0_ n1_ n2_ n3_ n4_ n5_ n6_ n7_ n8_ n9_ n10_;clear ho hb hg hat))
                    go_roundg k4
                    case measure => have := HJ12.out;have := HJ60.out;have := HJ105.out;have := HK4.out;omega
                    case rel => exact ⟨(y152),(wrap64 (x189_4 + 1)),(by first|rfl | (simp;done)|(simp [*];done)),H',⟨by have := HJ12.out;have := HJ60.out;have := HJ105.out;have := HK4.out;omega⟩,⟨by (with_reducible repeat (first|apply zkA | apply zkB | apply zkC));exact HO_12.out⟩,⟨by (with_reducible repeat (first|apply zkA | apply zkB | apply zkC));exact HO_17.out⟩,⟨by (with_reducible repeat (first|apply zkA | apply zkB | apply zkC));exact HO_18.out⟩,⟨by (with_reducible repeat (first|apply zkA | apply zkB | apply zkC));exact Kd.R_mono HO154.out (fun _ hk => hk.1)⟩,⟨by (with_reducible repeat (first|apply zkA | apply zkB | apply zkC));exact Kd.R_mono HO_187.out (fun _ hk => hk.2)⟩,⟨by (with_reducible repeat (first|apply zhA | apply zhB | apply zhC));exact BK106.out⟩,⟨by (with_reducible repeat (first|apply zhA | apply zhB | apply zhC));exact BK111.out⟩,⟨by (with_reducible repeat (first|apply zhA | apply zhB | apply zhC));exact BK116.out⟩,⟨by (with_reducible repeat (first|apply zhA | apply zhB | apply zhC));exact BK141.out⟩,⟨by repeat (first|(with_reducible first|exact HB.out | apply zbA | apply zbB | apply zbC | refine below_set ?_ GE106.out | refine below_set ?_ GE111.out | refine below_set ?_ GE116.out | refine below_set ?_ GE141.out | refine below_set ?_ GE150.out) | exact HB.out)⟩⟩
                  ·rw [if_neg c125] at H
                   exact absurd H (by simp)
                ·rw [if_neg c115] at H
                 exact absurd H (by simp)
               ·rw [if_neg c114] at H
                exact absurd H (by simp)
              ·rw [if_neg c113] at H
               have c113b0 : decide (x189_4 < (t118.length : Int)) = false := decide_eq_false c113
               clear c113
               replace H := Option.bind_eq_some_iff.mp H
               obtain ⟨⟨t155,t156,t157⟩,A1340,H⟩ := H
               try dsimp only at H
               have A134 := Aside0.mk A1340
               clear A1340
               by_cases c135 : t157 = true
               ·subst c135
                rw [if_pos rfl] at H
                by_cases c136 : (t156.length : Int) > 0
                ·rw [if_pos c136] at H
                 exact absurd H (by simp)
                ·rw [if_neg c136] at H
                 have c136b0 : decide (0 < (t156.length : Int)) = false := decide_eq_false c136
                 have c136b1 : decide (0 < t156.length) = false := decide_eq_false (by omega)
                 clear c136
                 replace H := Option.bind_eq_some_iff.mp H
                 obtain ⟨t162,A1370,H⟩ := H
                 try dsimp only at H
                 have A137 := Aside0.mk A1370
                 clear A1370
                 by_cases c138 : t162 = true
                 ·subst c138
                  rw [if_pos rfl] at H
                  as_aux_lemma =>
                   have H' := Aside0.mk H
                   clear H
                   obtain ⟨Ao139,co139,eo139⟩ := Kd.R_slice HO_27.out
                   subst eo139
                   go_wp2_with (first|((with_reducible refine gate_callee (f := 9) rfl ?_);refine goesM_ (some 206) Try.func9 #[.slice Ao28 t117.length co28,.slice Ao139 x27_4.length co139] ?_;(with_reducible refine (impl_RunAnswers.calls k4 _ _ t117 _ _ x27_4 t155 t156 true _ ?side1 ?side2 ?side3 ?side4 A134.out).mono ?_);(case side1 => repeat (first|exact (Kd.R_reads' HO_12.out).2.2 | (with_reducible refine Kd.C_alloc ?_ _)|(with_reducible refine Kd.C_drewN ?_ _)|(with_reducible refine Kd.C_drew ?_)));(case side2 => exact (Kd.R_reads' HO_12.out).2.1);(case side3 => repeat (first|exact (Kd.R_reads' HO_27.out).2.2 | (with_reducible refine Kd.C_alloc ?_ _)|(with_reducible refine Kd.C_drewN ?_ _)|(with_reducible refine Kd.C_drew ?_)));(case side4 => exact (Kd.R_reads' HO_27.out).2.1);rintro e w140 ⟨v158,v160,rfl,ho0,ho1,hb⟩;refine ⟨_,rfl,?_⟩;have n0_ := Aside0.mk (Kd.R_elder' (by (with_reducible repeat (first|apply zkA | apply zkB | apply zkC));exact HO_12.out) (Kd.R_base ho0) hb);have n1_ := Aside0.mk (Kd.R_elder' (by (with_reducible repeat (first|apply zkA | apply zkB | apply zkC));exact HO_17.out) (Kd.R_base ho0) hb);have n2_ := Aside0.mk (Kd.R_elder' (by (with_reducible repeat (first|apply zkA | apply zkB | apply zkC));exact HO_18.out) (Kd.R_base ho1) hb);have n3_ := Aside0.mk (Kd.R_below (by (with_reducible repeat (first|apply zkA | apply zkB | apply zkC));exact HO_27.out) hb);have n4_ := Aside0.mk (Kd.R_below (by (with_reducible repeat (first|apply zkA | apply zkB | apply zkC));exact HO_187.out) hb);have n5_ := Aside0.mk (Kd.R_lower (Kd.R_newB (Kd.R_newB (Kd.R_newB (Kd.R_newB (Kd.R_new' (Kd.R_new' ho0 (Kd.R_lt (by (with_reducible repeat (first|apply zkA | apply zkB | apply zkC));exact HO_12.out))) (Kd.R_lt (by (with_reducible repeat (first|apply zkA | apply zkB | apply zkC));exact HO_17.out))) (g := gb106) (o := .cells #[.string t101,.int .i64 t102,.int .i64 t103] 24 (0,0)) (by (with_reducible repeat (first|apply zhA | apply zhB | apply zhC));exact BK106.out)) (g := gb111) (o := .cells #[.string t107,.int .i64 t108,.int .i64 t109] 24 (0,0)) (by (with_reducible repeat (first|apply zhA | apply zhB | apply zhC));exact BK111.out)) (g := gb116) (o := .cells #[.string t112,.int .i64 t113,.int .i64 t114] 24 (0,0)) (by (with_reducible repeat (first|apply zhA | apply zhB | apply zhC));exact BK116.out)) (g := gb141) (o := .cells #[.string t137,.int .i64 t138,.int .i64 t139] 24 (0,0)) (by (with_reducible repeat (first|apply zhA | apply zhB | apply zhC));exact BK141.out)) (below_size (by repeat (first|(with_reducible first|exact HB.out | apply zbA | apply zbB | apply zbC | refine below_set ?_ GE106.out | refine below_set ?_ GE111.out | refine below_set ?_ GE116.out | refine below_set ?_ GE141.out) | exact HB.out))));have n6_ := Aside0.mk (Kd.R_lower (Kd.R_new' ho1 (Kd.R_lt (by (with_reducible repeat (first|apply zkA | apply zkB | apply zkC));exact HO_18.out))) (below_size (by repeat (first|(with_reducible first|exact HB.out | apply zbA | apply zbB | apply zbC | refine below_set ?_ GE106.out | refine below_set ?_ GE111.out | refine below_set ?_ GE116.out | refine below_set ?_ GE141.out) | exact HB.out))));have n7_ := Aside0.mk (blk_below (g := gb106) (o := .cells #[.string t101,.int .i64 t102,.int .i64 t103] 24 (0,0)) (by (with_reducible repeat (first|apply zhA | apply zhB | apply zhC));exact BK106.out) hb);have n8_ := Aside0.mk (blk_below (g := gb111) (o := .cells #[.string t107,.int .i64 t108,.int .i64 t109] 24 (0,0)) (by (with_reducible repeat (first|apply zhA | apply zhB | apply zhC));exact BK111.out) hb);have n9_ := Aside0.mk (blk_below (g := gb116) (o := .cells #[.string t112,.int .i64 t113,.int .i64 t114] 24 (0,0)) (by (with_reducible repeat (first|apply zhA | apply zhB | apply zhC));exact BK116.out) hb);have n10_ := Aside0.mk (blk_below (g := gb141) (o := .cells #[.string t137,.int .i64 t138,.int .i64 t139] 24 (0,0)) (by (with_reducible repeat (first|apply zhA | apply zhB | apply zhC));exact BK141.out) hb);have n11_ := Aside0.mk (below_step (by repeat (first|(with_reducible first|exact HB.out | apply zbA | apply zbB | apply zbC | refine below_set ?_ GE106.out | refine below_set ?_ GE111.out | refine below_set ?_ GE116.out | refine below_set ?_ GE141.out) | exact HB.out)) hb);clear HO_12;clear HO_17;clear HO_18;clear HO_27;clear HO_187;clear BK106;clear BK111;clear BK116;clear BK141;clear HB;have HO_12 := n0_;have HO_17 := n1_;have HO_18 := n2_;have HO_27 := n3_;have HO_187 := n4_;have HO159 := n5_;have HO161 := n6_;have BK106 := n7_;have BK111 := n8_;have BK116 := n9_;have BK141 := n10_;have HB := n11_;clear n0_ n1_ n2_ n3_ n4_ n5_ n6_ n7_ n8_ n9_ n10_ n11_;(try clear hb);(try clear ho0);(try clear ho1);obtain ⟨Ao141,co141,eo141⟩ := Kd.R_slice HO161.out;subst eo141;obtain ⟨Ao142,co142,eo142⟩ := Kd.R_slice HO159.out;subst eo142;obtain ⟨Ao143,co143,eo143⟩ := Kd.R_slice HO_17.out;subst eo143)|(go_at_call 14;(with_reducible refine (laws_qCards.calls k4 _ _ t155 _ _ t130 true _ ?side1 ?side2 ?side3 ?side4 A137.out).mono ?_);(case side1 => repeat (first|exact (Kd.R_reads' HO159.out).2.2 | (with_reducible refine Kd.C_alloc ?_ _)|(with_reducible refine Kd.C_drewN ?_ _)|(with_reducible refine Kd.C_drew ?_)));(case side2 => exact (Kd.R_reads' HO159.out).2.1);(case side3 => repeat (first|exact (Kd.R_reads' HO_17.out).2.2 | (with_reducible refine Kd.C_alloc ?_ _)|(with_reducible refine Kd.C_drewN ?_ _)|(with_reducible refine Kd.C_drew ?_)));(case side4 => exact (Kd.R_reads' HO_17.out).2.1);rintro e w' ⟨rfl,⟨nd,rfl⟩⟩))
                   go_meet
                   case rel => exact ⟨_,H',⟨by have := HJ12.out;have := HJ60.out;have := HJ105.out;have := HK4.out;first|omega | exact Nat.le_refl _⟩,⟨by (with_reducible repeat (first|apply zhA | apply zhB | apply zhC));exact BK106.out⟩,⟨by (with_reducible repeat (first|apply zhA | apply zhB | apply zhC));exact BK111.out⟩,⟨by (with_reducible repeat (first|apply zhA | apply zhB | apply zhC));exact BK116.out⟩,⟨by (with_reducible repeat (first|apply zhA | apply zhB | apply zhC));exact BK141.out⟩,⟨by repeat (first|(with_reducible first|exact HB.out | apply zbA | apply zbB | apply zbC | refine below_set ?_ GE106.out | refine below_set ?_ GE111.out | refine below_set ?_ GE116.out | refine below_set ?_ GE141.out) | exact HB.out)⟩⟩
                 ·replace c138 := Bool.eq_false_iff.mpr c138
                  subst c138
                  rw [if_neg (show ¬ (false = true) by decide)] at H
                  exact absurd H (by simp)
               ·replace c135 := Bool.eq_false_iff.mpr c135
                subst c135
                rw [if_neg (show ¬ (false = true) by decide)] at H
                exact absurd H (by simp)
        ·replace c105 := Bool.eq_false_iff.mpr c105
         subst c105
         rw [if_neg (show ¬ (false = true) by decide)] at H
         as_aux_lemma =>
          have H' := Aside0.mk H
          clear H
          go_wp2
          go_meet
          case rel => exact ⟨_,H',⟨by have := HJ12.out;have := HJ60.out;first|omega | exact Nat.le_refl _⟩,⟨by (with_reducible repeat (first|apply zhA | apply zhB | apply zhC));exact BK106.out⟩,⟨by (with_reducible repeat (first|apply zhA | apply zhB | apply zhC));exact BK111.out⟩,⟨by (with_reducible repeat (first|apply zhA | apply zhB | apply zhC));exact BK116.out⟩,⟨by (with_reducible repeat (first|apply zhA | apply zhB | apply zhC));exact BK141.out⟩,⟨by repeat (first|(with_reducible first|exact HB.out | apply zbA | apply zbB | apply zbC | refine below_set ?_ GE106.out | refine below_set ?_ GE111.out | refine below_set ?_ GE116.out | refine below_set ?_ GE141.out) | exact HB.out)⟩⟩
       case rest =>
        clear HC104
        (try clear c1);(try clear p1);(try clear q1);(try clear hx1);(try clear c2);(try clear p2);(try clear c3);(try clear c3b0);(try clear c4);(try clear c5);(try clear c6);(try clear p6);(try clear c7);(try clear c8);(try clear c9);(try clear c10);(try clear c11);(try clear c12);(try clear c13);(try clear p14);(try clear q14);(try clear hx14);(try clear c17);(try clear c19);(try clear c24);(try clear c25);(try clear c34);(try clear c35);(try clear c36);(try clear c41);(try clear c41b0);(try clear c41b1);(try clear c41b2);(try clear c42);(try clear c42b0);(try clear c43);(try clear c43b0);(try clear c43b1);(try clear c43b2);(try clear c45);(try clear c47);(try clear c48);(try clear c48b0);(try clear c48b1);(try clear c48b2);(try clear c49);(try clear c50);(try clear c51);(try clear c53);(try clear c54);(try clear c60);(try clear c62);(try clear c63);(try clear c64);(try clear c64b0);(try clear p64);(try clear c65);(try clear c65b0);(try clear c65b1);(try clear c66);(try clear c66b0);(try clear c66b1);(try clear c67);(try clear c67b0);(try clear c68);(try clear c68b0);(try clear c69);(try clear c69b0);(try clear c69b1);(try clear c70);(try clear c71);(try clear c72);(try clear c74);(try clear c75);(try clear c77);(try clear c77b0);(try clear c77b1);(try clear c78);(try clear c78b0);(try clear c78b1);(try clear c79);(try clear c79b0);(try clear c80);(try clear c80b0);(try clear c82);(try clear c82b0);(try clear c82b1);(try clear c84);(try clear c84b0);(try clear c84b1);(try clear c85);(try clear c86);(try clear c87);(try clear c89);(try clear c90);(try clear c92);(try clear c92b0);(try clear c92b1);(try clear c93);(try clear c93b0);(try clear c93b1);(try clear c94);(try clear c94b0);(try clear c95);(try clear c95b0);(try clear c96);(try clear c96b0);(try clear c96b1);(try clear c97);(try clear c98);(try clear c99);(try clear c101);(try clear c102);(try clear c105);(try clear c107);(try clear c107b0);(try clear c107b1);(try clear c107b2);(try clear c112);(try clear c113);(try clear c113b0);(try clear c114);(try clear c114b0);(try clear c115);(try clear c115b0);(try clear c117);(try clear c119);(try clear c120);(try clear c121);(try clear c122);(try clear c125);(try clear c127);(try clear c128);(try clear c129);(try clear c130);(try clear c135);(try clear c136);(try clear c136b0);(try clear c136b1);(try clear c138);(try clear hcz100_0);(try clear hcz100_1);(try clear hcz100_2);(try clear hcz103_0);(try clear hcz103_1);(try clear hcz103_2);(try clear hcz123_0);(try clear hcz123_1);(try clear hcz123_2);(try clear hcz131_0);(try clear hcz131_1);(try clear hcz131_2);(try clear hcz16_0);(try clear hcz16_1);(try clear hcz16_2);(try clear hcz20_0);(try clear hcz20_1);(try clear hcz20_2);(try clear hcz21_0);(try clear hcz21_1);(try clear hcz21_2);(try clear hcz26_0);(try clear hcz26_1);(try clear hcz26_2);(try clear hcz37_0);(try clear hcz37_1);(try clear hcz37_2);(try clear hcz39_0);(try clear hcz39_1);(try clear hcz39_2);(try clear hcz52_0);(try clear hcz52_1);(try clear hcz52_2);(try clear hcz55_0);(try clear hcz55_1);(try clear hcz55_2);(try clear hcz73_0);(try clear hcz73_1);(try clear hcz73_2);(try clear hcz76_0);(try clear hcz76_1);(try clear hcz76_2);(try clear hcz88_0);(try clear hcz88_1);(try clear hcz88_2);(try clear hcz91_0);(try clear hcz91_1);(try clear hcz91_2);(try clear hfz100_0);(try clear hfz100_1);(try clear hfz100_2);(try clear hfz103_0);(try clear hfz103_1);(try clear hfz103_2);(try clear hfz123_0);(try clear hfz123_1);(try clear hfz123_2);(try clear hfz131_0);(try clear hfz131_1);(try clear hfz131_2);(try clear hfz16_0);(try clear hfz16_1);(try clear hfz16_2);(try clear hfz20_0);(try clear hfz20_1);(try clear hfz20_2);(try clear hfz21_0);(try clear hfz21_1);(try clear hfz21_2);(try clear hfz26_0);(try clear hfz26_1);(try clear hfz26_2);(try clear hfz37_0);(try clear hfz37_1);(try clear hfz37_2);(try clear hfz39_0);(try clear hfz39_1);(try clear hfz39_2);(try clear hfz52_0);(try clear hfz52_1);(try clear hfz52_2);(try clear hfz55_0);(try clear hfz55_1);(try clear hfz55_2);(try clear hfz73_0);(try clear hfz73_1);(try clear hfz73_2);(try clear hfz76_0);(try clear hfz76_1);(try clear hfz76_2);(try clear hfz88_0);(try clear hfz88_1);(try clear hfz88_2);(try clear hfz91_0);(try clear hfz91_1);(try clear hfz91_2);(try clear hx149_0);(try clear hx149_1);(try clear hx149_2);(try clear p149);(try clear p2);(try clear p6);(try clear p64);(try clear q149)
        obtain ⟨kq,HA,HJ103,BK106,BK111,BK116,BK141,HB⟩ := hcut
        cases kq with
        | zero => exact absurd HA.out (by simp [laws_FnRepetition.j4])
        | succ kj103 =>
         have H := HA.out
         clear HA
         simp only [laws_FnRepetition.j4] at H
         by_cases c144 : t143 = true
         ·subst c144
          rw [if_pos rfl] at H
          have H' := Aside0.mk H
          clear H
          have hnb145 := NB141_106.out
          have hnc145 := NB106_141.out
          have hnb146 := NB141_111.out
          have hnc146 := NB111_141.out
          have hnb147 := NB141_116.out
          have hnc147 := NB116_141.out
          have hcz148_0 : wc.cell? ⟨gb141,0,none⟩ = some (.string t137) := (blk_cell BK141.out 0).trans rfl
          have hcz148_1 : wc.cell? ⟨gb141,1,none⟩ = some (.int .i64 t138) := (blk_cell BK141.out 1).trans rfl
          have hcz148_2 : wc.cell? ⟨gb141,2,none⟩ = some (.int .i64 t139) := (blk_cell BK141.out 2).trans rfl
          have hfz148_0 := blk_frozen BK141.out 0
          have hfz148_1 := blk_frozen BK141.out 1
          have hfz148_2 := blk_frozen BK141.out 2
          go_wp2_with (first|((with_reducible refine gate_dst (N := 33) rfl ?_);(try (refine gate_guard (by rfl) ?_;dsimp only));refine box_event ?hg (N := 33) ?hd (cs := #[.string (⟨#[]⟩ : ByteArray),.int .i64 0,.int .i64 0]) (t := 24) ?hr ?_;(case hd => rfl);(case hg => rfl);(case hr => first|(go_simp;done)|(go_simp;rfl));intro gb163 hg w149 hbox hb;have n0_ := Aside0.mk (blk_below (g := gb106) (o := .cells #[.string t101,.int .i64 t102,.int .i64 t103] 24 (0,0)) (by (with_reducible repeat (first|apply zhA | apply zhB | apply zhC));exact BK106.out) hb);have n1_ := Aside0.mk (blk_below (g := gb111) (o := .cells #[.string t107,.int .i64 t108,.int .i64 t109] 24 (0,0)) (by (with_reducible repeat (first|apply zhA | apply zhB | apply zhC));exact BK111.out) hb);have n2_ := Aside0.mk (blk_below (g := gb116) (o := .cells #[.string t112,.int .i64 t113,.int .i64 t114] 24 (0,0)) (by (with_reducible repeat (first|apply zhA | apply zhB | apply zhC));exact BK116.out) hb);have n3_ := Aside0.mk (blk_below (g := gb141) (o := .cells #[.string t137,.int .i64 t138,.int .i64 t139] 24 (0,0)) (by (with_reducible repeat (first|apply zhA | apply zhB | apply zhC));exact BK141.out) hb);have n4_ := Aside0.mk (below_step (by repeat (first|(with_reducible first|exact HB.out | apply zbA | apply zbB | apply zbC | refine below_set ?_ GE106.out | refine below_set ?_ GE111.out | refine below_set ?_ GE116.out | refine below_set ?_ GE141.out) | exact HB.out)) hb);have n5_ := Aside0.mk (hbox);have n6_ := Aside0.mk ((by rw [hg];exact (below_size (by repeat (first|(with_reducible first|exact HB.out | apply zbA | apply zbB | apply zbC | refine below_set ?_ GE106.out | refine below_set ?_ GE111.out | refine below_set ?_ GE116.out | refine below_set ?_ GE141.out) | exact HB.out))) : w.heap.size ≤ gb163));have n7_ := Aside0.mk ((by rw [hg];exact (below_size (by repeat (first|(with_reducible first|exact HB.out | apply zbA | apply zbB | apply zbC | refine below_set ?_ GE106.out | refine below_set ?_ GE111.out | refine below_set ?_ GE116.out | refine below_set ?_ GE141.out) | exact HB.out))) : w.heap.size ≤ gb163));have n8_ := Aside0.mk ((by rw [hg];exact Nat.ne_of_lt (blk_lt (g := gb106) (o := .cells #[.string t101,.int .i64 t102,.int .i64 t103] 24 (0,0)) (by (with_reducible repeat (first|apply zhA | apply zhB | apply zhC));exact BK106.out)) : gb106 ≠ gb163));have n9_ := Aside0.mk ((by rw [hg];exact Nat.ne_of_gt (blk_lt (g := gb106) (o := .cells #[.string t101,.int .i64 t102,.int .i64 t103] 24 (0,0)) (by (with_reducible repeat (first|apply zhA | apply zhB | apply zhC));exact BK106.out)) : gb163 ≠ gb106));have n10_ := Aside0.mk ((by rw [hg];exact Nat.ne_of_lt (blk_lt (g := gb111) (o := .cells #[.string t107,.int .i64 t108,.int .i64 t109] 24 (0,0)) (by (with_reducible repeat (first|apply zhA | apply zhB | apply zhC));exact BK111.out)) : gb111 ≠ gb163));have n11_ := Aside0.mk ((by rw [hg];exact Nat.ne_of_gt (blk_lt (g := gb111) (o := .cells #[.string t107,.int .i64 t108,.int .i64 t109] 24 (0,0)) (by (with_reducible repeat (first|apply zhA | apply zhB | apply zhC));exact BK111.out)) : gb163 ≠ gb111));have n12_ := Aside0.mk ((by rw [hg];exact Nat.ne_of_lt (blk_lt (g := gb116) (o := .cells #[.string t112,.int .i64 t113,.int .i64 t114] 24 (0,0)) (by (with_reducible repeat (first|apply zhA | apply zhB | apply zhC));exact BK116.out)) : gb116 ≠ gb163));have n13_ := Aside0.mk ((by rw [hg];exact Nat.ne_of_gt (blk_lt (g := gb116) (o := .cells #[.string t112,.int .i64 t113,.int .i64 t114] 24 (0,0)) (by (with_reducible repeat (first|apply zhA | apply zhB | apply zhC));exact BK116.out)) : gb163 ≠ gb116));have n14_ := Aside0.mk ((by rw [hg];exact Nat.ne_of_lt (blk_lt (g := gb141) (o := .cells #[.string t137,.int .i64 t138,.int .i64 t139] 24 (0,0)) (by (with_reducible repeat (first|apply zhA | apply zhB | apply zhC));exact BK141.out)) : gb141 ≠ gb163));have n15_ := Aside0.mk ((by rw [hg];exact Nat.ne_of_gt (blk_lt (g := gb141) (o := .cells #[.string t137,.int .i64 t138,.int .i64 t139] 24 (0,0)) (by (with_reducible repeat (first|apply zhA | apply zhB | apply zhC));exact BK141.out)) : gb163 ≠ gb141));clear BK106;clear BK111;clear BK116;clear BK141;clear HB;have BK106 := n0_;have BK111 := n1_;have BK116 := n2_;have BK141 := n3_;have HB := n4_;have BK163 := n5_;have GW163 := n6_;have GE163 := n7_;have NB106_163 := n8_;have NB163_106 := n9_;have NB111_163 := n10_;have NB163_111 := n11_;have NB116_163 := n12_;have NB163_116 := n13_;have NB141_163 := n14_;have NB163_141 := n15_;clear n0_ n1_ n2_ n3_ n4_ n5_ n6_ n7_ n8_ n9_ n10_ n11_ n12_ n13_ n14_ n15_;clear hb hbox hg;have hnb150 := NB163_106.out;have hnc150 := NB106_163.out;have hnb151 := NB163_111.out;have hnc151 := NB111_163.out;have hnb152 := NB163_116.out;have hnc152 := NB116_163.out;have hnb153 := NB163_141.out;have hnc153 := NB141_163.out;have hcz154_0 : w149.cell? ⟨gb163,0,none⟩ = some (.string (⟨#[]⟩ : ByteArray)) := (blk_cell BK163.out 0).trans rfl;have hcz154_1 : w149.cell? ⟨gb163,1,none⟩ = some (.int .i64 0) := (blk_cell BK163.out 1).trans rfl;have hcz154_2 : w149.cell? ⟨gb163,2,none⟩ = some (.int .i64 0) := (blk_cell BK163.out 2).trans rfl;have hfz154_0 := blk_frozen BK163.out 0;have hfz154_1 := blk_frozen BK163.out 1;have hfz154_2 := blk_frozen BK163.out 2))
          go_loopg [34] kj103 (fun kq v34 w' => ∃ (x34_4 : Int) (x164000_4 : ByteArray) (x164001_4 : Int) (x164002_4 : Int),v34 = .int .i64 x34_4 ∧ Aside0 (laws_FnRepetition.l1 kq t144 x34_4 x164000_4 x164001_4 x164002_4 = some r) ∧ Aside0 (kq ≤ kj103) ∧ Aside0 (w'.heap[gb106]? = some (.cells #[.string t101,.int .i64 t102,.int .i64 t103] 24 (0,0))) ∧ Aside0 (w'.heap[gb111]? = some (.cells #[.string t107,.int .i64 t108,.int .i64 t109] 24 (0,0))) ∧ Aside0 (w'.heap[gb116]? = some (.cells #[.string t112,.int .i64 t113,.int .i64 t114] 24 (0,0))) ∧ Aside0 (w'.heap[gb141]? = some (.cells #[.string t137,.int .i64 t138,.int .i64 t139] 24 (0,0))) ∧ Aside0 (w'.heap[gb163]? = some (.cells #[.string x164000_4,.int .i64 x164001_4,.int .i64 x164002_4] 24 (0,0))) ∧ Aside0 (Below w.heap.size w w'))
          case atStart => exact ⟨(t140),(t137),(t138),(t139),(by first|rfl | (simp;done)|(simp [*];done)),H',⟨Nat.le_refl _⟩,⟨by (with_reducible repeat (first|apply zhA | apply zhB | apply zhC));refine blk_far ?_ NB106_163.out _;(with_reducible repeat (first|apply zhA | apply zhB | apply zhC));refine blk_far ?_ NB106_163.out _;(with_reducible repeat (first|apply zhA | apply zhB | apply zhC));refine blk_far ?_ NB106_163.out _;(with_reducible repeat (first|apply zhA | apply zhB | apply zhC));exact BK106.out⟩,⟨by (with_reducible repeat (first|apply zhA | apply zhB | apply zhC));refine blk_far ?_ NB111_163.out _;(with_reducible repeat (first|apply zhA | apply zhB | apply zhC));refine blk_far ?_ NB111_163.out _;(with_reducible repeat (first|apply zhA | apply zhB | apply zhC));refine blk_far ?_ NB111_163.out _;(with_reducible repeat (first|apply zhA | apply zhB | apply zhC));exact BK111.out⟩,⟨by (with_reducible repeat (first|apply zhA | apply zhB | apply zhC));refine blk_far ?_ NB116_163.out _;(with_reducible repeat (first|apply zhA | apply zhB | apply zhC));refine blk_far ?_ NB116_163.out _;(with_reducible repeat (first|apply zhA | apply zhB | apply zhC));refine blk_far ?_ NB116_163.out _;(with_reducible repeat (first|apply zhA | apply zhB | apply zhC));exact BK116.out⟩,⟨by (with_reducible repeat (first|apply zhA | apply zhB | apply zhC));refine blk_far ?_ NB141_163.out _;(with_reducible repeat (first|apply zhA | apply zhB | apply zhC));refine blk_far ?_ NB141_163.out _;(with_reducible repeat (first|apply zhA | apply zhB | apply zhC));refine blk_far ?_ NB141_163.out _;(with_reducible repeat (first|apply zhA | apply zhB | apply zhC));exact BK141.out⟩,⟨by (with_reducible repeat (first|apply zhA | apply zhB | apply zhC));refine blk_put (cs := #[.string t137,.int .i64 t138,.int .i64 0]) ?_ 2 _ rfl;(with_reducible repeat (first|apply zhA | apply zhB | apply zhC));refine blk_put (cs := #[.string t137,.int .i64 0,.int .i64 0]) ?_ 1 _ rfl;(with_reducible repeat (first|apply zhA | apply zhB | apply zhC));refine blk_put (cs := #[.string (⟨#[]⟩ : ByteArray),.int .i64 0,.int .i64 0]) ?_ 0 _ rfl;(with_reducible repeat (first|apply zhA | apply zhB | apply zhC));exact BK163.out⟩,⟨by repeat (first|(with_reducible first|exact HB.out | apply zbA | apply zbB | apply zbC | refine below_set ?_ GE106.out | refine below_set ?_ GE111.out | refine below_set ?_ GE116.out | refine below_set ?_ GE141.out | refine below_set ?_ GE163.out) | exact HB.out)⟩⟩
          case round =>
           clear H'
           (try clear c1);(try clear p1);(try clear q1);(try clear hx1);(try clear c2);(try clear p2);(try clear c3);(try clear c3b0);(try clear c4);(try clear c5);(try clear c6);(try clear p6);(try clear c7);(try clear c8);(try clear c9);(try clear c10);(try clear c11);(try clear c12);(try clear c13);(try clear c14);(try clear p14);(try clear q14);(try clear hx14);(try clear c15);(try clear c17);(try clear c19);(try clear c24);(try clear c25);(try clear c34);(try clear c35);(try clear c36);(try clear c41);(try clear c41b0);(try clear c41b1);(try clear c41b2);(try clear c42);(try clear c42b0);(try clear c43);(try clear c43b0);(try clear c43b1);(try clear c43b2);(try clear c45);(try clear c47);(try clear c48);(try clear c48b0);(try clear c48b1);(try clear c48b2);(try clear c49);(try clear c50);(try clear c51);(try clear c53);(try clear c54);(try clear c60);(try clear c62);(try clear c63);(try clear c64);(try clear c64b0);(try clear p64);(try clear c65);(try clear c65b0);(try clear c65b1);(try clear c66);(try clear c66b0);(try clear c66b1);(try clear c67);(try clear c67b0);(try clear c68);(try clear c68b0);(try clear c69);(try clear c69b0);(try clear c69b1);(try clear c70);(try clear c71);(try clear c72);(try clear c74);(try clear c75);(try clear c77);(try clear c77b0);(try clear c77b1);(try clear c78);(try clear c78b0);(try clear c78b1);(try clear c79);(try clear c79b0);(try clear c80);(try clear c80b0);(try clear c82);(try clear c82b0);(try clear c82b1);(try clear c84);(try clear c84b0);(try clear c84b1);(try clear c85);(try clear c86);(try clear c87);(try clear c89);(try clear c90);(try clear c92);(try clear c92b0);(try clear c92b1);(try clear c93);(try clear c93b0);(try clear c93b1);(try clear c94);(try clear c94b0);(try clear c95);(try clear c95b0);(try clear c96);(try clear c96b0);(try clear c96b1);(try clear c97);(try clear c98);(try clear c99);(try clear c101);(try clear c102);(try clear c105);(try clear c107);(try clear c107b0);(try clear c107b1);(try clear c107b2);(try clear c112);(try clear c113);(try clear c113b0);(try clear c114);(try clear c114b0);(try clear c115);(try clear c115b0);(try clear c117);(try clear c119);(try clear c120);(try clear c121);(try clear c122);(try clear c125);(try clear c127);(try clear c128);(try clear c129);(try clear c130);(try clear c135);(try clear c136);(try clear c136b0);(try clear c136b1);(try clear c138);(try clear c144);(try clear c145);(try clear c146);(try clear c147);(try clear p149);(try clear q149);(try clear hx149);(try clear c150);(try clear c151);(try clear c152);(try clear c153);(try clear hcz100_0);(try clear hcz100_1);(try clear hcz100_2);(try clear hcz103_0);(try clear hcz103_1);(try clear hcz103_2);(try clear hcz123_0);(try clear hcz123_1);(try clear hcz123_2);(try clear hcz131_0);(try clear hcz131_1);(try clear hcz131_2);(try clear hcz148_0);(try clear hcz148_1);(try clear hcz148_2);(try clear hcz154_0);(try clear hcz154_1);(try clear hcz154_2);(try clear hcz16_0);(try clear hcz16_1);(try clear hcz16_2);(try clear hcz20_0);(try clear hcz20_1);(try clear hcz20_2);(try clear hcz21_0);(try clear hcz21_1);(try clear hcz21_2);(try clear hcz26_0);(try clear hcz26_1);(try clear hcz26_2);(try clear hcz37_0);(try clear hcz37_1);(try clear hcz37_2);(try clear hcz39_0);(try clear hcz39_1);(try clear hcz39_2);(try clear hcz52_0);(try clear hcz52_1);(try clear hcz52_2);(try clear hcz55_0);(try clear hcz55_1);(try clear hcz55_2);(try clear hcz73_0);(try clear hcz73_1);(try clear hcz73_2);(try clear hcz76_0);(try clear hcz76_1);(try clear hcz76_2);(try clear hcz88_0);(try clear hcz88_1);(try clear hcz88_2);(try clear hcz91_0);(try clear hcz91_1);(try clear hcz91_2);(try clear hfz100_0);(try clear hfz100_1);(try clear hfz100_2);(try clear hfz103_0);(try clear hfz103_1);(try clear hfz103_2);(try clear hfz123_0);(try clear hfz123_1);(try clear hfz123_2);(try clear hfz131_0);(try clear hfz131_1);(try clear hfz131_2);(try clear hfz148_0);(try clear hfz148_1);(try clear hfz148_2);(try clear hfz154_0);(try clear hfz154_1);(try clear hfz154_2);(try clear hfz16_0);(try clear hfz16_1);(try clear hfz16_2);(try clear hfz20_0);(try clear hfz20_1);(try clear hfz20_2);(try clear hfz21_0);(try clear hfz21_1);(try clear hfz21_2);(try clear hfz26_0);(try clear hfz26_1);(try clear hfz26_2);(try clear hfz37_0);(try clear hfz37_1);(try clear hfz37_2);(try clear hfz39_0);(try clear hfz39_1);(try clear hfz39_2);(try clear hfz52_0);(try clear hfz52_1);(try clear hfz52_2);(try clear hfz55_0);(try clear hfz55_1);(try clear hfz55_2);(try clear hfz73_0);(try clear hfz73_1);(try clear hfz73_2);(try clear hfz76_0);(try clear hfz76_1);(try clear hfz76_2);(try clear hfz88_0);(try clear hfz88_1);(try clear hfz88_2);(try clear hfz91_0);(try clear hfz91_1);(try clear hfz91_2);(try clear hx149_0);(try clear hx149_1);(try clear hx149_2);(try clear p1);(try clear p14);(try clear p149);(try clear p2);(try clear p6);(try clear p64);(try clear q1);(try clear q14);(try clear q149)
           obtain ⟨x34_4,x164000_4,x164001_4,x164002_4,rfl,HA,HK4,BK106,BK111,BK116,BK141,BK163,HB⟩ := hrel
           cases gk with
           | zero => exact absurd HA.out (by simp [laws_FnRepetition.l1])
           | succ k4 =>
            have H := HA.out
            clear HA
            simp only [laws_FnRepetition.l1] at H
            by_cases c155 : x164001_4 < 5
            ·rw [if_pos c155] at H
             have c155b0 : decide (x164001_4 < 5) = true := decide_eq_true c155
             clear c155
             have HC156 := Aside0.mk H
             clear H
             have hnb157 := NB163_106.out
             have hnc157 := NB106_163.out
             have hnb158 := NB163_111.out
             have hnc158 := NB111_163.out
             have hnb159 := NB163_116.out
             have hnc159 := NB116_163.out
             have hnb160 := NB163_141.out
             have hnc160 := NB141_163.out
             have hcz161_0 : wr.cell? ⟨gb163,0,none⟩ = some (.string x164000_4) := (blk_cell BK163.out 0).trans rfl
             have hcz161_1 : wr.cell? ⟨gb163,1,none⟩ = some (.int .i64 x164001_4) := (blk_cell BK163.out 1).trans rfl
             have hcz161_2 : wr.cell? ⟨gb163,2,none⟩ = some (.int .i64 x164002_4) := (blk_cell BK163.out 2).trans rfl
             have hfz161_0 := blk_frozen BK163.out 0
             have hfz161_1 := blk_frozen BK163.out 1
             have hfz161_2 := blk_frozen BK163.out 2
             go_upto_if 232 with (fail)
             go_cut [34] (fun v34 wc => ∃ (kq : Nat) (x34_155 : Int),v34 = .int .i64 x34_155 ∧ Aside0 (laws_FnRepetition.j6 kq t144 x34_155 x164000_4 x164001_4 x164002_4 = some r) ∧ Aside0 (kq ≤ k4) ∧ Aside0 (wc.heap[gb106]? = some (.cells #[.string t101,.int .i64 t102,.int .i64 t103] 24 (0,0))) ∧ Aside0 (wc.heap[gb111]? = some (.cells #[.string t107,.int .i64 t108,.int .i64 t109] 24 (0,0))) ∧ Aside0 (wc.heap[gb116]? = some (.cells #[.string t112,.int .i64 t113,.int .i64 t114] 24 (0,0))) ∧ Aside0 (wc.heap[gb141]? = some (.cells #[.string t137,.int .i64 t138,.int .i64 t139] 24 (0,0))) ∧ Aside0 (wc.heap[gb163]? = some (.cells #[.string x164000_4,.int .i64 x164001_4,.int .i64 x164002_4] 24 (0,0))) ∧ Aside0 (Below w.heap.size w wc))
             case first =>
              have H := HC156.out
              clear HC156
              by_cases c162 : x34_4 < x164002_4
              ·rw [if_pos c162] at H
               have c162b0 : decide (x34_4 < x164002_4) = true := decide_eq_true c162
               clear c162
               (first|rw [c162b0] | (simp only [i64_w,i32_w];rw [c162b0]) | skip)
               as_aux_lemma =>
                have H' := Aside0.mk H
                clear H
                have hnb163 := NB163_106.out
                have hnc163 := NB106_163.out
                have hnb164 := NB163_111.out
                have hnc164 := NB111_163.out
                have hnb165 := NB163_116.out
                have hnc165 := NB116_163.out
                have hnb166 := NB163_141.out
                have hnc166 := NB141_163.out
                have hcz167_0 : wr.cell? ⟨gb163,0,none⟩ = some (.string x164000_4) := (blk_cell BK163.out 0).trans rfl
                have hcz167_1 : wr.cell? ⟨gb163,1,none⟩ = some (.int .i64 x164001_4) := (blk_cell BK163.out 1).trans rfl
                have hcz167_2 : wr.cell? ⟨gb163,2,none⟩ = some (.int .i64 x164002_4) := (blk_cell BK163.out 2).trans rfl
                have hfz167_0 := blk_frozen BK163.out 0
                have hfz167_1 := blk_frozen BK163.out 1
                have hfz167_2 := blk_frozen BK163.out 2
                go_wp2
                go_meet
                case rel => exact ⟨_,(x164002_4),(by first|rfl | (simp;done)|(simp [*];done)),H',⟨by have := HJ12.out;have := HJ60.out;have := HJ103.out;have := HK4.out;first|omega | exact Nat.le_refl _⟩,⟨by (with_reducible repeat (first|apply zhA | apply zhB | apply zhC));exact BK106.out⟩,⟨by (with_reducible repeat (first|apply zhA | apply zhB | apply zhC));exact BK111.out⟩,⟨by (with_reducible repeat (first|apply zhA | apply zhB | apply zhC));exact BK116.out⟩,⟨by (with_reducible repeat (first|apply zhA | apply zhB | apply zhC));exact BK141.out⟩,⟨by (with_reducible repeat (first|apply zhA | apply zhB | apply zhC));exact BK163.out⟩,⟨by repeat (first|(with_reducible first|exact HB.out | apply zbA | apply zbB | apply zbC | refine below_set ?_ GE106.out | refine below_set ?_ GE111.out | refine below_set ?_ GE116.out | refine below_set ?_ GE141.out | refine below_set ?_ GE163.out) | exact HB.out)⟩⟩
              ·rw [if_neg c162] at H
               have c162b0 : decide (x34_4 < x164002_4) = false := decide_eq_false c162
               clear c162
               (first|rw [c162b0] | (simp only [i64_w,i32_w];rw [c162b0]) | skip)
               as_aux_lemma =>
                have H' := Aside0.mk H
                clear H
                go_wp2
                go_meet
                case rel => exact ⟨_,(x34_4),(by first|rfl | (simp;done)|(simp [*];done)),H',⟨by have := HJ12.out;have := HJ60.out;have := HJ103.out;have := HK4.out;first|omega | exact Nat.le_refl _⟩,⟨by (with_reducible repeat (first|apply zhA | apply zhB | apply zhC));exact BK106.out⟩,⟨by (with_reducible repeat (first|apply zhA | apply zhB | apply zhC));exact BK111.out⟩,⟨by (with_reducible repeat (first|apply zhA | apply zhB | apply zhC));exact BK116.out⟩,⟨by (with_reducible repeat (first|apply zhA | apply zhB | apply zhC));exact BK141.out⟩,⟨by (with_reducible repeat (first|apply zhA | apply zhB | apply zhC));exact BK163.out⟩,⟨by repeat (first|(with_reducible first|exact HB.out | apply zbA | apply zbB | apply zbC | refine below_set ?_ GE106.out | refine below_set ?_ GE111.out | refine below_set ?_ GE116.out | refine below_set ?_ GE141.out | refine below_set ?_ GE163.out) | exact HB.out)⟩⟩
             case rest =>
              clear HC156
              (try clear c1);(try clear p1);(try clear q1);(try clear hx1);(try clear c2);(try clear p2);(try clear c3);(try clear c3b0);(try clear c4);(try clear c5);(try clear c6);(try clear p6);(try clear c7);(try clear c8);(try clear c9);(try clear c10);(try clear c11);(try clear c12);(try clear c13);(try clear c14);(try clear p14);(try clear q14);(try clear hx14);(try clear c15);(try clear c16);(try clear c17);(try clear c19);(try clear c24);(try clear c25);(try clear c34);(try clear c35);(try clear c36);(try clear c41);(try clear c41b0);(try clear c41b1);(try clear c41b2);(try clear c42);(try clear c42b0);(try clear c43);(try clear c43b0);(try clear c43b1);(try clear c43b2);(try clear c45);(try clear c47);(try clear c48);(try clear c48b0);(try clear c48b1);(try clear c48b2);(try clear c49);(try clear c50);(try clear c51);(try clear c53);(try clear c54);(try clear c60);(try clear c62);(try clear c63);(try clear c64);(try clear c64b0);(try clear p64);(try clear c65);(try clear c65b0);(try clear c65b1);(try clear c66);(try clear c66b0);(try clear c66b1);(try clear c67);(try clear c67b0);(try clear c68);(try clear c68b0);(try clear c69);(try clear c69b0);(try clear c69b1);(try clear c70);(try clear c71);(try clear c72);(try clear c74);(try clear c75);(try clear c77);(try clear c77b0);(try clear c77b1);(try clear c78);(try clear c78b0);(try clear c78b1);(try clear c79);(try clear c79b0);(try clear c80);(try clear c80b0);(try clear c82);(try clear c82b0);(try clear c82b1);(try clear c84);(try clear c84b0);(try clear c84b1);(try clear c85);(try clear c86);(try clear c87);(try clear c89);(try clear c90);(try clear c92);(try clear c92b0);(try clear c92b1);(try clear c93);(try clear c93b0);(try clear c93b1);(try clear c94);(try clear c94b0);(try clear c95);(try clear c95b0);(try clear c96);(try clear c96b0);(try clear c96b1);(try clear c97);(try clear c98);(try clear c99);(try clear c101);(try clear c102);(try clear c105);(try clear c107);(try clear c107b0);(try clear c107b1);(try clear c107b2);(try clear c112);(try clear c113);(try clear c113b0);(try clear c114);(try clear c114b0);(try clear c115);(try clear c115b0);(try clear c117);(try clear c119);(try clear c120);(try clear c121);(try clear c122);(try clear c125);(try clear c127);(try clear c128);(try clear c129);(try clear c130);(try clear c135);(try clear c136);(try clear c136b0);(try clear c136b1);(try clear c138);(try clear c144);(try clear c145);(try clear c146);(try clear c147);(try clear p149);(try clear q149);(try clear hx149);(try clear c150);(try clear c151);(try clear c152);(try clear c153);(try clear c155);(try clear c155b0);(try clear c157);(try clear c158);(try clear c159);(try clear c160);(try clear c162);(try clear c162b0);(try clear c163);(try clear c164);(try clear c165);(try clear c166);(try clear hcz100_0);(try clear hcz100_1);(try clear hcz100_2);(try clear hcz103_0);(try clear hcz103_1);(try clear hcz103_2);(try clear hcz123_0);(try clear hcz123_1);(try clear hcz123_2);(try clear hcz131_0);(try clear hcz131_1);(try clear hcz131_2);(try clear hcz148_0);(try clear hcz148_1);(try clear hcz148_2);(try clear hcz154_0);(try clear hcz154_1);(try clear hcz154_2);(try clear hcz161_0);(try clear hcz161_1);(try clear hcz161_2);(try clear hcz167_0);(try clear hcz167_1);(try clear hcz167_2);(try clear hcz16_0);(try clear hcz16_1);(try clear hcz16_2);(try clear hcz20_0);(try clear hcz20_1);(try clear hcz20_2);(try clear hcz21_0);(try clear hcz21_1);(try clear hcz21_2);(try clear hcz26_0);(try clear hcz26_1);(try clear hcz26_2);(try clear hcz37_0);(try clear hcz37_1);(try clear hcz37_2);(try clear hcz39_0);(try clear hcz39_1);(try clear hcz39_2);(try clear hcz52_0);(try clear hcz52_1);(try clear hcz52_2);(try clear hcz55_0);(try clear hcz55_1);(try clear hcz55_2);(try clear hcz73_0);(try clear hcz73_1);(try clear hcz73_2);(try clear hcz76_0);(try clear hcz76_1);(try clear hcz76_2);(try clear hcz88_0);(try clear hcz88_1);(try clear hcz88_2);(try clear hcz91_0);(try clear hcz91_1);(try clear hcz91_2);(try clear hfz100_0);(try clear hfz100_1);(try clear hfz100_2);(try clear hfz103_0);(try clear hfz103_1);(try clear hfz103_2);(try clear hfz123_0);(try clear hfz123_1);(try clear hfz123_2);(try clear hfz131_0);(try clear hfz131_1);(try clear hfz131_2);(try clear hfz148_0);(try clear hfz148_1);(try clear hfz148_2);(try clear hfz154_0);(try clear hfz154_1);(try clear hfz154_2);(try clear hfz161_0);(try clear hfz161_1);(try clear hfz161_2);(try clear hfz167_0);(try clear hfz167_1);(try clear hfz167_2);(try clear hfz16_0);(try clear hfz16_1);(try clear hfz16_2);(try clear hfz20_0);(try clear hfz20_1);(try clear hfz20_2);(try clear hfz21_0);(try clear hfz21_1);(try clear hfz21_2);(try clear hfz26_0);(try clear hfz26_1);(try clear hfz26_2);(try clear hfz37_0);(try clear hfz37_1);(try clear hfz37_2);(try clear hfz39_0);(try clear hfz39_1);(try clear hfz39_2);(try clear hfz52_0);(try clear hfz52_1);(try clear hfz52_2);(try clear hfz55_0);(try clear hfz55_1);(try clear hfz55_2);(try clear hfz73_0);(try clear hfz73_1);(try clear hfz73_2);(try clear hfz76_0);(try clear hfz76_1);(try clear hfz76_2);(try clear hfz88_0);(try clear hfz88_1);(try clear hfz88_2);(try clear hfz91_0);(try clear hfz91_1);(try clear hfz91_2);(try clear hx149_0);(try clear hx149_1);(try clear hx149_2);(try clear p1);(try clear p14);(try clear p149);(try clear p2);(try clear p6);(try clear p64);(try clear q1);(try clear q14);(try clear q149)
              obtain ⟨kq,x34_155,rfl,HA,HJ155,BK106,BK111,BK116,BK141,BK163,HB⟩ := hcut
              cases kq with
              | zero => exact absurd HA.out (by simp [laws_FnRepetition.j6])
              | succ kj155 =>
               have H := HA.out
               clear HA
               simp only [laws_FnRepetition.j6] at H
               replace H := Option.bind_eq_some_iff.mp H
               obtain ⟨⟨t164,t165,t166,t167⟩,A1680,H⟩ := H
               try dsimp only at H
               have A168 := Aside0.mk A1680
               clear A1680
               replace H := Option.bind_eq_some_iff.mp H
               obtain ⟨⟨t169,t170,t171,t172⟩,A1690,H⟩ := H
               try dsimp only at H
               have A169 := Aside0.mk A1690
               clear A1690
               have HC170 := Aside0.mk H
               clear H
               have hnb171 := NB163_106.out
               have hnc171 := NB106_163.out
               have hnb172 := NB163_111.out
               have hnc172 := NB111_163.out
               have hnb173 := NB163_116.out
               have hnc173 := NB116_163.out
               have hnb174 := NB163_141.out
               have hnc174 := NB141_163.out
               have hcz175_0 : wc.cell? ⟨gb163,0,none⟩ = some (.string x164000_4) := (blk_cell BK163.out 0).trans rfl
               have hcz175_1 : wc.cell? ⟨gb163,1,none⟩ = some (.int .i64 x164001_4) := (blk_cell BK163.out 1).trans rfl
               have hcz175_2 : wc.cell? ⟨gb163,2,none⟩ = some (.int .i64 x164002_4) := (blk_cell BK163.out 2).trans rfl
               have hfz175_0 := blk_frozen BK163.out 0
               have hfz175_1 := blk_frozen BK163.out 1
               have hfz175_2 := blk_frozen BK163.out 2
               go_upto_region 42 with (first|((with_reducible refine gate_callee (f := 6) rfl ?_);refine goesL_ (some 238) rfl rfl Try.func6 (by kernel_rfl) rfl #[.agg #[.string x164000_4,.int .i64 x164001_4,.int .i64 x164002_4],.int .i64 x34_155,.bool true] rfl (by (try simp only [List.map_toArray,List.map_cons,List.map_nil]);first|done | rfl | (simp only [List.length_drop,List.length_take];rfl)) ?_;(with_reducible refine (impl_AnswerCard.calls kj155 x164000_4 x164001_4 x164002_4 x34_155 true t164 t165 t166 t167 _ A168.out).mono ?_);rintro e w176 ⟨rfl,hb⟩;refine ⟨_,rfl,?_⟩;have n0_ := Aside0.mk (blk_below (g := gb106) (o := .cells #[.string t101,.int .i64 t102,.int .i64 t103] 24 (0,0)) (by (with_reducible repeat (first|apply zhA | apply zhB | apply zhC));exact BK106.out) hb);have n1_ := Aside0.mk (blk_below (g := gb111) (o := .cells #[.string t107,.int .i64 t108,.int .i64 t109] 24 (0,0)) (by (with_reducible repeat (first|apply zhA | apply zhB | apply zhC));exact BK111.out) hb);have n2_ := Aside0.mk (blk_below (g := gb116) (o := .cells #[.string t112,.int .i64 t113,.int .i64 t114] 24 (0,0)) (by (with_reducible repeat (first|apply zhA | apply zhB | apply zhC));exact BK116.out) hb);have n3_ := Aside0.mk (blk_below (g := gb141) (o := .cells #[.string t137,.int .i64 t138,.int .i64 t139] 24 (0,0)) (by (with_reducible repeat (first|apply zhA | apply zhB | apply zhC));exact BK141.out) hb);have n4_ := Aside0.mk (blk_below (g := gb163) (o := .cells #[.string x164000_4,.int .i64 x164001_4,.int .i64 x164002_4] 24 (0,0)) (by (with_reducible repeat (first|apply zhA | apply zhB | apply zhC));exact BK163.out) hb);have n5_ := Aside0.mk (below_step (by repeat (first|(with_reducible first|exact HB.out | apply zbA | apply zbB | apply zbC | refine below_set ?_ GE106.out | refine below_set ?_ GE111.out | refine below_set ?_ GE116.out | refine below_set ?_ GE141.out | refine below_set ?_ GE163.out) | exact HB.out)) hb);clear BK106;clear BK111;clear BK116;clear BK141;clear BK163;clear HB;have BK106 := n0_;have BK111 := n1_;have BK116 := n2_;have BK141 := n3_;have BK163 := n4_;have HB := n5_;clear n0_ n1_ n2_ n3_ n4_ n5_;(try clear hb))|((with_reducible refine gate_dst (N := 35) rfl ?_);(try (refine gate_guard (by rfl) ?_;dsimp only));refine box_event ?hg (N := 35) ?hd (cs := #[.string (⟨#[]⟩ : ByteArray),.int .i64 0,.int .i64 0]) (t := 24) ?hr ?_;(case hd => rfl);(case hg => rfl);(case hr => first|(go_simp;done)|(go_simp;rfl));intro gb168 hg w177 hbox hb;have n0_ := Aside0.mk (blk_below (g := gb106) (o := .cells #[.string t101,.int .i64 t102,.int .i64 t103] 24 (0,0)) (by (with_reducible repeat (first|apply zhA | apply zhB | apply zhC));exact BK106.out) hb);have n1_ := Aside0.mk (blk_below (g := gb111) (o := .cells #[.string t107,.int .i64 t108,.int .i64 t109] 24 (0,0)) (by (with_reducible repeat (first|apply zhA | apply zhB | apply zhC));exact BK111.out) hb);have n2_ := Aside0.mk (blk_below (g := gb116) (o := .cells #[.string t112,.int .i64 t113,.int .i64 t114] 24 (0,0)) (by (with_reducible repeat (first|apply zhA | apply zhB | apply zhC));exact BK116.out) hb);have n3_ := Aside0.mk (blk_below (g := gb141) (o := .cells #[.string t137,.int .i64 t138,.int .i64 t139] 24 (0,0)) (by (with_reducible repeat (first|apply zhA | apply zhB | apply zhC));exact BK141.out) hb);have n4_ := Aside0.mk (blk_below (g := gb163) (o := .cells #[.string x164000_4,.int .i64 x164001_4,.int .i64 x164002_4] 24 (0,0)) (by (with_reducible repeat (first|apply zhA | apply zhB | apply zhC));exact BK163.out) hb);have n5_ := Aside0.mk (below_step (by repeat (first|(with_reducible first|exact HB.out | apply zbA | apply zbB | apply zbC | refine below_set ?_ GE106.out | refine below_set ?_ GE111.out | refine below_set ?_ GE116.out | refine below_set ?_ GE141.out | refine below_set ?_ GE163.out) | exact HB.out)) hb);have n6_ := Aside0.mk (hbox);have n7_ := Aside0.mk ((by rw [hg];exact (below_size (by repeat (first|(with_reducible first|exact HB.out | apply zbA | apply zbB | apply zbC | refine below_set ?_ GE106.out | refine below_set ?_ GE111.out | refine below_set ?_ GE116.out | refine below_set ?_ GE141.out | refine below_set ?_ GE163.out) | exact HB.out))) : w.heap.size ≤ gb168));have n8_ := Aside0.mk ((by rw [hg];exact (below_size (by repeat (first|(with_reducible first|exact HB.out | apply zbA | apply zbB | apply zbC | refine below_set ?_ GE106.out | refine below_set ?_ GE111.out | refine below_set ?_ GE116.out | refine below_set ?_ GE141.out | refine below_set ?_ GE163.out) | exact HB.out))) : w.heap.size ≤ gb168));have n9_ := Aside0.mk ((by rw [hg];exact Nat.ne_of_lt (blk_lt (g := gb106) (o := .cells #[.string t101,.int .i64 t102,.int .i64 t103] 24 (0,0)) (by (with_reducible repeat (first|apply zhA | apply zhB | apply zhC));exact BK106.out)) : gb106 ≠ gb168));have n10_ := Aside0.mk ((by rw [hg];exact Nat.ne_of_gt (blk_lt (g := gb106) (o := .cells #[.string t101,.int .i64 t102,.int .i64 t103] 24 (0,0)) (by (with_reducible repeat (first|apply zhA | apply zhB | apply zhC));exact BK106.out)) : gb168 ≠ gb106));have n11_ := Aside0.mk ((by rw [hg];exact Nat.ne_of_lt (blk_lt (g := gb111) (o := .cells #[.string t107,.int .i64 t108,.int .i64 t109] 24 (0,0)) (by (with_reducible repeat (first|apply zhA | apply zhB | apply zhC));exact BK111.out)) : gb111 ≠ gb168));have n12_ := Aside0.mk ((by rw [hg];exact Nat.ne_of_gt (blk_lt (g := gb111) (o := .cells #[.string t107,.int .i64 t108,.int .i64 t109] 24 (0,0)) (by (with_reducible repeat (first|apply zhA | apply zhB | apply zhC));exact BK111.out)) : gb168 ≠ gb111));have n13_ := Aside0.mk ((by rw [hg];exact Nat.ne_of_lt (blk_lt (g := gb116) (o := .cells #[.string t112,.int .i64 t113,.int .i64 t114] 24 (0,0)) (by (with_reducible repeat (first|apply zhA | apply zhB | apply zhC));exact BK116.out)) : gb116 ≠ gb168));have n14_ := Aside0.mk ((by rw [hg];exact Nat.ne_of_gt (blk_lt (g := gb116) (o := .cells #[.string t112,.int .i64 t113,.int .i64 t114] 24 (0,0)) (by (with_reducible repeat (first|apply zhA | apply zhB | apply zhC));exact BK116.out)) : gb168 ≠ gb116));have n15_ := Aside0.mk ((by rw [hg];exact Nat.ne_of_lt (blk_lt (g := gb141) (o := .cells #[.string t137,.int .i64 t138,.int .i64 t139] 24 (0,0)) (by (with_reducible repeat (first|apply zhA | apply zhB | apply zhC));exact BK141.out)) : gb141 ≠ gb168));have n16_ := Aside0.mk ((by rw [hg];exact Nat.ne_of_gt (blk_lt (g := gb141) (o := .cells #[.string t137,.int .i64 t138,.int .i64 t139] 24 (0,0)) (by (with_reducible repeat (first|apply zhA | apply zhB | apply zhC));exact BK141.out)) : gb168 ≠ gb141));have n17_ := Aside0.mk ((by rw [hg];exact Nat.ne_of_lt (blk_lt (g := gb163) (o := .cells #[.string x164000_4,.int .i64 x164001_4,.int .i64 x164002_4] 24 (0,0)) (by (with_reducible repeat (first|apply zhA | apply zhB | apply zhC));exact BK163.out)) : gb163 ≠ gb168));have n18_ := Aside0.mk ((by rw [hg];exact Nat.ne_of_gt (blk_lt (g := gb163) (o := .cells #[.string x164000_4,.int .i64 x164001_4,.int .i64 x164002_4] 24 (0,0)) (by (with_reducible repeat (first|apply zhA | apply zhB | apply zhC));exact BK163.out)) : gb168 ≠ gb163));clear BK106;clear BK111;clear BK116;clear BK141;clear BK163;clear HB;have BK106 := n0_;have BK111 := n1_;have BK116 := n2_;have BK141 := n3_;have BK163 := n4_;have HB := n5_;have BK168 := n6_;have GW168 := n7_;have GE168 := n8_;have NB106_168 := n9_;have NB168_106 := n10_;have NB111_168 := n11_;have NB168_111 := n12_;have NB116_168 := n13_;have NB168_116 := n14_;have NB141_168 := n15_;have NB168_141 := n16_;have NB163_168 := n17_;have NB168_163 := n18_;clear n0_ n1_ n2_ n3_ n4_ n5_ n6_ n7_ n8_ n9_ n10_ n11_ n12_ n13_ n14_ n15_ n16_ n17_ n18_;clear hb hbox hg;have hnb178 := NB168_106.out;have hnc178 := NB106_168.out;have hnb179 := NB168_111.out;have hnc179 := NB111_168.out;have hnb180 := NB168_116.out;have hnc180 := NB116_168.out;have hnb181 := NB168_141.out;have hnc181 := NB141_168.out;have hnb182 := NB168_163.out;have hnc182 := NB163_168.out;have hcz183_0 : w177.cell? ⟨gb168,0,none⟩ = some (.string (⟨#[]⟩ : ByteArray)) := (blk_cell BK168.out 0).trans rfl;have hcz183_1 : w177.cell? ⟨gb168,1,none⟩ = some (.int .i64 0) := (blk_cell BK168.out 1).trans rfl;have hcz183_2 : w177.cell? ⟨gb168,2,none⟩ = some (.int .i64 0) := (blk_cell BK168.out 2).trans rfl;have hfz183_0 := blk_frozen BK168.out 0;have hfz183_1 := blk_frozen BK168.out 1;have hfz183_2 := blk_frozen BK168.out 2;have hcz184_0 : w177.cell? ⟨gb163,0,none⟩ = some (.string x164000_4) := (blk_cell BK163.out 0).trans rfl;have hcz184_1 : w177.cell? ⟨gb163,1,none⟩ = some (.int .i64 x164001_4) := (blk_cell BK163.out 1).trans rfl;have hcz184_2 : w177.cell? ⟨gb163,2,none⟩ = some (.int .i64 x164002_4) := (blk_cell BK163.out 2).trans rfl;have hfz184_0 := blk_frozen BK163.out 0;have hfz184_1 := blk_frozen BK163.out 1;have hfz184_2 := blk_frozen BK163.out 2)|((with_reducible refine gate_callee (f := 7) rfl ?_);refine goesL_ (some 244) rfl rfl Try.func7 (by kernel_rfl) rfl #[.agg #[.string x164000_4,.int .i64 x164001_4,.int .i64 x164002_4],.int .i64 x34_155,.bool true] rfl (by (try simp only [List.map_toArray,List.map_cons,List.map_nil]);first|done | rfl | (simp only [List.length_drop,List.length_take];rfl)) ?_;(with_reducible refine (spec_AnswerCard.calls kj155 x164000_4 x164001_4 x164002_4 x34_155 true t169 t170 t171 t172 _ A169.out).mono ?_);rintro e w185 ⟨rfl,hb⟩;refine ⟨_,rfl,?_⟩;have n0_ := Aside0.mk (blk_below (g := gb106) (o := .cells #[.string t101,.int .i64 t102,.int .i64 t103] 24 (0,0)) (by (with_reducible repeat (first|apply zhA | apply zhB | apply zhC));refine blk_far ?_ NB106_168.out _;(with_reducible repeat (first|apply zhA | apply zhB | apply zhC));refine blk_far ?_ NB106_168.out _;(with_reducible repeat (first|apply zhA | apply zhB | apply zhC));refine blk_far ?_ NB106_168.out _;(with_reducible repeat (first|apply zhA | apply zhB | apply zhC));exact BK106.out) hb);have n1_ := Aside0.mk (blk_below (g := gb111) (o := .cells #[.string t107,.int .i64 t108,.int .i64 t109] 24 (0,0)) (by (with_reducible repeat (first|apply zhA | apply zhB | apply zhC));refine blk_far ?_ NB111_168.out _;(with_reducible repeat (first|apply zhA | apply zhB | apply zhC));refine blk_far ?_ NB111_168.out _;(with_reducible repeat (first|apply zhA | apply zhB | apply zhC));refine blk_far ?_ NB111_168.out _;(with_reducible repeat (first|apply zhA | apply zhB | apply zhC));exact BK111.out) hb);have n2_ := Aside0.mk (blk_below (g := gb116) (o := .cells #[.string t112,.int .i64 t113,.int .i64 t114] 24 (0,0)) (by (with_reducible repeat (first|apply zhA | apply zhB | apply zhC));refine blk_far ?_ NB116_168.out _;(with_reducible repeat (first|apply zhA | apply zhB | apply zhC));refine blk_far ?_ NB116_168.out _;(with_reducible repeat (first|apply zhA | apply zhB | apply zhC));refine blk_far ?_ NB116_168.out _;(with_reducible repeat (first|apply zhA | apply zhB | apply zhC));exact BK116.out) hb);have n3_ := Aside0.mk (blk_below (g := gb141) (o := .cells #[.string t137,.int .i64 t138,.int .i64 t139] 24 (0,0)) (by (with_reducible repeat (first|apply zhA | apply zhB | apply zhC));refine blk_far ?_ NB141_168.out _;(with_reducible repeat (first|apply zhA | apply zhB | apply zhC));refine blk_far ?_ NB141_168.out _;(with_reducible repeat (first|apply zhA | apply zhB | apply zhC));refine blk_far ?_ NB141_168.out _;(with_reducible repeat (first|apply zhA | apply zhB | apply zhC));exact BK141.out) hb);have n4_ := Aside0.mk (blk_below (g := gb163) (o := .cells #[.string x164000_4,.int .i64 x164001_4,.int .i64 x164002_4] 24 (0,0)) (by (with_reducible repeat (first|apply zhA | apply zhB | apply zhC));refine blk_far ?_ NB163_168.out _;(with_reducible repeat (first|apply zhA | apply zhB | apply zhC));refine blk_far ?_ NB163_168.out _;(with_reducible repeat (first|apply zhA | apply zhB | apply zhC));refine blk_far ?_ NB163_168.out _;(with_reducible repeat (first|apply zhA | apply zhB | apply zhC));exact BK163.out) hb);have n5_ := Aside0.mk (blk_below (g := gb168) (o := .cells #[.string t164,.int .i64 t165,.int .i64 t166] 24 (0,0)) (by (with_reducible repeat (first|apply zhA | apply zhB | apply zhC));refine blk_put (cs := #[.string t164,.int .i64 t165,.int .i64 0]) ?_ 2 _ rfl;(with_reducible repeat (first|apply zhA | apply zhB | apply zhC));refine blk_put (cs := #[.string t164,.int .i64 0,.int .i64 0]) ?_ 1 _ rfl;(with_reducible repeat (first|apply zhA | apply zhB | apply zhC));refine blk_put (cs := #[.string (⟨#[]⟩ : ByteArray),.int .i64 0,.int .i64 0]) ?_ 0 _ rfl;(with_reducible repeat (first|apply zhA | apply zhB | apply zhC));exact BK168.out) hb);have n6_ := Aside0.mk (below_step (by repeat (first|(with_reducible first|exact HB.out | apply zbA | apply zbB | apply zbC | refine below_set ?_ GE106.out | refine below_set ?_ GE111.out | refine below_set ?_ GE116.out | refine below_set ?_ GE141.out | refine below_set ?_ GE163.out | refine below_set ?_ GE168.out) | exact HB.out)) hb);clear BK106;clear BK111;clear BK116;clear BK141;clear BK163;clear BK168;clear HB;have BK106 := n0_;have BK111 := n1_;have BK116 := n2_;have BK141 := n3_;have BK163 := n4_;have BK168 := n5_;have HB := n6_;clear n0_ n1_ n2_ n3_ n4_ n5_ n6_;(try clear hb))|((with_reducible refine gate_dst (N := 37) rfl ?_);(try (refine gate_guard (by rfl) ?_;dsimp only));refine box_event ?hg (N := 37) ?hd (cs := #[.string (⟨#[]⟩ : ByteArray),.int .i64 0,.int .i64 0]) (t := 24) ?hr ?_;(case hd => rfl);(case hg => rfl);(case hr => first|(go_simp;done)|(go_simp;rfl));intro gb173 hg w186 hbox hb;have n0_ := Aside0.mk (blk_below (g := gb106) (o := .cells #[.string t101,.int .i64 t102,.int .i64 t103] 24 (0,0)) (by (with_reducible repeat (first|apply zhA | apply zhB | apply zhC));exact BK106.out) hb);have n1_ := Aside0.mk (blk_below (g := gb111) (o := .cells #[.string t107,.int .i64 t108,.int .i64 t109] 24 (0,0)) (by (with_reducible repeat (first|apply zhA | apply zhB | apply zhC));exact BK111.out) hb);have n2_ := Aside0.mk (blk_below (g := gb116) (o := .cells #[.string t112,.int .i64 t113,.int .i64 t114] 24 (0,0)) (by (with_reducible repeat (first|apply zhA | apply zhB | apply zhC));exact BK116.out) hb);have n3_ := Aside0.mk (blk_below (g := gb141) (o := .cells #[.string t137,.int .i64 t138,.int .i64 t139] 24 (0,0)) (by (with_reducible repeat (first|apply zhA | apply zhB | apply zhC));exact BK141.out) hb);have n4_ := Aside0.mk (blk_below (g := gb163) (o := .cells #[.string x164000_4,.int .i64 x164001_4,.int .i64 x164002_4] 24 (0,0)) (by (with_reducible repeat (first|apply zhA | apply zhB | apply zhC));exact BK163.out) hb);have n5_ := Aside0.mk (blk_below (g := gb168) (o := .cells #[.string t164,.int .i64 t165,.int .i64 t166] 24 (0,0)) (by (with_reducible repeat (first|apply zhA | apply zhB | apply zhC));exact BK168.out) hb);have n6_ := Aside0.mk (below_step (by repeat (first|(with_reducible first|exact HB.out | apply zbA | apply zbB | apply zbC | refine below_set ?_ GE106.out | refine below_set ?_ GE111.out | refine below_set ?_ GE116.out | refine below_set ?_ GE141.out | refine below_set ?_ GE163.out | refine below_set ?_ GE168.out) | exact HB.out)) hb);have n7_ := Aside0.mk (hbox);have n8_ := Aside0.mk ((by rw [hg];exact (below_size (by repeat (first|(with_reducible first|exact HB.out | apply zbA | apply zbB | apply zbC | refine below_set ?_ GE106.out | refine below_set ?_ GE111.out | refine below_set ?_ GE116.out | refine below_set ?_ GE141.out | refine below_set ?_ GE163.out | refine below_set ?_ GE168.out) | exact HB.out))) : w.heap.size ≤ gb173));have n9_ := Aside0.mk ((by rw [hg];exact (below_size (by repeat (first|(with_reducible first|exact HB.out | apply zbA | apply zbB | apply zbC | refine below_set ?_ GE106.out | refine below_set ?_ GE111.out | refine below_set ?_ GE116.out | refine below_set ?_ GE141.out | refine below_set ?_ GE163.out | refine below_set ?_ GE168.out) | exact HB.out))) : w.heap.size ≤ gb173));have n10_ := Aside0.mk ((by rw [hg];exact Nat.ne_of_lt (blk_lt (g := gb106) (o := .cells #[.string t101,.int .i64 t102,.int .i64 t103] 24 (0,0)) (by (with_reducible repeat (first|apply zhA | apply zhB | apply zhC));exact BK106.out)) : gb106 ≠ gb173));have n11_ := Aside0.mk ((by rw [hg];exact Nat.ne_of_gt (blk_lt (g := gb106) (o := .cells #[.string t101,.int .i64 t102,.int .i64 t103] 24 (0,0)) (by (with_reducible repeat (first|apply zhA | apply zhB | apply zhC));exact BK106.out)) : gb173 ≠ gb106));have n12_ := Aside0.mk ((by rw [hg];exact Nat.ne_of_lt (blk_lt (g := gb111) (o := .cells #[.string t107,.int .i64 t108,.int .i64 t109] 24 (0,0)) (by (with_reducible repeat (first|apply zhA | apply zhB | apply zhC));exact BK111.out)) : gb111 ≠ gb173));have n13_ := Aside0.mk ((by rw [hg];exact Nat.ne_of_gt (blk_lt (g := gb111) (o := .cells #[.string t107,.int .i64 t108,.int .i64 t109] 24 (0,0)) (by (with_reducible repeat (first|apply zhA | apply zhB | apply zhC));exact BK111.out)) : gb173 ≠ gb111));have n14_ := Aside0.mk ((by rw [hg];exact Nat.ne_of_lt (blk_lt (g := gb116) (o := .cells #[.string t112,.int .i64 t113,.int .i64 t114] 24 (0,0)) (by (with_reducible repeat (first|apply zhA | apply zhB | apply zhC));exact BK116.out)) : gb116 ≠ gb173));have n15_ := Aside0.mk ((by rw [hg];exact Nat.ne_of_gt (blk_lt (g := gb116) (o := .cells #[.string t112,.int .i64 t113,.int .i64 t114] 24 (0,0)) (by (with_reducible repeat (first|apply zhA | apply zhB | apply zhC));exact BK116.out)) : gb173 ≠ gb116));have n16_ := Aside0.mk ((by rw [hg];exact Nat.ne_of_lt (blk_lt (g := gb141) (o := .cells #[.string t137,.int .i64 t138,.int .i64 t139] 24 (0,0)) (by (with_reducible repeat (first|apply zhA | apply zhB | apply zhC));exact BK141.out)) : gb141 ≠ gb173));have n17_ := Aside0.mk ((by rw [hg];exact Nat.ne_of_gt (blk_lt (g := gb141) (o := .cells #[.string t137,.int .i64 t138,.int .i64 t139] 24 (0,0)) (by (with_reducible repeat (first|apply zhA | apply zhB | apply zhC));exact BK141.out)) : gb173 ≠ gb141));have n18_ := Aside0.mk ((by rw [hg];exact Nat.ne_of_lt (blk_lt (g := gb163) (o := .cells #[.string x164000_4,.int .i64 x164001_4,.int .i64 x164002_4] 24 (0,0)) (by (with_reducible repeat (first|apply zhA | apply zhB | apply zhC));exact BK163.out)) : gb163 ≠ gb173));have n19_ := Aside0.mk ((by rw [hg];exact Nat.ne_of_gt (blk_lt (g := gb163) (o := .cells #[.string x164000_4,.int .i64 x164001_4,.int .i64 x164002_4] 24 (0,0)) (by (with_reducible repeat (first|apply zhA | apply zhB | apply zhC));exact BK163.out)) : gb173 ≠ gb163));have n20_ := Aside0.mk ((by rw [hg];exact Nat.ne_of_lt (blk_lt (g := gb168) (o := .cells #[.string t164,.int .i64 t165,.int .i64 t166] 24 (0,0)) (by (with_reducible repeat (first|apply zhA | apply zhB | apply zhC));exact BK168.out)) : gb168 ≠ gb173));have n21_ := Aside0.mk ((by rw [hg];exact Nat.ne_of_gt (blk_lt (g := gb168) (o := .cells #[.string t164,.int .i64 t165,.int .i64 t166] 24 (0,0)) (by (with_reducible repeat (first|apply zhA | apply zhB | apply zhC));exact BK168.out)) : gb173 ≠ gb168));clear BK106;clear BK111;clear BK116;clear BK141;clear BK163;clear BK168;clear HB;have BK106 := n0_;have BK111 := n1_;have BK116 := n2_;have BK141 := n3_;have BK163 := n4_;have BK168 := n5_;have HB := n6_;have BK173 := n7_;have GW173 := n8_;have GE173 := n9_;have NB106_173 := n10_;have NB173_106 := n11_;have NB111_173 := n12_;have NB173_111 := n13_;have NB116_173 := n14_;have NB173_116 := n15_;have NB141_173 := n16_;have NB173_141 := n17_;have NB163_173 := n18_;have NB173_163 := n19_;have NB168_173 := n20_;have NB173_168 := n21_;clear n0_ n1_ n2_ n3_ n4_ n5_ n6_ n7_ n8_ n9_ n10_ n11_ n12_ n13_ n14_ n15_ n16_ n17_ n18_ n19_ n20_ n21_;clear hb hbox hg;have hnb187 := NB173_106.out;have hnc187 := NB106_173.out;have hnb188 := NB173_111.out;have hnc188 := NB111_173.out;have hnb189 := NB173_116.out;have hnc189 := NB116_173.out;have hnb190 := NB173_141.out;have hnc190 := NB141_173.out;have hnb191 := NB173_163.out;have hnc191 := NB163_173.out;have hnb192 := NB173_168.out;have hnc192 := NB168_173.out;have hcz193_0 : w186.cell? ⟨gb173,0,none⟩ = some (.string (⟨#[]⟩ : ByteArray)) := (blk_cell BK173.out 0).trans rfl;have hcz193_1 : w186.cell? ⟨gb173,1,none⟩ = some (.int .i64 0) := (blk_cell BK173.out 1).trans rfl;have hcz193_2 : w186.cell? ⟨gb173,2,none⟩ = some (.int .i64 0) := (blk_cell BK173.out 2).trans rfl;have hfz193_0 := blk_frozen BK173.out 0;have hfz193_1 := blk_frozen BK173.out 1;have hfz193_2 := blk_frozen BK173.out 2))
               (try simp only [Act.put,List.setIfInBounds_toArray,List.set_cons_zero,List.set_cons_succ])
               go_cut [254] (fun v254 wc => ∃ (kq : Nat) (x254_169 : Bool),v254 = .bool x254_169 ∧ Aside0 (laws_FnRepetition.j7 kq t144 x34_155 t172 x254_169 x164000_4 x164001_4 x164002_4 t169 t170 t171 = some r) ∧ Aside0 (kq ≤ kj155) ∧ Aside0 (wc.heap[gb106]? = some (.cells #[.string t101,.int .i64 t102,.int .i64 t103] 24 (0,0))) ∧ Aside0 (wc.heap[gb111]? = some (.cells #[.string t107,.int .i64 t108,.int .i64 t109] 24 (0,0))) ∧ Aside0 (wc.heap[gb116]? = some (.cells #[.string t112,.int .i64 t113,.int .i64 t114] 24 (0,0))) ∧ Aside0 (wc.heap[gb141]? = some (.cells #[.string t137,.int .i64 t138,.int .i64 t139] 24 (0,0))) ∧ Aside0 (wc.heap[gb163]? = some (.cells #[.string x164000_4,.int .i64 x164001_4,.int .i64 x164002_4] 24 (0,0))) ∧ Aside0 (wc.heap[gb168]? = some (.cells #[.string t164,.int .i64 t165,.int .i64 t166] 24 (0,0))) ∧ Aside0 (wc.heap[gb173]? = some (.cells #[.string t169,.int .i64 t170,.int .i64 t171] 24 (0,0))) ∧ Aside0 (Below w.heap.size w wc))
               case first =>
                have H := HC170.out
                clear HC170
                by_cases c194 : (t167 != t172) = true
                ·rw [if_pos c194] at H
                 exact absurd H (by simp)
                ·rw [if_neg c194] at H
                 have c194b0 : (t167 != t172) = false := by simpa using c194
                 (try (have c194b1 : decide (t167 = t172) = true := by simpa using c194))
                 (try (have c194b2 : (t167 == t172) = true := by simpa using c194))
                 clear c194
                 (first|rw [c194b0] | (simp only [i64_w,i32_w];rw [c194b0]) | skip)
                 as_aux_lemma =>
                  have H' := Aside0.mk H
                  clear H
                  have hnb195 := NB168_106.out
                  have hnc195 := NB106_168.out
                  have hnb196 := NB168_111.out
                  have hnc196 := NB111_168.out
                  have hnb197 := NB168_116.out
                  have hnc197 := NB116_168.out
                  have hnb198 := NB168_141.out
                  have hnc198 := NB141_168.out
                  have hnb199 := NB168_163.out
                  have hnc199 := NB163_168.out
                  have hnb200 := NB168_173.out
                  have hnc200 := NB173_168.out
                  have hcz201_0 : w186.cell? ⟨gb168,0,none⟩ = some (.string t164) := (blk_cell BK168.out 0).trans rfl
                  have hcz201_1 : w186.cell? ⟨gb168,1,none⟩ = some (.int .i64 t165) := (blk_cell BK168.out 1).trans rfl
                  have hcz201_2 : w186.cell? ⟨gb168,2,none⟩ = some (.int .i64 t166) := (blk_cell BK168.out 2).trans rfl
                  have hfz201_0 := blk_frozen BK168.out 0
                  have hfz201_1 := blk_frozen BK168.out 1
                  have hfz201_2 := blk_frozen BK168.out 2
                  have hnb202 := NB173_106.out
                  have hnc202 := NB106_173.out
                  have hnb203 := NB173_111.out
                  have hnc203 := NB111_173.out
                  have hnb204 := NB173_116.out
                  have hnc204 := NB116_173.out
                  have hnb205 := NB173_141.out
                  have hnc205 := NB141_173.out
                  have hnb206 := NB173_163.out
                  have hnc206 := NB163_173.out
                  have hcz207_0 : w186.cell? ⟨gb173,0,none⟩ = some (.string (⟨#[]⟩ : ByteArray)) := (blk_cell BK173.out 0).trans rfl
                  have hcz207_1 : w186.cell? ⟨gb173,1,none⟩ = some (.int .i64 0) := (blk_cell BK173.out 1).trans rfl
                  have hcz207_2 : w186.cell? ⟨gb173,2,none⟩ = some (.int .i64 0) := (blk_cell BK173.out 2).trans rfl
                  have hfz207_0 := blk_frozen BK173.out 0
                  have hfz207_1 := blk_frozen BK173.out 1
                  have hfz207_2 := blk_frozen BK173.out 2
                  go_wp2
                  go_meet
                  case rel => exact ⟨_,((!(t164.toList == t169.toList) || (!(t165 == t170) || (!(t166 == t171))))),(by first|rfl | (simp;done)|(simp [*];done)),H',⟨by have := HJ12.out;have := HJ60.out;have := HJ103.out;have := HK4.out;have := HJ155.out;first|omega | exact Nat.le_refl _⟩,⟨by (with_reducible repeat (first|apply zhA | apply zhB | apply zhC));refine blk_far ?_ NB106_173.out _;(with_reducible repeat (first|apply zhA | apply zhB | apply zhC));refine blk_far ?_ NB106_173.out _;(with_reducible repeat (first|apply zhA | apply zhB | apply zhC));refine blk_far ?_ NB106_173.out _;(with_reducible repeat (first|apply zhA | apply zhB | apply zhC));exact BK106.out⟩,⟨by (with_reducible repeat (first|apply zhA | apply zhB | apply zhC));refine blk_far ?_ NB111_173.out _;(with_reducible repeat (first|apply zhA | apply zhB | apply zhC));refine blk_far ?_ NB111_173.out _;(with_reducible repeat (first|apply zhA | apply zhB | apply zhC));refine blk_far ?_ NB111_173.out _;(with_reducible repeat (first|apply zhA | apply zhB | apply zhC));exact BK111.out⟩,⟨by (with_reducible repeat (first|apply zhA | apply zhB | apply zhC));refine blk_far ?_ NB116_173.out _;(with_reducible repeat (first|apply zhA | apply zhB | apply zhC));refine blk_far ?_ NB116_173.out _;(with_reducible repeat (first|apply zhA | apply zhB | apply zhC));refine blk_far ?_ NB116_173.out _;(with_reducible repeat (first|apply zhA | apply zhB | apply zhC));exact BK116.out⟩,⟨by (with_reducible repeat (first|apply zhA | apply zhB | apply zhC));refine blk_far ?_ NB141_173.out _;(with_reducible repeat (first|apply zhA | apply zhB | apply zhC));refine blk_far ?_ NB141_173.out _;(with_reducible repeat (first|apply zhA | apply zhB | apply zhC));refine blk_far ?_ NB141_173.out _;(with_reducible repeat (first|apply zhA | apply zhB | apply zhC));exact BK141.out⟩,⟨by (with_reducible repeat (first|apply zhA | apply zhB | apply zhC));refine blk_far ?_ NB163_173.out _;(with_reducible repeat (first|apply zhA | apply zhB | apply zhC));refine blk_far ?_ NB163_173.out _;(with_reducible repeat (first|apply zhA | apply zhB | apply zhC));refine blk_far ?_ NB163_173.out _;(with_reducible repeat (first|apply zhA | apply zhB | apply zhC));exact BK163.out⟩,⟨by (with_reducible repeat (first|apply zhA | apply zhB | apply zhC));refine blk_far ?_ NB168_173.out _;(with_reducible repeat (first|apply zhA | apply zhB | apply zhC));refine blk_far ?_ NB168_173.out _;(with_reducible repeat (first|apply zhA | apply zhB | apply zhC));refine blk_far ?_ NB168_173.out _;(with_reducible repeat (first|apply zhA | apply zhB | apply zhC));exact BK168.out⟩,⟨by (with_reducible repeat (first|apply zhA | apply zhB | apply zhC));refine blk_put (cs := #[.string t169,.int .i64 t170,.int .i64 0]) ?_ 2 _ rfl;(with_reducible repeat (first|apply zhA | apply zhB | apply zhC));refine blk_put (cs := #[.string t169,.int .i64 0,.int .i64 0]) ?_ 1 _ rfl;(with_reducible repeat (first|apply zhA | apply zhB | apply zhC));refine blk_put (cs := #[.string (⟨#[]⟩ : ByteArray),.int .i64 0,.int .i64 0]) ?_ 0 _ rfl;(with_reducible repeat (first|apply zhA | apply zhB | apply zhC));exact BK173.out⟩,⟨by repeat (first|(with_reducible first|exact HB.out | apply zbA | apply zbB | apply zbC | refine below_set ?_ GE106.out | refine below_set ?_ GE111.out | refine below_set ?_ GE116.out | refine below_set ?_ GE141.out | refine below_set ?_ GE163.out | refine below_set ?_ GE168.out | refine below_set ?_ GE173.out) | exact HB.out)⟩⟩
               case rest =>
                clear HC170
                (try clear c1);(try clear p1);(try clear q1);(try clear hx1);(try clear c2);(try clear p2);(try clear c3);(try clear c3b0);(try clear c4);(try clear c5);(try clear c6);(try clear p6);(try clear c7);(try clear c8);(try clear c9);(try clear c10);(try clear c11);(try clear c12);(try clear c13);(try clear c14);(try clear p14);(try clear q14);(try clear hx14);(try clear c15);(try clear c16);(try clear c17);(try clear c18);(try clear c19);(try clear c20);(try clear c24);(try clear c25);(try clear c34);(try clear c35);(try clear c36);(try clear c41);(try clear c41b0);(try clear c41b1);(try clear c41b2);(try clear c42);(try clear c42b0);(try clear c43);(try clear c43b0);(try clear c43b1);(try clear c43b2);(try clear c45);(try clear c47);(try clear c48);(try clear c48b0);(try clear c48b1);(try clear c48b2);(try clear c49);(try clear c50);(try clear c51);(try clear c53);(try clear c54);(try clear c60);(try clear c62);(try clear c63);(try clear c64);(try clear c64b0);(try clear p64);(try clear c65);(try clear c65b0);(try clear c65b1);(try clear c66);(try clear c66b0);(try clear c66b1);(try clear c67);(try clear c67b0);(try clear c68);(try clear c68b0);(try clear c69);(try clear c69b0);(try clear c69b1);(try clear c70);(try clear c71);(try clear c72);(try clear c74);(try clear c75);(try clear c77);(try clear c77b0);(try clear c77b1);(try clear c78);(try clear c78b0);(try clear c78b1);(try clear c79);(try clear c79b0);(try clear c80);(try clear c80b0);(try clear c82);(try clear c82b0);(try clear c82b1);(try clear c84);(try clear c84b0);(try clear c84b1);(try clear c85);(try clear c86);(try clear c87);(try clear c89);(try clear c90);(try clear c92);(try clear c92b0);(try clear c92b1);(try clear c93);(try clear c93b0);(try clear c93b1);(try clear c94);(try clear c94b0);(try clear c95);(try clear c95b0);(try clear c96);(try clear c96b0);(try clear c96b1);(try clear c97);(try clear c98);(try clear c99);(try clear c101);(try clear c102);(try clear c105);(try clear c107);(try clear c107b0);(try clear c107b1);(try clear c107b2);(try clear c112);(try clear c113);(try clear c113b0);(try clear c114);(try clear c114b0);(try clear c115);(try clear c115b0);(try clear c117);(try clear c119);(try clear c120);(try clear c121);(try clear c122);(try clear c125);(try clear c127);(try clear c128);(try clear c129);(try clear c130);(try clear c135);(try clear c136);(try clear c136b0);(try clear c136b1);(try clear c138);(try clear c144);(try clear c145);(try clear c146);(try clear c147);(try clear p149);(try clear q149);(try clear hx149);(try clear c150);(try clear c151);(try clear c152);(try clear c153);(try clear c155);(try clear c155b0);(try clear c157);(try clear c158);(try clear c159);(try clear c160);(try clear c162);(try clear c162b0);(try clear c163);(try clear c164);(try clear c165);(try clear c166);(try clear c171);(try clear c172);(try clear c173);(try clear c174);(try clear c178);(try clear c179);(try clear c180);(try clear c181);(try clear c182);(try clear c187);(try clear c188);(try clear c189);(try clear c190);(try clear c191);(try clear c192);(try clear c194);(try clear c194b0);(try clear c194b1);(try clear c194b2);(try clear c195);(try clear c196);(try clear c197);(try clear c198);(try clear c199);(try clear c200);(try clear c202);(try clear c203);(try clear c204);(try clear c205);(try clear c206);(try clear hcz100_0);(try clear hcz100_1);(try clear hcz100_2);(try clear hcz103_0);(try clear hcz103_1);(try clear hcz103_2);(try clear hcz123_0);(try clear hcz123_1);(try clear hcz123_2);(try clear hcz131_0);(try clear hcz131_1);(try clear hcz131_2);(try clear hcz148_0);(try clear hcz148_1);(try clear hcz148_2);(try clear hcz154_0);(try clear hcz154_1);(try clear hcz154_2);(try clear hcz161_0);(try clear hcz161_1);(try clear hcz161_2);(try clear hcz167_0);(try clear hcz167_1);(try clear hcz167_2);(try clear hcz16_0);(try clear hcz16_1);(try clear hcz16_2);(try clear hcz175_0);(try clear hcz175_1);(try clear hcz175_2);(try clear hcz183_0);(try clear hcz183_1);(try clear hcz183_2);(try clear hcz184_0);(try clear hcz184_1);(try clear hcz184_2);(try clear hcz193_0);(try clear hcz193_1);(try clear hcz193_2);(try clear hcz201_0);(try clear hcz201_1);(try clear hcz201_2);(try clear hcz207_0);(try clear hcz207_1);(try clear hcz207_2);(try clear hcz20_0);(try clear hcz20_1);(try clear hcz20_2);(try clear hcz21_0);(try clear hcz21_1);(try clear hcz21_2);(try clear hcz26_0);(try clear hcz26_1);(try clear hcz26_2);(try clear hcz37_0);(try clear hcz37_1);(try clear hcz37_2);(try clear hcz39_0);(try clear hcz39_1);(try clear hcz39_2);(try clear hcz52_0);(try clear hcz52_1);(try clear hcz52_2);(try clear hcz55_0);(try clear hcz55_1);(try clear hcz55_2);(try clear hcz73_0);(try clear hcz73_1);(try clear hcz73_2);(try clear hcz76_0);(try clear hcz76_1);(try clear hcz76_2);(try clear hcz88_0);(try clear hcz88_1);(try clear hcz88_2);(try clear hcz91_0);(try clear hcz91_1);(try clear hcz91_2);(try clear hfz100_0);(try clear hfz100_1);(try clear hfz100_2);(try clear hfz103_0);(try clear hfz103_1);(try clear hfz103_2);(try clear hfz123_0);(try clear hfz123_1);(try clear hfz123_2);(try clear hfz131_0);(try clear hfz131_1);(try clear hfz131_2);(try clear hfz148_0);(try clear hfz148_1);(try clear hfz148_2);(try clear hfz154_0);(try clear hfz154_1);(try clear hfz154_2);(try clear hfz161_0);(try clear hfz161_1);(try clear hfz161_2);(try clear hfz167_0);(try clear hfz167_1);(try clear hfz167_2);(try clear hfz16_0);(try clear hfz16_1);(try clear hfz16_2);(try clear hfz175_0);(try clear hfz175_1);(try clear hfz175_2);(try clear hfz183_0);(try clear hfz183_1);(try clear hfz183_2);(try clear hfz184_0);(try clear hfz184_1);(try clear hfz184_2);(try clear hfz193_0);(try clear hfz193_1);(try clear hfz193_2);(try clear hfz201_0);(try clear hfz201_1);(try clear hfz201_2);(try clear hfz207_0);(try clear hfz207_1);(try clear hfz207_2);(try clear hfz20_0);(try clear hfz20_1);(try clear hfz20_2);(try clear hfz21_0);(try clear hfz21_1);(try clear hfz21_2);(try clear hfz26_0);(try clear hfz26_1);(try clear hfz26_2);(try clear hfz37_0);(try clear hfz37_1);(try clear hfz37_2);(try clear hfz39_0);(try clear hfz39_1);(try clear hfz39_2);(try clear hfz52_0);(try clear hfz52_1);(try clear hfz52_2);(try clear hfz55_0);(try clear hfz55_1);(try clear hfz55_2);(try clear hfz73_0);(try clear hfz73_1);(try clear hfz73_2);(try clear hfz76_0);(try clear hfz76_1);(try clear hfz76_2);(try clear hfz88_0);(try clear hfz88_1);(try clear hfz88_2);(try clear hfz91_0);(try clear hfz91_1);(try clear hfz91_2);(try clear hx149_0);(try clear hx149_1);(try clear hx149_2);(try clear p1);(try clear p14);(try clear p149);(try clear p2);(try clear p6);(try clear p64);(try clear q1);(try clear q14);(try clear q149)
                obtain ⟨kq,x254_169,rfl,HA,HJ169,BK106,BK111,BK116,BK141,BK163,BK168,BK173,HB⟩ := hcut
                cases kq with
                | zero => exact absurd HA.out (by simp [laws_FnRepetition.j7])
                | succ kj169 =>
                 have H := HA.out
                 clear HA
                 simp only [laws_FnRepetition.j7] at H
                 by_cases c208 : x254_169 = true
                 ·subst c208
                  rw [if_pos rfl] at H
                  exact absurd H (by simp)
                 ·replace c208 := Bool.eq_false_iff.mpr c208
                  subst c208
                  rw [if_neg (show ¬ (false = true) by decide)] at H
                  by_cases c209 : t172 = true
                  ·subst c209
                   rw [if_pos rfl] at H
                   as_aux_lemma =>
                    have H' := Aside0.mk H
                    clear H
                    have hnb210 := NB173_106.out
                    have hnc210 := NB106_173.out
                    have hnb211 := NB173_111.out
                    have hnc211 := NB111_173.out
                    have hnb212 := NB173_116.out
                    have hnc212 := NB116_173.out
                    have hnb213 := NB173_141.out
                    have hnc213 := NB141_173.out
                    have hnb214 := NB173_163.out
                    have hnc214 := NB163_173.out
                    have hnb215 := NB173_168.out
                    have hnc215 := NB168_173.out
                    have hcz216_0 : wc.cell? ⟨gb173,0,none⟩ = some (.string t169) := (blk_cell BK173.out 0).trans rfl
                    have hcz216_1 : wc.cell? ⟨gb173,1,none⟩ = some (.int .i64 t170) := (blk_cell BK173.out 1).trans rfl
                    have hcz216_2 : wc.cell? ⟨gb173,2,none⟩ = some (.int .i64 t171) := (blk_cell BK173.out 2).trans rfl
                    have hfz216_0 := blk_frozen BK173.out 0
                    have hfz216_1 := blk_frozen BK173.out 1
                    have hfz216_2 := blk_frozen BK173.out 2
                    have hnb217 := NB163_106.out
                    have hnc217 := NB106_163.out
                    have hnb218 := NB163_111.out
                    have hnc218 := NB111_163.out
                    have hnb219 := NB163_116.out
                    have hnc219 := NB116_163.out
                    have hnb220 := NB163_141.out
                    have hnc220 := NB141_163.out
                    have hnb221 := NB163_168.out
                    have hnc221 := NB168_163.out
                    have hcz222_0 : wc.cell? ⟨gb163,0,none⟩ = some (.string x164000_4) := (blk_cell BK163.out 0).trans rfl
                    have hcz222_1 : wc.cell? ⟨gb163,1,none⟩ = some (.int .i64 x164001_4) := (blk_cell BK163.out 1).trans rfl
                    have hcz222_2 : wc.cell? ⟨gb163,2,none⟩ = some (.int .i64 x164002_4) := (blk_cell BK163.out 2).trans rfl
                    have hfz222_0 := blk_frozen BK163.out 0
                    have hfz222_1 := blk_frozen BK163.out 1
                    have hfz222_2 := blk_frozen BK163.out 2
                    go_wp2
                    go_roundg kj169
                    case measure => have := HJ12.out;have := HJ60.out;have := HJ103.out;have := HK4.out;have := HJ155.out;have := HJ169.out;omega
                    case rel => exact ⟨(x34_155),(t169),(t170),(t171),(by first|rfl | (simp;done)|(simp [*];done)),H',⟨by have := HJ12.out;have := HJ60.out;have := HJ103.out;have := HK4.out;have := HJ155.out;have := HJ169.out;omega⟩,⟨by (with_reducible repeat (first|apply zhA | apply zhB | apply zhC));refine blk_far ?_ NB106_163.out _;(with_reducible repeat (first|apply zhA | apply zhB | apply zhC));refine blk_far ?_ NB106_163.out _;(with_reducible repeat (first|apply zhA | apply zhB | apply zhC));refine blk_far ?_ NB106_163.out _;(with_reducible repeat (first|apply zhA | apply zhB | apply zhC));exact BK106.out⟩,⟨by (with_reducible repeat (first|apply zhA | apply zhB | apply zhC));refine blk_far ?_ NB111_163.out _;(with_reducible repeat (first|apply zhA | apply zhB | apply zhC));refine blk_far ?_ NB111_163.out _;(with_reducible repeat (first|apply zhA | apply zhB | apply zhC));refine blk_far ?_ NB111_163.out _;(with_reducible repeat (first|apply zhA | apply zhB | apply zhC));exact BK111.out⟩,⟨by (with_reducible repeat (first|apply zhA | apply zhB | apply zhC));refine blk_far ?_ NB116_163.out _;(with_reducible repeat (first|apply zhA | apply zhB | apply zhC));refine blk_far ?_ NB116_163.out _;(with_reducible repeat (first|apply zhA | apply zhB | apply zhC));refine blk_far ?_ NB116_163.out _;(with_reducible repeat (first|apply zhA | apply zhB | apply zhC));exact BK116.out⟩,⟨by (with_reducible repeat (first|apply zhA | apply zhB | apply zhC));refine blk_far ?_ NB141_163.out _;(with_reducible repeat (first|apply zhA | apply zhB | apply zhC));refine blk_far ?_ NB141_163.out _;(with_reducible repeat (first|apply zhA | apply zhB | apply zhC));refine blk_far ?_ NB141_163.out _;(with_reducible repeat (first|apply zhA | apply zhB | apply zhC));exact BK141.out⟩,⟨by (with_reducible repeat (first|apply zhA | apply zhB | apply zhC));refine blk_put (cs := #[.string t169,.int .i64 t170,.int .i64 x164002_4]) ?_ 2 _ rfl;(with_reducible repeat (first|apply zhA | apply zhB | apply zhC));refine blk_put (cs := #[.string t169,.int .i64 x164001_4,.int .i64 x164002_4]) ?_ 1 _ rfl;(with_reducible repeat (first|apply zhA | apply zhB | apply zhC));refine blk_put (cs := #[.string x164000_4,.int .i64 x164001_4,.int .i64 x164002_4]) ?_ 0 _ rfl;(with_reducible repeat (first|apply zhA | apply zhB | apply zhC));exact BK163.out⟩,⟨by repeat (first|(with_reducible first|exact HB.out | apply zbA | apply zbB | apply zbC | refine below_set ?_ GE106.out | refine below_set ?_ GE111.out | refine below_set ?_ GE116.out | refine below_set ?_ GE141.out | refine below_set ?_ GE163.out | refine below_set ?_ GE168.out | refine below_set ?_ GE173.out) | exact HB.out)⟩⟩
                  ·replace c209 := Bool.eq_false_iff.mpr c209
                   subst c209
                   rw [if_neg (show ¬ (false = true) by decide)] at H
                   by_cases c223 : x164001_4 = 4
                   ·rw [if_pos c223] at H
                    have c223b0 : (x164001_4 == 4) = true := beq_iff_eq.mpr c223
                    have c223b1 : (x164001_4 != 4) = false := bne_eq_false_iff_eq.mpr c223
                    clear c223
                    as_aux_lemma =>
                     obtain rfl := Option.some.inj H
                     have hnb224 := NB163_106.out
                     have hnc224 := NB106_163.out
                     have hnb225 := NB163_111.out
                     have hnc225 := NB111_163.out
                     have hnb226 := NB163_116.out
                     have hnc226 := NB116_163.out
                     have hnb227 := NB163_141.out
                     have hnc227 := NB141_163.out
                     have hnb228 := NB163_168.out
                     have hnc228 := NB168_163.out
                     have hnb229 := NB163_173.out
                     have hnc229 := NB173_163.out
                     have hcz230_0 : wc.cell? ⟨gb163,0,none⟩ = some (.string x164000_4) := (blk_cell BK163.out 0).trans rfl
                     have hcz230_1 : wc.cell? ⟨gb163,1,none⟩ = some (.int .i64 x164001_4) := (blk_cell BK163.out 1).trans rfl
                     have hcz230_2 : wc.cell? ⟨gb163,2,none⟩ = some (.int .i64 x164002_4) := (blk_cell BK163.out 2).trans rfl
                     have hfz230_0 := blk_frozen BK163.out 0
                     have hfz230_1 := blk_frozen BK163.out 1
                     have hfz230_2 := blk_frozen BK163.out 2
                     go_wp2
                     go_ret
                     exact ⟨by first|rfl | (simp [*,errW_none,errW_some] <;> rfl),by repeat (first|(with_reducible first|exact HB.out | apply zbA | apply zbB | apply zbC | refine below_set ?_ GE106.out | refine below_set ?_ GE111.out | refine below_set ?_ GE116.out | refine below_set ?_ GE141.out | refine below_set ?_ GE163.out | refine below_set ?_ GE168.out | refine below_set ?_ GE173.out) | exact HB.out)⟩
                   ·rw [if_neg c223] at H
                    exact absurd H (by simp)
            ·rw [if_neg c155] at H
             have c155b0 : decide (x164001_4 < 5) = false := decide_eq_false c155
             clear c155
             as_aux_lemma =>
              obtain rfl := Option.some.inj H
              have hnb231 := NB163_106.out
              have hnc231 := NB106_163.out
              have hnb232 := NB163_111.out
              have hnc232 := NB111_163.out
              have hnb233 := NB163_116.out
              have hnc233 := NB116_163.out
              have hnb234 := NB163_141.out
              have hnc234 := NB141_163.out
              have hcz235_0 : wr.cell? ⟨gb163,0,none⟩ = some (.string x164000_4) := (blk_cell BK163.out 0).trans rfl
              have hcz235_1 : wr.cell? ⟨gb163,1,none⟩ = some (.int .i64 x164001_4) := (blk_cell BK163.out 1).trans rfl
              have hcz235_2 : wr.cell? ⟨gb163,2,none⟩ = some (.int .i64 x164002_4) := (blk_cell BK163.out 2).trans rfl
              have hfz235_0 := blk_frozen BK163.out 0
              have hfz235_1 := blk_frozen BK163.out 1
              have hfz235_2 := blk_frozen BK163.out 2
              go_wp2
              go_ret
              exact ⟨by first|rfl | (simp [*,errW_none,errW_some] <;> rfl),by repeat (first|(with_reducible first|exact HB.out | apply zbA | apply zbB | apply zbC | refine below_set ?_ GE106.out | refine below_set ?_ GE111.out | refine below_set ?_ GE116.out | refine below_set ?_ GE141.out | refine below_set ?_ GE163.out) | exact HB.out)⟩
         ·replace c144 := Bool.eq_false_iff.mpr c144
          subst c144
          rw [if_neg (show ¬ (false = true) by decide)] at H
          as_aux_lemma =>
           obtain rfl := Option.some.inj H
           go_wp2
           go_ret
           exact ⟨by first|rfl | (simp [*,errW_none,errW_some] <;> rfl),by repeat (first|(with_reducible first|exact HB.out | apply zbA | apply zbB | apply zbC | refine below_set ?_ GE106.out | refine below_set ?_ GE111.out | refine below_set ?_ GE116.out | refine below_set ?_ GE141.out) | exact HB.out)⟩

/-- The one pure statement of laws_FnRepetition. -/
def laws_FnRepetition.Pure : Prop := ∀ (l0 : List Int) (l1 : List Int),l0.length * 1 ≤ 140737488351232 → (∀ y,y ∈ l0 → (Lit.int .u8 y).wf = true) → l1.length * 1 ≤ 140737488351232 → (∀ y,y ∈ l1 → (Lit.int .u8 y).wf = true) → ∃ k,laws_FnRepetition.f k l0 l1 = some true
theorem laws_FnRepetition.walk (P : laws_FnRepetition.Pure) (w : World) (A0 : Option Addr) (c0 : Nat) (l0 : List Int) (hr0 : Kd.C (Kd.int .u8) w A0 l0.length l0) (hc0 : l0.length ≤ c0) (hx0 : l0.length * 1 ≤ 140737488351232 ∧ ∀ y,y ∈ l0 → (Lit.int .u8 y).wf = true) (A1 : Option Addr) (c1 : Nat) (l1 : List Int) (hr1 : Kd.C (Kd.int .u8) w A1 l1.length l1) (hc1 : l1.length ≤ c1) (hx1 : l1.length * 1 ≤ 140737488351232 ∧ ∀ y,y ∈ l1 → (Lit.int .u8 y).wf = true) :
  Calls Try.prog 3 #[.slice A0 l0.length c0,.slice A1 l1.length c1] w fun e w' => e = .returned (.bool true) ∧ Below w.heap.size w w' := by
 obtain ⟨k,h⟩ := P l0 l1 hx0.1 hx0.2 hx1.1 hx1.2
 refine (laws_FnRepetition.calls k A0 c0 l0 A1 c1 l1 true w hr0 hc0 hr1 hc1 h).mono ?_
 rintro e w' ⟨rfl,hd⟩
 exact ⟨rfl,hd⟩

end Go.Proofs.Ytkobnljfoedmnaa.Q
