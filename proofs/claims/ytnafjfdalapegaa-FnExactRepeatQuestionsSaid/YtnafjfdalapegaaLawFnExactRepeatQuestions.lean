/- For every input the law FnExactRepeatQuestions returns true, and leaves its arguments as they were. No condition: the whole statement. -/
-- Written for the seat Ytnafjfdalapegaa by a program of this session (wip/tool/gx.py) out of the translation. Lean checks it.
import Derived.Test.YtnafjfdalapegaaRows
import Derived.Test.YtnafjfdalapegaaQLawsFnExactRepeatQuestions
import Derived.Test.YtnafjfdalapegaaPureFnExactRepeatQuestions
import Derived.Test.YtnafjfdalapegaaGOpen
import Derived.Test.YtnafjfdalapegaaQBounds
import Derived.WalkKit
import Derived.ProofKit
import Derived.OpenShut
import Derived.ShutString
import Derived.ChangeOld
import Derived.Below
import Derived.SizedLaws
import Derived.Lib.SmallJoins
namespace Go.Proofs.Ytnafjfdalapegaa.fnExactRepeatQuestions
open Go.ChangeShapes Go.WideShapes Go.ChangeAt Go.RowKit Go.Proofs.Ytnafjfdalapegaa.Q Go.Proofs.YtnafjfdalapegaaW
set_option linter.unusedVariables false
set_option linter.unusedSimpArgs false
theorem own : ownKnob Try.prog.godebug = none := by kernel_rfl
theorem laidOut : laidOutB Try.prog = true := by kernel_rfl
theorem fit24 : GOpen.Fit Try.prog 24 k24 B24 := GOpen.fit_struct (fun x : S24 => (x.f0, x.f1)) (fun y => ⟨y.1, y.2⟩) (fun y => rfl) Try.underlying24 (by kernel_rfl) (GOpen.fitFs_cons (by kernel_rfl) (GOpen.fit_int Try.underlying3 (by kernel_rfl)) (GOpen.fitFs_one (by kernel_rfl) (GOpen.fit_slice_n (n := 8) Try.underlying22 (by kernel_rfl) (by kernel_rfl) (GOpen.fit_int Try.underlying3 (by kernel_rfl)))))
set_option maxRecDepth 100000 in
theorem lifted (os : Os) (started : os.Started) (H : Type) (enc : TypeId × Value → H) :
    ReturnsInHanded {} Try.checked os 6 .any (Rows.fnExactRepeatQuestionsSpec.pre6 enc Try.prog Try.f6 Rows.fnExactRepeatQuestionsRow.domain false) (Rows.fnExactRepeatQuestionsSpec.post enc Try.prog Try.f6 false true false false) := by
  refine returnsInHanded_of_change_sized (C := Try.checked) own started (by kernel_rfl) Try.func6
    (ChangeSpec.witness6 (enc := enc) (C := Try.checked) false ⟨#[], #[.slice none 0 0, .slice none 0 0], []⟩ 8 (by kernel_rfl) (by kernel_rfl) (by kernel_rfl) (by kernel_rfl)) ?_
  intro W base args ds gs before hval0 hW hcnd hsz0 _
  have hsz : (DataW.weightsEach Try.prog (Try.f6.params.toList ++ Rows.fnExactRepeatQuestionsSpec.plain.varTypes Try.prog) (ds ++ gs)).all (· ≤ reachBytes) = true := hsz0
  have hval : ∀ (j : Nat) t v, Try.f6.params[j]? = some t → args[j]? = some v → Value.okWide Try.prog W .any base t v := hval0
  have hW' := hW
  obtain ⟨p, q, hA0, hV, rfl, hfz, hnd⟩ := hW
  have hA : DataW.TrodAll enc Try.prog W 0 (fun _ => true) true Try.f6.params.toList args.toList ds p := hA0
  rw [Try.params6] at hA hval hsz
  obtain ⟨v0, vs0, d0, ds0, p0, q0, hargs, rfl, rfl, h0, r0⟩ := trodAll_cons hA
  obtain ⟨v1, vs1, d1, ds1, p1, q1, rfl, rfl, rfl, h1, r1⟩ := trodAll_cons r0
  obtain ⟨rfl, rfl, rfl⟩ := trodAll_nil r1
  obtain rfl : args = #[v0, v1] := by cases args; simp_all
  obtain ⟨rfl, rfl⟩ := trodVars_none hV
  have k0 := h0
  have lt0 := GOpen.trod_lt k0
  obtain ⟨a0, len0, cap0, rfl⟩ := okWide_slice Try.underlying32 (hval 0 32 v0 rfl rfl)
  obtain ⟨l0, rfl, hc0, hr0, hx0⟩ := GOpen.fit_row (GOpen.fit_slice_n (n := 32) Try.underlying32 (by kernel_rfl) (by kernel_rfl) fit24) hsz (j := 0) rfl rfl h0
  have k1 := h1
  have lt1 := GOpen.trod_lt k1
  obtain ⟨a1, len1, cap1, rfl⟩ := okWide_slice Try.underlying22 (hval 1 22 v1 rfl rfl)
  obtain ⟨l1, rfl, hc1, hr1, hx1⟩ := GOpen.fit_row (GOpen.fit_slice_n (n := 8) Try.underlying22 (by kernel_rfl) (by kernel_rfl) (GOpen.fit_int Try.underlying3 (by kernel_rfl))) hsz (j := 1) rfl rfl h1
  clear hA0 hval0 hsz0 hsz
  refine (laws_FnExactRepeatQuestions.walk Pure.FnExactRepeatQuestions W a0 cap0 l0 hr0 hc0 hx0 a1 cap1 l1 hr1 hc1 hx1).mono fun e W' ⟨he, bel⟩ => ?_
  subst he
  exact ⟨_, rfl, _, _, _, [], _, [], hW', trodAll_mk1 (shut_bool Try.underlying4 _), (trodAll_cons_mk (Below.trod laidOut (by kernel_rfl) (of_decide_eq_true (by kernel_rfl)) k0 bel lt0) (trodAll_cons_mk (Below.trod laidOut (by kernel_rfl) (of_decide_eq_true (by kernel_rfl)) k1 bel lt1) trodAll_mk0)), rfl, bel.frame _, fun h => by cases h⟩
theorem over : Rows.fnExactRepeatQuestionsRow.holds Try.pinned (OpenSpec.ofChange Rows.fnExactRepeatQuestionsSpec) :=
  OpenClaim.holds_of_wide 6 Try.f6 rfl rfl rfl rfl rfl rfl rfl ⟨rfl, rfl, rfl, rfl, rfl⟩ rfl rfl rfl rfl rfl (by kernel_rfl) Try.func6 (by kernel_rfl)
    (of_decide_eq_true (by kernel_rfl)) (by unfold Func.isWrapper; first | (rw [if_pos (by decide +kernel)]; kernel_rfl) | (rw [if_neg (by decide +kernel)]; exact ⟨rfl, rfl⟩))
    (fun os started H enc _ => lifted os started H enc)
theorem proved : Rows.FnExactRepeatQuestionsSaid := over
#print axioms proved
end Go.Proofs.Ytnafjfdalapegaa.fnExactRepeatQuestions
namespace Go.Proofs.Ytnafjfdalapegaa
/-- The row, under a short name, for the claim. -/
theorem fnExactRepeatQuestions_holds : Rows.FnExactRepeatQuestionsSaid := fnExactRepeatQuestions.proved
end Go.Proofs.Ytnafjfdalapegaa
