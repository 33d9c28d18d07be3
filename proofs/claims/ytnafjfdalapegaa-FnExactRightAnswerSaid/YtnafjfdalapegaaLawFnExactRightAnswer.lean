/- For every input the law FnExactRightAnswer returns true, and leaves its arguments as they were. No condition: the whole statement. -/
-- Written for the seat Ytnafjfdalapegaa by a program of this session (wip/tool/gx.py) out of the translation. Lean checks it.
import Derived.Test.YtnafjfdalapegaaRows
import Derived.Test.YtnafjfdalapegaaQLawsFnExactRightAnswer
import Derived.Test.YtnafjfdalapegaaPureFnExactRightAnswer
import Derived.Test.YtnafjfdalapegaaGOpen
import Derived.Test.YtnafjfdalapegaaQBounds
import Derived.WalkKit
import Derived.ProofKit
import Derived.OpenShut
import Derived.ShutString
import Derived.ChangeOld
import Derived.Below
import Derived.SizedLaws
import Derived.Lib.SmallJoins
namespace Go.Proofs.Ytnafjfdalapegaa.fnExactRightAnswer
open Go.ChangeShapes Go.WideShapes Go.ChangeAt Go.RowKit Go.Proofs.Ytnafjfdalapegaa.Q Go.Proofs.YtnafjfdalapegaaW
set_option linter.unusedVariables false
set_option linter.unusedSimpArgs false
theorem own : ownKnob Try.prog.godebug = none := by kernel_rfl
theorem laidOut : laidOutB Try.prog = true := by kernel_rfl
theorem fit24 : GOpen.Fit Try.prog 24 k24 B24 := GOpen.fit_struct (fun x : S24 => (x.f0, x.f1)) (fun y => ⟨y.1, y.2⟩) (fun y => rfl) Try.underlying24 (by kernel_rfl) (GOpen.fitFs_cons (by kernel_rfl) (GOpen.fit_int Try.underlying3 (by kernel_rfl)) (GOpen.fitFs_one (by kernel_rfl) (GOpen.fit_slice_n (n := 8) Try.underlying22 (by kernel_rfl) (by kernel_rfl) (GOpen.fit_int Try.underlying3 (by kernel_rfl)))))
set_option maxRecDepth 100000 in
theorem lifted (os : Os) (started : os.Started) (H : Type) (enc : TypeId × Value → H) :
    ReturnsInHanded {} Try.checked os 3 .any (Rows.fnExactRightAnswerSpec.pre6 enc Try.prog Try.f3 Rows.fnExactRightAnswerRow.domain false) (Rows.fnExactRightAnswerSpec.post enc Try.prog Try.f3 false true false false) := by
  refine returnsInHanded_of_change_sized (C := Try.checked) own started (by kernel_rfl) Try.func3
    (ChangeSpec.witness6 (enc := enc) (C := Try.checked) false ⟨#[], #[.agg #[.int .i64 0, .slice none 0 0]], []⟩ 8 (by kernel_rfl) (by kernel_rfl) (by kernel_rfl) (by kernel_rfl)) ?_
  intro W base args ds gs before hval0 hW hcnd hsz0 _
  have hsz : (DataW.weightsEach Try.prog (Try.f3.params.toList ++ Rows.fnExactRightAnswerSpec.plain.varTypes Try.prog) (ds ++ gs)).all (· ≤ reachBytes) = true := hsz0
  have hval : ∀ (j : Nat) t v, Try.f3.params[j]? = some t → args[j]? = some v → Value.okWide Try.prog W .any base t v := hval0
  have hW' := hW
  obtain ⟨p, q, hA0, hV, rfl, hfz, hnd⟩ := hW
  have hA : DataW.TrodAll enc Try.prog W 0 (fun _ => true) true Try.f3.params.toList args.toList ds p := hA0
  rw [Try.params3] at hA hval hsz
  obtain ⟨v0, vs0, d0, ds0, p0, q0, hargs, rfl, rfl, h0, r0⟩ := trodAll_cons hA
  obtain ⟨rfl, rfl, rfl⟩ := trodAll_nil r0
  obtain rfl : args = #[v0] := by cases args; simp_all
  obtain ⟨rfl, rfl⟩ := trodVars_none hV
  have k0 := h0
  have lt0 := GOpen.trod_lt k0
  obtain ⟨cs0, rfl, hcs0⟩ := okWide_struct Try.underlying24 (hval 0 24 v0 rfl rfl)
  obtain ⟨y0, hK0, hB0⟩ := GOpen.fit_arg fit24 hsz (j := 0) rfl rfl h0
  have hK0' : k24.K W y0 cs0.toList := hK0
  clear hK0
  obtain ⟨L0, hL0⟩ : ∃ L, L = cs0.toList := ⟨_, rfl⟩
  rw [← hL0] at hK0'
  obtain ⟨_, _, rfl, rfl, ⟨A0_1, c0_1, rfl, hc0_1, hr0_1⟩⟩ := hK0'
  obtain rfl : cs0 = #[.int .i64 y0.f0, .slice A0_1 y0.f1.length c0_1] := by cases cs0; simp only at hL0; subst hL0; rfl
  clear hA0 hval0 hsz0 hsz
  refine (laws_FnExactRightAnswer.walk Pure.FnExactRightAnswer W y0.f0 hB0.1 A0_1 c0_1 y0.f1 hr0_1 hc0_1 hB0.2).mono fun e W' ⟨he, bel⟩ => ?_
  subst he
  exact ⟨_, rfl, _, _, _, [], _, [], hW', trodAll_mk1 (shut_bool Try.underlying4 _), (trodAll_cons_mk (Below.trod laidOut (by kernel_rfl) (of_decide_eq_true (by kernel_rfl)) k0 bel lt0) trodAll_mk0), rfl, bel.frame _, fun h => by cases h⟩
theorem over : Rows.fnExactRightAnswerRow.holds Try.pinned (OpenSpec.ofChange Rows.fnExactRightAnswerSpec) :=
  OpenClaim.holds_of_wide 3 Try.f3 rfl rfl rfl rfl rfl rfl rfl ⟨rfl, rfl, rfl, rfl, rfl⟩ rfl rfl rfl rfl rfl (by kernel_rfl) Try.func3 (by kernel_rfl)
    (of_decide_eq_true (by kernel_rfl)) (by unfold Func.isWrapper; first | (rw [if_pos (by decide +kernel)]; kernel_rfl) | (rw [if_neg (by decide +kernel)]; exact ⟨rfl, rfl⟩))
    (fun os started H enc _ => lifted os started H enc)
theorem proved : Rows.FnExactRightAnswerSaid := over
#print axioms proved
end Go.Proofs.Ytnafjfdalapegaa.fnExactRightAnswer
namespace Go.Proofs.Ytnafjfdalapegaa
/-- The row, under a short name, for the claim. -/
theorem fnExactRightAnswer_holds : Rows.FnExactRightAnswerSaid := fnExactRightAnswer.proved
end Go.Proofs.Ytnafjfdalapegaa
