/- For every input the law FnExactAreCards returns true, and leaves its arguments as they were. No condition: the whole statement. -/
-- Written for the seat Ytfnegjnklhfmaaa by a program of this session (wip/tool/gx.py) out of the translation. Lean checks it.
import Derived.Test.YtfnegjnklhfmaaaRows
import Derived.Test.YtfnegjnklhfmaaaQLawsFnExactAreCards
import Derived.Test.YtfnegjnklhfmaaaPureFnExactAreCards
import Derived.Test.YtfnegjnklhfmaaaGOpen
import Derived.Test.YtfnegjnklhfmaaaQBounds
import Derived.WalkKit
import Derived.ProofKit
import Derived.OpenShut
import Derived.ShutString
import Derived.ChangeOld
import Derived.Below
import Derived.SizedLaws
import Derived.Lib.SmallJoins
namespace Go.Proofs.Ytfnegjnklhfmaaa.fnExactAreCards
open Go.ChangeShapes Go.WideShapes Go.ChangeAt Go.RowKit Go.Proofs.Ytfnegjnklhfmaaa.Q Go.Proofs.YtfnegjnklhfmaaaW
set_option linter.unusedVariables false
set_option linter.unusedSimpArgs false
theorem own : ownKnob Try.prog.godebug = none := by kernel_rfl
theorem laidOut : laidOutB Try.prog = true := by kernel_rfl
theorem fit55 : GOpen.Fit Try.prog 55 k55 B55 := GOpen.fit_struct (fun x : S55 => (x.f0, x.f1, x.f2)) (fun y => ⟨y.1, y.2.1, y.2.2⟩) (fun y => rfl) Try.underlying55 (by kernel_rfl) (GOpen.fitFs_cons (by kernel_rfl) (GOpen.fit_string Try.underlying9 (by kernel_rfl)) (GOpen.fitFs_cons (by kernel_rfl) (GOpen.fit_int Try.underlying3 (by kernel_rfl)) (GOpen.fitFs_one (by kernel_rfl) (GOpen.fit_int Try.underlying3 (by kernel_rfl)))))
set_option maxRecDepth 100000 in
theorem lifted (os : Os) (started : os.Started) (H : Type) (enc : TypeId × Value → H) :
    ReturnsInHanded {} Try.checked os 14 .any (Rows.fnExactAreCardsSpec.pre6 enc Try.prog Try.f14 Rows.fnExactAreCardsRow.domain false) (Rows.fnExactAreCardsSpec.post enc Try.prog Try.f14 false true false false) := by
  refine returnsInHanded_of_change_sized (C := Try.checked) own started (by kernel_rfl) Try.func14
    (ChangeSpec.witness6 (enc := enc) (C := Try.checked) false ⟨#[], #[.slice none 0 0], []⟩ 8 (by kernel_rfl) (by kernel_rfl) (by kernel_rfl) (by kernel_rfl)) ?_
  intro W base args ds gs before hval0 hW hcnd hsz0 _
  have hsz : (DataW.weightsEach Try.prog (Try.f14.params.toList ++ Rows.fnExactAreCardsSpec.plain.varTypes Try.prog) (ds ++ gs)).all (· ≤ reachBytes) = true := hsz0
  have hval : ∀ (j : Nat) t v, Try.f14.params[j]? = some t → args[j]? = some v → Value.okWide Try.prog W .any base t v := hval0
  have hW' := hW
  obtain ⟨p, q, hA0, hV, rfl, hfz, hnd⟩ := hW
  have hA : DataW.TrodAll enc Try.prog W 0 (fun _ => true) true Try.f14.params.toList args.toList ds p := hA0
  rw [Try.params14] at hA hval hsz
  obtain ⟨v0, vs0, d0, ds0, p0, q0, hargs, rfl, rfl, h0, r0⟩ := trodAll_cons hA
  obtain ⟨rfl, rfl, rfl⟩ := trodAll_nil r0
  obtain rfl : args = #[v0] := by cases args; simp_all
  obtain ⟨rfl, rfl⟩ := trodVars_none hV
  have k0 := h0
  have lt0 := GOpen.trod_lt k0
  obtain ⟨a0, len0, cap0, rfl⟩ := okWide_slice Try.underlying65 (hval 0 65 v0 rfl rfl)
  obtain ⟨l0, rfl, hc0, hr0, hx0⟩ := GOpen.fit_row (GOpen.fit_slice Try.underlying65 (by kernel_rfl) fit55) hsz (j := 0) rfl rfl h0
  clear hA0 hval0 hsz0 hsz
  refine (laws_FnExactAreCards.walk Pure.FnExactAreCards W a0 cap0 l0 hr0 hc0 hx0).mono fun e W' ⟨he, bel⟩ => ?_
  subst he
  exact ⟨_, rfl, _, _, _, [], _, [], hW', trodAll_mk1 (shut_bool Try.underlying4 _), (trodAll_cons_mk (Below.trod laidOut (by kernel_rfl) (of_decide_eq_true (by kernel_rfl)) k0 bel lt0) trodAll_mk0), rfl, bel.frame _, fun h => by cases h⟩
theorem over : Rows.fnExactAreCardsRow.holds Try.pinned (OpenSpec.ofChange Rows.fnExactAreCardsSpec) :=
  OpenClaim.holds_of_wide 14 Try.f14 rfl rfl rfl rfl rfl rfl rfl ⟨rfl, rfl, rfl, rfl, rfl⟩ rfl rfl rfl rfl rfl (by kernel_rfl) Try.func14 (by kernel_rfl)
    (of_decide_eq_true (by kernel_rfl)) (by unfold Func.isWrapper; first | (rw [if_pos (by decide +kernel)]; kernel_rfl) | (rw [if_neg (by decide +kernel)]; exact ⟨rfl, rfl⟩))
    (fun os started H enc _ => lifted os started H enc)
theorem proved : Rows.FnExactAreCardsSaid := over
#print axioms proved
end Go.Proofs.Ytfnegjnklhfmaaa.fnExactAreCards
namespace Go.Proofs.Ytfnegjnklhfmaaa
/-- The row, under a short name, for the claim. -/
theorem fnExactAreCards_holds : Rows.FnExactAreCardsSaid := fnExactAreCards.proved
end Go.Proofs.Ytfnegjnklhfmaaa
