/- For every input the law FnExactTopCoverage returns true, and leaves its arguments as they were. No condition: the whole statement. -/
-- Written for the seat Ytcpkobahiciadaa by a program of this session (wip/tool/gx.py) out of the translation. Lean checks it.
import Derived.Test.YtcpkobahiciadaaRows
import Derived.Test.YtcpkobahiciadaaQLawsFnExactTopCoverage
import Derived.Test.YtcpkobahiciadaaPureFnExactTopCoverage
import Derived.Test.YtcpkobahiciadaaGOpen
import Derived.WalkKit
import Derived.ProofKit
import Derived.OpenShut
import Derived.ShutString
import Derived.ChangeOld
import Derived.Below
import Derived.SizedLaws
import Derived.Lib.SmallJoins
namespace Go.Proofs.Ytcpkobahiciadaa.fnExactTopCoverage
open Go.ChangeShapes Go.WideShapes Go.ChangeAt Go.RowKit Go.Proofs.Ytcpkobahiciadaa.Q Go.Proofs.YtcpkobahiciadaaW
set_option linter.unusedVariables false
set_option linter.unusedSimpArgs false
theorem own : ownKnob Try.prog.godebug = none := by kernel_rfl
theorem laidOut : laidOutB Try.prog = true := by kernel_rfl
set_option maxRecDepth 100000 in
theorem lifted (os : Os) (started : os.Started) (H : Type) (enc : TypeId × Value → H) :
  ReturnsInHanded {} Try.checked os 8 .any (Rows.fnExactTopCoverageSpec.pre6 enc Try.prog Try.f8 Rows.fnExactTopCoverageRow.domain false) (Rows.fnExactTopCoverageSpec.post enc Try.prog Try.f8 false true false false) := by
 refine returnsInHanded_of_change_sized (C := Try.checked) own started (by kernel_rfl) Try.func8
  (ChangeSpec.witness6 (enc := enc) (C := Try.checked) false ⟨#[], #[.slice none 0 0, .int .i64 0], []⟩ 8 (by kernel_rfl) (by kernel_rfl) (by kernel_rfl) (by kernel_rfl)) ?_
 intro W base args ds gs before hval0 hW hcnd hsz0 _
 have hsz : (DataW.weightsEach Try.prog (Try.f8.params.toList ++ Rows.fnExactTopCoverageSpec.plain.varTypes Try.prog) (ds ++ gs)).all (· ≤ reachBytes) = true := hsz0
 have hval : ∀ (j : Nat) t v, Try.f8.params[j]? = some t → args[j]? = some v → Value.okWide Try.prog W .any base t v := hval0
 have hW' := hW
 obtain ⟨p, q, hA0, hV, rfl, hfz, hnd⟩ := hW
 have hA : DataW.TrodAll enc Try.prog W 0 (fun _ => true) true Try.f8.params.toList args.toList ds p := hA0
 rw [Try.params8] at hA hval hsz
 obtain ⟨v0, vs0, d0, ds0, p0, q0, hargs, rfl, rfl, h0, r0⟩ := trodAll_cons hA
 obtain ⟨v1, vs1, d1, ds1, p1, q1, rfl, rfl, rfl, h1, r1⟩ := trodAll_cons r0
 obtain ⟨rfl, rfl, rfl⟩ := trodAll_nil r1
 obtain rfl : args = #[v0, v1] := by cases args; simp_all
 obtain ⟨rfl, rfl⟩ := trodVars_none hV
 have k0 := h0
 have lt0 := GOpen.trod_lt k0
 obtain ⟨a0, len0, cap0, rfl⟩ := okWide_slice Try.underlying53 (hval 0 53 v0 rfl rfl)
 obtain ⟨l0, rfl, hc0, hr0, hx0⟩ := GOpen.fit_row (GOpen.fit_slice_n (n := 16) Try.underlying53 (by kernel_rfl) (by kernel_rfl) (GOpen.fit_string Try.underlying9 (by kernel_rfl))) hsz (j := 0) rfl rfl h0
 have k1 := h1
 have lt1 := GOpen.trod_lt k1
 obtain ⟨z1, rfl⟩ := okWide_int Try.underlying3 (hval 1 3 v1 rfl rfl)
 obtain ⟨y1, hK1, hB1⟩ := GOpen.fit_arg (GOpen.fit_int Try.underlying3 (by kernel_rfl)) hsz (j := 1) rfl rfl h1
 obtain rfl : y1 = z1 := by have e_ : [(.int .i64 z1 : Value)] = [.int .i64 y1] := hK1; injection e_ with e_ _; injection e_ with e1_ e2_; first | exact e2_.symm | exact e1_.symm
 clear hA0 hval0 hsz0 hsz
 refine (laws_FnExactTopCoverage.walk Pure.FnExactTopCoverage W a0 cap0 l0 hr0 hc0 hx0 y1 hB1).mono fun e W' ⟨he, bel⟩ => ?_
 subst he
 exact ⟨_, rfl, _, _, _, [], _, [], hW', trodAll_mk1 (shut_bool Try.underlying4 _), (trodAll_cons_mk (Below.trod laidOut (by kernel_rfl) (of_decide_eq_true (by kernel_rfl)) k0 bel lt0) (trodAll_cons_mk (Below.trod laidOut (by kernel_rfl) (of_decide_eq_true (by kernel_rfl)) k1 bel lt1) trodAll_mk0)), rfl, bel.frame _, fun h => by cases h⟩
theorem over : Rows.fnExactTopCoverageRow.holds Try.pinned (OpenSpec.ofChange Rows.fnExactTopCoverageSpec) :=
 OpenClaim.holds_of_wide 8 Try.f8 rfl rfl rfl rfl rfl rfl rfl ⟨rfl, rfl, rfl, rfl, rfl⟩ rfl rfl rfl rfl rfl (by kernel_rfl) Try.func8 (by kernel_rfl)
  (of_decide_eq_true (by kernel_rfl)) (by unfold Func.isWrapper; first | (rw [if_pos (by decide +kernel)]; kernel_rfl) | (rw [if_neg (by decide +kernel)]; exact ⟨rfl, rfl⟩))
  (fun os started H enc _ => lifted os started H enc)
theorem proved : Rows.FnExactTopCoverageSaid := over
#print axioms proved
end Go.Proofs.Ytcpkobahiciadaa.fnExactTopCoverage
namespace Go.Proofs.Ytcpkobahiciadaa
/-- The row, under a short name, for the claim. -/
theorem fnExactTopCoverage_holds : Rows.FnExactTopCoverageSaid := fnExactTopCoverage.proved
end Go.Proofs.Ytcpkobahiciadaa
