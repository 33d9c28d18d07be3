/- For every input the law FnExactPlanDay returns true, and leaves its arguments as they were. No condition: the whole statement. -/
-- Written for the seat Ytcpkobahiciadaa by a program of this session (wip/tool/gx.py) out of the translation. Lean checks it.
import Derived.Test.YtcpkobahiciadaaRows
import Derived.Test.YtcpkobahiciadaaQLawsFnExactPlanDay
import Derived.Test.YtcpkobahiciadaaPureFnExactPlanDay
import Derived.Test.YtcpkobahiciadaaGOpen
import Derived.Test.YtcpkobahiciadaaQBounds
import Derived.WalkKit
import Derived.ProofKit
import Derived.OpenShut
import Derived.ShutString
import Derived.ChangeOld
import Derived.Below
import Derived.SizedLaws
import Derived.Lib.SmallJoins
namespace Go.Proofs.Ytcpkobahiciadaa.fnExactPlanDay
open Go.ChangeShapes Go.WideShapes Go.ChangeAt Go.RowKit Go.Proofs.Ytcpkobahiciadaa.Q Go.Proofs.YtcpkobahiciadaaW
set_option linter.unusedVariables false
set_option linter.unusedSimpArgs false
theorem own : ownKnob Try.prog.godebug = none := by kernel_rfl
theorem laidOut : laidOutB Try.prog = true := by kernel_rfl
theorem fit70 : GOpen.Fit Try.prog 70 k70 B70 := GOpen.fit_struct (fun x : S70 => (x.f0, x.f1, x.f2)) (fun y => ⟨y.1, y.2.1, y.2.2⟩) (fun y => rfl) Try.underlying70 (by kernel_rfl) (GOpen.fitFs_cons (by kernel_rfl) (GOpen.fit_string Try.underlying9 (by kernel_rfl)) (GOpen.fitFs_cons (by kernel_rfl) (GOpen.fit_int Try.underlying3 (by kernel_rfl)) (GOpen.fitFs_one (by kernel_rfl) (GOpen.fit_int Try.underlying3 (by kernel_rfl)))))
set_option maxRecDepth 100000 in
theorem lifted (os : Os) (started : os.Started) (H : Type) (enc : TypeId × Value → H) :
  ReturnsInHanded {} Try.checked os 5 .any (Rows.fnExactPlanDaySpec.pre6 enc Try.prog Try.f5 Rows.fnExactPlanDayRow.domain false) (Rows.fnExactPlanDaySpec.post enc Try.prog Try.f5 false true false false) := by
 refine returnsInHanded_of_change_sized (C := Try.checked) own started (by kernel_rfl) Try.func5
  (ChangeSpec.witness6 (enc := enc) (C := Try.checked) false ⟨#[], #[.slice none 0 0, .int .i64 0, .int .i64 0], []⟩ 8 (by kernel_rfl) (by kernel_rfl) (by kernel_rfl) (by kernel_rfl)) ?_
 intro W base args ds gs before hval0 hW hcnd hsz0 _
 have hsz : (DataW.weightsEach Try.prog (Try.f5.params.toList ++ Rows.fnExactPlanDaySpec.plain.varTypes Try.prog) (ds ++ gs)).all (· ≤ reachBytes) = true := hsz0
 have hval : ∀ (j : Nat) t v, Try.f5.params[j]? = some t → args[j]? = some v → Value.okWide Try.prog W .any base t v := hval0
 have hW' := hW
 obtain ⟨p, q, hA0, hV, rfl, hfz, hnd⟩ := hW
 have hA : DataW.TrodAll enc Try.prog W 0 (fun _ => true) true Try.f5.params.toList args.toList ds p := hA0
 rw [Try.params5] at hA hval hsz
 obtain ⟨v0, vs0, d0, ds0, p0, q0, hargs, rfl, rfl, h0, r0⟩ := trodAll_cons hA
 obtain ⟨v1, vs1, d1, ds1, p1, q1, rfl, rfl, rfl, h1, r1⟩ := trodAll_cons r0
 obtain ⟨v2, vs2, d2, ds2, p2, q2, rfl, rfl, rfl, h2, r2⟩ := trodAll_cons r1
 obtain ⟨rfl, rfl, rfl⟩ := trodAll_nil r2
 obtain rfl : args = #[v0, v1, v2] := by cases args; simp_all
 obtain ⟨rfl, rfl⟩ := trodVars_none hV
 have k0 := h0
 have lt0 := GOpen.trod_lt k0
 obtain ⟨a0, len0, cap0, rfl⟩ := okWide_slice Try.underlying22 (hval 0 22 v0 rfl rfl)
 obtain ⟨l0, rfl, hc0, hr0, hx0⟩ := GOpen.fit_row (GOpen.fit_slice_n (n := 32) Try.underlying22 (by kernel_rfl) (by kernel_rfl) fit70) hsz (j := 0) rfl rfl h0
 have k1 := h1
 have lt1 := GOpen.trod_lt k1
 obtain ⟨z1, rfl⟩ := okWide_int Try.underlying3 (hval 1 3 v1 rfl rfl)
 obtain ⟨y1, hK1, hB1⟩ := GOpen.fit_arg (GOpen.fit_int Try.underlying3 (by kernel_rfl)) hsz (j := 1) rfl rfl h1
 obtain rfl : y1 = z1 := by have e_ : [(.int .i64 z1 : Value)] = [.int .i64 y1] := hK1; injection e_ with e_ _; injection e_ with e1_ e2_; first | exact e2_.symm | exact e1_.symm
 have k2 := h2
 have lt2 := GOpen.trod_lt k2
 obtain ⟨z2, rfl⟩ := okWide_int Try.underlying3 (hval 2 3 v2 rfl rfl)
 obtain ⟨y2, hK2, hB2⟩ := GOpen.fit_arg (GOpen.fit_int Try.underlying3 (by kernel_rfl)) hsz (j := 2) rfl rfl h2
 obtain rfl : y2 = z2 := by have e_ : [(.int .i64 z2 : Value)] = [.int .i64 y2] := hK2; injection e_ with e_ _; injection e_ with e1_ e2_; first | exact e2_.symm | exact e1_.symm
 clear hA0 hval0 hsz0 hsz
 refine (laws_FnExactPlanDay.walk Pure.FnExactPlanDay W a0 cap0 l0 hr0 hc0 hx0 y1 hB1 y2 hB2).mono fun e W' ⟨he, bel⟩ => ?_
 subst he
 exact ⟨_, rfl, _, _, _, [], _, [], hW', trodAll_mk1 (shut_bool Try.underlying4 _), (trodAll_cons_mk (Below.trod laidOut (by kernel_rfl) (of_decide_eq_true (by kernel_rfl)) k0 bel lt0) (trodAll_cons_mk (Below.trod laidOut (by kernel_rfl) (of_decide_eq_true (by kernel_rfl)) k1 bel lt1) (trodAll_cons_mk (Below.trod laidOut (by kernel_rfl) (of_decide_eq_true (by kernel_rfl)) k2 bel lt2) trodAll_mk0))), rfl, bel.frame _, fun h => by cases h⟩
theorem over : Rows.fnExactPlanDayRow.holds Try.pinned (OpenSpec.ofChange Rows.fnExactPlanDaySpec) :=
 OpenClaim.holds_of_wide 5 Try.f5 rfl rfl rfl rfl rfl rfl rfl ⟨rfl, rfl, rfl, rfl, rfl⟩ rfl rfl rfl rfl rfl (by kernel_rfl) Try.func5 (by kernel_rfl)
  (of_decide_eq_true (by kernel_rfl)) (by unfold Func.isWrapper; first | (rw [if_pos (by decide +kernel)]; kernel_rfl) | (rw [if_neg (by decide +kernel)]; exact ⟨rfl, rfl⟩))
  (fun os started H enc _ => lifted os started H enc)
theorem proved : Rows.FnExactPlanDaySaid := over
#print axioms proved
end Go.Proofs.Ytcpkobahiciadaa.fnExactPlanDay
namespace Go.Proofs.Ytcpkobahiciadaa
/-- The row, under a short name, for the claim. -/
theorem fnExactPlanDay_holds : Rows.FnExactPlanDaySaid := fnExactPlanDay.proved
end Go.Proofs.Ytcpkobahiciadaa
