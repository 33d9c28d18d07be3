/- For every input the law FnExactPutKey returns true, and leaves its arguments as they were. No condition: the whole statement. -/
-- Written for the seat Ytcpkobahiciadaa by a program of this session (wip/tool/gx.py) out of the translation. Lean checks it.
import Derived.Test.YtcpkobahiciadaaRows
import Derived.Test.YtcpkobahiciadaaQLawsFnExactPutKey
import Derived.Test.YtcpkobahiciadaaPureFnExactPutKey
import Derived.Test.YtcpkobahiciadaaGOpen
import Derived.Test.YtcpkobahiciadaaQBounds
import Derived.WalkKit
import Derived.ProofKit
import Derived.OpenShut
import Derived.ShutString
import Derived.ChangeOld
import Derived.Below
import Derived.SizedLaws
import Derived.Lib.SmallJoins
namespace Go.Proofs.Ytcpkobahiciadaa.fnExactPutKey
open Go.ChangeShapes Go.WideShapes Go.ChangeAt Go.RowKit Go.Proofs.Ytcpkobahiciadaa.Q Go.Proofs.YtcpkobahiciadaaW
set_option linter.unusedVariables false
set_option linter.unusedSimpArgs false
theorem own : ownKnob Try.prog.godebug = none := by kernel_rfl
theorem laidOut : laidOutB Try.prog = true := by kernel_rfl
theorem fit42 : GOpen.Fit Try.prog 42 k42 B42 := GOpen.fit_struct (fun x : S42 => (x.f0, x.f1, x.f2, x.f3, x.f4)) (fun y => ⟨y.1, y.2.1, y.2.2.1, y.2.2.2.1, y.2.2.2.2⟩) (fun y => rfl) Try.underlying42 (by kernel_rfl) (GOpen.fitFs_cons (by kernel_rfl) (GOpen.fit_int Try.underlying3 (by kernel_rfl)) (GOpen.fitFs_cons (by kernel_rfl) (GOpen.fit_int Try.underlying3 (by kernel_rfl)) (GOpen.fitFs_cons (by kernel_rfl) (GOpen.fit_int Try.underlying3 (by kernel_rfl)) (GOpen.fitFs_cons (by kernel_rfl) (GOpen.fit_int Try.underlying3 (by kernel_rfl)) (GOpen.fitFs_one (by kernel_rfl) (GOpen.fit_int Try.underlying3 (by kernel_rfl)))))))
set_option maxRecDepth 100000 in
theorem lifted (os : Os) (started : os.Started) (H : Type) (enc : TypeId × Value → H) :
  ReturnsInHanded {} Try.checked os 4 .any (Rows.fnExactPutKeySpec.pre6 enc Try.prog Try.f4 Rows.fnExactPutKeyRow.domain false) (Rows.fnExactPutKeySpec.post enc Try.prog Try.f4 false true false false) := by
 refine returnsInHanded_of_change_sized (C := Try.checked) own started (by kernel_rfl) Try.func4
  (ChangeSpec.witness6 (enc := enc) (C := Try.checked) false ⟨#[], #[.slice none 0 0, .agg #[.int .i64 0, .int .i64 0, .int .i64 0, .int .i64 0, .int .i64 0]], []⟩ 8 (by kernel_rfl) (by kernel_rfl) (by kernel_rfl) (by kernel_rfl)) ?_
 intro W base args ds gs before hval0 hW hcnd hsz0 _
 have hsz : (DataW.weightsEach Try.prog (Try.f4.params.toList ++ Rows.fnExactPutKeySpec.plain.varTypes Try.prog) (ds ++ gs)).all (· ≤ reachBytes) = true := hsz0
 have hval : ∀ (j : Nat) t v, Try.f4.params[j]? = some t → args[j]? = some v → Value.okWide Try.prog W .any base t v := hval0
 have hW' := hW
 obtain ⟨p, q, hA0, hV, rfl, hfz, hnd⟩ := hW
 have hA : DataW.TrodAll enc Try.prog W 0 (fun _ => true) true Try.f4.params.toList args.toList ds p := hA0
 rw [Try.params4] at hA hval hsz
 obtain ⟨v0, vs0, d0, ds0, p0, q0, hargs, rfl, rfl, h0, r0⟩ := trodAll_cons hA
 obtain ⟨v1, vs1, d1, ds1, p1, q1, rfl, rfl, rfl, h1, r1⟩ := trodAll_cons r0
 obtain ⟨rfl, rfl, rfl⟩ := trodAll_nil r1
 obtain rfl : args = #[v0, v1] := by cases args; simp_all
 obtain ⟨rfl, rfl⟩ := trodVars_none hV
 have k0 := h0
 have lt0 := GOpen.trod_lt k0
 obtain ⟨a0, len0, cap0, rfl⟩ := okWide_slice Try.underlying40 (hval 0 40 v0 rfl rfl)
 obtain ⟨l0, rfl, hc0, hr0, hx0⟩ := GOpen.fit_row (GOpen.fit_slice_n (n := 40) Try.underlying40 (by kernel_rfl) (by kernel_rfl) fit42) hsz (j := 0) rfl rfl h0
 have k1 := h1
 have lt1 := GOpen.trod_lt k1
 obtain ⟨cs1, rfl, hcs1⟩ := okWide_struct Try.underlying42 (hval 1 42 v1 rfl rfl)
 obtain ⟨y1, hK1, hB1⟩ := GOpen.fit_arg fit42 hsz (j := 1) rfl rfl h1
 have hK1' : k42.K W y1 cs1.toList := hK1
 clear hK1
 obtain ⟨L1, hL1⟩ : ∃ L, L = cs1.toList := ⟨_, rfl⟩
 rw [← hL1] at hK1'
 obtain ⟨_, _, rfl, rfl, ⟨_, _, rfl, rfl, ⟨_, _, rfl, rfl, ⟨_, _, rfl, rfl, rfl⟩⟩⟩⟩ := hK1'
 obtain rfl : cs1 = #[.int .i64 y1.f0, .int .i64 y1.f1, .int .i64 y1.f2, .int .i64 y1.f3, .int .i64 y1.f4] := by cases cs1; simp only at hL1; subst hL1; rfl
 clear hA0 hval0 hsz0 hsz
 refine (laws_FnExactPutKey.walk Pure.FnExactPutKey W a0 cap0 l0 hr0 hc0 hx0 y1.f0 hB1.1 y1.f1 hB1.2.1 y1.f2 hB1.2.2.1 y1.f3 hB1.2.2.2.1 y1.f4 hB1.2.2.2.2).mono fun e W' ⟨he, bel⟩ => ?_
 subst he
 exact ⟨_, rfl, _, _, _, [], _, [], hW', trodAll_mk1 (shut_bool Try.underlying4 _), (trodAll_cons_mk (Below.trod laidOut (by kernel_rfl) (of_decide_eq_true (by kernel_rfl)) k0 bel lt0) (trodAll_cons_mk (Below.trod laidOut (by kernel_rfl) (of_decide_eq_true (by kernel_rfl)) k1 bel lt1) trodAll_mk0)), rfl, bel.frame _, fun h => by cases h⟩
theorem over : Rows.fnExactPutKeyRow.holds Try.pinned (OpenSpec.ofChange Rows.fnExactPutKeySpec) :=
 OpenClaim.holds_of_wide 4 Try.f4 rfl rfl rfl rfl rfl rfl rfl ⟨rfl, rfl, rfl, rfl, rfl⟩ rfl rfl rfl rfl rfl (by kernel_rfl) Try.func4 (by kernel_rfl)
  (of_decide_eq_true (by kernel_rfl)) (by unfold Func.isWrapper; first | (rw [if_pos (by decide +kernel)]; kernel_rfl) | (rw [if_neg (by decide +kernel)]; exact ⟨rfl, rfl⟩))
  (fun os started H enc _ => lifted os started H enc)
theorem proved : Rows.FnExactPutKeySaid := over
#print axioms proved
end Go.Proofs.Ytcpkobahiciadaa.fnExactPutKey
namespace Go.Proofs.Ytcpkobahiciadaa
/-- The row, under a short name, for the claim. -/
theorem fnExactPutKey_holds : Rows.FnExactPutKeySaid := fnExactPutKey.proved
end Go.Proofs.Ytcpkobahiciadaa
