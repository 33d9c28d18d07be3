/- For every input the law FnExactQuestionText returns true, and leaves its arguments as they were. No condition: the whole statement. -/
-- Written for the seat Ytnafjfdalapegaa by a program of this session (wip/tool/gx.py) out of the translation. Lean checks it.
import Derived.Test.YtnafjfdalapegaaRows
import Derived.Test.YtnafjfdalapegaaQLawsFnExactQuestionText
import Derived.Test.YtnafjfdalapegaaPureFnExactQuestionText
import Derived.Test.YtnafjfdalapegaaGOpen
import Derived.Test.YtnafjfdalapegaaQBounds
import Derived.WalkKit
import Derived.ProofKit
import Derived.OpenShut
import Derived.ShutString
import Derived.ChangeOld
import Derived.Below
import Derived.SizedLaws
import Derived.Lib.SmallJoins
namespace Go.Proofs.Ytnafjfdalapegaa.fnExactQuestionText
open Go.ChangeShapes Go.WideShapes Go.ChangeAt Go.RowKit Go.Proofs.Ytnafjfdalapegaa.Q Go.Proofs.YtnafjfdalapegaaW
set_option linter.unusedVariables false
set_option linter.unusedSimpArgs false
theorem own : ownKnob Try.prog.godebug = none := by kernel_rfl
theorem laidOut : laidOutB Try.prog = true := by kernel_rfl
theorem fit76 : GOpen.Fit Try.prog 76 k76 B76 := GOpen.fit_struct (fun x : S76 => (x.f0, x.f1, x.f2)) (fun y => ⟨y.1, y.2.1, y.2.2⟩) (fun y => rfl) Try.underlying76 (by kernel_rfl) (GOpen.fitFs_cons (by kernel_rfl) (GOpen.fit_string Try.underlying9 (by kernel_rfl)) (GOpen.fitFs_cons (by kernel_rfl) (GOpen.fit_slice_n (n := 8) Try.underlying22 (by kernel_rfl) (by kernel_rfl) (GOpen.fit_int Try.underlying3 (by kernel_rfl))) (GOpen.fitFs_one (by kernel_rfl) (GOpen.fit_int Try.underlying3 (by kernel_rfl)))))
theorem fit24 : GOpen.Fit Try.prog 24 k24 B24 := GOpen.fit_struct (fun x : S24 => (x.f0, x.f1)) (fun y => ⟨y.1, y.2⟩) (fun y => rfl) Try.underlying24 (by kernel_rfl) (GOpen.fitFs_cons (by kernel_rfl) (GOpen.fit_int Try.underlying3 (by kernel_rfl)) (GOpen.fitFs_one (by kernel_rfl) (GOpen.fit_slice_n (n := 8) Try.underlying22 (by kernel_rfl) (by kernel_rfl) (GOpen.fit_int Try.underlying3 (by kernel_rfl)))))
set_option maxRecDepth 100000 in
theorem lifted (os : Os) (started : os.Started) (H : Type) (enc : TypeId × Value → H) :
    ReturnsInHanded {} Try.checked os 7 .any (Rows.fnExactQuestionTextSpec.pre6 enc Try.prog Try.f7 Rows.fnExactQuestionTextRow.domain false) (Rows.fnExactQuestionTextSpec.post enc Try.prog Try.f7 false true false false) := by
  refine returnsInHanded_of_change_sized (C := Try.checked) own started (by kernel_rfl) Try.func7
    (ChangeSpec.witness6 (enc := enc) (C := Try.checked) false ⟨#[], #[.slice none 0 0, .agg #[.int .i64 0, .slice none 0 0]], []⟩ 8 (by kernel_rfl) (by kernel_rfl) (by kernel_rfl) (by kernel_rfl)) ?_
  intro W base args ds gs before hval0 hW hcnd hsz0 _
  have hsz : (DataW.weightsEach Try.prog (Try.f7.params.toList ++ Rows.fnExactQuestionTextSpec.plain.varTypes Try.prog) (ds ++ gs)).all (· ≤ reachBytes) = true := hsz0
  have hval : ∀ (j : Nat) t v, Try.f7.params[j]? = some t → args[j]? = some v → Value.okWide Try.prog W .any base t v := hval0
  have hW' := hW
  obtain ⟨p, q, hA0, hV, rfl, hfz, hnd⟩ := hW
  have hA : DataW.TrodAll enc Try.prog W 0 (fun _ => true) true Try.f7.params.toList args.toList ds p := hA0
  rw [Try.params7] at hA hval hsz
  obtain ⟨v0, vs0, d0, ds0, p0, q0, hargs, rfl, rfl, h0, r0⟩ := trodAll_cons hA
  obtain ⟨v1, vs1, d1, ds1, p1, q1, rfl, rfl, rfl, h1, r1⟩ := trodAll_cons r0
  obtain ⟨rfl, rfl, rfl⟩ := trodAll_nil r1
  obtain rfl : args = #[v0, v1] := by cases args; simp_all
  obtain ⟨rfl, rfl⟩ := trodVars_none hV
  have k0 := h0
  have lt0 := GOpen.trod_lt k0
  obtain ⟨a0, len0, cap0, rfl⟩ := okWide_slice Try.underlying48 (hval 0 48 v0 rfl rfl)
  obtain ⟨l0, rfl, hc0, hr0, hx0⟩ := GOpen.fit_row (GOpen.fit_slice_n (n := 48) Try.underlying48 (by kernel_rfl) (by kernel_rfl) fit76) hsz (j := 0) rfl rfl h0
  have k1 := h1
  have lt1 := GOpen.trod_lt k1
  obtain ⟨cs1, rfl, hcs1⟩ := okWide_struct Try.underlying24 (hval 1 24 v1 rfl rfl)
  obtain ⟨y1, hK1, hB1⟩ := GOpen.fit_arg fit24 hsz (j := 1) rfl rfl h1
  have hK1' : k24.K W y1 cs1.toList := hK1
  clear hK1
  obtain ⟨L1, hL1⟩ : ∃ L, L = cs1.toList := ⟨_, rfl⟩
  rw [← hL1] at hK1'
  obtain ⟨_, _, rfl, rfl, ⟨A1_1, c1_1, rfl, hc1_1, hr1_1⟩⟩ := hK1'
  obtain rfl : cs1 = #[.int .i64 y1.f0, .slice A1_1 y1.f1.length c1_1] := by cases cs1; simp only at hL1; subst hL1; rfl
  clear hA0 hval0 hsz0 hsz
  refine (laws_FnExactQuestionText.walk Pure.FnExactQuestionText W a0 cap0 l0 hr0 hc0 hx0 y1.f0 hB1.1 A1_1 c1_1 y1.f1 hr1_1 hc1_1 hB1.2).mono fun e W' ⟨he, bel⟩ => ?_
  subst he
  exact ⟨_, rfl, _, _, _, [], _, [], hW', trodAll_mk1 (shut_bool Try.underlying4 _), (trodAll_cons_mk (Below.trod laidOut (by kernel_rfl) (of_decide_eq_true (by kernel_rfl)) k0 bel lt0) (trodAll_cons_mk (Below.trod laidOut (by kernel_rfl) (of_decide_eq_true (by kernel_rfl)) k1 bel lt1) trodAll_mk0)), rfl, bel.frame _, fun h => by cases h⟩
theorem over : Rows.fnExactQuestionTextRow.holds Try.pinned (OpenSpec.ofChange Rows.fnExactQuestionTextSpec) :=
  OpenClaim.holds_of_wide 7 Try.f7 rfl rfl rfl rfl rfl rfl rfl ⟨rfl, rfl, rfl, rfl, rfl⟩ rfl rfl rfl rfl rfl (by kernel_rfl) Try.func7 (by kernel_rfl)
    (of_decide_eq_true (by kernel_rfl)) (by unfold Func.isWrapper; first | (rw [if_pos (by decide +kernel)]; kernel_rfl) | (rw [if_neg (by decide +kernel)]; exact ⟨rfl, rfl⟩))
    (fun os started H enc _ => lifted os started H enc)
theorem proved : Rows.FnExactQuestionTextSaid := over
#print axioms proved
end Go.Proofs.Ytnafjfdalapegaa.fnExactQuestionText
namespace Go.Proofs.Ytnafjfdalapegaa
/-- The row, under a short name, for the claim. -/
theorem fnExactQuestionText_holds : Rows.FnExactQuestionTextSaid := fnExactQuestionText.proved
end Go.Proofs.Ytnafjfdalapegaa
