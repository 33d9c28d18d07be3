/- For every input the law FnExactMakeQuestion returns true, and leaves its arguments as they were. No condition: the whole statement. -/
-- Written for the seat YtnafjfdalapegaaGreat by a program of this session (wip/tool/gx.py) out of the translation. Lean checks it.
import Derived.Test.YtnafjfdalapegaaGreatRows
import Derived.Test.YtnafjfdalapegaaGreatQLawsFnExactMakeQuestion
import Derived.Test.YtnafjfdalapegaaGreatPureFnExactMakeQuestion
import Derived.Test.YtnafjfdalapegaaGreatGOpen
import Derived.Test.YtnafjfdalapegaaGreatQBounds
import Derived.WalkKit
import Derived.ProofKit
import Derived.OpenShut
import Derived.ShutString
import Derived.ChangeOld
import Derived.Below
import Derived.SizedLaws
import Derived.Lib.SmallJoins
namespace Go.Proofs.YtnafjfdalapegaaGreat.fnExactMakeQuestion
open Go.ChangeShapes Go.WideShapes Go.ChangeAt Go.RowKit Go.Proofs.YtnafjfdalapegaaGreat.Q Go.Proofs.YtnafjfdalapegaaGreatW
set_option linter.unusedVariables false
set_option linter.unusedSimpArgs false
theorem own : ownKnob Tryz.prog.godebug = none := by kernel_rfl
theorem laidOut : laidOutB Tryz.prog = true := by kernel_rfl
theorem fit56 : GOpen.Fit Tryz.prog 56 k56 B56 := GOpen.fit_struct (fun x : S56 => (x.f0, x.f1, x.f2)) (fun y => ⟨y.1, y.2.1, y.2.2⟩) (fun y => rfl) Tryz.underlying56 (by kernel_rfl) (GOpen.fitFs_cons (by kernel_rfl) (GOpen.fit_string Tryz.underlying9 (by kernel_rfl)) (GOpen.fitFs_cons (by kernel_rfl) (GOpen.fit_slice_n (n := 8) Tryz.underlying26 (by kernel_rfl) (by kernel_rfl) (GOpen.fit_int Tryz.underlying3 (by kernel_rfl))) (GOpen.fitFs_one (by kernel_rfl) (GOpen.fit_int Tryz.underlying3 (by kernel_rfl)))))
set_option maxRecDepth 100000 in
theorem lifted (os : Os) (started : os.Started) (H : Type) (enc : TypeId × Value → H) :
  ReturnsInHanded {} Tryz.checked os 3 .any (Rows.fnExactMakeQuestionSpec.pre6 enc Tryz.prog Tryz.f3 Rows.fnExactMakeQuestionRow.domain false) (Rows.fnExactMakeQuestionSpec.post enc Tryz.prog Tryz.f3 false true false false) := by
 refine returnsInHanded_of_change_sized (C := Tryz.checked) own started (by kernel_rfl) Tryz.func3
  (ChangeSpec.witness6 (enc := enc) (C := Tryz.checked) false ⟨#[], #[.slice none 0 0, .slice none 0 0, .int .i64 0, .int .i64 0, .int .i64 0], []⟩ 8 (by kernel_rfl) (by kernel_rfl) (by kernel_rfl) (by kernel_rfl)) ?_
 intro W base args ds gs before hval0 hW hcnd hsz0 _
 have hsz : (DataW.weightsEach Tryz.prog (Tryz.f3.params.toList ++ Rows.fnExactMakeQuestionSpec.plain.varTypes Tryz.prog) (ds ++ gs)).all (· ≤ reachBytes) = true := hsz0
 have hval : ∀ (j : Nat) t v, Tryz.f3.params[j]? = some t → args[j]? = some v → Value.okWide Tryz.prog W .any base t v := hval0
 have hW' := hW
 obtain ⟨p, q, hA0, hV, rfl, hfz, hnd⟩ := hW
 have hA : DataW.TrodAll enc Tryz.prog W 0 (fun _ => true) true Tryz.f3.params.toList args.toList ds p := hA0
 rw [Tryz.params3] at hA hval hsz
 obtain ⟨v0, vs0, d0, ds0, p0, q0, hargs, rfl, rfl, h0, r0⟩ := trodAll_cons hA
 obtain ⟨v1, vs1, d1, ds1, p1, q1, rfl, rfl, rfl, h1, r1⟩ := trodAll_cons r0
 obtain ⟨v2, vs2, d2, ds2, p2, q2, rfl, rfl, rfl, h2, r2⟩ := trodAll_cons r1
 obtain ⟨v3, vs3, d3, ds3, p3, q3, rfl, rfl, rfl, h3, r3⟩ := trodAll_cons r2
 obtain ⟨v4, vs4, d4, ds4, p4, q4, rfl, rfl, rfl, h4, r4⟩ := trodAll_cons r3
 obtain ⟨rfl, rfl, rfl⟩ := trodAll_nil r4
 obtain rfl : args = #[v0, v1, v2, v3, v4] := by cases args; simp_all
 obtain ⟨rfl, rfl⟩ := trodVars_none hV
 have k0 := h0
 have lt0 := GOpen.trod_lt k0
 obtain ⟨a0, len0, cap0, rfl⟩ := okWide_slice Tryz.underlying22 (hval 0 22 v0 rfl rfl)
 obtain ⟨l0, rfl, hc0, hr0, hx0⟩ := GOpen.fit_row (GOpen.fit_slice_n (n := 48) Tryz.underlying22 (by kernel_rfl) (by kernel_rfl) fit56) hsz (j := 0) rfl rfl h0
 have k1 := h1
 have lt1 := GOpen.trod_lt k1
 obtain ⟨a1, len1, cap1, rfl⟩ := okWide_slice Tryz.underlying23 (hval 1 23 v1 rfl rfl)
 obtain ⟨l1, rfl, hc1, hr1, hx1⟩ := GOpen.fit_row (GOpen.fit_slice_n (n := 24) Tryz.underlying23 (by kernel_rfl) (by kernel_rfl) (GOpen.fit_slice_n (n := 8) Tryz.underlying26 (by kernel_rfl) (by kernel_rfl) (GOpen.fit_int Tryz.underlying3 (by kernel_rfl)))) hsz (j := 1) rfl rfl h1
 have k2 := h2
 have lt2 := GOpen.trod_lt k2
 obtain ⟨z2, rfl⟩ := okWide_int Tryz.underlying3 (hval 2 3 v2 rfl rfl)
 obtain ⟨y2, hK2, hB2⟩ := GOpen.fit_arg (GOpen.fit_int Tryz.underlying3 (by kernel_rfl)) hsz (j := 2) rfl rfl h2
 obtain rfl : y2 = z2 := by have e_ : [(.int .i64 z2 : Value)] = [.int .i64 y2] := hK2; injection e_ with e_ _; injection e_ with e1_ e2_; first | exact e2_.symm | exact e1_.symm
 have k3 := h3
 have lt3 := GOpen.trod_lt k3
 obtain ⟨z3, rfl⟩ := okWide_int Tryz.underlying3 (hval 3 3 v3 rfl rfl)
 obtain ⟨y3, hK3, hB3⟩ := GOpen.fit_arg (GOpen.fit_int Tryz.underlying3 (by kernel_rfl)) hsz (j := 3) rfl rfl h3
 obtain rfl : y3 = z3 := by have e_ : [(.int .i64 z3 : Value)] = [.int .i64 y3] := hK3; injection e_ with e_ _; injection e_ with e1_ e2_; first | exact e2_.symm | exact e1_.symm
 have k4 := h4
 have lt4 := GOpen.trod_lt k4
 obtain ⟨z4, rfl⟩ := okWide_int Tryz.underlying3 (hval 4 3 v4 rfl rfl)
 obtain ⟨y4, hK4, hB4⟩ := GOpen.fit_arg (GOpen.fit_int Tryz.underlying3 (by kernel_rfl)) hsz (j := 4) rfl rfl h4
 obtain rfl : y4 = z4 := by have e_ : [(.int .i64 z4 : Value)] = [.int .i64 y4] := hK4; injection e_ with e_ _; injection e_ with e1_ e2_; first | exact e2_.symm | exact e1_.symm
 clear hA0 hval0 hsz0 hsz
 refine (laws_FnExactMakeQuestion.walk Pure.FnExactMakeQuestion W a0 cap0 l0 hr0 hc0 hx0 a1 cap1 l1 hr1 hc1 hx1 y2 hB2 y3 hB3 y4 hB4).mono fun e W' ⟨he, bel⟩ => ?_
 subst he
 exact ⟨_, rfl, _, _, _, [], _, [], hW', trodAll_mk1 (shut_bool Tryz.underlying4 _), (trodAll_cons_mk (Below.trod laidOut (by kernel_rfl) (of_decide_eq_true (by kernel_rfl)) k0 bel lt0) (trodAll_cons_mk (Below.trod laidOut (by kernel_rfl) (of_decide_eq_true (by kernel_rfl)) k1 bel lt1) (trodAll_cons_mk (Below.trod laidOut (by kernel_rfl) (of_decide_eq_true (by kernel_rfl)) k2 bel lt2) (trodAll_cons_mk (Below.trod laidOut (by kernel_rfl) (of_decide_eq_true (by kernel_rfl)) k3 bel lt3) (trodAll_cons_mk (Below.trod laidOut (by kernel_rfl) (of_decide_eq_true (by kernel_rfl)) k4 bel lt4) trodAll_mk0))))), rfl, bel.frame _, fun h => by cases h⟩
theorem over : Rows.fnExactMakeQuestionRow.holds Tryz.pinned (OpenSpec.ofChange Rows.fnExactMakeQuestionSpec) :=
 OpenClaim.holds_of_wide 3 Tryz.f3 rfl rfl rfl rfl rfl rfl rfl ⟨rfl, rfl, rfl, rfl, rfl⟩ rfl rfl rfl rfl rfl (by kernel_rfl) Tryz.func3 (by kernel_rfl)
  (of_decide_eq_true (by kernel_rfl)) (by unfold Func.isWrapper; first | (rw [if_pos (by decide +kernel)]; kernel_rfl) | (rw [if_neg (by decide +kernel)]; exact ⟨rfl, rfl⟩))
  (fun os started H enc _ => lifted os started H enc)
theorem proved : Rows.FnExactMakeQuestionSaid := over
#print axioms proved
end Go.Proofs.YtnafjfdalapegaaGreat.fnExactMakeQuestion
namespace Go.Proofs.YtnafjfdalapegaaGreat
/-- The row, under a short name, for the claim. -/
theorem fnExactMakeQuestion_holds : Rows.FnExactMakeQuestionSaid := fnExactMakeQuestion.proved
end Go.Proofs.YtnafjfdalapegaaGreat
