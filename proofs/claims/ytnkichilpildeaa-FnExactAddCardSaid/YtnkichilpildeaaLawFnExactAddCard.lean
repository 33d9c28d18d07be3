/- For every input the law FnExactAddCard returns true, and leaves its arguments as they were. No condition: the whole statement. -/
-- Written for the seat Ytnkichilpildeaa by a program of this session (wip/tool/gx.py) out of the translation. Lean checks it.
import Derived.Test.YtnkichilpildeaaRows
import Derived.Test.YtnkichilpildeaaQLawsFnExactAddCard
import Derived.Test.YtnkichilpildeaaPureFnExactAddCard
import Derived.Test.YtnkichilpildeaaGOpen
import Derived.Test.YtnkichilpildeaaQBounds
import Derived.WalkKit
import Derived.ProofKit
import Derived.OpenShut
import Derived.ShutString
import Derived.ChangeOld
import Derived.Below
import Derived.SizedLaws
import Derived.Lib.SmallJoins
namespace Go.Proofs.Ytnkichilpildeaa.fnExactAddCard
open Go.ChangeShapes Go.WideShapes Go.ChangeAt Go.RowKit Go.Proofs.Ytnkichilpildeaa.Q Go.Proofs.YtnkichilpildeaaW
set_option linter.unusedVariables false
set_option linter.unusedSimpArgs false
theorem own : ownKnob Try.prog.godebug = none := by kernel_rfl
theorem laidOut : laidOutB Try.prog = true := by kernel_rfl
theorem fit71 : GOpen.Fit Try.prog 71 k71 B71 := GOpen.fit_struct (fun x : S71 => (x.f0, x.f1, x.f2)) (fun y => ⟨y.1, y.2.1, y.2.2⟩) (fun y => rfl) Try.underlying71 (by kernel_rfl) (GOpen.fitFs_cons (by kernel_rfl) (GOpen.fit_string Try.underlying9 (by kernel_rfl)) (GOpen.fitFs_cons (by kernel_rfl) (GOpen.fit_int Try.underlying3 (by kernel_rfl)) (GOpen.fitFs_one (by kernel_rfl) (GOpen.fit_int Try.underlying3 (by kernel_rfl)))))
set_option maxRecDepth 100000 in
theorem lifted (os : Os) (started : os.Started) (H : Type) (enc : TypeId × Value → H) :
    ReturnsInHanded {} Try.checked os 8 .any (Rows.fnExactAddCardSpec.pre6 enc Try.prog Try.f8 Rows.fnExactAddCardRow.domain false) (Rows.fnExactAddCardSpec.post enc Try.prog Try.f8 false true false false) := by
  refine returnsInHanded_of_change_sized (C := Try.checked) own started (by kernel_rfl) Try.func8
    (ChangeSpec.witness6 (enc := enc) (C := Try.checked) false ⟨#[], #[.slice none 0 0, .string ByteArray.empty, .int .i64 0], []⟩ 8 (by kernel_rfl) (by kernel_rfl) (by kernel_rfl) (by kernel_rfl)) ?_
  intro W base args ds gs before hval0 hW hcnd hsz0 _
  have hsz : (DataW.weightsEach Try.prog (Try.f8.params.toList ++ Rows.fnExactAddCardSpec.plain.varTypes Try.prog) (ds ++ gs)).all (· ≤ reachBytes) = true := hsz0
  have hval : ∀ (j : Nat) t v, Try.f8.params[j]? = some t → args[j]? = some v → Value.okWide Try.prog W .any base t v := hval0
  have hW' := hW
  obtain ⟨p, q, hA0, hV, rfl, hfz, hnd⟩ := hW
  have hA : DataW.TrodAll enc Try.prog W 0 (fun _ => true) true Try.f8.params.toList args.toList ds p := hA0
  rw [Try.params8] at hA hval hsz
  obtain ⟨v0, vs0, d0, ds0, p0, q0, hargs, rfl, rfl, h0, r0⟩ := trodAll_cons hA
  obtain ⟨v1, vs1, d1, ds1, p1, q1, rfl, rfl, rfl, h1, r1⟩ := trodAll_cons r0
  obtain ⟨v2, vs2, d2, ds2, p2, q2, rfl, rfl, rfl, h2, r2⟩ := trodAll_cons r1
  obtain ⟨rfl, rfl, rfl⟩ := trodAll_nil r2
  obtain rfl : args = #[v0, v1, v2] := by cases args; simp_all
  obtain ⟨rfl, rfl⟩ := trodVars_none hV
  have k0 := h0
  have lt0 := GOpen.trod_lt k0
  obtain ⟨a0, len0, cap0, rfl⟩ := okWide_slice Try.underlying22 (hval 0 22 v0 rfl rfl)
  obtain ⟨l0, rfl, hc0, hr0, hx0⟩ := GOpen.fit_row (GOpen.fit_slice_n (n := 32) Try.underlying22 (by kernel_rfl) (by kernel_rfl) fit71) hsz (j := 0) rfl rfl h0
  have k1 := h1
  have lt1 := GOpen.trod_lt k1
  obtain ⟨z1, rfl⟩ := okWide_string Try.underlying9 (hval 1 9 v1 rfl rfl)
  obtain ⟨y1, hK1, hB1⟩ := GOpen.fit_arg (GOpen.fit_string Try.underlying9 (by kernel_rfl)) hsz (j := 1) rfl rfl h1
  obtain rfl : y1 = z1 := by have e_ : [(.string z1 : Value)] = [.string y1] := hK1; injection e_ with e_ _; injection e_ with e1_; exact e1_.symm
  have k2 := h2
  have lt2 := GOpen.trod_lt k2
  obtain ⟨z2, rfl⟩ := okWide_int Try.underlying3 (hval 2 3 v2 rfl rfl)
  obtain ⟨y2, hK2, hB2⟩ := GOpen.fit_arg (GOpen.fit_int Try.underlying3 (by kernel_rfl)) hsz (j := 2) rfl rfl h2
  obtain rfl : y2 = z2 := by have e_ : [(.int .i64 z2 : Value)] = [.int .i64 y2] := hK2; injection e_ with e_ _; injection e_ with e1_ e2_; first | exact e2_.symm | exact e1_.symm
  clear hA0 hval0 hsz0 hsz
  refine (laws_FnExactAddCard.walk Pure.FnExactAddCard W a0 cap0 l0 hr0 hc0 hx0 y1 hB1 y2 hB2).mono fun e W' ⟨he, bel⟩ => ?_
  subst he
  exact ⟨_, rfl, _, _, _, [], _, [], hW', trodAll_mk1 (shut_bool Try.underlying4 _), (trodAll_cons_mk (Below.trod laidOut (by kernel_rfl) (of_decide_eq_true (by kernel_rfl)) k0 bel lt0) (trodAll_cons_mk (Below.trod laidOut (by kernel_rfl) (of_decide_eq_true (by kernel_rfl)) k1 bel lt1) (trodAll_cons_mk (Below.trod laidOut (by kernel_rfl) (of_decide_eq_true (by kernel_rfl)) k2 bel lt2) trodAll_mk0))), rfl, bel.frame _, fun h => by cases h⟩
theorem over : Rows.fnExactAddCardRow.holds Try.pinned (OpenSpec.ofChange Rows.fnExactAddCardSpec) :=
  OpenClaim.holds_of_wide 8 Try.f8 rfl rfl rfl rfl rfl rfl rfl ⟨rfl, rfl, rfl, rfl, rfl⟩ rfl rfl rfl rfl rfl (by kernel_rfl) Try.func8 (by kernel_rfl)
    (of_decide_eq_true (by kernel_rfl)) (by unfold Func.isWrapper; first | (rw [if_pos (by decide +kernel)]; kernel_rfl) | (rw [if_neg (by decide +kernel)]; exact ⟨rfl, rfl⟩))
    (fun os started H enc _ => lifted os started H enc)
theorem proved : Rows.FnExactAddCardSaid := over
#print axioms proved
end Go.Proofs.Ytnkichilpildeaa.fnExactAddCard
namespace Go.Proofs.Ytnkichilpildeaa
/-- The row, under a short name, for the claim. -/
theorem fnExactAddCard_holds : Rows.FnExactAddCardSaid := fnExactAddCard.proved
end Go.Proofs.Ytnkichilpildeaa
