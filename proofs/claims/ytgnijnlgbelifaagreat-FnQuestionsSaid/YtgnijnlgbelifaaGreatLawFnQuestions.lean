/- For every input the law FnQuestions returns true,and leaves its arguments as they were. No condition: the whole statement. -/
-- Written for the seat YtgnijnlgbelifaaGreat by a program of this session (wip/tool/gx.py) out of the translation. Lean checks it.
import Derived.Test.YtgnijnlgbelifaaGreatRows
import Derived.Test.YtgnijnlgbelifaaGreatPureFnQuestions
import Derived.Test.YtgnijnlgbelifaaGreatGOpen
import Derived.WalkKit
import Derived.ProofKit
import Derived.OpenShut
import Derived.ShutString
import Derived.ChangeOld
import Derived.Below
import Derived.SizedLaws
import Derived.Lib.SmallJoins
namespace Go.Proofs.YtgnijnlgbelifaaGreat.fnQuestions
open Go.ChangeShapes Go.WideShapes Go.ChangeAt Go.RowKit Go.Proofs.YtgnijnlgbelifaaGreat.Q Go.Proofs.YtgnijnlgbelifaaGreatW
set_option linter.unusedVariables false
set_option linter.unusedSimpArgs false
theorem own : ownKnob Tryz.prog.godebug = none := by kernel_rfl
theorem laidOut : laidOutB Tryz.prog = true := by kernel_rfl
set_option maxRecDepth 100000 in
theorem lifted (os : Os) (started : os.Started) (H : Type) (enc : TypeId × Value → H) :
  ReturnsInHanded {} Tryz.checked os 3 .any (Rows.fnQuestionsSpec.pre6 enc Tryz.prog Tryz.f3 Rows.fnQuestionsRow.domain false) (Rows.fnQuestionsSpec.post enc Tryz.prog Tryz.f3 false true false false) := by
 refine returnsInHanded_of_change_sized (C := Tryz.checked) own started (by kernel_rfl) Tryz.func3
  (ChangeSpec.witness6 (enc := enc) (C := Tryz.checked) false ⟨#[],#[.slice none 0 0,.slice none 0 0],[]⟩ 8 (by kernel_rfl) (by kernel_rfl) (by kernel_rfl) (by kernel_rfl)) ?_
 intro W base args ds gs before hval0 hW hcnd hsz0 _
 have hsz : (DataW.weightsEach Tryz.prog (Tryz.f3.params.toList ++ Rows.fnQuestionsSpec.plain.varTypes Tryz.prog) (ds ++ gs)).all (· ≤ reachBytes) = true := hsz0
 have hval : ∀ (j : Nat) t v,Tryz.f3.params[j]? = some t → args[j]? = some v → Value.okWide Tryz.prog W .any base t v := hval0
 have hW' := hW
 obtain ⟨p,q,hA0,hV,rfl,hfz,hnd⟩ := hW
 have hA : DataW.TrodAll enc Tryz.prog W 0 (fun _ => true) true Tryz.f3.params.toList args.toList ds p := hA0
 rw [Tryz.params3] at hA hval hsz
 obtain ⟨v0,vs0,d0,ds0,p0,q0,hargs,rfl,rfl,h0,r0⟩ := trodAll_cons hA
 obtain ⟨v1,vs1,d1,ds1,p1,q1,rfl,rfl,rfl,h1,r1⟩ := trodAll_cons r0
 obtain ⟨rfl,rfl,rfl⟩ := trodAll_nil r1
 obtain rfl : args = #[v0,v1] := by cases args;simp_all
 obtain ⟨rfl,rfl⟩ := trodVars_none hV
 have k0 := h0
 have lt0 := GOpen.trod_lt k0
 obtain ⟨a0,len0,cap0,rfl⟩ := okWide_slice Tryz.underlying22 (hval 0 22 v0 rfl rfl)
 obtain ⟨l0,rfl,hc0,hr0,hx0⟩ := GOpen.Ejy (GOpen.Efu (n := 1) Tryz.underlying22 (by kernel_rfl) (by kernel_rfl) (GOpen.Ejw Tryz.underlying5 (by kernel_rfl))) hsz (j := 0) rfl rfl h0
 have k1 := h1
 have lt1 := GOpen.trod_lt k1
 obtain ⟨a1,len1,cap1,rfl⟩ := okWide_slice Tryz.underlying22 (hval 1 22 v1 rfl rfl)
 obtain ⟨l1,rfl,hc1,hr1,hx1⟩ := GOpen.Ejy (GOpen.Efu (n := 1) Tryz.underlying22 (by kernel_rfl) (by kernel_rfl) (GOpen.Ejw Tryz.underlying5 (by kernel_rfl))) hsz (j := 1) rfl rfl h1
 clear hA0 hval0 hsz0 hsz
 refine (Fb.walk Pure.FnQuestions W a0 cap0 l0 hr0 hc0 hx0 a1 cap1 l1 hr1 hc1 hx1).mono fun e W' ⟨he,bel⟩ => ?_
 subst he
 exact ⟨_,rfl,_,_,_,[],_,[],hW',trodAll_mk1 (shut_bool Tryz.underlying4 _),(trodAll_cons_mk (Below.trod laidOut (by kernel_rfl) (of_decide_eq_true (by kernel_rfl)) k0 bel lt0) (trodAll_cons_mk (Below.trod laidOut (by kernel_rfl) (of_decide_eq_true (by kernel_rfl)) k1 bel lt1) trodAll_mk0)),rfl,bel.frame _,fun h => by cases h⟩
theorem over : Rows.fnQuestionsRow.holds Tryz.pinned (OpenSpec.ofChange Rows.fnQuestionsSpec) :=
 OpenClaim.holds_of_wide 3 Tryz.f3 rfl rfl rfl rfl rfl rfl rfl ⟨rfl,rfl,rfl,rfl,rfl⟩ rfl rfl rfl rfl rfl (by kernel_rfl) Tryz.func3 (by kernel_rfl)
  (of_decide_eq_true (by kernel_rfl)) (by unfold Func.isWrapper;first|(rw [if_pos (by decide +kernel)];kernel_rfl)|(rw [if_neg (by decide +kernel)];exact ⟨rfl,rfl⟩))
  (fun os started H enc _ => lifted os started H enc)
theorem proved : Rows.FnQuestionsSaid := over
#print axioms proved
end Go.Proofs.YtgnijnlgbelifaaGreat.fnQuestions
namespace Go.Proofs.YtgnijnlgbelifaaGreat
/-- The row, under a short name, for the claim. -/
theorem fnQuestions_holds : Rows.FnQuestionsSaid := fnQuestions.proved
end Go.Proofs.YtgnijnlgbelifaaGreat
