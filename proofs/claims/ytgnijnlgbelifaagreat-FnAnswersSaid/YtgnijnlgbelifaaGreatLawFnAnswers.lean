/- For every input the law FnAnswers returns true,and leaves its arguments as they were. No condition: the whole statement. -/
-- Written for the seat YtgnijnlgbelifaaGreat by a program of this session (wip/tool/gx.py) out of the translation. Lean checks it.
import Derived.Test.YtgnijnlgbelifaaGreatRows
import Derived.Test.YtgnijnlgbelifaaGreatPureFnAnswers
import Derived.Test.YtgnijnlgbelifaaGreatGOpen
namespace Go.Proofs.YtgnijnlgbelifaaGreat.fnAnswers
open ChangeShapes WideShapes ChangeAt RowKit Q W
set_option linter.unusedVariables false
set_option linter.unusedSimpArgs false
theorem own : ownKnob Tryz.prog.godebug = none := by kernel_rfl
theorem laidOut : laidOutB Tryz.prog = true := by kernel_rfl
set_option maxRecDepth 100000 in
theorem lifted (os : Os) (started : os.Started) (H : Type) (enc : TypeId × Value → H) :
  ReturnsInHanded {} Tryz.checked os 5 .any (Rows.fnAnswersSpec.pre6 enc Tryz.prog Tryz.f5 Rows.fnAnswersRow.domain false) (Rows.fnAnswersSpec.post enc Tryz.prog Tryz.f5 false true false false) := by
 refine returnsInHanded_of_change_sized (C := Tryz.checked) own started (by kernel_rfl) Tryz.func5
  (ChangeSpec.witness6 (enc := enc) (C := Tryz.checked) false ⟨#[],#[.slice none 0 0,.slice none 0 0],[]⟩ 8 (by kernel_rfl) (by kernel_rfl) (by kernel_rfl) (by kernel_rfl)) ?_
 intro W base args ds gs before hval0 hW hcnd hsz0 _
 have hsz : (DataW.weightsEach Tryz.prog (Tryz.f5.params.toList ++ Rows.fnAnswersSpec.plain.varTypes Tryz.prog) (ds ++ gs)).all (· ≤ reachBytes) = true := hsz0
 have hval : ∀ (j : Nat) t v,Tryz.f5.params[j]? = some t → args[j]? = some v → Value.okWide Tryz.prog W .any base t v := hval0
 have hW' := hW
 obtain ⟨p,q,hA0,hV,rfl,hfz,hnd⟩ := hW
 have hA : DataW.TrodAll enc Tryz.prog W 0 (fun _ => true) true Tryz.f5.params.toList args.toList ds p := hA0
 rw [Tryz.params5] at hA hval hsz
 obtain ⟨v0,vs0,d0,ds0,p0,q0,hargs,rfl,rfl,h0,r0⟩ := trodAll_cons hA
 obtain ⟨v1,vs1,d1,ds1,p1,q1,rfl,rfl,rfl,h1,r1⟩ := trodAll_cons r0
 obtain ⟨rfl,rfl,rfl⟩ := trodAll_nil r1
 obtain rfl : args = #[v0,v1] := by cases args;simp_all
 obtain ⟨rfl,rfl⟩ := trodVars_none hV
 have k0 := h0
 have lt0 := GOpen.trod_lt k0
 obtain ⟨a0,len0,cap0,rfl⟩ := okWide_slice Tryz.underlying22 (hval 0 22 v0 rfl rfl)
 obtain ⟨l0,rfl,hc0,hr0,hx0⟩ := GOpen.Ekc (GOpen.Egc (n := 1) Tryz.underlying22 (by kernel_rfl) (by kernel_rfl) (GOpen.Eka Tryz.underlying5 (by kernel_rfl))) hsz (j := 0) rfl rfl h0
 have k1 := h1
 have lt1 := GOpen.trod_lt k1
 obtain ⟨a1,len1,cap1,rfl⟩ := okWide_slice Tryz.underlying22 (hval 1 22 v1 rfl rfl)
 obtain ⟨l1,rfl,hc1,hr1,hx1⟩ := GOpen.Ekc (GOpen.Egc (n := 1) Tryz.underlying22 (by kernel_rfl) (by kernel_rfl) (GOpen.Eka Tryz.underlying5 (by kernel_rfl))) hsz (j := 1) rfl rfl h1
 clear hA0 hval0 hsz0 hsz
 refine (Ff.walk Pure.FnAnswers W a0 cap0 l0 hr0 hc0 hx0 a1 cap1 l1 hr1 hc1 hx1).mono fun e W' ⟨he,bel⟩ => ?_
 subst he
 exact ⟨_,rfl,_,_,_,[],_,[],hW',trodAll_mk1 (shut_bool Tryz.underlying4 _),(trodAll_cons_mk (Below.trod laidOut (by kernel_rfl) (of_decide_eq_true (by kernel_rfl)) k0 bel lt0) (trodAll_cons_mk (Below.trod laidOut (by kernel_rfl) (of_decide_eq_true (by kernel_rfl)) k1 bel lt1) trodAll_mk0)),rfl,bel.frame _,fun h => by cases h⟩
theorem over : Rows.fnAnswersRow.holds Tryz.pinned (OpenSpec.ofChange Rows.fnAnswersSpec) :=
 OpenClaim.holds_of_wide 5 Tryz.f5 rfl rfl rfl rfl rfl rfl rfl ⟨rfl,rfl,rfl,rfl,rfl⟩ rfl rfl rfl rfl rfl (by kernel_rfl) Tryz.func5 (by kernel_rfl)
  (of_decide_eq_true (by kernel_rfl)) (by unfold Func.isWrapper;first|(rw [if_pos (by decide +kernel)];kernel_rfl)|(rw [if_neg (by decide +kernel)];exact ⟨rfl,rfl⟩))
  (fun os started H enc _ => lifted os started H enc)
theorem proved : Rows.FnAnswersSaid := over
#print axioms proved
end Go.Proofs.YtgnijnlgbelifaaGreat.fnAnswers
namespace Go.Proofs.YtgnijnlgbelifaaGreat
/-- The row, under a short name, for the claim. -/
theorem fnAnswers_holds : Rows.FnAnswersSaid := fnAnswers.proved
end Go.Proofs.YtgnijnlgbelifaaGreat
