-- Written for the seat Ytkobnljfoedmnaa by a program of this session (wip/tool/gx.py) out of the translation. Lean checks it.
import Derived.Test.YtkobnljfoedmnaaQ0
import Derived.WalkSpells
import Derived.Test.YtkobnljfoedmnaaWApart
import Derived.Test.YtkobnljfoedmnaaWFoot
import Derived.Test.YtkobnljfoedmnaaWKept
import Derived.Test.YtkobnljfoedmnaaWN
import Derived.Test.YtkobnljfoedmnaaWRepsOne
namespace Go.Proofs.Ytkobnljfoedmnaa.Q
open Go.RowKit Go.Proofs.YtkobnljfoedmnaaW.PrintWords Go.Proofs.YtkobnljfoedmnaaW.PrintLast Go.Proofs.YtkobnljfoedmnaaW.PrintMore
attribute [local go_sem] max2_int min2_int max_two min_two max_three min_three max_four min_four   -- for this text's walks alone
set_option linter.unusedVariables false
set_option linter.unusedSimpArgs false

/-! ### slices_Clone_impl_Card: function 48 -/
def slices_Clone_impl_Card.f (l0 : List (S24)) : Option ((List (S24))) := (some (([] : List (S24)) : List (S24))).bind fun y101 => (if y101.length + l0.length < 4398046511104 then (some (y101 ++ l0)) else (none))
set_option maxHeartbeats 3000000 in
set_option maxRecDepth 100000 in
theorem slices_Clone_impl_Card.calls (A0 : Option Addr) (c0 : Nat) (l0 : List (S24)) (r : List (S24)) (w : World) (hr0 : Kd.C k24 w A0 l0.length l0) (hc0 : l0.length ≤ c0) (h : slices_Clone_impl_Card.f l0 = some r) :
  Calls Try.prog 48 #[.slice A0 l0.length c0] w fun e w' => ∃ v0_ : Value,e = .returned (v0_) ∧ Kd.R k24 24 w' w.heap.size (fun _ => True) v0_ r ∧ Below w.heap.size w w' := by
 cases A0 with
 | none =>
  obtain rfl : l0 = [] := by
   rcases Nat.eq_zero_or_pos l0.length with h0_ | h0_
   ·exact List.eq_nil_of_length_eq_zero h0_
   ·obtain ⟨_,e_,_⟩ := hr0.2.2 h0_
    cases e_
  have hr_ : r = [] := by simp [slices_Clone_impl_Card.f] at h;first|exact h | exact h.symm
  subst hr_
  have hu29 := Try.underlying29
  have hq_ := fun (w : World) (n c n' c' : Nat) => Lib.run_eql_slice_nil (P := Try.prog) w 29 24 none n c n' c' hu29
  go_enter Try.func48,Try.ntmps48
  go_wp2
  go_ret
  exact ⟨.slice none 0 0,rfl,Kd.R_nil _ _ _ _ _,Below.refl _ _⟩
 | some ad0_ =>
  have hu_ := Try.underlying29
  have hq_ := fun (w : World) (n c n' c' : Nat) => Lib.run_eql_slice_nil (P := Try.prog) w 29 24 (some ad0_) n c n' c' hu_
  have HR0 := Aside0.mk hr0
  have HC0 := Aside0.mk hc0
  clear hr0 hc0
  have HB := Aside0.mk (Below.refl w.heap.size w)
  have H : ((some (([] : List (S24)) : List (S24))).bind fun y101 => (if y101.length + l0.length < 4398046511104 then (some (y101 ++ l0)) else (none))) = some r := h
  clear h
  obtain ⟨y101,hy101⟩ : ∃ y_ : List (S24),y_ = (([] : List (S24))) := ⟨_,rfl⟩
  replace H : (if y101.length + l0.length < 4398046511104 then (some (y101 ++ l0)) else (none)) = some r := by first|(rw [hy101];with_reducible exact H)|(have H2_ := (Option.bind_some _ _).symm.trans H;rw [hy101];with_reducible exact H2_)|(have H2_ := (Option.bind_some _ _).symm.trans H;with_reducible exact H2_) | with_reducible exact H | (rw [hy101];exact H) | exact H
  have Ny101 := Aside0.mk hy101
  clear hy101
  by_cases c2 : y101.length + l0.length < 4398046511104
  ·rw [if_pos c2] at H
   have LMc2 := Aside0.mk c2
   clear c2
   obtain ⟨y104,hy104⟩ : ∃ y_ : List (S24),y_ = (y101 ++ l0) := ⟨_,rfl⟩
   replace H : (some y104) = some r := by first|(rw [hy104];with_reducible exact H)|(have H2_ := (Option.bind_some _ _).symm.trans H;rw [hy104];with_reducible exact H2_)|(have H2_ := (Option.bind_some _ _).symm.trans H;with_reducible exact H2_) | with_reducible exact H | (rw [hy104];exact H) | exact H
   have Ny104 := Aside0.mk hy104
   clear hy104
   obtain rfl := Option.some.inj H
   go_enter Try.func48,Try.ntmps48
   go_wp2_with (first|((with_reducible refine gate_dst (N := 5) rfl ?_);refine Kd.R_lit k24 _ 24 ?hg (N := 5) ?hd (xs := ([] : List (S24))) (inner := []) (ok := fun _ => True) (okp := fun _ => True) ?hr ?hp (fun _ hk => hk) trivial (Below.refl _ _) (Nat.le_refl _) (by simp) ?_;(case hd => rfl);(case hg => rfl);(case hr => first|(go_simp;done)|(go_simp;rfl));(case hp => exact (Reps.none _ _));intro v102 w3 ho4 hb hg_ hnew_;clear hg_ hnew_;(first|rw [← Ny101.out] at ho4 | (simp only [Int.reduceToNat] at ho4;rw [← Ny101.out] at ho4));have n0_ := Aside0.mk (Kd.R_lower ho4 (below_size (by repeat (first|exact HB.out | apply below_alloc | apply pw_below_drewN | apply below_drew1))));have n1_ := Aside0.mk (below_step (by repeat (first|exact HB.out | apply below_alloc | apply pw_below_drewN | apply below_drew1)) hb);clear HB;have HO103 := n0_;have HB := n1_;clear n0_ n1_;clear hb ho4)|((with_reducible refine gate_builtin (b := .append) (xs := #[.tmp 5,.tmp 6]) rfl ?_);at_builtin;refine Kd.R_append_rows k24 (w0 := w) w.heap.size rfl (.tmp 5) (.tmp 6) 29 24 (.agg #[(.string ⟨#[]⟩),(.int .i64 0),(.int .i64 0)]) 32 rfl Try.underlying29 info24 rfl (by decide) (by omega) v102 y101 l0 _ _ _ (fun _ => True) (fun _ => False) rfl rfl ?aO ?aR (fun _ _ h => h) (fun _ h => h.elim) ?aF ?aB ?aS ?aL ?_;(case aR => repeat (first|exact (Kd.C_below HR0.out HB.out)|(with_reducible refine Kd.C_alloc ?_ _)|(with_reducible refine Kd.C_drewN ?_ _)|(with_reducible refine Kd.C_drew ?_)));(case aB => exact (by repeat (first|exact HB.out | apply below_alloc | apply pw_below_drewN | apply below_drew1)));(case aF => exact (fun _ _ => trivial));(case aO => exact (by (with_reducible repeat (first|apply Kd.R_alloc | apply Kd.R_drewN | apply Kd.R_drew));exact HO103.out));(case aS => exact (below_size (by repeat (first|exact HB.out | apply below_alloc | apply pw_below_drewN | apply below_drew1))));(case aL => have := LMc2.out;omega);intro v105 w5 ho hb hg hat;rw [← Ny104.out] at ho;have n0_ := Aside0.mk (hb);have n1_ := Aside0.mk (ho);clear HB;clear HO103;have HB := n0_;have HO106 := n1_;clear n0_ n1_;clear ho hb hg hat))
   go_ret
   exact ⟨_,by first|rfl | (simp [*,errW_none,errW_some] <;> rfl),by (with_reducible repeat (first|apply Kd.R_alloc | apply Kd.R_drewN | apply Kd.R_drew));exact HO106.out,by repeat (first|exact HB.out | apply below_alloc | apply pw_below_drewN | apply below_drew1)⟩
  ·rw [if_neg c2] at H
   exact absurd H (by simp)


end Go.Proofs.Ytkobnljfoedmnaa.Q
