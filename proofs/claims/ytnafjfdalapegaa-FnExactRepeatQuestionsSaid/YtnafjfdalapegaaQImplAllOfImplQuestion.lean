-- Written for the seat Ytnafjfdalapegaa by a program of this session (wip/tool/gx.py) out of the translation. Lean checks it.
import Derived.Test.YtnafjfdalapegaaQ0
import Derived.Test.YtnafjfdalapegaaQImplIsQuestion
import Derived.Ground.SlgfProg
import Derived.Lib.SliceRun
import Derived.Test.YtnafjfdalapegaaGIdx
import Derived.Test.YtnafjfdalapegaaWFoot
import Derived.Test.YtnafjfdalapegaaWKept
import Derived.Test.YtnafjfdalapegaaWShare
namespace Go.Proofs.Ytnafjfdalapegaa.Q
open Go.RowKit Go.Proofs.YtnafjfdalapegaaW.PrintWords Go.Proofs.YtnafjfdalapegaaW.PrintLast Go.Proofs.YtnafjfdalapegaaW.PrintMore
attribute [local go_sem] max2_int min2_int max_two min_two max_three min_three max_four min_four   -- for this text's walks alone
set_option linter.unusedVariables false
set_option linter.unusedSimpArgs false

/-! ### impl_allOf_impl_Question: function 73 -/
def impl_allOf_impl_Question.f (k : Nat) (l0 : List S28) : Option Bool := Go.Proofs.YtnafjfdalapegaaW.GIdx.allO (fun x => impl_isQuestion.f k x.f0 x.f1) l0
theorem impl_allOf_impl_Question.mono : ∀ a0 k, LeO (impl_allOf_impl_Question.f k a0) (impl_allOf_impl_Question.f (k + 1) a0) := fun a0 k => Go.Proofs.YtnafjfdalapegaaW.GIdx.allO_mono (fun x => impl_isQuestion.mono _ _ _) a0
set_option maxHeartbeats 1000000
end Go.Proofs.Ytnafjfdalapegaa.Q
namespace Go.Proofs
open Go.Shelf
shelf_lay_g SlLaysH0.n8 Slgf 8 at Try 94 as Try.laysC94
end Go.Proofs
namespace Go.Proofs.Ytnafjfdalapegaa.Q
open Go.RowKit Go.Lib Go.Proofs.YtnafjfdalapegaaW.PrintWords Go.Proofs.YtnafjfdalapegaaW.PrintLast Go.Proofs.YtnafjfdalapegaaW.PrintMore Go.Proofs.YtnafjfdalapegaaW Go.Proofs.Ytnafjfdalapegaa.Q
set_option linter.unusedVariables false
set_option linter.unusedSimpArgs false
set_option maxHeartbeats 1000000 in
set_option maxRecDepth 100000 in
theorem impl_allOf_impl_Question.pred (k : Nat) (l0 : List S28) (B : Nat) (w : World) (hB : B < w.heap.size) (hcell : w.cell? ⟨B, 0, none⟩ = some (.func (.func 45) #[] #[])) (W : World) (x : S28) (cs : List Value) (b : Bool) (hb : Below w.heap.size w W) (hx : x ∈ l0) (hK : k28.K w x cs) (hpx : ((impl_isQuestion.f k x.f0 x.f1).map (!·)) = some b) :
    Calls Try.prog 95 (#[.agg cs.toArray] ++ #[.pointer (some ⟨B, 0, none⟩)]) W fun e w' => e = .returned (.bool b) ∧ Below w.heap.size w w' := by
  have hc : W.cell? ⟨B, 0, none⟩ = some (.func (.func 45) #[] #[]) := (hb.cell (p := ⟨B, 0, none⟩) hB).trans hcell
  have e44 : ∀ args w, (callFunc 45 args).run Try.prog w = .ok (.enter 45 args) w := enters_of Try.func45 (by kernel_rfl) rfl
  have hu := Try.underlying28
  cases hr : impl_isQuestion.f k x.f0 x.f1 with
  | none => rw [hr] at hpx; cases hpx
  | some r =>
    rw [hr] at hpx
    obtain rfl := Option.some.inj hpx
    obtain ⟨A1, c1, rfl, hl, hC⟩ := k28_open hK
    have hcon := fun W' (hb' : Below w.heap.size w W') => (impl_isQuestion.calls k x.f0 A1 c1 x.f1 r W' (Kd.C_below hC hb') hl hr).mono (fun e w' h_ => (⟨h_.1, hb'.trans (h_.2.mono hb'.size)⟩ : e = .returned (.bool r) ∧ Below w.heap.size w w'))
    have HC := Aside0.mk hcon
    clear hcon hr hK hpx
    show Calls Try.prog 95 #[.agg #[.int .i64 x.f0, .slice A1 x.f1.length c1], .pointer (some ⟨B, 0, none⟩)] W _
    have HBB := Aside0.mk hb
    have hc2 : (W.alloc (.cells #[.int .i64 x.f0, .slice A1 x.f1.length c1] 28)).cell? ⟨B, 0, none⟩ = some (.func (.func 45) #[] #[]) := Lib.cell?_alloc_some _ hc
    clear hb hc
    go_enter Try.func95, Try.ntmps95
    go_wp2_with (go_at_fn 45; refine (HC.out _ (by repeat (first | exact HBB.out | apply pw_below_drewN | apply below_alloc))).mono ?_; rintro e w' ⟨rfl, hb'⟩)
    go_ret
    exact ⟨rfl, hb'⟩
set_option maxHeartbeats 1000000 in
set_option maxRecDepth 100000 in
theorem impl_allOf_impl_Question.calls (k : Nat) (A0 : Option Addr) (c0 : Nat) (l0 : List S28) (r : Bool) (w : World) (hr0 : Kd.C k28 w A0 l0.length l0) (hc0 : l0.length ≤ c0) (h : impl_allOf_impl_Question.f k l0 = some r) :
    Calls Try.prog 73 #[.slice A0 l0.length c0, .func (.func 45) #[] #[]] w fun e w' => e = .returned (.bool r) ∧ Below w.heap.size w w' := by
  have eg : ∀ args w, (callFunc 95 args).run Try.prog w = .ok (.enter 95 args) w := enters_of Try.func95 (by kernel_rfl) rfl
  have hbel : Below w.heap.size w (w.alloc (.cells #[.func (.func 45) #[] #[]] 65)) := below_alloc (Below.refl _ _) _
  unfold impl_allOf_impl_Question.f GIdx.allO at h
  cases hany : GIdx.anyO (fun x => (impl_isQuestion.f k x.f0 x.f1).map (!·)) l0 with
  | none => rw [hany] at h; cases h
  | some q =>
    rw [hany] at h
    obtain rfl := Option.some.inj h
    have hcon := GIdx.any_agg Try.laysC94 k28 2 rfl (by decide) Try.isAgg28 Try.sizeOf28 (fun x => (impl_isQuestion.f k x.f0 x.f1).map (!·)) 95 #[.pointer (some ⟨w.heap.size, 0, none⟩)] eg A0 l0.length c0 l0 (w.alloc (.cells #[.func (.func 45) #[] #[]] 65)) rfl (Kd.C_below hr0 hbel) q
      (impl_allOf_impl_Question.pred k l0 w.heap.size _ (by simp) (by simp)) hany
    change Calls Try.prog 94 _ _ _ at hcon
    have HC := Aside0.mk hcon
    clear hcon hr0 hany h
    go_enter Try.func73, Try.ntmps73
    go_wp2_with (go_at_call 94; refine HC.out.mono ?_; rintro e w' ⟨rfl, hb⟩)
    go_ret
    exact ⟨rfl, hbel.trans (hb.mono (by simp))⟩


end Go.Proofs.Ytnafjfdalapegaa.Q
