-- Written for the seat Ytkobnljfoedmnaa by a program of this session (wip/tool/gx.py) out of the translation. Lean checks it.
import Derived.Test.YtkobnljfoedmnaaQ0
import Derived.Test.YtkobnljfoedmnaaQBImplRunAnswers1
import Derived.Ground.SlgfProg
import Derived.Lib.SliceRun
import Derived.Test.YtkobnljfoedmnaaGIdx
import Derived.Test.YtkobnljfoedmnaaWFoot
import Derived.Test.YtkobnljfoedmnaaWKept
import Derived.Test.YtkobnljfoedmnaaWShare
namespace Go.Proofs.Ytkobnljfoedmnaa.Q
open Go.RowKit Go.Proofs.YtkobnljfoedmnaaW.PrintWords Go.Proofs.YtkobnljfoedmnaaW.PrintLast Go.Proofs.YtkobnljfoedmnaaW.PrintMore
attribute [local go_sem] max2_int min2_int max_two min_two max_three min_three max_four min_four   -- for this text's walks alone
set_option linter.unusedVariables false
set_option linter.unusedSimpArgs false

/-! ### impl_allOf_impl_Answer: function 45 -/
def impl_allOf_impl_Answer.f (k : Nat) (l0 : List S45) : Option Bool := Go.Proofs.YtkobnljfoedmnaaW.GIdx.allO (fun x => impl_RunAnswers_1.f k x.f0 x.f1 x.f2) l0
theorem impl_allOf_impl_Answer.mono : ∀ a0 k,LeO (impl_allOf_impl_Answer.f k a0) (impl_allOf_impl_Answer.f (k + 1) a0) := fun a0 k => Go.Proofs.YtkobnljfoedmnaaW.GIdx.allO_mono (fun x => impl_RunAnswers_1.mono _ _ _ _) a0
set_option maxHeartbeats 1000000
end Go.Proofs.Ytkobnljfoedmnaa.Q
namespace Go.Proofs
open Go.Shelf
shelf_lay_g SlLaysH0.n8 Slgf 8 at Try 78 as Try.laysC78
end Go.Proofs
namespace Go.Proofs.Ytkobnljfoedmnaa.Q
open Go.RowKit Go.Lib Go.Proofs.YtkobnljfoedmnaaW.PrintWords Go.Proofs.YtkobnljfoedmnaaW.PrintLast Go.Proofs.YtkobnljfoedmnaaW.PrintMore Go.Proofs.YtkobnljfoedmnaaW Go.Proofs.Ytkobnljfoedmnaa.Q
set_option linter.unusedVariables false
set_option linter.unusedSimpArgs false
set_option maxHeartbeats 1000000 in
set_option maxRecDepth 100000 in
theorem impl_allOf_impl_Answer.pred (k : Nat) (l0 : List S45) (B : Nat) (w : World) (hB : B < w.heap.size) (hcell : w.cell? ⟨B,0,none⟩ = some (.func (.func 46) #[] #[])) (W : World) (x : S45) (cs : List Value) (b : Bool) (hb : Below w.heap.size w W) (hx : x ∈ l0) (hK : k45.K w x cs) (hpx : ((impl_RunAnswers_1.f k x.f0 x.f1 x.f2).map (!·)) = some b) :
  Calls Try.prog 79 (#[.agg cs.toArray] ++ #[.pointer (some ⟨B,0,none⟩)]) W fun e w' => e = .returned (.bool b) ∧ Below w.heap.size w w' := by
 have hc : W.cell? ⟨B,0,none⟩ = some (.func (.func 46) #[] #[]) := (hb.cell (p := ⟨B,0,none⟩) hB).trans hcell
 have e44 : ∀ args w,(callFunc 46 args).run Try.prog w = .ok (.enter 46 args) w := enters_of Try.func46 (by kernel_rfl) rfl
 have hu := Try.underlying45
 cases hr : impl_RunAnswers_1.f k x.f0 x.f1 x.f2 with
 | none => rw [hr] at hpx;cases hpx
 | some r =>
  rw [hr] at hpx
  obtain rfl := Option.some.inj hpx
  obtain rfl := k45_open hK
  have hcon := fun W' (hb' : Below w.heap.size w W') => (impl_RunAnswers_1.calls k x.f0 x.f1 x.f2 r W' hr).mono (fun e w' h_ => (⟨h_.1,hb'.trans (h_.2.mono hb'.size)⟩ : e = .returned (.bool r) ∧ Below w.heap.size w w'))
  have HC := Aside0.mk hcon
  clear hcon hr hK hpx
  show Calls Try.prog 79 #[.agg #[.int .i64 x.f0,.string x.f1,.bool x.f2],.pointer (some ⟨B,0,none⟩)] W _
  have HBB := Aside0.mk hb
  have hc2 : (W.alloc (.cells #[.int .i64 x.f0,.string x.f1,.bool x.f2] 45)).cell? ⟨B,0,none⟩ = some (.func (.func 46) #[] #[]) := Lib.cell?_alloc_some _ hc
  clear hb hc
  go_enter Try.func79,Try.ntmps79
  go_wp2_with (go_at_fn 46;refine (HC.out _ (by repeat (first|exact HBB.out | apply pw_below_drewN | apply below_alloc))).mono ?_;rintro e w' ⟨rfl,hb'⟩)
  go_ret
  exact ⟨rfl,hb'⟩
set_option maxHeartbeats 1000000 in
set_option maxRecDepth 100000 in
theorem impl_allOf_impl_Answer.calls (k : Nat) (A0 : Option Addr) (c0 : Nat) (l0 : List S45) (r : Bool) (w : World) (hr0 : Kd.C k45 w A0 l0.length l0) (hc0 : l0.length ≤ c0) (h : impl_allOf_impl_Answer.f k l0 = some r) :
  Calls Try.prog 45 #[.slice A0 l0.length c0,.func (.func 46) #[] #[]] w fun e w' => e = .returned (.bool r) ∧ Below w.heap.size w w' := by
 have eg : ∀ args w,(callFunc 79 args).run Try.prog w = .ok (.enter 79 args) w := enters_of Try.func79 (by kernel_rfl) rfl
 have hbel : Below w.heap.size w (w.alloc (.cells #[.func (.func 46) #[] #[]] 79)) := below_alloc (Below.refl _ _) _
 unfold impl_allOf_impl_Answer.f GIdx.allO at h
 cases hany : GIdx.anyO (fun x => (impl_RunAnswers_1.f k x.f0 x.f1 x.f2).map (!·)) l0 with
 | none => rw [hany] at h;cases h
 | some q =>
  rw [hany] at h
  obtain rfl := Option.some.inj h
  have hcon := GIdx.any_agg Try.laysC78 k45 3 rfl (by decide) Try.isAgg45 Try.sizeOf45 (fun x => (impl_RunAnswers_1.f k x.f0 x.f1 x.f2).map (!·)) 79 #[.pointer (some ⟨w.heap.size,0,none⟩)] eg A0 l0.length c0 l0 (w.alloc (.cells #[.func (.func 46) #[] #[]] 79)) rfl (Kd.C_below hr0 hbel) q
   (impl_allOf_impl_Answer.pred k l0 w.heap.size _ (by simp) (by simp)) hany
  change Calls Try.prog 78 _ _ _ at hcon
  have HC := Aside0.mk hcon
  clear hcon hr0 hany h
  go_enter Try.func45,Try.ntmps45
  go_wp2_with (go_at_call 78;refine HC.out.mono ?_;rintro e w' ⟨rfl,hb⟩)
  go_ret
  exact ⟨rfl,hbel.trans (hb.mono (by simp))⟩


end Go.Proofs.Ytkobnljfoedmnaa.Q
