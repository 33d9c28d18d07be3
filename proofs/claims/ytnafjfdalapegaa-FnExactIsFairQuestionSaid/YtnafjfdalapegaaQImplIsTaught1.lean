-- Written for the seat Ytnafjfdalapegaa by a program of this session (wip/tool/gx.py) out of the translation. Lean checks it.
import Derived.Test.YtnafjfdalapegaaQ0
import Derived.Test.YtnafjfdalapegaaQBSlicesIndexInt
import Derived.Ground.SlgfProg
import Derived.Test.YtnafjfdalapegaaGIdx
import Derived.Test.YtnafjfdalapegaaWFoot
import Derived.Test.YtnafjfdalapegaaWKept
import Derived.Test.YtnafjfdalapegaaWShare
namespace Go.Proofs.Ytnafjfdalapegaa.Q
open Go.RowKit Go.Proofs.YtnafjfdalapegaaW.PrintWords Go.Proofs.YtnafjfdalapegaaW.PrintLast Go.Proofs.YtnafjfdalapegaaW.PrintMore
attribute [local go_sem] max2_int min2_int max_two min_two max_three min_three max_four min_four   -- for this text's walks alone
set_option linter.unusedVariables false
set_option linter.unusedSimpArgs false

/-! ### impl_isTaught_1: function 91 -/
def impl_isTaught_1.f (k : Nat) (l0 : List (List Int)) (a1 : Int) : Option Bool := Go.Proofs.YtnafjfdalapegaaW.GIdx.anyO (fun x => slices_Contains_int.f k x a1) l0
theorem impl_isTaught_1.mono : ∀ a0 a1 k, LeO (impl_isTaught_1.f k a0 a1) (impl_isTaught_1.f (k + 1) a0 a1) := fun a0 a1 k => Go.Proofs.YtnafjfdalapegaaW.GIdx.anyO_mono (fun x => slices_Contains_int.mono _ _ _) a0
set_option maxHeartbeats 1000000
end Go.Proofs.Ytnafjfdalapegaa.Q
namespace Go.Proofs
open Go.Shelf
shelf_lay_g SlLaysH.n8 Slgf 8 at Try 90 as Try.laysC90
end Go.Proofs
namespace Go.Proofs.Ytnafjfdalapegaa.Q
open Go.RowKit Go.Lib Go.Proofs.YtnafjfdalapegaaW.PrintWords Go.Proofs.YtnafjfdalapegaaW.PrintLast Go.Proofs.YtnafjfdalapegaaW.PrintMore Go.Proofs.YtnafjfdalapegaaW Go.Proofs.Ytnafjfdalapegaa.Q
set_option linter.unusedVariables false
set_option linter.unusedSimpArgs false
set_option maxHeartbeats 1000000 in
set_option maxRecDepth 100000 in
theorem impl_isTaught_1.calls (k : Nat) (A0 : Option Addr) (c0 : Nat) (l0 : List (List Int)) (a1 : Int) (r : Bool) {gb : Nat} (w : World) (hr0 : Kd.C (Kd.slice 3 (Kd.int .i64)) w A0 l0.length l0) (hc0 : l0.length ≤ c0) (hbx : w.cell? ⟨gb, 0, none⟩ = some (.int .i64 a1)) (h : impl_isTaught_1.f k l0 a1 = some r) :
    Calls Try.prog 90 #[.slice A0 l0.length c0, .func (.func 91) #[] #[.pointer (some ⟨gb, 0, none⟩)]] w fun e w' => e = .returned (.bool r) ∧ Below w.heap.size w w' := by
  have eg : ∀ args w, (callFunc 91 args).run Try.prog w = .ok (.enter 91 args) w := enters_of Try.func91 (by kernel_rfl) rfl
  refine GIdx.any_one Try.laysC90 (Kd.slice 3 (Kd.int .i64)) rfl (fun x => slices_Contains_int.f k x a1) 91 #[.pointer (some ⟨gb, 0, none⟩)] eg A0 l0.length c0 l0 w rfl hr0 r ?_ h
  intro W x v b hb hx hK hp
  obtain ⟨A1, c1, hv, hl, hC⟩ := hK
  obtain rfl : v = .slice A1 x.length c1 := by injection hv
  have hlt : gb < w.heap.size := World.block_lt_of_cell? w _ hbx
  have hc : W.cell? ⟨gb, 0, none⟩ = some (.int .i64 a1) := (hb.cell (p := ⟨gb, 0, none⟩) hlt).trans hbx
  have hcon := fun W' (hb' : Below w.heap.size w W') => slices_Contains_int.calls k A1 c1 x a1 b W' (Kd.C_below hC hb') hl hp
  have HC := Aside0.mk hcon
  have HBB := Aside0.mk hb
  clear hcon hb hbx hp hr0 h hC hv
  show Calls Try.prog 91 #[.slice A1 x.length c1, .pointer (some ⟨gb, 0, none⟩)] W _
  go_enter Try.func91, Try.ntmps91
  go_wp2_with (go_at_call 72; refine (HC.out _ (by repeat (first | exact HBB.out | apply pw_below_drewN | apply below_alloc))).mono ?_; rintro e w' ⟨rfl, ⟨nd, rfl⟩⟩)
  go_ret
  exact ⟨rfl, by repeat (first | exact HBB.out | apply pw_below_drewN | apply below_alloc)⟩


end Go.Proofs.Ytnafjfdalapegaa.Q
