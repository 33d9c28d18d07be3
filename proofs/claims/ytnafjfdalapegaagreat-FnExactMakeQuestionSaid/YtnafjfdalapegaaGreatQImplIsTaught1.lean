-- Written for the seat YtnafjfdalapegaaGreat by a program of this session (wip/tool/gx.py) out of the translation. Lean checks it.
import Derived.Test.YtnafjfdalapegaaGreatQ0
import Derived.Test.YtnafjfdalapegaaGreatQBSlicesIndexInt
import Derived.Ground.SlgfProg
import Derived.Test.YtnafjfdalapegaaGreatGIdx
import Derived.Test.YtnafjfdalapegaaGreatWFoot
import Derived.Test.YtnafjfdalapegaaGreatWKept
import Derived.Test.YtnafjfdalapegaaGreatWShare
namespace Go.Proofs.YtnafjfdalapegaaGreat.Q
open Go.RowKit Go.Proofs.YtnafjfdalapegaaGreatW.PrintWords Go.Proofs.YtnafjfdalapegaaGreatW.PrintLast Go.Proofs.YtnafjfdalapegaaGreatW.PrintMore
attribute [local go_sem] max2_int min2_int max_two min_two max_three min_three max_four min_four   -- for this text's walks alone
set_option linter.unusedVariables false
set_option linter.unusedSimpArgs false

/-! ### impl_isTaught_1: function 97 -/
def impl_isTaught_1.f (k : Nat) (l0 : List (List Int)) (a1 : Int) : Option Bool := Go.Proofs.YtnafjfdalapegaaGreatW.GIdx.anyO (fun x => slices_Contains_int.f k x a1) l0
theorem impl_isTaught_1.mono : ∀ a0 a1 k, LeO (impl_isTaught_1.f k a0 a1) (impl_isTaught_1.f (k + 1) a0 a1) := fun a0 a1 k => Go.Proofs.YtnafjfdalapegaaGreatW.GIdx.anyO_mono (fun x => slices_Contains_int.mono _ _ _) a0
set_option maxHeartbeats 1000000
end Go.Proofs.YtnafjfdalapegaaGreat.Q
namespace Go.Proofs
open Go.Shelf
shelf_lay_g SlLaysH.n8 Slgf 8 at Tryz 96 as Tryz.laysC96
end Go.Proofs
namespace Go.Proofs.YtnafjfdalapegaaGreat.Q
open Go.RowKit Go.Lib Go.Proofs.YtnafjfdalapegaaGreatW.PrintWords Go.Proofs.YtnafjfdalapegaaGreatW.PrintLast Go.Proofs.YtnafjfdalapegaaGreatW.PrintMore Go.Proofs.YtnafjfdalapegaaGreatW Go.Proofs.YtnafjfdalapegaaGreat.Q
set_option linter.unusedVariables false
set_option linter.unusedSimpArgs false
set_option maxHeartbeats 1000000 in
set_option maxRecDepth 100000 in
theorem impl_isTaught_1.calls (k : Nat) (A0 : Option Addr) (c0 : Nat) (l0 : List (List Int)) (a1 : Int) (r : Bool) {gb : Nat} (w : World) (hr0 : Kd.C (Kd.slice 3 (Kd.int .i64)) w A0 l0.length l0) (hc0 : l0.length ≤ c0) (hbx : w.cell? ⟨gb, 0, none⟩ = some (.int .i64 a1)) (h : impl_isTaught_1.f k l0 a1 = some r) :
  Calls Tryz.prog 96 #[.slice A0 l0.length c0, .func (.func 97) #[] #[.pointer (some ⟨gb, 0, none⟩)]] w fun e w' => e = .returned (.bool r) ∧ Below w.heap.size w w' := by
 have eg : ∀ args w, (callFunc 97 args).run Tryz.prog w = .ok (.enter 97 args) w := enters_of Tryz.func97 (by kernel_rfl) rfl
 refine GIdx.any_one Tryz.laysC96 (Kd.slice 3 (Kd.int .i64)) rfl (fun x => slices_Contains_int.f k x a1) 97 #[.pointer (some ⟨gb, 0, none⟩)] eg A0 l0.length c0 l0 w rfl hr0 r ?_ h
 intro W x v b hb hx hK hp
 obtain ⟨A1, c1, hv, hl, hC⟩ := hK
 obtain rfl : v = .slice A1 x.length c1 := by injection hv
 have hlt : gb < w.heap.size := World.block_lt_of_cell? w _ hbx
 have hc : W.cell? ⟨gb, 0, none⟩ = some (.int .i64 a1) := (hb.cell (p := ⟨gb, 0, none⟩) hlt).trans hbx
 have hcon := fun W' (hb' : Below w.heap.size w W') => slices_Contains_int.calls k A1 c1 x a1 b W' (Kd.C_below hC hb') hl hp
 have HC := Aside0.mk hcon
 have HBB := Aside0.mk hb
 clear hcon hb hbx hp hr0 h hC hv
 show Calls Tryz.prog 97 #[.slice A1 x.length c1, .pointer (some ⟨gb, 0, none⟩)] W _
 go_enter Tryz.func97, Tryz.ntmps97
 go_wp2_with (go_at_call 86; refine (HC.out _ (by repeat (first | exact HBB.out | apply pw_below_drewN | apply below_alloc))).mono ?_; rintro e w' ⟨rfl, ⟨nd, rfl⟩⟩)
 go_ret
 exact ⟨rfl, by repeat (first | exact HBB.out | apply pw_below_drewN | apply below_alloc)⟩


end Go.Proofs.YtnafjfdalapegaaGreat.Q
