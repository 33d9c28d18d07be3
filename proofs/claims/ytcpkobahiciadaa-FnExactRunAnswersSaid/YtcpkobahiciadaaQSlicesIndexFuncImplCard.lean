-- Written for the seat Ytcpkobahiciadaa by a program of this session (wip/tool/gx.py) out of the translation. Lean checks it.
import Derived.Test.YtcpkobahiciadaaQ0
import Derived.Ground.SlgfProg
import Derived.Test.YtcpkobahiciadaaGIdx
import Derived.Test.YtcpkobahiciadaaWFoot
import Derived.Test.YtcpkobahiciadaaWKept
import Derived.Test.YtcpkobahiciadaaWShare
namespace Go.Proofs.Ytcpkobahiciadaa.Q
open Go.RowKit Go.Proofs.YtcpkobahiciadaaW.PrintWords Go.Proofs.YtcpkobahiciadaaW.PrintLast Go.Proofs.YtcpkobahiciadaaW.PrintMore
attribute [local go_sem] max2_int min2_int max_two min_two max_three min_three max_four min_four   -- for this text's walks alone
set_option linter.unusedVariables false
set_option linter.unusedSimpArgs false

/-! ### slices_IndexFunc_impl_Card: function 100 -/
def slices_IndexFunc_impl_Card.f (l0 : List S78) (a1 : ByteArray) : Option Int := Go.Proofs.YtcpkobahiciadaaW.GIdx.idxO (fun x => some (decide (x.f0.toList = a1.toList))) l0 0
set_option maxHeartbeats 1000000
end Go.Proofs.Ytcpkobahiciadaa.Q
namespace Go.Proofs
open Go.Shelf
shelf_lay_g SlLaysH0.n6 Slgf 6 at Try 100 as Try.laysI100
end Go.Proofs
namespace Go.Proofs.Ytcpkobahiciadaa.Q
open Go.RowKit Go.Lib Go.Proofs.YtcpkobahiciadaaW.PrintWords Go.Proofs.YtcpkobahiciadaaW.PrintLast Go.Proofs.YtcpkobahiciadaaW.PrintMore Go.Proofs.YtcpkobahiciadaaW Go.Proofs.Ytcpkobahiciadaa.Q
set_option linter.unusedVariables false
set_option linter.unusedSimpArgs false
set_option maxHeartbeats 1000000 in
set_option maxRecDepth 100000 in
theorem slices_IndexFunc_impl_Card.calls (A0 : Option Addr) (c0 : Nat) (l0 : List S78) (a1 : ByteArray) (r : Int) {gb : Nat} (w : World) (hr0 : Kd.C k78 w A0 l0.length l0) (hc0 : l0.length ≤ c0) (hbx : w.cell? ⟨gb, 0, none⟩ = some (.string a1)) (h : slices_IndexFunc_impl_Card.f l0 a1 = some r) :
  Calls Try.prog 100 #[.slice A0 l0.length c0, .func (.func 101) #[] #[.pointer (some ⟨gb, 0, none⟩)]] w fun e w' => e = .returned (.int .i64 r) ∧ Below w.heap.size w w' := by
 have eg : ∀ args w, (callFunc 101 args).run Try.prog w = .ok (.enter 101 args) w := enters_of Try.func101 (by kernel_rfl) rfl
 refine GIdx.idx_agg Try.laysI100 k78 3 rfl (by decide) Try.isAgg78 Try.sizeOf78 (fun x => some (decide (x.f0.toList = a1.toList))) 101 #[.pointer (some ⟨gb, 0, none⟩)] eg A0 l0.length c0 l0 w rfl hr0 _ ?_ h
 intro W x cs b hb hx hK hp
 obtain rfl := Option.some.inj hp
 obtain rfl := k78_open hK
 have hlt : gb < w.heap.size := World.block_lt_of_cell? w _ hbx
 have hc : W.cell? ⟨gb, 0, none⟩ = some (.string a1) := (hb.cell (p := ⟨gb, 0, none⟩) hlt).trans hbx
 have hc2 : (W.alloc (.cells #[.string x.f0, .int .i64 x.f1, .int .i64 x.f2] 78)).cell? ⟨gb, 0, none⟩ = some (.string a1) := Lib.cell?_alloc_some _ hc
 have hu := Try.underlying78
 have e_ : (x.f0.toList == a1.toList) = decide (x.f0.toList = a1.toList) := by rw [Bool.eq_iff_iff]; simp
 rw [← e_]
 have HBB := Aside0.mk hb
 clear hK hb hbx hc
 show Calls Try.prog 101 #[.agg #[.string x.f0, .int .i64 x.f1, .int .i64 x.f2], .pointer (some ⟨gb, 0, none⟩)] W _
 go_enter Try.func101, Try.ntmps101
 go_wp2
 go_ret
 exact ⟨rfl, HBB.out.trans ((below_alloc (Below.refl _ _) _).mono HBB.out.size)⟩


end Go.Proofs.Ytcpkobahiciadaa.Q
