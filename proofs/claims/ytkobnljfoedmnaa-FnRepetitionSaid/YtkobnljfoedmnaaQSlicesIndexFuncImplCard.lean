-- Written for the seat Ytkobnljfoedmnaa by a program of this session (wip/tool/gx.py) out of the translation. Lean checks it.
import Derived.Test.YtkobnljfoedmnaaQ0
import Derived.Ground.SlgfProg
import Derived.Test.YtkobnljfoedmnaaGIdx
import Derived.Test.YtkobnljfoedmnaaWFoot
import Derived.Test.YtkobnljfoedmnaaWKept
import Derived.Test.YtkobnljfoedmnaaWShare
namespace Go.Proofs.Ytkobnljfoedmnaa.Q
open Go.RowKit Go.Proofs.YtkobnljfoedmnaaW.PrintWords Go.Proofs.YtkobnljfoedmnaaW.PrintLast Go.Proofs.YtkobnljfoedmnaaW.PrintMore
attribute [local go_sem] max2_int min2_int max_two min_two max_three min_three max_four min_four   -- for this text's walks alone
set_option linter.unusedVariables false
set_option linter.unusedSimpArgs false

/-! ### slices_IndexFunc_impl_Card: function 81 -/
def slices_IndexFunc_impl_Card.f (l0 : List S24) (a1 : ByteArray) : Option Int := Go.Proofs.YtkobnljfoedmnaaW.GIdx.idxO (fun x => some (decide (x.f0.toList = a1.toList))) l0 0
set_option maxHeartbeats 1000000
end Go.Proofs.Ytkobnljfoedmnaa.Q
namespace Go.Proofs
open Go.Shelf
shelf_lay_g SlLaysH0.n6 Slgf 6 at Try 81 as Try.laysI81
end Go.Proofs
namespace Go.Proofs.Ytkobnljfoedmnaa.Q
open Go.RowKit Go.Lib Go.Proofs.YtkobnljfoedmnaaW.PrintWords Go.Proofs.YtkobnljfoedmnaaW.PrintLast Go.Proofs.YtkobnljfoedmnaaW.PrintMore Go.Proofs.YtkobnljfoedmnaaW Go.Proofs.Ytkobnljfoedmnaa.Q
set_option linter.unusedVariables false
set_option linter.unusedSimpArgs false
set_option maxHeartbeats 1000000 in
set_option maxRecDepth 100000 in
theorem slices_IndexFunc_impl_Card.calls (A0 : Option Addr) (c0 : Nat) (l0 : List S24) (a1 : ByteArray) (r : Int) {gb : Nat} (w : World) (hr0 : Kd.C k24 w A0 l0.length l0) (hc0 : l0.length ≤ c0) (hbx : w.cell? ⟨gb,0,none⟩ = some (.string a1)) (h : slices_IndexFunc_impl_Card.f l0 a1 = some r) :
  Calls Try.prog 81 #[.slice A0 l0.length c0,.func (.func 82) #[] #[.pointer (some ⟨gb,0,none⟩)]] w fun e w' => e = .returned (.int .i64 r) ∧ Below w.heap.size w w' := by
 have eg : ∀ args w,(callFunc 82 args).run Try.prog w = .ok (.enter 82 args) w := enters_of Try.func82 (by kernel_rfl) rfl
 refine GIdx.idx_agg Try.laysI81 k24 3 rfl (by decide) Try.isAgg24 Try.sizeOf24 (fun x => some (decide (x.f0.toList = a1.toList))) 82 #[.pointer (some ⟨gb,0,none⟩)] eg A0 l0.length c0 l0 w rfl hr0 _ ?_ h
 intro W x cs b hb hx hK hp
 obtain rfl := Option.some.inj hp
 obtain rfl := k24_open hK
 have hlt : gb < w.heap.size := World.block_lt_of_cell? w _ hbx
 have hc : W.cell? ⟨gb,0,none⟩ = some (.string a1) := (hb.cell (p := ⟨gb,0,none⟩) hlt).trans hbx
 have hc2 : (W.alloc (.cells #[.string x.f0,.int .i64 x.f1,.int .i64 x.f2] 24)).cell? ⟨gb,0,none⟩ = some (.string a1) := Lib.cell?_alloc_some _ hc
 have hu := Try.underlying24
 have e_ : (x.f0.toList == a1.toList) = decide (x.f0.toList = a1.toList) := by rw [Bool.eq_iff_iff];simp
 rw [← e_]
 have HBB := Aside0.mk hb
 clear hK hb hbx hc
 show Calls Try.prog 82 #[.agg #[.string x.f0,.int .i64 x.f1,.int .i64 x.f2],.pointer (some ⟨gb,0,none⟩)] W _
 go_enter Try.func82,Try.ntmps82
 go_wp2
 go_ret
 exact ⟨rfl,HBB.out.trans ((below_alloc (Below.refl _ _) _).mono HBB.out.size)⟩


end Go.Proofs.Ytkobnljfoedmnaa.Q
