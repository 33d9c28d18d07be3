import Derived.Test.YtgnijnlgbelifaaGreatQBSlicesIndexInt
import Derived.Test.YtgnijnlgbelifaaGreatGIdx
namespace Go.Proofs.YtgnijnlgbelifaaGreat.Q
open RowKit W.PrintWords W.PrintLast W.PrintMore W.GCall
attribute [local go_sem] Ebi Ebj Ebx Eby Ebb Ebc Ebk Ebl
set_option linter.unusedVariables false
set_option linter.unusedSimpArgs false
def Ld.f (k : Nat) (l0 : List (List Int)) (a1 : Int) : Option Bool := Go.Proofs.YtgnijnlgbelifaaGreat.W.GIdx.anyO (fun x => FN.f k x a1) l0
set_option maxHeartbeats 1000000
end Go.Proofs.YtgnijnlgbelifaaGreat.Q
namespace Go.Proofs
open Go.Shelf
shelf_lay_g SlLaysH.n8 Slgf 8 at Tryz 125 as Tryz.laysC125
end Go.Proofs
namespace Go.Proofs.YtgnijnlgbelifaaGreat.Q
open RowKit Lib W.PrintWords W.PrintLast W.PrintMore W Q W.GCall
set_option linter.unusedVariables false
set_option linter.unusedSimpArgs false
set_option maxHeartbeats 1000000 in
set_option maxRecDepth 100000 in
theorem Ld.calls (k : Nat) (A0 : Option Addr) (c0 : Nat) (l0 : List (List Int)) (a1 : Int) (r : Bool) {gb : Nat} (w : World) (d : Kd.C (Kd.slice 3 (Kd.int .i64)) w A0 l0.length l0) (aa : l0.length <= c0) (hbx : w.cell? ⟨gb,0,none⟩ = some (.int .i64 a1)) (h : Ld.f k l0 a1 = some r) :
  Calls Tryz.prog 125 #[.slice A0 l0.length c0,.func (.func 126) #[] #[.pointer (some ⟨gb,0,none⟩)]] w fun e w' => e = .returned (.bool r) ∧ Below w.heap.size w w' := by
 have eg : ∀ args w,(callFunc 126 args).run Tryz.prog w = .ok (.enter 126 args) w := enters_of Tryz.func126 (by kernel_rfl) rfl;refine GIdx.Ekm Tryz.laysC125 (Kd.slice 3 (Kd.int .i64)) rfl (fun x => FN.f k x a1) 126 #[.pointer (some ⟨gb,0,none⟩)] eg A0 l0.length c0 l0 w rfl d r ?_ h;intro W x v b hb hx hK hp;obtain ⟨A1,c1,hv,hl,hC⟩ := hK;obtain rfl : v = .slice A1 x.length c1 := by injection hv
 have hlt : gb < w.heap.size := World.block_lt_of_cell? w _ hbx;have hc : W.cell? ⟨gb,0,none⟩ = some (.int .i64 a1) := (hb.cell (p := ⟨gb,0,none⟩) hlt).trans hbx;have hcon := fun W' (hb' : Below w.heap.size w W') => FN.calls k A1 c1 x a1 b W' (Kd.Eab hC hb') hl hp
 have HC := ZA hcon;have HBB := ZA hb;clear hcon hb hbx hp d h hC hv;show Calls Tryz.prog 126 #[.slice A1 x.length c1,.pointer (some ⟨gb,0,none⟩)] W _;go_enter Tryz.func126,Tryz.ntmps126
 go_wp2_with (go_at_call 91;refine (HC.out _ (by repeat (first|exact HBB.out|apply Ebg|apply Eav))).mono ?_;rintro e w' ⟨rfl,⟨nd,rfl⟩⟩)
 go_ret;exact ⟨rfl,by repeat (first|exact HBB.out|apply Ebg|apply Eav)⟩
end Go.Proofs.YtgnijnlgbelifaaGreat.Q
