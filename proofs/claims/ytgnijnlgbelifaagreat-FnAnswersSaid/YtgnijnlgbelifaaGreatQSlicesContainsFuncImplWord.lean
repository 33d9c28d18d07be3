import Derived.Test.YtgnijnlgbelifaaGreatQ0
import Derived.Test.YtgnijnlgbelifaaGreatGUp
import Derived.Test.YtgnijnlgbelifaaGreatGIdx
namespace Go.Proofs.YtgnijnlgbelifaaGreat.Q
open RowKit W.PrintWords W.PrintLast W.PrintMore W.GCall
attribute [local go_sem] Ebi Ebj Ebx Eby Ebb Ebc Ebk Ebl
set_option linter.unusedVariables false
set_option linter.unusedSimpArgs false
def FZ.f (l0 : List S41) (a1 : ByteArray) : Option Bool := some (l0.any fun x => decide (x.f0.toList = a1.toList))
set_option maxHeartbeats 1000000
end Go.Proofs.YtgnijnlgbelifaaGreat.Q
namespace Go.Proofs
open Go.Shelf
shelf_lay_g SlLaysH0.n8 Slgf 8 at Tryz 129 as Tryz.laysC129
end Go.Proofs
namespace Go.Proofs.YtgnijnlgbelifaaGreat.Q
open RowKit Lib W.PrintWords W.PrintLast W.PrintMore W Q W.GCall
set_option linter.unusedVariables false
set_option linter.unusedSimpArgs false
set_option maxHeartbeats 1000000 in
set_option maxRecDepth 100000 in
theorem FZ.calls (A0 : Option Addr) (c0 : Nat) (l0 : List S41) (a1 : ByteArray) (r : Bool) {gb : Nat} (w : World) (d : Kd.C k41 w A0 l0.length l0) (aa : l0.length <= c0) (hbx : w.cell? ⟨gb,0,none⟩ = some (.string a1)) (h : FZ.f l0 a1 = some r) :
  Calls Tryz.prog 129 #[.slice A0 l0.length c0,.func (.func 130) #[] #[.pointer (some ⟨gb,0,none⟩)]] w fun e w' => e = .returned (.bool r) ∧ Below w.heap.size w w' := by
 obtain rfl := Option.some.inj h;have eg : ∀ args w,(callFunc 130 args).run Tryz.prog w = .ok (.enter 130 args) w := enters_of Tryz.func130 (by kernel_rfl) rfl;refine GIdx.Ein Tryz.laysC129 k41 3 rfl (by decide) Tryz.isAgg41 Tryz.sizeOf41 (fun x => some (decide (x.f0.toList = a1.toList))) 130 #[.pointer (some ⟨gb,0,none⟩)] eg A0 l0.length c0 l0 w rfl d _ ?_ (GIdx.Ehy fun _ _ => rfl);intro W x cs b hb hx hK hp;obtain rfl := Option.some.inj hp;obtain ⟨A1,c1,rfl,hl,hC⟩ := k41_open hK;have hlt : gb < w.heap.size := World.block_lt_of_cell? w _ hbx;have hc : W.cell? ⟨gb,0,none⟩ = some (.string a1) := (hb.cell (p := ⟨gb,0,none⟩) hlt).trans hbx;have ab : (W.alloc (.cells #[.string x.f0,.slice A1 x.f1.length c1,.int .i64 x.f2] 41)).cell? ⟨gb,0,none⟩ = some (.string a1) := Lib.cell?_alloc_some _ hc;have hu := Tryz.underlying41;have e_ : (x.f0.toList == a1.toList) = decide (x.f0.toList = a1.toList) := by rw [Bool.eq_iff_iff];simp
 rw [<- e_];have HBB := ZA hb;clear hC hK hb hbx hc;show Calls Tryz.prog 130 #[.agg #[.string x.f0,.slice A1 x.f1.length c1,.int .i64 x.f2],.pointer (some ⟨gb,0,none⟩)] W _;go_enter Tryz.func130,Tryz.ntmps130;go_wp2;go_ret;exact ⟨rfl,HBB.out.trans ((Eav (Below.refl _ _) _).mono HBB.out.size)⟩
end Go.Proofs.YtgnijnlgbelifaaGreat.Q
