import Derived.Test.YtgnijnlgbelifaaGreatQBSlicesIndexInt
import Derived.Test.YtgnijnlgbelifaaGreatGIdx
namespace Go.Proofs.YtgnijnlgbelifaaGreat.Q
open RowKit W.PrintWords W.PrintLast W.PrintMore W.GCall
attribute [local go_sem] Ebi Ebj Ebx Eby Ebb Ebc Ebk Ebl
set_option linter.unusedVariables false
set_option linter.unusedSimpArgs false
def FE.f (k : Nat) (l0 : List S30) : Option Bool := Go.Proofs.YtgnijnlgbelifaaGreat.W.GIdx.allO (fun x => Fw.f k x.f0 x.f1) l0
set_option maxHeartbeats 1000000
end Go.Proofs.YtgnijnlgbelifaaGreat.Q
namespace Go.Proofs
open Go.Shelf
shelf_lay_g SlLaysH0.n8 Slgf 8 at Tryz 151 as Tryz.laysC151
end Go.Proofs
namespace Go.Proofs.YtgnijnlgbelifaaGreat.Q
open RowKit Lib W.PrintWords W.PrintLast W.PrintMore W Q W.GCall
set_option linter.unusedVariables false
set_option linter.unusedSimpArgs false
set_option maxHeartbeats 1000000 in
set_option maxRecDepth 100000 in
theorem FE.pred (k : Nat) (l0 : List S30) (B : Nat) (w : World) (hB : B < w.heap.size) (hcell : w.cell? ⟨B,0,none⟩ = some (.func (.func 68) #[] #[])) (W : World) (x : S30) (cs : List Value) (b : Bool) (hb : Below w.heap.size w W) (hx : x ∈ l0) (hK : k30.K w x cs) (hpx : ((Fw.f k x.f0 x.f1).map (!·)) = some b) :
  Calls Tryz.prog 152 (#[.agg cs.toArray] ++ #[.pointer (some ⟨B,0,none⟩)]) W fun e w' => e = .returned (.bool b) ∧ Below w.heap.size w w' := by
 have hc : W.cell? ⟨B,0,none⟩ = some (.func (.func 68) #[] #[]) := (hb.cell (p := ⟨B,0,none⟩) hB).trans hcell;have aa : ∀ args w,(callFunc 68 args).run Tryz.prog w = .ok (.enter 68 args) w := enters_of Tryz.func68 (by kernel_rfl) rfl;have hu := Tryz.underlying30;cases hr : Fw.f k x.f0 x.f1 with
 | none => rw [hr] at hpx;cases hpx
 | some r =>
  rw [hr] at hpx;obtain rfl := Option.some.inj hpx;obtain ⟨A1,c1,rfl,hl,hC⟩ := k30_open hK;have hcon := fun W' (hb' : Below w.heap.size w W') => (Fw.calls k x.f0 A1 c1 x.f1 r W' (Kd.Eab hC hb') hl hr).mono (fun e w' h_ => (⟨h_.1,hb'.trans (h_.2.mono hb'.size)⟩ : e = .returned (.bool r) ∧ Below w.heap.size w w'))
  have HC := ZA hcon;clear hcon hr hK hpx;show Calls Tryz.prog 152 #[.agg #[.int .i64 x.f0,.slice A1 x.f1.length c1],.pointer (some ⟨B,0,none⟩)] W _;have HBB := ZA hb;have ab : (W.alloc (.cells #[.int .i64 x.f0,.slice A1 x.f1.length c1] 30)).cell? ⟨B,0,none⟩ = some (.func (.func 68) #[] #[]) := Lib.cell?_alloc_some _ hc;clear hb hc;go_enter Tryz.func152,Tryz.ntmps152
  go_wp2_with (go_at_fn 68;refine (HC.out _ (by repeat (first|exact HBB.out|apply Ebg|apply Eav))).mono ?_;rintro e w' ⟨rfl,hb'⟩)
  go_ret;exact ⟨rfl,hb'⟩
set_option maxHeartbeats 1000000 in
set_option maxRecDepth 100000 in
theorem FE.calls (k : Nat) (A0 : Option Addr) (c0 : Nat) (l0 : List S30) (r : Bool) (w : World) (d : Kd.C k30 w A0 l0.length l0) (aa : l0.length <= c0) (h : FE.f k l0 = some r) :
  Calls Tryz.prog 113 #[.slice A0 l0.length c0,.func (.func 68) #[] #[]] w fun e w' => e = .returned (.bool r) ∧ Below w.heap.size w w' := by
 have eg : ∀ args w,(callFunc 152 args).run Tryz.prog w = .ok (.enter 152 args) w := enters_of Tryz.func152 (by kernel_rfl) rfl;have hbel : Below w.heap.size w (w.alloc (.cells #[.func (.func 68) #[] #[]] 92)) := Eav (Below.refl _ _) _;unfold FE.f GIdx.allO at h;cases hany : GIdx.anyO (fun x => (Fw.f k x.f0 x.f1).map (!·)) l0 with
 | none => rw [hany] at h;cases h
 | some q =>
  rw [hany] at h;obtain rfl := Option.some.inj h;have hcon := GIdx.Ein Tryz.laysC151 k30 2 rfl (by decide) Tryz.isAgg30 Tryz.sizeOf30 (fun x => (Fw.f k x.f0 x.f1).map (!·)) 152 #[.pointer (some ⟨w.heap.size,0,none⟩)] eg A0 l0.length c0 l0 (w.alloc (.cells #[.func (.func 68) #[] #[]] 92)) rfl (Kd.Eab d hbel) q
   (FE.pred k l0 w.heap.size _ (by simp) (by simp)) hany
  change Calls Tryz.prog 151 _ _ _ at hcon;have HC := ZA hcon;clear hcon d hany h;go_enter Tryz.func113,Tryz.ntmps113
  go_wp2_with (go_at_call 151;refine HC.out.mono ?_;rintro e w' ⟨rfl,hb⟩)
  go_ret;exact ⟨rfl,hbel.trans (hb.mono (by simp))⟩
end Go.Proofs.YtgnijnlgbelifaaGreat.Q
