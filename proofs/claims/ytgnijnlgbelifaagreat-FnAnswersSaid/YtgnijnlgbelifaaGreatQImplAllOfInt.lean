import Derived.Test.YtgnijnlgbelifaaGreatQ0
import Derived.Test.YtgnijnlgbelifaaGreatGUp
import Derived.Test.YtgnijnlgbelifaaGreatGIdx
namespace Go.Proofs.YtgnijnlgbelifaaGreat.Q
open RowKit W.PrintWords W.PrintLast W.PrintMore W.GCall
attribute [local go_sem] Ebi Ebj Ebx Eby Ebb Ebc Ebk Ebl
set_option linter.unusedVariables false
set_option linter.unusedSimpArgs false
def GG.f (p : Int -> Option Bool) (l0 : List Int) : Option Bool := Go.Proofs.YtgnijnlgbelifaaGreat.W.GIdx.allO p l0
set_option maxHeartbeats 1000000
end Go.Proofs.YtgnijnlgbelifaaGreat.Q
namespace Go.Proofs
open Go.Shelf
shelf_lay_g SlLaysH.n8 Slgf 8 at Tryz 131 as Tryz.laysCI131
end Go.Proofs
namespace Go.Proofs.YtgnijnlgbelifaaGreat.Q
open RowKit Lib W.PrintWords W.PrintLast W.PrintMore W Q W.GCall
set_option linter.unusedVariables false
set_option linter.unusedSimpArgs false
set_option maxHeartbeats 1000000 in
set_option maxRecDepth 100000 in
theorem GG.pred (p : Int -> Option Bool) (g : Nat) (lb : Array Value) (eg : ∀ args w,(callFunc g args).run Tryz.prog w = .ok (.enter g args) w) (B : Nat) (w : World) (hB : B < w.heap.size) (hcell : w.cell? ⟨B,0,none⟩ = some (.func (.func g) #[] lb)) (W : World) (x : Int) (b : Bool) (hb : Below w.heap.size w W)
  (hp : ∀ (b : Bool),p x = some b -> Calls Tryz.prog g (#[.int .i64 x] ++ lb) W fun e w' => e = .returned (.bool b) ∧ Below W.heap.size W w')
  (hpx : ((p x).map (!·)) = some b) :
  Calls Tryz.prog 155 (#[.int .i64 x] ++ #[.pointer (some ⟨B,0,none⟩)]) W fun e w' => e = .returned (.bool b) ∧ Below w.heap.size w w' := by
 have hc : W.cell? ⟨B,0,none⟩ = some (.func (.func g) #[] lb) := (hb.cell (p := ⟨B,0,none⟩) hB).trans hcell;cases hr : p x with
 | none => rw [hr] at hpx;cases hpx
 | some r =>
  rw [hr] at hpx;obtain rfl := Option.some.inj hpx;have HC := ZA (hp r hr);clear hp hr hpx;show Calls Tryz.prog 155 #[.int .i64 x,.pointer (some ⟨B,0,none⟩)] W _;have HBB := ZA hb;clear hb;go_enter Tryz.func155,Tryz.ntmps155
  go_wp2_with (go_at_fn g;refine (HC.out).mono ?_;rintro e w' ⟨rfl,hb'⟩)
  go_ret;exact ⟨rfl,HBB.out.trans (hb'.mono HBB.out.size)⟩
set_option maxHeartbeats 1000000 in
set_option maxRecDepth 100000 in
theorem GG.calls (p : Int -> Option Bool) (g : Nat) (lb : Array Value) (eg : ∀ args w,(callFunc g args).run Tryz.prog w = .ok (.enter g args) w) (A0 : Option Addr) (c0 : Nat) (l0 : List Int) (r : Bool) (w : World) (d : Kd.C (Kd.int .i64) w A0 l0.length l0)
  (hp : ∀ (W : World) (x : Int) (b : Bool),Below w.heap.size w W -> x ∈ l0 -> p x = some b -> Calls Tryz.prog g (#[.int .i64 x] ++ lb) W fun e w' => e = .returned (.bool b) ∧ Below W.heap.size W w')
  (h : GG.f p l0 = some r) :
  Calls Tryz.prog 123 #[.slice A0 l0.length c0,.func (.func g) #[] lb] w fun e w' => e = .returned (.bool r) ∧ Below w.heap.size w w' := by
 have el : ∀ args w,(callFunc 155 args).run Tryz.prog w = .ok (.enter 155 args) w := enters_of Tryz.func155 (by kernel_rfl) rfl;have hbel : Below w.heap.size w (w.alloc (.cells #[.func (.func g) #[] lb] 109)) := Eav (Below.refl _ _) _;unfold GG.f GIdx.allO at h;cases hany : GIdx.anyO (fun x => (p x).map (!·)) l0 with
 | none => rw [hany] at h;cases h
 | some q =>
  rw [hany] at h;obtain rfl := Option.some.inj h;have hcon := GIdx.Ekm Tryz.laysCI131 (Kd.int .i64) rfl (fun x => (p x).map (!·)) 155 #[.pointer (some ⟨w.heap.size,0,none⟩)] el A0 l0.length c0 l0 (w.alloc (.cells #[.func (.func g) #[] lb] 109)) rfl (Kd.Eab d hbel) q
   (fun W x v b hW hx hK hpx => by
    obtain rfl : (Value.int .i64 x) = v := by have e_ : [(Value.int .i64 x : Value)] = [v] := hK.symm ▸ rfl;injection e_
    exact GG.pred p g lb eg w.heap.size _ (by simp) (by simp) W x b hW (fun b' hb' => hp W x b' (hbel.trans (hW.mono (by simp))) hx hb') hpx) hany
  change Calls Tryz.prog 131 _ _ _ at hcon;have HC := ZA hcon;clear hcon d hany h hp;go_enter Tryz.func123,Tryz.ntmps123
  go_wp2_with (go_at_call 131;refine HC.out.mono ?_;rintro e w' ⟨rfl,hb⟩)
  go_ret;exact ⟨rfl,hbel.trans (hb.mono (by simp))⟩
end Go.Proofs.YtgnijnlgbelifaaGreat.Q
