-- Written for the seat Ytgnijnlgbelifaa by a program of this session (wip/tool/gx.py) out of the translation. Lean checks it.
import Derived.Test.YtgnijnlgbelifaaQ0
import Derived.Ground.SlgfProg
import Derived.Lib.SliceRun
import Derived.Test.YtgnijnlgbelifaaGIdx
import Derived.Test.YtgnijnlgbelifaaWFoot
import Derived.Test.YtgnijnlgbelifaaWKept
import Derived.Test.YtgnijnlgbelifaaWShare
namespace Go.Proofs.Ytgnijnlgbelifaa.Q
open Go.RowKit Go.Proofs.YtgnijnlgbelifaaW.PrintWords Go.Proofs.YtgnijnlgbelifaaW.PrintLast Go.Proofs.YtgnijnlgbelifaaW.PrintMore
attribute [local go_sem] max2_int min2_int max_two min_two max_three min_three max_four min_four   -- for this text's walks alone
set_option linter.unusedVariables false
set_option linter.unusedSimpArgs false

/-! ### impl_allOf_int: function 49 -/
def impl_allOf_int.f (p : Int → Option Bool) (l0 : List Int) : Option Bool := Go.Proofs.YtgnijnlgbelifaaW.GIdx.allO p l0
set_option maxHeartbeats 1000000
end Go.Proofs.Ytgnijnlgbelifaa.Q
namespace Go.Proofs
open Go.Shelf
shelf_lay_g SlLaysH.n8 Slgf 8 at Try 58 as Try.laysCI58
end Go.Proofs
namespace Go.Proofs.Ytgnijnlgbelifaa.Q
open Go.RowKit Go.Lib Go.Proofs.YtgnijnlgbelifaaW.PrintWords Go.Proofs.YtgnijnlgbelifaaW.PrintLast Go.Proofs.YtgnijnlgbelifaaW.PrintMore Go.Proofs.YtgnijnlgbelifaaW Go.Proofs.Ytgnijnlgbelifaa.Q
set_option linter.unusedVariables false
set_option linter.unusedSimpArgs false
set_option maxHeartbeats 1000000 in
set_option maxRecDepth 100000 in
theorem impl_allOf_int.pred (p : Int → Option Bool) (g : Nat) (lb : Array Value) (eg : ∀ args w,(callFunc g args).run Try.prog w = .ok (.enter g args) w) (B : Nat) (w : World) (hB : B < w.heap.size) (hcell : w.cell? ⟨B,0,none⟩ = some (.func (.func g) #[] lb)) (W : World) (x : Int) (b : Bool) (hb : Below w.heap.size w W)
  (hp : ∀ (b : Bool),p x = some b → Calls Try.prog g (#[.int .i64 x] ++ lb) W fun e w' => e = .returned (.bool b) ∧ Below W.heap.size W w')
  (hpx : ((p x).map (!·)) = some b) :
  Calls Try.prog 69 (#[.int .i64 x] ++ #[.pointer (some ⟨B,0,none⟩)]) W fun e w' => e = .returned (.bool b) ∧ Below w.heap.size w w' := by
 have hc : W.cell? ⟨B,0,none⟩ = some (.func (.func g) #[] lb) := (hb.cell (p := ⟨B,0,none⟩) hB).trans hcell
 cases hr : p x with
 | none => rw [hr] at hpx;cases hpx
 | some r =>
  rw [hr] at hpx
  obtain rfl := Option.some.inj hpx
  have HC := Aside0.mk (hp r hr)
  clear hp hr hpx
  show Calls Try.prog 69 #[.int .i64 x,.pointer (some ⟨B,0,none⟩)] W _
  have HBB := Aside0.mk hb
  clear hb
  go_enter Try.func69,Try.ntmps69
  go_wp2_with (go_at_fn g;refine (HC.out).mono ?_;rintro e w' ⟨rfl,hb'⟩)
  go_ret
  exact ⟨rfl,HBB.out.trans (hb'.mono HBB.out.size)⟩
set_option maxHeartbeats 1000000 in
set_option maxRecDepth 100000 in
/-- allOf at a literal that is asked in order and keeps what was there. -/
theorem impl_allOf_int.calls (p : Int → Option Bool) (g : Nat) (lb : Array Value) (eg : ∀ args w,(callFunc g args).run Try.prog w = .ok (.enter g args) w) (A0 : Option Addr) (c0 : Nat) (l0 : List Int) (r : Bool) (w : World) (hr0 : Kd.C (Kd.int .i64) w A0 l0.length l0)
  (hp : ∀ (W : World) (x : Int) (b : Bool),Below w.heap.size w W → x ∈ l0 → p x = some b → Calls Try.prog g (#[.int .i64 x] ++ lb) W fun e w' => e = .returned (.bool b) ∧ Below W.heap.size W w')
  (h : impl_allOf_int.f p l0 = some r) :
  Calls Try.prog 49 #[.slice A0 l0.length c0,.func (.func g) #[] lb] w fun e w' => e = .returned (.bool r) ∧ Below w.heap.size w w' := by
 have el : ∀ args w,(callFunc 69 args).run Try.prog w = .ok (.enter 69 args) w := enters_of Try.func69 (by kernel_rfl) rfl
 have hbel : Below w.heap.size w (w.alloc (.cells #[.func (.func g) #[] lb] 55)) := below_alloc (Below.refl _ _) _
 unfold impl_allOf_int.f GIdx.allO at h
 cases hany : GIdx.anyO (fun x => (p x).map (!·)) l0 with
 | none => rw [hany] at h;cases h
 | some q =>
  rw [hany] at h
  obtain rfl := Option.some.inj h
  have hcon := GIdx.any_one Try.laysCI58 (Kd.int .i64) rfl (fun x => (p x).map (!·)) 69 #[.pointer (some ⟨w.heap.size,0,none⟩)] el A0 l0.length c0 l0 (w.alloc (.cells #[.func (.func g) #[] lb] 55)) rfl (Kd.C_below hr0 hbel) q
   (fun W x v b hW hx hK hpx => by
    obtain rfl : (Value.int .i64 x) = v := by have e_ : [(Value.int .i64 x : Value)] = [v] := hK.symm ▸ rfl;injection e_
    exact impl_allOf_int.pred p g lb eg w.heap.size _ (by simp) (by simp) W x b hW (fun b' hb' => hp W x b' (hbel.trans (hW.mono (by simp))) hx hb') hpx) hany
  change Calls Try.prog 58 _ _ _ at hcon
  have HC := Aside0.mk hcon
  clear hcon hr0 hany h hp
  go_enter Try.func49,Try.ntmps49
  go_wp2_with (go_at_call 58;refine HC.out.mono ?_;rintro e w' ⟨rfl,hb⟩)
  go_ret
  exact ⟨rfl,hbel.trans (hb.mono (by simp))⟩


end Go.Proofs.Ytgnijnlgbelifaa.Q
