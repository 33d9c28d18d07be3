-- Written for the seat YtnafjfdalapegaaGreat by a program of this session (wip/tool/gx.py) out of the translation. Lean checks it.
import Derived.Test.YtnafjfdalapegaaGreatQ0
import Derived.Test.YtnafjfdalapegaaGreatQBImplIsTaught
import Derived.Ground.SlgfProg
import Derived.Lib.SliceRun
import Derived.StillTailTactics
import Derived.Test.YtnafjfdalapegaaGreatGIdx
import Derived.Test.YtnafjfdalapegaaGreatWFoot
import Derived.Test.YtnafjfdalapegaaGreatWKept
import Derived.Test.YtnafjfdalapegaaGreatWShare
import Derived.Test.YtnafjfdalapegaaGreatWRepsOne
namespace Go.Proofs.YtnafjfdalapegaaGreat.Q
open Go.RowKit Go.Proofs.YtnafjfdalapegaaGreatW.PrintWords Go.Proofs.YtnafjfdalapegaaGreatW.PrintLast Go.Proofs.YtnafjfdalapegaaGreatW.PrintMore
attribute [local go_sem] max2_int min2_int max_two min_two max_three min_three max_four min_four   -- for this text's walks alone
set_option linter.unusedVariables false
set_option linter.unusedSimpArgs false

/-! ### impl_NextLesson_1: function 51 -/
def impl_NextLesson_1.p (k : Nat) (l1 : List (List Int)) (a2 : Int) (x : S28) : Option Bool := if 0 ≤ a2 then (if a2 ≤ (l1.length : Int) then impl_isFair.f k (l1.take a2.toNat) x.f0 x.f1 else none) else none
def impl_NextLesson_1.f (k : Nat) (l0 : List S28) (l1 : List (List Int)) (a2 : Int) : Option Bool := Go.Proofs.YtnafjfdalapegaaGreatW.GIdx.allO (fun x => impl_NextLesson_1.p k l1 a2 x) l0
theorem impl_NextLesson_1.mono : ∀ a0 a1 a2 k, LeO (impl_NextLesson_1.f k a0 a1 a2) (impl_NextLesson_1.f (k + 1) a0 a1 a2) := fun a0 a1 a2 k => Go.Proofs.YtnafjfdalapegaaGreatW.GIdx.allO_mono (fun x => LeO.ite (LeO.ite (impl_isFair.mono _ _ _ _) (LeO.refl _)) (LeO.refl _)) a0
set_option maxHeartbeats 1000000
end Go.Proofs.YtnafjfdalapegaaGreat.Q
namespace Go.Proofs
open Go.Shelf
shelf_lay_g SlLaysH0.n8 Slgf 8 at Tryz 74 as Tryz.laysNL74
end Go.Proofs
namespace Go.Proofs.YtnafjfdalapegaaGreat.Q
open Go.RowKit Go.Lib Go.Proofs.YtnafjfdalapegaaGreatW.PrintWords Go.Proofs.YtnafjfdalapegaaGreatW.PrintLast Go.Proofs.YtnafjfdalapegaaGreatW.PrintMore Go.Proofs.YtnafjfdalapegaaGreatW Go.Proofs.YtnafjfdalapegaaGreat.Q
set_option linter.unusedVariables false
set_option linter.unusedSimpArgs false
set_option maxHeartbeats 1000000 in
set_option maxRecDepth 100000 in
theorem impl_NextLesson_1.lit (k : Nat) (A1 : Option Addr) (c1 : Nat) (l1 : List (List Int)) (a2 : Int) (x : S28) (A2 : Option Addr) (c2 : Nat) (b : Bool) (gb gb2 : Nat) (W : World) (hr1 : Kd.C (Kd.slice 3 (Kd.int .i64)) W A1 l1.length l1) (hc1 : l1.length ≤ c1) (hr2 : Kd.C (Kd.int .i64) W A2 x.f1.length x.f1) (hc2 : x.f1.length ≤ c2) (hbx : W.cell? ⟨gb, 0, none⟩ = some (.slice A1 l1.length c1)) (hbx2 : W.cell? ⟨gb2, 0, none⟩ = some (.int .i64 a2)) (hp : impl_NextLesson_1.p k l1 a2 x = some b) :
  Calls Tryz.prog 51 #[.agg #[.int .i64 x.f0, .slice A2 x.f1.length c2], .pointer (some ⟨gb, 0, none⟩), .pointer (some ⟨gb2, 0, none⟩)] W fun e w' => e = .returned (.bool b) ∧ Below W.heap.size W w' := by
 unfold impl_NextLesson_1.p at hp
 split at hp
 ·rename_i p1
  split at hp
  ·rename_i q1
   have hle : a2.toNat ≤ l1.length := by omega
   have hlen : (l1.take a2.toNat).length = a2.toNat := by rw [List.length_take, Nat.min_eq_left hle]
   have hcon := fun W' (hW : Below W.heap.size W W') => (impl_isFair.calls k A1 c1 (l1.take a2.toNat) x.f0 A2 c2 x.f1 b W' (by have := Kd.C_take (Kd.C_below hr1 hW) (m := a2.toNat) hle; rw [hlen]; rw [hlen] at this; exact this) (by omega) (Kd.C_below hr2 hW) hc2 hp).mono (fun e w' h_ => (⟨h_.1, hW.trans (h_.2.mono hW.size)⟩ : e = .returned (.bool b) ∧ Below W.heap.size W w'))
   rw [hlen] at hcon
   have HC := Aside0.mk hcon
   have hu := Tryz.underlying28
   have P1 := eq_true p1
   have P2 : decide (0 ≤ a2) = true := decide_eq_true p1
   have Q1 := eq_true q1
   have Q2 : decide (a2 ≤ (l1.length : Int)) = true := decide_eq_true q1
   have Q3 : (a2 ≤ (c1 : Int)) = True := eq_true (by omega)
   have Q4 : decide (a2 ≤ (c1 : Int)) = true := decide_eq_true (by omega)
   have hlt : gb < W.heap.size := World.block_lt_of_cell? W _ hbx
   have hlt2 : gb2 < W.heap.size := World.block_lt_of_cell? W _ hbx2
   have hbx' : (W.alloc (.cells #[.int .i64 x.f0, .slice A2 x.f1.length c2] 28)).cell? ⟨gb, 0, none⟩ = some (.slice A1 l1.length c1) := Lib.cell?_alloc_some _ hbx
   have hbx2' : (W.alloc (.cells #[.int .i64 x.f0, .slice A2 x.f1.length c2] 28)).cell? ⟨gb2, 0, none⟩ = some (.int .i64 a2) := Lib.cell?_alloc_some _ hbx2
   clear hcon hbx hbx2 hp hr1 hr2 p1 q1 hlen hle
   generalize x.f0 = y0 at *
   generalize x.f1 = y1 at *
   have HA := Aside0.mk (below_alloc (Below.refl W.heap.size W) (.cells #[.int .i64 y0, .slice A2 y1.length c2] 28))
   have hq0 : (W.alloc (.cells #[.int .i64 y0, .slice A2 y1.length c2] 28)).cell? ⟨W.heap.size, 0, none⟩ = some (.int .i64 y0) := by simp
   have hq1 : (W.alloc (.cells #[.int .i64 y0, .slice A2 y1.length c2] 28)).cell? ⟨W.heap.size, 1, none⟩ = some (.slice A2 y1.length c2) := by simp
   go_enter Tryz.func51, Tryz.ntmps51
   go_wp2
   generalize W.alloc (.cells #[.int .i64 y0, .slice A2 y1.length c2] 28) = w1 at *
   go_still_tail 4, (by kernel_rfl)
   change wpList _ _ _ _ _ w1.drew
   have HBB := Aside0.mk (below_drew1 HA.out)
   generalize w1.drew = w2 at *
   go_wp2_with (go_at_call 52; refine (HC.out _ HBB.out).mono ?_; rintro e w' ⟨rfl, hb'⟩)
   go_ret
   exact ⟨rfl, hb'⟩
  ·cases hp
 ·cases hp
set_option maxHeartbeats 1000000 in
set_option maxRecDepth 100000 in
theorem impl_NextLesson_1.pred (k : Nat) (l0 : List S28) (A1 : Option Addr) (c1 : Nat) (l1 : List (List Int)) (a2 : Int) (gb gb2 : Nat) (B : Nat) (w : World) (hB : B < w.heap.size) (hr1 : Kd.C (Kd.slice 3 (Kd.int .i64)) w A1 l1.length l1) (hc1 : l1.length ≤ c1) (hbx : w.cell? ⟨gb, 0, none⟩ = some (.slice A1 l1.length c1)) (hbx2 : w.cell? ⟨gb2, 0, none⟩ = some (.int .i64 a2))
  (hcell : w.cell? ⟨B, 0, none⟩ = some (.func (.func 51) #[] #[.pointer (some ⟨gb, 0, none⟩), .pointer (some ⟨gb2, 0, none⟩)])) (W : World) (x : S28) (cs : List Value) (b : Bool) (hb : Below w.heap.size w W) (hx : x ∈ l0) (hK : k28.K w x cs) (hpx : ((impl_NextLesson_1.p k l1 a2 x).map (!·)) = some b) :
  Calls Tryz.prog 75 (#[.agg cs.toArray] ++ #[.pointer (some ⟨B, 0, none⟩)]) W fun e w' => e = .returned (.bool b) ∧ Below w.heap.size w w' := by
 have hc : W.cell? ⟨B, 0, none⟩ = some (.func (.func 51) #[] #[.pointer (some ⟨gb, 0, none⟩), .pointer (some ⟨gb2, 0, none⟩)]) := (hb.cell (p := ⟨B, 0, none⟩) hB).trans hcell
 have hlt : gb < w.heap.size := World.block_lt_of_cell? w _ hbx
 have hlt2 : gb2 < w.heap.size := World.block_lt_of_cell? w _ hbx2
 have e44 : ∀ args w, (callFunc 51 args).run Tryz.prog w = .ok (.enter 51 args) w := enters_of Tryz.func51 (by kernel_rfl) rfl
 have hu := Tryz.underlying28
 cases hr : impl_NextLesson_1.p k l1 a2 x with
 | none => rw [hr] at hpx; cases hpx
 | some r =>
  rw [hr] at hpx
  obtain rfl := Option.some.inj hpx
  obtain ⟨A2, c2, rfl, hl, hC⟩ := k28_open hK
  have hcon := fun W' (hb' : Below w.heap.size w W') => (impl_NextLesson_1.lit k A1 c1 l1 a2 x A2 c2 r gb gb2 W' (Kd.C_below hr1 hb') hc1 (Kd.C_below hC hb') hl ((hb'.cell (p := ⟨gb, 0, none⟩) hlt).trans hbx) ((hb'.cell (p := ⟨gb2, 0, none⟩) hlt2).trans hbx2) hr).mono (fun e w' h_ => (⟨h_.1, hb'.trans (h_.2.mono hb'.size)⟩ : e = .returned (.bool r) ∧ Below w.heap.size w w'))
  have HC := Aside0.mk hcon
  clear hcon hr hK hpx hbx hbx2 hr1
  show Calls Tryz.prog 75 #[.agg #[.int .i64 x.f0, .slice A2 x.f1.length c2], .pointer (some ⟨B, 0, none⟩)] W _
  have HBB := Aside0.mk hb
  have hc2 : (W.alloc (.cells #[.int .i64 x.f0, .slice A2 x.f1.length c2] 28)).cell? ⟨B, 0, none⟩ = some (.func (.func 51) #[] #[.pointer (some ⟨gb, 0, none⟩), .pointer (some ⟨gb2, 0, none⟩)]) := Lib.cell?_alloc_some _ hc
  clear hb hc
  go_enter Tryz.func75, Tryz.ntmps75
  go_wp2_with (go_at_fn 51; refine (HC.out _ (by repeat (first | exact HBB.out | apply pw_below_drewN | apply below_alloc))).mono ?_; rintro e w' ⟨rfl, hb'⟩)
  go_ret
  exact ⟨rfl, hb'⟩
set_option maxHeartbeats 1000000 in
set_option maxRecDepth 100000 in
theorem impl_NextLesson_1.calls (k : Nat) (A0 : Option Addr) (c0 : Nat) (l0 : List S28) (A1 : Option Addr) (c1 : Nat) (l1 : List (List Int)) (a2 : Int) (r : Bool) {gb gb2 : Nat} (w : World) (hr0 : Kd.C k28 w A0 l0.length l0) (hc0 : l0.length ≤ c0) (hr1 : Kd.C (Kd.slice 3 (Kd.int .i64)) w A1 l1.length l1) (hc1 : l1.length ≤ c1) (hbx : w.cell? ⟨gb, 0, none⟩ = some (.slice A1 l1.length c1)) (hbx2 : w.cell? ⟨gb2, 0, none⟩ = some (.int .i64 a2)) (h : impl_NextLesson_1.f k l0 l1 a2 = some r) :
  Calls Tryz.prog 50 #[.slice A0 l0.length c0, .func (.func 51) #[] #[.pointer (some ⟨gb, 0, none⟩), .pointer (some ⟨gb2, 0, none⟩)]] w fun e w' => e = .returned (.bool r) ∧ Below w.heap.size w w' := by
 have eg : ∀ args w, (callFunc 75 args).run Tryz.prog w = .ok (.enter 75 args) w := enters_of Tryz.func75 (by kernel_rfl) rfl
 have hbel : Below w.heap.size w (w.alloc (.cells #[.func (.func 51) #[] #[.pointer (some ⟨gb, 0, none⟩), .pointer (some ⟨gb2, 0, none⟩)]] 77)) := below_alloc (Below.refl _ _) _
 have hlt : gb < w.heap.size := World.block_lt_of_cell? w _ hbx
 have hlt2 : gb2 < w.heap.size := World.block_lt_of_cell? w _ hbx2
 unfold impl_NextLesson_1.f GIdx.allO at h
 cases hany : GIdx.anyO (fun x => (impl_NextLesson_1.p k l1 a2 x).map (!·)) l0 with
 | none => rw [hany] at h; cases h
 | some q =>
  rw [hany] at h
  obtain rfl := Option.some.inj h
  have hcon := GIdx.any_agg Tryz.laysNL74 k28 2 rfl (by decide) Tryz.isAgg28 Tryz.sizeOf28 (fun x => (impl_NextLesson_1.p k l1 a2 x).map (!·)) 75 #[.pointer (some ⟨w.heap.size, 0, none⟩)] eg A0 l0.length c0 l0 (w.alloc (.cells #[.func (.func 51) #[] #[.pointer (some ⟨gb, 0, none⟩), .pointer (some ⟨gb2, 0, none⟩)]] 77)) rfl (Kd.C_below hr0 hbel) q
   (impl_NextLesson_1.pred k l0 A1 c1 l1 a2 gb gb2 w.heap.size _ (by simp) (Kd.C_below hr1 hbel) hc1 ((hbel.cell (p := ⟨gb, 0, none⟩) hlt).trans hbx) ((hbel.cell (p := ⟨gb2, 0, none⟩) hlt2).trans hbx2) (by simp)) hany
  change Calls Tryz.prog 74 _ _ _ at hcon
  have HC := Aside0.mk hcon
  clear hcon hr0 hany h hr1 hbx hbx2
  go_enter Tryz.func50, Tryz.ntmps50
  go_wp2_with (go_at_call 74; refine HC.out.mono ?_; rintro e w' ⟨rfl, hb⟩)
  go_ret
  exact ⟨rfl, hbel.trans (hb.mono (by simp))⟩


end Go.Proofs.YtnafjfdalapegaaGreat.Q
