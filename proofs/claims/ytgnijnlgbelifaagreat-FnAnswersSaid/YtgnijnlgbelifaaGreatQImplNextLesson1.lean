import Derived.Test.YtgnijnlgbelifaaGreatQBImplIsFair1
namespace Go.Proofs.YtgnijnlgbelifaaGreat.Q
open RowKit W.PrintWords W.PrintLast W.PrintMore W.GCall
attribute [local go_sem] Ebi Ebj Ebx Eby Ebb Ebc Ebk Ebl
set_option linter.unusedVariables false
set_option linter.unusedSimpArgs false
def FC.p (k : Nat) (l1 : List (List Int)) (a2 : Int) (x : S30) : Option Bool := if 0 <= a2 then (if a2 <= (l1.length : Int) then Ll.f k (l1.take a2.toNat) x.f0 x.f1 else none) else none
def FC.f (k : Nat) (l0 : List S30) (l1 : List (List Int)) (a2 : Int) : Option Bool := Go.Proofs.YtgnijnlgbelifaaGreat.W.GIdx.allO (fun x => FC.p k l1 a2 x) l0
set_option maxHeartbeats 1000000
end Go.Proofs.YtgnijnlgbelifaaGreat.Q
namespace Go.Proofs
open Go.Shelf
shelf_lay_g SlLaysH0.n8 Slgf 8 at Tryz 151 as Tryz.laysNL151
end Go.Proofs
namespace Go.Proofs.YtgnijnlgbelifaaGreat.Q
open RowKit Lib W.PrintWords W.PrintLast W.PrintMore W Q W.GCall
set_option linter.unusedVariables false
set_option linter.unusedSimpArgs false
set_option maxHeartbeats 1000000 in
set_option maxRecDepth 100000 in
theorem FC.lit (k : Nat) (A1 : Option Addr) (c1 : Nat) (l1 : List (List Int)) (a2 : Int) (x : S30) (A2 : Option Addr) (c2 : Nat) (b : Bool) (gb f : Nat) (W : World) (g : Kd.C (Kd.slice 3 (Kd.int .i64)) W A1 l1.length l1) (ab : l1.length <= c1) (i : Kd.C (Kd.int .i64) W A2 x.f1.length x.f1) (j : x.f1.length <= c2) (hbx : W.cell? ⟨gb,0,none⟩ = some (.slice A1 l1.length c1)) (d : W.cell? ⟨f,0,none⟩ = some (.int .i64 a2)) (hp : FC.p k l1 a2 x = some b) :
  Calls Tryz.prog 114 #[.agg #[.int .i64 x.f0,.slice A2 x.f1.length c2],.pointer (some ⟨gb,0,none⟩),.pointer (some ⟨f,0,none⟩)] W fun e w' => e = .returned (.bool b) ∧ Below W.heap.size W w' := by
 unfold FC.p at hp
 split at hp
 ·rename_i p1
  split at hp
  ·rename_i q1
   have hle : a2.toNat <= l1.length := by omega
   have hlen : (l1.take a2.toNat).length = a2.toNat := by rw [List.length_take,Nat.min_eq_left hle]
   have hcon := fun W' (hW : Below W.heap.size W W') => (Ll.calls k A1 c1 (l1.take a2.toNat) x.f0 A2 c2 x.f1 b W' (by have := Kd.Edh (Kd.Eab g hW) (m := a2.toNat) hle;rw [hlen];rw [hlen] at this;exact this) (by omega) (Kd.Eab i hW) j hp).mono (fun e w' h_ => (⟨h_.1,hW.trans (h_.2.mono hW.size)⟩ : e = .returned (.bool b) ∧ Below W.heap.size W w'))
   rw [hlen] at hcon;have HC := ZA hcon;have hu := Tryz.underlying30;have P1 := eq_true p1;have P2 : decide (0 <= a2) = true := decide_eq_true p1;have Q1 := eq_true q1;have Q2 : decide (a2 <= (l1.length : Int)) = true := decide_eq_true q1;have Q3 : (a2 <= (c1 : Int)) = True := eq_true (by omega);have Q4 : decide (a2 <= (c1 : Int)) = true := decide_eq_true (by omega);have hlt : gb < W.heap.size := World.block_lt_of_cell? W _ hbx;have aa : f < W.heap.size := World.block_lt_of_cell? W _ d;have hbx' : (W.alloc (.cells #[.int .i64 x.f0,.slice A2 x.f1.length c2] 30)).cell? ⟨gb,0,none⟩ = some (.slice A1 l1.length c1) := Lib.cell?_alloc_some _ hbx;have hbx2' : (W.alloc (.cells #[.int .i64 x.f0,.slice A2 x.f1.length c2] 30)).cell? ⟨f,0,none⟩ = some (.int .i64 a2) := Lib.cell?_alloc_some _ d;clear hcon hbx d hp g i p1 q1 hlen hle;generalize x.f0 = y0 at *;generalize x.f1 = y1 at *;have HA := ZA (Eav (Below.refl W.heap.size W) (.cells #[.int .i64 y0,.slice A2 y1.length c2] 30));have ac : (W.alloc (.cells #[.int .i64 y0,.slice A2 y1.length c2] 30)).cell? ⟨W.heap.size,0,none⟩ = some (.int .i64 y0) := by simp
   have ad : (W.alloc (.cells #[.int .i64 y0,.slice A2 y1.length c2] 30)).cell? ⟨W.heap.size,1,none⟩ = some (.slice A2 y1.length c2) := by simp
   go_enter Tryz.func114,Tryz.ntmps114;go_wp2;generalize W.alloc (.cells #[.int .i64 y0,.slice A2 y1.length c2] 30) = w1 at *
   go_still_tail 4,(by kernel_rfl)
   change wpList _ _ _ _ _ w1.drew;have HBB := ZA (Eaf HA.out);generalize w1.drew = w2 at *
   go_wp2_with (go_at_call 69;refine (HC.out _ HBB.out).mono ?_;rintro e w' ⟨rfl,hb'⟩)
   go_ret;exact ⟨rfl,hb'⟩
  cases hp
 cases hp
set_option maxHeartbeats 1000000 in
set_option maxRecDepth 100000 in
theorem FC.pred (k : Nat) (l0 : List S30) (A1 : Option Addr) (c1 : Nat) (l1 : List (List Int)) (a2 : Int) (gb d : Nat) (B : Nat) (w : World) (hB : B < w.heap.size) (i : Kd.C (Kd.slice 3 (Kd.int .i64)) w A1 l1.length l1) (j : l1.length <= c1) (hbx : w.cell? ⟨gb,0,none⟩ = some (.slice A1 l1.length c1)) (f : w.cell? ⟨d,0,none⟩ = some (.int .i64 a2))
  (hcell : w.cell? ⟨B,0,none⟩ = some (.func (.func 114) #[] #[.pointer (some ⟨gb,0,none⟩),.pointer (some ⟨d,0,none⟩)])) (W : World) (x : S30) (cs : List Value) (b : Bool) (hb : Below w.heap.size w W) (hx : x ∈ l0) (hK : k30.K w x cs) (hpx : ((FC.p k l1 a2 x).map (!·)) = some b) :
  Calls Tryz.prog 152 (#[.agg cs.toArray] ++ #[.pointer (some ⟨B,0,none⟩)]) W fun e w' => e = .returned (.bool b) ∧ Below w.heap.size w w' := by
 have hc : W.cell? ⟨B,0,none⟩ = some (.func (.func 114) #[] #[.pointer (some ⟨gb,0,none⟩),.pointer (some ⟨d,0,none⟩)]) := (hb.cell (p := ⟨B,0,none⟩) hB).trans hcell;have hlt : gb < w.heap.size := World.block_lt_of_cell? w _ hbx;have g : d < w.heap.size := World.block_lt_of_cell? w _ f;have aa : ∀ args w,(callFunc 114 args).run Tryz.prog w = .ok (.enter 114 args) w := enters_of Tryz.func114 (by kernel_rfl) rfl;have hu := Tryz.underlying30;cases hr : FC.p k l1 a2 x with
 | none => rw [hr] at hpx;cases hpx
 | some r =>
  rw [hr] at hpx;obtain rfl := Option.some.inj hpx;obtain ⟨A2,c2,rfl,hl,hC⟩ := k30_open hK;have hcon := fun W' (hb' : Below w.heap.size w W') => (FC.lit k A1 c1 l1 a2 x A2 c2 r gb d W' (Kd.Eab i hb') j (Kd.Eab hC hb') hl ((hb'.cell (p := ⟨gb,0,none⟩) hlt).trans hbx) ((hb'.cell (p := ⟨d,0,none⟩) g).trans f) hr).mono (fun e w' h_ => (⟨h_.1,hb'.trans (h_.2.mono hb'.size)⟩ : e = .returned (.bool r) ∧ Below w.heap.size w w'))
  have HC := ZA hcon;clear hcon hr hK hpx hbx f i;show Calls Tryz.prog 152 #[.agg #[.int .i64 x.f0,.slice A2 x.f1.length c2],.pointer (some ⟨B,0,none⟩)] W _;have HBB := ZA hb;have ab : (W.alloc (.cells #[.int .i64 x.f0,.slice A2 x.f1.length c2] 30)).cell? ⟨B,0,none⟩ = some (.func (.func 114) #[] #[.pointer (some ⟨gb,0,none⟩),.pointer (some ⟨d,0,none⟩)]) := Lib.cell?_alloc_some _ hc;clear hb hc;go_enter Tryz.func152,Tryz.ntmps152
  go_wp2_with (go_at_fn 114;refine (HC.out _ (by repeat (first|exact HBB.out|apply Ebg|apply Eav))).mono ?_;rintro e w' ⟨rfl,hb'⟩)
  go_ret;exact ⟨rfl,hb'⟩
set_option maxHeartbeats 1000000 in
set_option maxRecDepth 100000 in
theorem FC.calls (k : Nat) (A0 : Option Addr) (c0 : Nat) (l0 : List S30) (A1 : Option Addr) (c1 : Nat) (l1 : List (List Int)) (a2 : Int) (r : Bool) {gb d : Nat} (w : World) (j : Kd.C k30 w A0 l0.length l0) (aa : l0.length <= c0) (m : Kd.C (Kd.slice 3 (Kd.int .i64)) w A1 l1.length l1) (n : l1.length <= c1) (hbx : w.cell? ⟨gb,0,none⟩ = some (.slice A1 l1.length c1)) (g : w.cell? ⟨d,0,none⟩ = some (.int .i64 a2)) (h : FC.f k l0 l1 a2 = some r) :
  Calls Tryz.prog 113 #[.slice A0 l0.length c0,.func (.func 114) #[] #[.pointer (some ⟨gb,0,none⟩),.pointer (some ⟨d,0,none⟩)]] w fun e w' => e = .returned (.bool r) ∧ Below w.heap.size w w' := by
 have eg : ∀ args w,(callFunc 152 args).run Tryz.prog w = .ok (.enter 152 args) w := enters_of Tryz.func152 (by kernel_rfl) rfl;have hbel : Below w.heap.size w (w.alloc (.cells #[.func (.func 114) #[] #[.pointer (some ⟨gb,0,none⟩),.pointer (some ⟨d,0,none⟩)]] 92)) := Eav (Below.refl _ _) _;have hlt : gb < w.heap.size := World.block_lt_of_cell? w _ hbx;have i : d < w.heap.size := World.block_lt_of_cell? w _ g;unfold FC.f GIdx.allO at h;cases hany : GIdx.anyO (fun x => (FC.p k l1 a2 x).map (!·)) l0 with
 | none => rw [hany] at h;cases h
 | some q =>
  rw [hany] at h;obtain rfl := Option.some.inj h;have hcon := GIdx.Ein Tryz.laysNL151 k30 2 rfl (by decide) Tryz.isAgg30 Tryz.sizeOf30 (fun x => (FC.p k l1 a2 x).map (!·)) 152 #[.pointer (some ⟨w.heap.size,0,none⟩)] eg A0 l0.length c0 l0 (w.alloc (.cells #[.func (.func 114) #[] #[.pointer (some ⟨gb,0,none⟩),.pointer (some ⟨d,0,none⟩)]] 92)) rfl (Kd.Eab j hbel) q
   (FC.pred k l0 A1 c1 l1 a2 gb d w.heap.size _ (by simp) (Kd.Eab m hbel) n ((hbel.cell (p := ⟨gb,0,none⟩) hlt).trans hbx) ((hbel.cell (p := ⟨d,0,none⟩) i).trans g) (by simp)) hany
  change Calls Tryz.prog 151 _ _ _ at hcon;have HC := ZA hcon;clear hcon j hany h m hbx g;go_enter Tryz.func113,Tryz.ntmps113
  go_wp2_with (go_at_call 151;refine HC.out.mono ?_;rintro e w' ⟨rfl,hb⟩)
  go_ret;exact ⟨rfl,hbel.trans (hb.mono (by simp))⟩
end Go.Proofs.YtgnijnlgbelifaaGreat.Q
