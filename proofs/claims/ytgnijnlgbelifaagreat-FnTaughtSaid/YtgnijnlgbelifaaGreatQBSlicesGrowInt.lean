import Derived.Test.YtgnijnlgbelifaaGreatQ0
import Derived.Test.YtgnijnlgbelifaaGreatGUp
import Derived.Test.YtgnijnlgbelifaaGreatGDel
import Derived.Test.YtgnijnlgbelifaaGreatWRepsOne
namespace Go.Proofs.YtgnijnlgbelifaaGreat.Q
open Go.RowKit Go.Proofs.YtgnijnlgbelifaaGreatW.PrintWords Go.Proofs.YtgnijnlgbelifaaGreatW.PrintLast Go.Proofs.YtgnijnlgbelifaaGreatW.PrintMore Go.Proofs.YtgnijnlgbelifaaGreatW.GCall
attribute [local go_sem] max2_int min2_int max_two min_two max_three min_three max_four min_four
set_option linter.unusedVariables false
set_option linter.unusedSimpArgs false
def slices_Grow_int.f (a1 : Int) : Option (List Int) := if 0 <= a1 then (if a1 < 17592186044416 then some [] else none) else none
set_option maxHeartbeats 1000000
open Go.RowKit Go.Lib Go.Proofs.YtgnijnlgbelifaaGreatW.PrintWords Go.Proofs.YtgnijnlgbelifaaGreatW.PrintLast Go.Proofs.YtgnijnlgbelifaaGreatW.PrintMore Go.Proofs.YtgnijnlgbelifaaGreatW Go.Proofs.YtgnijnlgbelifaaGreat.Q Go.Proofs.YtgnijnlgbelifaaGreatW.GCall
set_option maxHeartbeats 1000000 in
set_option maxRecDepth 100000 in
theorem slices_Grow_int.calls (a1 : Int) (r : List Int) (w : World) (h : slices_Grow_int.f a1 = some r) :
  Calls Tryz.prog 141 #[.slice none 0 0,.int .i64 a1] w fun e w' => ∃ v0_ : Value,e = .returned v0_ ∧ Kd.R (Kd.int .i64) 3 w' w.heap.size (fun _ => True) v0_ r ∧ Below w.heap.size w w' := by
 unfold slices_Grow_int.f at h
 split at h
 ·rename_i h0
  split at h
  ·rename_i h1
   obtain rfl := Option.some.inj h;have d0 : decide (a1 < 0) = false := decide_eq_false (by omega);have hw0 : wrap64 a1 = a1 := by unfold wrap64;omega
   have hw1 : IntKind.i64.wrap a1 = a1 := by rw [i64_w];exact hw0
   have HB := ZA (Below.refl w.heap.size w);by_cases h2 : 0 < a1;rotate_left
   ·have d1 : decide (0 < a1) = false := decide_eq_false h2;clear h h0 h1 h2;go_enter Tryz.func141,Tryz.ntmps141;go_wp2;go_ret;exact ⟨_,rfl,Kd.R_nil _ _ _ _ _,(ZQ HB)⟩
   have d1 : decide (0 < a1) = true := decide_eq_true h2;have H1 := ZA h1;have H0 := ZA h0;clear h h0 h1 h2;go_enter Tryz.func141,Tryz.ntmps141
   go_wp2_with ((with_reducible refine gate_builtin (b := .append) (xs := #[.tmp 20,.tmp 21]) rfl ?_);at_builtin;refine Kd.R_append_zeros (Kd.int .i64) (w0 := w) w.heap.size rfl (.tmp 20) (.tmp 21) 28 3 3 (.int .i64 0) 8 rfl Tryz.underlying28 Tryz.underlying3 info3 rfl (by decide) (by omega) (.slice none 0 0) [] 0 a1 (fun _ => True) rfl rfl rfl (fun _ _ => trivial) (Kd.R_nil _ _ _ _ _) H0.out (ZQ HB) (SZ HB) (by have := H1.out;have := H0.out;simp;omega) ?_;intro v1 w1 ho hb hg hat;obtain ⟨g1,cap1,rfl,hc1⟩ : ∃ g1 cap1,v1 = .slice (some ⟨g1,0,none⟩) ([] ++ List.replicate a1.toNat (0 : Int)).length cap1 ∧ 0 <= cap1 := (by rcases GDel.R_size ho with ⟨h3,_⟩ | ⟨g1,cap1,h3,_⟩;(exfalso;have := congrArg List.length h3;have h9 := of_decide_eq_true d1;rw [<- hw1] at h9;simp at this;omega);exact ⟨g1,cap1,h3,Nat.zero_le _⟩))
   go_ret;exact ⟨_,rfl,GDel.R_cutoff ho (Nat.zero_le _),hb⟩
  cases h
 cases h
mutual
def slices_Concat_int.l0 : Nat -> List (List Int) -> Int -> List (List Int) -> Int -> Int -> Option (List Int)
 | 0,_,_,_,_,_ => none
 | k + 1,x0,x3,x9,x10,x11 => if x11 < x10 then (if 0 <= x11 then (if x11 < (x9.length : Int) then (if (wrap64 (x3 + ((rd_L2 x9 x11).length : Int))) < 0 then (none) else (slices_Concat_int.l0 k x0 (wrap64 (x3 + ((rd_L2 x9 x11).length : Int))) x9 x10 (wrap64 (x11 + 1)))) else (none)) else (none)) else ((slices_Grow_int.f x3).bind fun t102 => (slices_Concat_int.l1 k t102 x0 (x0.length : Int) 0))
def slices_Concat_int.l1 : Nat -> List Int -> List (List Int) -> Int -> Int -> Option (List Int)
 | 0,_,_,_,_ => none
 | k + 1,x6,x25,x26,x27 => if x27 < x26 then (if 0 <= x27 then (if x27 < (x25.length : Int) then (if x6.length + (rd_L2 x25 x27).length < 17592186044416 then (slices_Concat_int.l1 k (x6 ++ (rd_L2 x25 x27)) x25 x26 (wrap64 (x27 + 1))) else (none)) else (none)) else (none)) else (some x6)
end
def slices_Concat_int.f (k : Nat) (l0 : List (List Int)) : Option (List Int) := slices_Concat_int.l0 k l0 0 l0 (l0.length : Int) 0
set_option maxHeartbeats 3000000 in
set_option maxRecDepth 100000 in
theorem slices_Concat_int.calls (k : Nat) (A0 : Option Addr) (c0 : Nat) (l0 : List (List Int)) (r : List Int) (w : World) (hr0 : Kd.C (Kd.slice 3 (Kd.int .i64)) w A0 l0.length l0) (hc0 : l0.length <= c0) (h : slices_Concat_int.f k l0 = some r) :
  Calls Tryz.prog 86 #[.slice A0 l0.length c0] w fun e w' => ∃ v0_ : Value,e = .returned (v0_) ∧ Kd.R (Kd.int .i64) 3 w' w.heap.size (fun _ => True) v0_ r ∧ Below w.heap.size w w' := by
 have HR0 := ZA hr0;have HC0 := ZA hc0;clear hr0 hc0;have HB := ZA (Below.refl w.heap.size w);have H : (slices_Concat_int.l0 k l0 0 l0 (l0.length : Int) 0) = some r := h;clear h;have H' := ZA H;clear H;go_enter Tryz.func86,Tryz.ntmps86;go_wp2
 go_loopg [3,11] k (fun kq v3 v11 w' => ∃ (x3_1 : Int) (x11_1 : Int),v3 = .int .i64 x3_1 ∧ v11 = .int .i64 x11_1 ∧ Aside0 (slices_Concat_int.l0 kq l0 x3_1 l0 (l0.length : Int) x11_1 = some r) ∧ Aside0 (kq <= k) ∧ Aside0 (Below w.heap.size w w'))
 case atStart => exact ⟨(0),(0),ZG,ZG,H',⟨Nat.le_refl _⟩,⟨ZQ HB⟩⟩
 case round =>
  clear H';obtain ⟨x3_1,x11_1,rfl,rfl,HA,HK1,HB⟩ := hrel;cases gk with
  | zero => exact absurd HA.out (by simp [slices_Concat_int.l0])
  | succ k1 =>
   have H := HA.out;clear HA;simp only [slices_Concat_int.l0] at H;by_cases c2 : x11_1 < (l0.length : Int)
   ·rw [if_pos c2] at H;have c2b0 := decide_eq_true c2;clear c2;replace H := YN H;obtain ⟨c3b0,H⟩ := H;replace H := YN H;obtain ⟨c4b0,H⟩ := H;by_cases c5 : (wrap64 (x3_1 + ((rd_L2 l0 x11_1).length : Int))) < 0
    ·rw [if_pos c5] at H;exact absurd H (by simp)
    rw [if_neg c5] at H;have c5b0 := decide_eq_false c5;clear c5;have H' := ZA H;clear H;have p101 : 0 <= (x11_1 : Int) := ZD;have q101 : x11_1 < (l0.length : Int) := ZD;obtain ⟨ad101,A101_0,c101_0,e101,hx101_0,hl101_0,hi101_0⟩ := at_L2 HR0.out x11_1 p101 q101;cases e101;replace hx101_0 := ZX HB hx101_0;have HR101_0 := ZA hi101_0;have HC101_0 := ZA hl101_0;clear hi101_0 hl101_0;replace p101 := eq_true p101;replace q101 := eq_true q101;go_wp2
    go_roundg k1
    case measure => have := HK1.out;omega
    case rel => exact ⟨(wrap64 (x3_1 + ((rd_L2 l0 x11_1).length : Int))),(wrap64 (x11_1 + 1)),ZG,ZG,H',⟨by have := HK1.out;omega⟩,⟨ZQ HB⟩⟩
   rw [if_neg c2] at H;have c2b0 := decide_eq_false c2;clear c2;replace H := YJ H;obtain ⟨t102,A6,H⟩ := H;have H' := ZA H;clear H
   go_wp2_with (first|((with_reducible refine YG 141 ?_);refine YC (some 24) Tryz.func141 #[.slice none 0 0,.int .i64 x3_1] (slices_Grow_int.calls x3_1 t102 _ A6.out) ?_;rintro e w7 ⟨v103,rfl,ho0,hb⟩;refine ⟨_,rfl,?_⟩;have HO104 := ZA (Kd.R_lower ho0 (SZ HB));replace HB := BS HB hb))
   go_loopg [6,27] k1 (fun kq v6 v27 w' => ∃ (x6_2 : List Int) (x27_2 : Int),v27 = .int .i64 x27_2 ∧ Aside0 (slices_Concat_int.l1 kq x6_2 l0 (l0.length : Int) x27_2 = some r) ∧ Aside0 (kq <= k1) ∧ Aside0 (Kd.R (Kd.int .i64) 3 w' w.heap.size (fun _ => True) v6 x6_2) ∧ Aside0 (Below w.heap.size w w'))
   case atStart => exact ⟨(t102),(0),ZG,H',⟨Nat.le_refl _⟩,⟨ZK HO104⟩,⟨ZQ HB⟩⟩
   case round =>
    clear H';obtain ⟨x6_2,x27_2,rfl,HA,HK2,HO_6,HB⟩ := hrel;cases gk with
    | zero => exact absurd HA.out (by simp [slices_Concat_int.l1])
    | succ k2 =>
     have H := HA.out;clear HA;simp only [slices_Concat_int.l1] at H;replace H := YI H;rcases H with ⟨c8b0,H⟩|⟨c8b0,H⟩;rotate_left
     ·obtain rfl := Option.some.inj H;go_wp2;go_ret;exact ⟨_,YR,ZK HO_6,ZQ HB⟩
     replace H := YN H;obtain ⟨c9b0,H⟩ := H;replace H := YN H;obtain ⟨c10b0,H⟩ := H;replace H := YM H;obtain ⟨c11,H⟩ := H;have LMc11 := ZA c11;clear c11;obtain ⟨y106,hy106⟩ : ∃ y_ : List Int,y_ = (x6_2 ++ (rd_L2 l0 x27_2)) := ⟨_,rfl⟩;replace H : (slices_Concat_int.l1 k2 y106 l0 (l0.length : Int) (wrap64 (x27_2 + 1))) = some r := YH hy106 H;have Ny106 := ZA hy106;clear hy106;have H' := ZA H;clear H;have p105 : 0 <= (x27_2 : Int) := ZD;have q105 : x27_2 < (l0.length : Int) := ZD;obtain ⟨ad105,A105_0,c105_0,e105,hx105_0,hl105_0,hi105_0⟩ := at_L2 HR0.out x27_2 p105 q105;cases e105;replace hx105_0 := ZX HB hx105_0;have HR105_0 := ZA hi105_0;have HC105_0 := ZA hl105_0;clear hi105_0 hl105_0;replace p105 := eq_true p105;replace q105 := eq_true q105
     go_wp2_with (first|((with_reducible refine gate_builtin (b := .append) (xs := #[.tmp 31,.tmp 32]) rfl ?_);at_builtin;refine Kd.R_append_rows (Kd.int .i64) (w0 := w) w.heap.size rfl (.tmp 31) (.tmp 32) 28 3 (.int .i64 0) 8 rfl Tryz.underlying28 info3 rfl (by decide) (by omega) u6 x6_2 (rd_L2 l0 x27_2) _ _ _ (fun _ => True) (fun _ => False) rfl rfl (ZK HO_6) (ZR (Kd.C_below HR105_0.out HB.out)) (fun _ _ h => h) (fun _ h => h.elim) (fun _ _ => trivial) (ZQ HB) (SZ HB) ?aL ?_;(case aL => have := LMc11.out;omega);intro v107 w12 ho hb hg hat;rw [<- Ny106.out] at ho;replace HB := ZA (hb);have HO108 := ZA (ho);clear HO_6;clear ho hb hg hat))
     go_roundg k2
     case measure => have := HK1.out;have := HK2.out;omega
     case rel => exact ⟨(y106),(wrap64 (x27_2 + 1)),ZG,H',⟨by have := HK1.out;have := HK2.out;omega⟩,⟨ZK HO108⟩,⟨ZQ HB⟩⟩
end Go.Proofs.YtgnijnlgbelifaaGreat.Q
