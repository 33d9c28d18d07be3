import Derived.Test.YtgnijnlgbelifaaGreatQ0
import Derived.Test.YtgnijnlgbelifaaGreatGUp
import Derived.Test.YtgnijnlgbelifaaGreatWRepsOne
import Derived.Test.YtgnijnlgbelifaaGreatWGuard
namespace Go.Proofs.YtgnijnlgbelifaaGreat.Q
open Go.RowKit Go.Proofs.YtgnijnlgbelifaaGreatW.PrintWords Go.Proofs.YtgnijnlgbelifaaGreatW.PrintLast Go.Proofs.YtgnijnlgbelifaaGreatW.PrintMore Go.Proofs.YtgnijnlgbelifaaGreatW.GCall
attribute [local go_sem] max2_int min2_int max_two min_two max_three min_three max_four min_four
set_option linter.unusedVariables false
set_option maxHeartbeats 3000000
set_option maxRecDepth 100000
set_option linter.unusedSimpArgs false
def spec_l1In.f (a0 : Int) (a1 : Int) (a2 : Int) : Option (Bool) := if a0 >= a1 then (some (decide (a0 <= a2))) else (some false)
theorem spec_l1In.calls (a0 : Int) (a1 : Int) (a2 : Int) (r : Bool) (w : World) (h : spec_l1In.f a0 a1 a2 = some r) :
  Calls Tryz.prog 65 #[.int .i64 a0,.int .i64 a1,.int .i64 a2] w fun e w' => e = .returned (.bool r) ∧ Drawn0 w w' := by
 have H : (if a0 >= a1 then (some (decide (a0 <= a2))) else (some false)) = some r := h;clear h;by_cases c4 : a0 >= a1
 ·rw [if_pos c4] at H;have c4b0 := decide_eq_true c4;clear c4;obtain rfl := Option.some.inj H;go_enter Tryz.func65,Tryz.ntmps65;go_wp2;go_ret;exact ⟨by first|rfl|(simp;done)|(simp [*];done),by repeat (first|exact Drawn0.refl _|apply Drawn0.step)⟩
 rw [if_neg c4] at H;have c4b0 := decide_eq_false c4;clear c4;obtain rfl := Option.some.inj H;go_enter Tryz.func65,Tryz.ntmps65;go_wp2;go_ret;exact ⟨by first|rfl|(simp;done)|(simp [*];done),by repeat (first|exact Drawn0.refl _|apply Drawn0.step)⟩
def spec_l1Has.l0 : Nat -> Int -> List Int -> Int -> Int -> Option (Bool)
 | 0,_,_,_,_ => none
 | k + 1,x1,x7,x8,x9 => if x9 < x8 then (if 0 <= x9 then (if x9 < (x7.length : Int) then (if (rd x7 x9) = x1 then (some true) else (spec_l1Has.l0 k x1 x7 x8 (wrap64 (x9 + 1)))) else (none)) else (none)) else (some false)
def spec_l1Has.f (k : Nat) (l0 : List Int) (a1 : Int) : Option (Bool) := spec_l1Has.l0 k a1 l0 (l0.length : Int) 0
theorem spec_l1Has.calls (k : Nat) (A0 : Option Addr) (c0 : Nat) (l0 : List Int) (a1 : Int) (r : Bool) (w : World) (hr0 : Kd.C (Kd.int .i64) w A0 l0.length l0) (hc0 : l0.length <= c0) (h : spec_l1Has.f k l0 a1 = some r) :
  Calls Tryz.prog 72 #[.slice A0 l0.length c0,.int .i64 a1] w fun e w' => e = .returned (.bool r) ∧ Drawn0 w w' := by
 have HR0 := ZA hr0;have HC0 := ZA hc0;clear hr0 hc0;have H : (spec_l1Has.l0 k a1 l0 (l0.length : Int) 0) = some r := h;clear h;have H' := ZA H;clear H;go_enter Tryz.func72,Tryz.ntmps72;go_wp2
 go_loopg [9] k (fun kq v9 w' => ∃ (x9_1 : Int),v9 = .int .i64 x9_1 ∧ Aside0 (spec_l1Has.l0 kq a1 l0 (l0.length : Int) x9_1 = some r) ∧ Aside0 (kq <= k) ∧ Drawn0 w w')
 case atStart => exact ⟨(0),ZG,H',⟨Nat.le_refl _⟩,by repeat (first|exact Drawn0.refl _|apply Drawn0.step)⟩
 case round =>
  clear H';obtain ⟨x9_1,rfl,HA,HK1,⟨m1,rfl⟩⟩ := hrel;cases gk with
  | zero => exact absurd HA.out (by simp [spec_l1Has.l0])
  | succ k1 =>
   have H := HA.out;clear HA;simp only [spec_l1Has.l0] at H;replace H := YI H;rcases H with ⟨c3b0,H⟩|⟨c3b0,H⟩;rotate_left
   ·obtain rfl := Option.some.inj H;go_wp2;go_ret;exact ⟨by first|rfl|(simp;done)|(simp [*];done),by repeat (first|exact Drawn0.refl _|apply Drawn0.step)⟩
   replace H := YN H;obtain ⟨c4b0,H⟩ := H;replace H := YN H;obtain ⟨c5b0,H⟩ := H;by_cases c6 : (rd l0 x9_1) = a1
   ·rw [if_pos c6] at H;have c6b0 : ((rd l0 x9_1) == a1) = true := beq_iff_eq.mpr c6;have c6b1 : ((rd l0 x9_1) != a1) = false := bne_eq_false_iff_eq.mpr c6;clear c6;obtain rfl := Option.some.inj H;have p101 : 0 <= (x9_1 : Int) := ZD;have q101 : x9_1 < (l0.length : Int) := ZD;obtain ⟨ad101,e101,hx101_0⟩ := Kd.at_int HR0.out x9_1 p101 q101;cases e101;replace p101 := eq_true p101;replace q101 := eq_true q101;go_wp2;go_ret;exact ⟨by first|rfl|(simp;done)|(simp [*];done),by repeat (first|exact Drawn0.refl _|apply Drawn0.step)⟩
   rw [if_neg c6] at H;have c6b0 : ((rd l0 x9_1) == a1) = false := beq_eq_false_iff_ne.mpr c6;have c6b1 : ((rd l0 x9_1) != a1) = true := bne_iff_ne.mpr c6;have H' := ZA H;clear H;have p101 : 0 <= (x9_1 : Int) := ZD;have q101 : x9_1 < (l0.length : Int) := ZD;obtain ⟨ad101,e101,hx101_0⟩ := Kd.at_int HR0.out x9_1 p101 q101;cases e101;replace p101 := eq_true p101;replace q101 := eq_true q101;go_wp2
   go_roundg k1
   case measure => have := HK1.out;omega
   case rel => exact ⟨(wrap64 (x9_1 + 1)),ZG,H',⟨by have := HK1.out;omega⟩,by repeat (first|exact Drawn0.refl _|apply Drawn0.step)⟩
def spec_enGloss.l0 : Nat -> ByteArray -> Int -> Option (Bool)
 | 0,_,_ => none
 | k + 1,x0,x3 => if x3 < (x0.size : Int) then (if 0 <= x3 then (if (bt x0 x3) < 65 then (some false) else (if (bt x0 x3) > 90 then (some false) else (spec_enGloss.l0 k x0 (wrap64 (x3 + 1))))) else (none)) else ((spec_l1In.f (x0.size : Int) 1 8).bind fun t101 => (some t101))
def spec_enGloss.f (k : Nat) (a0 : ByteArray) : Option (Bool) := spec_enGloss.l0 k a0 0
theorem spec_enGloss.calls (k : Nat) (a0 : ByteArray) (r : Bool) (w : World) (h : spec_enGloss.f k a0 = some r) :
  Calls Tryz.prog 138 #[.string a0] w fun e w' => e = .returned (.bool r) ∧ Drawn0 w w' := by
 have H : (spec_enGloss.l0 k a0 0) = some r := h;clear h;have H' := ZA H;clear H;go_enter Tryz.func138,Tryz.ntmps138;go_wp2
 go_loopg [3] k (fun kq v3 w' => ∃ (x3_1 : Int),v3 = .int .i64 x3_1 ∧ Aside0 (spec_enGloss.l0 kq a0 x3_1 = some r) ∧ Aside0 (kq <= k) ∧ Drawn0 w w')
 case atStart => exact ⟨(0),ZG,H',⟨Nat.le_refl _⟩,by repeat (first|exact Drawn0.refl _|apply Drawn0.step)⟩
 case round =>
  clear H';obtain ⟨x3_1,rfl,HA,HK1,⟨m1,rfl⟩⟩ := hrel;cases gk with
  | zero => exact absurd HA.out (by simp [spec_enGloss.l0])
  | succ k1 =>
   have H := HA.out;clear HA;simp only [spec_enGloss.l0] at H;replace H := YI H;rcases H with ⟨c2b0,H⟩|⟨c2b0,H⟩;rotate_left
   ·replace H := ZI H;obtain ⟨t101,A80,H⟩ := H;have A8 := ZA A80;clear A80;obtain rfl := Option.some.inj H
    go_wp2_with (first|((with_reducible refine YG 65 ?_);refine YC (some 22) Tryz.func65 #[.int .i64 (a0.size : Int),.int .i64 1,.int .i64 8] (spec_l1In.calls (a0.size : Int) 1 8 t101 _ A8.out) ?_;rintro e w' ⟨rfl,⟨nd,rfl⟩⟩;refine ⟨_,rfl,?_⟩))
    go_ret;exact ⟨by first|rfl|(simp;done)|(simp [*];done),by repeat (first|exact Drawn0.refl _|apply Drawn0.step)⟩
   replace H := YN H;obtain ⟨c3b0,H⟩ := H;by_cases c5 : (bt a0 x3_1) < 65
   ·rw [if_pos c5] at H;have c5b0 := decide_eq_true c5;clear c5;obtain rfl := Option.some.inj H;have p4 : 0 <= (x3_1 : Int) := ZD;have q4 : x3_1 < (a0.size : Int) := ZD;have hx4 := bt_at a0 x3_1;replace p4 := eq_true p4;replace q4 := eq_true q4;go_wp2;go_ret;exact ⟨by first|rfl|(simp;done)|(simp [*];done),by repeat (first|exact Drawn0.refl _|apply Drawn0.step)⟩
   rw [if_neg c5] at H;have c5b0 := decide_eq_false c5;clear c5;by_cases c7 : (bt a0 x3_1) > 90
   ·rw [if_pos c7] at H;have c7b0 := decide_eq_true c7;clear c7;obtain rfl := Option.some.inj H;have p4 : 0 <= (x3_1 : Int) := ZD;have q4 : x3_1 < (a0.size : Int) := ZD;have hx4 := bt_at a0 x3_1;replace p4 := eq_true p4;replace q4 := eq_true q4;have p6 : 0 <= (x3_1 : Int) := ZD;have q6 : x3_1 < (a0.size : Int) := ZD;have hx6 := bt_at a0 x3_1;replace p6 := eq_true p6;replace q6 := eq_true q6;go_wp2;go_ret;exact ⟨by first|rfl|(simp;done)|(simp [*];done),by repeat (first|exact Drawn0.refl _|apply Drawn0.step)⟩
   rw [if_neg c7] at H;have c7b0 := decide_eq_false c7;clear c7;have H' := ZA H;clear H;have p4 : 0 <= (x3_1 : Int) := ZD;have q4 : x3_1 < (a0.size : Int) := ZD;have hx4 := bt_at a0 x3_1;replace p4 := eq_true p4;replace q4 := eq_true q4;have p6 : 0 <= (x3_1 : Int) := ZD;have q6 : x3_1 < (a0.size : Int) := ZD;have hx6 := bt_at a0 x3_1;replace p6 := eq_true p6;replace q6 := eq_true q6;go_wp2
   go_roundg k1
   case measure => have := HK1.out;omega
   case rel => exact ⟨(wrap64 (x3_1 + 1)),ZG,H',⟨by have := HK1.out;omega⟩,by repeat (first|exact Drawn0.refl _|apply Drawn0.step)⟩
def spec_l1Rising.l0 : Nat -> List Int -> Int -> Int -> List Int -> Int -> Int -> Option (Bool)
 | 0,_,_,_,_,_,_ => none
 | k + 1,x0,x1,x2,x9,x10,x11 => if x11 < x10 then (if 0 <= x11 then (if x11 < (x9.length : Int) then ((spec_l1In.f (rd x9 x11) x1 x2).bind fun t102 => (if t102 = true then (if x11 > 0 then (if 0 <= (wrap64 (x11 - 1)) then (if (wrap64 (x11 - 1)) < (x0.length : Int) then (if (rd x0 (wrap64 (x11 - 1))) >= (rd x9 x11) then (some false) else (spec_l1Rising.l0 k x0 x1 x2 x9 x10 (wrap64 (x11 + 1)))) else (none)) else (none)) else (spec_l1Rising.l0 k x0 x1 x2 x9 x10 (wrap64 (x11 + 1)))) else (some false))) else (none)) else (none)) else (some true)
def spec_l1Rising.f (k : Nat) (l0 : List Int) (a1 : Int) (a2 : Int) : Option (Bool) := spec_l1Rising.l0 k l0 a1 a2 l0 (l0.length : Int) 0
theorem spec_l1Rising.calls (k : Nat) (A0 : Option Addr) (c0 : Nat) (l0 : List Int) (a1 : Int) (a2 : Int) (r : Bool) (w : World) (hr0 : Kd.C (Kd.int .i64) w A0 l0.length l0) (hc0 : l0.length <= c0) (h : spec_l1Rising.f k l0 a1 a2 = some r) :
  Calls Tryz.prog 139 #[.slice A0 l0.length c0,.int .i64 a1,.int .i64 a2] w fun e w' => e = .returned (.bool r) ∧ Drawn0 w w' := by
 have HR0 := ZA hr0;have HC0 := ZA hc0;clear hr0 hc0;have H : (spec_l1Rising.l0 k l0 a1 a2 l0 (l0.length : Int) 0) = some r := h;clear h;have H' := ZA H;clear H;go_enter Tryz.func139,Tryz.ntmps139;go_wp2
 go_loopg [11] k (fun kq v11 w' => ∃ (x11_1 : Int),v11 = .int .i64 x11_1 ∧ Aside0 (spec_l1Rising.l0 kq l0 a1 a2 l0 (l0.length : Int) x11_1 = some r) ∧ Aside0 (kq <= k) ∧ Drawn0 w w')
 case atStart => exact ⟨(0),ZG,H',⟨Nat.le_refl _⟩,by repeat (first|exact Drawn0.refl _|apply Drawn0.step)⟩
 case round =>
  clear H';obtain ⟨x11_1,rfl,HA,HK1,⟨m1,rfl⟩⟩ := hrel;cases gk with
  | zero => exact absurd HA.out (by simp [spec_l1Rising.l0])
  | succ k1 =>
   have H := HA.out;clear HA;simp only [spec_l1Rising.l0] at H;replace H := YI H;rcases H with ⟨c4b0,H⟩|⟨c4b0,H⟩;rotate_left
   ·obtain rfl := Option.some.inj H;go_wp2;go_ret;exact ⟨by first|rfl|(simp;done)|(simp [*];done),by repeat (first|exact Drawn0.refl _|apply Drawn0.step)⟩
   replace H := YN H;obtain ⟨c5b0,H⟩ := H;replace H := YN H;obtain ⟨c6b0,H⟩ := H;replace H := YJ H;obtain ⟨t102,A7,H⟩ := H;replace H := YF H;rcases H with ⟨rfl,H⟩|⟨rfl,H⟩;rotate_left
   ·obtain rfl := Option.some.inj H;have p101 : 0 <= (x11_1 : Int) := ZD;have q101 : x11_1 < (l0.length : Int) := ZD;obtain ⟨ad101,e101,hx101_0⟩ := Kd.at_int HR0.out x11_1 p101 q101;cases e101;replace p101 := eq_true p101;replace q101 := eq_true q101
    go_wp2_with (first|((with_reducible refine YG 65 ?_);refine YC (some 19) Tryz.func65 #[.int .i64 (rd l0 x11_1),.int .i64 a1,.int .i64 a2] (spec_l1In.calls (rd l0 x11_1) a1 a2 false _ A7.out) ?_;rintro e w' ⟨rfl,⟨nd,rfl⟩⟩;refine ⟨_,rfl,?_⟩))
    go_ret;exact ⟨by first|rfl|(simp;done)|(simp [*];done),by repeat (first|exact Drawn0.refl _|apply Drawn0.step)⟩
   replace H := YI H;rcases H with ⟨c9b0,H⟩|⟨c9b0,H⟩;rotate_left
   ·have H' := ZA H;clear H;have p101 : 0 <= (x11_1 : Int) := ZD;have q101 : x11_1 < (l0.length : Int) := ZD;obtain ⟨ad101,e101,hx101_0⟩ := Kd.at_int HR0.out x11_1 p101 q101;cases e101;replace p101 := eq_true p101;replace q101 := eq_true q101
    go_wp2_with (first|((with_reducible refine YG 65 ?_);refine YC (some 19) Tryz.func65 #[.int .i64 (rd l0 x11_1),.int .i64 a1,.int .i64 a2] (spec_l1In.calls (rd l0 x11_1) a1 a2 true _ A7.out) ?_;rintro e w' ⟨rfl,⟨nd,rfl⟩⟩;refine ⟨_,rfl,?_⟩))
    go_roundg k1
    case measure => have := HK1.out;omega
    case rel => exact ⟨(wrap64 (x11_1 + 1)),ZG,H',⟨by have := HK1.out;omega⟩,by repeat (first|exact Drawn0.refl _|apply Drawn0.step)⟩
   obtain ⟨ji10,hji10⟩ : ∃ j_ : Int,(wrap64 (x11_1 - 1)) = j_ := ⟨_,rfl⟩;replace H : (if 0 <= (ji10) then (if (ji10) < (l0.length : Int) then (if (rd l0 (ji10)) >= (rd l0 x11_1) then (some false) else (spec_l1Rising.l0 k1 l0 a1 a2 l0 (l0.length : Int) (wrap64 (x11_1 + 1)))) else (none)) else (none)) = some r := by first|(rw [hji10] at H;exact H)|(simp only [hji10] at H ⊢;exact H)
   (try rw [hji10] at A7)
   have hji10w : (IntKind.i64.wrap (x11_1 - 1)) = ji10 := (i64_w _).trans hji10;replace H := YN H;obtain ⟨c11b0,H⟩ := H;replace H := YN H;obtain ⟨c12b0,H⟩ := H;by_cases c13 : (rd l0 (ji10)) >= (rd l0 x11_1)
   ·rw [if_pos c13] at H;have c13b0 := decide_eq_true c13;clear c13;obtain rfl := Option.some.inj H;have p101 : 0 <= (x11_1 : Int) := ZD;have q101 : x11_1 < (l0.length : Int) := ZD;obtain ⟨ad101,e101,hx101_0⟩ := Kd.at_int HR0.out x11_1 p101 q101;cases e101;replace p101 := eq_true p101;replace q101 := eq_true q101
    go_wp2_with (first|((with_reducible refine YG 65 ?_);refine YC (some 19) Tryz.func65 #[.int .i64 (rd l0 x11_1),.int .i64 a1,.int .i64 a2] (spec_l1In.calls (rd l0 x11_1) a1 a2 true _ A7.out) ?_;rintro e w' ⟨rfl,⟨nd,rfl⟩⟩;refine ⟨_,rfl,?_⟩;have p103 : 0 <= ((ji10) : Int) := ZD;have q103 : (ji10) < (l0.length : Int) := ZD;obtain ⟨ad103,e103,hx103_0⟩ := Kd.at_int HR0.out (ji10) p103 q103;obtain rfl : ad101 = ad103 := (by injection e103);replace p103 := eq_true p103;replace q103 := eq_true q103))
    go_ret;exact ⟨by first|rfl|(simp;done)|(simp only [<- hji10] <;> (first|rfl|simp))|(simp [*];done),by repeat (first|exact Drawn0.refl _|apply Drawn0.step)⟩
   rw [if_neg c13] at H;have c13b0 := decide_eq_false c13;clear c13;have H' := ZA H;clear H;have p101 : 0 <= (x11_1 : Int) := ZD;have q101 : x11_1 < (l0.length : Int) := ZD;obtain ⟨ad101,e101,hx101_0⟩ := Kd.at_int HR0.out x11_1 p101 q101;cases e101;replace p101 := eq_true p101;replace q101 := eq_true q101
   go_wp2_with (first|((with_reducible refine YG 65 ?_);refine YC (some 19) Tryz.func65 #[.int .i64 (rd l0 x11_1),.int .i64 a1,.int .i64 a2] (spec_l1In.calls (rd l0 x11_1) a1 a2 true _ A7.out) ?_;rintro e w' ⟨rfl,⟨nd,rfl⟩⟩;refine ⟨_,rfl,?_⟩;have p103 : 0 <= ((ji10) : Int) := ZD;have q103 : (ji10) < (l0.length : Int) := ZD;obtain ⟨ad103,e103,hx103_0⟩ := Kd.at_int HR0.out (ji10) p103 q103;obtain rfl : ad101 = ad103 := (by injection e103);replace p103 := eq_true p103;replace q103 := eq_true q103))
   go_roundg k1
   case measure => have := HK1.out;omega
   case rel => exact ⟨(wrap64 (x11_1 + 1)),ZG,H',⟨by have := HK1.out;omega⟩,by repeat (first|exact Drawn0.refl _|apply Drawn0.step)⟩
mutual
def spec_leGood.l0 : Nat -> List (S41) -> List (S41) -> Int -> Int -> Option (Bool)
 | 0,_,_,_,_ => none
 | k + 1,x0,x7,x8,x9 => if x9 < x8 then (if 0 <= x9 then (if x9 < (x7.length : Int) then ((spec_enGloss.f k ((rd_T41 x7 x9).f0)).bind fun t103 => (if t103 = true then ((spec_l1Rising.f k ((rd_T41 x7 x9).f1) 0 (wrap64 ((x0.length : Int) - 1))).bind fun t104 => (if t104 = true then ((spec_l1Has.f k ((rd_T41 x7 x9).f1) x9).bind fun t105 => (if t105 = true then (spec_leGood.j1 k x0 x9 x7 x8 x9 true ((rd_T41 x7 x9).f0) ((rd_T41 x7 x9).f1) ((rd_T41 x7 x9).f2)) else ((spec_l1In.f ((rd_T41 x7 x9).f2) 0 99999).bind fun t106 => (spec_leGood.j1 k x0 x9 x7 x8 x9 (!t106) ((rd_T41 x7 x9).f0) ((rd_T41 x7 x9).f1) ((rd_T41 x7 x9).f2))))) else (spec_leGood.j1 k x0 x9 x7 x8 x9 true ((rd_T41 x7 x9).f0) ((rd_T41 x7 x9).f1) ((rd_T41 x7 x9).f2)))) else (spec_leGood.j1 k x0 x9 x7 x8 x9 true ((rd_T41 x7 x9).f0) ((rd_T41 x7 x9).f1) ((rd_T41 x7 x9).f2)))) else (none)) else (none)) else (some (decide ((x0.length : Int) <= 16)))
def spec_leGood.j1 : Nat -> List (S41) -> Int -> List (S41) -> Int -> Int -> Bool -> ByteArray -> List Int -> Int -> Option (Bool)
 | 0,_,_,_,_,_,_,_,_,_ => none
 | k + 1,x0,x3,x7,x8,x9,x38,x103000,x103001,x103002 => if x38 = true then (some false) else (if 0 <= x3 then (if x3 <= (x0.length : Int) then ((some (x0.take (x3 : Int).toNat : List (S41))).bind fun y107 => (spec_leGood.l1 k x0 x7 x8 x9 y107 (y107.length : Int) 0 x103000 x103001 x103002)) else (none)) else (none))
def spec_leGood.l1 : Nat -> List (S41) -> List (S41) -> Int -> Int -> List (S41) -> Int -> Int -> ByteArray -> List Int -> Int -> Option (Bool)
 | 0,_,_,_,_,_,_,_,_,_,_ => none
 | k + 1,x0,x7,x8,x9,x41,x42,x43,x103000,x103001,x103002 => if x43 < x42 then (if 0 <= x43 then (if x43 < (x41.length : Int) then (if ((rd_T41 x41 x43).f0).toList = x103000.toList then (some false) else (spec_leGood.l1 k x0 x7 x8 x9 x41 x42 (wrap64 (x43 + 1)) x103000 x103001 x103002)) else (none)) else (none)) else (spec_leGood.l0 k x0 x7 x8 (wrap64 (x9 + 1)))
end
def spec_leGood.f (k : Nat) (l0 : List (S41)) : Option (Bool) := spec_leGood.l0 k l0 l0 (l0.length : Int) 0
theorem spec_leGood.calls (k : Nat) (A0 : Option Addr) (c0 : Nat) (l0 : List (S41)) (r : Bool) (w : World) (hr0 : Kd.C k41 w A0 l0.length l0) (hc0 : l0.length <= c0) (h : spec_leGood.f k l0 = some r) :
  Calls Tryz.prog 78 #[.slice A0 l0.length c0] w fun e w' => e = .returned (.bool r) ∧ Below w.heap.size w w' := by
 have hu41 := Tryz.underlying41;have HR0 := ZA hr0;have HC0 := ZA hc0;clear hr0 hc0;have HB := ZA (Below.refl w.heap.size w);have H : (spec_leGood.l0 k l0 l0 (l0.length : Int) 0) = some r := h;clear h;have H' := ZA H;clear H;go_enter Tryz.func78,Tryz.ntmps78;go_wp2
 go_loopg [9] k (fun kq v9 w' => ∃ (x9_1 : Int),v9 = .int .i64 x9_1 ∧ Aside0 (spec_leGood.l0 kq l0 l0 (l0.length : Int) x9_1 = some r) ∧ Aside0 (kq <= k) ∧ Aside0 (Below w.heap.size w w'))
 case atStart => exact ⟨(0),ZG,H',⟨Nat.le_refl _⟩,⟨ZQ HB⟩⟩
 case round =>
  clear H';obtain ⟨x9_1,rfl,HA,HK1,HB⟩ := hrel;cases gk with
  | zero => exact absurd HA.out (by simp [spec_leGood.l0])
  | succ k1 =>
   have H := HA.out;clear HA;simp only [spec_leGood.l0] at H;replace H := YI H;rcases H with ⟨c2b0,H⟩|⟨c2b0,H⟩;rotate_left
   ·obtain rfl := Option.some.inj H;go_wp2;go_ret;exact ⟨YR,ZQ HB⟩
   replace H := YN H;obtain ⟨c3b0,H⟩ := H;replace H := YN H;obtain ⟨c4b0,H⟩ := H;have HC5 := ZA H;clear H;have p101 : 0 <= (x9_1 : Int) := ZD;have q101 : x9_1 < (l0.length : Int) := ZD;obtain ⟨ad101,A101_1,c101_1,e101,hx101_0,hx101_1,hx101_2,hl101_1,hi101_1⟩ := at_T41 HR0.out x9_1 p101 q101;cases e101;replace hx101_0 := ZX HB hx101_0;replace hx101_1 := ZX HB hx101_1;replace hx101_2 := ZX HB hx101_2;have HR101_1 := ZA hi101_1;have HC101_1 := ZA hl101_1;clear hi101_1 hl101_1;replace p101 := eq_true p101;replace q101 := eq_true q101
   go_upto_region 4 with (first|((with_reducible refine gate_dst (N := 4) rfl ?_);(try (refine gate_guard (by rfl) ?_;dsimp only));refine ZE 4 #[.string (⟨#[]⟩ : ByteArray),.slice none 0 0,.int .i64 0] 41 ?_;intro gb102 hg w6 hbox hb;have BK102 := ZA (hbox);have GW102 := YQ hg HB;have GE102 := YQ hg HB;replace HB := BS HB hb;clear hb hbox hg;have hcz7_0 : w6.cell? ⟨gb102,0,none⟩ = some (.string (⟨#[]⟩ : ByteArray)) := ZC BK102 0 rfl;have hcz7_1 : w6.cell? ⟨gb102,1,none⟩ = some (.slice none 0 0) := ZC BK102 1 rfl;have hcz7_2 : w6.cell? ⟨gb102,2,none⟩ = some (.int .i64 0) := ZC BK102 2 rfl;have hfz7_0 := blk_frozen BK102.out 0;have hfz7_1 := blk_frozen BK102.out 1;have hfz7_2 := blk_frozen BK102.out 2))
   (try simp only [Act.put,zuA,zuB,zuC])
   go_cut [38] (fun v38 wc => ∃ (kq : Nat) (x38_4 : Bool),v38 = .bool x38_4 ∧ Aside0 (spec_leGood.j1 kq l0 x9_1 l0 (l0.length : Int) x9_1 x38_4 ((rd_T41 l0 x9_1).f0) ((rd_T41 l0 x9_1).f1) ((rd_T41 l0 x9_1).f2) = some r) ∧ Aside0 (kq <= k1) ∧ Aside0 (wc.heap[gb102]? = some (.cells #[.string ((rd_T41 l0 x9_1).f0),(.slice A101_1 ((rd_T41 l0 x9_1).f1).length c101_1),.int .i64 ((rd_T41 l0 x9_1).f2)] 41 (0,0))) ∧ Aside0 (Below w.heap.size w wc))
   case first =>
    have H := HC5.out;clear HC5;replace H := YJ H;obtain ⟨t103,A8,H⟩ := H;replace H := YF H;rcases H with ⟨rfl,H⟩|⟨rfl,H⟩;rotate_left
    ·have H' := ZA H;clear H;have hcz18_0 : w6.cell? ⟨gb102,0,none⟩ = some (.string (⟨#[]⟩ : ByteArray)) := ZC BK102 0 rfl;have hcz18_1 : w6.cell? ⟨gb102,1,none⟩ = some (.slice none 0 0) := ZC BK102 1 rfl;have hcz18_2 : w6.cell? ⟨gb102,2,none⟩ = some (.int .i64 0) := ZC BK102 2 rfl;have hfz18_0 := blk_frozen BK102.out 0;have hfz18_1 := blk_frozen BK102.out 1;have hfz18_2 := blk_frozen BK102.out 2
     go_wp2_with (first|((with_reducible refine YG 138 ?_);refine YC (some 16) Tryz.func138 #[.string ((rd_T41 l0 x9_1).f0)] (spec_enGloss.calls k1 ((rd_T41 l0 x9_1).f0) false _ A8.out) ?_;rintro e w' ⟨rfl,⟨nd,rfl⟩⟩;refine ⟨_,rfl,?_⟩))
     go_meet
     case rel => exact ⟨_,(true),ZG,H',⟨by have := HK1.out;first|omega|exact Nat.le_refl _⟩,⟨by refine ZY ?_;refine blk_put (cs := #[.string ((rd_T41 l0 x9_1).f0),.slice A101_1 ((rd_T41 l0 x9_1).f1).length c101_1,.int .i64 0]) ?_ 2 _ rfl;refine ZY ?_;refine blk_put (cs := #[.string ((rd_T41 l0 x9_1).f0),.slice none 0 0,.int .i64 0]) ?_ 1 _ rfl;refine ZY ?_;refine blk_put (cs := #[.string (⟨#[]⟩ : ByteArray),.slice none 0 0,.int .i64 0]) ?_ 0 _ rfl;refine ZY ?_;exact BK102.out⟩,⟨ZQ HB⟩⟩
    replace H := YJ H;obtain ⟨t104,A10,H⟩ := H;replace H := YF H;rcases H with ⟨rfl,H⟩|⟨rfl,H⟩;rotate_left
    ·have H' := ZA H;clear H;have hcz17_0 : w6.cell? ⟨gb102,0,none⟩ = some (.string (⟨#[]⟩ : ByteArray)) := ZC BK102 0 rfl;have hcz17_1 : w6.cell? ⟨gb102,1,none⟩ = some (.slice none 0 0) := ZC BK102 1 rfl;have hcz17_2 : w6.cell? ⟨gb102,2,none⟩ = some (.int .i64 0) := ZC BK102 2 rfl;have hfz17_0 := blk_frozen BK102.out 0;have hfz17_1 := blk_frozen BK102.out 1;have hfz17_2 := blk_frozen BK102.out 2
     go_wp2_with (first|((with_reducible refine YG 138 ?_);refine YC (some 16) Tryz.func138 #[.string ((rd_T41 l0 x9_1).f0)] (spec_enGloss.calls k1 ((rd_T41 l0 x9_1).f0) true _ A8.out) ?_;rintro e w' ⟨rfl,⟨nd,rfl⟩⟩;refine ⟨_,rfl,?_⟩)|(go_at_call 139;(with_reducible refine (spec_l1Rising.calls k1 _ _ ((rd_T41 l0 x9_1).f1) 0 (wrap64 ((l0.length : Int) - 1)) false _ (Kd.C_below HR101_1.out (ZQ HB)) HC101_1.out A10.out).mono ?_);rintro e w' ⟨rfl,⟨nd,rfl⟩⟩))
     go_meet
     case rel => exact ⟨_,(true),ZG,H',⟨by have := HK1.out;first|omega|exact Nat.le_refl _⟩,⟨by refine ZY ?_;refine blk_put (cs := #[.string ((rd_T41 l0 x9_1).f0),.slice A101_1 ((rd_T41 l0 x9_1).f1).length c101_1,.int .i64 0]) ?_ 2 _ rfl;refine ZY ?_;refine blk_put (cs := #[.string ((rd_T41 l0 x9_1).f0),.slice none 0 0,.int .i64 0]) ?_ 1 _ rfl;refine ZY ?_;refine blk_put (cs := #[.string (⟨#[]⟩ : ByteArray),.slice none 0 0,.int .i64 0]) ?_ 0 _ rfl;refine ZY ?_;exact BK102.out⟩,⟨ZQ HB⟩⟩
    replace H := YJ H;obtain ⟨t105,A12,H⟩ := H;by_cases c13 : t105 = true
    ·subst c13;rw [if_pos rfl] at H;have H' := ZA H;clear H;have hcz14_0 : w6.cell? ⟨gb102,0,none⟩ = some (.string (⟨#[]⟩ : ByteArray)) := ZC BK102 0 rfl;have hcz14_1 : w6.cell? ⟨gb102,1,none⟩ = some (.slice none 0 0) := ZC BK102 1 rfl;have hcz14_2 : w6.cell? ⟨gb102,2,none⟩ = some (.int .i64 0) := ZC BK102 2 rfl;have hfz14_0 := blk_frozen BK102.out 0;have hfz14_1 := blk_frozen BK102.out 1;have hfz14_2 := blk_frozen BK102.out 2
     go_wp2_with (first|((with_reducible refine YG 138 ?_);refine YC (some 16) Tryz.func138 #[.string ((rd_T41 l0 x9_1).f0)] (spec_enGloss.calls k1 ((rd_T41 l0 x9_1).f0) true _ A8.out) ?_;rintro e w' ⟨rfl,⟨nd,rfl⟩⟩;refine ⟨_,rfl,?_⟩)|(go_at_call 139;(with_reducible refine (spec_l1Rising.calls k1 _ _ ((rd_T41 l0 x9_1).f1) 0 (wrap64 ((l0.length : Int) - 1)) true _ (Kd.C_below HR101_1.out (ZQ HB)) HC101_1.out A10.out).mono ?_);rintro e w' ⟨rfl,⟨nd,rfl⟩⟩)|(go_at_call 72;(with_reducible refine (spec_l1Has.calls k1 _ _ ((rd_T41 l0 x9_1).f1) x9_1 true _ (Kd.C_below HR101_1.out (ZQ HB)) HC101_1.out A12.out).mono ?_);rintro e w' ⟨rfl,⟨nd,rfl⟩⟩))
     go_meet
     case rel => exact ⟨_,(true),ZG,H',⟨by have := HK1.out;first|omega|exact Nat.le_refl _⟩,⟨by refine ZY ?_;refine blk_put (cs := #[.string ((rd_T41 l0 x9_1).f0),.slice A101_1 ((rd_T41 l0 x9_1).f1).length c101_1,.int .i64 0]) ?_ 2 _ rfl;refine ZY ?_;refine blk_put (cs := #[.string ((rd_T41 l0 x9_1).f0),.slice none 0 0,.int .i64 0]) ?_ 1 _ rfl;refine ZY ?_;refine blk_put (cs := #[.string (⟨#[]⟩ : ByteArray),.slice none 0 0,.int .i64 0]) ?_ 0 _ rfl;refine ZY ?_;exact BK102.out⟩,⟨ZQ HB⟩⟩
    replace c13 := Bool.eq_false_iff.mpr c13;subst c13;rw [if_neg (show ¬ (false = true) by decide)] at H;replace H := YJ H;obtain ⟨t106,A15,H⟩ := H;have H' := ZA H;clear H;have hcz16_0 : w6.cell? ⟨gb102,0,none⟩ = some (.string (⟨#[]⟩ : ByteArray)) := ZC BK102 0 rfl;have hcz16_1 : w6.cell? ⟨gb102,1,none⟩ = some (.slice none 0 0) := ZC BK102 1 rfl;have hcz16_2 : w6.cell? ⟨gb102,2,none⟩ = some (.int .i64 0) := ZC BK102 2 rfl;have hfz16_0 := blk_frozen BK102.out 0;have hfz16_1 := blk_frozen BK102.out 1;have hfz16_2 := blk_frozen BK102.out 2
    go_wp2_with (first|((with_reducible refine YG 138 ?_);refine YC (some 16) Tryz.func138 #[.string ((rd_T41 l0 x9_1).f0)] (spec_enGloss.calls k1 ((rd_T41 l0 x9_1).f0) true _ A8.out) ?_;rintro e w' ⟨rfl,⟨nd,rfl⟩⟩;refine ⟨_,rfl,?_⟩)|(go_at_call 139;(with_reducible refine (spec_l1Rising.calls k1 _ _ ((rd_T41 l0 x9_1).f1) 0 (wrap64 ((l0.length : Int) - 1)) true _ (Kd.C_below HR101_1.out (ZQ HB)) HC101_1.out A10.out).mono ?_);rintro e w' ⟨rfl,⟨nd,rfl⟩⟩)|(go_at_call 72;(with_reducible refine (spec_l1Has.calls k1 _ _ ((rd_T41 l0 x9_1).f1) x9_1 false _ (Kd.C_below HR101_1.out (ZQ HB)) HC101_1.out A12.out).mono ?_);rintro e w' ⟨rfl,⟨nd,rfl⟩⟩)|(go_at_call 65;(with_reducible refine (spec_l1In.calls ((rd_T41 l0 x9_1).f2) 0 99999 t106 _ A15.out).mono ?_);rintro e w' ⟨rfl,⟨nd,rfl⟩⟩))
    go_meet
    case rel => exact ⟨_,(!t106),ZG,H',⟨by have := HK1.out;first|omega|exact Nat.le_refl _⟩,⟨by refine ZY ?_;refine blk_put (cs := #[.string ((rd_T41 l0 x9_1).f0),.slice A101_1 ((rd_T41 l0 x9_1).f1).length c101_1,.int .i64 0]) ?_ 2 _ rfl;refine ZY ?_;refine blk_put (cs := #[.string ((rd_T41 l0 x9_1).f0),.slice none 0 0,.int .i64 0]) ?_ 1 _ rfl;refine ZY ?_;refine blk_put (cs := #[.string (⟨#[]⟩ : ByteArray),.slice none 0 0,.int .i64 0]) ?_ 0 _ rfl;refine ZY ?_;exact BK102.out⟩,⟨ZQ HB⟩⟩
   case rest =>
    clear HC5;obtain ⟨kq,x38_4,rfl,HA,HJ4,BK102,HB⟩ := hcut;cases kq with
    | zero => exact absurd HA.out (by simp [spec_leGood.j1])
    | succ kj4 =>
     have H := HA.out;clear HA;simp only [spec_leGood.j1] at H;by_cases c19 : x38_4 = true
     ·subst c19;rw [if_pos rfl] at H;obtain rfl := Option.some.inj H;go_wp2;go_ret;exact ⟨YR,ZQ HB⟩
     replace c19 := Bool.eq_false_iff.mpr c19;subst c19;rw [if_neg (show ¬ (false = true) by decide)] at H;replace H := YM H;obtain ⟨c20,H⟩ := H;have c20b0 := eq_true c20;have c20b1 := decide_eq_true c20;clear c20;replace H := YM H;obtain ⟨c21,H⟩ := H;have c21b0 := eq_true c21;have c21b1 := decide_eq_true c21;clear c21;obtain ⟨y107,hy107⟩ : ∃ y_ : List (S41),y_ = (l0.take (x9_1 : Int).toNat) := ⟨_,rfl⟩;replace H : (spec_leGood.l1 kj4 l0 l0 (l0.length : Int) x9_1 y107 (y107.length : Int) 0 ((rd_T41 l0 x9_1).f0) ((rd_T41 l0 x9_1).f1) ((rd_T41 l0 x9_1).f2)) = some r := YH hy107 H;have Ny107 := ZA hy107;clear hy107;have H' := ZA H;clear H;have q22 : (x9_1 : Int) <= ((l0.length : Int) : Int) := ZD;obtain ⟨i022,hi022,_,hsz22,_⟩ := info_parts info41;have hroom22 : l0.length <= c0 := HC0.out;have hC22 : Kd.C k41 _ (some ad101) l0.length l0 := HR0.out;have hcut22 := cut_to (P := Tryz.prog) 24 41 .i64 Tryz.underlying24 hi022 (some ad101) l0.length c0 x9_1 ZD q22 hroom22;have hr22 := Kd.C_take (m := (x9_1 : Int).toNat) hC22 (by omega);have hy22 : y107.length = (x9_1 : Int).toNat := (by rw [Ny107.out,List.length_take];omega);rw [<- Ny107.out] at hr22;rw [<- hy22] at hcut22;have HR110 := ZA hr22;have HC110 := ZA (show y107.length <= c0 from by omega);clear hr22 hC22 hroom22 hi022 hsz22;have KY22 := ZA hy22;clear hy22;replace q22 := eq_true q22;go_wp2
     go_loopg [43] kj4 (fun kq v43 w' => ∃ (x43_3 : Int),v43 = .int .i64 x43_3 ∧ Aside0 (spec_leGood.l1 kq l0 l0 (l0.length : Int) x9_1 y107 (y107.length : Int) x43_3 ((rd_T41 l0 x9_1).f0) ((rd_T41 l0 x9_1).f1) ((rd_T41 l0 x9_1).f2) = some r) ∧ Aside0 (kq <= kj4) ∧ Aside0 (w'.heap[gb102]? = some (.cells #[.string ((rd_T41 l0 x9_1).f0),(.slice A101_1 ((rd_T41 l0 x9_1).f1).length c101_1),.int .i64 ((rd_T41 l0 x9_1).f2)] 41 (0,0))) ∧ Aside0 (Below w.heap.size w w'))
     case atStart => exact ⟨(0),ZG,H',⟨Nat.le_refl _⟩,⟨ZH BK102⟩,⟨ZQ HB⟩⟩
     case round =>
      clear H';obtain ⟨x43_3,rfl,HA,HK3,BK102,HB⟩ := hrel;cases gk with
      | zero => exact absurd HA.out (by simp [spec_leGood.l1])
      | succ k3 =>
       have H := HA.out;clear HA;simp only [spec_leGood.l1] at H;replace H := YI H;rcases H with ⟨c23b0,H⟩|⟨c23b0,H⟩;rotate_left
       ·have H' := ZA H;clear H;go_wp2
        go_roundg k3
        case measure => have := HK1.out;have := HJ4.out;have := HK3.out;omega
        case rel => exact ⟨(wrap64 (x9_1 + 1)),ZG,H',⟨by have := HK1.out;have := HJ4.out;have := HK3.out;omega⟩,⟨ZQ HB⟩⟩
       replace H := YN H;obtain ⟨c24b0,H⟩ := H;replace H := YN H;obtain ⟨c25b0,H⟩ := H;by_cases c26 : ((rd_T41 y107 x43_3).f0).toList = ((rd_T41 l0 x9_1).f0).toList
       ·rw [if_pos c26] at H;have c26b0 : (((rd_T41 y107 x43_3).f0).toList == ((rd_T41 l0 x9_1).f0).toList) = true := beq_iff_eq.mpr c26;have c26b1 : (((rd_T41 y107 x43_3).f0).toList != ((rd_T41 l0 x9_1).f0).toList) = false := bne_eq_false_iff_eq.mpr c26;clear c26;obtain rfl := Option.some.inj H;have p111 : 0 <= (x43_3 : Int) := ZD;have q111 : x43_3 < (y107.length : Int) := ZD;obtain ⟨ad111,A111_1,c111_1,e111,hx111_0,hx111_1,hx111_2,hl111_1,hi111_1⟩ := at_T41 HR110.out x43_3 p111 q111;obtain rfl : ad101 = ad111 := (by injection e111);replace hx111_0 := ZX HB hx111_0;replace hx111_1 := ZX HB hx111_1;replace hx111_2 := ZX HB hx111_2;have HR111_1 := ZA hi111_1;have HC111_1 := ZA hl111_1;clear hi111_1 hl111_1;replace p111 := eq_true p111;replace q111 := eq_true q111
        go_wp2_with (first|((with_reducible refine gate_dst (N := 6) rfl ?_);(try (refine gate_guard (by rfl) ?_;dsimp only));refine ZE 6 #[.string (⟨#[]⟩ : ByteArray),.slice none 0 0,.int .i64 0] 41 ?_;intro gb112 hg w27 hbox hb;have BK112 := ZA (hbox);have GW112 := YQ hg HB;have GE112 := YQ hg HB;replace HB := BS HB hb;have NB102_112 := ZA ((by rw [hg];exact Nat.ne_of_lt (blk_lt (g := gb102) (o := .cells #[.string ((rd_T41 l0 x9_1).f0),.slice A101_1 ((rd_T41 l0 x9_1).f1).length c101_1,.int .i64 ((rd_T41 l0 x9_1).f2)] 41 (0,0)) (ZH BK102)) : gb102 ≠ gb112));have NB112_102 := ZA ((by rw [hg];exact Nat.ne_of_gt (blk_lt (g := gb102) (o := .cells #[.string ((rd_T41 l0 x9_1).f0),.slice A101_1 ((rd_T41 l0 x9_1).f1).length c101_1,.int .i64 ((rd_T41 l0 x9_1).f2)] 41 (0,0)) (ZH BK102)) : gb112 ≠ gb102));replace BK102 := ZA (blk_below (ZH BK102) hb);clear hb hbox hg;have hnb28 := NB112_102.out;have hnc28 := NB102_112.out;have hcz29_0 : w27.cell? ⟨gb112,0,none⟩ = some (.string (⟨#[]⟩ : ByteArray)) := ZC BK112 0 rfl;have hcz29_1 : w27.cell? ⟨gb112,1,none⟩ = some (.slice none 0 0) := ZC BK112 1 rfl;have hcz29_2 : w27.cell? ⟨gb112,2,none⟩ = some (.int .i64 0) := ZC BK112 2 rfl;have hfz29_0 := blk_frozen BK112.out 0;have hfz29_1 := blk_frozen BK112.out 1;have hfz29_2 := blk_frozen BK112.out 2;have hcz30_0 : w27.cell? ⟨gb102,0,none⟩ = some (.string ((rd_T41 l0 x9_1).f0)) := ZC BK102 0 rfl;have hcz30_1 : w27.cell? ⟨gb102,1,none⟩ = some (.slice A101_1 ((rd_T41 l0 x9_1).f1).length c101_1) := ZC BK102 1 rfl;have hcz30_2 : w27.cell? ⟨gb102,2,none⟩ = some (.int .i64 ((rd_T41 l0 x9_1).f2)) := ZC BK102 2 rfl;have hfz30_0 := blk_frozen BK102.out 0;have hfz30_1 := blk_frozen BK102.out 1;have hfz30_2 := blk_frozen BK102.out 2))
        go_ret;exact ⟨YR,ZQ HB⟩
       rw [if_neg c26] at H;have c26b0 : (((rd_T41 y107 x43_3).f0).toList == ((rd_T41 l0 x9_1).f0).toList) = false := beq_eq_false_iff_ne.mpr c26;have c26b1 : (((rd_T41 y107 x43_3).f0).toList != ((rd_T41 l0 x9_1).f0).toList) = true := bne_iff_ne.mpr c26;have H' := ZA H;clear H;have p111 : 0 <= (x43_3 : Int) := ZD;have q111 : x43_3 < (y107.length : Int) := ZD;obtain ⟨ad111,A111_1,c111_1,e111,hx111_0,hx111_1,hx111_2,hl111_1,hi111_1⟩ := at_T41 HR110.out x43_3 p111 q111;obtain rfl : ad101 = ad111 := (by injection e111);replace hx111_0 := ZX HB hx111_0;replace hx111_1 := ZX HB hx111_1;replace hx111_2 := ZX HB hx111_2;have HR111_1 := ZA hi111_1;have HC111_1 := ZA hl111_1;clear hi111_1 hl111_1;replace p111 := eq_true p111;replace q111 := eq_true q111
       go_wp2_with (first|((with_reducible refine gate_dst (N := 6) rfl ?_);(try (refine gate_guard (by rfl) ?_;dsimp only));refine ZE 6 #[.string (⟨#[]⟩ : ByteArray),.slice none 0 0,.int .i64 0] 41 ?_;intro gb112 hg w31 hbox hb;have BK112 := ZA (hbox);have GW112 := YQ hg HB;have GE112 := YQ hg HB;replace HB := BS HB hb;have NB102_112 := ZA ((by rw [hg];exact Nat.ne_of_lt (blk_lt (g := gb102) (o := .cells #[.string ((rd_T41 l0 x9_1).f0),.slice A101_1 ((rd_T41 l0 x9_1).f1).length c101_1,.int .i64 ((rd_T41 l0 x9_1).f2)] 41 (0,0)) (ZH BK102)) : gb102 ≠ gb112));have NB112_102 := ZA ((by rw [hg];exact Nat.ne_of_gt (blk_lt (g := gb102) (o := .cells #[.string ((rd_T41 l0 x9_1).f0),.slice A101_1 ((rd_T41 l0 x9_1).f1).length c101_1,.int .i64 ((rd_T41 l0 x9_1).f2)] 41 (0,0)) (ZH BK102)) : gb112 ≠ gb102));replace BK102 := ZA (blk_below (ZH BK102) hb);clear hb hbox hg;have hnb32 := NB112_102.out;have hnc32 := NB102_112.out;have hcz33_0 : w31.cell? ⟨gb112,0,none⟩ = some (.string (⟨#[]⟩ : ByteArray)) := ZC BK112 0 rfl;have hcz33_1 : w31.cell? ⟨gb112,1,none⟩ = some (.slice none 0 0) := ZC BK112 1 rfl;have hcz33_2 : w31.cell? ⟨gb112,2,none⟩ = some (.int .i64 0) := ZC BK112 2 rfl;have hfz33_0 := blk_frozen BK112.out 0;have hfz33_1 := blk_frozen BK112.out 1;have hfz33_2 := blk_frozen BK112.out 2;have hcz34_0 : w31.cell? ⟨gb102,0,none⟩ = some (.string ((rd_T41 l0 x9_1).f0)) := ZC BK102 0 rfl;have hcz34_1 : w31.cell? ⟨gb102,1,none⟩ = some (.slice A101_1 ((rd_T41 l0 x9_1).f1).length c101_1) := ZC BK102 1 rfl;have hcz34_2 : w31.cell? ⟨gb102,2,none⟩ = some (.int .i64 ((rd_T41 l0 x9_1).f2)) := ZC BK102 2 rfl;have hfz34_0 := blk_frozen BK102.out 0;have hfz34_1 := blk_frozen BK102.out 1;have hfz34_2 := blk_frozen BK102.out 2))
       go_roundg k3
       case measure => have := HK1.out;have := HJ4.out;have := HK3.out;omega
       case rel => exact ⟨(wrap64 (x43_3 + 1)),ZG,H',⟨by have := HK1.out;have := HJ4.out;have := HK3.out;omega⟩,⟨by refine ZY ?_;refine blk_far ?_ NB102_112.out _;refine ZY ?_;refine blk_far ?_ NB102_112.out _;refine ZY ?_;refine blk_far ?_ NB102_112.out _;refine ZY ?_;exact BK102.out⟩,⟨ZQ HB⟩⟩
def spec_leReady.l0 : Nat -> List Int -> List Int -> Int -> Int -> Option (Bool)
 | 0,_,_,_,_ => none
 | k + 1,x1,x13,x14,x15 => if x15 < x14 then (if 0 <= x15 then (if x15 < (x13.length : Int) then ((spec_l1Has.f k x1 (rd x13 x15)).bind fun t103 => (if t103 = true then (spec_leReady.l0 k x1 x13 x14 (wrap64 (x15 + 1))) else (some false))) else (none)) else (none)) else (some true)
def spec_leReady.f (k : Nat) (l0 : List (S41)) (l1 : List Int) (a2 : Int) : Option (Bool) := if 0 <= a2 then (if a2 < (l0.length : Int) then (spec_leReady.l0 k l1 ((rd_T41 l0 a2).f1) (((rd_T41 l0 a2).f1).length : Int) 0) else (none)) else (none)
theorem spec_leReady.calls (k : Nat) (A0 : Option Addr) (c0 : Nat) (l0 : List (S41)) (A1 : Option Addr) (c1 : Nat) (l1 : List Int) (a2 : Int) (r : Bool) (w : World) (hr0 : Kd.C k41 w A0 l0.length l0) (hc0 : l0.length <= c0) (hr1 : Kd.C (Kd.int .i64) w A1 l1.length l1) (hc1 : l1.length <= c1) (h : spec_leReady.f k l0 l1 a2 = some r) :
  Calls Tryz.prog 150 #[.slice A0 l0.length c0,.slice A1 l1.length c1,.int .i64 a2] w fun e w' => e = .returned (.bool r) ∧ Drawn0 w w' := by
 have HR0 := ZA hr0;have HC0 := ZA hc0;clear hr0 hc0;have HR1 := ZA hr1;have HC1 := ZA hc1;clear hr1 hc1;have H := h;clear h;unfold spec_leReady.f at H;replace H := YN H;obtain ⟨c4b0,H⟩ := H;replace H := YN H;obtain ⟨c5b0,H⟩ := H;have H' := ZA H;clear H;have p101 : 0 <= (a2 : Int) := ZD;have q101 : a2 < (l0.length : Int) := ZD;obtain ⟨ad101,A101_1,c101_1,e101,hx101_0,hx101_1,hx101_2,hl101_1,hi101_1⟩ := at_T41 HR0.out a2 p101 q101;cases e101;have HR101_1 := ZA hi101_1;have HC101_1 := ZA hl101_1;clear hi101_1 hl101_1;replace p101 := eq_true p101;replace q101 := eq_true q101;go_enter Tryz.func150,Tryz.ntmps150;go_wp2
 go_loopg [15] k (fun kq v15 w' => ∃ (x15_1 : Int),v15 = .int .i64 x15_1 ∧ Aside0 (spec_leReady.l0 kq l1 ((rd_T41 l0 a2).f1) (((rd_T41 l0 a2).f1).length : Int) x15_1 = some r) ∧ Aside0 (kq <= k) ∧ Drawn0 w w')
 case atStart => exact ⟨(0),ZG,H',⟨Nat.le_refl _⟩,by repeat (first|exact Drawn0.refl _|apply Drawn0.step)⟩
 case round =>
  clear H';obtain ⟨x15_1,rfl,HA,HK1,⟨m1,rfl⟩⟩ := hrel;cases gk with
  | zero => exact absurd HA.out (by simp [spec_leReady.l0])
  | succ k1 =>
   have H := HA.out;clear HA;simp only [spec_leReady.l0] at H;replace H := YI H;rcases H with ⟨c6b0,H⟩|⟨c6b0,H⟩;rotate_left
   ·obtain rfl := Option.some.inj H;go_wp2;go_ret;exact ⟨by first|rfl|(simp;done)|(simp [*];done),by repeat (first|exact Drawn0.refl _|apply Drawn0.step)⟩
   replace H := YN H;obtain ⟨c7b0,H⟩ := H;replace H := YN H;obtain ⟨c8b0,H⟩ := H;replace H := YJ H;obtain ⟨t103,A9,H⟩ := H;replace H := YF H;rcases H with ⟨rfl,H⟩|⟨rfl,H⟩;rotate_left
   ·obtain rfl := Option.some.inj H;have p102 : 0 <= (x15_1 : Int) := ZD;have q102 : x15_1 < (((rd_T41 l0 a2).f1).length : Int) := ZD;obtain ⟨ad102,e102,hx102_0⟩ := Kd.at_int HR101_1.out x15_1 p102 q102;cases e102;replace p102 := eq_true p102;replace q102 := eq_true q102
    go_wp2_with (first|((with_reducible refine YG 72 ?_);refine YC (some 21) Tryz.func72 #[.slice A1 l1.length c1,.int .i64 (rd ((rd_T41 l0 a2).f1) x15_1)] (spec_l1Has.calls k1 _ _ l1 (rd ((rd_T41 l0 a2).f1) x15_1) false _ (ZR HR1.out) HC1.out A9.out) ?_;rintro e w' ⟨rfl,⟨nd,rfl⟩⟩;refine ⟨_,rfl,?_⟩))
    go_ret;exact ⟨by first|rfl|(simp;done)|(simp [*];done),by repeat (first|exact Drawn0.refl _|apply Drawn0.step)⟩
   have H' := ZA H;clear H;have p102 : 0 <= (x15_1 : Int) := ZD;have q102 : x15_1 < (((rd_T41 l0 a2).f1).length : Int) := ZD;obtain ⟨ad102,e102,hx102_0⟩ := Kd.at_int HR101_1.out x15_1 p102 q102;cases e102;replace p102 := eq_true p102;replace q102 := eq_true q102
   go_wp2_with (first|((with_reducible refine YG 72 ?_);refine YC (some 21) Tryz.func72 #[.slice A1 l1.length c1,.int .i64 (rd ((rd_T41 l0 a2).f1) x15_1)] (spec_l1Has.calls k1 _ _ l1 (rd ((rd_T41 l0 a2).f1) x15_1) true _ (ZR HR1.out) HC1.out A9.out) ?_;rintro e w' ⟨rfl,⟨nd,rfl⟩⟩;refine ⟨_,rfl,?_⟩))
   go_roundg k1
   case measure => have := HK1.out;omega
   case rel => exact ⟨(wrap64 (x15_1 + 1)),ZG,H',⟨by have := HK1.out;omega⟩,by repeat (first|exact Drawn0.refl _|apply Drawn0.step)⟩
end Go.Proofs.YtgnijnlgbelifaaGreat.Q
