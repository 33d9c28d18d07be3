import Derived.Test.YtgnijnlgbelifaaGreatQ0
import Derived.Test.YtgnijnlgbelifaaGreatGUp
import Derived.Test.YtgnijnlgbelifaaGreatWRepsOne
namespace Go.Proofs.YtgnijnlgbelifaaGreat.Q
open RowKit W.PrintWords W.PrintLast W.PrintMore W.GCall
attribute [local go_sem] Ebi Ebj Ebx Eby Ebb Ebc Ebk Ebl
set_option linter.unusedVariables false
set_option maxHeartbeats 3000000
set_option maxRecDepth 100000
set_option linter.unusedSimpArgs false
def Ln.f (l0 : List Int) (l1 : List Int) : Option (Bool) := if (l0.length : Int) > 1048576 then (some true) else (some (decide ((l1.length : Int) > (wrap64 (1048576 - (l0.length : Int))))))
theorem Ln.calls (A0 : Option Addr) (c0 : Nat) (l0 : List Int) (A1 : Option Addr) (c1 : Nat) (l1 : List Int) (r : Bool) (w : World) (i : Kd.C (Kd.int .u8) w A0 l0.length l0) (j : l0.length <= c0) (m : Kd.C (Kd.int .u8) w A1 l1.length l1) (n : l1.length <= c1) (h : Ln.f l0 l1 = some r) :
  Calls Tryz.prog 6 #[.slice A0 l0.length c0,.slice A1 l1.length c1] w fun e w' => e = .returned (.bool r) ∧ Drawn0 w w' := by
 have aa := ZA i;have ab := ZA j;clear i j;have ac := ZA m;have ad := ZA n;clear m n;have H := h;clear h;unfold Ln.f at H;by_cases c3 : (l0.length : Int) > 1048576
 ·rw [if_pos c3] at H;have d := decide_eq_true c3;have g : decide (1048576 < l0.length) = true := decide_eq_true (by omega);clear c3;obtain rfl := Option.some.inj H;go_enter Tryz.func6,Tryz.ntmps6;go_wp2;go_ret;exact ⟨by first|rfl|(simp;done)|(simp [*];done),by repeat (first|exact Drawn0.refl _|apply Drawn0.step)⟩
 rw [if_neg c3] at H;have d := decide_eq_false c3;have g : decide (1048576 < l0.length) = false := decide_eq_false (by omega);clear c3;obtain rfl := Option.some.inj H;go_enter Tryz.func6,Tryz.ntmps6;go_wp2;go_ret;exact ⟨by first|rfl|(simp;done)|(simp [*];done),by repeat (first|exact Drawn0.refl _|apply Drawn0.step)⟩
def FQ.l0 : Nat -> List Int -> List Int -> Int -> Int -> Option (Bool)
 | 0,_,_,_,_ => none
 | k + 1,x0,x1,f,d => if d < f then (if 0 <= d then (if d < (x0.length : Int) then (if d < (x1.length : Int) then (if (rd x0 d) = (rd x1 d) then (FQ.l0 k x0 x1 f (wrap64 (d + 1))) else (some false)) else (none)) else (none)) else (none)) else (some true)
def FQ.f (k : Nat) (l0 : List Int) (l1 : List Int) : Option (Bool) := if (l0.length : Int) = (l1.length : Int) then (FQ.l0 k l0 l1 (l0.length : Int) 0) else (some false)
theorem FQ.calls (k : Nat) (A0 : Option Addr) (c0 : Nat) (l0 : List Int) (A1 : Option Addr) (c1 : Nat) (l1 : List Int) (r : Bool) (w : World) (G : Kd.C (Kd.int .i64) w A0 l0.length l0) (I : l0.length <= c0) (J : Kd.C (Kd.int .i64) w A1 l1.length l1) (M : l1.length <= c1) (h : FQ.f k l0 l1 = some r) :
  Calls Tryz.prog 10 #[.slice A0 l0.length c0,.slice A1 l1.length c1] w fun e w' => e = .returned (.bool r) ∧ Drawn0 w w' := by
 have U := ZA G;have ad := ZA I;clear G I;have V := ZA J;have ae := ZA M;clear J M;have H : (if (l0.length : Int) = (l1.length : Int) then (FQ.l0 k l0 l1 (l0.length : Int) 0) else (some false)) = some r := h;clear h;by_cases c3 : (l0.length : Int) = (l1.length : Int);rotate_left
 ·rw [if_neg c3] at H;have u : ((l0.length : Int) == (l1.length : Int)) = false := beq_eq_false_iff_ne.mpr c3;have v : ((l0.length : Int) != (l1.length : Int)) = true := bne_iff_ne.mpr c3;have y : (l0.length == l1.length) = false := by first|simpa using c3|(simp at c3 ⊢;omega)
  obtain rfl := Option.some.inj H;go_enter Tryz.func10,Tryz.ntmps10;go_wp2
  repeat (go_quiet (fail);try go_wp2)
  go_ret;exact ⟨by first|rfl|(simp;done)|(simp [*];done),by repeat (first|exact Drawn0.refl _|apply Drawn0.step)⟩
 rw [if_pos c3] at H;have u : ((l0.length : Int) == (l1.length : Int)) = true := beq_iff_eq.mpr c3;have v : ((l0.length : Int) != (l1.length : Int)) = false := bne_eq_false_iff_eq.mpr c3;have y : (l0.length == l1.length) = true := by first|simpa using c3|(simp at c3 ⊢;omega)
 clear c3;have H' := ZA H;clear H;go_enter Tryz.func10,Tryz.ntmps10;go_wp2
 repeat (go_quiet (fail);try go_wp2)
 go_loopg [13] k (fun kq Y w' => ∃ (d : Int),Y = .int .i64 d ∧ Aside0 (FQ.l0 kq l0 l1 (l0.length : Int) d = some r) ∧ Aside0 (kq <= k) ∧ Drawn0 w w')
 case atStart => exact ⟨(0),ZG,H',⟨Nat.le_refl _⟩,by repeat (first|exact Drawn0.refl _|apply Drawn0.step)⟩
 case round =>
  clear H';obtain ⟨d,rfl,HA,X,⟨m1,rfl⟩⟩ := hrel;cases gk with
  | zero => exact absurd HA.out (by simp [FQ.l0])
  | succ k1 =>
   have H := HA.out;clear HA;simp only [FQ.l0] at H;replace H := YI H;rcases H with ⟨z,H⟩|⟨z,H⟩;rotate_left
   ·obtain rfl := Option.some.inj H;go_wp2
    repeat (go_quiet (fail);try go_wp2)
    go_ret;exact ⟨by first|rfl|(simp;done)|(simp [*];done),by repeat (first|exact Drawn0.refl _|apply Drawn0.step)⟩
   replace H := YN H;obtain ⟨aa,H⟩ := H;replace H := YN H;obtain ⟨ab,H⟩ := H;replace H := YN H;obtain ⟨ac,H⟩ := H;by_cases c8 : (rd l0 d) = (rd l1 d);rotate_left
   ·rw [if_neg c8] at H;have D : ((rd l0 d) == (rd l1 d)) = false := beq_eq_false_iff_ne.mpr c8;have E : ((rd l0 d) != (rd l1 d)) = true := bne_iff_ne.mpr c8;obtain rfl := Option.some.inj H;have g : 0 <= (d : Int) := ZD;have i : d < (l0.length : Int) := ZD;obtain ⟨s,p,n⟩ := Kd.Ean U.out d g i;cases p;replace g := eq_true g;replace i := eq_true i;have j : 0 <= (d : Int) := ZD;have m : d < (l1.length : Int) := ZD;obtain ⟨t,q,o⟩ := Kd.Ean V.out d j m;cases q;replace j := eq_true j;replace m := eq_true m;go_wp2
    repeat (go_quiet (fail);try go_wp2)
    go_ret;exact ⟨by first|rfl|(simp;done)|(simp [*];done),by repeat (first|exact Drawn0.refl _|apply Drawn0.step)⟩
   rw [if_pos c8] at H;have D : ((rd l0 d) == (rd l1 d)) = true := beq_iff_eq.mpr c8;have E : ((rd l0 d) != (rd l1 d)) = false := bne_eq_false_iff_eq.mpr c8;clear c8;have H' := ZA H;clear H;have g : 0 <= (d : Int) := ZD;have i : d < (l0.length : Int) := ZD;obtain ⟨s,p,n⟩ := Kd.Ean U.out d g i;cases p;replace g := eq_true g;replace i := eq_true i;have j : 0 <= (d : Int) := ZD;have m : d < (l1.length : Int) := ZD;obtain ⟨t,q,o⟩ := Kd.Ean V.out d j m;cases q;replace j := eq_true j;replace m := eq_true m;go_wp2
   repeat (go_quiet (fail);try go_wp2)
   go_roundg k1
   case measure => have := X.out;omega
   case rel => exact ⟨(wrap64 (d + 1)),ZG,H',⟨by have := X.out;omega⟩,by repeat (first|exact Drawn0.refl _|apply Drawn0.step)⟩
def FB.f (a0 : Int) (a1 : Int) (a2 : Int) : Option (Bool) := if a0 >= a1 then (some (decide (a0 <= a2))) else (some false)
theorem FB.calls (a0 : Int) (a1 : Int) (a2 : Int) (r : Bool) (w : World) (h : FB.f a0 a1 a2 = some r) :
  Calls Tryz.prog 62 #[.int .i64 a0,.int .i64 a1,.int .i64 a2] w fun e w' => e = .returned (.bool r) ∧ Drawn0 w w' := by
 have H : (if a0 >= a1 then (some (decide (a0 <= a2))) else (some false)) = some r := h;clear h;by_cases c4 : a0 >= a1
 ·rw [if_pos c4] at H;have d := decide_eq_true c4;clear c4;obtain rfl := Option.some.inj H;go_enter Tryz.func62,Tryz.ntmps62;go_wp2;go_ret;exact ⟨by first|rfl|(simp;done)|(simp [*];done),by repeat (first|exact Drawn0.refl _|apply Drawn0.step)⟩
 rw [if_neg c4] at H;have d := decide_eq_false c4;clear c4;obtain rfl := Option.some.inj H;go_enter Tryz.func62,Tryz.ntmps62;go_wp2;go_ret;exact ⟨by first|rfl|(simp;done)|(simp [*];done),by repeat (first|exact Drawn0.refl _|apply Drawn0.step)⟩
end Go.Proofs.YtgnijnlgbelifaaGreat.Q
