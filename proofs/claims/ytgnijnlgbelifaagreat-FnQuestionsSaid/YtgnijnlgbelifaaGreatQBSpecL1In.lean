import Derived.Test.YtgnijnlgbelifaaGreatQ0
import Derived.Test.YtgnijnlgbelifaaGreatGUp
import Derived.Test.YtgnijnlgbelifaaGreatWRepsOne
import Derived.Test.YtgnijnlgbelifaaGreatWGuard
namespace Go.Proofs.YtgnijnlgbelifaaGreat.Q
open Go.RowKit Go.Proofs.YtgnijnlgbelifaaGreatW.PrintWords Go.Proofs.YtgnijnlgbelifaaGreatW.PrintLast Go.Proofs.YtgnijnlgbelifaaGreatW.PrintMore Go.Proofs.YtgnijnlgbelifaaGreatW.GCall
attribute [local go_sem] Ebu Ebv Ecl Ecm Ebk Ebl Ebw Ebx
set_option linter.unusedVariables false
set_option maxHeartbeats 3000000
set_option maxRecDepth 100000
set_option linter.unusedSimpArgs false
def FM.f (a0 : Int) (a1 : Int) (a2 : Int) : Option (Bool) := if a0 >= a1 then (some (decide (a0 <= a2))) else (some false)
theorem FM.calls (a0 : Int) (a1 : Int) (a2 : Int) (r : Bool) (w : World) (h : FM.f a0 a1 a2 = some r) :
  Calls Tryz.prog 65 #[.int .i64 a0,.int .i64 a1,.int .i64 a2] w fun e w' => e = .returned (.bool r) ∧ Drawn0 w w' := by
 have H : (if a0 >= a1 then (some (decide (a0 <= a2))) else (some false)) = some r := h;clear h;by_cases c4 : a0 >= a1
 ·rw [if_pos c4] at H;have d := decide_eq_true c4;clear c4;obtain rfl := Option.some.inj H;go_enter Tryz.func65,Tryz.ntmps65;go_wp2;go_ret;exact ⟨by first|rfl|(simp;done)|(simp [*];done),by repeat (first|exact Drawn0.refl _|apply Drawn0.step)⟩
 rw [if_neg c4] at H;have d := decide_eq_false c4;clear c4;obtain rfl := Option.some.inj H;go_enter Tryz.func65,Tryz.ntmps65;go_wp2;go_ret;exact ⟨by first|rfl|(simp;done)|(simp [*];done),by repeat (first|exact Drawn0.refl _|apply Drawn0.step)⟩
def Fp.l0 : Nat -> Int -> List Int -> Int -> Int -> Option (Bool)
 | 0,_,_,_,_ => none
 | k + 1,x1,x7,x8,x9 => if x9 < x8 then (if 0 <= x9 then (if x9 < (x7.length : Int) then (if (rd x7 x9) = x1 then (some true) else (Fp.l0 k x1 x7 x8 (wrap64 (x9 + 1)))) else (none)) else (none)) else (some false)
def Fp.f (k : Nat) (l0 : List Int) (a1 : Int) : Option (Bool) := Fp.l0 k a1 l0 (l0.length : Int) 0
theorem Fp.calls (k : Nat) (A0 : Option Addr) (c0 : Nat) (l0 : List Int) (a1 : Int) (r : Bool) (w : World) (s : Kd.C (Kd.int .i64) w A0 l0.length l0) (t : l0.length <= c0) (h : Fp.f k l0 a1 = some r) :
  Calls Tryz.prog 72 #[.slice A0 l0.length c0,.int .i64 a1] w fun e w' => e = .returned (.bool r) ∧ Drawn0 w w' := by
 have u := ZA s;have ac := ZA t;clear s t;have H : (Fp.l0 k a1 l0 (l0.length : Int) 0) = some r := h;clear h;have H' := ZA H;clear H;go_enter Tryz.func72,Tryz.ntmps72;go_wp2
 go_loopg [9] k (fun kq v9 w' => ∃ (d : Int),v9 = .int .i64 d ∧ Aside0 (Fp.l0 kq a1 l0 (l0.length : Int) d = some r) ∧ Aside0 (kq <= k) ∧ Drawn0 w w')
 case atStart => exact ⟨(0),ZG,H',⟨Nat.le_refl _⟩,by repeat (first|exact Drawn0.refl _|apply Drawn0.step)⟩
 case round =>
  clear H';obtain ⟨d,rfl,HA,v,⟨m1,rfl⟩⟩ := hrel;cases gk with
  | zero => exact absurd HA.out (by simp [Fp.l0])
  | succ k1 =>
   have H := HA.out;clear HA;simp only [Fp.l0] at H;replace H := YI H;rcases H with ⟨o,H⟩|⟨o,H⟩;rotate_left
   ·obtain rfl := Option.some.inj H;go_wp2;go_ret;exact ⟨by first|rfl|(simp;done)|(simp [*];done),by repeat (first|exact Drawn0.refl _|apply Drawn0.step)⟩
   replace H := YN H;obtain ⟨aa,H⟩ := H;replace H := YN H;obtain ⟨ab,H⟩ := H;by_cases c6 : (rd l0 d) = a1
   ·rw [if_pos c6] at H;have p : ((rd l0 d) == a1) = true := beq_iff_eq.mpr c6;have q : ((rd l0 d) != a1) = false := bne_eq_false_iff_eq.mpr c6;clear c6;obtain rfl := Option.some.inj H;have g : 0 <= (d : Int) := ZD;have i : d < (l0.length : Int) := ZD;obtain ⟨n,m,j⟩ := Kd.Eav u.out d g i;cases m;replace g := eq_true g;replace i := eq_true i;go_wp2;go_ret;exact ⟨by first|rfl|(simp;done)|(simp [*];done),by repeat (first|exact Drawn0.refl _|apply Drawn0.step)⟩
   rw [if_neg c6] at H;have p : ((rd l0 d) == a1) = false := beq_eq_false_iff_ne.mpr c6;have q : ((rd l0 d) != a1) = true := bne_iff_ne.mpr c6;have H' := ZA H;clear H;have g : 0 <= (d : Int) := ZD;have i : d < (l0.length : Int) := ZD;obtain ⟨n,m,j⟩ := Kd.Eav u.out d g i;cases m;replace g := eq_true g;replace i := eq_true i;go_wp2
   go_roundg k1
   case measure => have := v.out;omega
   case rel => exact ⟨(wrap64 (d + 1)),ZG,H',⟨by have := v.out;omega⟩,by repeat (first|exact Drawn0.refl _|apply Drawn0.step)⟩
def FT.l0 : Nat -> ByteArray -> Int -> Option (Bool)
 | 0,_,_ => none
 | k + 1,x0,x3 => if x3 < (x0.size : Int) then (if 0 <= x3 then (if (bt x0 x3) < 65 then (some false) else (if (bt x0 x3) > 90 then (some false) else (FT.l0 k x0 (wrap64 (x3 + 1))))) else (none)) else ((FM.f (x0.size : Int) 1 8).bind fun d => (some d))
def FT.f (k : Nat) (a0 : ByteArray) : Option (Bool) := FT.l0 k a0 0
theorem FT.calls (k : Nat) (a0 : ByteArray) (r : Bool) (w : World) (h : FT.f k a0 = some r) :
  Calls Tryz.prog 138 #[.string a0] w fun e w' => e = .returned (.bool r) ∧ Drawn0 w w' := by
 have H : (FT.l0 k a0 0) = some r := h;clear h;have H' := ZA H;clear H;go_enter Tryz.func138,Tryz.ntmps138;go_wp2
 go_loopg [3] k (fun kq v3 w' => ∃ (d : Int),v3 = .int .i64 d ∧ Aside0 (FT.l0 kq a0 d = some r) ∧ Aside0 (kq <= k) ∧ Drawn0 w w')
 case atStart => exact ⟨(0),ZG,H',⟨Nat.le_refl _⟩,by repeat (first|exact Drawn0.refl _|apply Drawn0.step)⟩
 case round =>
  clear H';obtain ⟨d,rfl,HA,n,⟨m1,rfl⟩⟩ := hrel;cases gk with
  | zero => exact absurd HA.out (by simp [FT.l0])
  | succ k1 =>
   have H := HA.out;clear HA;simp only [FT.l0] at H;replace H := YI H;rcases H with ⟨g,H⟩|⟨g,H⟩;rotate_left
   ·replace H := ZI H;obtain ⟨i,o,H⟩ := H;have A8 := ZA o;clear o;obtain rfl := Option.some.inj H
    go_wp2_with (first|((with_reducible refine YG 65 ?_);refine YC (some 22) Tryz.func65 #[.int .i64 (a0.size : Int),.int .i64 1,.int .i64 8] (FM.calls (a0.size : Int) 1 8 i _ A8.out) ?_;rintro e w' ⟨rfl,⟨nd,rfl⟩⟩;refine ⟨_,rfl,?_⟩))
    go_ret;exact ⟨by first|rfl|(simp;done)|(simp [*];done),by repeat (first|exact Drawn0.refl _|apply Drawn0.step)⟩
   replace H := YN H;obtain ⟨aa,H⟩ := H;by_cases c5 : (bt a0 d) < 65
   ·rw [if_pos c5] at H;have j := decide_eq_true c5;clear c5;obtain rfl := Option.some.inj H;have p4 : 0 <= (d : Int) := ZD;have q4 : d < (a0.size : Int) := ZD;have p := Eij a0 d;replace p4 := eq_true p4;replace q4 := eq_true q4;go_wp2;go_ret;exact ⟨by first|rfl|(simp;done)|(simp [*];done),by repeat (first|exact Drawn0.refl _|apply Drawn0.step)⟩
   rw [if_neg c5] at H;have j := decide_eq_false c5;clear c5;by_cases c7 : (bt a0 d) > 90
   ·rw [if_pos c7] at H;have m := decide_eq_true c7;clear c7;obtain rfl := Option.some.inj H;have p4 : 0 <= (d : Int) := ZD;have q4 : d < (a0.size : Int) := ZD;have p := Eij a0 d;replace p4 := eq_true p4;replace q4 := eq_true q4;have p6 : 0 <= (d : Int) := ZD;have q6 : d < (a0.size : Int) := ZD;have q := Eij a0 d;replace p6 := eq_true p6;replace q6 := eq_true q6;go_wp2;go_ret;exact ⟨by first|rfl|(simp;done)|(simp [*];done),by repeat (first|exact Drawn0.refl _|apply Drawn0.step)⟩
   rw [if_neg c7] at H;have m := decide_eq_false c7;clear c7;have H' := ZA H;clear H;have p4 : 0 <= (d : Int) := ZD;have q4 : d < (a0.size : Int) := ZD;have p := Eij a0 d;replace p4 := eq_true p4;replace q4 := eq_true q4;have p6 : 0 <= (d : Int) := ZD;have q6 : d < (a0.size : Int) := ZD;have q := Eij a0 d;replace p6 := eq_true p6;replace q6 := eq_true q6;go_wp2
   go_roundg k1
   case measure => have := n.out;omega
   case rel => exact ⟨(wrap64 (d + 1)),ZG,H',⟨by have := n.out;omega⟩,by repeat (first|exact Drawn0.refl _|apply Drawn0.step)⟩
def FO.l0 : Nat -> List Int -> Int -> Int -> List Int -> Int -> Int -> Option (Bool)
 | 0,_,_,_,_,_,_ => none
 | k + 1,x0,x1,x2,x9,g,d => if d < g then (if 0 <= d then (if d < (x9.length : Int) then ((FM.f (rd x9 d) x1 x2).bind fun i => (if i = true then (if d > 0 then (if 0 <= (wrap64 (d - 1)) then (if (wrap64 (d - 1)) < (x0.length : Int) then (if (rd x0 (wrap64 (d - 1))) >= (rd x9 d) then (some false) else (FO.l0 k x0 x1 x2 x9 g (wrap64 (d + 1)))) else (none)) else (none)) else (FO.l0 k x0 x1 x2 x9 g (wrap64 (d + 1)))) else (some false))) else (none)) else (none)) else (some true)
def FO.f (k : Nat) (l0 : List Int) (a1 : Int) (a2 : Int) : Option (Bool) := FO.l0 k l0 a1 a2 l0 (l0.length : Int) 0
theorem FO.calls (k : Nat) (A0 : Option Addr) (c0 : Nat) (l0 : List Int) (a1 : Int) (a2 : Int) (r : Bool) (w : World) (J : Kd.C (Kd.int .i64) w A0 l0.length l0) (M : l0.length <= c0) (h : FO.f k l0 a1 a2 = some r) :
  Calls Tryz.prog 139 #[.slice A0 l0.length c0,.int .i64 a1,.int .i64 a2] w fun e w' => e = .returned (.bool r) ∧ Drawn0 w w' := by
 have y := ZA J;have ag := ZA M;clear J M;have H : (FO.l0 k l0 a1 a2 l0 (l0.length : Int) 0) = some r := h;clear h;have H' := ZA H;clear H;go_enter Tryz.func139,Tryz.ntmps139;go_wp2
 go_loopg [11] k (fun kq U w' => ∃ (d : Int),U = .int .i64 d ∧ Aside0 (FO.l0 kq l0 a1 a2 l0 (l0.length : Int) d = some r) ∧ Aside0 (kq <= k) ∧ Drawn0 w w')
 case atStart => exact ⟨(0),ZG,H',⟨Nat.le_refl _⟩,by repeat (first|exact Drawn0.refl _|apply Drawn0.step)⟩
 case round =>
  clear H';obtain ⟨d,rfl,HA,E,⟨m1,rfl⟩⟩ := hrel;cases gk with
  | zero => exact absurd HA.out (by simp [FO.l0])
  | succ k1 =>
   have H := HA.out;clear HA;simp only [FO.l0] at H;replace H := YI H;rcases H with ⟨G,H⟩|⟨G,H⟩;rotate_left
   ·obtain rfl := Option.some.inj H;go_wp2;go_ret;exact ⟨by first|rfl|(simp;done)|(simp [*];done),by repeat (first|exact Drawn0.refl _|apply Drawn0.step)⟩
   replace H := YN H;obtain ⟨ad,H⟩ := H;replace H := YN H;obtain ⟨ae,H⟩ := H;replace H := YJ H;obtain ⟨af,A7,H⟩ := H;replace H := YF H;rcases H with ⟨rfl,H⟩|⟨rfl,H⟩;rotate_left
   ·obtain rfl := Option.some.inj H;have g : 0 <= (d : Int) := ZD;have i : d < (l0.length : Int) := ZD;obtain ⟨n,p,m⟩ := Kd.Eav y.out d g i;cases p;replace g := eq_true g;replace i := eq_true i
    go_wp2_with (first|((with_reducible refine YG 65 ?_);refine YC (some 19) Tryz.func65 #[.int .i64 (rd l0 d),.int .i64 a1,.int .i64 a2] (FM.calls (rd l0 d) a1 a2 false _ A7.out) ?_;rintro e w' ⟨rfl,⟨nd,rfl⟩⟩;refine ⟨_,rfl,?_⟩))
    go_ret;exact ⟨by first|rfl|(simp;done)|(simp [*];done),by repeat (first|exact Drawn0.refl _|apply Drawn0.step)⟩
   replace H := YI H;rcases H with ⟨I,H⟩|⟨I,H⟩;rotate_left
   ·have H' := ZA H;clear H;have g : 0 <= (d : Int) := ZD;have i : d < (l0.length : Int) := ZD;obtain ⟨n,p,m⟩ := Kd.Eav y.out d g i;cases p;replace g := eq_true g;replace i := eq_true i
    go_wp2_with (first|((with_reducible refine YG 65 ?_);refine YC (some 19) Tryz.func65 #[.int .i64 (rd l0 d),.int .i64 a1,.int .i64 a2] (FM.calls (rd l0 d) a1 a2 true _ A7.out) ?_;rintro e w' ⟨rfl,⟨nd,rfl⟩⟩;refine ⟨_,rfl,?_⟩))
    go_roundg k1
    case measure => have := E.out;omega
    case rel => exact ⟨(wrap64 (d + 1)),ZG,H',⟨by have := E.out;omega⟩,by repeat (first|exact Drawn0.refl _|apply Drawn0.step)⟩
   obtain ⟨j,o⟩ : ∃ j_ : Int,(wrap64 (d - 1)) = j_ := ⟨_,rfl⟩;replace H : (if 0 <= (j) then (if (j) < (l0.length : Int) then (if (rd l0 (j)) >= (rd l0 d) then (some false) else (FO.l0 k1 l0 a1 a2 l0 (l0.length : Int) (wrap64 (d + 1)))) else (none)) else (none)) = some r := by first|(rw [o] at H;exact H)|(simp only [o] at H ⊢;exact H)
   (try rw [o] at A7)
   have aa : (IntKind.i64.wrap (d - 1)) = j := (Ecw _).trans o;replace H := YN H;obtain ⟨ab,H⟩ := H;replace H := YN H;obtain ⟨ac,H⟩ := H;by_cases z : (rd l0 (j)) >= (rd l0 d)
   ·rw [if_pos z] at H;have D := decide_eq_true z;clear z;obtain rfl := Option.some.inj H;have g : 0 <= (d : Int) := ZD;have i : d < (l0.length : Int) := ZD;obtain ⟨n,p,m⟩ := Kd.Eav y.out d g i;cases p;replace g := eq_true g;replace i := eq_true i
    go_wp2_with (first|((with_reducible refine YG 65 ?_);refine YC (some 19) Tryz.func65 #[.int .i64 (rd l0 d),.int .i64 a1,.int .i64 a2] (FM.calls (rd l0 d) a1 a2 true _ A7.out) ?_;rintro e w' ⟨rfl,⟨nd,rfl⟩⟩;refine ⟨_,rfl,?_⟩;have q : 0 <= ((j) : Int) := ZD;have s : (j) < (l0.length : Int) := ZD;obtain ⟨t,v,u⟩ := Kd.Eav y.out (j) q s;obtain rfl : n = t := (by injection v);replace q := eq_true q;replace s := eq_true s))
    go_ret;exact ⟨by first|rfl|(simp;done)|(simp only [<- o] <;> (first|rfl|simp))|(simp [*];done),by repeat (first|exact Drawn0.refl _|apply Drawn0.step)⟩
   rw [if_neg z] at H;have D := decide_eq_false z;clear z;have H' := ZA H;clear H;have g : 0 <= (d : Int) := ZD;have i : d < (l0.length : Int) := ZD;obtain ⟨n,p,m⟩ := Kd.Eav y.out d g i;cases p;replace g := eq_true g;replace i := eq_true i
   go_wp2_with (first|((with_reducible refine YG 65 ?_);refine YC (some 19) Tryz.func65 #[.int .i64 (rd l0 d),.int .i64 a1,.int .i64 a2] (FM.calls (rd l0 d) a1 a2 true _ A7.out) ?_;rintro e w' ⟨rfl,⟨nd,rfl⟩⟩;refine ⟨_,rfl,?_⟩;have q : 0 <= ((j) : Int) := ZD;have s : (j) < (l0.length : Int) := ZD;obtain ⟨t,v,u⟩ := Kd.Eav y.out (j) q s;obtain rfl : n = t := (by injection v);replace q := eq_true q;replace s := eq_true s))
   go_roundg k1
   case measure => have := E.out;omega
   case rel => exact ⟨(wrap64 (d + 1)),ZG,H',⟨by have := E.out;omega⟩,by repeat (first|exact Drawn0.refl _|apply Drawn0.step)⟩
mutual
def Fo.l0 : Nat -> List (S41) -> List (S41) -> Int -> Int -> Option (Bool)
 | 0,_,_,_,_ => none
 | k + 1,x0,x7,x8,x9 => if x9 < x8 then (if 0 <= x9 then (if x9 < (x7.length : Int) then ((FT.f k ((rd_T41 x7 x9).f0)).bind fun d => (if d = true then ((FO.f k ((rd_T41 x7 x9).f1) 0 (wrap64 ((x0.length : Int) - 1))).bind fun g => (if g = true then ((Fp.f k ((rd_T41 x7 x9).f1) x9).bind fun i => (if i = true then (Fo.j1 k x0 x9 x7 x8 x9 true ((rd_T41 x7 x9).f0) ((rd_T41 x7 x9).f1) ((rd_T41 x7 x9).f2)) else ((FM.f ((rd_T41 x7 x9).f2) 0 99999).bind fun j => (Fo.j1 k x0 x9 x7 x8 x9 (!j) ((rd_T41 x7 x9).f0) ((rd_T41 x7 x9).f1) ((rd_T41 x7 x9).f2))))) else (Fo.j1 k x0 x9 x7 x8 x9 true ((rd_T41 x7 x9).f0) ((rd_T41 x7 x9).f1) ((rd_T41 x7 x9).f2)))) else (Fo.j1 k x0 x9 x7 x8 x9 true ((rd_T41 x7 x9).f0) ((rd_T41 x7 x9).f1) ((rd_T41 x7 x9).f2)))) else (none)) else (none)) else (some (decide ((x0.length : Int) <= 16)))
def Fo.j1 : Nat -> List (S41) -> Int -> List (S41) -> Int -> Int -> Bool -> ByteArray -> List Int -> Int -> Option (Bool)
 | 0,_,_,_,_,_,_,_,_,_ => none
 | k + 1,x0,x3,x7,x8,x9,j,d,f,g => if j = true then (some false) else (if 0 <= x3 then (if x3 <= (x0.length : Int) then ((some (x0.take (x3 : Int).toNat : List (S41))).bind fun i => (Fo.l1 k x0 x7 x8 x9 i (i.length : Int) 0 d f g)) else (none)) else (none))
def Fo.l1 : Nat -> List (S41) -> List (S41) -> Int -> Int -> List (S41) -> Int -> Int -> ByteArray -> List Int -> Int -> Option (Bool)
 | 0,_,_,_,_,_,_,_,_,_,_ => none
 | k + 1,x0,x7,x8,x9,j,m,i,d,f,g => if i < m then (if 0 <= i then (if i < (j.length : Int) then (if ((rd_T41 j i).f0).toList = d.toList then (some false) else (Fo.l1 k x0 x7 x8 x9 j m (wrap64 (i + 1)) d f g)) else (none)) else (none)) else (Fo.l0 k x0 x7 x8 (wrap64 (x9 + 1)))
end
def Fo.f (k : Nat) (l0 : List (S41)) : Option (Bool) := Fo.l0 k l0 l0 (l0.length : Int) 0
theorem Fo.calls (k : Nat) (A0 : Option Addr) (c0 : Nat) (l0 : List (S41)) (r : Bool) (w : World) (bP : Kd.C k41 w A0 l0.length l0) (bQ : l0.length <= c0) (h : Fo.f k l0 = some r) :
  Calls Tryz.prog 78 #[.slice A0 l0.length c0] w fun e w' => e = .returned (.bool r) ∧ Below w.heap.size w w' := by
 have b6 := Tryz.underlying41;have bR := ZA bP;have b7 := ZA bQ;clear bP bQ;have HB := ZA (Below.refl w.heap.size w);have H : (Fo.l0 k l0 l0 (l0.length : Int) 0) = some r := h;clear h;have H' := ZA H;clear H;go_enter Tryz.func78,Tryz.ntmps78;go_wp2
 go_loopg [9] k (fun kq v9 w' => ∃ (i : Int),v9 = .int .i64 i ∧ Aside0 (Fo.l0 kq l0 l0 (l0.length : Int) i = some r) ∧ Aside0 (kq <= k) ∧ Aside0 (Below w.heap.size w w'))
 case atStart => exact ⟨(0),ZG,H',⟨Nat.le_refl _⟩,⟨ZQ HB⟩⟩
 case round =>
  clear H';obtain ⟨i,rfl,HA,aj,HB⟩ := hrel;cases gk with
  | zero => exact absurd HA.out (by simp [Fo.l0])
  | succ k1 =>
   have H := HA.out;clear HA;simp only [Fo.l0] at H;replace H := YI H;rcases H with ⟨bA,H⟩|⟨bA,H⟩;rotate_left
   ·obtain rfl := Option.some.inj H;go_wp2;go_ret;exact ⟨YR,ZQ HB⟩
   replace H := YN H;obtain ⟨b8,H⟩ := H;replace H := YN H;obtain ⟨b9,H⟩ := H;have bB := ZA H;clear H;have an : 0 <= (i : Int) := ZD;have ao : i < (l0.length : Int) := ZD;obtain ⟨X,n,p,bC,Y,Z,aa,ab,ac⟩ := at_T41 bR.out i an ao;cases bC;replace Y := ZX HB Y;replace Z := ZX HB Z;replace aa := ZX HB aa;have v := ZA ac;have y := ZA ab;clear ac ab;replace an := eq_true an;replace ao := eq_true ao
   go_upto_region 4 with (first|((with_reducible refine Eaf (N := 4) rfl ?_);(try (refine Ean (by rfl) ?_;dsimp only));refine ZE 4 #[.string (⟨#[]⟩ : ByteArray),.slice none 0 0,.int .i64 0] 41 ?_;intro j hg w6 hbox hb;have d := ZA (hbox);have bS := YQ hg HB;have bT := YQ hg HB;replace HB := BS HB hb;clear hb hbox hg;have bD : w6.cell? ⟨j,0,none⟩ = some (.string (⟨#[]⟩ : ByteArray)) := ZC d 0 rfl;have bE : w6.cell? ⟨j,1,none⟩ = some (.slice none 0 0) := ZC d 1 rfl;have bF : w6.cell? ⟨j,2,none⟩ = some (.int .i64 0) := ZC d 2 rfl;have bG := Ea d.out 0;have bH := Ea d.out 1;have bI := Ea d.out 2))
   (try simp only [Act.put,zuA,zuB,zuC])
   go_cut [38] (fun ca wc => ∃ (kq : Nat) (ad : Bool),ca = .bool ad ∧ Aside0 (Fo.j1 kq l0 i l0 (l0.length : Int) i ad ((rd_T41 l0 i).f0) ((rd_T41 l0 i).f1) ((rd_T41 l0 i).f2) = some r) ∧ Aside0 (kq <= k1) ∧ Aside0 (wc.heap[j]? = some (.cells #[.string ((rd_T41 l0 i).f0),(.slice n ((rd_T41 l0 i).f1).length p),.int .i64 ((rd_T41 l0 i).f2)] 41 (0,0))) ∧ Aside0 (Below w.heap.size w wc))
   case first =>
    have H := bB.out;clear bB;replace H := YJ H;obtain ⟨cb,A8,H⟩ := H;replace H := YF H;rcases H with ⟨rfl,H⟩|⟨rfl,H⟩;rotate_left
    ·have H' := ZA H;clear H;have aI : w6.cell? ⟨j,0,none⟩ = some (.string (⟨#[]⟩ : ByteArray)) := ZC d 0 rfl;have aJ : w6.cell? ⟨j,1,none⟩ = some (.slice none 0 0) := ZC d 1 rfl;have aK : w6.cell? ⟨j,2,none⟩ = some (.int .i64 0) := ZC d 2 rfl;have aL := Ea d.out 0;have aM := Ea d.out 1;have aN := Ea d.out 2
     go_wp2_with (first|((with_reducible refine YG 138 ?_);refine YC (some 16) Tryz.func138 #[.string ((rd_T41 l0 i).f0)] (FT.calls k1 ((rd_T41 l0 i).f0) false _ A8.out) ?_;rintro e w' ⟨rfl,⟨nd,rfl⟩⟩;refine ⟨_,rfl,?_⟩))
     go_meet
     case rel => exact ⟨_,(true),ZG,H',⟨by have := aj.out;first|omega|exact Nat.le_refl _⟩,⟨by refine ZY ?_;refine Eae (cs := #[.string ((rd_T41 l0 i).f0),.slice n ((rd_T41 l0 i).f1).length p,.int .i64 0]) ?_ 2 _ rfl;refine ZY ?_;refine Eae (cs := #[.string ((rd_T41 l0 i).f0),.slice none 0 0,.int .i64 0]) ?_ 1 _ rfl;refine ZY ?_;refine Eae (cs := #[.string (⟨#[]⟩ : ByteArray),.slice none 0 0,.int .i64 0]) ?_ 0 _ rfl;refine ZY ?_;exact d.out⟩,⟨ZQ HB⟩⟩
    replace H := YJ H;obtain ⟨cc,bJ,H⟩ := H;replace H := YF H;rcases H with ⟨rfl,H⟩|⟨rfl,H⟩;rotate_left
    ·have H' := ZA H;clear H;have aO : w6.cell? ⟨j,0,none⟩ = some (.string (⟨#[]⟩ : ByteArray)) := ZC d 0 rfl;have aP : w6.cell? ⟨j,1,none⟩ = some (.slice none 0 0) := ZC d 1 rfl;have aQ : w6.cell? ⟨j,2,none⟩ = some (.int .i64 0) := ZC d 2 rfl;have aR := Ea d.out 0;have aS := Ea d.out 1;have aT := Ea d.out 2
     go_wp2_with (first|((with_reducible refine YG 138 ?_);refine YC (some 16) Tryz.func138 #[.string ((rd_T41 l0 i).f0)] (FT.calls k1 ((rd_T41 l0 i).f0) true _ A8.out) ?_;rintro e w' ⟨rfl,⟨nd,rfl⟩⟩;refine ⟨_,rfl,?_⟩)|(go_at_call 139;(with_reducible refine (FO.calls k1 _ _ ((rd_T41 l0 i).f1) 0 (wrap64 ((l0.length : Int) - 1)) false _ (Kd.Eac v.out (ZQ HB)) y.out bJ.out).mono ?_);rintro e w' ⟨rfl,⟨nd,rfl⟩⟩))
     go_meet
     case rel => exact ⟨_,(true),ZG,H',⟨by have := aj.out;first|omega|exact Nat.le_refl _⟩,⟨by refine ZY ?_;refine Eae (cs := #[.string ((rd_T41 l0 i).f0),.slice n ((rd_T41 l0 i).f1).length p,.int .i64 0]) ?_ 2 _ rfl;refine ZY ?_;refine Eae (cs := #[.string ((rd_T41 l0 i).f0),.slice none 0 0,.int .i64 0]) ?_ 1 _ rfl;refine ZY ?_;refine Eae (cs := #[.string (⟨#[]⟩ : ByteArray),.slice none 0 0,.int .i64 0]) ?_ 0 _ rfl;refine ZY ?_;exact d.out⟩,⟨ZQ HB⟩⟩
    replace H := YJ H;obtain ⟨bK,bU,H⟩ := H;by_cases aU : bK = true
    ·subst aU;rw [if_pos rfl] at H;have H' := ZA H;clear H;have aV : w6.cell? ⟨j,0,none⟩ = some (.string (⟨#[]⟩ : ByteArray)) := ZC d 0 rfl;have aW : w6.cell? ⟨j,1,none⟩ = some (.slice none 0 0) := ZC d 1 rfl;have aX : w6.cell? ⟨j,2,none⟩ = some (.int .i64 0) := ZC d 2 rfl;have aY := Ea d.out 0;have aZ := Ea d.out 1;have a0 := Ea d.out 2
     go_wp2_with (first|((with_reducible refine YG 138 ?_);refine YC (some 16) Tryz.func138 #[.string ((rd_T41 l0 i).f0)] (FT.calls k1 ((rd_T41 l0 i).f0) true _ A8.out) ?_;rintro e w' ⟨rfl,⟨nd,rfl⟩⟩;refine ⟨_,rfl,?_⟩)|(go_at_call 139;(with_reducible refine (FO.calls k1 _ _ ((rd_T41 l0 i).f1) 0 (wrap64 ((l0.length : Int) - 1)) true _ (Kd.Eac v.out (ZQ HB)) y.out bJ.out).mono ?_);rintro e w' ⟨rfl,⟨nd,rfl⟩⟩)|(go_at_call 72;(with_reducible refine (Fp.calls k1 _ _ ((rd_T41 l0 i).f1) i true _ (Kd.Eac v.out (ZQ HB)) y.out bU.out).mono ?_);rintro e w' ⟨rfl,⟨nd,rfl⟩⟩))
     go_meet
     case rel => exact ⟨_,(true),ZG,H',⟨by have := aj.out;first|omega|exact Nat.le_refl _⟩,⟨by refine ZY ?_;refine Eae (cs := #[.string ((rd_T41 l0 i).f0),.slice n ((rd_T41 l0 i).f1).length p,.int .i64 0]) ?_ 2 _ rfl;refine ZY ?_;refine Eae (cs := #[.string ((rd_T41 l0 i).f0),.slice none 0 0,.int .i64 0]) ?_ 1 _ rfl;refine ZY ?_;refine Eae (cs := #[.string (⟨#[]⟩ : ByteArray),.slice none 0 0,.int .i64 0]) ?_ 0 _ rfl;refine ZY ?_;exact d.out⟩,⟨ZQ HB⟩⟩
    replace aU := Bool.eq_false_iff.mpr aU;subst aU;rw [if_neg (show ¬ (false = true) by decide)] at H;replace H := YJ H;obtain ⟨aA,cd,H⟩ := H;have H' := ZA H;clear H;have a1 : w6.cell? ⟨j,0,none⟩ = some (.string (⟨#[]⟩ : ByteArray)) := ZC d 0 rfl;have a2 : w6.cell? ⟨j,1,none⟩ = some (.slice none 0 0) := ZC d 1 rfl;have a3 : w6.cell? ⟨j,2,none⟩ = some (.int .i64 0) := ZC d 2 rfl;have a4 := Ea d.out 0;have a5 := Ea d.out 1;have a6 := Ea d.out 2
    go_wp2_with (first|((with_reducible refine YG 138 ?_);refine YC (some 16) Tryz.func138 #[.string ((rd_T41 l0 i).f0)] (FT.calls k1 ((rd_T41 l0 i).f0) true _ A8.out) ?_;rintro e w' ⟨rfl,⟨nd,rfl⟩⟩;refine ⟨_,rfl,?_⟩)|(go_at_call 139;(with_reducible refine (FO.calls k1 _ _ ((rd_T41 l0 i).f1) 0 (wrap64 ((l0.length : Int) - 1)) true _ (Kd.Eac v.out (ZQ HB)) y.out bJ.out).mono ?_);rintro e w' ⟨rfl,⟨nd,rfl⟩⟩)|(go_at_call 72;(with_reducible refine (Fp.calls k1 _ _ ((rd_T41 l0 i).f1) i false _ (Kd.Eac v.out (ZQ HB)) y.out bU.out).mono ?_);rintro e w' ⟨rfl,⟨nd,rfl⟩⟩)|(go_at_call 65;(with_reducible refine (FM.calls ((rd_T41 l0 i).f2) 0 99999 aA _ cd.out).mono ?_);rintro e w' ⟨rfl,⟨nd,rfl⟩⟩))
    go_meet
    case rel => exact ⟨_,(!aA),ZG,H',⟨by have := aj.out;first|omega|exact Nat.le_refl _⟩,⟨by refine ZY ?_;refine Eae (cs := #[.string ((rd_T41 l0 i).f0),.slice n ((rd_T41 l0 i).f1).length p,.int .i64 0]) ?_ 2 _ rfl;refine ZY ?_;refine Eae (cs := #[.string ((rd_T41 l0 i).f0),.slice none 0 0,.int .i64 0]) ?_ 1 _ rfl;refine ZY ?_;refine Eae (cs := #[.string (⟨#[]⟩ : ByteArray),.slice none 0 0,.int .i64 0]) ?_ 0 _ rfl;refine ZY ?_;exact d.out⟩,⟨ZQ HB⟩⟩
   case rest =>
    clear bB;obtain ⟨kq,ad,rfl,HA,a7,d,HB⟩ := hcut;cases kq with
    | zero => exact absurd HA.out (by simp [Fo.j1])
    | succ bL =>
     have H := HA.out;clear HA;simp only [Fo.j1] at H;by_cases a8 : ad = true
     ·subst a8;rw [if_pos rfl] at H;obtain rfl := Option.some.inj H;go_wp2;go_ret;exact ⟨YR,ZQ HB⟩
     replace a8 := Bool.eq_false_iff.mpr a8;subst a8;rw [if_neg (show ¬ (false = true) by decide)] at H;replace H := YM H;obtain ⟨bM,H⟩ := H;have bV := eq_true bM;have bW := decide_eq_true bM;clear bM;replace H := YM H;obtain ⟨bN,H⟩ := H;have bX := eq_true bN;have bY := decide_eq_true bN;clear bN;obtain ⟨J,af⟩ : ∃ y_ : List (S41),y_ = (l0.take (i : Int).toNat) := ⟨_,rfl⟩;replace H : (Fo.l1 bL l0 l0 (l0.length : Int) i J (J.length : Int) 0 ((rd_T41 l0 i).f0) ((rd_T41 l0 i).f1) ((rd_T41 l0 i).f2)) = some r := YH af H;have ak := ZA af;clear af;have H' := ZA H;clear H;have bO : (i : Int) <= ((l0.length : Int) : Int) := ZD;obtain ⟨ce,al,_,aB,_⟩ := info_parts info41;have ae : l0.length <= c0 := b7.out;have aC : Kd.C k41 _ (some X) l0.length l0 := bR.out;have ap := Edh (P := Tryz.prog) 24 41 .i64 Tryz.underlying24 al (some X) l0.length c0 i ZD bO ae;have aq := Kd.Edb (m := (i : Int).toNat) aC (by omega);have ar : J.length = (i : Int).toNat := (by rw [ak.out,List.length_take];omega);rw [<- ak.out] at aq;rw [<- ar] at ap;have am := ZA aq;have bZ := ZA (show J.length <= c0 from by omega);clear aq aC ae al aB;have cf := ZA ar;clear ar;replace bO := eq_true bO;go_wp2
     go_loopg [43] bL (fun kq cg w' => ∃ (s : Int),cg = .int .i64 s ∧ Aside0 (Fo.l1 kq l0 l0 (l0.length : Int) i J (J.length : Int) s ((rd_T41 l0 i).f0) ((rd_T41 l0 i).f1) ((rd_T41 l0 i).f2) = some r) ∧ Aside0 (kq <= bL) ∧ Aside0 (w'.heap[j]? = some (.cells #[.string ((rd_T41 l0 i).f0),(.slice n ((rd_T41 l0 i).f1).length p),.int .i64 ((rd_T41 l0 i).f2)] 41 (0,0))) ∧ Aside0 (Below w.heap.size w w'))
     case atStart => exact ⟨(0),ZG,H',⟨Nat.le_refl _⟩,⟨ZH d⟩,⟨ZQ HB⟩⟩
     case round =>
      clear H';obtain ⟨s,rfl,HA,a9,d,HB⟩ := hrel;cases gk with
      | zero => exact absurd HA.out (by simp [Fo.l1])
      | succ k3 =>
       have H := HA.out;clear HA;simp only [Fo.l1] at H;replace H := YI H;rcases H with ⟨aD,H⟩|⟨aD,H⟩;rotate_left
       ·have H' := ZA H;clear H;go_wp2
        go_roundg k3
        case measure => have := aj.out;have := a7.out;have := a9.out;omega
        case rel => exact ⟨(wrap64 (i + 1)),ZG,H',⟨by have := aj.out;have := a7.out;have := a9.out;omega⟩,⟨ZQ HB⟩⟩
       replace H := YN H;obtain ⟨b0,H⟩ := H;replace H := YN H;obtain ⟨b1,H⟩ := H;by_cases au : ((rd_T41 J s).f0).toList = ((rd_T41 l0 i).f0).toList
       ·rw [if_pos au] at H;have aE : (((rd_T41 J s).f0).toList == ((rd_T41 l0 i).f0).toList) = true := beq_iff_eq.mpr au;have aF : (((rd_T41 J s).f0).toList != ((rd_T41 l0 i).f0).toList) = false := bne_eq_false_iff_eq.mpr au;clear au;obtain rfl := Option.some.inj H;have U : 0 <= (s : Int) := ZD;have V : s < (J.length : Int) := ZD;obtain ⟨ag,av,aw,ax,z,D,E,G,I⟩ := at_T41 am.out s U V;obtain rfl : X = ag := (by injection ax);replace z := ZX HB z;replace D := ZX HB D;replace E := ZX HB E;have ah := ZA I;have ai := ZA G;clear I G;replace U := eq_true U;replace V := eq_true V
        go_wp2_with (first|((with_reducible refine Eaf (N := 6) rfl ?_);(try (refine Ean (by rfl) ?_;dsimp only));refine ZE 6 #[.string (⟨#[]⟩ : ByteArray),.slice none 0 0,.int .i64 0] 41 ?_;intro u hg ay hbox hb;have t := ZA (hbox);have aG := YQ hg HB;have aH := YQ hg HB;replace HB := BS HB hb;have q := ZA ((by rw [hg];exact Nat.ne_of_lt (Eau (g := j) (o := .cells #[.string ((rd_T41 l0 i).f0),.slice n ((rd_T41 l0 i).f1).length p,.int .i64 ((rd_T41 l0 i).f2)] 41 (0,0)) (ZH d)) : j ≠ u));have M := ZA ((by rw [hg];exact Nat.ne_of_gt (Eau (g := j) (o := .cells #[.string ((rd_T41 l0 i).f0),.slice n ((rd_T41 l0 i).f1).length p,.int .i64 ((rd_T41 l0 i).f2)] 41 (0,0)) (ZH d)) : u ≠ j));replace d := ZA (Eaa (ZH d) hb);clear hb hbox hg;have b2 := M.out;have b3 := q.out;have ba : ay.cell? ⟨u,0,none⟩ = some (.string (⟨#[]⟩ : ByteArray)) := ZC t 0 rfl;have bb : ay.cell? ⟨u,1,none⟩ = some (.slice none 0 0) := ZC t 1 rfl;have bc : ay.cell? ⟨u,2,none⟩ = some (.int .i64 0) := ZC t 2 rfl;have bd := Ea t.out 0;have bf := Ea t.out 1;have bg := Ea t.out 2;have bh : ay.cell? ⟨j,0,none⟩ = some (.string ((rd_T41 l0 i).f0)) := ZC d 0 rfl;have bi : ay.cell? ⟨j,1,none⟩ = some (.slice n ((rd_T41 l0 i).f1).length p) := ZC d 1 rfl;have bj : ay.cell? ⟨j,2,none⟩ = some (.int .i64 ((rd_T41 l0 i).f2)) := ZC d 2 rfl;have bk := Ea d.out 0;have bl := Ea d.out 1;have bm := Ea d.out 2))
        go_ret;exact ⟨YR,ZQ HB⟩
       rw [if_neg au] at H;have aE : (((rd_T41 J s).f0).toList == ((rd_T41 l0 i).f0).toList) = false := beq_eq_false_iff_ne.mpr au;have aF : (((rd_T41 J s).f0).toList != ((rd_T41 l0 i).f0).toList) = true := bne_iff_ne.mpr au;have H' := ZA H;clear H;have U : 0 <= (s : Int) := ZD;have V : s < (J.length : Int) := ZD;obtain ⟨ag,av,aw,ax,z,D,E,G,I⟩ := at_T41 am.out s U V;obtain rfl : X = ag := (by injection ax);replace z := ZX HB z;replace D := ZX HB D;replace E := ZX HB E;have ah := ZA I;have ai := ZA G;clear I G;replace U := eq_true U;replace V := eq_true V
       go_wp2_with (first|((with_reducible refine Eaf (N := 6) rfl ?_);(try (refine Ean (by rfl) ?_;dsimp only));refine ZE 6 #[.string (⟨#[]⟩ : ByteArray),.slice none 0 0,.int .i64 0] 41 ?_;intro u hg az hbox hb;have t := ZA (hbox);have aG := YQ hg HB;have aH := YQ hg HB;replace HB := BS HB hb;have q := ZA ((by rw [hg];exact Nat.ne_of_lt (Eau (g := j) (o := .cells #[.string ((rd_T41 l0 i).f0),.slice n ((rd_T41 l0 i).f1).length p,.int .i64 ((rd_T41 l0 i).f2)] 41 (0,0)) (ZH d)) : j ≠ u));have M := ZA ((by rw [hg];exact Nat.ne_of_gt (Eau (g := j) (o := .cells #[.string ((rd_T41 l0 i).f0),.slice n ((rd_T41 l0 i).f1).length p,.int .i64 ((rd_T41 l0 i).f2)] 41 (0,0)) (ZH d)) : u ≠ j));replace d := ZA (Eaa (ZH d) hb);clear hb hbox hg;have b4 := M.out;have b5 := q.out;have bn : az.cell? ⟨u,0,none⟩ = some (.string (⟨#[]⟩ : ByteArray)) := ZC t 0 rfl;have bo : az.cell? ⟨u,1,none⟩ = some (.slice none 0 0) := ZC t 1 rfl;have bp : az.cell? ⟨u,2,none⟩ = some (.int .i64 0) := ZC t 2 rfl;have bq := Ea t.out 0;have br := Ea t.out 1;have bs := Ea t.out 2;have bt : az.cell? ⟨j,0,none⟩ = some (.string ((rd_T41 l0 i).f0)) := ZC d 0 rfl;have bu : az.cell? ⟨j,1,none⟩ = some (.slice n ((rd_T41 l0 i).f1).length p) := ZC d 1 rfl;have bv : az.cell? ⟨j,2,none⟩ = some (.int .i64 ((rd_T41 l0 i).f2)) := ZC d 2 rfl;have bw := Ea d.out 0;have bx := Ea d.out 1;have bz := Ea d.out 2))
       go_roundg k3
       case measure => have := aj.out;have := a7.out;have := a9.out;omega
       case rel => exact ⟨(wrap64 (s + 1)),ZG,H',⟨by have := aj.out;have := a7.out;have := a9.out;omega⟩,⟨by refine ZY ?_;refine Eas ?_ q.out _;refine ZY ?_;refine Eas ?_ q.out _;refine ZY ?_;refine Eas ?_ q.out _;refine ZY ?_;exact d.out⟩,⟨ZQ HB⟩⟩
def FP.l0 : Nat -> List Int -> List Int -> Int -> Int -> Option (Bool)
 | 0,_,_,_,_ => none
 | k + 1,x1,g,j,d => if d < j then (if 0 <= d then (if d < (g.length : Int) then ((Fp.f k x1 (rd g d)).bind fun i => (if i = true then (FP.l0 k x1 g j (wrap64 (d + 1))) else (some false))) else (none)) else (none)) else (some true)
def FP.f (k : Nat) (l0 : List (S41)) (l1 : List Int) (a2 : Int) : Option (Bool) := if 0 <= a2 then (if a2 < (l0.length : Int) then (FP.l0 k l1 ((rd_T41 l0 a2).f1) (((rd_T41 l0 a2).f1).length : Int) 0) else (none)) else (none)
theorem FP.calls (k : Nat) (A0 : Option Addr) (c0 : Nat) (l0 : List (S41)) (A1 : Option Addr) (c1 : Nat) (l1 : List Int) (a2 : Int) (r : Bool) (w : World) (y : Kd.C k41 w A0 l0.length l0) (z : l0.length <= c0) (D : Kd.C (Kd.int .i64) w A1 l1.length l1) (E : l1.length <= c1) (h : FP.f k l0 l1 a2 = some r) :
  Calls Tryz.prog 150 #[.slice A0 l0.length c0,.slice A1 l1.length c1,.int .i64 a2] w fun e w' => e = .returned (.bool r) ∧ Drawn0 w w' := by
 have M := ZA y;have am := ZA z;clear y z;have G := ZA D;have I := ZA E;clear D E;have H := h;clear h;unfold FP.f at H;replace H := YN H;obtain ⟨ah,H⟩ := H;replace H := YN H;obtain ⟨ai,H⟩ := H;have H' := ZA H;clear H;have p : 0 <= (a2 : Int) := ZD;have q : a2 < (l0.length : Int) := ZD;obtain ⟨ag,ae,af,u,aa,ab,ac,j,m⟩ := at_T41 M.out a2 p q;cases u;have n := ZA m;have ad := ZA j;clear m j;replace p := eq_true p;replace q := eq_true q;go_enter Tryz.func150,Tryz.ntmps150;go_wp2
 go_loopg [15] k (fun kq U w' => ∃ (d : Int),U = .int .i64 d ∧ Aside0 (FP.l0 kq l1 ((rd_T41 l0 a2).f1) (((rd_T41 l0 a2).f1).length : Int) d = some r) ∧ Aside0 (kq <= k) ∧ Drawn0 w w')
 case atStart => exact ⟨(0),ZG,H',⟨Nat.le_refl _⟩,by repeat (first|exact Drawn0.refl _|apply Drawn0.step)⟩
 case round =>
  clear H';obtain ⟨d,rfl,HA,J,⟨m1,rfl⟩⟩ := hrel;cases gk with
  | zero => exact absurd HA.out (by simp [FP.l0])
  | succ k1 =>
   have H := HA.out;clear HA;simp only [FP.l0] at H;replace H := YI H;rcases H with ⟨v,H⟩|⟨v,H⟩;rotate_left
   ·obtain rfl := Option.some.inj H;go_wp2;go_ret;exact ⟨by first|rfl|(simp;done)|(simp [*];done),by repeat (first|exact Drawn0.refl _|apply Drawn0.step)⟩
   replace H := YN H;obtain ⟨aj,H⟩ := H;replace H := YN H;obtain ⟨ak,H⟩ := H;replace H := YJ H;obtain ⟨al,A9,H⟩ := H;replace H := YF H;rcases H with ⟨rfl,H⟩|⟨rfl,H⟩;rotate_left
   ·obtain rfl := Option.some.inj H;have g : 0 <= (d : Int) := ZD;have i : d < (((rd_T41 l0 a2).f1).length : Int) := ZD;obtain ⟨t,s,o⟩ := Kd.Eav n.out d g i;cases s;replace g := eq_true g;replace i := eq_true i
    go_wp2_with (first|((with_reducible refine YG 72 ?_);refine YC (some 21) Tryz.func72 #[.slice A1 l1.length c1,.int .i64 (rd ((rd_T41 l0 a2).f1) d)] (Fp.calls k1 _ _ l1 (rd ((rd_T41 l0 a2).f1) d) false _ (ZR G.out) I.out A9.out) ?_;rintro e w' ⟨rfl,⟨nd,rfl⟩⟩;refine ⟨_,rfl,?_⟩))
    go_ret;exact ⟨by first|rfl|(simp;done)|(simp [*];done),by repeat (first|exact Drawn0.refl _|apply Drawn0.step)⟩
   have H' := ZA H;clear H;have g : 0 <= (d : Int) := ZD;have i : d < (((rd_T41 l0 a2).f1).length : Int) := ZD;obtain ⟨t,s,o⟩ := Kd.Eav n.out d g i;cases s;replace g := eq_true g;replace i := eq_true i
   go_wp2_with (first|((with_reducible refine YG 72 ?_);refine YC (some 21) Tryz.func72 #[.slice A1 l1.length c1,.int .i64 (rd ((rd_T41 l0 a2).f1) d)] (Fp.calls k1 _ _ l1 (rd ((rd_T41 l0 a2).f1) d) true _ (ZR G.out) I.out A9.out) ?_;rintro e w' ⟨rfl,⟨nd,rfl⟩⟩;refine ⟨_,rfl,?_⟩))
   go_roundg k1
   case measure => have := J.out;omega
   case rel => exact ⟨(wrap64 (d + 1)),ZG,H',⟨by have := J.out;omega⟩,by repeat (first|exact Drawn0.refl _|apply Drawn0.step)⟩
end Go.Proofs.YtgnijnlgbelifaaGreat.Q
