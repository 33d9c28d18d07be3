-- Written for the seat Ytgnijnlgbelifaa by a program of this session (wip/tool/gx.py) out of the translation. Lean checks it.
import Derived.Test.YtgnijnlgbelifaaQ0
import Derived.Test.YtgnijnlgbelifaaGCall
import Derived.Test.YtgnijnlgbelifaaWApart
import Derived.Test.YtgnijnlgbelifaaWFoot
import Derived.Test.YtgnijnlgbelifaaWKept
import Derived.Test.YtgnijnlgbelifaaWShare
import Derived.Test.YtgnijnlgbelifaaWN
import Derived.Test.YtgnijnlgbelifaaWRepsOne
import Derived.Test.YtgnijnlgbelifaaWGuard
namespace Go.Proofs.Ytgnijnlgbelifaa.Q
open Go.RowKit Go.Proofs.YtgnijnlgbelifaaW.PrintWords Go.Proofs.YtgnijnlgbelifaaW.PrintLast Go.Proofs.YtgnijnlgbelifaaW.PrintMore Go.Proofs.YtgnijnlgbelifaaW.GCall
attribute [local go_sem] max2_int min2_int max_two min_two max_three min_three max_four min_four   -- for this text's walks alone
set_option linter.unusedVariables false
set_option linter.unusedSimpArgs false

/-! ### spec_l1In: function 30 -/
def spec_l1In.f (a0 : Int) (a1 : Int) (a2 : Int) : Option (Bool) := if a0 ≥ a1 then (some (decide (a0 ≤ a2))) else (some false)
set_option maxHeartbeats 3000000 in
set_option maxRecDepth 100000 in
theorem spec_l1In.calls (a0 : Int) (a1 : Int) (a2 : Int) (r : Bool) (w : World) (h : spec_l1In.f a0 a1 a2 = some r) :
  Calls Try.prog 30 #[.int .i64 a0,.int .i64 a1,.int .i64 a2] w fun e w' => e = .returned (.bool r) ∧ Drawn0 w w' := by
 have H : (if a0 ≥ a1 then (some (decide (a0 ≤ a2))) else (some false)) = some r := h
 clear h
 by_cases c4 : a0 ≥ a1
 ·rw [if_pos c4] at H
  have c4b0 : decide (a1 ≤ a0) = true := decide_eq_true c4
  clear c4
  obtain rfl := Option.some.inj H
  go_enter Try.func30,Try.ntmps30
  go_wp2
  go_ret
  exact ⟨by first|rfl|(simp;done)|(simp [*];done),by repeat (first|exact Drawn0.refl _|apply Drawn0.step)⟩
 rw [if_neg c4] at H
 have c4b0 : decide (a1 ≤ a0) = false := decide_eq_false c4
 clear c4
 obtain rfl := Option.some.inj H
 go_enter Try.func30,Try.ntmps30
 go_wp2
 go_ret
 exact ⟨by first|rfl|(simp;done)|(simp [*];done),by repeat (first|exact Drawn0.refl _|apply Drawn0.step)⟩

/-! ### spec_enGloss: function 53 -/
def spec_enGloss.l0 : Nat → ByteArray → Int → Option (Bool)
 | 0,_,_ => none
 | k + 1,x0,x3 => if x3 < (x0.size : Int) then (if 0 ≤ x3 then (if (bt x0 x3) < 65 then (some false) else (if (bt x0 x3) > 90 then (some false) else (spec_enGloss.l0 k x0 (wrap64 (x3 + 1))))) else (none)) else ((spec_l1In.f (x0.size : Int) 1 8).bind fun t101 => (some t101))
def spec_enGloss.f (k : Nat) (a0 : ByteArray) : Option (Bool) := spec_enGloss.l0 k a0 0
theorem spec_enGloss.mono_l : ∀ k,(∀ y0 y1,LeO (spec_enGloss.l0 k y0 y1) (spec_enGloss.l0 (k + 1) y0 y1))
 | 0 => fun _ _ r h => by simp [spec_enGloss.l0] at h
 | k + 1 => by
  have ih0 := spec_enGloss.mono_l k
  intro y0 y1
  unfold spec_enGloss.l0
  with_reducible repeat' first|apply ih0|apply LeO.refl|apply LeO.none|refine LeO.ite ?_ ?_|refine LeO.bind ?_ (fun _ => ?_)
theorem spec_enGloss.mono : ∀ a0 k,LeO (spec_enGloss.f k a0) (spec_enGloss.f (k + 1) a0) := by
 intro a0 k
 have ih0 := spec_enGloss.mono_l k
 unfold spec_enGloss.f
 with_reducible repeat' first|apply ih0|apply LeO.refl|apply LeO.none|refine LeO.ite ?_ ?_|refine LeO.bind ?_ (fun _ => ?_)
set_option maxHeartbeats 3000000 in
set_option maxRecDepth 100000 in
theorem spec_enGloss.calls (k : Nat) (a0 : ByteArray) (r : Bool) (w : World) (h : spec_enGloss.f k a0 = some r) :
  Calls Try.prog 53 #[.string a0] w fun e w' => e = .returned (.bool r) ∧ Drawn0 w w' := by
 have H : (spec_enGloss.l0 k a0 0) = some r := h
 clear h
 have H' := Aside0.mk H
 clear H
 go_enter Try.func53,Try.ntmps53
 go_wp2
 go_loopg [3] k (fun kq v3 w' => ∃ (x3_1 : Int),v3 = .int .i64 x3_1 ∧ Aside0 (spec_enGloss.l0 kq a0 x3_1 = some r) ∧ Aside0 (kq ≤ k) ∧ Drawn0 w w')
 case atStart => exact ⟨(0),(by first|rfl|(simp;done)|(simp [*];done)),H',⟨Nat.le_refl _⟩,by repeat (first|exact Drawn0.refl _|apply Drawn0.step)⟩
 case round =>
  clear H'
  obtain ⟨x3_1,rfl,HA,HK1,⟨m1,rfl⟩⟩ := hrel
  cases gk with
  | zero => exact absurd HA.out (by simp [spec_enGloss.l0])
  | succ k1 =>
   have H := HA.out
   clear HA
   simp only [spec_enGloss.l0] at H
   by_cases c2 : x3_1 < (a0.size : Int);rotate_left
   ·rw [if_neg c2] at H
    have c2b0 : decide (x3_1 < (a0.size : Int)) = false := decide_eq_false c2
    clear c2
    replace H := Option.bind_eq_some_iff.mp H
    obtain ⟨t101,A80,H⟩ := H
    try dsimp only at H
    have A8 := Aside0.mk A80
    clear A80
    obtain rfl := Option.some.inj H
    go_wp2_with (first|((with_reducible refine gate_callee (f := 30) rfl ?_);refine goesM_ (some 22) Try.func30 #[.int .i64 (a0.size : Int),.int .i64 1,.int .i64 8] ?_;(with_reducible refine (spec_l1In.calls (a0.size : Int) 1 8 t101 _ A8.out).mono ?_);rintro e w' ⟨rfl,⟨nd,rfl⟩⟩;refine ⟨_,rfl,?_⟩))
    go_ret
    exact ⟨by first|rfl|(simp;done)|(simp [*];done),by repeat (first|exact Drawn0.refl _|apply Drawn0.step)⟩

   rw [if_pos c2] at H
   have c2b0 : decide (x3_1 < (a0.size : Int)) = true := decide_eq_true c2
   clear c2
   by_cases c3 : 0 ≤ x3_1;rotate_left
   ·rw [if_neg c3] at H
    exact absurd H (by simp)
   rw [if_pos c3] at H
   have c3b0 : decide (0 ≤ x3_1) = true := decide_eq_true c3
   clear c3
   by_cases c5 : (bt a0 x3_1) < 65
   ·rw [if_pos c5] at H
    have c5b0 := decide_eq_true c5
    clear c5
    obtain rfl := Option.some.inj H
    have p4 : 0 ≤ (x3_1 : Int) := ZD
    have q4 : x3_1 < (a0.size : Int) := ZD
    have hx4 := bt_at a0 x3_1
    replace p4 := eq_true p4
    replace q4 := eq_true q4
    go_wp2
    go_ret
    exact ⟨by first|rfl|(simp;done)|(simp [*];done),by repeat (first|exact Drawn0.refl _|apply Drawn0.step)⟩
   rw [if_neg c5] at H
   have c5b0 := decide_eq_false c5
   clear c5
   by_cases c7 : (bt a0 x3_1) > 90
   ·rw [if_pos c7] at H
    have c7b0 : decide (90 < (bt a0 x3_1)) = true := decide_eq_true c7
    clear c7
    obtain rfl := Option.some.inj H
    have p4 : 0 ≤ (x3_1 : Int) := ZD
    have q4 : x3_1 < (a0.size : Int) := ZD
    have hx4 := bt_at a0 x3_1
    replace p4 := eq_true p4
    replace q4 := eq_true q4
    have p6 : 0 ≤ (x3_1 : Int) := ZD
    have q6 : x3_1 < (a0.size : Int) := ZD
    have hx6 := bt_at a0 x3_1
    replace p6 := eq_true p6
    replace q6 := eq_true q6
    go_wp2
    go_ret
    exact ⟨by first|rfl|(simp;done)|(simp [*];done),by repeat (first|exact Drawn0.refl _|apply Drawn0.step)⟩
   rw [if_neg c7] at H
   have c7b0 : decide (90 < (bt a0 x3_1)) = false := decide_eq_false c7
   clear c7
   have H' := Aside0.mk H
   clear H
   have p4 : 0 ≤ (x3_1 : Int) := ZD
   have q4 : x3_1 < (a0.size : Int) := ZD
   have hx4 := bt_at a0 x3_1
   replace p4 := eq_true p4
   replace q4 := eq_true q4
   have p6 : 0 ≤ (x3_1 : Int) := ZD
   have q6 : x3_1 < (a0.size : Int) := ZD
   have hx6 := bt_at a0 x3_1
   replace p6 := eq_true p6
   replace q6 := eq_true q6
   go_wp2
   go_roundg k1
   case measure => have := HK1.out;omega
   case rel => exact ⟨(wrap64 (x3_1 + 1)),(by first|rfl|(simp;done)|(simp [*];done)),H',⟨by have := HK1.out;omega⟩,by repeat (first|exact Drawn0.refl _|apply Drawn0.step)⟩
/-! ### spec_l1Rising: function 54 -/
def spec_l1Rising.l0 : Nat → List Int → Int → Int → List Int → Int → Int → Option (Bool)
 | 0,_,_,_,_,_,_ => none
 | k + 1,x0,x1,x2,x9,x10,x11 => if x11 < x10 then (if 0 ≤ x11 then (if x11 < (x9.length : Int) then ((spec_l1In.f (rd x9 x11) x1 x2).bind fun t102 => (if t102 = true then (if x11 > 0 then (if 0 ≤ (wrap64 (x11 - 1)) then (if (wrap64 (x11 - 1)) < (x0.length : Int) then (if (rd x0 (wrap64 (x11 - 1))) ≥ (rd x9 x11) then (some false) else (spec_l1Rising.l0 k x0 x1 x2 x9 x10 (wrap64 (x11 + 1)))) else (none)) else (none)) else (spec_l1Rising.l0 k x0 x1 x2 x9 x10 (wrap64 (x11 + 1)))) else (some false))) else (none)) else (none)) else (some true)
def spec_l1Rising.f (k : Nat) (l0 : List Int) (a1 : Int) (a2 : Int) : Option (Bool) := spec_l1Rising.l0 k l0 a1 a2 l0 (l0.length : Int) 0
theorem spec_l1Rising.mono_l : ∀ k,(∀ y0 y1 y2 y3 y4 y5,LeO (spec_l1Rising.l0 k y0 y1 y2 y3 y4 y5) (spec_l1Rising.l0 (k + 1) y0 y1 y2 y3 y4 y5))
 | 0 => fun _ _ _ _ _ _ r h => by simp [spec_l1Rising.l0] at h
 | k + 1 => by
  have ih0 := spec_l1Rising.mono_l k
  intro y0 y1 y2 y3 y4 y5
  unfold spec_l1Rising.l0
  with_reducible repeat' first|apply ih0|apply LeO.refl|apply LeO.none|refine LeO.ite ?_ ?_|refine LeO.bind ?_ (fun _ => ?_)
theorem spec_l1Rising.mono : ∀ a0 a1 a2 k,LeO (spec_l1Rising.f k a0 a1 a2) (spec_l1Rising.f (k + 1) a0 a1 a2) := by
 intro a0 a1 a2 k
 have ih0 := spec_l1Rising.mono_l k
 unfold spec_l1Rising.f
 with_reducible repeat' first|apply ih0|apply LeO.refl|apply LeO.none|refine LeO.ite ?_ ?_|refine LeO.bind ?_ (fun _ => ?_)
set_option maxHeartbeats 3000000 in
set_option maxRecDepth 100000 in
theorem spec_l1Rising.calls (k : Nat) (A0 : Option Addr) (c0 : Nat) (l0 : List Int) (a1 : Int) (a2 : Int) (r : Bool) (w : World) (hr0 : Kd.C (Kd.int .i64) w A0 l0.length l0) (hc0 : l0.length ≤ c0) (h : spec_l1Rising.f k l0 a1 a2 = some r) :
  Calls Try.prog 54 #[.slice A0 l0.length c0,.int .i64 a1,.int .i64 a2] w fun e w' => e = .returned (.bool r) ∧ Drawn0 w w' := by
 have HR0 := Aside0.mk hr0
 have HC0 := Aside0.mk hc0
 clear hr0 hc0
 have H : (spec_l1Rising.l0 k l0 a1 a2 l0 (l0.length : Int) 0) = some r := h
 clear h
 have H' := Aside0.mk H
 clear H
 go_enter Try.func54,Try.ntmps54
 go_wp2
 go_loopg [11] k (fun kq v11 w' => ∃ (x11_1 : Int),v11 = .int .i64 x11_1 ∧ Aside0 (spec_l1Rising.l0 kq l0 a1 a2 l0 (l0.length : Int) x11_1 = some r) ∧ Aside0 (kq ≤ k) ∧ Drawn0 w w')
 case atStart => exact ⟨(0),(by first|rfl|(simp;done)|(simp [*];done)),H',⟨Nat.le_refl _⟩,by repeat (first|exact Drawn0.refl _|apply Drawn0.step)⟩
 case round =>
  clear H'
  obtain ⟨x11_1,rfl,HA,HK1,⟨m1,rfl⟩⟩ := hrel
  cases gk with
  | zero => exact absurd HA.out (by simp [spec_l1Rising.l0])
  | succ k1 =>
   have H := HA.out
   clear HA
   simp only [spec_l1Rising.l0] at H
   by_cases c4 : x11_1 < (l0.length : Int);rotate_left
   ·rw [if_neg c4] at H
    have c4b0 : decide (x11_1 < (l0.length : Int)) = false := decide_eq_false c4
    clear c4
    obtain rfl := Option.some.inj H
    go_wp2
    go_ret
    exact ⟨by first|rfl|(simp;done)|(simp [*];done),by repeat (first|exact Drawn0.refl _|apply Drawn0.step)⟩

   rw [if_pos c4] at H
   have c4b0 : decide (x11_1 < (l0.length : Int)) = true := decide_eq_true c4
   clear c4
   by_cases c5 : 0 ≤ x11_1;rotate_left
   ·rw [if_neg c5] at H
    exact absurd H (by simp)
   rw [if_pos c5] at H
   have c5b0 : decide (0 ≤ x11_1) = true := decide_eq_true c5
   clear c5
   by_cases c6 : x11_1 < (l0.length : Int);rotate_left
   ·rw [if_neg c6] at H
    exact absurd H (by simp)
   rw [if_pos c6] at H
   have c6b0 : decide (x11_1 < (l0.length : Int)) = true := decide_eq_true c6
   clear c6
   replace H := Option.bind_eq_some_iff.mp H
   obtain ⟨t102,A70,H⟩ := H
   try dsimp only at H
   have A7 := Aside0.mk A70
   clear A70
   by_cases c8 : t102 = true;rotate_left
   ·replace c8 := Bool.eq_false_iff.mpr c8
    subst c8
    rw [if_neg (show ¬ (false = true) by decide)] at H
    obtain rfl := Option.some.inj H
    have p101 : 0 ≤ (x11_1 : Int) := ZD
    have q101 : x11_1 < (l0.length : Int) := ZD
    obtain ⟨ad101,e101,hx101_0⟩ := Kd.at_int HR0.out x11_1 p101 q101
    cases e101
    replace p101 := eq_true p101
    replace q101 := eq_true q101
    go_wp2_with (first|((with_reducible refine gate_callee (f := 30) rfl ?_);refine goesM_ (some 19) Try.func30 #[.int .i64 (rd l0 x11_1),.int .i64 a1,.int .i64 a2] ?_;(with_reducible refine (spec_l1In.calls (rd l0 x11_1) a1 a2 false _ A7.out).mono ?_);rintro e w' ⟨rfl,⟨nd,rfl⟩⟩;refine ⟨_,rfl,?_⟩))
    go_ret
    exact ⟨by first|rfl|(simp;done)|(simp [*];done),by repeat (first|exact Drawn0.refl _|apply Drawn0.step)⟩
   subst c8
   rw [if_pos rfl] at H
   by_cases c9 : x11_1 > 0;rotate_left
   ·rw [if_neg c9] at H
    have c9b0 : decide (0 < x11_1) = false := decide_eq_false c9
    clear c9
    have H' := Aside0.mk H
    clear H
    have p101 : 0 ≤ (x11_1 : Int) := ZD
    have q101 : x11_1 < (l0.length : Int) := ZD
    obtain ⟨ad101,e101,hx101_0⟩ := Kd.at_int HR0.out x11_1 p101 q101
    cases e101
    replace p101 := eq_true p101
    replace q101 := eq_true q101
    go_wp2_with (first|((with_reducible refine gate_callee (f := 30) rfl ?_);refine goesM_ (some 19) Try.func30 #[.int .i64 (rd l0 x11_1),.int .i64 a1,.int .i64 a2] ?_;(with_reducible refine (spec_l1In.calls (rd l0 x11_1) a1 a2 true _ A7.out).mono ?_);rintro e w' ⟨rfl,⟨nd,rfl⟩⟩;refine ⟨_,rfl,?_⟩))
    go_roundg k1
    case measure => have := HK1.out;omega
    case rel => exact ⟨(wrap64 (x11_1 + 1)),(by first|rfl|(simp;done)|(simp [*];done)),H',⟨by have := HK1.out;omega⟩,by repeat (first|exact Drawn0.refl _|apply Drawn0.step)⟩
   rw [if_pos c9] at H
   have c9b0 : decide (0 < x11_1) = true := decide_eq_true c9
   clear c9
   obtain ⟨ji10,hji10⟩ : ∃ j_ : Int,(wrap64 (x11_1 - 1)) = j_ := ⟨_,rfl⟩
   replace H : (if 0 ≤ (ji10) then (if (ji10) < (l0.length : Int) then (if (rd l0 (ji10)) ≥ (rd l0 x11_1) then (some false) else (spec_l1Rising.l0 k1 l0 a1 a2 l0 (l0.length : Int) (wrap64 (x11_1 + 1)))) else (none)) else (none)) = some r := by first|(rw [hji10] at H;exact H)|(simp only [hji10] at H ⊢;exact H)
   (try rw [hji10] at A7)
   have hji10w : (IntKind.i64.wrap (x11_1 - 1)) = ji10 := (i64_w _).trans hji10
   by_cases c11 : 0 ≤ (ji10);rotate_left
   ·rw [if_neg c11] at H
    exact absurd H (by simp)
   rw [if_pos c11] at H
   have c11b0 : decide (0 ≤ (ji10)) = true := decide_eq_true c11
   clear c11
   by_cases c12 : (ji10) < (l0.length : Int);rotate_left
   ·rw [if_neg c12] at H
    exact absurd H (by simp)
   rw [if_pos c12] at H
   have c12b0 : decide ((ji10) < (l0.length : Int)) = true := decide_eq_true c12
   clear c12
   by_cases c13 : (rd l0 (ji10)) ≥ (rd l0 x11_1)
   ·rw [if_pos c13] at H
    have c13b0 : decide ((rd l0 x11_1) ≤ (rd l0 (ji10))) = true := decide_eq_true c13
    clear c13
    obtain rfl := Option.some.inj H
    have p101 : 0 ≤ (x11_1 : Int) := ZD
    have q101 : x11_1 < (l0.length : Int) := ZD
    obtain ⟨ad101,e101,hx101_0⟩ := Kd.at_int HR0.out x11_1 p101 q101
    cases e101
    replace p101 := eq_true p101
    replace q101 := eq_true q101
    go_wp2_with (first|((with_reducible refine gate_callee (f := 30) rfl ?_);refine goesM_ (some 19) Try.func30 #[.int .i64 (rd l0 x11_1),.int .i64 a1,.int .i64 a2] ?_;(with_reducible refine (spec_l1In.calls (rd l0 x11_1) a1 a2 true _ A7.out).mono ?_);rintro e w' ⟨rfl,⟨nd,rfl⟩⟩;refine ⟨_,rfl,?_⟩;have p103 : 0 ≤ ((ji10) : Int) := ZD;have q103 : (ji10) < (l0.length : Int) := ZD;obtain ⟨ad103,e103,hx103_0⟩ := Kd.at_int HR0.out (ji10) p103 q103;obtain rfl : ad101 = ad103 := (by injection e103);replace p103 := eq_true p103;replace q103 := eq_true q103))
    go_ret
    exact ⟨by first|rfl|(simp;done)|(simp only [← hji10] <;> (first|rfl|simp))|(simp [*];done),by repeat (first|exact Drawn0.refl _|apply Drawn0.step)⟩
   rw [if_neg c13] at H
   have c13b0 : decide ((rd l0 x11_1) ≤ (rd l0 (ji10))) = false := decide_eq_false c13
   clear c13
   have H' := Aside0.mk H
   clear H
   have p101 : 0 ≤ (x11_1 : Int) := ZD
   have q101 : x11_1 < (l0.length : Int) := ZD
   obtain ⟨ad101,e101,hx101_0⟩ := Kd.at_int HR0.out x11_1 p101 q101
   cases e101
   replace p101 := eq_true p101
   replace q101 := eq_true q101
   go_wp2_with (first|((with_reducible refine gate_callee (f := 30) rfl ?_);refine goesM_ (some 19) Try.func30 #[.int .i64 (rd l0 x11_1),.int .i64 a1,.int .i64 a2] ?_;(with_reducible refine (spec_l1In.calls (rd l0 x11_1) a1 a2 true _ A7.out).mono ?_);rintro e w' ⟨rfl,⟨nd,rfl⟩⟩;refine ⟨_,rfl,?_⟩;have p103 : 0 ≤ ((ji10) : Int) := ZD;have q103 : (ji10) < (l0.length : Int) := ZD;obtain ⟨ad103,e103,hx103_0⟩ := Kd.at_int HR0.out (ji10) p103 q103;obtain rfl : ad101 = ad103 := (by injection e103);replace p103 := eq_true p103;replace q103 := eq_true q103))
   go_roundg k1
   case measure => have := HK1.out;omega
   case rel => exact ⟨(wrap64 (x11_1 + 1)),(by first|rfl|(simp;done)|(simp [*];done)),H',⟨by have := HK1.out;omega⟩,by repeat (first|exact Drawn0.refl _|apply Drawn0.step)⟩
/-! ### spec_l1Has: function 55 -/
def spec_l1Has.l0 : Nat → Int → List Int → Int → Int → Option (Bool)
 | 0,_,_,_,_ => none
 | k + 1,x1,x7,x8,x9 => if x9 < x8 then (if 0 ≤ x9 then (if x9 < (x7.length : Int) then (if (rd x7 x9) = x1 then (some true) else (spec_l1Has.l0 k x1 x7 x8 (wrap64 (x9 + 1)))) else (none)) else (none)) else (some false)
def spec_l1Has.f (k : Nat) (l0 : List Int) (a1 : Int) : Option (Bool) := spec_l1Has.l0 k a1 l0 (l0.length : Int) 0
theorem spec_l1Has.mono_l : ∀ k,(∀ y0 y1 y2 y3,LeO (spec_l1Has.l0 k y0 y1 y2 y3) (spec_l1Has.l0 (k + 1) y0 y1 y2 y3))
 | 0 => fun _ _ _ _ r h => by simp [spec_l1Has.l0] at h
 | k + 1 => by
  have ih0 := spec_l1Has.mono_l k
  intro y0 y1 y2 y3
  unfold spec_l1Has.l0
  with_reducible repeat' first|apply ih0|apply LeO.refl|apply LeO.none|refine LeO.ite ?_ ?_|refine LeO.bind ?_ (fun _ => ?_)
theorem spec_l1Has.mono : ∀ a0 a1 k,LeO (spec_l1Has.f k a0 a1) (spec_l1Has.f (k + 1) a0 a1) := by
 intro a0 a1 k
 have ih0 := spec_l1Has.mono_l k
 unfold spec_l1Has.f
 with_reducible repeat' first|apply ih0|apply LeO.refl|apply LeO.none|refine LeO.ite ?_ ?_|refine LeO.bind ?_ (fun _ => ?_)
set_option maxHeartbeats 3000000 in
set_option maxRecDepth 100000 in
theorem spec_l1Has.calls (k : Nat) (A0 : Option Addr) (c0 : Nat) (l0 : List Int) (a1 : Int) (r : Bool) (w : World) (hr0 : Kd.C (Kd.int .i64) w A0 l0.length l0) (hc0 : l0.length ≤ c0) (h : spec_l1Has.f k l0 a1 = some r) :
  Calls Try.prog 55 #[.slice A0 l0.length c0,.int .i64 a1] w fun e w' => e = .returned (.bool r) ∧ Drawn0 w w' := by
 have HR0 := Aside0.mk hr0
 have HC0 := Aside0.mk hc0
 clear hr0 hc0
 have H : (spec_l1Has.l0 k a1 l0 (l0.length : Int) 0) = some r := h
 clear h
 have H' := Aside0.mk H
 clear H
 go_enter Try.func55,Try.ntmps55
 go_wp2
 go_loopg [9] k (fun kq v9 w' => ∃ (x9_1 : Int),v9 = .int .i64 x9_1 ∧ Aside0 (spec_l1Has.l0 kq a1 l0 (l0.length : Int) x9_1 = some r) ∧ Aside0 (kq ≤ k) ∧ Drawn0 w w')
 case atStart => exact ⟨(0),(by first|rfl|(simp;done)|(simp [*];done)),H',⟨Nat.le_refl _⟩,by repeat (first|exact Drawn0.refl _|apply Drawn0.step)⟩
 case round =>
  clear H'
  obtain ⟨x9_1,rfl,HA,HK1,⟨m1,rfl⟩⟩ := hrel
  cases gk with
  | zero => exact absurd HA.out (by simp [spec_l1Has.l0])
  | succ k1 =>
   have H := HA.out
   clear HA
   simp only [spec_l1Has.l0] at H
   by_cases c3 : x9_1 < (l0.length : Int);rotate_left
   ·rw [if_neg c3] at H
    have c3b0 : decide (x9_1 < (l0.length : Int)) = false := decide_eq_false c3
    clear c3
    obtain rfl := Option.some.inj H
    go_wp2
    go_ret
    exact ⟨by first|rfl|(simp;done)|(simp [*];done),by repeat (first|exact Drawn0.refl _|apply Drawn0.step)⟩

   rw [if_pos c3] at H
   have c3b0 : decide (x9_1 < (l0.length : Int)) = true := decide_eq_true c3
   clear c3
   by_cases c4 : 0 ≤ x9_1;rotate_left
   ·rw [if_neg c4] at H
    exact absurd H (by simp)
   rw [if_pos c4] at H
   have c4b0 : decide (0 ≤ x9_1) = true := decide_eq_true c4
   clear c4
   by_cases c5 : x9_1 < (l0.length : Int);rotate_left
   ·rw [if_neg c5] at H
    exact absurd H (by simp)
   rw [if_pos c5] at H
   have c5b0 : decide (x9_1 < (l0.length : Int)) = true := decide_eq_true c5
   clear c5
   by_cases c6 : (rd l0 x9_1) = a1
   ·rw [if_pos c6] at H
    have c6b0 : ((rd l0 x9_1) == a1) = true := beq_iff_eq.mpr c6
    have c6b1 : ((rd l0 x9_1) != a1) = false := bne_eq_false_iff_eq.mpr c6
    clear c6
    obtain rfl := Option.some.inj H
    have p101 : 0 ≤ (x9_1 : Int) := ZD
    have q101 : x9_1 < (l0.length : Int) := ZD
    obtain ⟨ad101,e101,hx101_0⟩ := Kd.at_int HR0.out x9_1 p101 q101
    cases e101
    replace p101 := eq_true p101
    replace q101 := eq_true q101
    go_wp2
    go_ret
    exact ⟨by first|rfl|(simp;done)|(simp [*];done),by repeat (first|exact Drawn0.refl _|apply Drawn0.step)⟩
   rw [if_neg c6] at H
   have c6b0 : ((rd l0 x9_1) == a1) = false := beq_eq_false_iff_ne.mpr c6
   have c6b1 : ((rd l0 x9_1) != a1) = true := bne_iff_ne.mpr c6
   have H' := Aside0.mk H
   clear H
   have p101 : 0 ≤ (x9_1 : Int) := ZD
   have q101 : x9_1 < (l0.length : Int) := ZD
   obtain ⟨ad101,e101,hx101_0⟩ := Kd.at_int HR0.out x9_1 p101 q101
   cases e101
   replace p101 := eq_true p101
   replace q101 := eq_true q101
   go_wp2
   go_roundg k1
   case measure => have := HK1.out;omega
   case rel => exact ⟨(wrap64 (x9_1 + 1)),(by first|rfl|(simp;done)|(simp [*];done)),H',⟨by have := HK1.out;omega⟩,by repeat (first|exact Drawn0.refl _|apply Drawn0.step)⟩
/-! ### spec_leGood: function 29 -/
mutual
def spec_leGood.l0 : Nat → List (S43) → List (S43) → Int → Int → Option (Bool)
 | 0,_,_,_,_ => none
 | k + 1,x0,x7,x8,x9 => if x9 < x8 then (if 0 ≤ x9 then (if x9 < (x7.length : Int) then ((spec_enGloss.f k ((rd_T43 x7 x9).f0)).bind fun t103 => (if t103 = true then ((spec_l1Rising.f k ((rd_T43 x7 x9).f1) 0 (wrap64 ((x0.length : Int) - 1))).bind fun t104 => (if t104 = true then ((spec_l1Has.f k ((rd_T43 x7 x9).f1) x9).bind fun t105 => (if t105 = true then (spec_leGood.j1 k x0 x9 x7 x8 x9 true ((rd_T43 x7 x9).f0) ((rd_T43 x7 x9).f1) ((rd_T43 x7 x9).f2)) else ((spec_l1In.f ((rd_T43 x7 x9).f2) 0 99999).bind fun t106 => (spec_leGood.j1 k x0 x9 x7 x8 x9 (!t106) ((rd_T43 x7 x9).f0) ((rd_T43 x7 x9).f1) ((rd_T43 x7 x9).f2))))) else (spec_leGood.j1 k x0 x9 x7 x8 x9 true ((rd_T43 x7 x9).f0) ((rd_T43 x7 x9).f1) ((rd_T43 x7 x9).f2)))) else (spec_leGood.j1 k x0 x9 x7 x8 x9 true ((rd_T43 x7 x9).f0) ((rd_T43 x7 x9).f1) ((rd_T43 x7 x9).f2)))) else (none)) else (none)) else (some (decide ((x0.length : Int) ≤ 16)))
def spec_leGood.j1 : Nat → List (S43) → Int → List (S43) → Int → Int → Bool → ByteArray → List Int → Int → Option (Bool)
 | 0,_,_,_,_,_,_,_,_,_ => none
 | k + 1,x0,x3,x7,x8,x9,x38,x103000,x103001,x103002 => if x38 = true then (some false) else (if 0 ≤ x3 then (if x3 ≤ (x0.length : Int) then ((some (x0.take (x3 : Int).toNat : List (S43))).bind fun y107 => (spec_leGood.l1 k x0 x7 x8 x9 y107 (y107.length : Int) 0 x103000 x103001 x103002)) else (none)) else (none))
def spec_leGood.l1 : Nat → List (S43) → List (S43) → Int → Int → List (S43) → Int → Int → ByteArray → List Int → Int → Option (Bool)
 | 0,_,_,_,_,_,_,_,_,_,_ => none
 | k + 1,x0,x7,x8,x9,x41,x42,x43,x103000,x103001,x103002 => if x43 < x42 then (if 0 ≤ x43 then (if x43 < (x41.length : Int) then (if ((rd_T43 x41 x43).f0).toList = x103000.toList then (some false) else (spec_leGood.l1 k x0 x7 x8 x9 x41 x42 (wrap64 (x43 + 1)) x103000 x103001 x103002)) else (none)) else (none)) else (spec_leGood.l0 k x0 x7 x8 (wrap64 (x9 + 1)))
end
def spec_leGood.f (k : Nat) (l0 : List (S43)) : Option (Bool) := spec_leGood.l0 k l0 l0 (l0.length : Int) 0
theorem spec_leGood.mono_l : ∀ k,(∀ y0 y1 y2 y3,LeO (spec_leGood.l0 k y0 y1 y2 y3) (spec_leGood.l0 (k + 1) y0 y1 y2 y3)) ∧ (∀ y0 y1 y2 y3 y4 y5 y6 y7 y8,LeO (spec_leGood.j1 k y0 y1 y2 y3 y4 y5 y6 y7 y8) (spec_leGood.j1 (k + 1) y0 y1 y2 y3 y4 y5 y6 y7 y8)) ∧ (∀ y0 y1 y2 y3 y4 y5 y6 y7 y8 y9,LeO (spec_leGood.l1 k y0 y1 y2 y3 y4 y5 y6 y7 y8 y9) (spec_leGood.l1 (k + 1) y0 y1 y2 y3 y4 y5 y6 y7 y8 y9))
 | 0 => ⟨fun _ _ _ _ r h => by simp [spec_leGood.l0] at h,fun _ _ _ _ _ _ _ _ _ r h => by simp [spec_leGood.j1] at h,fun _ _ _ _ _ _ _ _ _ _ r h => by simp [spec_leGood.l1] at h⟩
 | k + 1 => by
  obtain ⟨ih0,ih1,ih2⟩ := spec_leGood.mono_l k
  refine ⟨?_,?_,?_⟩ <;> intros
  all_goals first|unfold spec_leGood.l0|unfold spec_leGood.j1|unfold spec_leGood.l1
  with_reducible repeat' first|apply ih0|apply ih1|apply ih2|apply spec_enGloss.mono|apply spec_l1Has.mono|apply spec_l1Rising.mono|apply LeO.refl|apply LeO.none|refine LeO.ite ?_ ?_|refine LeO.bind ?_ (fun _ => ?_)
theorem spec_leGood.mono : ∀ a0 k,LeO (spec_leGood.f k a0) (spec_leGood.f (k + 1) a0) := by
 intro a0 k
 obtain ⟨ih0,ih1,ih2⟩ := spec_leGood.mono_l k
 unfold spec_leGood.f
 with_reducible repeat' first|apply ih0|apply ih1|apply ih2|apply spec_enGloss.mono|apply spec_l1Has.mono|apply spec_l1Rising.mono|apply LeO.refl|apply LeO.none|refine LeO.ite ?_ ?_|refine LeO.bind ?_ (fun _ => ?_)
set_option maxHeartbeats 3000000 in
set_option maxRecDepth 100000 in
theorem spec_leGood.calls (k : Nat) (A0 : Option Addr) (c0 : Nat) (l0 : List (S43)) (r : Bool) (w : World) (hr0 : Kd.C k43 w A0 l0.length l0) (hc0 : l0.length ≤ c0) (h : spec_leGood.f k l0 = some r) :
  Calls Try.prog 29 #[.slice A0 l0.length c0] w fun e w' => e = .returned (.bool r) ∧ Below w.heap.size w w' := by
 have hu43 := Try.underlying43
 have HR0 := Aside0.mk hr0
 have HC0 := Aside0.mk hc0
 clear hr0 hc0
 have HB := Aside0.mk (Below.refl w.heap.size w)
 have H : (spec_leGood.l0 k l0 l0 (l0.length : Int) 0) = some r := h
 clear h
 have H' := Aside0.mk H
 clear H
 go_enter Try.func29,Try.ntmps29
 go_wp2
 go_loopg [9] k (fun kq v9 w' => ∃ (x9_1 : Int),v9 = .int .i64 x9_1 ∧ Aside0 (spec_leGood.l0 kq l0 l0 (l0.length : Int) x9_1 = some r) ∧ Aside0 (kq ≤ k) ∧ Aside0 (Below w.heap.size w w'))
 case atStart => exact ⟨(0),(by first|rfl|(simp;done)|(simp [*];done)),H',⟨Nat.le_refl _⟩,⟨ZQ HB⟩⟩
 case round =>
  clear H'
  obtain ⟨x9_1,rfl,HA,HK1,HB⟩ := hrel
  cases gk with
  | zero => exact absurd HA.out (by simp [spec_leGood.l0])
  | succ k1 =>
   have H := HA.out
   clear HA
   simp only [spec_leGood.l0] at H
   by_cases c2 : x9_1 < (l0.length : Int);rotate_left
   ·rw [if_neg c2] at H
    have c2b0 : decide (x9_1 < (l0.length : Int)) = false := decide_eq_false c2
    clear c2
    obtain rfl := Option.some.inj H
    go_wp2
    go_ret
    exact ⟨by first|rfl|(simp [*,errW_none,errW_some] <;> rfl),ZQ HB⟩

   rw [if_pos c2] at H
   have c2b0 : decide (x9_1 < (l0.length : Int)) = true := decide_eq_true c2
   clear c2
   by_cases c3 : 0 ≤ x9_1;rotate_left
   ·rw [if_neg c3] at H
    exact absurd H (by simp)
   rw [if_pos c3] at H
   have c3b0 : decide (0 ≤ x9_1) = true := decide_eq_true c3
   clear c3
   by_cases c4 : x9_1 < (l0.length : Int);rotate_left
   ·rw [if_neg c4] at H
    exact absurd H (by simp)
   rw [if_pos c4] at H
   have c4b0 : decide (x9_1 < (l0.length : Int)) = true := decide_eq_true c4
   clear c4
   have HC5 := Aside0.mk H
   clear H
   have p101 : 0 ≤ (x9_1 : Int) := ZD
   have q101 : x9_1 < (l0.length : Int) := ZD
   obtain ⟨ad101,A101_1,c101_1,e101,hx101_0,hx101_1,hx101_2,hl101_1,hi101_1⟩ := at_T43 HR0.out x9_1 p101 q101
   cases e101
   replace hx101_0 := ZX HB hx101_0
   replace hx101_1 := ZX HB hx101_1
   replace hx101_2 := ZX HB hx101_2
   have HR101_1 := Aside0.mk hi101_1
   have HC101_1 := Aside0.mk hl101_1
   clear hi101_1 hl101_1
   replace p101 := eq_true p101
   replace q101 := eq_true q101
   go_upto_region 4 with (first|((with_reducible refine gate_dst (N := 4) rfl ?_);(try (refine gate_guard (by rfl) ?_;dsimp only));refine ZE 4 #[.string (⟨#[]⟩ : ByteArray),.slice none 0 0,.int .i64 0] 43 ?_;intro gb102 hg w6 hbox hb;have BK102 := Aside0.mk (hbox);have GW102 := Aside0.mk ((by rw [hg];exact (below_size (ZQ HB)) : w.heap.size ≤ gb102));have GE102 := Aside0.mk ((by rw [hg];exact (below_size (ZQ HB)) : w.heap.size ≤ gb102));replace HB := Aside0.mk (below_step (ZQ HB) hb);clear hb hbox hg;have hcz7_0 : w6.cell? ⟨gb102,0,none⟩ = some (.string (⟨#[]⟩ : ByteArray)) := ZC BK102 0 rfl;have hcz7_1 : w6.cell? ⟨gb102,1,none⟩ = some (.slice none 0 0) := ZC BK102 1 rfl;have hcz7_2 : w6.cell? ⟨gb102,2,none⟩ = some (.int .i64 0) := ZC BK102 2 rfl;have hfz7_0 := blk_frozen BK102.out 0;have hfz7_1 := blk_frozen BK102.out 1;have hfz7_2 := blk_frozen BK102.out 2))
   (try simp only [Act.put,zuA,zuB,zuC])
   go_cut [38] (fun v38 wc => ∃ (kq : Nat) (x38_4 : Bool),v38 = .bool x38_4 ∧ Aside0 (spec_leGood.j1 kq l0 x9_1 l0 (l0.length : Int) x9_1 x38_4 ((rd_T43 l0 x9_1).f0) ((rd_T43 l0 x9_1).f1) ((rd_T43 l0 x9_1).f2) = some r) ∧ Aside0 (kq ≤ k1) ∧ Aside0 (wc.heap[gb102]? = some (.cells #[.string ((rd_T43 l0 x9_1).f0),(.slice A101_1 ((rd_T43 l0 x9_1).f1).length c101_1),.int .i64 ((rd_T43 l0 x9_1).f2)] 43 (0,0))) ∧ Aside0 (Below w.heap.size w wc))
   case first =>
    have H := HC5.out
    clear HC5
    replace H := Option.bind_eq_some_iff.mp H
    obtain ⟨t103,A80,H⟩ := H
    try dsimp only at H
    have A8 := Aside0.mk A80
    clear A80
    by_cases c9 : t103 = true;rotate_left
    ·replace c9 := Bool.eq_false_iff.mpr c9
     subst c9
     rw [if_neg (show ¬ (false = true) by decide)] at H
     have H' := Aside0.mk H
     clear H
     have hcz18_0 : w6.cell? ⟨gb102,0,none⟩ = some (.string (⟨#[]⟩ : ByteArray)) := ZC BK102 0 rfl
     have hcz18_1 : w6.cell? ⟨gb102,1,none⟩ = some (.slice none 0 0) := ZC BK102 1 rfl
     have hcz18_2 : w6.cell? ⟨gb102,2,none⟩ = some (.int .i64 0) := ZC BK102 2 rfl
     have hfz18_0 := blk_frozen BK102.out 0
     have hfz18_1 := blk_frozen BK102.out 1
     have hfz18_2 := blk_frozen BK102.out 2
     go_wp2_with (first|((with_reducible refine gate_callee (f := 53) rfl ?_);refine goesM_ (some 16) Try.func53 #[.string ((rd_T43 l0 x9_1).f0)] ?_;(with_reducible refine (spec_enGloss.calls k1 ((rd_T43 l0 x9_1).f0) false _ A8.out).mono ?_);rintro e w' ⟨rfl,⟨nd,rfl⟩⟩;refine ⟨_,rfl,?_⟩))
     go_meet
     case rel => exact ⟨_,(true),(by first|rfl|(simp;done)|(simp [*];done)),H',⟨by have := HK1.out;first|omega|exact Nat.le_refl _⟩,⟨by (with_reducible repeat (first|apply zhA|apply zhB|apply zhC));refine blk_put (cs := #[.string ((rd_T43 l0 x9_1).f0),.slice A101_1 ((rd_T43 l0 x9_1).f1).length c101_1,.int .i64 0]) ?_ 2 _ rfl;(with_reducible repeat (first|apply zhA|apply zhB|apply zhC));refine blk_put (cs := #[.string ((rd_T43 l0 x9_1).f0),.slice none 0 0,.int .i64 0]) ?_ 1 _ rfl;(with_reducible repeat (first|apply zhA|apply zhB|apply zhC));refine blk_put (cs := #[.string (⟨#[]⟩ : ByteArray),.slice none 0 0,.int .i64 0]) ?_ 0 _ rfl;(with_reducible repeat (first|apply zhA|apply zhB|apply zhC));exact BK102.out⟩,⟨ZQ HB⟩⟩
    subst c9
    rw [if_pos rfl] at H
    replace H := Option.bind_eq_some_iff.mp H
    obtain ⟨t104,A100,H⟩ := H
    try dsimp only at H
    have A10 := Aside0.mk A100
    clear A100
    by_cases c11 : t104 = true;rotate_left
    ·replace c11 := Bool.eq_false_iff.mpr c11
     subst c11
     rw [if_neg (show ¬ (false = true) by decide)] at H
     have H' := Aside0.mk H
     clear H
     have hcz17_0 : w6.cell? ⟨gb102,0,none⟩ = some (.string (⟨#[]⟩ : ByteArray)) := ZC BK102 0 rfl
     have hcz17_1 : w6.cell? ⟨gb102,1,none⟩ = some (.slice none 0 0) := ZC BK102 1 rfl
     have hcz17_2 : w6.cell? ⟨gb102,2,none⟩ = some (.int .i64 0) := ZC BK102 2 rfl
     have hfz17_0 := blk_frozen BK102.out 0
     have hfz17_1 := blk_frozen BK102.out 1
     have hfz17_2 := blk_frozen BK102.out 2
     go_wp2_with (first|((with_reducible refine gate_callee (f := 53) rfl ?_);refine goesM_ (some 16) Try.func53 #[.string ((rd_T43 l0 x9_1).f0)] ?_;(with_reducible refine (spec_enGloss.calls k1 ((rd_T43 l0 x9_1).f0) true _ A8.out).mono ?_);rintro e w' ⟨rfl,⟨nd,rfl⟩⟩;refine ⟨_,rfl,?_⟩)|(go_at_call 54;(with_reducible refine (spec_l1Rising.calls k1 _ _ ((rd_T43 l0 x9_1).f1) 0 (wrap64 ((l0.length : Int) - 1)) false _ ?side1 ?side2 A10.out).mono ?_);(case side1 => exact Kd.C_below HR101_1.out (ZQ HB));(case side2 => exact HC101_1.out);rintro e w' ⟨rfl,⟨nd,rfl⟩⟩))
     go_meet
     case rel => exact ⟨_,(true),(by first|rfl|(simp;done)|(simp [*];done)),H',⟨by have := HK1.out;first|omega|exact Nat.le_refl _⟩,⟨by (with_reducible repeat (first|apply zhA|apply zhB|apply zhC));refine blk_put (cs := #[.string ((rd_T43 l0 x9_1).f0),.slice A101_1 ((rd_T43 l0 x9_1).f1).length c101_1,.int .i64 0]) ?_ 2 _ rfl;(with_reducible repeat (first|apply zhA|apply zhB|apply zhC));refine blk_put (cs := #[.string ((rd_T43 l0 x9_1).f0),.slice none 0 0,.int .i64 0]) ?_ 1 _ rfl;(with_reducible repeat (first|apply zhA|apply zhB|apply zhC));refine blk_put (cs := #[.string (⟨#[]⟩ : ByteArray),.slice none 0 0,.int .i64 0]) ?_ 0 _ rfl;(with_reducible repeat (first|apply zhA|apply zhB|apply zhC));exact BK102.out⟩,⟨ZQ HB⟩⟩
    subst c11
    rw [if_pos rfl] at H
    replace H := Option.bind_eq_some_iff.mp H
    obtain ⟨t105,A120,H⟩ := H
    try dsimp only at H
    have A12 := Aside0.mk A120
    clear A120
    by_cases c13 : t105 = true
    ·subst c13
     rw [if_pos rfl] at H
     have H' := Aside0.mk H
     clear H
     have hcz14_0 : w6.cell? ⟨gb102,0,none⟩ = some (.string (⟨#[]⟩ : ByteArray)) := ZC BK102 0 rfl
     have hcz14_1 : w6.cell? ⟨gb102,1,none⟩ = some (.slice none 0 0) := ZC BK102 1 rfl
     have hcz14_2 : w6.cell? ⟨gb102,2,none⟩ = some (.int .i64 0) := ZC BK102 2 rfl
     have hfz14_0 := blk_frozen BK102.out 0
     have hfz14_1 := blk_frozen BK102.out 1
     have hfz14_2 := blk_frozen BK102.out 2
     go_wp2_with (first|((with_reducible refine gate_callee (f := 53) rfl ?_);refine goesM_ (some 16) Try.func53 #[.string ((rd_T43 l0 x9_1).f0)] ?_;(with_reducible refine (spec_enGloss.calls k1 ((rd_T43 l0 x9_1).f0) true _ A8.out).mono ?_);rintro e w' ⟨rfl,⟨nd,rfl⟩⟩;refine ⟨_,rfl,?_⟩)|(go_at_call 54;(with_reducible refine (spec_l1Rising.calls k1 _ _ ((rd_T43 l0 x9_1).f1) 0 (wrap64 ((l0.length : Int) - 1)) true _ ?side1 ?side2 A10.out).mono ?_);(case side1 => exact Kd.C_below HR101_1.out (ZQ HB));(case side2 => exact HC101_1.out);rintro e w' ⟨rfl,⟨nd,rfl⟩⟩)|(go_at_call 55;(with_reducible refine (spec_l1Has.calls k1 _ _ ((rd_T43 l0 x9_1).f1) x9_1 true _ ?side1 ?side2 A12.out).mono ?_);(case side1 => exact Kd.C_below HR101_1.out (ZQ HB));(case side2 => exact HC101_1.out);rintro e w' ⟨rfl,⟨nd,rfl⟩⟩))
     go_meet
     case rel => exact ⟨_,(true),(by first|rfl|(simp;done)|(simp [*];done)),H',⟨by have := HK1.out;first|omega|exact Nat.le_refl _⟩,⟨by (with_reducible repeat (first|apply zhA|apply zhB|apply zhC));refine blk_put (cs := #[.string ((rd_T43 l0 x9_1).f0),.slice A101_1 ((rd_T43 l0 x9_1).f1).length c101_1,.int .i64 0]) ?_ 2 _ rfl;(with_reducible repeat (first|apply zhA|apply zhB|apply zhC));refine blk_put (cs := #[.string ((rd_T43 l0 x9_1).f0),.slice none 0 0,.int .i64 0]) ?_ 1 _ rfl;(with_reducible repeat (first|apply zhA|apply zhB|apply zhC));refine blk_put (cs := #[.string (⟨#[]⟩ : ByteArray),.slice none 0 0,.int .i64 0]) ?_ 0 _ rfl;(with_reducible repeat (first|apply zhA|apply zhB|apply zhC));exact BK102.out⟩,⟨ZQ HB⟩⟩
    replace c13 := Bool.eq_false_iff.mpr c13
    subst c13
    rw [if_neg (show ¬ (false = true) by decide)] at H
    replace H := Option.bind_eq_some_iff.mp H
    obtain ⟨t106,A150,H⟩ := H
    try dsimp only at H
    have A15 := Aside0.mk A150
    clear A150
    have H' := Aside0.mk H
    clear H
    have hcz16_0 : w6.cell? ⟨gb102,0,none⟩ = some (.string (⟨#[]⟩ : ByteArray)) := ZC BK102 0 rfl
    have hcz16_1 : w6.cell? ⟨gb102,1,none⟩ = some (.slice none 0 0) := ZC BK102 1 rfl
    have hcz16_2 : w6.cell? ⟨gb102,2,none⟩ = some (.int .i64 0) := ZC BK102 2 rfl
    have hfz16_0 := blk_frozen BK102.out 0
    have hfz16_1 := blk_frozen BK102.out 1
    have hfz16_2 := blk_frozen BK102.out 2
    go_wp2_with (first|((with_reducible refine gate_callee (f := 53) rfl ?_);refine goesM_ (some 16) Try.func53 #[.string ((rd_T43 l0 x9_1).f0)] ?_;(with_reducible refine (spec_enGloss.calls k1 ((rd_T43 l0 x9_1).f0) true _ A8.out).mono ?_);rintro e w' ⟨rfl,⟨nd,rfl⟩⟩;refine ⟨_,rfl,?_⟩)|(go_at_call 54;(with_reducible refine (spec_l1Rising.calls k1 _ _ ((rd_T43 l0 x9_1).f1) 0 (wrap64 ((l0.length : Int) - 1)) true _ ?side1 ?side2 A10.out).mono ?_);(case side1 => exact Kd.C_below HR101_1.out (ZQ HB));(case side2 => exact HC101_1.out);rintro e w' ⟨rfl,⟨nd,rfl⟩⟩)|(go_at_call 55;(with_reducible refine (spec_l1Has.calls k1 _ _ ((rd_T43 l0 x9_1).f1) x9_1 false _ ?side1 ?side2 A12.out).mono ?_);(case side1 => exact Kd.C_below HR101_1.out (ZQ HB));(case side2 => exact HC101_1.out);rintro e w' ⟨rfl,⟨nd,rfl⟩⟩)|(go_at_call 30;(with_reducible refine (spec_l1In.calls ((rd_T43 l0 x9_1).f2) 0 99999 t106 _ A15.out).mono ?_);rintro e w' ⟨rfl,⟨nd,rfl⟩⟩))
    go_meet
    case rel => exact ⟨_,(!t106),(by first|rfl|(simp;done)|(simp [*];done)),H',⟨by have := HK1.out;first|omega|exact Nat.le_refl _⟩,⟨by (with_reducible repeat (first|apply zhA|apply zhB|apply zhC));refine blk_put (cs := #[.string ((rd_T43 l0 x9_1).f0),.slice A101_1 ((rd_T43 l0 x9_1).f1).length c101_1,.int .i64 0]) ?_ 2 _ rfl;(with_reducible repeat (first|apply zhA|apply zhB|apply zhC));refine blk_put (cs := #[.string ((rd_T43 l0 x9_1).f0),.slice none 0 0,.int .i64 0]) ?_ 1 _ rfl;(with_reducible repeat (first|apply zhA|apply zhB|apply zhC));refine blk_put (cs := #[.string (⟨#[]⟩ : ByteArray),.slice none 0 0,.int .i64 0]) ?_ 0 _ rfl;(with_reducible repeat (first|apply zhA|apply zhB|apply zhC));exact BK102.out⟩,⟨ZQ HB⟩⟩
   case rest =>
    clear HC5
    obtain ⟨kq,x38_4,rfl,HA,HJ4,BK102,HB⟩ := hcut
    cases kq with
    | zero => exact absurd HA.out (by simp [spec_leGood.j1])
    | succ kj4 =>
     have H := HA.out
     clear HA
     simp only [spec_leGood.j1] at H
     by_cases c19 : x38_4 = true
     ·subst c19
      rw [if_pos rfl] at H
      obtain rfl := Option.some.inj H
      go_wp2
      go_ret
      exact ⟨by first|rfl|(simp [*,errW_none,errW_some] <;> rfl),ZQ HB⟩
     replace c19 := Bool.eq_false_iff.mpr c19
     subst c19
     rw [if_neg (show ¬ (false = true) by decide)] at H
     by_cases c20 : 0 ≤ x9_1;rotate_left
     ·rw [if_neg c20] at H
      exact absurd H (by simp)
     rw [if_pos c20] at H
     have c20b0 := eq_true c20
     have c20b1 : decide (0 ≤ x9_1) = true := decide_eq_true c20
     clear c20
     by_cases c21 : x9_1 ≤ (l0.length : Int);rotate_left
     ·rw [if_neg c21] at H
      exact absurd H (by simp)
     rw [if_pos c21] at H
     have c21b0 := eq_true c21
     have c21b1 : decide (x9_1 ≤ (l0.length : Int)) = true := decide_eq_true c21
     clear c21
     obtain ⟨y107,hy107⟩ : ∃ y_ : List (S43),y_ = (l0.take (x9_1 : Int).toNat) := ⟨_,rfl⟩
     replace H : (spec_leGood.l1 kj4 l0 l0 (l0.length : Int) x9_1 y107 (y107.length : Int) 0 ((rd_T43 l0 x9_1).f0) ((rd_T43 l0 x9_1).f1) ((rd_T43 l0 x9_1).f2)) = some r := by first|(rw [hy107];with_reducible exact H)|(have H2_ := (Option.bind_some _ _).symm.trans H;rw [hy107];with_reducible exact H2_)|(have H2_ := (Option.bind_some _ _).symm.trans H;with_reducible exact H2_)|with_reducible exact H|(rw [hy107];exact H)|exact H
     have Ny107 := Aside0.mk hy107
     clear hy107
     have H' := Aside0.mk H
     clear H
     have q22 : (x9_1 : Int) ≤ ((l0.length : Int) : Int) := ZD
     obtain ⟨i022,hi022,_,hsz22,_⟩ := info_parts info43
     have hroom22 : l0.length ≤ c0 := HC0.out
     have hC22 : Kd.C k43 _ (some ad101) l0.length l0 := HR0.out
     have hcut22 := cut_to (P := Try.prog) 24 43 .i64 Try.underlying24 hi022 (some ad101) l0.length c0 x9_1 ZD q22 hroom22
     have hr22 := Kd.C_take (m := (x9_1 : Int).toNat) hC22 (by omega)
     have hy22 : y107.length = (x9_1 : Int).toNat := (by rw [Ny107.out,List.length_take];omega)
     rw [← Ny107.out] at hr22
     rw [← hy22] at hcut22
     have HR110 := Aside0.mk hr22
     have HC110 := Aside0.mk (show y107.length ≤ c0 from by omega)
     clear hr22 hC22 hroom22 hi022 hsz22
     have KY22 := Aside0.mk hy22
     clear hy22
     replace q22 := eq_true q22
     go_wp2
     go_loopg [43] kj4 (fun kq v43 w' => ∃ (x43_3 : Int),v43 = .int .i64 x43_3 ∧ Aside0 (spec_leGood.l1 kq l0 l0 (l0.length : Int) x9_1 y107 (y107.length : Int) x43_3 ((rd_T43 l0 x9_1).f0) ((rd_T43 l0 x9_1).f1) ((rd_T43 l0 x9_1).f2) = some r) ∧ Aside0 (kq ≤ kj4) ∧ Aside0 (w'.heap[gb102]? = some (.cells #[.string ((rd_T43 l0 x9_1).f0),(.slice A101_1 ((rd_T43 l0 x9_1).f1).length c101_1),.int .i64 ((rd_T43 l0 x9_1).f2)] 43 (0,0))) ∧ Aside0 (Below w.heap.size w w'))
     case atStart => exact ⟨(0),(by first|rfl|(simp;done)|(simp [*];done)),H',⟨Nat.le_refl _⟩,⟨ZH BK102⟩,⟨ZQ HB⟩⟩
     case round =>
      clear H'
      obtain ⟨x43_3,rfl,HA,HK3,BK102,HB⟩ := hrel
      cases gk with
      | zero => exact absurd HA.out (by simp [spec_leGood.l1])
      | succ k3 =>
       have H := HA.out
       clear HA
       simp only [spec_leGood.l1] at H
       by_cases c23 : x43_3 < (y107.length : Int);rotate_left
       ·rw [if_neg c23] at H
        have c23b0 : decide (x43_3 < (y107.length : Int)) = false := decide_eq_false c23
        clear c23
        have H' := Aside0.mk H
        clear H
        go_wp2
        go_roundg k3
        case measure => have := HK1.out;have := HJ4.out;have := HK3.out;omega
        case rel => exact ⟨(wrap64 (x9_1 + 1)),(by first|rfl|(simp;done)|(simp [*];done)),H',⟨by have := HK1.out;have := HJ4.out;have := HK3.out;omega⟩,⟨ZQ HB⟩⟩
       rw [if_pos c23] at H
       have c23b0 : decide (x43_3 < (y107.length : Int)) = true := decide_eq_true c23
       clear c23
       by_cases c24 : 0 ≤ x43_3;rotate_left
       ·rw [if_neg c24] at H
        exact absurd H (by simp)
       rw [if_pos c24] at H
       have c24b0 : decide (0 ≤ x43_3) = true := decide_eq_true c24
       clear c24
       by_cases c25 : x43_3 < (y107.length : Int);rotate_left
       ·rw [if_neg c25] at H
        exact absurd H (by simp)
       rw [if_pos c25] at H
       have c25b0 : decide (x43_3 < (y107.length : Int)) = true := decide_eq_true c25
       clear c25
       by_cases c26 : ((rd_T43 y107 x43_3).f0).toList = ((rd_T43 l0 x9_1).f0).toList
       ·rw [if_pos c26] at H
        have c26b0 : (((rd_T43 y107 x43_3).f0).toList == ((rd_T43 l0 x9_1).f0).toList) = true := beq_iff_eq.mpr c26
        have c26b1 : (((rd_T43 y107 x43_3).f0).toList != ((rd_T43 l0 x9_1).f0).toList) = false := bne_eq_false_iff_eq.mpr c26
        clear c26
        obtain rfl := Option.some.inj H
        have p111 : 0 ≤ (x43_3 : Int) := ZD
        have q111 : x43_3 < (y107.length : Int) := ZD
        obtain ⟨ad111,A111_1,c111_1,e111,hx111_0,hx111_1,hx111_2,hl111_1,hi111_1⟩ := at_T43 HR110.out x43_3 p111 q111
        obtain rfl : ad101 = ad111 := (by injection e111)
        replace hx111_0 := ZX HB hx111_0
        replace hx111_1 := ZX HB hx111_1
        replace hx111_2 := ZX HB hx111_2
        have HR111_1 := Aside0.mk hi111_1
        have HC111_1 := Aside0.mk hl111_1
        clear hi111_1 hl111_1
        replace p111 := eq_true p111
        replace q111 := eq_true q111
        go_wp2_with (first|((with_reducible refine gate_dst (N := 6) rfl ?_);(try (refine gate_guard (by rfl) ?_;dsimp only));refine ZE 6 #[.string (⟨#[]⟩ : ByteArray),.slice none 0 0,.int .i64 0] 43 ?_;intro gb112 hg w27 hbox hb;have BK112 := Aside0.mk (hbox);have GW112 := Aside0.mk ((by rw [hg];exact (below_size (ZQ HB)) : w.heap.size ≤ gb112));have GE112 := Aside0.mk ((by rw [hg];exact (below_size (ZQ HB)) : w.heap.size ≤ gb112));replace HB := Aside0.mk (below_step (ZQ HB) hb);have NB102_112 := Aside0.mk ((by rw [hg];exact Nat.ne_of_lt (blk_lt (g := gb102) (o := .cells #[.string ((rd_T43 l0 x9_1).f0),.slice A101_1 ((rd_T43 l0 x9_1).f1).length c101_1,.int .i64 ((rd_T43 l0 x9_1).f2)] 43 (0,0)) (ZH BK102)) : gb102 ≠ gb112));have NB112_102 := Aside0.mk ((by rw [hg];exact Nat.ne_of_gt (blk_lt (g := gb102) (o := .cells #[.string ((rd_T43 l0 x9_1).f0),.slice A101_1 ((rd_T43 l0 x9_1).f1).length c101_1,.int .i64 ((rd_T43 l0 x9_1).f2)] 43 (0,0)) (ZH BK102)) : gb112 ≠ gb102));replace BK102 := Aside0.mk (blk_below (ZH BK102) hb);clear hb hbox hg;have hnb28 := NB112_102.out;have hnc28 := NB102_112.out;have hcz29_0 : w27.cell? ⟨gb112,0,none⟩ = some (.string (⟨#[]⟩ : ByteArray)) := ZC BK112 0 rfl;have hcz29_1 : w27.cell? ⟨gb112,1,none⟩ = some (.slice none 0 0) := ZC BK112 1 rfl;have hcz29_2 : w27.cell? ⟨gb112,2,none⟩ = some (.int .i64 0) := ZC BK112 2 rfl;have hfz29_0 := blk_frozen BK112.out 0;have hfz29_1 := blk_frozen BK112.out 1;have hfz29_2 := blk_frozen BK112.out 2;have hcz30_0 : w27.cell? ⟨gb102,0,none⟩ = some (.string ((rd_T43 l0 x9_1).f0)) := ZC BK102 0 rfl;have hcz30_1 : w27.cell? ⟨gb102,1,none⟩ = some (.slice A101_1 ((rd_T43 l0 x9_1).f1).length c101_1) := ZC BK102 1 rfl;have hcz30_2 : w27.cell? ⟨gb102,2,none⟩ = some (.int .i64 ((rd_T43 l0 x9_1).f2)) := ZC BK102 2 rfl;have hfz30_0 := blk_frozen BK102.out 0;have hfz30_1 := blk_frozen BK102.out 1;have hfz30_2 := blk_frozen BK102.out 2))
        go_ret
        exact ⟨by first|rfl|(simp [*,errW_none,errW_some] <;> rfl),ZQ HB⟩
       rw [if_neg c26] at H
       have c26b0 : (((rd_T43 y107 x43_3).f0).toList == ((rd_T43 l0 x9_1).f0).toList) = false := beq_eq_false_iff_ne.mpr c26
       have c26b1 : (((rd_T43 y107 x43_3).f0).toList != ((rd_T43 l0 x9_1).f0).toList) = true := bne_iff_ne.mpr c26
       have H' := Aside0.mk H
       clear H
       have p111 : 0 ≤ (x43_3 : Int) := ZD
       have q111 : x43_3 < (y107.length : Int) := ZD
       obtain ⟨ad111,A111_1,c111_1,e111,hx111_0,hx111_1,hx111_2,hl111_1,hi111_1⟩ := at_T43 HR110.out x43_3 p111 q111
       obtain rfl : ad101 = ad111 := (by injection e111)
       replace hx111_0 := ZX HB hx111_0
       replace hx111_1 := ZX HB hx111_1
       replace hx111_2 := ZX HB hx111_2
       have HR111_1 := Aside0.mk hi111_1
       have HC111_1 := Aside0.mk hl111_1
       clear hi111_1 hl111_1
       replace p111 := eq_true p111
       replace q111 := eq_true q111
       go_wp2_with (first|((with_reducible refine gate_dst (N := 6) rfl ?_);(try (refine gate_guard (by rfl) ?_;dsimp only));refine ZE 6 #[.string (⟨#[]⟩ : ByteArray),.slice none 0 0,.int .i64 0] 43 ?_;intro gb112 hg w31 hbox hb;have BK112 := Aside0.mk (hbox);have GW112 := Aside0.mk ((by rw [hg];exact (below_size (ZQ HB)) : w.heap.size ≤ gb112));have GE112 := Aside0.mk ((by rw [hg];exact (below_size (ZQ HB)) : w.heap.size ≤ gb112));replace HB := Aside0.mk (below_step (ZQ HB) hb);have NB102_112 := Aside0.mk ((by rw [hg];exact Nat.ne_of_lt (blk_lt (g := gb102) (o := .cells #[.string ((rd_T43 l0 x9_1).f0),.slice A101_1 ((rd_T43 l0 x9_1).f1).length c101_1,.int .i64 ((rd_T43 l0 x9_1).f2)] 43 (0,0)) (ZH BK102)) : gb102 ≠ gb112));have NB112_102 := Aside0.mk ((by rw [hg];exact Nat.ne_of_gt (blk_lt (g := gb102) (o := .cells #[.string ((rd_T43 l0 x9_1).f0),.slice A101_1 ((rd_T43 l0 x9_1).f1).length c101_1,.int .i64 ((rd_T43 l0 x9_1).f2)] 43 (0,0)) (ZH BK102)) : gb112 ≠ gb102));replace BK102 := Aside0.mk (blk_below (ZH BK102) hb);clear hb hbox hg;have hnb32 := NB112_102.out;have hnc32 := NB102_112.out;have hcz33_0 : w31.cell? ⟨gb112,0,none⟩ = some (.string (⟨#[]⟩ : ByteArray)) := ZC BK112 0 rfl;have hcz33_1 : w31.cell? ⟨gb112,1,none⟩ = some (.slice none 0 0) := ZC BK112 1 rfl;have hcz33_2 : w31.cell? ⟨gb112,2,none⟩ = some (.int .i64 0) := ZC BK112 2 rfl;have hfz33_0 := blk_frozen BK112.out 0;have hfz33_1 := blk_frozen BK112.out 1;have hfz33_2 := blk_frozen BK112.out 2;have hcz34_0 : w31.cell? ⟨gb102,0,none⟩ = some (.string ((rd_T43 l0 x9_1).f0)) := ZC BK102 0 rfl;have hcz34_1 : w31.cell? ⟨gb102,1,none⟩ = some (.slice A101_1 ((rd_T43 l0 x9_1).f1).length c101_1) := ZC BK102 1 rfl;have hcz34_2 : w31.cell? ⟨gb102,2,none⟩ = some (.int .i64 ((rd_T43 l0 x9_1).f2)) := ZC BK102 2 rfl;have hfz34_0 := blk_frozen BK102.out 0;have hfz34_1 := blk_frozen BK102.out 1;have hfz34_2 := blk_frozen BK102.out 2))
       go_roundg k3
       case measure => have := HK1.out;have := HJ4.out;have := HK3.out;omega
       case rel => exact ⟨(wrap64 (x43_3 + 1)),(by first|rfl|(simp;done)|(simp [*];done)),H',⟨by have := HK1.out;have := HJ4.out;have := HK3.out;omega⟩,⟨by (with_reducible repeat (first|apply zhA|apply zhB|apply zhC));refine blk_far ?_ NB102_112.out _;(with_reducible repeat (first|apply zhA|apply zhB|apply zhC));refine blk_far ?_ NB102_112.out _;(with_reducible repeat (first|apply zhA|apply zhB|apply zhC));refine blk_far ?_ NB102_112.out _;(with_reducible repeat (first|apply zhA|apply zhB|apply zhC));exact BK102.out⟩,⟨ZQ HB⟩⟩
/-! ### spec_leReady: function 80 -/
def spec_leReady.l0 : Nat → List Int → List Int → Int → Int → Option (Bool)
 | 0,_,_,_,_ => none
 | k + 1,x1,x13,x14,x15 => if x15 < x14 then (if 0 ≤ x15 then (if x15 < (x13.length : Int) then ((spec_l1Has.f k x1 (rd x13 x15)).bind fun t103 => (if t103 = true then (spec_leReady.l0 k x1 x13 x14 (wrap64 (x15 + 1))) else (some false))) else (none)) else (none)) else (some true)
def spec_leReady.f (k : Nat) (l0 : List (S43)) (l1 : List Int) (a2 : Int) : Option (Bool) := if 0 ≤ a2 then (if a2 < (l0.length : Int) then (spec_leReady.l0 k l1 ((rd_T43 l0 a2).f1) (((rd_T43 l0 a2).f1).length : Int) 0) else (none)) else (none)
theorem spec_leReady.mono_l : ∀ k,(∀ y0 y1 y2 y3,LeO (spec_leReady.l0 k y0 y1 y2 y3) (spec_leReady.l0 (k + 1) y0 y1 y2 y3))
 | 0 => fun _ _ _ _ r h => by simp [spec_leReady.l0] at h
 | k + 1 => by
  have ih0 := spec_leReady.mono_l k
  intro y0 y1 y2 y3
  unfold spec_leReady.l0
  with_reducible repeat' first|apply ih0|apply spec_l1Has.mono|apply LeO.refl|apply LeO.none|refine LeO.ite ?_ ?_|refine LeO.bind ?_ (fun _ => ?_)
theorem spec_leReady.mono : ∀ a0 a1 a2 k,LeO (spec_leReady.f k a0 a1 a2) (spec_leReady.f (k + 1) a0 a1 a2) := by
 intro a0 a1 a2 k
 have ih0 := spec_leReady.mono_l k
 unfold spec_leReady.f
 with_reducible repeat' first|apply ih0|apply spec_l1Has.mono|apply LeO.refl|apply LeO.none|refine LeO.ite ?_ ?_|refine LeO.bind ?_ (fun _ => ?_)
set_option maxHeartbeats 3000000 in
set_option maxRecDepth 100000 in
theorem spec_leReady.calls (k : Nat) (A0 : Option Addr) (c0 : Nat) (l0 : List (S43)) (A1 : Option Addr) (c1 : Nat) (l1 : List Int) (a2 : Int) (r : Bool) (w : World) (hr0 : Kd.C k43 w A0 l0.length l0) (hc0 : l0.length ≤ c0) (hr1 : Kd.C (Kd.int .i64) w A1 l1.length l1) (hc1 : l1.length ≤ c1) (h : spec_leReady.f k l0 l1 a2 = some r) :
  Calls Try.prog 80 #[.slice A0 l0.length c0,.slice A1 l1.length c1,.int .i64 a2] w fun e w' => e = .returned (.bool r) ∧ Drawn0 w w' := by
 have HR0 := Aside0.mk hr0
 have HC0 := Aside0.mk hc0
 clear hr0 hc0
 have HR1 := Aside0.mk hr1
 have HC1 := Aside0.mk hc1
 clear hr1 hc1
 have H : (if 0 ≤ a2 then (if a2 < (l0.length : Int) then (spec_leReady.l0 k l1 ((rd_T43 l0 a2).f1) (((rd_T43 l0 a2).f1).length : Int) 0) else (none)) else (none)) = some r := h
 clear h
 by_cases c4 : 0 ≤ a2;rotate_left
 ·rw [if_neg c4] at H
  exact absurd H (by simp)

 rw [if_pos c4] at H
 have c4b0 : decide (0 ≤ a2) = true := decide_eq_true c4
 clear c4
 by_cases c5 : a2 < (l0.length : Int);rotate_left
 ·rw [if_neg c5] at H
  exact absurd H (by simp)
 rw [if_pos c5] at H
 have c5b0 : decide (a2 < (l0.length : Int)) = true := decide_eq_true c5
 clear c5
 have H' := Aside0.mk H
 clear H
 have p101 : 0 ≤ (a2 : Int) := ZD
 have q101 : a2 < (l0.length : Int) := ZD
 obtain ⟨ad101,A101_1,c101_1,e101,hx101_0,hx101_1,hx101_2,hl101_1,hi101_1⟩ := at_T43 HR0.out a2 p101 q101
 cases e101
 have HR101_1 := Aside0.mk hi101_1
 have HC101_1 := Aside0.mk hl101_1
 clear hi101_1 hl101_1
 replace p101 := eq_true p101
 replace q101 := eq_true q101
 go_enter Try.func80,Try.ntmps80
 go_wp2
 go_loopg [15] k (fun kq v15 w' => ∃ (x15_1 : Int),v15 = .int .i64 x15_1 ∧ Aside0 (spec_leReady.l0 kq l1 ((rd_T43 l0 a2).f1) (((rd_T43 l0 a2).f1).length : Int) x15_1 = some r) ∧ Aside0 (kq ≤ k) ∧ Drawn0 w w')
 case atStart => exact ⟨(0),(by first|rfl|(simp;done)|(simp [*];done)),H',⟨Nat.le_refl _⟩,by repeat (first|exact Drawn0.refl _|apply Drawn0.step)⟩
 case round =>
  clear H'
  obtain ⟨x15_1,rfl,HA,HK1,⟨m1,rfl⟩⟩ := hrel
  cases gk with
  | zero => exact absurd HA.out (by simp [spec_leReady.l0])
  | succ k1 =>
   have H := HA.out
   clear HA
   simp only [spec_leReady.l0] at H
   by_cases c6 : x15_1 < (((rd_T43 l0 a2).f1).length : Int);rotate_left
   ·rw [if_neg c6] at H
    have c6b0 : decide (x15_1 < (((rd_T43 l0 a2).f1).length : Int)) = false := decide_eq_false c6
    clear c6
    obtain rfl := Option.some.inj H
    go_wp2
    go_ret
    exact ⟨by first|rfl|(simp;done)|(simp [*];done),by repeat (first|exact Drawn0.refl _|apply Drawn0.step)⟩
   rw [if_pos c6] at H
   have c6b0 : decide (x15_1 < (((rd_T43 l0 a2).f1).length : Int)) = true := decide_eq_true c6
   clear c6
   by_cases c7 : 0 ≤ x15_1;rotate_left
   ·rw [if_neg c7] at H
    exact absurd H (by simp)
   rw [if_pos c7] at H
   have c7b0 : decide (0 ≤ x15_1) = true := decide_eq_true c7
   clear c7
   by_cases c8 : x15_1 < (((rd_T43 l0 a2).f1).length : Int);rotate_left
   ·rw [if_neg c8] at H
    exact absurd H (by simp)
   rw [if_pos c8] at H
   have c8b0 : decide (x15_1 < (((rd_T43 l0 a2).f1).length : Int)) = true := decide_eq_true c8
   clear c8
   replace H := Option.bind_eq_some_iff.mp H
   obtain ⟨t103,A90,H⟩ := H
   try dsimp only at H
   have A9 := Aside0.mk A90
   clear A90
   by_cases c10 : t103 = true;rotate_left
   ·replace c10 := Bool.eq_false_iff.mpr c10
    subst c10
    rw [if_neg (show ¬ (false = true) by decide)] at H
    obtain rfl := Option.some.inj H
    have p102 : 0 ≤ (x15_1 : Int) := ZD
    have q102 : x15_1 < (((rd_T43 l0 a2).f1).length : Int) := ZD
    obtain ⟨ad102,e102,hx102_0⟩ := Kd.at_int HR101_1.out x15_1 p102 q102
    cases e102
    replace p102 := eq_true p102
    replace q102 := eq_true q102
    go_wp2_with (first|((with_reducible refine gate_callee (f := 55) rfl ?_);refine goesM_ (some 21) Try.func55 #[.slice A1 l1.length c1,.int .i64 (rd ((rd_T43 l0 a2).f1) x15_1)] ?_;(with_reducible refine (spec_l1Has.calls k1 _ _ l1 (rd ((rd_T43 l0 a2).f1) x15_1) false _ ?side1 ?side2 A9.out).mono ?_);(case side1 => exact ZR HR1.out);(case side2 => exact HC1.out);rintro e w' ⟨rfl,⟨nd,rfl⟩⟩;refine ⟨_,rfl,?_⟩))
    go_ret
    exact ⟨by first|rfl|(simp;done)|(simp [*];done),by repeat (first|exact Drawn0.refl _|apply Drawn0.step)⟩
   subst c10
   rw [if_pos rfl] at H
   have H' := Aside0.mk H
   clear H
   have p102 : 0 ≤ (x15_1 : Int) := ZD
   have q102 : x15_1 < (((rd_T43 l0 a2).f1).length : Int) := ZD
   obtain ⟨ad102,e102,hx102_0⟩ := Kd.at_int HR101_1.out x15_1 p102 q102
   cases e102
   replace p102 := eq_true p102
   replace q102 := eq_true q102
   go_wp2_with (first|((with_reducible refine gate_callee (f := 55) rfl ?_);refine goesM_ (some 21) Try.func55 #[.slice A1 l1.length c1,.int .i64 (rd ((rd_T43 l0 a2).f1) x15_1)] ?_;(with_reducible refine (spec_l1Has.calls k1 _ _ l1 (rd ((rd_T43 l0 a2).f1) x15_1) true _ ?side1 ?side2 A9.out).mono ?_);(case side1 => exact ZR HR1.out);(case side2 => exact HC1.out);rintro e w' ⟨rfl,⟨nd,rfl⟩⟩;refine ⟨_,rfl,?_⟩))
   go_roundg k1
   case measure => have := HK1.out;omega
   case rel => exact ⟨(wrap64 (x15_1 + 1)),(by first|rfl|(simp;done)|(simp [*];done)),H',⟨by have := HK1.out;omega⟩,by repeat (first|exact Drawn0.refl _|apply Drawn0.step)⟩
end Go.Proofs.Ytgnijnlgbelifaa.Q
