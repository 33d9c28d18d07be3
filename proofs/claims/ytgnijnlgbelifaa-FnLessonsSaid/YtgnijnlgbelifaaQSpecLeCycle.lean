-- Written for the seat Ytgnijnlgbelifaa by a program of this session (wip/tool/gx.py) out of the translation. Lean checks it.
import Derived.Test.YtgnijnlgbelifaaQ0
import Derived.Test.YtgnijnlgbelifaaGPeel
import Derived.Test.YtgnijnlgbelifaaGCall
import Derived.Test.YtgnijnlgbelifaaQBLawsBig
import Derived.Test.YtgnijnlgbelifaaQBSpecL1In
import Derived.Test.YtgnijnlgbelifaaWApart
import Derived.Test.YtgnijnlgbelifaaWFoot
import Derived.Test.YtgnijnlgbelifaaWKept
import Derived.Test.YtgnijnlgbelifaaWShare
import Derived.Test.YtgnijnlgbelifaaWRepsOne
namespace Go.Proofs.Ytgnijnlgbelifaa.Q
open Go.RowKit Go.Proofs.YtgnijnlgbelifaaW.PrintWords Go.Proofs.YtgnijnlgbelifaaW.PrintLast Go.Proofs.YtgnijnlgbelifaaW.PrintMore Go.Proofs.YtgnijnlgbelifaaW.GCall
attribute [local go_sem] max2_int min2_int max_two min_two max_three min_three max_four min_four   -- for this text's walks alone
set_option linter.unusedVariables false
set_option linter.unusedSimpArgs false

/-! ### spec_leCycle: function 67 -/
mutual
def spec_leCycle.l0 : Nat → List (S43) → List Int → Int → List Int → Int → Int → Option (List Int × Bool)
 | 0,_,_,_,_,_,_ => none
 | k + 1,x0,x1,x2,x37,x38,x39 => if x39 < x38 then (if 0 ≤ x39 then (if x39 < (x37.length : Int) then (if 0 < (x1.length : Int) then (if (rd x37 x39) > (rd x1 0) then ((spec_l1Has.f k x1 (rd x37 x39)).bind fun t108 => (spec_leCycle.j1 k x0 x1 x2 (rd x37 x39) x37 x38 x39 (!t108))) else (spec_leCycle.j1 k x0 x1 x2 (rd x37 x39) x37 x38 x39 false)) else (none)) else (none)) else (none)) else (some (([] : List Int),false))
def spec_leCycle.j1 : Nat → List (S43) → List Int → Int → Int → List Int → Int → Int → Bool → Option (List Int × Bool)
 | 0,_,_,_,_,_,_,_,_ => none
 | k + 1,x0,x1,x2,x10,x37,x38,x39,x53 => if x53 = true then ((spec_l1Own.f x1).bind fun t109 => (if t109.length < 17592186044416 then ((spec_leCycle.f k x0 (t109 ++ [x10]) x2).bind fun bt115 => (if bt115.2 = true then (some (bt115.1,true)) else (spec_leCycle.l0 k x0 x1 x2 x37 x38 (wrap64 (x39 + 1))))) else (none))) else (spec_leCycle.l0 k x0 x1 x2 x37 x38 (wrap64 (x39 + 1)))
def spec_leCycle.f : Nat → List (S43) → List Int → Int → Option (List Int × Bool)
 | 0,_,_,_ => none
 | k + 1,l0,l1,a2 => if 0 ≤ (wrap64 ((l1.length : Int) - 1)) then (if (wrap64 ((l1.length : Int) - 1)) < (l1.length : Int) then (if (l1.length : Int) = a2 then (if 0 ≤ (rd l1 (wrap64 ((l1.length : Int) - 1))) then (if (rd l1 (wrap64 ((l1.length : Int) - 1))) < (l0.length : Int) then (if 0 < (l1.length : Int) then ((spec_l1Has.f k ((rd_T43 l0 (rd l1 (wrap64 ((l1.length : Int) - 1)))).f1) (rd l1 0)).bind fun t104 => (some (l1,t104))) else (none)) else (none)) else (none)) else (if 0 ≤ (rd l1 (wrap64 ((l1.length : Int) - 1))) then (if (rd l1 (wrap64 ((l1.length : Int) - 1))) < (l0.length : Int) then (spec_leCycle.l0 k l0 l1 a2 ((rd_T43 l0 (rd l1 (wrap64 ((l1.length : Int) - 1)))).f1) (((rd_T43 l0 (rd l1 (wrap64 ((l1.length : Int) - 1)))).f1).length : Int) 0) else (none)) else (none))) else (none)) else (none)
end
theorem spec_leCycle.mono_l : ∀ k,(∀ y0 y1 y2,LeO (spec_leCycle.f k y0 y1 y2) (spec_leCycle.f (k + 1) y0 y1 y2)) ∧ (∀ y0 y1 y2 y3 y4 y5,LeO (spec_leCycle.l0 k y0 y1 y2 y3 y4 y5) (spec_leCycle.l0 (k + 1) y0 y1 y2 y3 y4 y5)) ∧ (∀ y0 y1 y2 y3 y4 y5 y6 y7,LeO (spec_leCycle.j1 k y0 y1 y2 y3 y4 y5 y6 y7) (spec_leCycle.j1 (k + 1) y0 y1 y2 y3 y4 y5 y6 y7))
 | 0 => ⟨fun _ _ _ r h => by simp [spec_leCycle.f] at h,fun _ _ _ _ _ _ r h => by simp [spec_leCycle.l0] at h,fun _ _ _ _ _ _ _ _ r h => by simp [spec_leCycle.j1] at h⟩
 | k + 1 => by
  obtain ⟨ih0,ih1,ih2⟩ := spec_leCycle.mono_l k
  refine ⟨?_,?_,?_⟩ <;> intros
  all_goals first|unfold spec_leCycle.f|unfold spec_leCycle.l0|unfold spec_leCycle.j1
  with_reducible repeat' first|apply ih0|apply ih1|apply ih2|apply spec_l1Has.mono|apply LeO.refl|apply LeO.none|refine LeO.ite ?_ ?_|refine LeO.bind ?_ (fun _ => ?_)
theorem spec_leCycle.mono : ∀ a0 a1 a2 k,LeO (spec_leCycle.f k a0 a1 a2) (spec_leCycle.f (k + 1) a0 a1 a2) := by
 intro a0 a1 a2 k
 obtain ⟨ih0,ih1,ih2⟩ := spec_leCycle.mono_l k
 exact ih0 a0 a1 a2
set_option maxHeartbeats 3000000 in
set_option maxRecDepth 100000 in
theorem spec_leCycle.calls (k : Nat) : ∀ (A0 : Option Addr) (c0 : Nat) (l0 : List (S43)) (P1_ : Nat → Prop) (A1 : Option Addr) (c1 : Nat) (l1 : List Int) (a2 : Int) (r1 : List Int) (r2 : Bool) (w : World) (hr0 : Kd.C k43 w A0 l0.length l0) (hc0 : l0.length ≤ c0) (hs1 : Kd.V (Kd.int .i64) 3 w w.heap.size (fun k_ => P1_ k_) (.slice A1 l1.length c1) l1) (h : spec_leCycle.f k l0 l1 a2 = some (r1,r2)),
  Calls Try.prog 67 #[.slice A0 l0.length c0,.slice A1 l1.length c1,.int .i64 a2] w fun e w' => ∃ v0_ : Value,e = .returned (.tuple #[v0_,.bool r2]) ∧ Kd.V (Kd.int .i64) 3 w' w.heap.size (fun k_ => (P1_ k_ ∨ w.heap.size ≤ k_)) v0_ r1 ∧ Below w.heap.size w w' := by
 induction k using Nat.strongRecOn with
 | _ k ih =>
 intro A0 c0 l0 P1_ A1 c1 l1 a2 r1 r2 w hr0 hc0 hs1 h
 cases k with
 | zero => exact absurd h (by simp [spec_leCycle.f])
 | succ k =>
 simp only [spec_leCycle.f] at h
 have HR0 := Aside0.mk hr0
 have HC0 := Aside0.mk hc0
 clear hr0 hc0
 have HO1 := Aside0.mk (show Kd.V (Kd.int .i64) 3 w w.heap.size (fun k_ => (P1_ k_ ∨ w.heap.size ≤ k_)) (.slice A1 l1.length c1) l1 from Kd.V_mono hs1 (fun k_ hk => .inl hk))
 have HB := Aside0.mk (Below.refl w.heap.size w)
 have H : (if 0 ≤ (wrap64 ((l1.length : Int) - 1)) then (if (wrap64 ((l1.length : Int) - 1)) < (l1.length : Int) then (if (l1.length : Int) = a2 then (if 0 ≤ (rd l1 (wrap64 ((l1.length : Int) - 1))) then (if (rd l1 (wrap64 ((l1.length : Int) - 1))) < (l0.length : Int) then (if 0 < (l1.length : Int) then ((spec_l1Has.f k ((rd_T43 l0 (rd l1 (wrap64 ((l1.length : Int) - 1)))).f1) (rd l1 0)).bind fun t104 => (some (l1,t104))) else (none)) else (none)) else (none)) else (if 0 ≤ (rd l1 (wrap64 ((l1.length : Int) - 1))) then (if (rd l1 (wrap64 ((l1.length : Int) - 1))) < (l0.length : Int) then (spec_leCycle.l0 k l0 l1 a2 ((rd_T43 l0 (rd l1 (wrap64 ((l1.length : Int) - 1)))).f1) (((rd_T43 l0 (rd l1 (wrap64 ((l1.length : Int) - 1)))).f1).length : Int) 0) else (none)) else (none))) else (none)) else (none)) = some (r1,r2) := h
 clear h
 obtain ⟨ji4,hji4⟩ : ∃ j_ : Int,(wrap64 ((l1.length : Int) - 1)) = j_ := ⟨_,rfl⟩
 replace H : (if 0 ≤ (ji4) then (if (ji4) < (l1.length : Int) then (if (l1.length : Int) = a2 then (if 0 ≤ (rd l1 (ji4)) then (if (rd l1 (ji4)) < (l0.length : Int) then (if 0 < (l1.length : Int) then ((spec_l1Has.f k ((rd_T43 l0 (rd l1 (ji4))).f1) (rd l1 0)).bind fun t104 => (some (l1,t104))) else (none)) else (none)) else (none)) else (if 0 ≤ (rd l1 (ji4)) then (if (rd l1 (ji4)) < (l0.length : Int) then (spec_leCycle.l0 k l0 l1 a2 ((rd_T43 l0 (rd l1 (ji4))).f1) (((rd_T43 l0 (rd l1 (ji4))).f1).length : Int) 0) else (none)) else (none))) else (none)) else (none)) = some (r1,r2) := by first|(rw [hji4] at H;exact H)|(simp only [hji4] at H ⊢;exact H)
 have hji4w : (IntKind.i64.wrap ((l1.length : Int) - 1)) = ji4 := (i64_w _).trans hji4
 by_cases c5 : 0 ≤ (ji4);rotate_left
 ·rw [if_neg c5] at H
  exact absurd H (by simp)

 rw [if_pos c5] at H
 have c5b0 : decide (0 ≤ (ji4)) = true := decide_eq_true c5
 clear c5
 by_cases c6 : (ji4) < (l1.length : Int);rotate_left
 ·rw [if_neg c6] at H
  exact absurd H (by simp)
 rw [if_pos c6] at H
 have c6b0 : decide ((ji4) < (l1.length : Int)) = true := decide_eq_true c6
 clear c6
 by_cases c7 : (l1.length : Int) = a2
 ·rw [if_pos c7] at H
  have c7b0 : ((l1.length : Int) == a2) = true := beq_iff_eq.mpr c7
  have c7b1 : ((l1.length : Int) != a2) = false := bne_eq_false_iff_eq.mpr c7
  clear c7
  by_cases c8 : 0 ≤ (rd l1 (ji4));rotate_left
  ·rw [if_neg c8] at H
   exact absurd H (by simp)
  rw [if_pos c8] at H
  have c8b0 : decide (0 ≤ (rd l1 (ji4))) = true := decide_eq_true c8
  clear c8
  by_cases c9 : (rd l1 (ji4)) < (l0.length : Int);rotate_left
  ·rw [if_neg c9] at H
   exact absurd H (by simp)
  rw [if_pos c9] at H
  have c9b0 : decide ((rd l1 (ji4)) < (l0.length : Int)) = true := decide_eq_true c9
  clear c9
  by_cases c10 : 0 < (l1.length : Int);rotate_left
  ·rw [if_neg c10] at H
   exact absurd H (by simp)
  rw [if_pos c10] at H
  have c10b0 : decide (0 < (l1.length : Int)) = true := decide_eq_true c10
  have c10b1 : decide (0 < l1.length) = true := decide_eq_true (by omega)
  clear c10
  replace H := Option.bind_eq_some_iff.mp H
  obtain ⟨t104,A110,H⟩ := H
  try dsimp only at H
  have A11 := Aside0.mk A110
  clear A110
  simp only [Option.some.injEq,Prod.mk.injEq] at H
  obtain ⟨rfl,rfl⟩ := H
  have p101 : 0 ≤ ((ji4) : Int) := ZD
  have q101 : (ji4) < (l1.length : Int) := ZD
  obtain ⟨ad101,e101,hx101_0⟩ := Kd.at_int (Kd.V_reads' HO1.out).2.2 (ji4) p101 q101
  cases e101
  replace p101 := eq_true p101
  replace q101 := eq_true q101
  have p102 : 0 ≤ ((rd l1 (ji4)) : Int) := ZD
  have q102 : (rd l1 (ji4)) < (l0.length : Int) := ZD
  obtain ⟨ad102,A102_1,c102_1,e102,hx102_0,hx102_1,hx102_2,hl102_1,hi102_1⟩ := at_T43 HR0.out (rd l1 (ji4)) p102 q102
  cases e102
  have HR102_1 := Aside0.mk hi102_1
  have HC102_1 := Aside0.mk hl102_1
  clear hi102_1 hl102_1
  replace p102 := eq_true p102
  replace q102 := eq_true q102
  have p103 : 0 ≤ (0 : Int) := (by omega)
  have q103 : 0 < (l1.length : Int) := ZD
  obtain ⟨ad103,e103,hx103_0⟩ := Kd.at_int (Kd.V_reads' HO1.out).2.2 0 p103 q103
  obtain rfl : ad101 = ad103 := (by injection e103)
  have qi103 : (0 < l1.length) = True := eq_true (by omega)
  (try rw [show ((0 : Int)).toNat = 0 from rfl] at hx103_0)
  (try rw [Addr.add_zero'] at hx103_0)
  replace p103 := eq_true p103
  replace q103 := eq_true q103
  go_enter Try.func67,Try.ntmps67
  go_wp2_with (first|(go_at_call 55;(with_reducible refine (spec_l1Has.calls k _ _ ((rd_T43 l0 (rd l1 (ji4))).f1) (rd l1 0) t104 _ ?side1 ?side2 A11.out).mono ?_);(case side1 => exact ZR HR102_1.out);(case side2 => exact HC102_1.out);rintro e w' ⟨rfl,⟨nd,rfl⟩⟩;(try first|exact ⟨rfl,_,World.drewN_drewN _ _ _⟩|exact ⟨rfl,_,Eq.trans (World.drewN_drewN _ _ _) (congrArg (World.drewN _) (Nat.add_assoc _ _ _))⟩)))
  repeat (go_quiet (first|(go_at_call 55;(with_reducible refine (spec_l1Has.calls k _ _ ((rd_T43 l0 (rd l1 (ji4))).f1) (rd l1 0) t104 _ ?side1 ?side2 A11.out).mono ?_);(case side1 => exact ZR HR102_1.out);(case side2 => exact HC102_1.out);rintro e w' ⟨rfl,⟨nd,rfl⟩⟩;(try first|exact ⟨rfl,_,World.drewN_drewN _ _ _⟩|exact ⟨rfl,_,Eq.trans (World.drewN_drewN _ _ _) (congrArg (World.drewN _) (Nat.add_assoc _ _ _))⟩)));try go_wp2_with (first|(go_at_call 55;(with_reducible refine (spec_l1Has.calls k _ _ ((rd_T43 l0 (rd l1 (ji4))).f1) (rd l1 0) t104 _ ?side1 ?side2 A11.out).mono ?_);(case side1 => exact ZR HR102_1.out);(case side2 => exact HC102_1.out);rintro e w' ⟨rfl,⟨nd,rfl⟩⟩;(try first|exact ⟨rfl,_,World.drewN_drewN _ _ _⟩|exact ⟨rfl,_,Eq.trans (World.drewN_drewN _ _ _) (congrArg (World.drewN _) (Nat.add_assoc _ _ _))⟩))))
  go_ret2
  exact ⟨_,by first|rfl|(simp [errW_none,errW_some] <;> rfl)|(simp only [← hji4];first|rfl|(simp [errW_none,errW_some] <;> rfl))|(simp [*,errW_none,errW_some] <;> rfl),ZKV HO1,ZQ HB⟩
 rw [if_neg c7] at H
 have c7b0 : ((l1.length : Int) == a2) = false := beq_eq_false_iff_ne.mpr c7
 have c7b1 : ((l1.length : Int) != a2) = true := bne_iff_ne.mpr c7
 by_cases c12 : 0 ≤ (rd l1 (ji4));rotate_left
 ·rw [if_neg c12] at H
  exact absurd H (by simp)
 rw [if_pos c12] at H
 have c12b0 : decide (0 ≤ (rd l1 (ji4))) = true := decide_eq_true c12
 clear c12
 by_cases c13 : (rd l1 (ji4)) < (l0.length : Int);rotate_left
 ·rw [if_neg c13] at H
  exact absurd H (by simp)
 rw [if_pos c13] at H
 have c13b0 : decide ((rd l1 (ji4)) < (l0.length : Int)) = true := decide_eq_true c13
 clear c13
 have H' := Aside0.mk H
 clear H
 have p101 : 0 ≤ ((ji4) : Int) := ZD
 have q101 : (ji4) < (l1.length : Int) := ZD
 obtain ⟨ad101,e101,hx101_0⟩ := Kd.at_int (Kd.V_reads' HO1.out).2.2 (ji4) p101 q101
 cases e101
 replace p101 := eq_true p101
 replace q101 := eq_true q101
 have p105 : 0 ≤ ((rd l1 (ji4)) : Int) := ZD
 have q105 : (rd l1 (ji4)) < (l0.length : Int) := ZD
 obtain ⟨ad105,A105_1,c105_1,e105,hx105_0,hx105_1,hx105_2,hl105_1,hi105_1⟩ := at_T43 HR0.out (rd l1 (ji4)) p105 q105
 cases e105
 have HR105_1 := Aside0.mk hi105_1
 have HC105_1 := Aside0.mk hl105_1
 clear hi105_1 hl105_1
 replace p105 := eq_true p105
 replace q105 := eq_true q105
 go_enter Try.func67,Try.ntmps67
 go_wp2
 repeat (go_quiet (fail);try go_wp2)
 go_loopg [39] k (fun kq v39 w' => ∃ (x39_1 : Int),v39 = .int .i64 x39_1 ∧ Aside0 (spec_leCycle.l0 kq l0 l1 a2 ((rd_T43 l0 (rd l1 (ji4))).f1) (((rd_T43 l0 (rd l1 (ji4))).f1).length : Int) x39_1 = some (r1,r2)) ∧ Aside0 (kq ≤ k) ∧ Aside0 (Kd.V (Kd.int .i64) 3 w' w.heap.size (fun k_ => (P1_ k_ ∨ w.heap.size ≤ k_)) (.slice (some ad101) l1.length c1) l1) ∧ Aside0 (Below w.heap.size w w'))
 case atStart => exact ⟨(0),(by first|rfl|(simp;done)|(simp [*];done)),H',⟨Nat.le_refl _⟩,⟨ZKV HO1⟩,⟨ZQ HB⟩⟩
 case round =>
  clear H'
  obtain ⟨x39_1,rfl,HA,HK1,HO_1,HB⟩ := hrel
  cases gk with
  | zero => exact absurd HA.out (by simp [spec_leCycle.l0])
  | succ k1 =>
   have H := HA.out
   clear HA
   simp only [spec_leCycle.l0] at H
   by_cases c14 : x39_1 < (((rd_T43 l0 (rd l1 (ji4))).f1).length : Int);rotate_left
   ·rw [if_neg c14] at H
    have c14b0 : decide (x39_1 < (((rd_T43 l0 (rd l1 (ji4))).f1).length : Int)) = false := decide_eq_false c14
    clear c14
    simp only [Option.some.injEq,Prod.mk.injEq] at H
    obtain ⟨rfl,rfl⟩ := H
    go_wp2
    repeat (go_quiet (fail);try go_wp2)
    go_ret2
    exact ⟨_,by first|rfl|(simp [errW_none,errW_some] <;> rfl)|(simp only [← hji4];first|rfl|(simp [errW_none,errW_some] <;> rfl))|(simp [*,errW_none,errW_some] <;> rfl),Kd.V_mono (Kd.V_nil _ _ _ _ _) (fun k_ hk => by first|exact ⟨(.inr (hk.1)),hk.2⟩|exact (.inr (hk))),ZQ HB⟩
   rw [if_pos c14] at H
   have c14b0 : decide (x39_1 < (((rd_T43 l0 (rd l1 (ji4))).f1).length : Int)) = true := decide_eq_true c14
   clear c14
   by_cases c15 : 0 ≤ x39_1;rotate_left
   ·rw [if_neg c15] at H
    exact absurd H (by simp)
   rw [if_pos c15] at H
   have c15b0 : decide (0 ≤ x39_1) = true := decide_eq_true c15
   clear c15
   by_cases c16 : x39_1 < (((rd_T43 l0 (rd l1 (ji4))).f1).length : Int);rotate_left
   ·rw [if_neg c16] at H
    exact absurd H (by simp)
   rw [if_pos c16] at H
   have c16b0 : decide (x39_1 < (((rd_T43 l0 (rd l1 (ji4))).f1).length : Int)) = true := decide_eq_true c16
   clear c16
   have HC17 := Aside0.mk H
   clear H
   have p106 : 0 ≤ (x39_1 : Int) := ZD
   have q106 : x39_1 < (((rd_T43 l0 (rd l1 (ji4))).f1).length : Int) := ZD
   obtain ⟨ad106,e106,hx106_0⟩ := Kd.at_int HR105_1.out x39_1 p106 q106
   cases e106
   replace hx106_0 := ZX HB hx106_0
   replace p106 := eq_true p106
   replace q106 := eq_true q106
   go_upto_region 7 with (fail)
   repeat (go_quiet (fail);go_upto_region 7 with (fail))
   go_cut [53] (fun v53 wc => ∃ (kq : Nat) (x53_16 : Bool),v53 = .bool x53_16 ∧ Aside0 (spec_leCycle.j1 kq l0 l1 a2 (rd ((rd_T43 l0 (rd l1 (ji4))).f1) x39_1) ((rd_T43 l0 (rd l1 (ji4))).f1) (((rd_T43 l0 (rd l1 (ji4))).f1).length : Int) x39_1 x53_16 = some (r1,r2)) ∧ Aside0 (kq ≤ k1) ∧ Aside0 (Kd.V (Kd.int .i64) 3 wc w.heap.size (fun k_ => (P1_ k_ ∨ w.heap.size ≤ k_)) (.slice (some ad101) l1.length c1) l1) ∧ Aside0 (Below w.heap.size w wc))
   case first =>
    have H := HC17.out
    clear HC17
    by_cases c18 : 0 < (l1.length : Int);rotate_left
    ·rw [if_neg c18] at H
     exact absurd H (by simp)
    rw [if_pos c18] at H
    have c18b0 : decide (0 < (l1.length : Int)) = true := decide_eq_true c18
    have c18b1 : decide (0 < l1.length) = true := decide_eq_true (by omega)
    clear c18
    (first|rw [c18b0]|rw [c18b1]|(simp only [i64_w,i32_w];rw [c18b0])|skip)
    by_cases c19 : (rd ((rd_T43 l0 (rd l1 (ji4))).f1) x39_1) > (rd l1 0);rotate_left
    ·rw [if_neg c19] at H
     have c19b0 : decide ((rd l1 0) < (rd ((rd_T43 l0 (rd l1 (ji4))).f1) x39_1)) = false := decide_eq_false c19
     clear c19
     have H' := Aside0.mk H
     clear H
     have p107 : 0 ≤ (0 : Int) := (by omega)
     have q107 : 0 < (l1.length : Int) := ZD
     obtain ⟨ad107,e107,hx107_0⟩ := Kd.at_int (Kd.V_reads' HO_1.out).2.2 0 p107 q107
     obtain rfl : ad101 = ad107 := (by injection e107)
     have qi107 : (0 < l1.length) = True := eq_true (by omega)
     (try rw [show ((0 : Int)).toNat = 0 from rfl] at hx107_0)
     (try rw [Addr.add_zero'] at hx107_0)
     replace p107 := eq_true p107
     replace q107 := eq_true q107
     go_wp2
     repeat (go_quiet (fail);try go_wp2)
     go_meet
     case rel => exact ⟨_,(false),(by first|rfl|(simp;done)|(simp [*];done)),H',⟨by have := HK1.out;first|omega|exact Nat.le_refl _⟩,⟨ZKV HO_1⟩,⟨ZQ HB⟩⟩
    rw [if_pos c19] at H
    have c19b0 : decide ((rd l1 0) < (rd ((rd_T43 l0 (rd l1 (ji4))).f1) x39_1)) = true := decide_eq_true c19
    clear c19
    replace H := Option.bind_eq_some_iff.mp H
    obtain ⟨t108,A200,H⟩ := H
    try dsimp only at H
    have A20 := Aside0.mk A200
    clear A200
    have H' := Aside0.mk H
    clear H
    have p107 : 0 ≤ (0 : Int) := (by omega)
    have q107 : 0 < (l1.length : Int) := ZD
    obtain ⟨ad107,e107,hx107_0⟩ := Kd.at_int (Kd.V_reads' HO_1.out).2.2 0 p107 q107
    obtain rfl : ad101 = ad107 := (by injection e107)
    have qi107 : (0 < l1.length) = True := eq_true (by omega)
    (try rw [show ((0 : Int)).toNat = 0 from rfl] at hx107_0)
    (try rw [Addr.add_zero'] at hx107_0)
    replace p107 := eq_true p107
    replace q107 := eq_true q107
    go_wp2_with (first|(go_at_call 55;(with_reducible refine (spec_l1Has.calls k1 _ _ l1 (rd ((rd_T43 l0 (rd l1 (ji4))).f1) x39_1) t108 _ ?side1 ?side2 A20.out).mono ?_);(case side1 => exact ZR (Kd.V_reads' HO_1.out).2.2);(case side2 => exact (Kd.V_reads' HO_1.out).2.1);rintro e w' ⟨rfl,⟨nd,rfl⟩⟩;(try first|exact ⟨rfl,_,World.drewN_drewN _ _ _⟩|exact ⟨rfl,_,Eq.trans (World.drewN_drewN _ _ _) (congrArg (World.drewN _) (Nat.add_assoc _ _ _))⟩)))
    repeat (go_quiet (first|(go_at_call 55;(with_reducible refine (spec_l1Has.calls k1 _ _ l1 (rd ((rd_T43 l0 (rd l1 (ji4))).f1) x39_1) t108 _ ?side1 ?side2 A20.out).mono ?_);(case side1 => exact ZR (Kd.V_reads' HO_1.out).2.2);(case side2 => exact (Kd.V_reads' HO_1.out).2.1);rintro e w' ⟨rfl,⟨nd,rfl⟩⟩;(try first|exact ⟨rfl,_,World.drewN_drewN _ _ _⟩|exact ⟨rfl,_,Eq.trans (World.drewN_drewN _ _ _) (congrArg (World.drewN _) (Nat.add_assoc _ _ _))⟩)));try go_wp2_with (first|(go_at_call 55;(with_reducible refine (spec_l1Has.calls k1 _ _ l1 (rd ((rd_T43 l0 (rd l1 (ji4))).f1) x39_1) t108 _ ?side1 ?side2 A20.out).mono ?_);(case side1 => exact ZR (Kd.V_reads' HO_1.out).2.2);(case side2 => exact (Kd.V_reads' HO_1.out).2.1);rintro e w' ⟨rfl,⟨nd,rfl⟩⟩;(try first|exact ⟨rfl,_,World.drewN_drewN _ _ _⟩|exact ⟨rfl,_,Eq.trans (World.drewN_drewN _ _ _) (congrArg (World.drewN _) (Nat.add_assoc _ _ _))⟩))))
    go_meet
    case rel => exact ⟨_,(!t108),(by first|rfl|(simp;done)|(simp [*];done)),H',⟨by have := HK1.out;first|omega|exact Nat.le_refl _⟩,⟨ZKV HO_1⟩,⟨ZQ HB⟩⟩
   case rest =>
    clear HC17
    obtain ⟨kq,x53_16,rfl,HA,HJ16,HO_1,HB⟩ := hcut
    cases kq with
    | zero => exact absurd HA.out (by simp [spec_leCycle.j1])
    | succ kj16 =>
     have H := HA.out
     clear HA
     simp only [spec_leCycle.j1] at H
     by_cases c21 : x53_16 = true;rotate_left
     ·replace c21 := Bool.eq_false_iff.mpr c21
      subst c21
      rw [if_neg (show ¬ (false = true) by decide)] at H
      have H' := Aside0.mk H
      clear H
      go_wp2
      repeat (go_quiet (fail);try go_wp2)
      go_roundg kj16
      case measure => have := HK1.out;have := HJ16.out;omega
      case rel => exact ⟨(wrap64 (x39_1 + 1)),(by first|rfl|(simp;done)|(simp [*];done)),H',⟨by have := HK1.out;have := HJ16.out;omega⟩,⟨ZKV HO_1⟩,⟨ZQ HB⟩⟩
     subst c21
     rw [if_pos rfl] at H
     replace H := Option.bind_eq_some_iff.mp H
     obtain ⟨t109,A220,H⟩ := H
     try dsimp only at H
     have A22 := Aside0.mk A220
     clear A220
     by_cases c23 : t109.length < 17592186044416;rotate_left
     ·rw [if_neg c23] at H
      exact absurd H (by simp)
     rw [if_pos c23] at H
     have LMc23 := Aside0.mk c23
     clear c23
     obtain ⟨y112,hy112⟩ : ∃ y_ : List Int,y_ = (t109 ++ [(rd ((rd_T43 l0 (rd l1 (ji4))).f1) x39_1)]) := ⟨_,rfl⟩
     replace H : ((spec_leCycle.f kj16 l0 y112 a2).bind fun bt115 => (if bt115.2 = true then (some (bt115.1,true)) else (spec_leCycle.l0 kj16 l0 l1 a2 ((rd_T43 l0 (rd l1 (ji4))).f1) (((rd_T43 l0 (rd l1 (ji4))).f1).length : Int) (wrap64 (x39_1 + 1))))) = some (r1,r2) := by first|(rw [hy112];with_reducible exact H)|(have H2_ := (Option.bind_some _ _).symm.trans H;rw [hy112];with_reducible exact H2_)|(have H2_ := (Option.bind_some _ _).symm.trans H;with_reducible exact H2_)|with_reducible exact H|(rw [hy112];exact H)|exact H
     have Ny112 := Aside0.mk hy112
     clear hy112
     replace H := Option.bind_eq_some_iff.mp H
     obtain ⟨⟨t115,t118⟩,A240,H⟩ := H
     try dsimp only at H
     have A24 := Aside0.mk A240
     clear A240
     by_cases c25 : t118 = true
     ·subst c25
      rw [if_pos rfl] at H
      simp only [Option.some.injEq,Prod.mk.injEq] at H
      obtain ⟨rfl,rfl⟩ := H
      go_wp2_with (first|(go_at_call 84;(with_reducible refine (spec_l1Own.calls _ _ l1 t109 _ ?side1 ?side2 A22.out).mono ?_);(case side1 => exact ZR (Kd.V_reads' HO_1.out).2.2);(case side2 => exact (Kd.V_reads' HO_1.out).2.1);rintro e w26 ⟨v110,rfl,ho0,hb⟩;replace HO_1 := Aside0.mk (Kd.V_elder' (ZKV HO_1) (Kd.R_base ho0) hb);have HO111 := Aside0.mk (Kd.R_lower (Kd.R_newM (M := fun k_ => (w.heap.size ≤ k_)) ho0 (below_size (ZQ HB)) (fun k_ h_ => h_)) (below_size (ZQ HB)));replace HB := Aside0.mk (below_step (ZQ HB) hb);(try clear hb);(try clear ho0))|((with_reducible refine gate_builtin (b := .append) (xs := #[.tmp 57,.tmp 59]) rfl ?_);at_builtin;refine Kd.R_append (Kd.int .i64) (w0 := w) w.heap.size rfl (.tmp 57) (.tmp 59) 32 3 (.int .i64 0) 8 rfl Try.underlying32 info3 rfl (by decide) (by omega) v110 t109 (rd ((rd_T43 l0 (rd l1 (ji4))).f1) x39_1) [.int .i64 (rd ((rd_T43 l0 (rd l1 (ji4))).f1) x39_1)] (fun k_ => (w.heap.size ≤ k_)) (fun _ => False) rfl rfl ?aP (fun _ hk => hk.elim) ?aF ?aO ?aB ?aS ?aL ?_;(case aP => exact rfl);(case aB => exact (ZQ HB));(case aF => exact (fun k_ hk => (Nat.le_trans (below_size (ZQ HB)) hk)));(case aO => exact (ZK ⟨Kd.R_mono HO111.out (fun _ hk => hk.1)⟩));(case aS => exact (below_size (ZQ HB)));(case aL => have := LMc23.out;omega);intro v113 w27 ho hb hg hat;rw [← Ny112.out] at ho;replace HO_1 := Aside0.mk (Kd.V_afterv (ok := (fun k_ => (P1_ k_ ∨ w.heap.size ≤ k_))) (ZKV HO_1) hg hat);replace HB := Aside0.mk (hb);have HO114 := Aside0.mk (ho);clear HO111;clear ho hb hg hat;obtain ⟨Ao28,co28,eo28⟩ := Kd.R_slice HO114.out;subst eo28)|(go_at_call 67;(with_reducible refine (ih kj16 (by have := HK1.out;have := HJ16.out;omega) _ _ l0 (fun k_ => some k_ = (.slice Ao28 y112.length co28 : Value).ownBlock) _ _ y112 a2 t115 true _ ?side1 ?side2 ?side3 A24.out).mono ?_);(case side1 => exact ZR (Kd.C_below HR0.out HB.out));(case side2 => exact HC0.out);(case side3 => exact Kd.R_V (Kd.R_tight rfl (HO114.out)));rintro e w29 ⟨v116,rfl,ho0,hb⟩;replace HO_1 := ZBV HO_1 hb;have HO117 := Aside0.mk (Kd.V_lower (Kd.V_mono (ok' := fun k_ => (P1_ k_ ∨ w.heap.size ≤ k_)) ho0 (fun k_ hk_ => Or.elim hk_ (fun hs_ => (.inr (((HO114.out).1 k_ hs_.symm)))) (fun hn_ => (.inr (Nat.le_trans (below_size (ZQ HB)) hn_))))) (below_size (ZQ HB)));replace HO114 := ZBR HO114 hb;replace HB := Aside0.mk (below_step (ZQ HB) hb);(try clear hb);(try clear ho0)))
      repeat (go_quiet (first|(go_at_call 84;(with_reducible refine (spec_l1Own.calls _ _ l1 t109 _ ?side1 ?side2 A22.out).mono ?_);(case side1 => exact ZR (Kd.V_reads' HO_1.out).2.2);(case side2 => exact (Kd.V_reads' HO_1.out).2.1);rintro e w26 ⟨v110,rfl,ho0,hb⟩;replace HO_1 := Aside0.mk (Kd.V_elder' (ZKV HO_1) (Kd.R_base ho0) hb);have HO111 := Aside0.mk (Kd.R_lower (Kd.R_newM (M := fun k_ => (w.heap.size ≤ k_)) ho0 (below_size (ZQ HB)) (fun k_ h_ => h_)) (below_size (ZQ HB)));replace HB := Aside0.mk (below_step (ZQ HB) hb);(try clear hb);(try clear ho0))|((with_reducible refine gate_builtin (b := .append) (xs := #[.tmp 57,.tmp 59]) rfl ?_);at_builtin;refine Kd.R_append (Kd.int .i64) (w0 := w) w.heap.size rfl (.tmp 57) (.tmp 59) 32 3 (.int .i64 0) 8 rfl Try.underlying32 info3 rfl (by decide) (by omega) v110 t109 (rd ((rd_T43 l0 (rd l1 (ji4))).f1) x39_1) [.int .i64 (rd ((rd_T43 l0 (rd l1 (ji4))).f1) x39_1)] (fun k_ => (w.heap.size ≤ k_)) (fun _ => False) rfl rfl ?aP (fun _ hk => hk.elim) ?aF ?aO ?aB ?aS ?aL ?_;(case aP => exact rfl);(case aB => exact (ZQ HB));(case aF => exact (fun k_ hk => (Nat.le_trans (below_size (ZQ HB)) hk)));(case aO => exact (ZK ⟨Kd.R_mono HO111.out (fun _ hk => hk.1)⟩));(case aS => exact (below_size (ZQ HB)));(case aL => have := LMc23.out;omega);intro v113 w27 ho hb hg hat;rw [← Ny112.out] at ho;replace HO_1 := Aside0.mk (Kd.V_afterv (ok := (fun k_ => (P1_ k_ ∨ w.heap.size ≤ k_))) (ZKV HO_1) hg hat);replace HB := Aside0.mk (hb);have HO114 := Aside0.mk (ho);clear HO111;clear ho hb hg hat;obtain ⟨Ao28,co28,eo28⟩ := Kd.R_slice HO114.out;subst eo28)|(go_at_call 67;(with_reducible refine (ih kj16 (by have := HK1.out;have := HJ16.out;omega) _ _ l0 (fun k_ => some k_ = (.slice Ao28 y112.length co28 : Value).ownBlock) _ _ y112 a2 t115 true _ ?side1 ?side2 ?side3 A24.out).mono ?_);(case side1 => exact ZR (Kd.C_below HR0.out HB.out));(case side2 => exact HC0.out);(case side3 => exact Kd.R_V (Kd.R_tight rfl (HO114.out)));rintro e w29 ⟨v116,rfl,ho0,hb⟩;replace HO_1 := ZBV HO_1 hb;have HO117 := Aside0.mk (Kd.V_lower (Kd.V_mono (ok' := fun k_ => (P1_ k_ ∨ w.heap.size ≤ k_)) ho0 (fun k_ hk_ => Or.elim hk_ (fun hs_ => (.inr (((HO114.out).1 k_ hs_.symm)))) (fun hn_ => (.inr (Nat.le_trans (below_size (ZQ HB)) hn_))))) (below_size (ZQ HB)));replace HO114 := ZBR HO114 hb;replace HB := Aside0.mk (below_step (ZQ HB) hb);(try clear hb);(try clear ho0)));try go_wp2_with (first|(go_at_call 84;(with_reducible refine (spec_l1Own.calls _ _ l1 t109 _ ?side1 ?side2 A22.out).mono ?_);(case side1 => exact ZR (Kd.V_reads' HO_1.out).2.2);(case side2 => exact (Kd.V_reads' HO_1.out).2.1);rintro e w26 ⟨v110,rfl,ho0,hb⟩;replace HO_1 := Aside0.mk (Kd.V_elder' (ZKV HO_1) (Kd.R_base ho0) hb);have HO111 := Aside0.mk (Kd.R_lower (Kd.R_newM (M := fun k_ => (w.heap.size ≤ k_)) ho0 (below_size (ZQ HB)) (fun k_ h_ => h_)) (below_size (ZQ HB)));replace HB := Aside0.mk (below_step (ZQ HB) hb);(try clear hb);(try clear ho0))|((with_reducible refine gate_builtin (b := .append) (xs := #[.tmp 57,.tmp 59]) rfl ?_);at_builtin;refine Kd.R_append (Kd.int .i64) (w0 := w) w.heap.size rfl (.tmp 57) (.tmp 59) 32 3 (.int .i64 0) 8 rfl Try.underlying32 info3 rfl (by decide) (by omega) v110 t109 (rd ((rd_T43 l0 (rd l1 (ji4))).f1) x39_1) [.int .i64 (rd ((rd_T43 l0 (rd l1 (ji4))).f1) x39_1)] (fun k_ => (w.heap.size ≤ k_)) (fun _ => False) rfl rfl ?aP (fun _ hk => hk.elim) ?aF ?aO ?aB ?aS ?aL ?_;(case aP => exact rfl);(case aB => exact (ZQ HB));(case aF => exact (fun k_ hk => (Nat.le_trans (below_size (ZQ HB)) hk)));(case aO => exact (ZK ⟨Kd.R_mono HO111.out (fun _ hk => hk.1)⟩));(case aS => exact (below_size (ZQ HB)));(case aL => have := LMc23.out;omega);intro v113 w27 ho hb hg hat;rw [← Ny112.out] at ho;replace HO_1 := Aside0.mk (Kd.V_afterv (ok := (fun k_ => (P1_ k_ ∨ w.heap.size ≤ k_))) (ZKV HO_1) hg hat);replace HB := Aside0.mk (hb);have HO114 := Aside0.mk (ho);clear HO111;clear ho hb hg hat;obtain ⟨Ao28,co28,eo28⟩ := Kd.R_slice HO114.out;subst eo28)|(go_at_call 67;(with_reducible refine (ih kj16 (by have := HK1.out;have := HJ16.out;omega) _ _ l0 (fun k_ => some k_ = (.slice Ao28 y112.length co28 : Value).ownBlock) _ _ y112 a2 t115 true _ ?side1 ?side2 ?side3 A24.out).mono ?_);(case side1 => exact ZR (Kd.C_below HR0.out HB.out));(case side2 => exact HC0.out);(case side3 => exact Kd.R_V (Kd.R_tight rfl (HO114.out)));rintro e w29 ⟨v116,rfl,ho0,hb⟩;replace HO_1 := ZBV HO_1 hb;have HO117 := Aside0.mk (Kd.V_lower (Kd.V_mono (ok' := fun k_ => (P1_ k_ ∨ w.heap.size ≤ k_)) ho0 (fun k_ hk_ => Or.elim hk_ (fun hs_ => (.inr (((HO114.out).1 k_ hs_.symm)))) (fun hn_ => (.inr (Nat.le_trans (below_size (ZQ HB)) hn_))))) (below_size (ZQ HB)));replace HO114 := ZBR HO114 hb;replace HB := Aside0.mk (below_step (ZQ HB) hb);(try clear hb);(try clear ho0))))
      go_ret2
      exact ⟨_,by first|rfl|(simp [errW_none,errW_some] <;> rfl)|(simp only [← hji4];first|rfl|(simp [errW_none,errW_some] <;> rfl))|(simp [*,errW_none,errW_some] <;> rfl),ZKV HO117,ZQ HB⟩
     replace c25 := Bool.eq_false_iff.mpr c25
     subst c25
     rw [if_neg (show ¬ (false = true) by decide)] at H
     have H' := Aside0.mk H
     clear H
     go_wp2_with (first|(go_at_call 84;(with_reducible refine (spec_l1Own.calls _ _ l1 t109 _ ?side1 ?side2 A22.out).mono ?_);(case side1 => exact ZR (Kd.V_reads' HO_1.out).2.2);(case side2 => exact (Kd.V_reads' HO_1.out).2.1);rintro e w30 ⟨v110,rfl,ho0,hb⟩;replace HO_1 := Aside0.mk (Kd.V_elder' (ZKV HO_1) (Kd.R_base ho0) hb);have HO111 := Aside0.mk (Kd.R_lower (Kd.R_newM (M := fun k_ => (w.heap.size ≤ k_)) ho0 (below_size (ZQ HB)) (fun k_ h_ => h_)) (below_size (ZQ HB)));replace HB := Aside0.mk (below_step (ZQ HB) hb);(try clear hb);(try clear ho0))|((with_reducible refine gate_builtin (b := .append) (xs := #[.tmp 57,.tmp 59]) rfl ?_);at_builtin;refine Kd.R_append (Kd.int .i64) (w0 := w) w.heap.size rfl (.tmp 57) (.tmp 59) 32 3 (.int .i64 0) 8 rfl Try.underlying32 info3 rfl (by decide) (by omega) v110 t109 (rd ((rd_T43 l0 (rd l1 (ji4))).f1) x39_1) [.int .i64 (rd ((rd_T43 l0 (rd l1 (ji4))).f1) x39_1)] (fun k_ => (w.heap.size ≤ k_)) (fun _ => False) rfl rfl ?aP (fun _ hk => hk.elim) ?aF ?aO ?aB ?aS ?aL ?_;(case aP => exact rfl);(case aB => exact (ZQ HB));(case aF => exact (fun k_ hk => (Nat.le_trans (below_size (ZQ HB)) hk)));(case aO => exact (ZK ⟨Kd.R_mono HO111.out (fun _ hk => hk.1)⟩));(case aS => exact (below_size (ZQ HB)));(case aL => have := LMc23.out;omega);intro v113 w31 ho hb hg hat;rw [← Ny112.out] at ho;replace HO_1 := Aside0.mk (Kd.V_afterv (ok := (fun k_ => (P1_ k_ ∨ w.heap.size ≤ k_))) (ZKV HO_1) hg hat);replace HB := Aside0.mk (hb);have HO114 := Aside0.mk (ho);clear HO111;clear ho hb hg hat;obtain ⟨Ao32,co32,eo32⟩ := Kd.R_slice HO114.out;subst eo32)|(go_at_call 67;(with_reducible refine (ih kj16 (by have := HK1.out;have := HJ16.out;omega) _ _ l0 (fun k_ => some k_ = (.slice Ao32 y112.length co32 : Value).ownBlock) _ _ y112 a2 t115 false _ ?side1 ?side2 ?side3 A24.out).mono ?_);(case side1 => exact ZR (Kd.C_below HR0.out HB.out));(case side2 => exact HC0.out);(case side3 => exact Kd.R_V (Kd.R_tight rfl (HO114.out)));rintro e w33 ⟨v116,rfl,ho0,hb⟩;replace HO_1 := ZBV HO_1 hb;have HO117 := Aside0.mk (Kd.V_lower (Kd.V_mono (ok' := fun k_ => (P1_ k_ ∨ w.heap.size ≤ k_)) ho0 (fun k_ hk_ => Or.elim hk_ (fun hs_ => (.inr (((HO114.out).1 k_ hs_.symm)))) (fun hn_ => (.inr (Nat.le_trans (below_size (ZQ HB)) hn_))))) (below_size (ZQ HB)));replace HO114 := ZBR HO114 hb;replace HB := Aside0.mk (below_step (ZQ HB) hb);(try clear hb);(try clear ho0)))
     repeat (go_quiet (first|(go_at_call 84;(with_reducible refine (spec_l1Own.calls _ _ l1 t109 _ ?side1 ?side2 A22.out).mono ?_);(case side1 => exact ZR (Kd.V_reads' HO_1.out).2.2);(case side2 => exact (Kd.V_reads' HO_1.out).2.1);rintro e w30 ⟨v110,rfl,ho0,hb⟩;replace HO_1 := Aside0.mk (Kd.V_elder' (ZKV HO_1) (Kd.R_base ho0) hb);have HO111 := Aside0.mk (Kd.R_lower (Kd.R_newM (M := fun k_ => (w.heap.size ≤ k_)) ho0 (below_size (ZQ HB)) (fun k_ h_ => h_)) (below_size (ZQ HB)));replace HB := Aside0.mk (below_step (ZQ HB) hb);(try clear hb);(try clear ho0))|((with_reducible refine gate_builtin (b := .append) (xs := #[.tmp 57,.tmp 59]) rfl ?_);at_builtin;refine Kd.R_append (Kd.int .i64) (w0 := w) w.heap.size rfl (.tmp 57) (.tmp 59) 32 3 (.int .i64 0) 8 rfl Try.underlying32 info3 rfl (by decide) (by omega) v110 t109 (rd ((rd_T43 l0 (rd l1 (ji4))).f1) x39_1) [.int .i64 (rd ((rd_T43 l0 (rd l1 (ji4))).f1) x39_1)] (fun k_ => (w.heap.size ≤ k_)) (fun _ => False) rfl rfl ?aP (fun _ hk => hk.elim) ?aF ?aO ?aB ?aS ?aL ?_;(case aP => exact rfl);(case aB => exact (ZQ HB));(case aF => exact (fun k_ hk => (Nat.le_trans (below_size (ZQ HB)) hk)));(case aO => exact (ZK ⟨Kd.R_mono HO111.out (fun _ hk => hk.1)⟩));(case aS => exact (below_size (ZQ HB)));(case aL => have := LMc23.out;omega);intro v113 w31 ho hb hg hat;rw [← Ny112.out] at ho;replace HO_1 := Aside0.mk (Kd.V_afterv (ok := (fun k_ => (P1_ k_ ∨ w.heap.size ≤ k_))) (ZKV HO_1) hg hat);replace HB := Aside0.mk (hb);have HO114 := Aside0.mk (ho);clear HO111;clear ho hb hg hat;obtain ⟨Ao32,co32,eo32⟩ := Kd.R_slice HO114.out;subst eo32)|(go_at_call 67;(with_reducible refine (ih kj16 (by have := HK1.out;have := HJ16.out;omega) _ _ l0 (fun k_ => some k_ = (.slice Ao32 y112.length co32 : Value).ownBlock) _ _ y112 a2 t115 false _ ?side1 ?side2 ?side3 A24.out).mono ?_);(case side1 => exact ZR (Kd.C_below HR0.out HB.out));(case side2 => exact HC0.out);(case side3 => exact Kd.R_V (Kd.R_tight rfl (HO114.out)));rintro e w33 ⟨v116,rfl,ho0,hb⟩;replace HO_1 := ZBV HO_1 hb;have HO117 := Aside0.mk (Kd.V_lower (Kd.V_mono (ok' := fun k_ => (P1_ k_ ∨ w.heap.size ≤ k_)) ho0 (fun k_ hk_ => Or.elim hk_ (fun hs_ => (.inr (((HO114.out).1 k_ hs_.symm)))) (fun hn_ => (.inr (Nat.le_trans (below_size (ZQ HB)) hn_))))) (below_size (ZQ HB)));replace HO114 := ZBR HO114 hb;replace HB := Aside0.mk (below_step (ZQ HB) hb);(try clear hb);(try clear ho0)));try go_wp2_with (first|(go_at_call 84;(with_reducible refine (spec_l1Own.calls _ _ l1 t109 _ ?side1 ?side2 A22.out).mono ?_);(case side1 => exact ZR (Kd.V_reads' HO_1.out).2.2);(case side2 => exact (Kd.V_reads' HO_1.out).2.1);rintro e w30 ⟨v110,rfl,ho0,hb⟩;replace HO_1 := Aside0.mk (Kd.V_elder' (ZKV HO_1) (Kd.R_base ho0) hb);have HO111 := Aside0.mk (Kd.R_lower (Kd.R_newM (M := fun k_ => (w.heap.size ≤ k_)) ho0 (below_size (ZQ HB)) (fun k_ h_ => h_)) (below_size (ZQ HB)));replace HB := Aside0.mk (below_step (ZQ HB) hb);(try clear hb);(try clear ho0))|((with_reducible refine gate_builtin (b := .append) (xs := #[.tmp 57,.tmp 59]) rfl ?_);at_builtin;refine Kd.R_append (Kd.int .i64) (w0 := w) w.heap.size rfl (.tmp 57) (.tmp 59) 32 3 (.int .i64 0) 8 rfl Try.underlying32 info3 rfl (by decide) (by omega) v110 t109 (rd ((rd_T43 l0 (rd l1 (ji4))).f1) x39_1) [.int .i64 (rd ((rd_T43 l0 (rd l1 (ji4))).f1) x39_1)] (fun k_ => (w.heap.size ≤ k_)) (fun _ => False) rfl rfl ?aP (fun _ hk => hk.elim) ?aF ?aO ?aB ?aS ?aL ?_;(case aP => exact rfl);(case aB => exact (ZQ HB));(case aF => exact (fun k_ hk => (Nat.le_trans (below_size (ZQ HB)) hk)));(case aO => exact (ZK ⟨Kd.R_mono HO111.out (fun _ hk => hk.1)⟩));(case aS => exact (below_size (ZQ HB)));(case aL => have := LMc23.out;omega);intro v113 w31 ho hb hg hat;rw [← Ny112.out] at ho;replace HO_1 := Aside0.mk (Kd.V_afterv (ok := (fun k_ => (P1_ k_ ∨ w.heap.size ≤ k_))) (ZKV HO_1) hg hat);replace HB := Aside0.mk (hb);have HO114 := Aside0.mk (ho);clear HO111;clear ho hb hg hat;obtain ⟨Ao32,co32,eo32⟩ := Kd.R_slice HO114.out;subst eo32)|(go_at_call 67;(with_reducible refine (ih kj16 (by have := HK1.out;have := HJ16.out;omega) _ _ l0 (fun k_ => some k_ = (.slice Ao32 y112.length co32 : Value).ownBlock) _ _ y112 a2 t115 false _ ?side1 ?side2 ?side3 A24.out).mono ?_);(case side1 => exact ZR (Kd.C_below HR0.out HB.out));(case side2 => exact HC0.out);(case side3 => exact Kd.R_V (Kd.R_tight rfl (HO114.out)));rintro e w33 ⟨v116,rfl,ho0,hb⟩;replace HO_1 := ZBV HO_1 hb;have HO117 := Aside0.mk (Kd.V_lower (Kd.V_mono (ok' := fun k_ => (P1_ k_ ∨ w.heap.size ≤ k_)) ho0 (fun k_ hk_ => Or.elim hk_ (fun hs_ => (.inr (((HO114.out).1 k_ hs_.symm)))) (fun hn_ => (.inr (Nat.le_trans (below_size (ZQ HB)) hn_))))) (below_size (ZQ HB)));replace HO114 := ZBR HO114 hb;replace HB := Aside0.mk (below_step (ZQ HB) hb);(try clear hb);(try clear ho0))))
     go_roundg kj16
     case measure => have := HK1.out;have := HJ16.out;omega
     case rel => exact ⟨(wrap64 (x39_1 + 1)),(by first|rfl|(simp;done)|(simp [*];done)),H',⟨by have := HK1.out;have := HJ16.out;omega⟩,⟨ZKV ⟨Kd.V_mono HO_1.out (fun _ hk => hk.1)⟩⟩,⟨ZQ HB⟩⟩
end Go.Proofs.Ytgnijnlgbelifaa.Q
