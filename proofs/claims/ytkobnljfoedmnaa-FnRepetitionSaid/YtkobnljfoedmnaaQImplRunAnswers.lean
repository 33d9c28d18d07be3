-- Written for the seat Ytkobnljfoedmnaa by a program of this session (wip/tool/gx.py) out of the translation. Lean checks it.
import Derived.Test.YtkobnljfoedmnaaQ0
import Derived.Test.YtkobnljfoedmnaaGCall
import Derived.Test.YtkobnljfoedmnaaQBImplCardOf
import Derived.Test.YtkobnljfoedmnaaQBSlicesCloneImplCard
import Derived.Test.YtkobnljfoedmnaaQImplAllOfImplAnswer
import Derived.Test.YtkobnljfoedmnaaQImplAreCards
import Derived.Test.YtkobnljfoedmnaaQImplCardAnswered
import Derived.Test.YtkobnljfoedmnaaWTab
import Derived.Test.YtkobnljfoedmnaaWApart
import Derived.Test.YtkobnljfoedmnaaWFoot
import Derived.Test.YtkobnljfoedmnaaWKept
import Derived.Test.YtkobnljfoedmnaaWShare
import Derived.Test.YtkobnljfoedmnaaWN
import Derived.Test.YtkobnljfoedmnaaWRepsOne
import Derived.Test.YtkobnljfoedmnaaWGuard
namespace Go.Proofs.Ytkobnljfoedmnaa.Q
open Go.RowKit Go.Proofs.YtkobnljfoedmnaaW.PrintWords Go.Proofs.YtkobnljfoedmnaaW.PrintLast Go.Proofs.YtkobnljfoedmnaaW.PrintMore Go.Proofs.YtkobnljfoedmnaaW.GCall
attribute [local go_sem] max2_int min2_int max_two min_two max_three min_three max_four min_four   -- for this text's walks alone
set_option linter.unusedVariables false
set_option linter.unusedSimpArgs false

/-! ### impl_RunAnswers: function 9 -/
mutual
def impl_RunAnswers.j0 : Nat → List (S24) → List (S45) → Bool → Option ((List (S24)) × List Int × Bool)
 | 0,_,_,_ => none
 | k + 1,x0,x1,x26 => if x26 = true then (some (([] : List (S24)),([] : List Int),false)) else ((slices_Clone_impl_Card.f x0).bind fun t103 => (impl_RunAnswers.l0 k t103 ([] : List Int) x1 (x1.length : Int) 0))
def impl_RunAnswers.l0 : Nat → List (S24) → List Int → List (S45) → Int → Int → Option ((List (S24)) × List Int × Bool)
 | 0,_,_,_,_,_ => none
 | k + 1,x7,x8,x29,x30,x31 => if x31 < x30 then (if 0 ≤ x31 then (if x31 < (x29.length : Int) then ((impl_cardOf.f x7 ((rd_T45 x29 x31).f1)).bind fun t108 => (if t108 < 0 then (if x8.length < 17592186044416 then (impl_RunAnswers.l0 k x7 (x8 ++ [x31]) x29 x30 (wrap64 (x31 + 1))) else (none)) else (if 0 ≤ t108 then (if t108 < (x7.length : Int) then ((impl_Card_answered.f k ((rd_T24 x7 t108).f0) ((rd_T24 x7 t108).f1) ((rd_T24 x7 t108).f2) ((rd_T45 x29 x31).f0) ((rd_T45 x29 x31).f2)).bind fun bt113 => (if bt113.2.2.2 = true then (impl_RunAnswers.l0 k (x7.set (t108 : Int).toNat (⟨bt113.1,bt113.2.1,bt113.2.2.1⟩ : S24)) x8 x29 x30 (wrap64 (x31 + 1))) else (if x8.length < 17592186044416 then (impl_RunAnswers.l0 k x7 (x8 ++ [x31]) x29 x30 (wrap64 (x31 + 1))) else (none)))) else (none)) else (none)))) else (none)) else (none)) else (some (x7,x8,true))
end
def impl_RunAnswers.f (k : Nat) (l0 : List (S24)) (l1 : List (S45)) : Option ((List (S24)) × List Int × Bool) := (impl_AreCards.f k l0).bind fun t101 => (if t101 = true then (if (l1.length : Int) > 40 then (impl_RunAnswers.j0 k l0 l1 true) else ((impl_allOf_impl_Answer.f k l1).bind fun t102 => (impl_RunAnswers.j0 k l0 l1 (!t102)))) else (impl_RunAnswers.j0 k l0 l1 true))
theorem impl_RunAnswers.mono_l : ∀ k,(∀ y0 y1 y2,LeO (impl_RunAnswers.j0 k y0 y1 y2) (impl_RunAnswers.j0 (k + 1) y0 y1 y2)) ∧ (∀ y0 y1 y2 y3 y4,LeO (impl_RunAnswers.l0 k y0 y1 y2 y3 y4) (impl_RunAnswers.l0 (k + 1) y0 y1 y2 y3 y4))
 | 0 => ⟨fun _ _ _ r h => by simp [impl_RunAnswers.j0] at h,fun _ _ _ _ _ r h => by simp [impl_RunAnswers.l0] at h⟩
 | k + 1 => by
  obtain ⟨ih0,ih1⟩ := impl_RunAnswers.mono_l k
  refine ⟨?_,?_⟩
  ·intro y0 y1 y2
   unfold impl_RunAnswers.j0
   repeat' first
   | (with_reducible exact ih0 _ _ _)
   | (with_reducible exact ih1 _ _ _ _ _)
   | (with_reducible exact impl_AreCards.mono _ _)
   | (with_reducible exact impl_Card_answered.mono _ _ _ _ _ _)
   | (with_reducible exact impl_allOf_impl_Answer.mono _ _)
   | (with_reducible exact LeO.refl _)
   | (with_reducible exact LeO.none _)
   | (with_reducible refine LeO.ite ?_ ?_)
   | (with_reducible refine LeO.bind ?_ (fun _ => ?_))
  ·intro y0 y1 y2 y3 y4
   unfold impl_RunAnswers.l0
   repeat' first
   | (with_reducible exact ih0 _ _ _)
   | (with_reducible exact ih1 _ _ _ _ _)
   | (with_reducible exact impl_AreCards.mono _ _)
   | (with_reducible exact impl_Card_answered.mono _ _ _ _ _ _)
   | (with_reducible exact impl_allOf_impl_Answer.mono _ _)
   | (with_reducible exact LeO.refl _)
   | (with_reducible exact LeO.none _)
   | (with_reducible refine LeO.ite ?_ ?_)
   | (with_reducible refine LeO.bind ?_ (fun _ => ?_))
theorem impl_RunAnswers.mono : ∀ a0 a1 k,LeO (impl_RunAnswers.f k a0 a1) (impl_RunAnswers.f (k + 1) a0 a1) := by
 intro a0 a1 k
 obtain ⟨ih0,ih1⟩ := impl_RunAnswers.mono_l k
 unfold impl_RunAnswers.f
 repeat' first
   | (with_reducible exact ih0 _ _ _)
   | (with_reducible exact ih1 _ _ _ _ _)
   | (with_reducible exact impl_AreCards.mono _ _)
   | (with_reducible exact impl_Card_answered.mono _ _ _ _ _ _)
   | (with_reducible exact impl_allOf_impl_Answer.mono _ _)
   | (with_reducible exact LeO.refl _)
   | (with_reducible exact LeO.none _)
   | (with_reducible refine LeO.ite ?_ ?_)
   | (with_reducible refine LeO.bind ?_ (fun _ => ?_))
def impl_RunAnswers.T11 : Bool × List (List Nat × List Nat) := (true,[([],[]),([],[]),([0,1],[0,1]),([2],[2]),([],[]),([4],[4]),([],[]),([6],[6]),([3,5,7],[3,5,7]),([8],[8]),([9],[9]),([9],[9]),([],[]),([12,10,8,0,1,2,3,4,5,6,7,8,9,10,12],[10,12]),([11,13,0,1,2,3,4,5,6,7,8,9,10,11,12,13],[11])])
def impl_RunAnswers.B11 : List Nat := [0,0,3,7,0,16,0,64,255,511,1023,1023,0,6143,16383]
theorem impl_RunAnswers.tab11 : rtab .any (opsOf Try.f9 11) = impl_RunAnswers.T11 := by kernel_rfl
theorem impl_RunAnswers.bits11 : waitsOk impl_RunAnswers.T11.2 impl_RunAnswers.B11 = true := by kernel_rfl
set_option maxHeartbeats 3000000 in
set_option maxRecDepth 100000 in
theorem impl_RunAnswers.calls (k : Nat) (A0 : Option Addr) (c0 : Nat) (l0 : List (S24)) (A1 : Option Addr) (c1 : Nat) (l1 : List (S45)) (r1 : List (S24)) (r2 : List Int) (r3 : Bool) (w : World) (hr0 : Kd.C k24 w A0 l0.length l0) (hc0 : l0.length ≤ c0) (hr1 : Kd.C k45 w A1 l1.length l1) (hc1 : l1.length ≤ c1) (h : impl_RunAnswers.f k l0 l1 = some (r1,r2,r3)) :
  Calls Try.prog 9 #[.slice A0 l0.length c0,.slice A1 l1.length c1] w fun e w' => ∃ v0_ v1_ : Value,e = .returned (.tuple #[v0_,v1_,.bool r3]) ∧ Kd.R k24 24 w' w.heap.size (fun _ => True) v0_ r1 ∧ Kd.R (Kd.int .i64) 3 w' w.heap.size (fun _ => True) v1_ r2 ∧ Below w.heap.size w w' := by
 have hu45 := Try.underlying45
 have hu24 := Try.underlying24
 have HR0 := Aside0.mk hr0
 have HC0 := Aside0.mk hc0
 clear hr0 hc0
 have HR1 := Aside0.mk hr1
 have HC1 := Aside0.mk hc1
 clear hr1 hc1
 have HB := Aside0.mk (Below.refl w.heap.size w)
 have H : ((impl_AreCards.f k l0).bind fun t101 => (if t101 = true then (if (l1.length : Int) > 40 then (impl_RunAnswers.j0 k l0 l1 true) else ((impl_allOf_impl_Answer.f k l1).bind fun t102 => (impl_RunAnswers.j0 k l0 l1 (!t102)))) else (impl_RunAnswers.j0 k l0 l1 true))) = some (r1,r2,r3) := h
 clear h
 have HC3 := Aside0.mk H
 clear H
 go_enter Try.func9,Try.ntmps9
 go_upto_region 1 with (fail)
 go_cut [26] (fun v26 wc => ∃ (kq : Nat) (x26_2 : Bool),v26 = .bool x26_2 ∧ Aside0 (impl_RunAnswers.j0 kq l0 l1 x26_2 = some (r1,r2,r3)) ∧ Aside0 (kq ≤ k) ∧ Aside0 (Below w.heap.size w wc))
 case first =>
  have H := HC3.out
  clear HC3
  replace H := Option.bind_eq_some_iff.mp H
  obtain ⟨t101,A40,H⟩ := H
  try dsimp only at H
  have A4 := Aside0.mk A40
  clear A40
  by_cases c5 : t101 = true
  ·subst c5
   rw [if_pos rfl] at H
   by_cases c6 : (l1.length : Int) > 40
   ·rw [if_pos c6] at H
    have c6b0 : decide (40 < (l1.length : Int)) = true := decide_eq_true c6
    have c6b1 : decide (40 < l1.length) = true := decide_eq_true (by omega)
    clear c6
    (first|rw [c6b0] | (simp only [i64_w,i32_w];rw [c6b0]) | skip)
    have H' := Aside0.mk H
    clear H
    go_wp2_with (first|((with_reducible refine gate_callee (f := 16) rfl ?_);refine goesM_ (some 15) Try.func16 #[.slice A0 l0.length c0] ?_;(with_reducible refine (impl_AreCards.calls k _ _ l0 true _ ?side1 ?side2 A4.out).mono ?_);(case side1 => repeat (first|exact (Kd.C_below HR0.out HB.out)|(with_reducible refine Kd.C_alloc ?_ _)|(with_reducible refine Kd.C_drewN ?_ _)|(with_reducible refine Kd.C_drew ?_)));(case side2 => exact HC0.out);rintro e w7 ⟨rfl,hb⟩;refine ⟨_,rfl,?_⟩;have n0_ := Aside0.mk (below_step (by repeat (first|exact HB.out | apply zbA | apply zbB | apply zbC)) hb);clear HB;have HB := n0_;clear n0_;(try clear hb)))
    go_meet
    case rel => exact ⟨_,(true),(by first|rfl | (simp;done)|(simp [*];done)),H',⟨by first|omega | exact Nat.le_refl _⟩,⟨by repeat (first|exact HB.out | apply zbA | apply zbB | apply zbC)⟩⟩
   ·rw [if_neg c6] at H
    have c6b0 : decide (40 < (l1.length : Int)) = false := decide_eq_false c6
    have c6b1 : decide (40 < l1.length) = false := decide_eq_false (by omega)
    clear c6
    (first|rw [c6b0] | (simp only [i64_w,i32_w];rw [c6b0]) | skip)
    replace H := Option.bind_eq_some_iff.mp H
    obtain ⟨t102,A80,H⟩ := H
    try dsimp only at H
    have A8 := Aside0.mk A80
    clear A80
    have H' := Aside0.mk H
    clear H
    go_wp2_with (first|((with_reducible refine gate_callee (f := 16) rfl ?_);refine goesM_ (some 15) Try.func16 #[.slice A0 l0.length c0] ?_;(with_reducible refine (impl_AreCards.calls k _ _ l0 true _ ?side1 ?side2 A4.out).mono ?_);(case side1 => repeat (first|exact (Kd.C_below HR0.out HB.out)|(with_reducible refine Kd.C_alloc ?_ _)|(with_reducible refine Kd.C_drewN ?_ _)|(with_reducible refine Kd.C_drew ?_)));(case side2 => exact HC0.out);rintro e w9 ⟨rfl,hb⟩;refine ⟨_,rfl,?_⟩;have n0_ := Aside0.mk (below_step (by repeat (first|exact HB.out | apply zbA | apply zbB | apply zbC)) hb);clear HB;have HB := n0_;clear n0_;(try clear hb))|(go_at_call 45;(with_reducible refine (impl_allOf_impl_Answer.calls k _ _ l1 t102 _ ?side1 ?side2 A8.out).mono ?_);(case side1 => repeat (first|exact (Kd.C_below HR1.out HB.out)|(with_reducible refine Kd.C_alloc ?_ _)|(with_reducible refine Kd.C_drewN ?_ _)|(with_reducible refine Kd.C_drew ?_)));(case side2 => exact HC1.out);rintro e w10 ⟨rfl,hb⟩;have n0_ := Aside0.mk (below_step (by repeat (first|exact HB.out | apply zbA | apply zbB | apply zbC)) hb);clear HB;have HB := n0_;clear n0_;(try clear hb)))
    go_meet
    case rel => exact ⟨_,(!t102),(by first|rfl | (simp;done)|(simp [*];done)),H',⟨by first|omega | exact Nat.le_refl _⟩,⟨by repeat (first|exact HB.out | apply zbA | apply zbB | apply zbC)⟩⟩
  ·replace c5 := Bool.eq_false_iff.mpr c5
   subst c5
   rw [if_neg (show ¬ (false = true) by decide)] at H
   have H' := Aside0.mk H
   clear H
   go_wp2_with (first|((with_reducible refine gate_callee (f := 16) rfl ?_);refine goesM_ (some 15) Try.func16 #[.slice A0 l0.length c0] ?_;(with_reducible refine (impl_AreCards.calls k _ _ l0 false _ ?side1 ?side2 A4.out).mono ?_);(case side1 => repeat (first|exact (Kd.C_below HR0.out HB.out)|(with_reducible refine Kd.C_alloc ?_ _)|(with_reducible refine Kd.C_drewN ?_ _)|(with_reducible refine Kd.C_drew ?_)));(case side2 => exact HC0.out);rintro e w11 ⟨rfl,hb⟩;refine ⟨_,rfl,?_⟩;have n0_ := Aside0.mk (below_step (by repeat (first|exact HB.out | apply zbA | apply zbB | apply zbC)) hb);clear HB;have HB := n0_;clear n0_;(try clear hb)))
   go_meet
   case rel => exact ⟨_,(true),(by first|rfl | (simp;done)|(simp [*];done)),H',⟨by first|omega | exact Nat.le_refl _⟩,⟨by repeat (first|exact HB.out | apply zbA | apply zbB | apply zbC)⟩⟩
 case rest =>
  clear HC3
  (try clear c1);(try clear p2);(try clear c5);(try clear c6);(try clear c6b0);(try clear c6b1);(try clear c9)
  obtain ⟨kq,x26_2,rfl,HA,HJ2,HB⟩ := hcut
  cases kq with
  | zero => exact absurd HA.out (by simp [impl_RunAnswers.j0])
  | succ kj2 =>
   have H := HA.out
   clear HA
   simp only [impl_RunAnswers.j0] at H
   by_cases c12 : x26_2 = true
   ·subst c12
    rw [if_pos rfl] at H
    simp only [Option.some.injEq,Prod.mk.injEq] at H
    obtain ⟨rfl,rfl,rfl⟩ := H
    go_wp2
    go_ret3
    exact ⟨_,_,by first|rfl | (simp [*,errW_none,errW_some] <;> rfl),by first|exact Kd.R_nil _ _ _ _ _ | exact Kd.N_nil _ _ _ _ _ | exact Kd.V_nil _ _ _ _ _ | exact Kd.Q_nil _ _ _ _ _ | exact Kd.S_nil _ _ _ _ _,by first|exact Kd.R_nil _ _ _ _ _ | exact Kd.N_nil _ _ _ _ _ | exact Kd.V_nil _ _ _ _ _ | exact Kd.Q_nil _ _ _ _ _ | exact Kd.S_nil _ _ _ _ _,by repeat (first|exact HB.out | apply zbA | apply zbB | apply zbC)⟩
   ·replace c12 := Bool.eq_false_iff.mpr c12
    subst c12
    rw [if_neg (show ¬ (false = true) by decide)] at H
    replace H := Option.bind_eq_some_iff.mp H
    obtain ⟨t103,A130,H⟩ := H
    try dsimp only at H
    have A13 := Aside0.mk A130
    clear A130
    have H' := Aside0.mk H
    clear H
    go_wp2_with (first|((with_reducible refine gate_callee (f := 48) rfl ?_);refine goesM_ (some 28) Try.func48 #[.slice A0 l0.length c0] ?_;(with_reducible refine (slices_Clone_impl_Card.calls _ _ l0 t103 _ ?side1 ?side2 A13.out).mono ?_);(case side1 => repeat (first|exact (Kd.C_below HR0.out HB.out)|(with_reducible refine Kd.C_alloc ?_ _)|(with_reducible refine Kd.C_drewN ?_ _)|(with_reducible refine Kd.C_drew ?_)));(case side2 => exact HC0.out);rintro e w14 ⟨v104,rfl,ho0,hb⟩;refine ⟨_,rfl,?_⟩;have n0_ := Aside0.mk (Kd.R_lower ho0 (below_size (by repeat (first|exact HB.out | apply zbA | apply zbB | apply zbC))));have n1_ := Aside0.mk (below_step (by repeat (first|exact HB.out | apply zbA | apply zbB | apply zbC)) hb);clear HB;have HO105 := n0_;have HB := n1_;clear n0_ n1_;(try clear hb);(try clear ho0)))
    go_loopg [8,31] kj2 (fun kq v8 v31 w' => ∃ (x7_2 : List (S24)) (x8_2 : List Int) (x31_2 : Int),v31 = .int .i64 x31_2 ∧ Aside0 (impl_RunAnswers.l0 kq x7_2 x8_2 l1 (l1.length : Int) x31_2 = some (r1,r2,r3)) ∧ Aside0 (kq ≤ kj2) ∧ Aside0 (Kd.R k24 24 w' w.heap.size (fun _ => True) v104 x7_2) ∧ Aside0 (Kd.R (Kd.int .i64) 3 w' w.heap.size (fun _ => True) v8 x8_2) ∧ Aside0 (Below w.heap.size w w'))
    case atStart => exact ⟨(t103),(([] : List Int)),(0),(by first|rfl | (simp;done)|(simp [*];done)),H',⟨Nat.le_refl _⟩,⟨by (with_reducible repeat (first|apply zkA | apply zkB | apply zkC));exact HO105.out⟩,⟨by first|exact Kd.R_nil _ _ _ _ _ | exact Kd.N_nil _ _ _ _ _ | exact Kd.V_nil _ _ _ _ _ | exact Kd.Q_nil _ _ _ _ _ | exact Kd.S_nil _ _ _ _ _⟩,⟨by repeat (first|exact HB.out | apply zbA | apply zbB | apply zbC)⟩⟩
    case round =>
     clear H'
     (try clear c1);(try clear p2);(try clear c4);(try clear c5);(try clear c6);(try clear c6b0);(try clear c6b1);(try clear c9);(try clear c12);(try clear p2)
     obtain ⟨x7_2,x8_2,x31_2,rfl,HA,HK2,HO_7,HO_8,HB⟩ := hrel
     cases gk with
     | zero => exact absurd HA.out (by simp [impl_RunAnswers.l0])
     | succ k2 =>
      have H := HA.out
      clear HA
      simp only [impl_RunAnswers.l0] at H
      by_cases c15 : x31_2 < (l1.length : Int)
      ·rw [if_pos c15] at H
       have c15b0 : decide (x31_2 < (l1.length : Int)) = true := decide_eq_true c15
       clear c15
       by_cases c16 : 0 ≤ x31_2
       ·rw [if_pos c16] at H
        have c16b0 : decide (0 ≤ x31_2) = true := decide_eq_true c16
        clear c16
        by_cases c17 : x31_2 < (l1.length : Int)
        ·rw [if_pos c17] at H
         have c17b0 : decide (x31_2 < (l1.length : Int)) = true := decide_eq_true c17
         clear c17
         replace H := Option.bind_eq_some_iff.mp H
         obtain ⟨t108,A180,H⟩ := H
         try dsimp only at H
         have A18 := Aside0.mk A180
         clear A180
         by_cases c19 : t108 < 0
         ·rw [if_pos c19] at H
          have c19b0 : decide (t108 < 0) = true := decide_eq_true c19
          clear c19
          by_cases c20 : x8_2.length < 17592186044416
          ·rw [if_pos c20] at H
           have LMc20 := Aside0.mk c20
           clear c20
           obtain ⟨y109,hy109⟩ : ∃ y_ : List Int,y_ = (x8_2 ++ [x31_2]) := ⟨_,rfl⟩
           replace H : (impl_RunAnswers.l0 k2 x7_2 y109 l1 (l1.length : Int) (wrap64 (x31_2 + 1))) = some (r1,r2,r3) := by first|(rw [hy109];with_reducible exact H)|(have H2_ := (Option.bind_some _ _).symm.trans H;rw [hy109];with_reducible exact H2_)|(have H2_ := (Option.bind_some _ _).symm.trans H;with_reducible exact H2_) | with_reducible exact H | (rw [hy109];exact H) | exact H
           have Ny109 := Aside0.mk hy109
           clear hy109
           have H' := Aside0.mk H
           clear H
           have p106 : 0 ≤ (x31_2 : Int) := of_decide_eq_true (by assumption)
           have q106 : x31_2 < (l1.length : Int) := of_decide_eq_true (by assumption)
           obtain ⟨ad106,e106,hx106_0,hx106_1,hx106_2⟩ := at_T45 HR1.out x31_2 p106 q106
           cases e106
           replace hx106_0 := (HB.out.cell (World.block_lt_of_cell? w _ hx106_0)).trans hx106_0
           replace hx106_1 := (HB.out.cell (World.block_lt_of_cell? w _ hx106_1)).trans hx106_1
           replace hx106_2 := (HB.out.cell (World.block_lt_of_cell? w _ hx106_2)).trans hx106_2
           replace p106 := eq_true p106
           replace q106 := eq_true q106
           go_wp2_with (first|((with_reducible refine gate_dst (N := 10) rfl ?_);(try (refine gate_guard (by rfl) ?_;dsimp only));refine box_event ?hg (N := 10) ?hd (cs := #[.int .i64 0,.string (⟨#[]⟩ : ByteArray),.bool false]) (t := 45) ?hr ?_;(case hd => rfl);(case hg => rfl);(case hr => first|(go_simp;done)|(go_simp;rfl));intro gb107 hg w21 hbox hb;have n0_ := Aside0.mk (Kd.R_below (by (with_reducible repeat (first|apply zkA | apply zkB | apply zkC));exact HO_7.out) hb);have n1_ := Aside0.mk (Kd.R_below (by (with_reducible repeat (first|apply zkA | apply zkB | apply zkC));exact HO_8.out) hb);have n2_ := Aside0.mk (below_step (by repeat (first|exact HB.out | apply zbA | apply zbB | apply zbC)) hb);have n3_ := Aside0.mk (hbox);have n4_ := Aside0.mk ((by rw [hg];exact (below_size (by repeat (first|exact HB.out | apply zbA | apply zbB | apply zbC))) : w.heap.size ≤ gb107));have n5_ := Aside0.mk ((by rw [hg];exact (below_size (by repeat (first|exact HB.out | apply zbA | apply zbB | apply zbC))) : w.heap.size ≤ gb107));clear HO_7;clear HO_8;clear HB;have HO_7 := n0_;have HO_8 := n1_;have HB := n2_;have BK107 := n3_;have GW107 := n4_;have GE107 := n5_;clear n0_ n1_ n2_ n3_ n4_ n5_;clear hb hbox hg;have hcz22_0 : w21.cell? ⟨gb107,0,none⟩ = some (.int .i64 0) := (blk_cell BK107.out 0).trans rfl;have hcz22_1 : w21.cell? ⟨gb107,1,none⟩ = some (.string (⟨#[]⟩ : ByteArray)) := (blk_cell BK107.out 1).trans rfl;have hcz22_2 : w21.cell? ⟨gb107,2,none⟩ = some (.bool false) := (blk_cell BK107.out 2).trans rfl;have hfz22_0 := blk_frozen BK107.out 0;have hfz22_1 := blk_frozen BK107.out 1;have hfz22_2 := blk_frozen BK107.out 2;obtain ⟨Ao23,co23,eo23⟩ := Kd.R_slice HO_7.out;subst eo23)|((with_reducible refine gate_callee (f := 49) rfl ?_);refine goesM_ (some 39) Try.func49 #[.slice Ao23 x7_2.length co23,.string ((rd_T45 l1 x31_2).f1)] ?_;(with_reducible refine (impl_cardOf.calls _ _ x7_2 ((rd_T45 l1 x31_2).f1) t108 _ ?side1 ?side2 A18.out).mono ?_);(case side1 => refine (Kd.R_reads' (e := 24) (base := w.heap.size) (ok := fun k_ => True) (n := x7_2.length) (c := co23) ?_).2.2;exact (by (with_reducible repeat (first|apply zkA | apply zkB | apply zkC));exact (Kd.R_mono (Kd.R_far (p := ⟨gb107,2,none⟩) (Kd.R_far (p := ⟨gb107,1,none⟩) (Kd.R_far (p := ⟨gb107,0,none⟩) (Kd.R_types HO_7.out BK107.out (by decide)) (fun _ hk => hk.2) (.int .i64 ((rd_T45 l1 x31_2).f0))) (fun _ hk => hk.2) (.string ((rd_T45 l1 x31_2).f1))) (fun _ hk => hk.2) (.bool ((rd_T45 l1 x31_2).f2))) (fun _ h_ => h_.1))));(case side2 => exact (Kd.R_reads' HO_7.out).2.1);rintro e w24 ⟨rfl,hb⟩;refine ⟨_,rfl,?_⟩;have n0_ := Aside0.mk (Kd.R_below (by (with_reducible repeat (first|apply zkA | apply zkB | apply zkC));exact (Kd.R_mono (Kd.R_far (p := ⟨gb107,2,none⟩) (Kd.R_far (p := ⟨gb107,1,none⟩) (Kd.R_far (p := ⟨gb107,0,none⟩) (Kd.R_types HO_7.out BK107.out (by decide)) (fun _ hk => hk.2) (.int .i64 ((rd_T45 l1 x31_2).f0))) (fun _ hk => hk.2) (.string ((rd_T45 l1 x31_2).f1))) (fun _ hk => hk.2) (.bool ((rd_T45 l1 x31_2).f2))) (fun _ h_ => h_.1))) hb);have n1_ := Aside0.mk (Kd.R_below (by (with_reducible repeat (first|apply zkA | apply zkB | apply zkC));exact (Kd.R_mono (Kd.R_far (p := ⟨gb107,2,none⟩) (Kd.R_far (p := ⟨gb107,1,none⟩) (Kd.R_far (p := ⟨gb107,0,none⟩) (Kd.R_types HO_8.out BK107.out (by decide)) (fun _ hk => hk.2) (.int .i64 ((rd_T45 l1 x31_2).f0))) (fun _ hk => hk.2) (.string ((rd_T45 l1 x31_2).f1))) (fun _ hk => hk.2) (.bool ((rd_T45 l1 x31_2).f2))) (fun _ h_ => h_.1))) hb);have n2_ := Aside0.mk (blk_below (g := gb107) (o := .cells #[.int .i64 ((rd_T45 l1 x31_2).f0),.string ((rd_T45 l1 x31_2).f1),.bool ((rd_T45 l1 x31_2).f2)] 45 (0,0)) (by (with_reducible repeat (first|apply zhA | apply zhB | apply zhC));refine blk_put (cs := #[.int .i64 ((rd_T45 l1 x31_2).f0),.string ((rd_T45 l1 x31_2).f1),.bool false]) ?_ 2 _ rfl;(with_reducible repeat (first|apply zhA | apply zhB | apply zhC));refine blk_put (cs := #[.int .i64 ((rd_T45 l1 x31_2).f0),.string (⟨#[]⟩ : ByteArray),.bool false]) ?_ 1 _ rfl;(with_reducible repeat (first|apply zhA | apply zhB | apply zhC));refine blk_put (cs := #[.int .i64 0,.string (⟨#[]⟩ : ByteArray),.bool false]) ?_ 0 _ rfl;(with_reducible repeat (first|apply zhA | apply zhB | apply zhC));exact BK107.out) hb);have n3_ := Aside0.mk (below_step (by repeat (first|(with_reducible first|exact HB.out | apply zbA | apply zbB | apply zbC | refine below_set ?_ GE107.out) | exact HB.out)) hb);clear HO_7;clear HO_8;clear BK107;clear HB;have HO_7 := n0_;have HO_8 := n1_;have BK107 := n2_;have HB := n3_;clear n0_ n1_ n2_ n3_;(try clear hb))|((with_reducible refine gate_builtin (b := .append) (xs := #[.tmp 42,.tmp 44]) rfl ?_);(try (refine gate_guard (by rfl) ?_;dsimp only));at_builtin;refine Kd.R_append (Kd.int .i64) (w0 := w) w.heap.size rfl (.tmp 42) (.tmp 44) 33 3 (.int .i64 0) 8 rfl Try.underlying33 info3 rfl (by decide) (by omega) u8 x8_2 x31_2 [.int .i64 x31_2] (fun _ => True) (fun _ => False) rfl rfl ?aP (fun _ hk => hk.elim) ?aF ?aO ?aB ?aS ?aL ?_;(case aP => exact rfl);(case aB => exact (by repeat (first|(with_reducible first|exact HB.out | apply zbA | apply zbB | apply zbC | refine below_set ?_ GE107.out) | exact HB.out)));(case aF => exact (fun _ _ => trivial));(case aO => exact (by (with_reducible repeat (first|apply zkA | apply zkB | apply zkC));exact HO_8.out));(case aS => exact (below_size (by repeat (first|(with_reducible first|exact HB.out | apply zbA | apply zbB | apply zbC | refine below_set ?_ GE107.out) | exact HB.out))));(case aL => have := LMc20.out;omega);intro v110 w25 ho hb hg hat;rw [← Ny109.out] at ho;have n0_ := Aside0.mk (Kd.R_over' (by (with_reducible repeat (first|apply zkA | apply zkB | apply zkC));exact HO_7.out) (Kd.R_typed (by (with_reducible repeat (first|apply zkA | apply zkB | apply zkC));exact HO_8.out)) (by decide) hg);have n1_ := Aside0.mk (blk_grown (g := gb107) (o := .cells #[.int .i64 ((rd_T45 l1 x31_2).f0),.string ((rd_T45 l1 x31_2).f1),.bool ((rd_T45 l1 x31_2).f2)] 45 (0,0)) (by (with_reducible repeat (first|apply zhA | apply zhB | apply zhC));exact BK107.out) hg (Kd.R_ne HO_8.out BK107.out (by decide)));have n2_ := Aside0.mk (hb);have n3_ := Aside0.mk (ho);clear HO_7;clear BK107;clear HB;clear HO_8;have HO_7 := n0_;have BK107 := n1_;have HB := n2_;have HO111 := n3_;clear n0_ n1_ n2_ n3_;clear ho hb hg hat))
           go_roundg k2
           case measure => have := HJ2.out;have := HK2.out;omega
           case rel => exact ⟨(x7_2),(y109),(wrap64 (x31_2 + 1)),(by first|rfl | (simp;done)|(simp [*];done)),H',⟨by have := HJ2.out;have := HK2.out;omega⟩,⟨by (with_reducible repeat (first|apply zkA | apply zkB | apply zkC));exact HO_7.out⟩,⟨by (with_reducible repeat (first|apply zkA | apply zkB | apply zkC));exact HO111.out⟩,⟨by repeat (first|(with_reducible first|exact HB.out | apply zbA | apply zbB | apply zbC | refine below_set ?_ GE107.out) | exact HB.out)⟩⟩
          ·rw [if_neg c20] at H
           exact absurd H (by simp)
         ·rw [if_neg c19] at H
          have c19b0 : decide (t108 < 0) = false := decide_eq_false c19
          clear c19
          by_cases c26 : 0 ≤ t108
          ·rw [if_pos c26] at H
           have c26b0 : decide (0 ≤ t108) = true := decide_eq_true c26
           clear c26
           by_cases c27 : t108 < (x7_2.length : Int)
           ·rw [if_pos c27] at H
            have c27b0 : decide (t108 < (x7_2.length : Int)) = true := decide_eq_true c27
            clear c27
            replace H := Option.bind_eq_some_iff.mp H
            obtain ⟨⟨t113,t114,t115,t116⟩,A280,H⟩ := H
            try dsimp only at H
            have A28 := Aside0.mk A280
            clear A280
            by_cases c29 : t116 = true
            ·subst c29
             rw [if_pos rfl] at H
             obtain ⟨y118,hy118⟩ : ∃ y_ : List (S24),y_ = (x7_2.set (t108 : Int).toNat (⟨t113,t114,t115⟩ : S24)) := ⟨_,rfl⟩
             replace H : (impl_RunAnswers.l0 k2 y118 x8_2 l1 (l1.length : Int) (wrap64 (x31_2 + 1))) = some (r1,r2,r3) := by first|(rw [hy118];with_reducible exact H)|(have H2_ := (Option.bind_some _ _).symm.trans H;rw [hy118];with_reducible exact H2_)|(have H2_ := (Option.bind_some _ _).symm.trans H;with_reducible exact H2_) | with_reducible exact H | (rw [hy118];exact H) | exact H
             have Ny118 := Aside0.mk hy118
             clear hy118
             have H' := Aside0.mk H
             clear H
             have p106 : 0 ≤ (x31_2 : Int) := of_decide_eq_true (by assumption)
             have q106 : x31_2 < (l1.length : Int) := of_decide_eq_true (by assumption)
             obtain ⟨ad106,e106,hx106_0,hx106_1,hx106_2⟩ := at_T45 HR1.out x31_2 p106 q106
             cases e106
             replace hx106_0 := (HB.out.cell (World.block_lt_of_cell? w _ hx106_0)).trans hx106_0
             replace hx106_1 := (HB.out.cell (World.block_lt_of_cell? w _ hx106_1)).trans hx106_1
             replace hx106_2 := (HB.out.cell (World.block_lt_of_cell? w _ hx106_2)).trans hx106_2
             replace p106 := eq_true p106
             replace q106 := eq_true q106
             try go_wp2_with (first|((with_reducible refine gate_dst (N := 10) rfl ?_);(try (refine gate_guard (by rfl) ?_;dsimp only));refine box_event ?hg (N := 10) ?hd (cs := #[.int .i64 0,.string (⟨#[]⟩ : ByteArray),.bool false]) (t := 45) ?hr ?_;(case hd => rfl);(case hg => rfl);(case hr => first|(go_simp;done)|(go_simp;rfl));intro gb107 hg w31 hbox hb;have n0_ := Aside0.mk (Kd.R_below (by (with_reducible repeat (first|apply zkA | apply zkB | apply zkC));exact HO_7.out) hb);have n1_ := Aside0.mk (Kd.R_below (by (with_reducible repeat (first|apply zkA | apply zkB | apply zkC));exact HO_8.out) hb);have n2_ := Aside0.mk (below_step (by repeat (first|exact HB.out | apply zbA | apply zbB | apply zbC)) hb);have n3_ := Aside0.mk (hbox);have n4_ := Aside0.mk ((by rw [hg];exact (below_size (by repeat (first|exact HB.out | apply zbA | apply zbB | apply zbC))) : w.heap.size ≤ gb107));have n5_ := Aside0.mk ((by rw [hg];exact (below_size (by repeat (first|exact HB.out | apply zbA | apply zbB | apply zbC))) : w.heap.size ≤ gb107));clear HO_7;clear HO_8;clear HB;have HO_7 := n0_;have HO_8 := n1_;have HB := n2_;have BK107 := n3_;have GW107 := n4_;have GE107 := n5_;clear n0_ n1_ n2_ n3_ n4_ n5_;clear hb hbox hg;have hcz32_0 : w31.cell? ⟨gb107,0,none⟩ = some (.int .i64 0) := (blk_cell BK107.out 0).trans rfl;have hcz32_1 : w31.cell? ⟨gb107,1,none⟩ = some (.string (⟨#[]⟩ : ByteArray)) := (blk_cell BK107.out 1).trans rfl;have hcz32_2 : w31.cell? ⟨gb107,2,none⟩ = some (.bool false) := (blk_cell BK107.out 2).trans rfl;have hfz32_0 := blk_frozen BK107.out 0;have hfz32_1 := blk_frozen BK107.out 1;have hfz32_2 := blk_frozen BK107.out 2;obtain ⟨Ao33,co33,eo33⟩ := Kd.R_slice HO_7.out;subst eo33)|((with_reducible refine gate_callee (f := 49) rfl ?_);refine goesM_ (some 39) Try.func49 #[.slice Ao33 x7_2.length co33,.string ((rd_T45 l1 x31_2).f1)] ?_;(with_reducible refine (impl_cardOf.calls _ _ x7_2 ((rd_T45 l1 x31_2).f1) t108 _ ?side1 ?side2 A18.out).mono ?_);(case side1 => refine (Kd.R_reads' (e := 24) (base := w.heap.size) (ok := fun k_ => True) (n := x7_2.length) (c := co33) ?_).2.2;exact (by (with_reducible repeat (first|apply zkA | apply zkB | apply zkC));exact (Kd.R_mono (Kd.R_far (p := ⟨gb107,2,none⟩) (Kd.R_far (p := ⟨gb107,1,none⟩) (Kd.R_far (p := ⟨gb107,0,none⟩) (Kd.R_types HO_7.out BK107.out (by decide)) (fun _ hk => hk.2) (.int .i64 ((rd_T45 l1 x31_2).f0))) (fun _ hk => hk.2) (.string ((rd_T45 l1 x31_2).f1))) (fun _ hk => hk.2) (.bool ((rd_T45 l1 x31_2).f2))) (fun _ h_ => h_.1))));(case side2 => exact (Kd.R_reads' HO_7.out).2.1);rintro e w34 ⟨rfl,hb⟩;refine ⟨_,rfl,?_⟩;have n0_ := Aside0.mk (Kd.R_below (by (with_reducible repeat (first|apply zkA | apply zkB | apply zkC));exact (Kd.R_mono (Kd.R_far (p := ⟨gb107,2,none⟩) (Kd.R_far (p := ⟨gb107,1,none⟩) (Kd.R_far (p := ⟨gb107,0,none⟩) (Kd.R_types HO_7.out BK107.out (by decide)) (fun _ hk => hk.2) (.int .i64 ((rd_T45 l1 x31_2).f0))) (fun _ hk => hk.2) (.string ((rd_T45 l1 x31_2).f1))) (fun _ hk => hk.2) (.bool ((rd_T45 l1 x31_2).f2))) (fun _ h_ => h_.1))) hb);have n1_ := Aside0.mk (Kd.R_below (by (with_reducible repeat (first|apply zkA | apply zkB | apply zkC));exact (Kd.R_mono (Kd.R_far (p := ⟨gb107,2,none⟩) (Kd.R_far (p := ⟨gb107,1,none⟩) (Kd.R_far (p := ⟨gb107,0,none⟩) (Kd.R_types HO_8.out BK107.out (by decide)) (fun _ hk => hk.2) (.int .i64 ((rd_T45 l1 x31_2).f0))) (fun _ hk => hk.2) (.string ((rd_T45 l1 x31_2).f1))) (fun _ hk => hk.2) (.bool ((rd_T45 l1 x31_2).f2))) (fun _ h_ => h_.1))) hb);have n2_ := Aside0.mk (blk_below (g := gb107) (o := .cells #[.int .i64 ((rd_T45 l1 x31_2).f0),.string ((rd_T45 l1 x31_2).f1),.bool ((rd_T45 l1 x31_2).f2)] 45 (0,0)) (by (with_reducible repeat (first|apply zhA | apply zhB | apply zhC));refine blk_put (cs := #[.int .i64 ((rd_T45 l1 x31_2).f0),.string ((rd_T45 l1 x31_2).f1),.bool false]) ?_ 2 _ rfl;(with_reducible repeat (first|apply zhA | apply zhB | apply zhC));refine blk_put (cs := #[.int .i64 ((rd_T45 l1 x31_2).f0),.string (⟨#[]⟩ : ByteArray),.bool false]) ?_ 1 _ rfl;(with_reducible repeat (first|apply zhA | apply zhB | apply zhC));refine blk_put (cs := #[.int .i64 0,.string (⟨#[]⟩ : ByteArray),.bool false]) ?_ 0 _ rfl;(with_reducible repeat (first|apply zhA | apply zhB | apply zhC));exact BK107.out) hb);have n3_ := Aside0.mk (below_step (by repeat (first|(with_reducible first|exact HB.out | apply zbA | apply zbB | apply zbC | refine below_set ?_ GE107.out) | exact HB.out)) hb);clear HO_7;clear HO_8;clear BK107;clear HB;have HO_7 := n0_;have HO_8 := n1_;have BK107 := n2_;have HB := n3_;clear n0_ n1_ n2_ n3_;(try clear hb)))
             have n0_ := Aside0.mk (Kd.R_drew HO_7.out)
             have n1_ := Aside0.mk (Kd.R_drew HO_8.out)
             have n2_ := Aside0.mk (blk_drew BK107.out)
             have n3_ := Aside0.mk (below_drew1 HB.out)
             clear HO_7
             clear HO_8
             clear BK107
             clear HB
             have HO_7 := n0_
             have HO_8 := n1_
             have BK107 := n2_
             have HB := n3_
             clear n0_ n1_ n2_ n3_
             have p112 : 0 ≤ (t108 : Int) := of_decide_eq_true (by assumption)
             have q112 : t108 < (x7_2.length : Int) := of_decide_eq_true (by assumption)
             obtain ⟨ad112,e112,hx112_0,hx112_1,hx112_2⟩ := at_T24 (Kd.R_reads' HO_7.out).2.2 t108 p112 q112
             cases e112
             replace p112 := eq_true p112
             replace q112 := eq_true q112
             refine start_ (n := 15) (S := fun w' => w'.cell? ⟨gb107,0,none⟩ = some (.int .i64 ((rd_T45 l1 x31_2).f0)) ∧ w'.cell? ⟨gb107,1,none⟩ = some (.string ((rd_T45 l1 x31_2).f1)) ∧ w'.cell? ⟨gb107,2,none⟩ = some (.bool ((rd_T45 l1 x31_2).f2)) ∧ w'.cell? (ad112.add ((t108).toNat * 3)) = some (.string ((rd_T24 x7_2 t108).f0)) ∧ w'.cell? ⟨(ad112.add ((t108).toNat * 3)).block,(ad112.add ((t108).toNat * 3)).off + 1,none⟩ = some (.int .i64 ((rd_T24 x7_2 t108).f1)) ∧ w'.cell? ⟨(ad112.add ((t108).toNat * 3)).block,(ad112.add ((t108).toNat * 3)).off + 2,none⟩ = some (.int .i64 ((rd_T24 x7_2 t108).f2))) (ds := []) #[X,X,X,X,X,X,X,X,X,X,X,X,X,X,X] (by kernel_rfl) rfl rfl ⟨(blk_cell BK107.out 0).trans rfl,(blk_cell BK107.out 1).trans rfl,(blk_cell BK107.out 2).trans rfl,hx112_0,hx112_1,hx112_2⟩ (fun hHeld => ?_);refine with_tabW impl_RunAnswers.tab11 impl_RunAnswers.bits11 (fun HT_ HW_ => ?_)
             generalize w34.drew = w35 at HO_7 HO_8 BK107 HB hx112_0 hx112_1 hx112_2 hHeld ⊢
             refine pure_ (i := 0) (N := some 47) (v := ?_) (a' := ?_) #[Y,X,X,X,X,X,X,X,X,X,X,X,X,X,X] rfl rfl (any_of HT_.out (by kernel_rfl)) (fun _ _ _ h => h) (Or.inl ⟨by rfl,?_⟩) ?_ ?_
             rotate_left
             ·intro w'
              go_simp
              with_reducible rfl
             rotate_left
             ·simp only [Act.put,List.setIfInBounds_toArray,List.set_cons_zero,List.set_cons_succ,i64_w,i32_w]
              rfl
             refine pure_ (i := 1) (N := some 48) (v := ?_) (a' := ?_) #[Y,Y,X,X,X,X,X,X,X,X,X,X,X,X,X] rfl rfl (any_of HT_.out (by kernel_rfl)) (fun _ _ _ h => h) (Or.inl ⟨by rfl,?_⟩) ?_ ?_
             rotate_left
             ·intro w'
              go_simp
              with_reducible rfl
             rotate_left
             ·simp only [Act.put,List.setIfInBounds_toArray,List.set_cons_zero,List.set_cons_succ,i64_w,i32_w]
              rfl
             refine pure_ (i := 2) (N := some 49) (v := ?_) (a' := ?_) #[Y,Y,Y,X,X,X,X,X,X,X,X,X,X,X,X] rfl rfl (any_of HT_.out (by kernel_rfl)) (fun _ _ _ h => h) (Or.inl ⟨by rfl,?_⟩) ?_ ?_
             rotate_left
             ·intro w'
              go_simp
              with_reducible rfl
             rotate_left
             ·simp only [Act.put,List.setIfInBounds_toArray,List.set_cons_zero,List.set_cons_succ,i64_w,i32_w]
              rfl
             refine pure_ (i := 4) (N := some 51) (v := ?_) (a' := ?_) #[Y,Y,Y,X,Y,X,X,X,X,X,X,X,X,X,X] rfl rfl (any_of HT_.out (by kernel_rfl)) (fun _ _ _ h => h) (Or.inl ⟨by rfl,?_⟩) ?_ ?_
             rotate_left
             ·intro w'
              go_simp
              with_reducible rfl
             rotate_left
             ·simp only [Act.put,List.setIfInBounds_toArray,List.set_cons_zero,List.set_cons_succ,i64_w,i32_w]
              rfl
             refine pure_ (i := 6) (N := some 53) (v := ?_) (a' := ?_) #[Y,Y,Y,X,Y,X,Y,X,X,X,X,X,X,X,X] rfl rfl (any_of HT_.out (by kernel_rfl)) (fun _ _ _ h => h) (Or.inl ⟨by rfl,?_⟩) ?_ ?_
             rotate_left
             ·intro w'
              go_simp
              with_reducible rfl
             rotate_left
             ·simp only [Act.put,List.setIfInBounds_toArray,List.set_cons_zero,List.set_cons_succ,i64_w,i32_w]
              rfl
             refine take_ (i := 3) (N := some 50) (v := ?_) (a' := ?_) #[Y,Y,Y,Y,Y,X,Y,X,X,X,X,X,X,X,X] rfl rfl (take_ofW HT_.out HW_.out (by kernel_rfl)) (fun _ _ _ h => h) (Or.inl ⟨by rfl,?_⟩) hHeld ?_ ?_
             rotate_left
             ·rintro w' ⟨s0,s1,s2,s3,s4,s5⟩
              go_simp
              with_reducible rfl
             rotate_left
             ·simp only [Act.put,List.setIfInBounds_toArray,List.set_cons_zero,List.set_cons_succ,i64_w,i32_w]
              rfl
             refine take_ (i := 5) (N := some 52) (v := ?_) (a' := ?_) #[Y,Y,Y,Y,Y,Y,Y,X,X,X,X,X,X,X,X] rfl rfl (take_ofW HT_.out HW_.out (by kernel_rfl)) (fun _ _ _ h => h) (Or.inl ⟨by rfl,?_⟩) hHeld ?_ ?_
             rotate_left
             ·rintro w' ⟨s0,s1,s2,s3,s4,s5⟩
              go_simp
              with_reducible rfl
             rotate_left
             ·simp only [Act.put,List.setIfInBounds_toArray,List.set_cons_zero,List.set_cons_succ,i64_w,i32_w]
              rfl
             refine take_ (i := 7) (N := some 54) (v := ?_) (a' := ?_) #[Y,Y,Y,Y,Y,Y,Y,Y,X,X,X,X,X,X,X] rfl rfl (take_ofW HT_.out HW_.out (by kernel_rfl)) (fun _ _ _ h => h) (Or.inl ⟨by rfl,?_⟩) hHeld ?_ ?_
             rotate_left
             ·rintro w' ⟨s0,s1,s2,s3,s4,s5⟩
              go_simp
              with_reducible rfl
             rotate_left
             ·simp only [Act.put,List.setIfInBounds_toArray,List.set_cons_zero,List.set_cons_succ,i64_w,i32_w]
              rfl
             refine join_ (σ := Nat) 2 #[Y,Y,Y,Y,Y,Y,Y,Y,Y,Y,Y,Y,Y,X,X] (fun s_ => [(55,.tuple #[.agg #[.string t113,.int .i64 t114,.int .i64 t115],.bool true]),(12,.pointer (some ⟨s_,0,none⟩)),(46,.tuple #[.agg #[.string t113,.int .i64 t114,.int .i64 t115],.bool true]),(56,.agg #[.string t113,.int .i64 t114,.int .i64 t115]),(57,.bool true)]) (fun s_ w' => (w'.cell? ⟨gb107,0,none⟩ = some (.int .i64 ((rd_T45 l1 x31_2).f0)) ∧ w'.cell? ⟨gb107,1,none⟩ = some (.string ((rd_T45 l1 x31_2).f1)) ∧ w'.cell? ⟨gb107,2,none⟩ = some (.bool ((rd_T45 l1 x31_2).f2)) ∧ w'.cell? (ad112.add ((t108).toNat * 3)) = some (.string ((rd_T24 x7_2 t108).f0)) ∧ w'.cell? ⟨(ad112.add ((t108).toNat * 3)).block,(ad112.add ((t108).toNat * 3)).off + 1,none⟩ = some (.int .i64 ((rd_T24 x7_2 t108).f1)) ∧ w'.cell? ⟨(ad112.add ((t108).toNat * 3)).block,(ad112.add ((t108).toNat * 3)).off + 2,none⟩ = some (.int .i64 ((rd_T24 x7_2 t108).f2))) ∧ (Kd.R k24 24 w' w.heap.size (fun k_ => k_ ≠ s_) (.slice (some ad112) x7_2.length co33) x7_2) ∧ (Kd.R (Kd.int .i64) 3 w' w.heap.size (fun _ => True) u8 x8_2) ∧ (w'.heap[gb107]? = some (.cells #[.int .i64 ((rd_T45 l1 x31_2).f0),.string ((rd_T45 l1 x31_2).f1),.bool ((rd_T45 l1 x31_2).f2)] 45 (0,0))) ∧ (w'.heap[s_]? = some (.cells #[.string (⟨#[]⟩ : ByteArray),.int .i64 0,.int .i64 0] 24 (0,0))) ∧ (w.heap.size ≤ s_) ∧ (w.heap.size ≤ s_) ∧ (gb107 ≠ s_) ∧ (s_ ≠ gb107) ∧ (Below w.heap.size w w')) ?_ ?_
             rotate_left
             ·intro hCont
              refine two_ (i := 8) (j := 12) (Ni := some 55) (Nj := some 12) #[Y,Y,Y,Y,Y,Y,Y,Y,Y,X,X,X,X,X,X] #[Y,Y,Y,Y,Y,Y,Y,Y,X,X,X,X,Y,X,X] rfl rfl rfl rfl (two_of HT_.out (by kernel_rfl)) (by decide) (by decide) (fun K hK => ?_) (fun K hK => ?_)
              ·skip
               refine goes_ Try.func37 (by kernel_rfl) rfl #[.agg #[.string ((rd_T24 x7_2 t108).f0),.int .i64 ((rd_T24 x7_2 t108).f1),.int .i64 ((rd_T24 x7_2 t108).f2)],.int .i64 ((rd_T45 l1 x31_2).f0),.bool ((rd_T45 l1 x31_2).f2)] (by rfl) rfl rfl (by (try simp only [List.map_toArray,List.map_cons,List.map_nil]);first|done | rfl | (simp only [List.length_drop,List.length_take];rfl)) ?_
               with_reducible refine (impl_Card_answered.calls k2 ((rd_T24 x7_2 t108).f0) ((rd_T24 x7_2 t108).f1) ((rd_T24 x7_2 t108).f2) ((rd_T45 l1 x31_2).f0) ((rd_T45 l1 x31_2).f2) t113 t114 t115 true _ A28.out).mono ?_
               rintro e w36 ⟨rfl,hb⟩
               have HS3_ := (hb.cell (World.block_lt_of_cell? _ _ (hHeld.2.2.2.1))).trans (hHeld.2.2.2.1)
               have HS4_ := (hb.cell (World.block_lt_of_cell? _ _ (hHeld.2.2.2.2.1))).trans (hHeld.2.2.2.2.1)
               have HS5_ := (hb.cell (World.block_lt_of_cell? _ _ (hHeld.2.2.2.2.2))).trans (hHeld.2.2.2.2.2)
               refine ⟨_,rfl,?_⟩
               have n0_ := Aside0.mk (Kd.R_below (by (with_reducible repeat (first|apply zkA | apply zkB | apply zkC));exact HO_7.out) hb)
               have n1_ := Aside0.mk (Kd.R_below (by (with_reducible repeat (first|apply zkA | apply zkB | apply zkC));exact HO_8.out) hb)
               have n2_ := Aside0.mk (blk_below (g := gb107) (o := .cells #[.int .i64 ((rd_T45 l1 x31_2).f0),.string ((rd_T45 l1 x31_2).f1),.bool ((rd_T45 l1 x31_2).f2)] 45 (0,0)) (by (with_reducible repeat (first|apply zhA | apply zhB | apply zhC));exact BK107.out) hb)
               have n3_ := Aside0.mk (below_step (by repeat (first|(with_reducible first|exact HB.out | apply zbA | apply zbB | apply zbC | refine below_set ?_ GE107.out) | exact HB.out)) hb)
               clear HO_7
               clear HO_8
               clear BK107
               clear HB
               have HO_7 := n0_
               have HO_8 := n1_
               have BK107 := n2_
               have HB := n3_
               clear n0_ n1_ n2_ n3_
               (try clear hb)
               (try clear hb2)
               (try clear hk)
               (try clear hi)
               refine hK.out _ _ ⟨(blk_cell BK107.out 0).trans rfl,(blk_cell BK107.out 1).trans rfl,(blk_cell BK107.out 2).trans rfl,HS3_,HS4_,HS5_⟩ (fun hHeld => ?_)
               clear hK K
               refine norm_ (a' := ?_) ?_ ?_
               rotate_left
               ·show Act.put _ (some 55) _ = _
                simp only [Act.put,List.setIfInBounds_toArray,List.set_cons_zero,List.set_cons_succ,i64_w,i32_w]
                rfl
               refine pure_ (i := 9) (N := some 46) (v := ?_) (a' := ?_) #[Y,Y,Y,Y,Y,Y,Y,Y,Y,Y,X,X,X,X,X] rfl rfl (any_of HT_.out (by kernel_rfl)) (fun _ _ _ h => h) (Or.inl ⟨by rfl,?_⟩) ?_ ?_
               rotate_left
               ·intro w'
                go_simp
                with_reducible rfl
               rotate_left
               ·simp only [Act.put,List.setIfInBounds_toArray,List.set_cons_zero,List.set_cons_succ,i64_w,i32_w]
                rfl
               refine pure_ (i := 10) (N := some 56) (v := ?_) (a' := ?_) #[Y,Y,Y,Y,Y,Y,Y,Y,Y,Y,Y,X,X,X,X] rfl rfl (any_of HT_.out (by kernel_rfl)) (fun _ _ _ h => h) (Or.inl ⟨by rfl,?_⟩) ?_ ?_
               rotate_left
               ·intro w'
                go_simp
                with_reducible rfl
               rotate_left
               ·simp only [Act.put,List.setIfInBounds_toArray,List.set_cons_zero,List.set_cons_succ,i64_w,i32_w]
                rfl
               refine pure_ (i := 11) (N := some 57) (v := ?_) (a' := ?_) #[Y,Y,Y,Y,Y,Y,Y,Y,Y,Y,Y,Y,X,X,X] rfl rfl (any_of HT_.out (by kernel_rfl)) (fun _ _ _ h => h) (Or.inl ⟨by rfl,?_⟩) ?_ ?_
               rotate_left
               ·intro w'
                go_simp
                with_reducible rfl
               rotate_left
               ·simp only [Act.put,List.setIfInBounds_toArray,List.set_cons_zero,List.set_cons_succ,i64_w,i32_w]
                rfl
               refine one_ (i := 12) (N := some 12) #[Y,Y,Y,Y,Y,Y,Y,Y,Y,Y,Y,Y,Y,X,X] rfl rfl (one_of HT_.out (by kernel_rfl)) (by decide) (fun K hK => ?_)
               refine box_step ?hg (N := 12) ?hd (cs := #[.string (⟨#[]⟩ : ByteArray),.int .i64 0,.int .i64 0]) (t := 24) ?hr ?_;(case hd => rfl);(case hg => rfl);(case hr => first|(go_simp;done)|(go_simp;rfl))
               intro gb117 hg w37 hbox hb
               have HS3_ := (hb.cell (World.block_lt_of_cell? _ _ (hHeld.2.2.2.1))).trans (hHeld.2.2.2.1)
               have HS4_ := (hb.cell (World.block_lt_of_cell? _ _ (hHeld.2.2.2.2.1))).trans (hHeld.2.2.2.2.1)
               have HS5_ := (hb.cell (World.block_lt_of_cell? _ _ (hHeld.2.2.2.2.2))).trans (hHeld.2.2.2.2.2)
               have n0_ := Aside0.mk (Kd.R_below (Kd.R_elderB (by (with_reducible repeat (first|apply zkA | apply zkB | apply zkC));exact HO_7.out) gb117 (Nat.le_of_eq hg.symm)) hb)
               have n1_ := Aside0.mk (Kd.R_below (by (with_reducible repeat (first|apply zkA | apply zkB | apply zkC));exact HO_8.out) hb)
               have n2_ := Aside0.mk (blk_below (g := gb107) (o := .cells #[.int .i64 ((rd_T45 l1 x31_2).f0),.string ((rd_T45 l1 x31_2).f1),.bool ((rd_T45 l1 x31_2).f2)] 45 (0,0)) (by (with_reducible repeat (first|apply zhA | apply zhB | apply zhC));exact BK107.out) hb)
               have n3_ := Aside0.mk (below_step (by repeat (first|(with_reducible first|exact HB.out | apply zbA | apply zbB | apply zbC | refine below_set ?_ GE107.out) | exact HB.out)) hb)
               have n4_ := Aside0.mk (hbox)
               have n5_ := Aside0.mk ((by rw [hg];exact (below_size (by repeat (first|(with_reducible first|exact HB.out | apply zbA | apply zbB | apply zbC | refine below_set ?_ GE107.out) | exact HB.out))) : w.heap.size ≤ gb117))
               have n6_ := Aside0.mk ((by rw [hg];exact (below_size (by repeat (first|(with_reducible first|exact HB.out | apply zbA | apply zbB | apply zbC | refine below_set ?_ GE107.out) | exact HB.out))) : w.heap.size ≤ gb117))
               have n7_ := Aside0.mk ((by rw [hg];exact Nat.ne_of_lt (blk_lt (g := gb107) (o := .cells #[.int .i64 ((rd_T45 l1 x31_2).f0),.string ((rd_T45 l1 x31_2).f1),.bool ((rd_T45 l1 x31_2).f2)] 45 (0,0)) (by (with_reducible repeat (first|apply zhA | apply zhB | apply zhC));exact BK107.out)) : gb107 ≠ gb117))
               have n8_ := Aside0.mk ((by rw [hg];exact Nat.ne_of_gt (blk_lt (g := gb107) (o := .cells #[.int .i64 ((rd_T45 l1 x31_2).f0),.string ((rd_T45 l1 x31_2).f1),.bool ((rd_T45 l1 x31_2).f2)] 45 (0,0)) (by (with_reducible repeat (first|apply zhA | apply zhB | apply zhC));exact BK107.out)) : gb117 ≠ gb107))
               clear HO_7
               clear HO_8
               clear BK107
               clear HB
               have HO_7 := n0_
               have HO_8 := n1_
               have BK107 := n2_
               have HB := n3_
               have BK117 := n4_
               have GW117 := n5_
               have GE117 := n6_
               have NB107_117 := n7_
               have NB117_107 := n8_
               clear n0_ n1_ n2_ n3_ n4_ n5_ n6_ n7_ n8_
               clear hb hbox hg
               refine hK.out _ _ ⟨(blk_cell BK107.out 0).trans rfl,(blk_cell BK107.out 1).trans rfl,(blk_cell BK107.out 2).trans rfl,HS3_,HS4_,HS5_⟩ (fun hHeld => ?_)
               clear hK K
               refine norm_ (a' := ?_) ?_ ?_
               rotate_left
               ·show Act.put _ (some 12) _ = _
                simp only [Act.put,List.setIfInBounds_toArray,List.set_cons_zero,List.set_cons_succ,i64_w,i32_w]
                rfl
               exact norm_ (by simp only [putAll,Act.put,List.setIfInBounds_toArray,List.set_cons_zero,List.set_cons_succ]) (hCont (gb117) _ ⟨hHeld,(by (with_reducible repeat (first|apply zkA | apply zkB | apply zkC));exact Kd.R_mono HO_7.out (fun _ hk => hk.2)),(by (with_reducible repeat (first|apply zkA | apply zkB | apply zkC));exact HO_8.out),(by (with_reducible repeat (first|apply zhA | apply zhB | apply zhC));exact BK107.out),(by (with_reducible repeat (first|apply zhA | apply zhB | apply zhC));exact BK117.out),GW117.out,GE117.out,NB107_117.out,NB117_107.out,(by repeat (first|(with_reducible first|exact HB.out | apply zbA | apply zbB | apply zbC | refine below_set ?_ GE107.out | refine below_set ?_ GE117.out) | exact HB.out))⟩)
              ·skip
               refine box_step ?hg (N := 12) ?hd (cs := #[.string (⟨#[]⟩ : ByteArray),.int .i64 0,.int .i64 0]) (t := 24) ?hr ?_;(case hd => rfl);(case hg => rfl);(case hr => first|(go_simp;done)|(go_simp;rfl))
               intro gb117 hg w36 hbox hb
               have HS3_ := (hb.cell (World.block_lt_of_cell? _ _ (hHeld.2.2.2.1))).trans (hHeld.2.2.2.1)
               have HS4_ := (hb.cell (World.block_lt_of_cell? _ _ (hHeld.2.2.2.2.1))).trans (hHeld.2.2.2.2.1)
               have HS5_ := (hb.cell (World.block_lt_of_cell? _ _ (hHeld.2.2.2.2.2))).trans (hHeld.2.2.2.2.2)
               have n0_ := Aside0.mk (Kd.R_below (Kd.R_elderB (by (with_reducible repeat (first|apply zkA | apply zkB | apply zkC));exact HO_7.out) gb117 (Nat.le_of_eq hg.symm)) hb)
               have n1_ := Aside0.mk (Kd.R_below (by (with_reducible repeat (first|apply zkA | apply zkB | apply zkC));exact HO_8.out) hb)
               have n2_ := Aside0.mk (blk_below (g := gb107) (o := .cells #[.int .i64 ((rd_T45 l1 x31_2).f0),.string ((rd_T45 l1 x31_2).f1),.bool ((rd_T45 l1 x31_2).f2)] 45 (0,0)) (by (with_reducible repeat (first|apply zhA | apply zhB | apply zhC));exact BK107.out) hb)
               have n3_ := Aside0.mk (below_step (by repeat (first|(with_reducible first|exact HB.out | apply zbA | apply zbB | apply zbC | refine below_set ?_ GE107.out) | exact HB.out)) hb)
               have n4_ := Aside0.mk (hbox)
               have n5_ := Aside0.mk ((by rw [hg];exact (below_size (by repeat (first|(with_reducible first|exact HB.out | apply zbA | apply zbB | apply zbC | refine below_set ?_ GE107.out) | exact HB.out))) : w.heap.size ≤ gb117))
               have n6_ := Aside0.mk ((by rw [hg];exact (below_size (by repeat (first|(with_reducible first|exact HB.out | apply zbA | apply zbB | apply zbC | refine below_set ?_ GE107.out) | exact HB.out))) : w.heap.size ≤ gb117))
               have n7_ := Aside0.mk ((by rw [hg];exact Nat.ne_of_lt (blk_lt (g := gb107) (o := .cells #[.int .i64 ((rd_T45 l1 x31_2).f0),.string ((rd_T45 l1 x31_2).f1),.bool ((rd_T45 l1 x31_2).f2)] 45 (0,0)) (by (with_reducible repeat (first|apply zhA | apply zhB | apply zhC));exact BK107.out)) : gb107 ≠ gb117))
               have n8_ := Aside0.mk ((by rw [hg];exact Nat.ne_of_gt (blk_lt (g := gb107) (o := .cells #[.int .i64 ((rd_T45 l1 x31_2).f0),.string ((rd_T45 l1 x31_2).f1),.bool ((rd_T45 l1 x31_2).f2)] 45 (0,0)) (by (with_reducible repeat (first|apply zhA | apply zhB | apply zhC));exact BK107.out)) : gb117 ≠ gb107))
               clear HO_7
               clear HO_8
               clear BK107
               clear HB
               have HO_7 := n0_
               have HO_8 := n1_
               have BK107 := n2_
               have HB := n3_
               have BK117 := n4_
               have GW117 := n5_
               have GE117 := n6_
               have NB107_117 := n7_
               have NB117_107 := n8_
               clear n0_ n1_ n2_ n3_ n4_ n5_ n6_ n7_ n8_
               clear hb hbox hg
               refine hK.out _ _ ⟨(blk_cell BK107.out 0).trans rfl,(blk_cell BK107.out 1).trans rfl,(blk_cell BK107.out 2).trans rfl,HS3_,HS4_,HS5_⟩ (fun hHeld => ?_)
               clear hK K
               refine norm_ (a' := ?_) ?_ ?_
               rotate_left
               ·show Act.put _ (some 12) _ = _
                simp only [Act.put,List.setIfInBounds_toArray,List.set_cons_zero,List.set_cons_succ,i64_w,i32_w]
                rfl
               refine one_ (i := 8) (N := some 55) #[Y,Y,Y,Y,Y,Y,Y,Y,Y,X,X,X,Y,X,X] rfl rfl (one_of HT_.out (by kernel_rfl)) (by decide) (fun K hK => ?_)
               refine goes_ Try.func37 (by kernel_rfl) rfl #[.agg #[.string ((rd_T24 x7_2 t108).f0),.int .i64 ((rd_T24 x7_2 t108).f1),.int .i64 ((rd_T24 x7_2 t108).f2)],.int .i64 ((rd_T45 l1 x31_2).f0),.bool ((rd_T45 l1 x31_2).f2)] (by rfl) rfl rfl (by (try simp only [List.map_toArray,List.map_cons,List.map_nil]);first|done | rfl | (simp only [List.length_drop,List.length_take];rfl)) ?_
               with_reducible refine (impl_Card_answered.calls k2 ((rd_T24 x7_2 t108).f0) ((rd_T24 x7_2 t108).f1) ((rd_T24 x7_2 t108).f2) ((rd_T45 l1 x31_2).f0) ((rd_T45 l1 x31_2).f2) t113 t114 t115 true _ A28.out).mono ?_
               rintro e w37 ⟨rfl,hb⟩
               have HS3_ := (hb.cell (World.block_lt_of_cell? _ _ (hHeld.2.2.2.1))).trans (hHeld.2.2.2.1)
               have HS4_ := (hb.cell (World.block_lt_of_cell? _ _ (hHeld.2.2.2.2.1))).trans (hHeld.2.2.2.2.1)
               have HS5_ := (hb.cell (World.block_lt_of_cell? _ _ (hHeld.2.2.2.2.2))).trans (hHeld.2.2.2.2.2)
               refine ⟨_,rfl,?_⟩
               have n0_ := Aside0.mk (Kd.R_below (by (with_reducible repeat (first|apply zkA | apply zkB | apply zkC));exact HO_7.out) hb)
               have n1_ := Aside0.mk (Kd.R_below (by (with_reducible repeat (first|apply zkA | apply zkB | apply zkC));exact HO_8.out) hb)
               have n2_ := Aside0.mk (blk_below (g := gb107) (o := .cells #[.int .i64 ((rd_T45 l1 x31_2).f0),.string ((rd_T45 l1 x31_2).f1),.bool ((rd_T45 l1 x31_2).f2)] 45 (0,0)) (by (with_reducible repeat (first|apply zhA | apply zhB | apply zhC));exact BK107.out) hb)
               have n3_ := Aside0.mk (blk_below (g := gb117) (o := .cells #[.string (⟨#[]⟩ : ByteArray),.int .i64 0,.int .i64 0] 24 (0,0)) (by (with_reducible repeat (first|apply zhA | apply zhB | apply zhC));exact BK117.out) hb)
               have n4_ := Aside0.mk (below_step (by repeat (first|(with_reducible first|exact HB.out | apply zbA | apply zbB | apply zbC | refine below_set ?_ GE107.out | refine below_set ?_ GE117.out) | exact HB.out)) hb)
               clear HO_7
               clear HO_8
               clear BK107
               clear BK117
               clear HB
               have HO_7 := n0_
               have HO_8 := n1_
               have BK107 := n2_
               have BK117 := n3_
               have HB := n4_
               clear n0_ n1_ n2_ n3_ n4_
               (try clear hb)
               (try clear hb2)
               (try clear hk)
               (try clear hi)
               refine hK.out _ _ ⟨(blk_cell BK107.out 0).trans rfl,(blk_cell BK107.out 1).trans rfl,(blk_cell BK107.out 2).trans rfl,HS3_,HS4_,HS5_⟩ (fun hHeld => ?_)
               clear hK K
               refine norm_ (a' := ?_) ?_ ?_
               rotate_left
               ·show Act.put _ (some 55) _ = _
                simp only [Act.put,List.setIfInBounds_toArray,List.set_cons_zero,List.set_cons_succ,i64_w,i32_w]
                rfl
               refine pure_ (i := 9) (N := some 46) (v := ?_) (a' := ?_) #[Y,Y,Y,Y,Y,Y,Y,Y,Y,Y,X,X,Y,X,X] rfl rfl (any_of HT_.out (by kernel_rfl)) (fun _ _ _ h => h) (Or.inl ⟨by rfl,?_⟩) ?_ ?_
               rotate_left
               ·intro w'
                go_simp
                with_reducible rfl
               rotate_left
               ·simp only [Act.put,List.setIfInBounds_toArray,List.set_cons_zero,List.set_cons_succ,i64_w,i32_w]
                rfl
               refine pure_ (i := 10) (N := some 56) (v := ?_) (a' := ?_) #[Y,Y,Y,Y,Y,Y,Y,Y,Y,Y,Y,X,Y,X,X] rfl rfl (any_of HT_.out (by kernel_rfl)) (fun _ _ _ h => h) (Or.inl ⟨by rfl,?_⟩) ?_ ?_
               rotate_left
               ·intro w'
                go_simp
                with_reducible rfl
               rotate_left
               ·simp only [Act.put,List.setIfInBounds_toArray,List.set_cons_zero,List.set_cons_succ,i64_w,i32_w]
                rfl
               refine pure_ (i := 11) (N := some 57) (v := ?_) (a' := ?_) #[Y,Y,Y,Y,Y,Y,Y,Y,Y,Y,Y,Y,Y,X,X] rfl rfl (any_of HT_.out (by kernel_rfl)) (fun _ _ _ h => h) (Or.inl ⟨by rfl,?_⟩) ?_ ?_
               rotate_left
               ·intro w'
                go_simp
                with_reducible rfl
               rotate_left
               ·simp only [Act.put,List.setIfInBounds_toArray,List.set_cons_zero,List.set_cons_succ,i64_w,i32_w]
                rfl
               exact norm_ (by simp only [putAll,Act.put,List.setIfInBounds_toArray,List.set_cons_zero,List.set_cons_succ]) (hCont (gb117) _ ⟨hHeld,(by (with_reducible repeat (first|apply zkA | apply zkB | apply zkC));exact Kd.R_mono HO_7.out (fun _ hk => hk.2)),(by (with_reducible repeat (first|apply zkA | apply zkB | apply zkC));exact HO_8.out),(by (with_reducible repeat (first|apply zhA | apply zhB | apply zhC));exact BK107.out),(by (with_reducible repeat (first|apply zhA | apply zhB | apply zhC));exact BK117.out),GW117.out,GE117.out,NB107_117.out,NB117_107.out,(by repeat (first|(with_reducible first|exact HB.out | apply zbA | apply zbB | apply zbC | refine below_set ?_ GE107.out | refine below_set ?_ GE117.out) | exact HB.out))⟩)
             rintro gb117 w38 ⟨hS_,h0_,h1_,h2_,h3_,h4_,h5_,h6_,h7_,h8_⟩
             have n0_ : Aside0 (Kd.R k24 24 w38 w.heap.size (fun k_ => k_ ≠ gb117) (.slice (some ad112) x7_2.length co33) x7_2) := ⟨h0_⟩
             have n1_ : Aside0 (Kd.R (Kd.int .i64) 3 w38 w.heap.size (fun _ => True) u8 x8_2) := ⟨h1_⟩
             have n2_ : Aside0 (w38.heap[gb107]? = some (.cells #[.int .i64 ((rd_T45 l1 x31_2).f0),.string ((rd_T45 l1 x31_2).f1),.bool ((rd_T45 l1 x31_2).f2)] 45 (0,0))) := ⟨h2_⟩
             have n3_ : Aside0 (w38.heap[gb117]? = some (.cells #[.string (⟨#[]⟩ : ByteArray),.int .i64 0,.int .i64 0] 24 (0,0))) := ⟨h3_⟩
             have n4_ : Aside0 (w.heap.size ≤ gb117) := ⟨h4_⟩
             have n5_ : Aside0 (w.heap.size ≤ gb117) := ⟨h5_⟩
             have n6_ : Aside0 (gb107 ≠ gb117) := ⟨h6_⟩
             have n7_ : Aside0 (gb117 ≠ gb107) := ⟨h7_⟩
             have n8_ : Aside0 (Below w.heap.size w w38) := ⟨h8_⟩
             clear HO_7
             clear HO_8
             clear BK107
             clear HB
             clear h0_ h1_ h2_ h3_ h4_ h5_ h6_ h7_ h8_
             have HO_7 := n0_
             have HO_8 := n1_
             have BK107 := n2_
             have BK117 := n3_
             have GW117 := n4_
             have GE117 := n5_
             have NB107_117 := n6_
             have NB117_107 := n7_
             have HB := n8_
             clear n0_ n1_ n2_ n3_ n4_ n5_ n6_ n7_ n8_
             have hHeld : w38.cell? ⟨gb107,0,none⟩ = some (.int .i64 ((rd_T45 l1 x31_2).f0)) ∧ w38.cell? ⟨gb107,1,none⟩ = some (.string ((rd_T45 l1 x31_2).f1)) ∧ w38.cell? ⟨gb107,2,none⟩ = some (.bool ((rd_T45 l1 x31_2).f2)) ∧ w38.cell? (ad112.add ((t108).toNat * 3)) = some (.string ((rd_T24 x7_2 t108).f0)) ∧ w38.cell? ⟨(ad112.add ((t108).toNat * 3)).block,(ad112.add ((t108).toNat * 3)).off + 1,none⟩ = some (.int .i64 ((rd_T24 x7_2 t108).f1)) ∧ w38.cell? ⟨(ad112.add ((t108).toNat * 3)).block,(ad112.add ((t108).toNat * 3)).off + 2,none⟩ = some (.int .i64 ((rd_T24 x7_2 t108).f2)) := hS_
             refine norm_ (a' := ?_) ?_ ?_
             rotate_left
             ·simp only [putAll,Act.put,List.setIfInBounds_toArray,List.set_cons_zero,List.set_cons_succ]
              rfl
             refine one_ (i := 13) (N := none) #[Y,Y,Y,Y,Y,Y,Y,Y,Y,Y,Y,Y,Y,Y,X] rfl rfl (one_of HT_.out (by kernel_rfl)) (by decide) (fun K hK => ?_)
             have hs39 : w38.cell? ⟨gb117,0,none⟩ = some (.string (⟨#[]⟩ : ByteArray)) := (blk_cell BK117.out 0).trans rfl
             have hfs39 := blk_frozen BK117.out 0
             have hns39_0 := NB107_117.out
             have hms39_0 := NB117_107.out
             have hs40 : w38.cell? ⟨gb117,1,none⟩ = some (.int .i64 0) := (blk_cell BK117.out 1).trans rfl
             have hfs40 := blk_frozen BK117.out 1
             have hns40_0 := NB107_117.out
             have hms40_0 := NB117_107.out
             have hs41 : w38.cell? ⟨gb117,2,none⟩ = some (.int .i64 0) := (blk_cell BK117.out 2).trans rfl
             have hfs41 := blk_frozen BK117.out 2
             have hns41_0 := NB107_117.out
             have hms41_0 := NB117_107.out
             refine skip_ (w1 := ?_) (by rfl) rfl ?_ ?_
             rotate_left
             ·go_simp
              rfl
             refine hK.out _ _ ⟨((cell_far (p := ⟨gb117,_,none⟩) NB107_117.out _).trans (((cell_far (p := ⟨gb117,_,none⟩) NB107_117.out _).trans (((cell_far (p := ⟨gb117,_,none⟩) NB107_117.out _).trans (hHeld.1)))))),((cell_far (p := ⟨gb117,_,none⟩) NB107_117.out _).trans (((cell_far (p := ⟨gb117,_,none⟩) NB107_117.out _).trans (((cell_far (p := ⟨gb117,_,none⟩) NB107_117.out _).trans (hHeld.2.1)))))),((cell_far (p := ⟨gb117,_,none⟩) NB107_117.out _).trans (((cell_far (p := ⟨gb117,_,none⟩) NB107_117.out _).trans (((cell_far (p := ⟨gb117,_,none⟩) NB107_117.out _).trans (hHeld.2.2.1)))))),((cell_far (p := ⟨gb117,_,none⟩) (by first|exact Kd.own_blk (Kd.R_away HO_7.out (fun _ hk => hk))|(rw [add_block];exact Kd.own_blk (Kd.R_away HO_7.out (fun _ hk => hk)))|(show (Addr.add _ _).block ≠ _;rw [add_block];exact Kd.own_blk (Kd.R_away HO_7.out (fun _ hk => hk)))|(dsimp only;exact Kd.own_blk (Kd.R_away HO_7.out (fun _ hk => hk)))) _).trans (((cell_far (p := ⟨gb117,_,none⟩) (by first|exact Kd.own_blk (Kd.R_away HO_7.out (fun _ hk => hk))|(rw [add_block];exact Kd.own_blk (Kd.R_away HO_7.out (fun _ hk => hk)))|(show (Addr.add _ _).block ≠ _;rw [add_block];exact Kd.own_blk (Kd.R_away HO_7.out (fun _ hk => hk)))|(dsimp only;exact Kd.own_blk (Kd.R_away HO_7.out (fun _ hk => hk)))) _).trans (((cell_far (p := ⟨gb117,_,none⟩) (by first|exact Kd.own_blk (Kd.R_away HO_7.out (fun _ hk => hk))|(rw [add_block];exact Kd.own_blk (Kd.R_away HO_7.out (fun _ hk => hk)))|(show (Addr.add _ _).block ≠ _;rw [add_block];exact Kd.own_blk (Kd.R_away HO_7.out (fun _ hk => hk)))|(dsimp only;exact Kd.own_blk (Kd.R_away HO_7.out (fun _ hk => hk)))) _).trans (hHeld.2.2.2.1)))))),((cell_far (p := ⟨gb117,_,none⟩) (by first|exact Kd.own_blk (Kd.R_away HO_7.out (fun _ hk => hk))|(rw [add_block];exact Kd.own_blk (Kd.R_away HO_7.out (fun _ hk => hk)))|(show (Addr.add _ _).block ≠ _;rw [add_block];exact Kd.own_blk (Kd.R_away HO_7.out (fun _ hk => hk)))|(dsimp only;exact Kd.own_blk (Kd.R_away HO_7.out (fun _ hk => hk)))) _).trans (((cell_far (p := ⟨gb117,_,none⟩) (by first|exact Kd.own_blk (Kd.R_away HO_7.out (fun _ hk => hk))|(rw [add_block];exact Kd.own_blk (Kd.R_away HO_7.out (fun _ hk => hk)))|(show (Addr.add _ _).block ≠ _;rw [add_block];exact Kd.own_blk (Kd.R_away HO_7.out (fun _ hk => hk)))|(dsimp only;exact Kd.own_blk (Kd.R_away HO_7.out (fun _ hk => hk)))) _).trans (((cell_far (p := ⟨gb117,_,none⟩) (by first|exact Kd.own_blk (Kd.R_away HO_7.out (fun _ hk => hk))|(rw [add_block];exact Kd.own_blk (Kd.R_away HO_7.out (fun _ hk => hk)))|(show (Addr.add _ _).block ≠ _;rw [add_block];exact Kd.own_blk (Kd.R_away HO_7.out (fun _ hk => hk)))|(dsimp only;exact Kd.own_blk (Kd.R_away HO_7.out (fun _ hk => hk)))) _).trans (hHeld.2.2.2.2.1)))))),((cell_far (p := ⟨gb117,_,none⟩) (by first|exact Kd.own_blk (Kd.R_away HO_7.out (fun _ hk => hk))|(rw [add_block];exact Kd.own_blk (Kd.R_away HO_7.out (fun _ hk => hk)))|(show (Addr.add _ _).block ≠ _;rw [add_block];exact Kd.own_blk (Kd.R_away HO_7.out (fun _ hk => hk)))|(dsimp only;exact Kd.own_blk (Kd.R_away HO_7.out (fun _ hk => hk)))) _).trans (((cell_far (p := ⟨gb117,_,none⟩) (by first|exact Kd.own_blk (Kd.R_away HO_7.out (fun _ hk => hk))|(rw [add_block];exact Kd.own_blk (Kd.R_away HO_7.out (fun _ hk => hk)))|(show (Addr.add _ _).block ≠ _;rw [add_block];exact Kd.own_blk (Kd.R_away HO_7.out (fun _ hk => hk)))|(dsimp only;exact Kd.own_blk (Kd.R_away HO_7.out (fun _ hk => hk)))) _).trans (((cell_far (p := ⟨gb117,_,none⟩) (by first|exact Kd.own_blk (Kd.R_away HO_7.out (fun _ hk => hk))|(rw [add_block];exact Kd.own_blk (Kd.R_away HO_7.out (fun _ hk => hk)))|(show (Addr.add _ _).block ≠ _;rw [add_block];exact Kd.own_blk (Kd.R_away HO_7.out (fun _ hk => hk)))|(dsimp only;exact Kd.own_blk (Kd.R_away HO_7.out (fun _ hk => hk)))) _).trans (hHeld.2.2.2.2.2))))))⟩ (fun hHeld => ?_)
             clear hK K
             refine pure_ (i := 14) (N := some 13) (v := ?_) (a' := ?_) #[Y,Y,Y,Y,Y,Y,Y,Y,Y,Y,Y,Y,Y,Y,Y] rfl rfl (any_of HT_.out (by kernel_rfl)) (fun _ _ _ h => h) (Or.inl ⟨by rfl,?_⟩) ?_ ?_
             rotate_left
             ·intro w'
              go_simp
              with_reducible rfl
             rotate_left
             ·simp only [Act.put,List.setIfInBounds_toArray,List.set_cons_zero,List.set_cons_succ,i64_w,i32_w]
              rfl
             refine done_ (done_of HT_.out (by kernel_rfl)) ?_
             have n0_ : Aside0 (Kd.R k24 24 (((w38.setCell ⟨gb117,0,none⟩ (.string t113)).setCell ⟨gb117,1,none⟩ (.int .i64 t114)).setCell ⟨gb117,2,none⟩ (.int .i64 t115)) w.heap.size (fun k_ => k_ ≠ gb117) (.slice (some ad112) x7_2.length co33) x7_2) := ⟨by (with_reducible repeat (first|apply zkA | apply zkB | apply zkC));exact Kd.R_mono (Kd.R_far (p := ⟨gb117,2,none⟩) (Kd.R_far (p := ⟨gb117,1,none⟩) (Kd.R_far (p := ⟨gb117,0,none⟩) (Kd.R_mono HO_7.out (fun k_ hk => (⟨hk,hk⟩ : _ ∧ k_ ≠ gb117))) (fun _ hk => hk.2) (.string t113)) (fun _ hk => hk.2) (.int .i64 t114)) (fun _ hk => hk.2) (.int .i64 t115)) (fun _ hk => hk.1)⟩
             have n1_ : Aside0 (Kd.R (Kd.int .i64) 3 (((w38.setCell ⟨gb117,0,none⟩ (.string t113)).setCell ⟨gb117,1,none⟩ (.int .i64 t114)).setCell ⟨gb117,2,none⟩ (.int .i64 t115)) w.heap.size (fun _ => True) u8 x8_2) := ⟨by (with_reducible repeat (first|apply zkA | apply zkB | apply zkC));exact Kd.R_mono (Kd.R_far (p := ⟨gb117,2,none⟩) (Kd.R_far (p := ⟨gb117,1,none⟩) (Kd.R_far (p := ⟨gb117,0,none⟩) (Kd.R_types HO_8.out BK117.out (by decide)) (fun _ hk => hk.2) (.string t113)) (fun _ hk => hk.2) (.int .i64 t114)) (fun _ hk => hk.2) (.int .i64 t115)) (fun _ hk => trivial)⟩
             have n2_ : Aside0 ((((w38.setCell ⟨gb117,0,none⟩ (.string t113)).setCell ⟨gb117,1,none⟩ (.int .i64 t114)).setCell ⟨gb117,2,none⟩ (.int .i64 t115)).heap[gb107]? = some (.cells #[.int .i64 ((rd_T45 l1 x31_2).f0),.string ((rd_T45 l1 x31_2).f1),.bool ((rd_T45 l1 x31_2).f2)] 45 (0,0))) := ⟨by (with_reducible repeat (first|apply zhA | apply zhB | apply zhC));refine blk_far ?_ NB107_117.out _;(with_reducible repeat (first|apply zhA | apply zhB | apply zhC));refine blk_far ?_ NB107_117.out _;(with_reducible repeat (first|apply zhA | apply zhB | apply zhC));refine blk_far ?_ NB107_117.out _;(with_reducible repeat (first|apply zhA | apply zhB | apply zhC));exact BK107.out⟩
             have n3_ : Aside0 ((((w38.setCell ⟨gb117,0,none⟩ (.string t113)).setCell ⟨gb117,1,none⟩ (.int .i64 t114)).setCell ⟨gb117,2,none⟩ (.int .i64 t115)).heap[gb117]? = some (.cells #[.string t113,.int .i64 t114,.int .i64 t115] 24 (0,0))) := ⟨by (with_reducible repeat (first|apply zhA | apply zhB | apply zhC));refine blk_put (cs := #[.string t113,.int .i64 t114,.int .i64 0]) ?_ 2 _ rfl;(with_reducible repeat (first|apply zhA | apply zhB | apply zhC));refine blk_put (cs := #[.string t113,.int .i64 0,.int .i64 0]) ?_ 1 _ rfl;(with_reducible repeat (first|apply zhA | apply zhB | apply zhC));refine blk_put (cs := #[.string (⟨#[]⟩ : ByteArray),.int .i64 0,.int .i64 0]) ?_ 0 _ rfl;(with_reducible repeat (first|apply zhA | apply zhB | apply zhC));exact BK117.out⟩
             have n4_ : Aside0 (Below w.heap.size w (((w38.setCell ⟨gb117,0,none⟩ (.string t113)).setCell ⟨gb117,1,none⟩ (.int .i64 t114)).setCell ⟨gb117,2,none⟩ (.int .i64 t115))) := ⟨by repeat (first|(with_reducible first|exact HB.out | apply zbA | apply zbB | apply zbC | refine below_set ?_ GE107.out | refine below_set ?_ GE117.out) | exact HB.out)⟩
             (try clear HO_7)
             (try clear HO_8)
             (try clear BK107)
             (try clear BK117)
             (try clear HB)
             generalize (((w38.setCell ⟨gb117,0,none⟩ (.string t113)).setCell ⟨gb117,1,none⟩ (.int .i64 t114)).setCell ⟨gb117,2,none⟩ (.int .i64 t115)) = w42 at n0_ n1_ n2_ n3_ n4_ ⊢
             have HO_7 := n0_
             have HO_8 := n1_
             have BK107 := n2_
             have BK117 := n3_
             have HB := n4_
             clear n0_ n1_ n2_ n3_ n4_
             have hnb43 := NB117_107.out
             have hnc43 := NB107_117.out
             have hcz44_0 : w42.cell? ⟨gb117,0,none⟩ = some (.string t113) := (blk_cell BK117.out 0).trans rfl
             have hcz44_1 : w42.cell? ⟨gb117,1,none⟩ = some (.int .i64 t114) := (blk_cell BK117.out 1).trans rfl
             have hcz44_2 : w42.cell? ⟨gb117,2,none⟩ = some (.int .i64 t115) := (blk_cell BK117.out 2).trans rfl
             have hfz44_0 := blk_frozen BK117.out 0
             have hfz44_1 := blk_frozen BK117.out 1
             have hfz44_2 := blk_frozen BK117.out 2
             have p30 : 0 ≤ (t108 : Int) := of_decide_eq_true (by assumption)
             have q30 : (t108 : Int) < ((x7_2.length : Int) : Int) := of_decide_eq_true (by assumption)
             obtain ⟨go30,co30,eo30,gb30,gl30,cl30,HG30⟩ := Kd.R_form HO_7.out (by omega)
             (first|cases eo30 | (injection eo30 with ea_ en_ ec_;(first|subst ea_ | (injection ea_ with ea_;subst ea_));subst ec_;clear en_))
             have GB30 := Aside0.mk gb30
             have GG30 := Aside0.mk HG30
             clear gb30 gl30 HG30
             (first|simp only [add_plain] at hx112_0 | skip)
             (first|simp only [add_plain] at hx112_1 | skip)
             (first|simp only [add_plain] at hx112_2 | skip)
             obtain ⟨ce30,hcl30,hM30,hcc30,hfr30⟩ := Kd.R_elem HO_7.out z24 (t108 : Int) p30 q30
             obtain rfl := k24_openM hM30
             have hx30_0 : w42.cell? ⟨go30,(t108 : Int).toNat * 3,none⟩ = some (.string ((rd_T24 x7_2 t108).f0)) := hcc30 0 _ rfl
             have hx30_1 : w42.cell? ⟨go30,(t108 : Int).toNat * 3 + 1,none⟩ = some (.int .i64 ((rd_T24 x7_2 t108).f1)) := hcc30 1 _ rfl
             have hx30_2 : w42.cell? ⟨go30,(t108 : Int).toNat * 3 + 2,none⟩ = some (.int .i64 ((rd_T24 x7_2 t108).f2)) := hcc30 2 _ rfl
             have hf30_0 : w42.frozen? ⟨go30,(t108 : Int).toNat * 3,none⟩ = false := hfr30 0
             have hf30_1 : w42.frozen? ⟨go30,(t108 : Int).toNat * 3 + 1,none⟩ = false := hfr30 1
             have hf30_2 : w42.frozen? ⟨go30,(t108 : Int).toNat * 3 + 2,none⟩ = false := hfr30 2
             clear hcl30 hcc30 hfr30 hM30
             replace p30 := eq_true p30
             replace q30 := eq_true q30
             have HX45 := Aside0.mk (show Kd.R k24 24 w42 w.heap.size (fun k_ => k_ ≠ gb117) (.slice (some ⟨go30,0,none⟩) x7_2.length co33) x7_2 from (by (with_reducible repeat (first|apply zkA | apply zkB | apply zkC));exact HO_7.out))
             obtain ⟨ce45,hcl45,hM45,hcc45,hfr45⟩ := Kd.R_elem HX45.out z24 (t108 : Int) (of_decide_eq_true (by assumption)) (by have h_ : (t108 : Int) < ((x7_2.length : Int) : Int) := of_decide_eq_true (by assumption);first|exact h_ | (have e_ := (Kd.R_reads' HO_7.out).1;omega) | simpa using h_)
             obtain rfl := k24_openM hM45
             have HP45 := Kd.R_seg HX45.out (t108 : Int) (of_decide_eq_true (by assumption)) (by have h_ : (t108 : Int) < ((x7_2.length : Int) : Int) := of_decide_eq_true (by assumption);first|exact h_ | (have e_ := (Kd.R_reads' HO_7.out).1;omega) | simpa using h_) (seg := [.string t113,.int .i64 t114,.int .i64 t115]) (j := 0) hcl45 hcc45 (show 3 ≤ 3 from by decide) (x' := (⟨t113,t114,t115⟩ : S24)) (k24_mkM _ _ _ (⟨t113,t114,t115⟩ : S24) ) (fun _ hk => hk)
             have hx45_0 := hcc45 0 _ rfl
             (try simp only [show (k24).sz = 3 from rfl,Nat.mul_one,Nat.add_zero] at hx45_0)
             have hf45_0 := hfr45 0
             (try simp only [show (k24).sz = 3 from rfl,Nat.mul_one,Nat.add_zero] at hf45_0)
             have hx45_1 := hcc45 1 _ rfl
             (try simp only [show (k24).sz = 3 from rfl,Nat.mul_one,Nat.add_zero] at hx45_1)
             have hf45_1 := hfr45 1
             (try simp only [show (k24).sz = 3 from rfl,Nat.mul_one,Nat.add_zero] at hf45_1)
             have hx45_2 := hcc45 2 _ rfl
             (try simp only [show (k24).sz = 3 from rfl,Nat.mul_one,Nat.add_zero] at hx45_2)
             have hf45_2 := hfr45 2
             (try simp only [show (k24).sz = 3 from rfl,Nat.mul_one,Nat.add_zero] at hf45_2)
             clear hcl45 hcc45 hfr45 hM45
             try go_wp2_with (first|((with_reducible refine gate_store (t := 24) (p := 67) rfl ?_);refine store_event (t := 24) (p := 67) (v := ?vo_w46) (w1 := (((w42.setCell ⟨go30,(t108 : Int).toNat * 3,none⟩ (.string t113)).setCell ⟨go30,(t108 : Int).toNat * 3 + 1,none⟩ (.int .i64 t114)).setCell ⟨go30,(t108 : Int).toNat * 3 + 2,none⟩ (.int .i64 t115))) ?hg ?ho ?hn ?hr ?_;(case ho => rfl);(case hg => rfl);(case hn => rfl);(case hr => first|(go_simp;done)|(go_simp;rfl));intro w46 hw;have hg : w42.grownBy w46 (some go30) := (by rw [hw];exact HP45.2);have hp_ : Kd.R k24 24 w46 w.heap.size (fun k_ => k_ ≠ gb117) (.slice (some ⟨go30,0,none⟩) x7_2.length co33) y118 := (by rw [hw,Ny118.out];exact HP45.1);clear HP45;have n0_ := Aside0.mk (hp_);have n1_ := Aside0.mk (Kd.R_over' (v := (.slice (some ⟨go30,0,none⟩) x7_2.length co33)) (by (with_reducible repeat (first|apply zkA | apply zkB | apply zkC));exact HO_8.out) (Kd.R_typed HO_7.out) (by decide) hg);have n2_ := Aside0.mk (blk_grown (g := gb107) (o := .cells #[.int .i64 ((rd_T45 l1 x31_2).f0),.string ((rd_T45 l1 x31_2).f1),.bool ((rd_T45 l1 x31_2).f2)] 45 (0,0)) (by (with_reducible repeat (first|apply zhA | apply zhB | apply zhC));exact BK107.out) hg (Kd.R_ne HO_7.out BK107.out (by decide)));have n3_ := Aside0.mk (blk_grown (g := gb117) (o := .cells #[.string t113,.int .i64 t114,.int .i64 t115] 24 (0,0)) (by (with_reducible repeat (first|apply zhA | apply zhB | apply zhC));exact BK117.out) hg (Kd.R_away HO_7.out (fun _ hk => hk)));have n4_ := Aside0.mk ((by rw [hw];exact below_set (below_set (below_set (HB.out) GB30.out) GB30.out) GB30.out : Below w.heap.size w w46));clear HO_7;clear HO_8;clear BK107;clear BK117;clear HB;have HO_7 := n0_;have HO_8 := n1_;have BK107 := n2_;have BK117 := n3_;have HB := n4_;clear n0_ n1_ n2_ n3_ n4_;clear hg hw hp_))
             go_roundg k2
             case measure => have := HJ2.out;have := HK2.out;omega
             case rel => exact ⟨(y118),(x8_2),(wrap64 (x31_2 + 1)),(by first|rfl | (simp;done)|(simp [*];done)),H',⟨by have := HJ2.out;have := HK2.out;omega⟩,⟨by (with_reducible repeat (first|apply zkA | apply zkB | apply zkC));exact Kd.R_mono HO_7.out (fun _ hk => trivial)⟩,⟨by (with_reducible repeat (first|apply zkA | apply zkB | apply zkC));exact HO_8.out⟩,⟨by repeat (first|(with_reducible first|exact HB.out | apply zbA | apply zbB | apply zbC | refine below_set ?_ GE107.out | refine below_set ?_ GE117.out) | exact HB.out)⟩⟩
            ·replace c29 := Bool.eq_false_iff.mpr c29
             subst c29
             rw [if_neg (show ¬ (false = true) by decide)] at H
             by_cases c47 : x8_2.length < 17592186044416
             ·rw [if_pos c47] at H
              have LMc47 := Aside0.mk c47
              clear c47
              obtain ⟨y119,hy119⟩ : ∃ y_ : List Int,y_ = (x8_2 ++ [x31_2]) := ⟨_,rfl⟩
              replace H : (impl_RunAnswers.l0 k2 x7_2 y119 l1 (l1.length : Int) (wrap64 (x31_2 + 1))) = some (r1,r2,r3) := by first|(rw [hy119];with_reducible exact H)|(have H2_ := (Option.bind_some _ _).symm.trans H;rw [hy119];with_reducible exact H2_)|(have H2_ := (Option.bind_some _ _).symm.trans H;with_reducible exact H2_) | with_reducible exact H | (rw [hy119];exact H) | exact H
              have Ny119 := Aside0.mk hy119
              clear hy119
              have H' := Aside0.mk H
              clear H
              have p106 : 0 ≤ (x31_2 : Int) := of_decide_eq_true (by assumption)
              have q106 : x31_2 < (l1.length : Int) := of_decide_eq_true (by assumption)
              obtain ⟨ad106,e106,hx106_0,hx106_1,hx106_2⟩ := at_T45 HR1.out x31_2 p106 q106
              cases e106
              replace hx106_0 := (HB.out.cell (World.block_lt_of_cell? w _ hx106_0)).trans hx106_0
              replace hx106_1 := (HB.out.cell (World.block_lt_of_cell? w _ hx106_1)).trans hx106_1
              replace hx106_2 := (HB.out.cell (World.block_lt_of_cell? w _ hx106_2)).trans hx106_2
              replace p106 := eq_true p106
              replace q106 := eq_true q106
              try go_wp2_with (first|((with_reducible refine gate_dst (N := 10) rfl ?_);(try (refine gate_guard (by rfl) ?_;dsimp only));refine box_event ?hg (N := 10) ?hd (cs := #[.int .i64 0,.string (⟨#[]⟩ : ByteArray),.bool false]) (t := 45) ?hr ?_;(case hd => rfl);(case hg => rfl);(case hr => first|(go_simp;done)|(go_simp;rfl));intro gb107 hg w48 hbox hb;have n0_ := Aside0.mk (Kd.R_below (by (with_reducible repeat (first|apply zkA | apply zkB | apply zkC));exact HO_7.out) hb);have n1_ := Aside0.mk (Kd.R_below (by (with_reducible repeat (first|apply zkA | apply zkB | apply zkC));exact HO_8.out) hb);have n2_ := Aside0.mk (below_step (by repeat (first|exact HB.out | apply zbA | apply zbB | apply zbC)) hb);have n3_ := Aside0.mk (hbox);have n4_ := Aside0.mk ((by rw [hg];exact (below_size (by repeat (first|exact HB.out | apply zbA | apply zbB | apply zbC))) : w.heap.size ≤ gb107));have n5_ := Aside0.mk ((by rw [hg];exact (below_size (by repeat (first|exact HB.out | apply zbA | apply zbB | apply zbC))) : w.heap.size ≤ gb107));clear HO_7;clear HO_8;clear HB;have HO_7 := n0_;have HO_8 := n1_;have HB := n2_;have BK107 := n3_;have GW107 := n4_;have GE107 := n5_;clear n0_ n1_ n2_ n3_ n4_ n5_;clear hb hbox hg;have hcz49_0 : w48.cell? ⟨gb107,0,none⟩ = some (.int .i64 0) := (blk_cell BK107.out 0).trans rfl;have hcz49_1 : w48.cell? ⟨gb107,1,none⟩ = some (.string (⟨#[]⟩ : ByteArray)) := (blk_cell BK107.out 1).trans rfl;have hcz49_2 : w48.cell? ⟨gb107,2,none⟩ = some (.bool false) := (blk_cell BK107.out 2).trans rfl;have hfz49_0 := blk_frozen BK107.out 0;have hfz49_1 := blk_frozen BK107.out 1;have hfz49_2 := blk_frozen BK107.out 2;obtain ⟨Ao50,co50,eo50⟩ := Kd.R_slice HO_7.out;subst eo50)|((with_reducible refine gate_callee (f := 49) rfl ?_);refine goesM_ (some 39) Try.func49 #[.slice Ao50 x7_2.length co50,.string ((rd_T45 l1 x31_2).f1)] ?_;(with_reducible refine (impl_cardOf.calls _ _ x7_2 ((rd_T45 l1 x31_2).f1) t108 _ ?side1 ?side2 A18.out).mono ?_);(case side1 => refine (Kd.R_reads' (e := 24) (base := w.heap.size) (ok := fun k_ => True) (n := x7_2.length) (c := co50) ?_).2.2;exact (by (with_reducible repeat (first|apply zkA | apply zkB | apply zkC));exact (Kd.R_mono (Kd.R_far (p := ⟨gb107,2,none⟩) (Kd.R_far (p := ⟨gb107,1,none⟩) (Kd.R_far (p := ⟨gb107,0,none⟩) (Kd.R_types HO_7.out BK107.out (by decide)) (fun _ hk => hk.2) (.int .i64 ((rd_T45 l1 x31_2).f0))) (fun _ hk => hk.2) (.string ((rd_T45 l1 x31_2).f1))) (fun _ hk => hk.2) (.bool ((rd_T45 l1 x31_2).f2))) (fun _ h_ => h_.1))));(case side2 => exact (Kd.R_reads' HO_7.out).2.1);rintro e w51 ⟨rfl,hb⟩;refine ⟨_,rfl,?_⟩;have n0_ := Aside0.mk (Kd.R_below (by (with_reducible repeat (first|apply zkA | apply zkB | apply zkC));exact (Kd.R_mono (Kd.R_far (p := ⟨gb107,2,none⟩) (Kd.R_far (p := ⟨gb107,1,none⟩) (Kd.R_far (p := ⟨gb107,0,none⟩) (Kd.R_types HO_7.out BK107.out (by decide)) (fun _ hk => hk.2) (.int .i64 ((rd_T45 l1 x31_2).f0))) (fun _ hk => hk.2) (.string ((rd_T45 l1 x31_2).f1))) (fun _ hk => hk.2) (.bool ((rd_T45 l1 x31_2).f2))) (fun _ h_ => h_.1))) hb);have n1_ := Aside0.mk (Kd.R_below (by (with_reducible repeat (first|apply zkA | apply zkB | apply zkC));exact (Kd.R_mono (Kd.R_far (p := ⟨gb107,2,none⟩) (Kd.R_far (p := ⟨gb107,1,none⟩) (Kd.R_far (p := ⟨gb107,0,none⟩) (Kd.R_types HO_8.out BK107.out (by decide)) (fun _ hk => hk.2) (.int .i64 ((rd_T45 l1 x31_2).f0))) (fun _ hk => hk.2) (.string ((rd_T45 l1 x31_2).f1))) (fun _ hk => hk.2) (.bool ((rd_T45 l1 x31_2).f2))) (fun _ h_ => h_.1))) hb);have n2_ := Aside0.mk (blk_below (g := gb107) (o := .cells #[.int .i64 ((rd_T45 l1 x31_2).f0),.string ((rd_T45 l1 x31_2).f1),.bool ((rd_T45 l1 x31_2).f2)] 45 (0,0)) (by (with_reducible repeat (first|apply zhA | apply zhB | apply zhC));refine blk_put (cs := #[.int .i64 ((rd_T45 l1 x31_2).f0),.string ((rd_T45 l1 x31_2).f1),.bool false]) ?_ 2 _ rfl;(with_reducible repeat (first|apply zhA | apply zhB | apply zhC));refine blk_put (cs := #[.int .i64 ((rd_T45 l1 x31_2).f0),.string (⟨#[]⟩ : ByteArray),.bool false]) ?_ 1 _ rfl;(with_reducible repeat (first|apply zhA | apply zhB | apply zhC));refine blk_put (cs := #[.int .i64 0,.string (⟨#[]⟩ : ByteArray),.bool false]) ?_ 0 _ rfl;(with_reducible repeat (first|apply zhA | apply zhB | apply zhC));exact BK107.out) hb);have n3_ := Aside0.mk (below_step (by repeat (first|(with_reducible first|exact HB.out | apply zbA | apply zbB | apply zbC | refine below_set ?_ GE107.out) | exact HB.out)) hb);clear HO_7;clear HO_8;clear BK107;clear HB;have HO_7 := n0_;have HO_8 := n1_;have BK107 := n2_;have HB := n3_;clear n0_ n1_ n2_ n3_;(try clear hb)))
              have n0_ := Aside0.mk (Kd.R_drew HO_7.out)
              have n1_ := Aside0.mk (Kd.R_drew HO_8.out)
              have n2_ := Aside0.mk (blk_drew BK107.out)
              have n3_ := Aside0.mk (below_drew1 HB.out)
              clear HO_7
              clear HO_8
              clear BK107
              clear HB
              have HO_7 := n0_
              have HO_8 := n1_
              have BK107 := n2_
              have HB := n3_
              clear n0_ n1_ n2_ n3_
              have p112 : 0 ≤ (t108 : Int) := of_decide_eq_true (by assumption)
              have q112 : t108 < (x7_2.length : Int) := of_decide_eq_true (by assumption)
              obtain ⟨ad112,e112,hx112_0,hx112_1,hx112_2⟩ := at_T24 (Kd.R_reads' HO_7.out).2.2 t108 p112 q112
              cases e112
              replace p112 := eq_true p112
              replace q112 := eq_true q112
              refine start_ (n := 15) (S := fun w' => w'.cell? ⟨gb107,0,none⟩ = some (.int .i64 ((rd_T45 l1 x31_2).f0)) ∧ w'.cell? ⟨gb107,1,none⟩ = some (.string ((rd_T45 l1 x31_2).f1)) ∧ w'.cell? ⟨gb107,2,none⟩ = some (.bool ((rd_T45 l1 x31_2).f2)) ∧ w'.cell? (ad112.add ((t108).toNat * 3)) = some (.string ((rd_T24 x7_2 t108).f0)) ∧ w'.cell? ⟨(ad112.add ((t108).toNat * 3)).block,(ad112.add ((t108).toNat * 3)).off + 1,none⟩ = some (.int .i64 ((rd_T24 x7_2 t108).f1)) ∧ w'.cell? ⟨(ad112.add ((t108).toNat * 3)).block,(ad112.add ((t108).toNat * 3)).off + 2,none⟩ = some (.int .i64 ((rd_T24 x7_2 t108).f2))) (ds := []) #[X,X,X,X,X,X,X,X,X,X,X,X,X,X,X] (by kernel_rfl) rfl rfl ⟨(blk_cell BK107.out 0).trans rfl,(blk_cell BK107.out 1).trans rfl,(blk_cell BK107.out 2).trans rfl,hx112_0,hx112_1,hx112_2⟩ (fun hHeld => ?_);refine with_tabW impl_RunAnswers.tab11 impl_RunAnswers.bits11 (fun HT_ HW_ => ?_)
              generalize w51.drew = w52 at HO_7 HO_8 BK107 HB hx112_0 hx112_1 hx112_2 hHeld ⊢
              refine pure_ (i := 0) (N := some 47) (v := ?_) (a' := ?_) #[Y,X,X,X,X,X,X,X,X,X,X,X,X,X,X] rfl rfl (any_of HT_.out (by kernel_rfl)) (fun _ _ _ h => h) (Or.inl ⟨by rfl,?_⟩) ?_ ?_
              rotate_left
              ·intro w'
               go_simp
               with_reducible rfl
              rotate_left
              ·simp only [Act.put,List.setIfInBounds_toArray,List.set_cons_zero,List.set_cons_succ,i64_w,i32_w]
               rfl
              refine pure_ (i := 1) (N := some 48) (v := ?_) (a' := ?_) #[Y,Y,X,X,X,X,X,X,X,X,X,X,X,X,X] rfl rfl (any_of HT_.out (by kernel_rfl)) (fun _ _ _ h => h) (Or.inl ⟨by rfl,?_⟩) ?_ ?_
              rotate_left
              ·intro w'
               go_simp
               with_reducible rfl
              rotate_left
              ·simp only [Act.put,List.setIfInBounds_toArray,List.set_cons_zero,List.set_cons_succ,i64_w,i32_w]
               rfl
              refine pure_ (i := 2) (N := some 49) (v := ?_) (a' := ?_) #[Y,Y,Y,X,X,X,X,X,X,X,X,X,X,X,X] rfl rfl (any_of HT_.out (by kernel_rfl)) (fun _ _ _ h => h) (Or.inl ⟨by rfl,?_⟩) ?_ ?_
              rotate_left
              ·intro w'
               go_simp
               with_reducible rfl
              rotate_left
              ·simp only [Act.put,List.setIfInBounds_toArray,List.set_cons_zero,List.set_cons_succ,i64_w,i32_w]
               rfl
              refine pure_ (i := 4) (N := some 51) (v := ?_) (a' := ?_) #[Y,Y,Y,X,Y,X,X,X,X,X,X,X,X,X,X] rfl rfl (any_of HT_.out (by kernel_rfl)) (fun _ _ _ h => h) (Or.inl ⟨by rfl,?_⟩) ?_ ?_
              rotate_left
              ·intro w'
               go_simp
               with_reducible rfl
              rotate_left
              ·simp only [Act.put,List.setIfInBounds_toArray,List.set_cons_zero,List.set_cons_succ,i64_w,i32_w]
               rfl
              refine pure_ (i := 6) (N := some 53) (v := ?_) (a' := ?_) #[Y,Y,Y,X,Y,X,Y,X,X,X,X,X,X,X,X] rfl rfl (any_of HT_.out (by kernel_rfl)) (fun _ _ _ h => h) (Or.inl ⟨by rfl,?_⟩) ?_ ?_
              rotate_left
              ·intro w'
               go_simp
               with_reducible rfl
              rotate_left
              ·simp only [Act.put,List.setIfInBounds_toArray,List.set_cons_zero,List.set_cons_succ,i64_w,i32_w]
               rfl
              refine take_ (i := 3) (N := some 50) (v := ?_) (a' := ?_) #[Y,Y,Y,Y,Y,X,Y,X,X,X,X,X,X,X,X] rfl rfl (take_ofW HT_.out HW_.out (by kernel_rfl)) (fun _ _ _ h => h) (Or.inl ⟨by rfl,?_⟩) hHeld ?_ ?_
              rotate_left
              ·rintro w' ⟨s0,s1,s2,s3,s4,s5⟩
               go_simp
               with_reducible rfl
              rotate_left
              ·simp only [Act.put,List.setIfInBounds_toArray,List.set_cons_zero,List.set_cons_succ,i64_w,i32_w]
               rfl
              refine take_ (i := 5) (N := some 52) (v := ?_) (a' := ?_) #[Y,Y,Y,Y,Y,Y,Y,X,X,X,X,X,X,X,X] rfl rfl (take_ofW HT_.out HW_.out (by kernel_rfl)) (fun _ _ _ h => h) (Or.inl ⟨by rfl,?_⟩) hHeld ?_ ?_
              rotate_left
              ·rintro w' ⟨s0,s1,s2,s3,s4,s5⟩
               go_simp
               with_reducible rfl
              rotate_left
              ·simp only [Act.put,List.setIfInBounds_toArray,List.set_cons_zero,List.set_cons_succ,i64_w,i32_w]
               rfl
              refine take_ (i := 7) (N := some 54) (v := ?_) (a' := ?_) #[Y,Y,Y,Y,Y,Y,Y,Y,X,X,X,X,X,X,X] rfl rfl (take_ofW HT_.out HW_.out (by kernel_rfl)) (fun _ _ _ h => h) (Or.inl ⟨by rfl,?_⟩) hHeld ?_ ?_
              rotate_left
              ·rintro w' ⟨s0,s1,s2,s3,s4,s5⟩
               go_simp
               with_reducible rfl
              rotate_left
              ·simp only [Act.put,List.setIfInBounds_toArray,List.set_cons_zero,List.set_cons_succ,i64_w,i32_w]
               rfl
              refine join_ (σ := Nat) 2 #[Y,Y,Y,Y,Y,Y,Y,Y,Y,Y,Y,Y,Y,X,X] (fun s_ => [(55,.tuple #[.agg #[.string t113,.int .i64 t114,.int .i64 t115],.bool false]),(12,.pointer (some ⟨s_,0,none⟩)),(46,.tuple #[.agg #[.string t113,.int .i64 t114,.int .i64 t115],.bool false]),(56,.agg #[.string t113,.int .i64 t114,.int .i64 t115]),(57,.bool false)]) (fun s_ w' => (w'.cell? ⟨gb107,0,none⟩ = some (.int .i64 ((rd_T45 l1 x31_2).f0)) ∧ w'.cell? ⟨gb107,1,none⟩ = some (.string ((rd_T45 l1 x31_2).f1)) ∧ w'.cell? ⟨gb107,2,none⟩ = some (.bool ((rd_T45 l1 x31_2).f2)) ∧ w'.cell? (ad112.add ((t108).toNat * 3)) = some (.string ((rd_T24 x7_2 t108).f0)) ∧ w'.cell? ⟨(ad112.add ((t108).toNat * 3)).block,(ad112.add ((t108).toNat * 3)).off + 1,none⟩ = some (.int .i64 ((rd_T24 x7_2 t108).f1)) ∧ w'.cell? ⟨(ad112.add ((t108).toNat * 3)).block,(ad112.add ((t108).toNat * 3)).off + 2,none⟩ = some (.int .i64 ((rd_T24 x7_2 t108).f2))) ∧ (Kd.R k24 24 w' w.heap.size (fun k_ => k_ ≠ s_) (.slice (some ad112) x7_2.length co50) x7_2) ∧ (Kd.R (Kd.int .i64) 3 w' w.heap.size (fun _ => True) u8 x8_2) ∧ (w'.heap[gb107]? = some (.cells #[.int .i64 ((rd_T45 l1 x31_2).f0),.string ((rd_T45 l1 x31_2).f1),.bool ((rd_T45 l1 x31_2).f2)] 45 (0,0))) ∧ (w'.heap[s_]? = some (.cells #[.string (⟨#[]⟩ : ByteArray),.int .i64 0,.int .i64 0] 24 (0,0))) ∧ (w.heap.size ≤ s_) ∧ (w.heap.size ≤ s_) ∧ (gb107 ≠ s_) ∧ (s_ ≠ gb107) ∧ (Below w.heap.size w w')) ?_ ?_
              rotate_left
              ·intro hCont
               refine two_ (i := 8) (j := 12) (Ni := some 55) (Nj := some 12) #[Y,Y,Y,Y,Y,Y,Y,Y,Y,X,X,X,X,X,X] #[Y,Y,Y,Y,Y,Y,Y,Y,X,X,X,X,Y,X,X] rfl rfl rfl rfl (two_of HT_.out (by kernel_rfl)) (by decide) (by decide) (fun K hK => ?_) (fun K hK => ?_)
               ·skip
                refine goes_ Try.func37 (by kernel_rfl) rfl #[.agg #[.string ((rd_T24 x7_2 t108).f0),.int .i64 ((rd_T24 x7_2 t108).f1),.int .i64 ((rd_T24 x7_2 t108).f2)],.int .i64 ((rd_T45 l1 x31_2).f0),.bool ((rd_T45 l1 x31_2).f2)] (by rfl) rfl rfl (by (try simp only [List.map_toArray,List.map_cons,List.map_nil]);first|done | rfl | (simp only [List.length_drop,List.length_take];rfl)) ?_
                with_reducible refine (impl_Card_answered.calls k2 ((rd_T24 x7_2 t108).f0) ((rd_T24 x7_2 t108).f1) ((rd_T24 x7_2 t108).f2) ((rd_T45 l1 x31_2).f0) ((rd_T45 l1 x31_2).f2) t113 t114 t115 false _ A28.out).mono ?_
                rintro e w53 ⟨rfl,hb⟩
                have HS3_ := (hb.cell (World.block_lt_of_cell? _ _ (hHeld.2.2.2.1))).trans (hHeld.2.2.2.1)
                have HS4_ := (hb.cell (World.block_lt_of_cell? _ _ (hHeld.2.2.2.2.1))).trans (hHeld.2.2.2.2.1)
                have HS5_ := (hb.cell (World.block_lt_of_cell? _ _ (hHeld.2.2.2.2.2))).trans (hHeld.2.2.2.2.2)
                refine ⟨_,rfl,?_⟩
                have n0_ := Aside0.mk (Kd.R_below (by (with_reducible repeat (first|apply zkA | apply zkB | apply zkC));exact HO_7.out) hb)
                have n1_ := Aside0.mk (Kd.R_below (by (with_reducible repeat (first|apply zkA | apply zkB | apply zkC));exact HO_8.out) hb)
                have n2_ := Aside0.mk (blk_below (g := gb107) (o := .cells #[.int .i64 ((rd_T45 l1 x31_2).f0),.string ((rd_T45 l1 x31_2).f1),.bool ((rd_T45 l1 x31_2).f2)] 45 (0,0)) (by (with_reducible repeat (first|apply zhA | apply zhB | apply zhC));exact BK107.out) hb)
                have n3_ := Aside0.mk (below_step (by repeat (first|(with_reducible first|exact HB.out | apply zbA | apply zbB | apply zbC | refine below_set ?_ GE107.out) | exact HB.out)) hb)
                clear HO_7
                clear HO_8
                clear BK107
                clear HB
                have HO_7 := n0_
                have HO_8 := n1_
                have BK107 := n2_
                have HB := n3_
                clear n0_ n1_ n2_ n3_
                (try clear hb)
                (try clear hb2)
                (try clear hk)
                (try clear hi)
                refine hK.out _ _ ⟨(blk_cell BK107.out 0).trans rfl,(blk_cell BK107.out 1).trans rfl,(blk_cell BK107.out 2).trans rfl,HS3_,HS4_,HS5_⟩ (fun hHeld => ?_)
                clear hK K
                refine norm_ (a' := ?_) ?_ ?_
                rotate_left
                ·show Act.put _ (some 55) _ = _
                 simp only [Act.put,List.setIfInBounds_toArray,List.set_cons_zero,List.set_cons_succ,i64_w,i32_w]
                 rfl
                refine pure_ (i := 9) (N := some 46) (v := ?_) (a' := ?_) #[Y,Y,Y,Y,Y,Y,Y,Y,Y,Y,X,X,X,X,X] rfl rfl (any_of HT_.out (by kernel_rfl)) (fun _ _ _ h => h) (Or.inl ⟨by rfl,?_⟩) ?_ ?_
                rotate_left
                ·intro w'
                 go_simp
                 with_reducible rfl
                rotate_left
                ·simp only [Act.put,List.setIfInBounds_toArray,List.set_cons_zero,List.set_cons_succ,i64_w,i32_w]
                 rfl
                refine pure_ (i := 10) (N := some 56) (v := ?_) (a' := ?_) #[Y,Y,Y,Y,Y,Y,Y,Y,Y,Y,Y,X,X,X,X] rfl rfl (any_of HT_.out (by kernel_rfl)) (fun _ _ _ h => h) (Or.inl ⟨by rfl,?_⟩) ?_ ?_
                rotate_left
                ·intro w'
                 go_simp
                 with_reducible rfl
                rotate_left
                ·simp only [Act.put,List.setIfInBounds_toArray,List.set_cons_zero,List.set_cons_succ,i64_w,i32_w]
                 rfl
                refine pure_ (i := 11) (N := some 57) (v := ?_) (a' := ?_) #[Y,Y,Y,Y,Y,Y,Y,Y,Y,Y,Y,Y,X,X,X] rfl rfl (any_of HT_.out (by kernel_rfl)) (fun _ _ _ h => h) (Or.inl ⟨by rfl,?_⟩) ?_ ?_
                rotate_left
                ·intro w'
                 go_simp
                 with_reducible rfl
                rotate_left
                ·simp only [Act.put,List.setIfInBounds_toArray,List.set_cons_zero,List.set_cons_succ,i64_w,i32_w]
                 rfl
                refine one_ (i := 12) (N := some 12) #[Y,Y,Y,Y,Y,Y,Y,Y,Y,Y,Y,Y,Y,X,X] rfl rfl (one_of HT_.out (by kernel_rfl)) (by decide) (fun K hK => ?_)
                refine box_step ?hg (N := 12) ?hd (cs := #[.string (⟨#[]⟩ : ByteArray),.int .i64 0,.int .i64 0]) (t := 24) ?hr ?_;(case hd => rfl);(case hg => rfl);(case hr => first|(go_simp;done)|(go_simp;rfl))
                intro gb117 hg w54 hbox hb
                have HS3_ := (hb.cell (World.block_lt_of_cell? _ _ (hHeld.2.2.2.1))).trans (hHeld.2.2.2.1)
                have HS4_ := (hb.cell (World.block_lt_of_cell? _ _ (hHeld.2.2.2.2.1))).trans (hHeld.2.2.2.2.1)
                have HS5_ := (hb.cell (World.block_lt_of_cell? _ _ (hHeld.2.2.2.2.2))).trans (hHeld.2.2.2.2.2)
                have n0_ := Aside0.mk (Kd.R_below (Kd.R_elderB (by (with_reducible repeat (first|apply zkA | apply zkB | apply zkC));exact HO_7.out) gb117 (Nat.le_of_eq hg.symm)) hb)
                have n1_ := Aside0.mk (Kd.R_below (by (with_reducible repeat (first|apply zkA | apply zkB | apply zkC));exact HO_8.out) hb)
                have n2_ := Aside0.mk (blk_below (g := gb107) (o := .cells #[.int .i64 ((rd_T45 l1 x31_2).f0),.string ((rd_T45 l1 x31_2).f1),.bool ((rd_T45 l1 x31_2).f2)] 45 (0,0)) (by (with_reducible repeat (first|apply zhA | apply zhB | apply zhC));exact BK107.out) hb)
                have n3_ := Aside0.mk (below_step (by repeat (first|(with_reducible first|exact HB.out | apply zbA | apply zbB | apply zbC | refine below_set ?_ GE107.out) | exact HB.out)) hb)
                have n4_ := Aside0.mk (hbox)
                have n5_ := Aside0.mk ((by rw [hg];exact (below_size (by repeat (first|(with_reducible first|exact HB.out | apply zbA | apply zbB | apply zbC | refine below_set ?_ GE107.out) | exact HB.out))) : w.heap.size ≤ gb117))
                have n6_ := Aside0.mk ((by rw [hg];exact (below_size (by repeat (first|(with_reducible first|exact HB.out | apply zbA | apply zbB | apply zbC | refine below_set ?_ GE107.out) | exact HB.out))) : w.heap.size ≤ gb117))
                have n7_ := Aside0.mk ((by rw [hg];exact Nat.ne_of_lt (blk_lt (g := gb107) (o := .cells #[.int .i64 ((rd_T45 l1 x31_2).f0),.string ((rd_T45 l1 x31_2).f1),.bool ((rd_T45 l1 x31_2).f2)] 45 (0,0)) (by (with_reducible repeat (first|apply zhA | apply zhB | apply zhC));exact BK107.out)) : gb107 ≠ gb117))
                have n8_ := Aside0.mk ((by rw [hg];exact Nat.ne_of_gt (blk_lt (g := gb107) (o := .cells #[.int .i64 ((rd_T45 l1 x31_2).f0),.string ((rd_T45 l1 x31_2).f1),.bool ((rd_T45 l1 x31_2).f2)] 45 (0,0)) (by (with_reducible repeat (first|apply zhA | apply zhB | apply zhC));exact BK107.out)) : gb117 ≠ gb107))
                clear HO_7
                clear HO_8
                clear BK107
                clear HB
                have HO_7 := n0_
                have HO_8 := n1_
                have BK107 := n2_
                have HB := n3_
                have BK117 := n4_
                have GW117 := n5_
                have GE117 := n6_
                have NB107_117 := n7_
                have NB117_107 := n8_
                clear n0_ n1_ n2_ n3_ n4_ n5_ n6_ n7_ n8_
                clear hb hbox hg
                refine hK.out _ _ ⟨(blk_cell BK107.out 0).trans rfl,(blk_cell BK107.out 1).trans rfl,(blk_cell BK107.out 2).trans rfl,HS3_,HS4_,HS5_⟩ (fun hHeld => ?_)
                clear hK K
                refine norm_ (a' := ?_) ?_ ?_
                rotate_left
                ·show Act.put _ (some 12) _ = _
                 simp only [Act.put,List.setIfInBounds_toArray,List.set_cons_zero,List.set_cons_succ,i64_w,i32_w]
                 rfl
                exact norm_ (by simp only [putAll,Act.put,List.setIfInBounds_toArray,List.set_cons_zero,List.set_cons_succ]) (hCont (gb117) _ ⟨hHeld,(by (with_reducible repeat (first|apply zkA | apply zkB | apply zkC));exact Kd.R_mono HO_7.out (fun _ hk => hk.2)),(by (with_reducible repeat (first|apply zkA | apply zkB | apply zkC));exact HO_8.out),(by (with_reducible repeat (first|apply zhA | apply zhB | apply zhC));exact BK107.out),(by (with_reducible repeat (first|apply zhA | apply zhB | apply zhC));exact BK117.out),GW117.out,GE117.out,NB107_117.out,NB117_107.out,(by repeat (first|(with_reducible first|exact HB.out | apply zbA | apply zbB | apply zbC | refine below_set ?_ GE107.out | refine below_set ?_ GE117.out) | exact HB.out))⟩)
               ·skip
                refine box_step ?hg (N := 12) ?hd (cs := #[.string (⟨#[]⟩ : ByteArray),.int .i64 0,.int .i64 0]) (t := 24) ?hr ?_;(case hd => rfl);(case hg => rfl);(case hr => first|(go_simp;done)|(go_simp;rfl))
                intro gb117 hg w53 hbox hb
                have HS3_ := (hb.cell (World.block_lt_of_cell? _ _ (hHeld.2.2.2.1))).trans (hHeld.2.2.2.1)
                have HS4_ := (hb.cell (World.block_lt_of_cell? _ _ (hHeld.2.2.2.2.1))).trans (hHeld.2.2.2.2.1)
                have HS5_ := (hb.cell (World.block_lt_of_cell? _ _ (hHeld.2.2.2.2.2))).trans (hHeld.2.2.2.2.2)
                have n0_ := Aside0.mk (Kd.R_below (Kd.R_elderB (by (with_reducible repeat (first|apply zkA | apply zkB | apply zkC));exact HO_7.out) gb117 (Nat.le_of_eq hg.symm)) hb)
                have n1_ := Aside0.mk (Kd.R_below (by (with_reducible repeat (first|apply zkA | apply zkB | apply zkC));exact HO_8.out) hb)
                have n2_ := Aside0.mk (blk_below (g := gb107) (o := .cells #[.int .i64 ((rd_T45 l1 x31_2).f0),.string ((rd_T45 l1 x31_2).f1),.bool ((rd_T45 l1 x31_2).f2)] 45 (0,0)) (by (with_reducible repeat (first|apply zhA | apply zhB | apply zhC));exact BK107.out) hb)
                have n3_ := Aside0.mk (below_step (by repeat (first|(with_reducible first|exact HB.out | apply zbA | apply zbB | apply zbC | refine below_set ?_ GE107.out) | exact HB.out)) hb)
                have n4_ := Aside0.mk (hbox)
                have n5_ := Aside0.mk ((by rw [hg];exact (below_size (by repeat (first|(with_reducible first|exact HB.out | apply zbA | apply zbB | apply zbC | refine below_set ?_ GE107.out) | exact HB.out))) : w.heap.size ≤ gb117))
                have n6_ := Aside0.mk ((by rw [hg];exact (below_size (by repeat (first|(with_reducible first|exact HB.out | apply zbA | apply zbB | apply zbC | refine below_set ?_ GE107.out) | exact HB.out))) : w.heap.size ≤ gb117))
                have n7_ := Aside0.mk ((by rw [hg];exact Nat.ne_of_lt (blk_lt (g := gb107) (o := .cells #[.int .i64 ((rd_T45 l1 x31_2).f0),.string ((rd_T45 l1 x31_2).f1),.bool ((rd_T45 l1 x31_2).f2)] 45 (0,0)) (by (with_reducible repeat (first|apply zhA | apply zhB | apply zhC));exact BK107.out)) : gb107 ≠ gb117))
                have n8_ := Aside0.mk ((by rw [hg];exact Nat.ne_of_gt (blk_lt (g := gb107) (o := .cells #[.int .i64 ((rd_T45 l1 x31_2).f0),.string ((rd_T45 l1 x31_2).f1),.bool ((rd_T45 l1 x31_2).f2)] 45 (0,0)) (by (with_reducible repeat (first|apply zhA | apply zhB | apply zhC));exact BK107.out)) : gb117 ≠ gb107))
                clear HO_7
                clear HO_8
                clear BK107
                clear HB
                have HO_7 := n0_
                have HO_8 := n1_
                have BK107 := n2_
                have HB := n3_
                have BK117 := n4_
                have GW117 := n5_
                have GE117 := n6_
                have NB107_117 := n7_
                have NB117_107 := n8_
                clear n0_ n1_ n2_ n3_ n4_ n5_ n6_ n7_ n8_
                clear hb hbox hg
                refine hK.out _ _ ⟨(blk_cell BK107.out 0).trans rfl,(blk_cell BK107.out 1).trans rfl,(blk_cell BK107.out 2).trans rfl,HS3_,HS4_,HS5_⟩ (fun hHeld => ?_)
                clear hK K
                refine norm_ (a' := ?_) ?_ ?_
                rotate_left
                ·show Act.put _ (some 12) _ = _
                 simp only [Act.put,List.setIfInBounds_toArray,List.set_cons_zero,List.set_cons_succ,i64_w,i32_w]
                 rfl
                refine one_ (i := 8) (N := some 55) #[Y,Y,Y,Y,Y,Y,Y,Y,Y,X,X,X,Y,X,X] rfl rfl (one_of HT_.out (by kernel_rfl)) (by decide) (fun K hK => ?_)
                refine goes_ Try.func37 (by kernel_rfl) rfl #[.agg #[.string ((rd_T24 x7_2 t108).f0),.int .i64 ((rd_T24 x7_2 t108).f1),.int .i64 ((rd_T24 x7_2 t108).f2)],.int .i64 ((rd_T45 l1 x31_2).f0),.bool ((rd_T45 l1 x31_2).f2)] (by rfl) rfl rfl (by (try simp only [List.map_toArray,List.map_cons,List.map_nil]);first|done | rfl | (simp only [List.length_drop,List.length_take];rfl)) ?_
                with_reducible refine (impl_Card_answered.calls k2 ((rd_T24 x7_2 t108).f0) ((rd_T24 x7_2 t108).f1) ((rd_T24 x7_2 t108).f2) ((rd_T45 l1 x31_2).f0) ((rd_T45 l1 x31_2).f2) t113 t114 t115 false _ A28.out).mono ?_
                rintro e w54 ⟨rfl,hb⟩
                have HS3_ := (hb.cell (World.block_lt_of_cell? _ _ (hHeld.2.2.2.1))).trans (hHeld.2.2.2.1)
                have HS4_ := (hb.cell (World.block_lt_of_cell? _ _ (hHeld.2.2.2.2.1))).trans (hHeld.2.2.2.2.1)
                have HS5_ := (hb.cell (World.block_lt_of_cell? _ _ (hHeld.2.2.2.2.2))).trans (hHeld.2.2.2.2.2)
                refine ⟨_,rfl,?_⟩
                have n0_ := Aside0.mk (Kd.R_below (by (with_reducible repeat (first|apply zkA | apply zkB | apply zkC));exact HO_7.out) hb)
                have n1_ := Aside0.mk (Kd.R_below (by (with_reducible repeat (first|apply zkA | apply zkB | apply zkC));exact HO_8.out) hb)
                have n2_ := Aside0.mk (blk_below (g := gb107) (o := .cells #[.int .i64 ((rd_T45 l1 x31_2).f0),.string ((rd_T45 l1 x31_2).f1),.bool ((rd_T45 l1 x31_2).f2)] 45 (0,0)) (by (with_reducible repeat (first|apply zhA | apply zhB | apply zhC));exact BK107.out) hb)
                have n3_ := Aside0.mk (blk_below (g := gb117) (o := .cells #[.string (⟨#[]⟩ : ByteArray),.int .i64 0,.int .i64 0] 24 (0,0)) (by (with_reducible repeat (first|apply zhA | apply zhB | apply zhC));exact BK117.out) hb)
                have n4_ := Aside0.mk (below_step (by repeat (first|(with_reducible first|exact HB.out | apply zbA | apply zbB | apply zbC | refine below_set ?_ GE107.out | refine below_set ?_ GE117.out) | exact HB.out)) hb)
                clear HO_7
                clear HO_8
                clear BK107
                clear BK117
                clear HB
                have HO_7 := n0_
                have HO_8 := n1_
                have BK107 := n2_
                have BK117 := n3_
                have HB := n4_
                clear n0_ n1_ n2_ n3_ n4_
                (try clear hb)
                (try clear hb2)
                (try clear hk)
                (try clear hi)
                refine hK.out _ _ ⟨(blk_cell BK107.out 0).trans rfl,(blk_cell BK107.out 1).trans rfl,(blk_cell BK107.out 2).trans rfl,HS3_,HS4_,HS5_⟩ (fun hHeld => ?_)
                clear hK K
                refine norm_ (a' := ?_) ?_ ?_
                rotate_left
                ·show Act.put _ (some 55) _ = _
                 simp only [Act.put,List.setIfInBounds_toArray,List.set_cons_zero,List.set_cons_succ,i64_w,i32_w]
                 rfl
                refine pure_ (i := 9) (N := some 46) (v := ?_) (a' := ?_) #[Y,Y,Y,Y,Y,Y,Y,Y,Y,Y,X,X,Y,X,X] rfl rfl (any_of HT_.out (by kernel_rfl)) (fun _ _ _ h => h) (Or.inl ⟨by rfl,?_⟩) ?_ ?_
                rotate_left
                ·intro w'
                 go_simp
                 with_reducible rfl
                rotate_left
                ·simp only [Act.put,List.setIfInBounds_toArray,List.set_cons_zero,List.set_cons_succ,i64_w,i32_w]
                 rfl
                refine pure_ (i := 10) (N := some 56) (v := ?_) (a' := ?_) #[Y,Y,Y,Y,Y,Y,Y,Y,Y,Y,Y,X,Y,X,X] rfl rfl (any_of HT_.out (by kernel_rfl)) (fun _ _ _ h => h) (Or.inl ⟨by rfl,?_⟩) ?_ ?_
                rotate_left
                ·intro w'
                 go_simp
                 with_reducible rfl
                rotate_left
                ·simp only [Act.put,List.setIfInBounds_toArray,List.set_cons_zero,List.set_cons_succ,i64_w,i32_w]
                 rfl
                refine pure_ (i := 11) (N := some 57) (v := ?_) (a' := ?_) #[Y,Y,Y,Y,Y,Y,Y,Y,Y,Y,Y,Y,Y,X,X] rfl rfl (any_of HT_.out (by kernel_rfl)) (fun _ _ _ h => h) (Or.inl ⟨by rfl,?_⟩) ?_ ?_
                rotate_left
                ·intro w'
                 go_simp
                 with_reducible rfl
                rotate_left
                ·simp only [Act.put,List.setIfInBounds_toArray,List.set_cons_zero,List.set_cons_succ,i64_w,i32_w]
                 rfl
                exact norm_ (by simp only [putAll,Act.put,List.setIfInBounds_toArray,List.set_cons_zero,List.set_cons_succ]) (hCont (gb117) _ ⟨hHeld,(by (with_reducible repeat (first|apply zkA | apply zkB | apply zkC));exact Kd.R_mono HO_7.out (fun _ hk => hk.2)),(by (with_reducible repeat (first|apply zkA | apply zkB | apply zkC));exact HO_8.out),(by (with_reducible repeat (first|apply zhA | apply zhB | apply zhC));exact BK107.out),(by (with_reducible repeat (first|apply zhA | apply zhB | apply zhC));exact BK117.out),GW117.out,GE117.out,NB107_117.out,NB117_107.out,(by repeat (first|(with_reducible first|exact HB.out | apply zbA | apply zbB | apply zbC | refine below_set ?_ GE107.out | refine below_set ?_ GE117.out) | exact HB.out))⟩)
              rintro gb117 w55 ⟨hS_,h0_,h1_,h2_,h3_,h4_,h5_,h6_,h7_,h8_⟩
              have n0_ : Aside0 (Kd.R k24 24 w55 w.heap.size (fun k_ => k_ ≠ gb117) (.slice (some ad112) x7_2.length co50) x7_2) := ⟨h0_⟩
              have n1_ : Aside0 (Kd.R (Kd.int .i64) 3 w55 w.heap.size (fun _ => True) u8 x8_2) := ⟨h1_⟩
              have n2_ : Aside0 (w55.heap[gb107]? = some (.cells #[.int .i64 ((rd_T45 l1 x31_2).f0),.string ((rd_T45 l1 x31_2).f1),.bool ((rd_T45 l1 x31_2).f2)] 45 (0,0))) := ⟨h2_⟩
              have n3_ : Aside0 (w55.heap[gb117]? = some (.cells #[.string (⟨#[]⟩ : ByteArray),.int .i64 0,.int .i64 0] 24 (0,0))) := ⟨h3_⟩
              have n4_ : Aside0 (w.heap.size ≤ gb117) := ⟨h4_⟩
              have n5_ : Aside0 (w.heap.size ≤ gb117) := ⟨h5_⟩
              have n6_ : Aside0 (gb107 ≠ gb117) := ⟨h6_⟩
              have n7_ : Aside0 (gb117 ≠ gb107) := ⟨h7_⟩
              have n8_ : Aside0 (Below w.heap.size w w55) := ⟨h8_⟩
              clear HO_7
              clear HO_8
              clear BK107
              clear HB
              clear h0_ h1_ h2_ h3_ h4_ h5_ h6_ h7_ h8_
              have HO_7 := n0_
              have HO_8 := n1_
              have BK107 := n2_
              have BK117 := n3_
              have GW117 := n4_
              have GE117 := n5_
              have NB107_117 := n6_
              have NB117_107 := n7_
              have HB := n8_
              clear n0_ n1_ n2_ n3_ n4_ n5_ n6_ n7_ n8_
              have hHeld : w55.cell? ⟨gb107,0,none⟩ = some (.int .i64 ((rd_T45 l1 x31_2).f0)) ∧ w55.cell? ⟨gb107,1,none⟩ = some (.string ((rd_T45 l1 x31_2).f1)) ∧ w55.cell? ⟨gb107,2,none⟩ = some (.bool ((rd_T45 l1 x31_2).f2)) ∧ w55.cell? (ad112.add ((t108).toNat * 3)) = some (.string ((rd_T24 x7_2 t108).f0)) ∧ w55.cell? ⟨(ad112.add ((t108).toNat * 3)).block,(ad112.add ((t108).toNat * 3)).off + 1,none⟩ = some (.int .i64 ((rd_T24 x7_2 t108).f1)) ∧ w55.cell? ⟨(ad112.add ((t108).toNat * 3)).block,(ad112.add ((t108).toNat * 3)).off + 2,none⟩ = some (.int .i64 ((rd_T24 x7_2 t108).f2)) := hS_
              refine norm_ (a' := ?_) ?_ ?_
              rotate_left
              ·simp only [putAll,Act.put,List.setIfInBounds_toArray,List.set_cons_zero,List.set_cons_succ]
               rfl
              refine one_ (i := 13) (N := none) #[Y,Y,Y,Y,Y,Y,Y,Y,Y,Y,Y,Y,Y,Y,X] rfl rfl (one_of HT_.out (by kernel_rfl)) (by decide) (fun K hK => ?_)
              have hs56 : w55.cell? ⟨gb117,0,none⟩ = some (.string (⟨#[]⟩ : ByteArray)) := (blk_cell BK117.out 0).trans rfl
              have hfs56 := blk_frozen BK117.out 0
              have hns56_0 := NB107_117.out
              have hms56_0 := NB117_107.out
              have hs57 : w55.cell? ⟨gb117,1,none⟩ = some (.int .i64 0) := (blk_cell BK117.out 1).trans rfl
              have hfs57 := blk_frozen BK117.out 1
              have hns57_0 := NB107_117.out
              have hms57_0 := NB117_107.out
              have hs58 : w55.cell? ⟨gb117,2,none⟩ = some (.int .i64 0) := (blk_cell BK117.out 2).trans rfl
              have hfs58 := blk_frozen BK117.out 2
              have hns58_0 := NB107_117.out
              have hms58_0 := NB117_107.out
              refine skip_ (w1 := ?_) (by rfl) rfl ?_ ?_
              rotate_left
              ·go_simp
               rfl
              refine hK.out _ _ ⟨((cell_far (p := ⟨gb117,_,none⟩) NB107_117.out _).trans (((cell_far (p := ⟨gb117,_,none⟩) NB107_117.out _).trans (((cell_far (p := ⟨gb117,_,none⟩) NB107_117.out _).trans (hHeld.1)))))),((cell_far (p := ⟨gb117,_,none⟩) NB107_117.out _).trans (((cell_far (p := ⟨gb117,_,none⟩) NB107_117.out _).trans (((cell_far (p := ⟨gb117,_,none⟩) NB107_117.out _).trans (hHeld.2.1)))))),((cell_far (p := ⟨gb117,_,none⟩) NB107_117.out _).trans (((cell_far (p := ⟨gb117,_,none⟩) NB107_117.out _).trans (((cell_far (p := ⟨gb117,_,none⟩) NB107_117.out _).trans (hHeld.2.2.1)))))),((cell_far (p := ⟨gb117,_,none⟩) (by first|exact Kd.own_blk (Kd.R_away HO_7.out (fun _ hk => hk))|(rw [add_block];exact Kd.own_blk (Kd.R_away HO_7.out (fun _ hk => hk)))|(show (Addr.add _ _).block ≠ _;rw [add_block];exact Kd.own_blk (Kd.R_away HO_7.out (fun _ hk => hk)))|(dsimp only;exact Kd.own_blk (Kd.R_away HO_7.out (fun _ hk => hk)))) _).trans (((cell_far (p := ⟨gb117,_,none⟩) (by first|exact Kd.own_blk (Kd.R_away HO_7.out (fun _ hk => hk))|(rw [add_block];exact Kd.own_blk (Kd.R_away HO_7.out (fun _ hk => hk)))|(show (Addr.add _ _).block ≠ _;rw [add_block];exact Kd.own_blk (Kd.R_away HO_7.out (fun _ hk => hk)))|(dsimp only;exact Kd.own_blk (Kd.R_away HO_7.out (fun _ hk => hk)))) _).trans (((cell_far (p := ⟨gb117,_,none⟩) (by first|exact Kd.own_blk (Kd.R_away HO_7.out (fun _ hk => hk))|(rw [add_block];exact Kd.own_blk (Kd.R_away HO_7.out (fun _ hk => hk)))|(show (Addr.add _ _).block ≠ _;rw [add_block];exact Kd.own_blk (Kd.R_away HO_7.out (fun _ hk => hk)))|(dsimp only;exact Kd.own_blk (Kd.R_away HO_7.out (fun _ hk => hk)))) _).trans (hHeld.2.2.2.1)))))),((cell_far (p := ⟨gb117,_,none⟩) (by first|exact Kd.own_blk (Kd.R_away HO_7.out (fun _ hk => hk))|(rw [add_block];exact Kd.own_blk (Kd.R_away HO_7.out (fun _ hk => hk)))|(show (Addr.add _ _).block ≠ _;rw [add_block];exact Kd.own_blk (Kd.R_away HO_7.out (fun _ hk => hk)))|(dsimp only;exact Kd.own_blk (Kd.R_away HO_7.out (fun _ hk => hk)))) _).trans (((cell_far (p := ⟨gb117,_,none⟩) (by first|exact Kd.own_blk (Kd.R_away HO_7.out (fun _ hk => hk))|(rw [add_block];exact Kd.own_blk (Kd.R_away HO_7.out (fun _ hk => hk)))|(show (Addr.add _ _).block ≠ _;rw [add_block];exact Kd.own_blk (Kd.R_away HO_7.out (fun _ hk => hk)))|(dsimp only;exact Kd.own_blk (Kd.R_away HO_7.out (fun _ hk => hk)))) _).trans (((cell_far (p := ⟨gb117,_,none⟩) (by first|exact Kd.own_blk (Kd.R_away HO_7.out (fun _ hk => hk))|(rw [add_block];exact Kd.own_blk (Kd.R_away HO_7.out (fun _ hk => hk)))|(show (Addr.add _ _).block ≠ _;rw [add_block];exact Kd.own_blk (Kd.R_away HO_7.out (fun _ hk => hk)))|(dsimp only;exact Kd.own_blk (Kd.R_away HO_7.out (fun _ hk => hk)))) _).trans (hHeld.2.2.2.2.1)))))),((cell_far (p := ⟨gb117,_,none⟩) (by first|exact Kd.own_blk (Kd.R_away HO_7.out (fun _ hk => hk))|(rw [add_block];exact Kd.own_blk (Kd.R_away HO_7.out (fun _ hk => hk)))|(show (Addr.add _ _).block ≠ _;rw [add_block];exact Kd.own_blk (Kd.R_away HO_7.out (fun _ hk => hk)))|(dsimp only;exact Kd.own_blk (Kd.R_away HO_7.out (fun _ hk => hk)))) _).trans (((cell_far (p := ⟨gb117,_,none⟩) (by first|exact Kd.own_blk (Kd.R_away HO_7.out (fun _ hk => hk))|(rw [add_block];exact Kd.own_blk (Kd.R_away HO_7.out (fun _ hk => hk)))|(show (Addr.add _ _).block ≠ _;rw [add_block];exact Kd.own_blk (Kd.R_away HO_7.out (fun _ hk => hk)))|(dsimp only;exact Kd.own_blk (Kd.R_away HO_7.out (fun _ hk => hk)))) _).trans (((cell_far (p := ⟨gb117,_,none⟩) (by first|exact Kd.own_blk (Kd.R_away HO_7.out (fun _ hk => hk))|(rw [add_block];exact Kd.own_blk (Kd.R_away HO_7.out (fun _ hk => hk)))|(show (Addr.add _ _).block ≠ _;rw [add_block];exact Kd.own_blk (Kd.R_away HO_7.out (fun _ hk => hk)))|(dsimp only;exact Kd.own_blk (Kd.R_away HO_7.out (fun _ hk => hk)))) _).trans (hHeld.2.2.2.2.2))))))⟩ (fun hHeld => ?_)
              clear hK K
              refine pure_ (i := 14) (N := some 13) (v := ?_) (a' := ?_) #[Y,Y,Y,Y,Y,Y,Y,Y,Y,Y,Y,Y,Y,Y,Y] rfl rfl (any_of HT_.out (by kernel_rfl)) (fun _ _ _ h => h) (Or.inl ⟨by rfl,?_⟩) ?_ ?_
              rotate_left
              ·intro w'
               go_simp
               with_reducible rfl
              rotate_left
              ·simp only [Act.put,List.setIfInBounds_toArray,List.set_cons_zero,List.set_cons_succ,i64_w,i32_w]
               rfl
              refine done_ (done_of HT_.out (by kernel_rfl)) ?_
              try go_wp2_with (first|((with_reducible refine gate_builtin (b := .append) (xs := #[.tmp 60,.tmp 62]) rfl ?_);(try (refine gate_guard (by rfl) ?_;dsimp only));at_builtin;refine Kd.R_append (Kd.int .i64) (w0 := w) w.heap.size rfl (.tmp 60) (.tmp 62) 33 3 (.int .i64 0) 8 rfl Try.underlying33 info3 rfl (by decide) (by omega) u8 x8_2 x31_2 [.int .i64 x31_2] (fun _ => True) (fun _ => False) rfl (by first|(go_simp;done)|(go_simp;rfl)) ?aP (fun _ hk => hk.elim) ?aF ?aO ?aB ?aS ?aL ?_;(case aP => exact rfl);(case aB => exact (by repeat (first|(with_reducible first|exact HB.out | apply zbA | apply zbB | apply zbC | refine below_set ?_ GE107.out | refine below_set ?_ GE117.out) | exact HB.out)));(case aF => exact (fun _ _ => trivial));(case aO => exact (by (with_reducible repeat (first|apply zkA | apply zkB | apply zkC));exact Kd.R_mono (Kd.R_far (p := ⟨gb117,2,none⟩) (Kd.R_far (p := ⟨gb117,1,none⟩) (Kd.R_far (p := ⟨gb117,0,none⟩) (Kd.R_types HO_8.out BK117.out (by decide)) (fun _ hk => hk.2) (.string t113)) (fun _ hk => hk.2) (.int .i64 t114)) (fun _ hk => hk.2) (.int .i64 t115)) (fun _ hk => trivial)));(case aS => exact (below_size (by repeat (first|(with_reducible first|exact HB.out | apply zbA | apply zbB | apply zbC | refine below_set ?_ GE107.out | refine below_set ?_ GE117.out) | exact HB.out))));(case aL => have := LMc47.out;omega);intro v120 w59 ho hb hg hat;rw [← Ny119.out] at ho;have n0_ := Aside0.mk (Kd.R_over' (by (with_reducible repeat (first|apply zkA | apply zkB | apply zkC));exact (Kd.R_mono (Kd.R_far (p := ⟨gb117,2,none⟩) (Kd.R_far (p := ⟨gb117,1,none⟩) (Kd.R_far (p := ⟨gb117,0,none⟩) (Kd.R_mono HO_7.out (fun k_ hk => (⟨hk,hk⟩ : _ ∧ k_ ≠ gb117))) (fun _ hk => hk.2) (.string t113)) (fun _ hk => hk.2) (.int .i64 t114)) (fun _ hk => hk.2) (.int .i64 t115)) (fun _ h_ => h_.1))) (Kd.R_typed (by (with_reducible repeat (first|apply zkA | apply zkB | apply zkC));exact (Kd.R_mono (Kd.R_far (p := ⟨gb117,2,none⟩) (Kd.R_far (p := ⟨gb117,1,none⟩) (Kd.R_far (p := ⟨gb117,0,none⟩) (Kd.R_types HO_8.out BK117.out (by decide)) (fun _ hk => hk.2) (.string t113)) (fun _ hk => hk.2) (.int .i64 t114)) (fun _ hk => hk.2) (.int .i64 t115)) (fun _ h_ => h_.1)))) (by decide) hg);have n1_ := Aside0.mk (blk_grown (g := gb107) (o := .cells #[.int .i64 ((rd_T45 l1 x31_2).f0),.string ((rd_T45 l1 x31_2).f1),.bool ((rd_T45 l1 x31_2).f2)] 45 (0,0)) (by (with_reducible repeat (first|apply zhA | apply zhB | apply zhC));refine blk_far ?_ NB107_117.out _;(with_reducible repeat (first|apply zhA | apply zhB | apply zhC));refine blk_far ?_ NB107_117.out _;(with_reducible repeat (first|apply zhA | apply zhB | apply zhC));refine blk_far ?_ NB107_117.out _;(with_reducible repeat (first|apply zhA | apply zhB | apply zhC));exact BK107.out) hg (Kd.R_ne HO_8.out BK107.out (by decide)));have n2_ := Aside0.mk (blk_grown (g := gb117) (o := .cells #[.string t113,.int .i64 t114,.int .i64 t115] 24 (0,0)) (by (with_reducible repeat (first|apply zhA | apply zhB | apply zhC));refine blk_put (cs := #[.string t113,.int .i64 t114,.int .i64 0]) ?_ 2 _ rfl;(with_reducible repeat (first|apply zhA | apply zhB | apply zhC));refine blk_put (cs := #[.string t113,.int .i64 0,.int .i64 0]) ?_ 1 _ rfl;(with_reducible repeat (first|apply zhA | apply zhB | apply zhC));refine blk_put (cs := #[.string (⟨#[]⟩ : ByteArray),.int .i64 0,.int .i64 0]) ?_ 0 _ rfl;(with_reducible repeat (first|apply zhA | apply zhB | apply zhC));exact BK117.out) hg (Kd.R_ne HO_8.out BK117.out (by decide)));have n3_ := Aside0.mk (hb);have n4_ := Aside0.mk (ho);clear HO_7;clear BK107;clear BK117;clear HB;clear HO_8;have HO_7 := n0_;have BK107 := n1_;have BK117 := n2_;have HB := n3_;have HO121 := n4_;clear n0_ n1_ n2_ n3_ n4_;clear ho hb hg hat))
              go_roundg k2
              case measure => have := HJ2.out;have := HK2.out;omega
              case rel => exact ⟨(x7_2),(y119),(wrap64 (x31_2 + 1)),(by first|rfl | (simp;done)|(simp [*];done)),H',⟨by have := HJ2.out;have := HK2.out;omega⟩,⟨by (with_reducible repeat (first|apply zkA | apply zkB | apply zkC));exact Kd.R_mono HO_7.out (fun _ hk => trivial)⟩,⟨by (with_reducible repeat (first|apply zkA | apply zkB | apply zkC));exact HO121.out⟩,⟨by repeat (first|(with_reducible first|exact HB.out | apply zbA | apply zbB | apply zbC | refine below_set ?_ GE107.out | refine below_set ?_ GE117.out) | exact HB.out)⟩⟩
             ·rw [if_neg c47] at H
              exact absurd H (by simp)
           ·rw [if_neg c27] at H
            exact absurd H (by simp)
          ·rw [if_neg c26] at H
           exact absurd H (by simp)
        ·rw [if_neg c17] at H
         exact absurd H (by simp)
       ·rw [if_neg c16] at H
        exact absurd H (by simp)
      ·rw [if_neg c15] at H
       have c15b0 : decide (x31_2 < (l1.length : Int)) = false := decide_eq_false c15
       clear c15
       simp only [Option.some.injEq,Prod.mk.injEq] at H
       obtain ⟨rfl,rfl,rfl⟩ := H
       go_wp2
       go_ret3
       exact ⟨_,_,by first|rfl | (simp [*,errW_none,errW_some] <;> rfl),by (with_reducible repeat (first|apply zkA | apply zkB | apply zkC));exact HO_7.out,by (with_reducible repeat (first|apply zkA | apply zkB | apply zkC));exact HO_8.out,by repeat (first|exact HB.out | apply zbA | apply zbB | apply zbC)⟩

end Go.Proofs.Ytkobnljfoedmnaa.Q
