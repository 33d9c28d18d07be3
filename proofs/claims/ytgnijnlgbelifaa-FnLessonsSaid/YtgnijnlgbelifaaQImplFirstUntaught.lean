-- Written for the seat Ytgnijnlgbelifaa by a program of this session (wip/tool/gx.py) out of the translation. Lean checks it.
import Derived.Test.YtgnijnlgbelifaaQ0
import Derived.Test.YtgnijnlgbelifaaGPeel
import Derived.Test.YtgnijnlgbelifaaGCall
import Derived.Test.YtgnijnlgbelifaaQBImplHasNeeds1
import Derived.Test.YtgnijnlgbelifaaQBSlicesCloneInt
import Derived.Test.YtgnijnlgbelifaaQBSpecLeOrder
import Derived.Test.YtgnijnlgbelifaaQImplAllWithin
import Derived.Test.YtgnijnlgbelifaaQImplAreWords
import Derived.Test.YtgnijnlgbelifaaWTab
import Derived.Test.YtgnijnlgbelifaaWApart
import Derived.Test.YtgnijnlgbelifaaWFoot
import Derived.Test.YtgnijnlgbelifaaWKept
import Derived.Test.YtgnijnlgbelifaaWShare
import Derived.Test.YtgnijnlgbelifaaWN
import Derived.Test.YtgnijnlgbelifaaWRepsOne
namespace Go.Proofs.Ytgnijnlgbelifaa.Q
open Go.RowKit Go.Proofs.YtgnijnlgbelifaaW.PrintWords Go.Proofs.YtgnijnlgbelifaaW.PrintLast Go.Proofs.YtgnijnlgbelifaaW.PrintMore Go.Proofs.YtgnijnlgbelifaaW.GCall
attribute [local go_sem] max2_int min2_int max_two min_two max_three min_three max_four min_four   -- for this text's walks alone
set_option linter.unusedVariables false
set_option linter.unusedSimpArgs false

/-! ### impl_FirstUntaught: function 16 -/
mutual
def impl_FirstUntaught.j0 : Nat → List (S43) → List (List Int) → Bool → Option (Int × Int × Bool)
 | 0,_,_,_ => none
 | k + 1,x0,x1,x37 => if x37 = true then (some (0,0,false)) else (impl_FirstUntaught.l0 k x0 x1 x1 (x1.length : Int) 0)
def impl_FirstUntaught.l0 : Nat → List (S43) → List (List Int) → List (List Int) → Int → Int → Option (Int × Int × Bool)
 | 0,_,_,_,_,_ => none
 | k + 1,x0,x1,x38,x39,x40 => if x40 < x39 then (if 0 ≤ x40 then (if x40 < (x38.length : Int) then (impl_FirstUntaught.l1 k x0 x1 x40 x38 x39 x40 (rd_L2 x38 x40) ((rd_L2 x38 x40).length : Int) 0) else (none)) else (none)) else (some (0,0,false))
def impl_FirstUntaught.l1 : Nat → List (S43) → List (List Int) → Int → List (List Int) → Int → Int → List Int → Int → Int → Option (Int × Int × Bool)
 | 0,_,_,_,_,_,_,_,_,_ => none
 | k + 1,x0,x1,x8,x38,x39,x40,x45,x46,x47 => if x47 < x46 then (if 0 ≤ x47 then (if x47 < (x45.length : Int) then (if 0 ≤ (rd x45 x47) then (if (rd x45 x47) < (x0.length : Int) then (if 0 ≤ x8 then (if x8 ≤ (x1.length : Int) then ((slices_Concat_int.f k (x1.take (x8 : Int).toNat)).bind fun t116 => ((impl_hasNeeds.f k ((rd_T43 x0 (rd x45 x47)).f0) ((rd_T43 x0 (rd x45 x47)).f1) ((rd_T43 x0 (rd x45 x47)).f2) t116).bind fun t119 => (if t119 = true then (impl_FirstUntaught.l1 k x0 x1 x8 x38 x39 x40 x45 x46 (wrap64 (x47 + 1))) else (some (x8,rd x45 x47,true))))) else (none)) else (none)) else (none)) else (none)) else (none)) else (none)) else (impl_FirstUntaught.l0 k x0 x1 x38 x39 (wrap64 (x40 + 1)))
end
def impl_FirstUntaught.f (k : Nat) (l0 : List (S43)) (l1 : List (List Int)) : Option (Int × Int × Bool) := (slices_Concat_int.f k l1).bind fun t101 => ((impl_AreWords.f k l0).bind fun t104 => (if t104 = true then (if (l1.length : Int) > 16 then (impl_FirstUntaught.j0 k l0 l1 true) else ((impl_allWithin.f t101 0 (wrap64 ((l0.length : Int) - 1))).bind fun t105 => (if t105 = true then ((impl_distinct_int.f t101).bind fun t106 => (impl_FirstUntaught.j0 k l0 l1 ((t106.length : Int) != (t101.length : Int)))) else (impl_FirstUntaught.j0 k l0 l1 true)))) else (impl_FirstUntaught.j0 k l0 l1 true)))
theorem impl_FirstUntaught.mono_l : ∀ k,(∀ y0 y1 y2,LeO (impl_FirstUntaught.j0 k y0 y1 y2) (impl_FirstUntaught.j0 (k + 1) y0 y1 y2)) ∧ (∀ y0 y1 y2 y3 y4,LeO (impl_FirstUntaught.l0 k y0 y1 y2 y3 y4) (impl_FirstUntaught.l0 (k + 1) y0 y1 y2 y3 y4)) ∧ (∀ y0 y1 y2 y3 y4 y5 y6 y7 y8,LeO (impl_FirstUntaught.l1 k y0 y1 y2 y3 y4 y5 y6 y7 y8) (impl_FirstUntaught.l1 (k + 1) y0 y1 y2 y3 y4 y5 y6 y7 y8))
 | 0 => ⟨fun _ _ _ r h => by simp [impl_FirstUntaught.j0] at h,fun _ _ _ _ _ r h => by simp [impl_FirstUntaught.l0] at h,fun _ _ _ _ _ _ _ _ _ r h => by simp [impl_FirstUntaught.l1] at h⟩
 | k + 1 => by
  obtain ⟨ih0,ih1,ih2⟩ := impl_FirstUntaught.mono_l k
  refine ⟨?_,?_,?_⟩ <;> intros
  all_goals first|unfold impl_FirstUntaught.j0|unfold impl_FirstUntaught.l0|unfold impl_FirstUntaught.l1
  with_reducible repeat' first|apply ih0|apply ih1|apply ih2|apply impl_AreWords.mono|apply impl_hasNeeds.mono|apply slices_Concat_int.mono|apply LeO.refl|apply LeO.none|refine LeO.ite ?_ ?_|refine LeO.bind ?_ (fun _ => ?_)
theorem impl_FirstUntaught.mono : ∀ a0 a1 k,LeO (impl_FirstUntaught.f k a0 a1) (impl_FirstUntaught.f (k + 1) a0 a1) := by
 intro a0 a1 k
 obtain ⟨ih0,ih1,ih2⟩ := impl_FirstUntaught.mono_l k
 unfold impl_FirstUntaught.f
 with_reducible repeat' first|apply ih0|apply ih1|apply ih2|apply impl_AreWords.mono|apply impl_hasNeeds.mono|apply slices_Concat_int.mono|apply LeO.refl|apply LeO.none|refine LeO.ite ?_ ?_|refine LeO.bind ?_ (fun _ => ?_)
def impl_FirstUntaught.T10 : Bool × List (List Nat × List Nat) := (true,[([],[]),([],[]),([0,1],[0,1]),([2],[2]),([],[]),([],[]),([4,5],[4,5]),([6],[6]),([3,7,7],[3,7]),([8],[8])])
def impl_FirstUntaught.B10 : List Nat := [0,0,3,7,0,0,48,112,255,511]
theorem impl_FirstUntaught.tab10 : rtab .any (opsOf Try.f16 10) = impl_FirstUntaught.T10 := by kernel_rfl
theorem impl_FirstUntaught.bits10 : waitsOk impl_FirstUntaught.T10.2 impl_FirstUntaught.B10 = true := by kernel_rfl
set_option maxHeartbeats 3000000 in
set_option maxRecDepth 100000 in
theorem impl_FirstUntaught.calls (k : Nat) (A0 : Option Addr) (c0 : Nat) (l0 : List (S43)) (A1 : Option Addr) (c1 : Nat) (l1 : List (List Int)) (r1 : Int) (r2 : Int) (r3 : Bool) (w : World) (hr0 : Kd.C k43 w A0 l0.length l0) (hc0 : l0.length ≤ c0) (hr1 : Kd.C (Kd.slice 3 (Kd.int .i64)) w A1 l1.length l1) (hc1 : l1.length ≤ c1) (h : impl_FirstUntaught.f k l0 l1 = some (r1,r2,r3)) :
  Calls Try.prog 16 #[.slice A0 l0.length c0,.slice A1 l1.length c1] w fun e w' => e = .returned (.tuple #[.int .i64 r1,.int .i64 r2,.bool r3]) ∧ Below w.heap.size w w' := by
 have hu43 := Try.underlying43
 have HR0 := Aside0.mk hr0
 have HC0 := Aside0.mk hc0
 clear hr0 hc0
 have HR1 := Aside0.mk hr1
 have HC1 := Aside0.mk hc1
 clear hr1 hc1
 have HB := Aside0.mk (Below.refl w.heap.size w)
 have H : ((slices_Concat_int.f k l1).bind fun t101 => ((impl_AreWords.f k l0).bind fun t104 => (if t104 = true then (if (l1.length : Int) > 16 then (impl_FirstUntaught.j0 k l0 l1 true) else ((impl_allWithin.f t101 0 (wrap64 ((l0.length : Int) - 1))).bind fun t105 => (if t105 = true then ((impl_distinct_int.f t101).bind fun t106 => (impl_FirstUntaught.j0 k l0 l1 ((t106.length : Int) != (t101.length : Int)))) else (impl_FirstUntaught.j0 k l0 l1 true)))) else (impl_FirstUntaught.j0 k l0 l1 true)))) = some (r1,r2,r3) := h
 clear h
 replace H := Option.bind_eq_some_iff.mp H
 obtain ⟨t101,A30,H⟩ := H
 try dsimp only at H
 have A3 := Aside0.mk A30
 clear A30
 have HC4 := Aside0.mk H
 clear H
 go_enter Try.func16,Try.ntmps16
 go_upto_region 2 with (first|((with_reducible refine gate_callee (f := 41) rfl ?_);refine goesM_ (some 13) Try.func41 #[.slice A1 l1.length c1] ?_;(with_reducible refine (slices_Concat_int.calls k _ _ l1 t101 _ ?side1 ?side2 A3.out).mono ?_);(case side1 => exact ZR HR1.out);(case side2 => exact HC1.out);rintro e w5 ⟨v102,rfl,ho0,hb⟩;refine ⟨_,rfl,?_⟩;have HO103 := Aside0.mk (Kd.R_lower ho0 (below_size (ZQ HB)));replace HB := Aside0.mk (below_step (ZQ HB) hb);(try clear hb);(try clear ho0)))
 (try simp only [Act.put,zuA,zuB,zuC])
 go_cut [37] (fun v37 wc => ∃ (kq : Nat) (x37_3 : Bool),v37 = .bool x37_3 ∧ Aside0 (impl_FirstUntaught.j0 kq l0 l1 x37_3 = some (r1,r2,r3)) ∧ Aside0 (kq ≤ k) ∧ Aside0 (Below w.heap.size w wc))
 case first =>
  have H := HC4.out
  clear HC4
  replace H := Option.bind_eq_some_iff.mp H
  obtain ⟨t104,A60,H⟩ := H
  try dsimp only at H
  have A6 := Aside0.mk A60
  clear A60
  by_cases c7 : t104 = true;rotate_left
  ·replace c7 := Bool.eq_false_iff.mpr c7
   subst c7
   rw [if_neg (show ¬ (false = true) by decide)] at H
   have H' := Aside0.mk H
   clear H
   go_wp2_with (first|((with_reducible refine gate_callee (f := 14) rfl ?_);refine goesM_ (some 15) Try.func14 #[.slice A0 l0.length c0] ?_;(with_reducible refine (impl_AreWords.calls k _ _ l0 false _ ?side1 ?side2 A6.out).mono ?_);(case side1 => exact ZR (Kd.C_below HR0.out HB.out));(case side2 => exact HC0.out);rintro e w21 ⟨rfl,hb⟩;refine ⟨_,rfl,?_⟩;replace HO103 := ZBR HO103 hb;replace HB := Aside0.mk (below_step (ZQ HB) hb);(try clear hb)))
   go_meet
   case rel => exact ⟨_,(true),(by first|rfl|(simp;done)|(simp [*];done)),H',⟨by first|omega|exact Nat.le_refl _⟩,⟨ZQ HB⟩⟩
  subst c7
  rw [if_pos rfl] at H
  by_cases c8 : (l1.length : Int) > 16
  ·rw [if_pos c8] at H
   have c8b0 : decide (16 < (l1.length : Int)) = true := decide_eq_true c8
   have c8b1 : decide (16 < l1.length) = true := decide_eq_true (by omega)
   clear c8
   (first|rw [c8b0]|rw [c8b1]|(simp only [i64_w,i32_w];rw [c8b0])|skip)
   have H' := Aside0.mk H
   clear H
   go_wp2_with (first|((with_reducible refine gate_callee (f := 14) rfl ?_);refine goesM_ (some 15) Try.func14 #[.slice A0 l0.length c0] ?_;(with_reducible refine (impl_AreWords.calls k _ _ l0 true _ ?side1 ?side2 A6.out).mono ?_);(case side1 => exact ZR (Kd.C_below HR0.out HB.out));(case side2 => exact HC0.out);rintro e w9 ⟨rfl,hb⟩;refine ⟨_,rfl,?_⟩;replace HO103 := ZBR HO103 hb;replace HB := Aside0.mk (below_step (ZQ HB) hb);(try clear hb)))
   go_meet
   case rel => exact ⟨_,(true),(by first|rfl|(simp;done)|(simp [*];done)),H',⟨by first|omega|exact Nat.le_refl _⟩,⟨ZQ HB⟩⟩
  rw [if_neg c8] at H
  have c8b0 : decide (16 < (l1.length : Int)) = false := decide_eq_false c8
  have c8b1 : decide (16 < l1.length) = false := decide_eq_false (by omega)
  clear c8
  (first|rw [c8b0]|rw [c8b1]|(simp only [i64_w,i32_w];rw [c8b0])|skip)
  replace H := Option.bind_eq_some_iff.mp H
  obtain ⟨t105,A100,H⟩ := H
  try dsimp only at H
  have A10 := Aside0.mk A100
  clear A100
  by_cases c11 : t105 = true;rotate_left
  ·replace c11 := Bool.eq_false_iff.mpr c11
   subst c11
   rw [if_neg (show ¬ (false = true) by decide)] at H
   have H' := Aside0.mk H
   clear H
   go_wp2_with (first|((with_reducible refine gate_callee (f := 14) rfl ?_);refine goesM_ (some 15) Try.func14 #[.slice A0 l0.length c0] ?_;(with_reducible refine (impl_AreWords.calls k _ _ l0 true _ ?side1 ?side2 A6.out).mono ?_);(case side1 => exact ZR (Kd.C_below HR0.out HB.out));(case side2 => exact HC0.out);rintro e w18 ⟨rfl,hb⟩;refine ⟨_,rfl,?_⟩;replace HO103 := ZBR HO103 hb;replace HB := Aside0.mk (below_step (ZQ HB) hb);(try clear hb);obtain ⟨Ao19,co19,eo19⟩ := Kd.R_slice HO103.out;subst eo19)|(go_at_call 35;(with_reducible refine (impl_allWithin.calls _ _ t101 0 (wrap64 ((l0.length : Int) - 1)) false _ ?side1 ?side2 A10.out).mono ?_);(case side1 => exact ZR (Kd.R_reads' HO103.out).2.2);(case side2 => exact (Kd.R_reads' HO103.out).2.1);rintro e w20 ⟨rfl,hb⟩;replace HO103 := ZBR HO103 hb;replace HB := Aside0.mk (below_step (ZQ HB) hb);(try clear hb)))
   go_meet
   case rel => exact ⟨_,(true),(by first|rfl|(simp;done)|(simp [*];done)),H',⟨by first|omega|exact Nat.le_refl _⟩,⟨ZQ HB⟩⟩
  subst c11
  rw [if_pos rfl] at H
  replace H := Option.bind_eq_some_iff.mp H
  obtain ⟨t106,A120,H⟩ := H
  try dsimp only at H
  have A12 := Aside0.mk A120
  clear A120
  have H' := Aside0.mk H
  clear H
  go_wp2_with (first|((with_reducible refine gate_callee (f := 14) rfl ?_);refine goesM_ (some 15) Try.func14 #[.slice A0 l0.length c0] ?_;(with_reducible refine (impl_AreWords.calls k _ _ l0 true _ ?side1 ?side2 A6.out).mono ?_);(case side1 => exact ZR (Kd.C_below HR0.out HB.out));(case side2 => exact HC0.out);rintro e w13 ⟨rfl,hb⟩;refine ⟨_,rfl,?_⟩;replace HO103 := ZBR HO103 hb;replace HB := Aside0.mk (below_step (ZQ HB) hb);(try clear hb);obtain ⟨Ao14,co14,eo14⟩ := Kd.R_slice HO103.out;subst eo14)|(go_at_call 35;(with_reducible refine (impl_allWithin.calls _ _ t101 0 (wrap64 ((l0.length : Int) - 1)) true _ ?side1 ?side2 A10.out).mono ?_);(case side1 => exact ZR (Kd.R_reads' HO103.out).2.2);(case side2 => exact (Kd.R_reads' HO103.out).2.1);rintro e w15 ⟨rfl,hb⟩;replace HO103 := ZBR HO103 hb;replace HB := Aside0.mk (below_step (ZQ HB) hb);(try clear hb))|(go_at_call 36;(with_reducible refine (impl_distinct_int.calls _ _ t101 t106 _ ?side1 ?side2 A12.out).mono ?_);(case side1 => exact ZR (Kd.R_reads' HO103.out).2.2);(case side2 => exact (Kd.R_reads' HO103.out).2.1);rintro e w16 ⟨v107,rfl,ho0,hb⟩;have HO108 := Aside0.mk (Kd.R_lower (Kd.R_new' ho0 (Kd.R_lt (ZK HO103))) (below_size (ZQ HB)));replace HO103 := Aside0.mk (Kd.R_elder' (ZK HO103) (Kd.R_base ho0) hb);replace HB := Aside0.mk (below_step (ZQ HB) hb);(try clear hb);(try clear ho0);obtain ⟨Ao17,co17,eo17⟩ := Kd.R_slice HO108.out;subst eo17))
  go_meet
  case rel => exact ⟨_,(((t106.length : Int) != (t101.length : Int))),(by first|rfl|(simp;done)|(simp [*];done)),H',⟨by first|omega|exact Nat.le_refl _⟩,⟨ZQ HB⟩⟩
 case rest =>
  clear HC4
  obtain ⟨kq,x37_3,rfl,HA,HJ3,HB⟩ := hcut
  cases kq with
  | zero => exact absurd HA.out (by simp [impl_FirstUntaught.j0])
  | succ kj3 =>
   have H := HA.out
   clear HA
   simp only [impl_FirstUntaught.j0] at H
   by_cases c22 : x37_3 = true
   ·subst c22
    rw [if_pos rfl] at H
    simp only [Option.some.injEq,Prod.mk.injEq] at H
    obtain ⟨rfl,rfl,rfl⟩ := H
    go_wp2
    go_ret3
    exact ⟨by first|rfl|(simp [*,errW_none,errW_some] <;> rfl),ZQ HB⟩
   replace c22 := Bool.eq_false_iff.mpr c22
   subst c22
   rw [if_neg (show ¬ (false = true) by decide)] at H
   have H' := Aside0.mk H
   clear H
   go_wp2
   go_loopg [40] kj3 (fun kq v40 w' => ∃ (x40_2 : Int),v40 = .int .i64 x40_2 ∧ Aside0 (impl_FirstUntaught.l0 kq l0 l1 l1 (l1.length : Int) x40_2 = some (r1,r2,r3)) ∧ Aside0 (kq ≤ kj3) ∧ Aside0 (Below w.heap.size w w'))
   case atStart => exact ⟨(0),(by first|rfl|(simp;done)|(simp [*];done)),H',⟨Nat.le_refl _⟩,⟨ZQ HB⟩⟩
   case round =>
    clear H'
    obtain ⟨x40_2,rfl,HA,HK2,HB⟩ := hrel
    cases gk with
    | zero => exact absurd HA.out (by simp [impl_FirstUntaught.l0])
    | succ k2 =>
     have H := HA.out
     clear HA
     simp only [impl_FirstUntaught.l0] at H
     by_cases c23 : x40_2 < (l1.length : Int);rotate_left
     ·rw [if_neg c23] at H
      have c23b0 : decide (x40_2 < (l1.length : Int)) = false := decide_eq_false c23
      clear c23
      simp only [Option.some.injEq,Prod.mk.injEq] at H
      obtain ⟨rfl,rfl,rfl⟩ := H
      go_wp2
      go_ret3
      exact ⟨by first|rfl|(simp [*,errW_none,errW_some] <;> rfl),ZQ HB⟩

     rw [if_pos c23] at H
     have c23b0 : decide (x40_2 < (l1.length : Int)) = true := decide_eq_true c23
     clear c23
     by_cases c24 : 0 ≤ x40_2;rotate_left
     ·rw [if_neg c24] at H
      exact absurd H (by simp)
     rw [if_pos c24] at H
     have c24b0 : decide (0 ≤ x40_2) = true := decide_eq_true c24
     clear c24
     by_cases c25 : x40_2 < (l1.length : Int);rotate_left
     ·rw [if_neg c25] at H
      exact absurd H (by simp)
     rw [if_pos c25] at H
     have c25b0 : decide (x40_2 < (l1.length : Int)) = true := decide_eq_true c25
     clear c25
     have H' := Aside0.mk H
     clear H
     have p109 : 0 ≤ (x40_2 : Int) := ZD
     have q109 : x40_2 < (l1.length : Int) := ZD
     obtain ⟨ad109,A109_0,c109_0,e109,hx109_0,hl109_0,hi109_0⟩ := at_L2 HR1.out x40_2 p109 q109
     cases e109
     replace hx109_0 := ZX HB hx109_0
     have HR109_0 := Aside0.mk hi109_0
     have HC109_0 := Aside0.mk hl109_0
     clear hi109_0 hl109_0
     replace p109 := eq_true p109
     replace q109 := eq_true q109
     go_wp2
     go_loopg [47] k2 (fun kq v47 w' => ∃ (x47_3 : Int),v47 = .int .i64 x47_3 ∧ Aside0 (impl_FirstUntaught.l1 kq l0 l1 x40_2 l1 (l1.length : Int) x40_2 (rd_L2 l1 x40_2) ((rd_L2 l1 x40_2).length : Int) x47_3 = some (r1,r2,r3)) ∧ Aside0 (kq ≤ k2) ∧ Aside0 (Below w.heap.size w w'))
     case atStart => exact ⟨(0),(by first|rfl|(simp;done)|(simp [*];done)),H',⟨Nat.le_refl _⟩,⟨ZQ HB⟩⟩
     case round =>
      clear H'
      obtain ⟨x47_3,rfl,HA,HK3,HB⟩ := hrel
      cases gk with
      | zero => exact absurd HA.out (by simp [impl_FirstUntaught.l1])
      | succ k3 =>
       have H := HA.out
       clear HA
       simp only [impl_FirstUntaught.l1] at H
       by_cases c26 : x47_3 < ((rd_L2 l1 x40_2).length : Int);rotate_left
       ·rw [if_neg c26] at H
        have c26b0 : decide (x47_3 < ((rd_L2 l1 x40_2).length : Int)) = false := decide_eq_false c26
        clear c26
        have H' := Aside0.mk H
        clear H
        go_wp2
        go_roundg k3
        case measure => have := HJ3.out;have := HK2.out;have := HK3.out;omega
        case rel => exact ⟨(wrap64 (x40_2 + 1)),(by first|rfl|(simp;done)|(simp [*];done)),H',⟨by have := HJ3.out;have := HK2.out;have := HK3.out;omega⟩,⟨ZQ HB⟩⟩
       rw [if_pos c26] at H
       have c26b0 : decide (x47_3 < ((rd_L2 l1 x40_2).length : Int)) = true := decide_eq_true c26
       clear c26
       by_cases c27 : 0 ≤ x47_3;rotate_left
       ·rw [if_neg c27] at H
        exact absurd H (by simp)
       rw [if_pos c27] at H
       have c27b0 : decide (0 ≤ x47_3) = true := decide_eq_true c27
       clear c27
       by_cases c28 : x47_3 < ((rd_L2 l1 x40_2).length : Int);rotate_left
       ·rw [if_neg c28] at H
        exact absurd H (by simp)
       rw [if_pos c28] at H
       have c28b0 : decide (x47_3 < ((rd_L2 l1 x40_2).length : Int)) = true := decide_eq_true c28
       clear c28
       by_cases c29 : 0 ≤ (rd (rd_L2 l1 x40_2) x47_3);rotate_left
       ·rw [if_neg c29] at H
        exact absurd H (by simp)
       rw [if_pos c29] at H
       have c29b0 : decide (0 ≤ (rd (rd_L2 l1 x40_2) x47_3)) = true := decide_eq_true c29
       clear c29
       by_cases c30 : (rd (rd_L2 l1 x40_2) x47_3) < (l0.length : Int);rotate_left
       ·rw [if_neg c30] at H
        exact absurd H (by simp)
       rw [if_pos c30] at H
       have c30b0 : decide ((rd (rd_L2 l1 x40_2) x47_3) < (l0.length : Int)) = true := decide_eq_true c30
       clear c30
       by_cases c31 : 0 ≤ x40_2;rotate_left
       ·rw [if_neg c31] at H
        exact absurd H (by simp)
       rw [if_pos c31] at H
       have c31b0 := eq_true c31
       have c31b1 : decide (0 ≤ x40_2) = true := decide_eq_true c31
       clear c31
       by_cases c32 : x40_2 ≤ (l1.length : Int);rotate_left
       ·rw [if_neg c32] at H
        exact absurd H (by simp)
       rw [if_pos c32] at H
       have c32b0 := eq_true c32
       have c32b1 : decide (x40_2 ≤ (l1.length : Int)) = true := decide_eq_true c32
       clear c32
       obtain ⟨y112,hy112⟩ : ∃ y_ : List (List Int),y_ = (l1.take (x40_2 : Int).toNat) := ⟨_,rfl⟩
       replace H : ((slices_Concat_int.f k3 y112).bind fun t116 => ((impl_hasNeeds.f k3 ((rd_T43 l0 (rd (rd_L2 l1 x40_2) x47_3)).f0) ((rd_T43 l0 (rd (rd_L2 l1 x40_2) x47_3)).f1) ((rd_T43 l0 (rd (rd_L2 l1 x40_2) x47_3)).f2) t116).bind fun t119 => (if t119 = true then (impl_FirstUntaught.l1 k3 l0 l1 x40_2 l1 (l1.length : Int) x40_2 (rd_L2 l1 x40_2) ((rd_L2 l1 x40_2).length : Int) (wrap64 (x47_3 + 1))) else (some (x40_2,rd (rd_L2 l1 x40_2) x47_3,true))))) = some (r1,r2,r3) := by first|(rw [hy112];with_reducible exact H)|(have H2_ := (Option.bind_some _ _).symm.trans H;rw [hy112];with_reducible exact H2_)|(have H2_ := (Option.bind_some _ _).symm.trans H;with_reducible exact H2_)|with_reducible exact H|(rw [hy112];exact H)|exact H
       have Ny112 := Aside0.mk hy112
       clear hy112
       replace H := Option.bind_eq_some_iff.mp H
       obtain ⟨t116,A330,H⟩ := H
       try dsimp only at H
       have A33 := Aside0.mk A330
       clear A330
       replace H := Option.bind_eq_some_iff.mp H
       obtain ⟨t119,A340,H⟩ := H
       try dsimp only at H
       have A34 := Aside0.mk A340
       clear A340
       by_cases c35 : t119 = true;rotate_left
       ·replace c35 := Bool.eq_false_iff.mpr c35
        subst c35
        rw [if_neg (show ¬ (false = true) by decide)] at H
        simp only [Option.some.injEq,Prod.mk.injEq] at H
        obtain ⟨rfl,rfl,rfl⟩ := H
        have p110 : 0 ≤ (x47_3 : Int) := ZD
        have q110 : x47_3 < ((rd_L2 l1 x40_2).length : Int) := ZD
        obtain ⟨ad110,e110,hx110_0⟩ := Kd.at_int HR109_0.out x47_3 p110 q110
        cases e110
        replace hx110_0 := ZX HB hx110_0
        replace p110 := eq_true p110
        replace q110 := eq_true q110
        try go_wp2
        replace HB := Aside0.mk (below_drew1 HB.out)
        have p111 : 0 ≤ ((rd (rd_L2 l1 x40_2) x47_3) : Int) := ZD
        have q111 : (rd (rd_L2 l1 x40_2) x47_3) < (l0.length : Int) := ZD
        obtain ⟨ad111,A111_1,c111_1,e111,hx111_0,hx111_1,hx111_2,hl111_1,hi111_1⟩ := at_T43 HR0.out (rd (rd_L2 l1 x40_2) x47_3) p111 q111
        have hw111_2 := hx111_2
        have hw111_1 := hx111_1
        have hw111_0 := hx111_0
        cases e111
        replace hx111_0 := ZX HB hx111_0
        replace hx111_1 := ZX HB hx111_1
        replace hx111_2 := ZX HB hx111_2
        have HR111_1 := Aside0.mk hi111_1
        have HC111_1 := Aside0.mk hl111_1
        clear hi111_1 hl111_1
        replace p111 := eq_true p111
        replace q111 := eq_true q111
        have q42 : (x40_2 : Int) ≤ ((l1.length : Int) : Int) := ZD
        obtain ⟨i042,hi042,_,hsz42,_⟩ := info_parts info32
        have hroom42 : l1.length ≤ c1 := HC1.out
        have hC42 : Kd.C (Kd.slice 3 (Kd.int .i64)) _ (some ad109) l1.length l1 := HR1.out
        have hcut42 := cut_to (P := Try.prog) 27 32 .i64 Try.underlying27 hi042 (some ad109) l1.length c1 x40_2 ZD q42 hroom42
        have hr42 := Kd.C_take (m := (x40_2 : Int).toNat) hC42 (by omega)
        have hy42 : y112.length = (x40_2 : Int).toNat := (by rw [Ny112.out,List.length_take];omega)
        rw [← Ny112.out] at hr42
        rw [← hy42] at hcut42
        have HR115 := Aside0.mk hr42
        have HC115 := Aside0.mk (show y112.length ≤ c1 from by omega)
        clear hr42 hC42 hroom42 hi042 hsz42
        have KY42 := Aside0.mk hy42
        clear hy42
        replace q42 := eq_true q42
        refine start_ (n := 10) (S := fun w' => w'.cell? (ad111.add (((rd (rd_L2 l1 x40_2) x47_3)).toNat * 3)) = some (.string ((rd_T43 l0 (rd (rd_L2 l1 x40_2) x47_3)).f0)) ∧ w'.cell? ⟨(ad111.add (((rd (rd_L2 l1 x40_2) x47_3)).toNat * 3)).block,(ad111.add (((rd (rd_L2 l1 x40_2) x47_3)).toNat * 3)).off + 1,none⟩ = some (.slice A111_1 ((rd_T43 l0 (rd (rd_L2 l1 x40_2) x47_3)).f1).length c111_1) ∧ w'.cell? ⟨(ad111.add (((rd (rd_L2 l1 x40_2) x47_3)).toNat * 3)).block,(ad111.add (((rd (rd_L2 l1 x40_2) x47_3)).toNat * 3)).off + 2,none⟩ = some (.int .i64 ((rd_T43 l0 (rd (rd_L2 l1 x40_2) x47_3)).f2))) (ds := []) #[X,X,X,X,X,X,X,X,X,X] (by kernel_rfl) rfl rfl ⟨(ZX HB hw111_0),(ZX HB hw111_1),(ZX HB hw111_2)⟩ (fun hHeld => ?_);refine with_tabW impl_FirstUntaught.tab10 impl_FirstUntaught.bits10 (fun HT_ HW_ => ?_)
        generalize wr.drew = w41 at HB HR111_1 HR115 hx111_0 hx111_1 hx111_2 hHeld ⊢
        refine YP 0 51 #[Y,X,X,X,X,X,X,X,X,X] rfl rfl HT_ ?_
        refine YP 1 52 #[Y,Y,X,X,X,X,X,X,X,X] rfl rfl HT_ ?_
        refine YP 2 53 #[Y,Y,Y,X,X,X,X,X,X,X] rfl rfl HT_ ?_
        refine YP 4 55 #[Y,Y,Y,X,Y,X,X,X,X,X] rfl rfl HT_ ?_
        refine YP 5 56 #[Y,Y,Y,X,Y,Y,X,X,X,X] rfl rfl HT_ ?_
        refine YP 6 57 #[Y,Y,Y,X,Y,Y,Y,X,X,X] rfl rfl HT_ ?_
        refine YT 3 54 #[Y,Y,Y,Y,Y,Y,Y,X,X,X] rfl rfl HT_ HW_ hHeld ?_
        refine ZO 7 58 #[Y,Y,Y,Y,Y,Y,Y,Y,X,X] rfl rfl HT_ fun K hK => ?_
        refine goes_ Try.func41 (by kernel_rfl) rfl #[.slice (some ad109) y112.length c1] (by rfl) rfl rfl (by (try simp only [List.map_toArray,List.map_cons,List.map_nil]);first|done|rfl|(simp only [List.length_drop,List.length_take];rfl)) ?_
        with_reducible refine (slices_Concat_int.calls k3 _ _ y112 t116 _ ?side1 ?side2 A33.out).mono ?_
        (case side1 => exact ZR (Kd.C_below HR115.out HB.out))
        (case side2 => exact HC115.out)
        rintro e w43 ⟨v117,rfl,ho0,hb⟩
        refine ⟨_,rfl,?_⟩
        have HO118 := Aside0.mk (Kd.R_lower ho0 (below_size (ZQ HB)))
        replace HB := Aside0.mk (below_step (ZQ HB) hb)
        obtain ⟨Ao44,co44,eo44⟩ := Kd.R_slice HO118.out
        (first|subst eo44|(injection eo44 with f1_ f2_ f3_;have f4_ := f1_.symm;have f5_ := f3_.symm;clear f1_ f2_ f3_;subst f4_;subst f5_))
        refine hK.out _ _ ⟨(ZX HB hw111_0),(ZX HB hw111_1),(ZX HB hw111_2)⟩ (fun hHeld => ?_)
        clear hK K
        refine norm_ (a' := ?_) ?_ ?_
        rotate_left
        ·show Act.put _ (some 58) _ = _
         simp only [Act.put,zuA,zuB,zuC,i64_w,i32_w]
         rfl
        refine ZO 8 59 #[Y,Y,Y,Y,Y,Y,Y,Y,Y,X] rfl rfl HT_ fun K hK => ?_
        refine goes_ Try.func27 (by kernel_rfl) rfl #[.agg #[.string ((rd_T43 l0 (rd (rd_L2 l1 x40_2) x47_3)).f0),.slice A111_1 ((rd_T43 l0 (rd (rd_L2 l1 x40_2) x47_3)).f1).length c111_1,.int .i64 ((rd_T43 l0 (rd (rd_L2 l1 x40_2) x47_3)).f2)],.slice Ao44 t116.length co44] (by rfl) rfl rfl (by (try simp only [List.map_toArray,List.map_cons,List.map_nil]);first|done|rfl|(simp only [List.length_drop,List.length_take];rfl)) ?_
        with_reducible refine (impl_hasNeeds.calls k3 ((rd_T43 l0 (rd (rd_L2 l1 x40_2) x47_3)).f0) _ _ ((rd_T43 l0 (rd (rd_L2 l1 x40_2) x47_3)).f1) ((rd_T43 l0 (rd (rd_L2 l1 x40_2) x47_3)).f2) _ _ t116 false _ ?side1 ?side2 ?side3 ?side4 A34.out).mono ?_
        (case side1 => exact ZR (Kd.C_below HR111_1.out HB.out))
        (case side2 => exact HC111_1.out)
        (case side3 => exact ZR (Kd.R_reads' HO118.out).2.2)
        (case side4 => exact (Kd.R_reads' HO118.out).2.1)
        rintro e w45 ⟨rfl,hb⟩
        refine ⟨_,rfl,?_⟩
        replace HO118 := ZBR HO118 hb
        replace HB := Aside0.mk (below_step (ZQ HB) hb)
        refine hK.out _ _ ⟨(ZX HB hw111_0),(ZX HB hw111_1),(ZX HB hw111_2)⟩ (fun hHeld => ?_)
        clear hK K
        refine norm_ (a' := ?_) ?_ ?_
        rotate_left
        ·show Act.put _ (some 59) _ = _
         simp only [Act.put,zuA,zuB,zuC,i64_w,i32_w]
         rfl
        refine YP 9 60 #[Y,Y,Y,Y,Y,Y,Y,Y,Y,Y] rfl rfl HT_ ?_
        refine done_ (done_of HT_.out (by kernel_rfl)) ?_
        try go_wp2
        go_ret3
        exact ⟨by first|rfl|(simp [*,errW_none,errW_some] <;> rfl),ZQ HB⟩
       subst c35
       rw [if_pos rfl] at H
       have H' := Aside0.mk H
       clear H
       have p110 : 0 ≤ (x47_3 : Int) := ZD
       have q110 : x47_3 < ((rd_L2 l1 x40_2).length : Int) := ZD
       obtain ⟨ad110,e110,hx110_0⟩ := Kd.at_int HR109_0.out x47_3 p110 q110
       cases e110
       replace hx110_0 := ZX HB hx110_0
       replace p110 := eq_true p110
       replace q110 := eq_true q110
       try go_wp2
       replace HB := Aside0.mk (below_drew1 HB.out)
       have p111 : 0 ≤ ((rd (rd_L2 l1 x40_2) x47_3) : Int) := ZD
       have q111 : (rd (rd_L2 l1 x40_2) x47_3) < (l0.length : Int) := ZD
       obtain ⟨ad111,A111_1,c111_1,e111,hx111_0,hx111_1,hx111_2,hl111_1,hi111_1⟩ := at_T43 HR0.out (rd (rd_L2 l1 x40_2) x47_3) p111 q111
       have hw111_2 := hx111_2
       have hw111_1 := hx111_1
       have hw111_0 := hx111_0
       cases e111
       replace hx111_0 := ZX HB hx111_0
       replace hx111_1 := ZX HB hx111_1
       replace hx111_2 := ZX HB hx111_2
       have HR111_1 := Aside0.mk hi111_1
       have HC111_1 := Aside0.mk hl111_1
       clear hi111_1 hl111_1
       replace p111 := eq_true p111
       replace q111 := eq_true q111
       have q37 : (x40_2 : Int) ≤ ((l1.length : Int) : Int) := ZD
       obtain ⟨i037,hi037,_,hsz37,_⟩ := info_parts info32
       have hroom37 : l1.length ≤ c1 := HC1.out
       have hC37 : Kd.C (Kd.slice 3 (Kd.int .i64)) _ (some ad109) l1.length l1 := HR1.out
       have hcut37 := cut_to (P := Try.prog) 27 32 .i64 Try.underlying27 hi037 (some ad109) l1.length c1 x40_2 ZD q37 hroom37
       have hr37 := Kd.C_take (m := (x40_2 : Int).toNat) hC37 (by omega)
       have hy37 : y112.length = (x40_2 : Int).toNat := (by rw [Ny112.out,List.length_take];omega)
       rw [← Ny112.out] at hr37
       rw [← hy37] at hcut37
       have HR115 := Aside0.mk hr37
       have HC115 := Aside0.mk (show y112.length ≤ c1 from by omega)
       clear hr37 hC37 hroom37 hi037 hsz37
       have KY37 := Aside0.mk hy37
       clear hy37
       replace q37 := eq_true q37
       refine start_ (n := 10) (S := fun w' => w'.cell? (ad111.add (((rd (rd_L2 l1 x40_2) x47_3)).toNat * 3)) = some (.string ((rd_T43 l0 (rd (rd_L2 l1 x40_2) x47_3)).f0)) ∧ w'.cell? ⟨(ad111.add (((rd (rd_L2 l1 x40_2) x47_3)).toNat * 3)).block,(ad111.add (((rd (rd_L2 l1 x40_2) x47_3)).toNat * 3)).off + 1,none⟩ = some (.slice A111_1 ((rd_T43 l0 (rd (rd_L2 l1 x40_2) x47_3)).f1).length c111_1) ∧ w'.cell? ⟨(ad111.add (((rd (rd_L2 l1 x40_2) x47_3)).toNat * 3)).block,(ad111.add (((rd (rd_L2 l1 x40_2) x47_3)).toNat * 3)).off + 2,none⟩ = some (.int .i64 ((rd_T43 l0 (rd (rd_L2 l1 x40_2) x47_3)).f2))) (ds := []) #[X,X,X,X,X,X,X,X,X,X] (by kernel_rfl) rfl rfl ⟨(ZX HB hw111_0),(ZX HB hw111_1),(ZX HB hw111_2)⟩ (fun hHeld => ?_);refine with_tabW impl_FirstUntaught.tab10 impl_FirstUntaught.bits10 (fun HT_ HW_ => ?_)
       generalize wr.drew = w36 at HB HR111_1 HR115 hx111_0 hx111_1 hx111_2 hHeld ⊢
       refine YP 0 51 #[Y,X,X,X,X,X,X,X,X,X] rfl rfl HT_ ?_
       refine YP 1 52 #[Y,Y,X,X,X,X,X,X,X,X] rfl rfl HT_ ?_
       refine YP 2 53 #[Y,Y,Y,X,X,X,X,X,X,X] rfl rfl HT_ ?_
       refine YP 4 55 #[Y,Y,Y,X,Y,X,X,X,X,X] rfl rfl HT_ ?_
       refine YP 5 56 #[Y,Y,Y,X,Y,Y,X,X,X,X] rfl rfl HT_ ?_
       refine YP 6 57 #[Y,Y,Y,X,Y,Y,Y,X,X,X] rfl rfl HT_ ?_
       refine YT 3 54 #[Y,Y,Y,Y,Y,Y,Y,X,X,X] rfl rfl HT_ HW_ hHeld ?_
       refine ZO 7 58 #[Y,Y,Y,Y,Y,Y,Y,Y,X,X] rfl rfl HT_ fun K hK => ?_
       refine goes_ Try.func41 (by kernel_rfl) rfl #[.slice (some ad109) y112.length c1] (by rfl) rfl rfl (by (try simp only [List.map_toArray,List.map_cons,List.map_nil]);first|done|rfl|(simp only [List.length_drop,List.length_take];rfl)) ?_
       with_reducible refine (slices_Concat_int.calls k3 _ _ y112 t116 _ ?side1 ?side2 A33.out).mono ?_
       (case side1 => exact ZR (Kd.C_below HR115.out HB.out))
       (case side2 => exact HC115.out)
       rintro e w38 ⟨v117,rfl,ho0,hb⟩
       refine ⟨_,rfl,?_⟩
       have HO118 := Aside0.mk (Kd.R_lower ho0 (below_size (ZQ HB)))
       replace HB := Aside0.mk (below_step (ZQ HB) hb)
       obtain ⟨Ao39,co39,eo39⟩ := Kd.R_slice HO118.out
       (first|subst eo39|(injection eo39 with f1_ f2_ f3_;have f4_ := f1_.symm;have f5_ := f3_.symm;clear f1_ f2_ f3_;subst f4_;subst f5_))
       refine hK.out _ _ ⟨(ZX HB hw111_0),(ZX HB hw111_1),(ZX HB hw111_2)⟩ (fun hHeld => ?_)
       clear hK K
       refine norm_ (a' := ?_) ?_ ?_
       rotate_left
       ·show Act.put _ (some 58) _ = _
        simp only [Act.put,zuA,zuB,zuC,i64_w,i32_w]
        rfl
       refine ZO 8 59 #[Y,Y,Y,Y,Y,Y,Y,Y,Y,X] rfl rfl HT_ fun K hK => ?_
       refine goes_ Try.func27 (by kernel_rfl) rfl #[.agg #[.string ((rd_T43 l0 (rd (rd_L2 l1 x40_2) x47_3)).f0),.slice A111_1 ((rd_T43 l0 (rd (rd_L2 l1 x40_2) x47_3)).f1).length c111_1,.int .i64 ((rd_T43 l0 (rd (rd_L2 l1 x40_2) x47_3)).f2)],.slice Ao39 t116.length co39] (by rfl) rfl rfl (by (try simp only [List.map_toArray,List.map_cons,List.map_nil]);first|done|rfl|(simp only [List.length_drop,List.length_take];rfl)) ?_
       with_reducible refine (impl_hasNeeds.calls k3 ((rd_T43 l0 (rd (rd_L2 l1 x40_2) x47_3)).f0) _ _ ((rd_T43 l0 (rd (rd_L2 l1 x40_2) x47_3)).f1) ((rd_T43 l0 (rd (rd_L2 l1 x40_2) x47_3)).f2) _ _ t116 true _ ?side1 ?side2 ?side3 ?side4 A34.out).mono ?_
       (case side1 => exact ZR (Kd.C_below HR111_1.out HB.out))
       (case side2 => exact HC111_1.out)
       (case side3 => exact ZR (Kd.R_reads' HO118.out).2.2)
       (case side4 => exact (Kd.R_reads' HO118.out).2.1)
       rintro e w40 ⟨rfl,hb⟩
       refine ⟨_,rfl,?_⟩
       replace HO118 := ZBR HO118 hb
       replace HB := Aside0.mk (below_step (ZQ HB) hb)
       refine hK.out _ _ ⟨(ZX HB hw111_0),(ZX HB hw111_1),(ZX HB hw111_2)⟩ (fun hHeld => ?_)
       clear hK K
       refine norm_ (a' := ?_) ?_ ?_
       rotate_left
       ·show Act.put _ (some 59) _ = _
        simp only [Act.put,zuA,zuB,zuC,i64_w,i32_w]
        rfl
       refine YP 9 60 #[Y,Y,Y,Y,Y,Y,Y,Y,Y,Y] rfl rfl HT_ ?_
       refine done_ (done_of HT_.out (by kernel_rfl)) ?_
       try go_wp2
       go_roundg k3
       case measure => have := HJ3.out;have := HK2.out;have := HK3.out;omega
       case rel => exact ⟨(wrap64 (x47_3 + 1)),(by first|rfl|(simp;done)|(simp [*];done)),H',⟨by have := HJ3.out;have := HK2.out;have := HK3.out;omega⟩,⟨ZQ HB⟩⟩
end Go.Proofs.Ytgnijnlgbelifaa.Q
