-- Written for the seat Ytgnijnlgbelifaa by a program of this session (wip/tool/gx.py) out of the translation. Lean checks it.
import Derived.Test.YtgnijnlgbelifaaQ0
import Derived.Test.YtgnijnlgbelifaaGPeel
import Derived.Test.YtgnijnlgbelifaaGCall
import Derived.Test.YtgnijnlgbelifaaQBSpecL1In
import Derived.Test.YtgnijnlgbelifaaQBSpecLeOrder
import Derived.Test.YtgnijnlgbelifaaQSpecLeCycle
import Derived.Test.YtgnijnlgbelifaaWApart
import Derived.Test.YtgnijnlgbelifaaWFoot
import Derived.Test.YtgnijnlgbelifaaWKept
import Derived.Test.YtgnijnlgbelifaaWShare
import Derived.Test.YtgnijnlgbelifaaWN
import Derived.Test.YtgnijnlgbelifaaWRepsOne
namespace Go.Proofs.Ytgnijnlgbelifaa.Q
open Go.RowKit Go.Proofs.YtgnijnlgbelifaaW.PrintWords Go.Proofs.YtgnijnlgbelifaaW.PrintLast Go.Proofs.YtgnijnlgbelifaaW.PrintMore Go.Proofs.YtgnijnlgbelifaaW.GCall
attribute [local go_sem] max2_int min2_int max_two min_two max_three min_three max_four min_four   -- for this text's walks alone
set_option linter.unusedVariables false
set_option linter.unusedSimpArgs false

/-! ### spec_leShortest: function 45 -/
mutual
def spec_leShortest.l0 : Nat → List (S43) → Int → Option (List Int × Bool)
 | 0,_,_ => none
 | k + 1,x0,x4 => if x4 ≤ (x0.length : Int) then (spec_leShortest.l1 k x0 x4 (x0.length : Int) 0) else (some (([] : List Int),false))
def spec_leShortest.l1 : Nat → List (S43) → Int → Int → Int → Option (List Int × Bool)
 | 0,_,_,_,_ => none
 | k + 1,x0,x4,x15,x16 => if x16 < x15 then ((spec_leCycle.f k x0 (([x16] : List Int)) x4).bind fun bt104 => (if bt104.2 = true then (some (bt104.1,true)) else (spec_leShortest.l1 k x0 x4 x15 (wrap64 (x16 + 1))))) else (spec_leShortest.l0 k x0 (wrap64 (x4 + 1)))
end
def spec_leShortest.f (k : Nat) (l0 : List (S43)) : Option (List Int × Bool) := spec_leShortest.l0 k l0 2
theorem spec_leShortest.mono_l : ∀ k,(∀ y0 y1,LeO (spec_leShortest.l0 k y0 y1) (spec_leShortest.l0 (k + 1) y0 y1)) ∧ (∀ y0 y1 y2 y3,LeO (spec_leShortest.l1 k y0 y1 y2 y3) (spec_leShortest.l1 (k + 1) y0 y1 y2 y3))
 | 0 => ⟨fun _ _ r h => by simp [spec_leShortest.l0] at h,fun _ _ _ _ r h => by simp [spec_leShortest.l1] at h⟩
 | k + 1 => by
  obtain ⟨ih0,ih1⟩ := spec_leShortest.mono_l k
  refine ⟨?_,?_⟩ <;> intros
  all_goals first|unfold spec_leShortest.l0|unfold spec_leShortest.l1
  with_reducible repeat' first|apply ih0|apply ih1|apply spec_leCycle.mono|apply LeO.refl|apply LeO.none|refine LeO.ite ?_ ?_|refine LeO.bind ?_ (fun _ => ?_)
theorem spec_leShortest.mono : ∀ a0 k,LeO (spec_leShortest.f k a0) (spec_leShortest.f (k + 1) a0) := by
 intro a0 k
 obtain ⟨ih0,ih1⟩ := spec_leShortest.mono_l k
 unfold spec_leShortest.f
 with_reducible repeat' first|apply ih0|apply ih1|apply spec_leCycle.mono|apply LeO.refl|apply LeO.none|refine LeO.ite ?_ ?_|refine LeO.bind ?_ (fun _ => ?_)
set_option maxHeartbeats 3000000 in
set_option maxRecDepth 100000 in
theorem spec_leShortest.calls (k : Nat) (A0 : Option Addr) (c0 : Nat) (l0 : List (S43)) (r1 : List Int) (r2 : Bool) (w : World) (hr0 : Kd.C k43 w A0 l0.length l0) (hc0 : l0.length ≤ c0) (h : spec_leShortest.f k l0 = some (r1,r2)) :
  Calls Try.prog 45 #[.slice A0 l0.length c0] w fun e w' => ∃ v0_ : Value,e = .returned (.tuple #[v0_,.bool r2]) ∧ Kd.V (Kd.int .i64) 3 w' w.heap.size (fun k_ => (w.heap.size ≤ k_)) v0_ r1 ∧ Below w.heap.size w w' := by
 have HR0 := Aside0.mk hr0
 have HC0 := Aside0.mk hc0
 clear hr0 hc0
 have HB := Aside0.mk (Below.refl w.heap.size w)
 have H : (spec_leShortest.l0 k l0 2) = some (r1,r2) := h
 clear h
 have H' := Aside0.mk H
 clear H
 go_enter Try.func45,Try.ntmps45
 go_wp2
 go_loopg [4] k (fun kq v4 w' => ∃ (x4_1 : Int),v4 = .int .i64 x4_1 ∧ Aside0 (spec_leShortest.l0 kq l0 x4_1 = some (r1,r2)) ∧ Aside0 (kq ≤ k) ∧ Aside0 (Below w.heap.size w w'))
 case atStart => exact ⟨(2),(by first|rfl|(simp;done)|(simp [*];done)),H',⟨Nat.le_refl _⟩,⟨ZQ HB⟩⟩
 case round =>
  clear H'
  obtain ⟨x4_1,rfl,HA,HK1,HB⟩ := hrel
  cases gk with
  | zero => exact absurd HA.out (by simp [spec_leShortest.l0])
  | succ k1 =>
   have H := HA.out
   clear HA
   simp only [spec_leShortest.l0] at H
   by_cases c2 : x4_1 ≤ (l0.length : Int);rotate_left
   ·rw [if_neg c2] at H
    have c2b0 : decide (x4_1 ≤ (l0.length : Int)) = false := decide_eq_false c2
    clear c2
    simp only [Option.some.injEq,Prod.mk.injEq] at H
    obtain ⟨rfl,rfl⟩ := H
    go_wp2
    go_ret2
    exact ⟨_,by first|rfl|(simp [*,errW_none,errW_some] <;> rfl),Kd.V_nil _ _ _ _ _,ZQ HB⟩

   rw [if_pos c2] at H
   have c2b0 : decide (x4_1 ≤ (l0.length : Int)) = true := decide_eq_true c2
   clear c2
   have H' := Aside0.mk H
   clear H
   go_wp2
   go_loopg [16] k1 (fun kq v16 w' => ∃ (x16_2 : Int),v16 = .int .i64 x16_2 ∧ Aside0 (spec_leShortest.l1 kq l0 x4_1 (l0.length : Int) x16_2 = some (r1,r2)) ∧ Aside0 (kq ≤ k1) ∧ Aside0 (Below w.heap.size w w'))
   case atStart => exact ⟨(0),(by first|rfl|(simp;done)|(simp [*];done)),H',⟨Nat.le_refl _⟩,⟨ZQ HB⟩⟩
   case round =>
    clear H'
    obtain ⟨x16_2,rfl,HA,HK2,HB⟩ := hrel
    cases gk with
    | zero => exact absurd HA.out (by simp [spec_leShortest.l1])
    | succ k2 =>
     have H := HA.out
     clear HA
     simp only [spec_leShortest.l1] at H
     by_cases c3 : x16_2 < (l0.length : Int);rotate_left
     ·rw [if_neg c3] at H
      have c3b0 : decide (x16_2 < (l0.length : Int)) = false := decide_eq_false c3
      clear c3
      have H' := Aside0.mk H
      clear H
      go_wp2
      go_roundg k2
      case measure => have := HK1.out;have := HK2.out;omega
      case rel => exact ⟨(wrap64 (x4_1 + 1)),(by first|rfl|(simp;done)|(simp [*];done)),H',⟨by have := HK1.out;have := HK2.out;omega⟩,⟨ZQ HB⟩⟩
     rw [if_pos c3] at H
     have c3b0 : decide (x16_2 < (l0.length : Int)) = true := decide_eq_true c3
     clear c3
     obtain ⟨y101,hy101⟩ : ∃ y_ : List Int,y_ = (([x16_2] : List Int)) := ⟨_,rfl⟩
     replace H : ((spec_leCycle.f k2 l0 y101 x4_1).bind fun bt104 => (if bt104.2 = true then (some (bt104.1,true)) else (spec_leShortest.l1 k2 l0 x4_1 (l0.length : Int) (wrap64 (x16_2 + 1))))) = some (r1,r2) := by first|(rw [hy101];with_reducible exact H)|(have H2_ := (Option.bind_some _ _).symm.trans H;rw [hy101];with_reducible exact H2_)|(have H2_ := (Option.bind_some _ _).symm.trans H;with_reducible exact H2_)|with_reducible exact H|(rw [hy101];exact H)|exact H
     have Ny101 := Aside0.mk hy101
     clear hy101
     replace H := Option.bind_eq_some_iff.mp H
     obtain ⟨⟨t104,t107⟩,A40,H⟩ := H
     try dsimp only at H
     have A4 := Aside0.mk A40
     clear A40
     by_cases c5 : t107 = true
     ·subst c5
      rw [if_pos rfl] at H
      simp only [Option.some.injEq,Prod.mk.injEq] at H
      obtain ⟨rfl,rfl⟩ := H
      go_wp2_with (first|((with_reducible refine gate_dst (N := 22) rfl ?_);refine Kd.R_lit (Kd.int .i64) _ 3 ?hg (N := 22) ?hd (xs := ([x16_2] : List Int)) (inner := [.int .i64 x16_2]) (ok := fun _ => True) (okp := fun _ => True) ?hr ?hp (fun _ hk => hk) trivial (Below.refl _ _) (Nat.le_refl _) (by simp) ?_;(case hd => rfl);(case hg => rfl);(case hr => first|(go_simp;done)|(go_simp;rfl));(case hp => exact (Reps.one (show Kd.M (Kd.int .i64) _ _ _ x16_2 [.int .i64 x16_2] from rfl) (Reps.none _ _)));intro v102 w6 ho7 hb hg_ hnew_;clear hg_ hnew_;(first|rw [← Ny101.out] at ho7|(simp only [Int.reduceToNat] at ho7;rw [← Ny101.out] at ho7));have HO103 := Aside0.mk (Kd.R_lower (Kd.R_newM (M := fun k_ => (w.heap.size ≤ k_)) ho7 (below_size (ZQ HB)) (fun k_ h_ => h_)) (below_size (ZQ HB)));replace HB := Aside0.mk (below_step (ZQ HB) hb);clear hb ho7;obtain ⟨Ao8,co8,eo8⟩ := Kd.R_slice HO103.out;subst eo8)|((with_reducible refine gate_callee (f := 67) rfl ?_);refine goesM_ (some 24) Try.func67 #[.slice A0 l0.length c0,.slice Ao8 y101.length co8,.int .i64 x4_1] ?_;(with_reducible refine (spec_leCycle.calls k2 _ _ l0 (fun k_ => some k_ = (.slice Ao8 y101.length co8 : Value).ownBlock) _ _ y101 x4_1 t104 true _ ?side1 ?side2 ?side3 A4.out).mono ?_);(case side1 => exact ZR (Kd.C_below HR0.out HB.out));(case side2 => exact HC0.out);(case side3 => exact Kd.R_V (Kd.R_tight rfl (HO103.out)));rintro e w9 ⟨v105,rfl,ho0,hb⟩;refine ⟨_,rfl,?_⟩;have HO106 := Aside0.mk (Kd.V_lower (Kd.V_mono (ok' := fun k_ => (w.heap.size ≤ k_)) ho0 (fun k_ hk_ => Or.elim hk_ (fun hs_ => ((HO103.out).1 k_ hs_.symm).1) (fun hn_ => (Nat.le_trans (below_size (ZQ HB)) hn_)))) (below_size (ZQ HB)));replace HO103 := ZBR HO103 hb;replace HB := Aside0.mk (below_step (ZQ HB) hb);(try clear hb);(try clear ho0)))
      go_ret2
      exact ⟨_,by first|rfl|(simp [*,errW_none,errW_some] <;> rfl),ZKV HO106,ZQ HB⟩
     replace c5 := Bool.eq_false_iff.mpr c5
     subst c5
     rw [if_neg (show ¬ (false = true) by decide)] at H
     have H' := Aside0.mk H
     clear H
     go_wp2_with (first|((with_reducible refine gate_dst (N := 22) rfl ?_);refine Kd.R_lit (Kd.int .i64) _ 3 ?hg (N := 22) ?hd (xs := ([x16_2] : List Int)) (inner := [.int .i64 x16_2]) (ok := fun _ => True) (okp := fun _ => True) ?hr ?hp (fun _ hk => hk) trivial (Below.refl _ _) (Nat.le_refl _) (by simp) ?_;(case hd => rfl);(case hg => rfl);(case hr => first|(go_simp;done)|(go_simp;rfl));(case hp => exact (Reps.one (show Kd.M (Kd.int .i64) _ _ _ x16_2 [.int .i64 x16_2] from rfl) (Reps.none _ _)));intro v102 w10 ho11 hb hg_ hnew_;clear hg_ hnew_;(first|rw [← Ny101.out] at ho11|(simp only [Int.reduceToNat] at ho11;rw [← Ny101.out] at ho11));have HO103 := Aside0.mk (Kd.R_lower (Kd.R_newM (M := fun k_ => (w.heap.size ≤ k_)) ho11 (below_size (ZQ HB)) (fun k_ h_ => h_)) (below_size (ZQ HB)));replace HB := Aside0.mk (below_step (ZQ HB) hb);clear hb ho11;obtain ⟨Ao12,co12,eo12⟩ := Kd.R_slice HO103.out;subst eo12)|((with_reducible refine gate_callee (f := 67) rfl ?_);refine goesM_ (some 24) Try.func67 #[.slice A0 l0.length c0,.slice Ao12 y101.length co12,.int .i64 x4_1] ?_;(with_reducible refine (spec_leCycle.calls k2 _ _ l0 (fun k_ => some k_ = (.slice Ao12 y101.length co12 : Value).ownBlock) _ _ y101 x4_1 t104 false _ ?side1 ?side2 ?side3 A4.out).mono ?_);(case side1 => exact ZR (Kd.C_below HR0.out HB.out));(case side2 => exact HC0.out);(case side3 => exact Kd.R_V (Kd.R_tight rfl (HO103.out)));rintro e w13 ⟨v105,rfl,ho0,hb⟩;refine ⟨_,rfl,?_⟩;have HO106 := Aside0.mk (Kd.V_lower (Kd.V_mono (ok' := fun k_ => (w.heap.size ≤ k_)) ho0 (fun k_ hk_ => Or.elim hk_ (fun hs_ => ((HO103.out).1 k_ hs_.symm).1) (fun hn_ => (Nat.le_trans (below_size (ZQ HB)) hn_)))) (below_size (ZQ HB)));replace HO103 := ZBR HO103 hb;replace HB := Aside0.mk (below_step (ZQ HB) hb);(try clear hb);(try clear ho0)))
     go_roundg k2
     case measure => have := HK1.out;have := HK2.out;omega
     case rel => exact ⟨(wrap64 (x16_2 + 1)),(by first|rfl|(simp;done)|(simp [*];done)),H',⟨by have := HK1.out;have := HK2.out;omega⟩,⟨ZQ HB⟩⟩
/-! ### spec_CycleOf: function 19 -/
def spec_CycleOf.f (k : Nat) (l0 : List (S43)) : Option (List Int × Bool) := (spec_leGood.f k l0).bind fun t101 => (if t101 = true then ((spec_leOrder.f k l0).bind fun t102 => (if (t102.length : Int) = (l0.length : Int) then (some (([] : List Int),false)) else ((spec_leShortest.f k l0).bind fun bt105 => (some (bt105.1,bt105.2))))) else (some (([] : List Int),false)))
theorem spec_CycleOf.mono : ∀ a0 k,LeO (spec_CycleOf.f k a0) (spec_CycleOf.f (k + 1) a0) := by
 intro a0 k
 unfold spec_CycleOf.f
 with_reducible repeat' first|apply spec_leGood.mono|apply spec_leOrder.mono|apply spec_leShortest.mono|apply LeO.refl|apply LeO.none|refine LeO.ite ?_ ?_|refine LeO.bind ?_ (fun _ => ?_)
set_option maxHeartbeats 3000000 in
set_option maxRecDepth 100000 in
theorem spec_CycleOf.calls (k : Nat) (A0 : Option Addr) (c0 : Nat) (l0 : List (S43)) (r1 : List Int) (r2 : Bool) (w : World) (hr0 : Kd.C k43 w A0 l0.length l0) (hc0 : l0.length ≤ c0) (h : spec_CycleOf.f k l0 = some (r1,r2)) :
  Calls Try.prog 19 #[.slice A0 l0.length c0] w fun e w' => ∃ v0_ : Value,e = .returned (.tuple #[v0_,.bool r2]) ∧ Kd.V (Kd.int .i64) 3 w' w.heap.size (fun k_ => (w.heap.size ≤ k_)) v0_ r1 ∧ Below w.heap.size w w' := by
 have HR0 := Aside0.mk hr0
 have HC0 := Aside0.mk hc0
 clear hr0 hc0
 have HB := Aside0.mk (Below.refl w.heap.size w)
 have H : ((spec_leGood.f k l0).bind fun t101 => (if t101 = true then ((spec_leOrder.f k l0).bind fun t102 => (if (t102.length : Int) = (l0.length : Int) then (some (([] : List Int),false)) else ((spec_leShortest.f k l0).bind fun bt105 => (some (bt105.1,bt105.2))))) else (some (([] : List Int),false)))) = some (r1,r2) := h
 clear h
 replace H := Option.bind_eq_some_iff.mp H
 obtain ⟨t101,A20,H⟩ := H
 try dsimp only at H
 have A2 := Aside0.mk A20
 clear A20
 by_cases c3 : t101 = true;rotate_left
 ·replace c3 := Bool.eq_false_iff.mpr c3
  subst c3
  rw [if_neg (show ¬ (false = true) by decide)] at H
  simp only [Option.some.injEq,Prod.mk.injEq] at H
  obtain ⟨rfl,rfl⟩ := H
  go_enter Try.func19,Try.ntmps19
  go_wp2_with (first|((with_reducible refine gate_callee (f := 29) rfl ?_);refine goesM_ (some 5) Try.func29 #[.slice A0 l0.length c0] ?_;(with_reducible refine (spec_leGood.calls k _ _ l0 false _ ?side1 ?side2 A2.out).mono ?_);(case side1 => exact ZR HR0.out);(case side2 => exact HC0.out);rintro e w14 ⟨rfl,hb⟩;refine ⟨_,rfl,?_⟩;replace HB := Aside0.mk (below_step (ZQ HB) hb);(try clear hb)))
  go_ret2
  exact ⟨_,by first|rfl|(simp [*,errW_none,errW_some] <;> rfl),Kd.V_nil _ _ _ _ _,ZQ HB⟩

 subst c3
 rw [if_pos rfl] at H
 replace H := Option.bind_eq_some_iff.mp H
 obtain ⟨t102,A40,H⟩ := H
 try dsimp only at H
 have A4 := Aside0.mk A40
 clear A40
 by_cases c5 : (t102.length : Int) = (l0.length : Int)
 ·rw [if_pos c5] at H
  have c5b0 : ((t102.length : Int) == (l0.length : Int)) = true := beq_iff_eq.mpr c5
  have c5b1 : ((t102.length : Int) != (l0.length : Int)) = false := bne_eq_false_iff_eq.mpr c5
  have c5b2 : (t102.length == l0.length) = true := by first|simpa using c5|(simp at c5 ⊢;omega)
  clear c5
  simp only [Option.some.injEq,Prod.mk.injEq] at H
  obtain ⟨rfl,rfl⟩ := H
  go_enter Try.func19,Try.ntmps19
  go_wp2_with (first|((with_reducible refine gate_callee (f := 29) rfl ?_);refine goesM_ (some 5) Try.func29 #[.slice A0 l0.length c0] ?_;(with_reducible refine (spec_leGood.calls k _ _ l0 true _ ?side1 ?side2 A2.out).mono ?_);(case side1 => exact ZR HR0.out);(case side2 => exact HC0.out);rintro e w6 ⟨rfl,hb⟩;refine ⟨_,rfl,?_⟩;replace HB := Aside0.mk (below_step (ZQ HB) hb);(try clear hb))|(go_at_call 31;(with_reducible refine (spec_leOrder.calls k _ _ l0 t102 _ ?side1 ?side2 A4.out).mono ?_);(case side1 => exact ZR (Kd.C_below HR0.out HB.out));(case side2 => exact HC0.out);rintro e w7 ⟨v103,rfl,ho0,hb⟩;have HO104 := Aside0.mk (Kd.R_lower (Kd.R_newM (M := fun k_ => (w.heap.size ≤ k_)) ho0 (below_size (ZQ HB)) (fun k_ h_ => h_)) (below_size (ZQ HB)));replace HB := Aside0.mk (below_step (ZQ HB) hb);(try clear hb);(try clear ho0);obtain ⟨Ao8,co8,eo8⟩ := Kd.R_slice HO104.out;subst eo8))
  go_ret2
  exact ⟨_,by first|rfl|(simp [*,errW_none,errW_some] <;> rfl),Kd.V_nil _ _ _ _ _,ZQ HB⟩
 rw [if_neg c5] at H
 have c5b0 : ((t102.length : Int) == (l0.length : Int)) = false := beq_eq_false_iff_ne.mpr c5
 have c5b1 : ((t102.length : Int) != (l0.length : Int)) = true := bne_iff_ne.mpr c5
 have c5b2 : (t102.length == l0.length) = false := by first|simpa using c5|(simp at c5 ⊢;omega)
 replace H := Option.bind_eq_some_iff.mp H
 obtain ⟨⟨t105,t108⟩,A90,H⟩ := H
 try dsimp only at H
 have A9 := Aside0.mk A90
 clear A90
 simp only [Option.some.injEq,Prod.mk.injEq] at H
 obtain ⟨rfl,rfl⟩ := H
 go_enter Try.func19,Try.ntmps19
 go_wp2_with (first|((with_reducible refine gate_callee (f := 29) rfl ?_);refine goesM_ (some 5) Try.func29 #[.slice A0 l0.length c0] ?_;(with_reducible refine (spec_leGood.calls k _ _ l0 true _ ?side1 ?side2 A2.out).mono ?_);(case side1 => exact ZR HR0.out);(case side2 => exact HC0.out);rintro e w10 ⟨rfl,hb⟩;refine ⟨_,rfl,?_⟩;replace HB := Aside0.mk (below_step (ZQ HB) hb);(try clear hb))|(go_at_call 31;(with_reducible refine (spec_leOrder.calls k _ _ l0 t102 _ ?side1 ?side2 A4.out).mono ?_);(case side1 => exact ZR (Kd.C_below HR0.out HB.out));(case side2 => exact HC0.out);rintro e w11 ⟨v103,rfl,ho0,hb⟩;have HO104 := Aside0.mk (Kd.R_lower (Kd.R_newM (M := fun k_ => (w.heap.size ≤ k_)) ho0 (below_size (ZQ HB)) (fun k_ h_ => h_)) (below_size (ZQ HB)));replace HB := Aside0.mk (below_step (ZQ HB) hb);(try clear hb);(try clear ho0);obtain ⟨Ao12,co12,eo12⟩ := Kd.R_slice HO104.out;subst eo12)|((with_reducible refine gate_callee (f := 45) rfl ?_);refine goesM_ (some 16) Try.func45 #[.slice A0 l0.length c0] ?_;(with_reducible refine (spec_leShortest.calls k _ _ l0 t105 t108 _ ?side1 ?side2 A9.out).mono ?_);(case side1 => exact ZR (Kd.C_below HR0.out HB.out));(case side2 => exact HC0.out);rintro e w13 ⟨v106,rfl,ho0,hb⟩;refine ⟨_,rfl,?_⟩;have HO107 := Aside0.mk (Kd.V_lower (Kd.V_mono (ok' := fun k_ => (w.heap.size ≤ k_) ∧ some k_ ≠ (.slice Ao12 t102.length co12 : Value).ownBlock) ho0 (fun k_ hk_ => ⟨(Nat.le_trans (below_size (ZQ HB)) hk_),(Kd.fresh' (Kd.R_lt (ZK HO104)) k_ hk_)⟩)) (below_size (ZQ HB)));replace HO104 := ZBR HO104 hb;replace HB := Aside0.mk (below_step (ZQ HB) hb);(try clear hb);(try clear ho0)))
 go_ret2
 exact ⟨_,by first|rfl|(simp [*,errW_none,errW_some] <;> rfl),ZKV ⟨Kd.V_mono HO107.out (fun _ hk => hk.1)⟩,ZQ HB⟩
/-! ### laws_pIn: function 20 -/
def laws_pIn.l0 : Nat → Int → List Int → Int → Int → Option (Bool)
 | 0,_,_,_,_ => none
 | k + 1,x1,x7,x8,x9 => if x9 < x8 then (if 0 ≤ x9 then (if x9 < (x7.length : Int) then (if (rd x7 x9) = x1 then (some true) else (laws_pIn.l0 k x1 x7 x8 (wrap64 (x9 + 1)))) else (none)) else (none)) else (some false)
def laws_pIn.f (k : Nat) (l0 : List Int) (a1 : Int) : Option (Bool) := laws_pIn.l0 k a1 l0 (l0.length : Int) 0
theorem laws_pIn.mono_l : ∀ k,(∀ y0 y1 y2 y3,LeO (laws_pIn.l0 k y0 y1 y2 y3) (laws_pIn.l0 (k + 1) y0 y1 y2 y3))
 | 0 => fun _ _ _ _ r h => by simp [laws_pIn.l0] at h
 | k + 1 => by
  have ih0 := laws_pIn.mono_l k
  intro y0 y1 y2 y3
  unfold laws_pIn.l0
  with_reducible repeat' first|apply ih0|apply LeO.refl|apply LeO.none|refine LeO.ite ?_ ?_|refine LeO.bind ?_ (fun _ => ?_)
theorem laws_pIn.mono : ∀ a0 a1 k,LeO (laws_pIn.f k a0 a1) (laws_pIn.f (k + 1) a0 a1) := by
 intro a0 a1 k
 have ih0 := laws_pIn.mono_l k
 unfold laws_pIn.f
 with_reducible repeat' first|apply ih0|apply LeO.refl|apply LeO.none|refine LeO.ite ?_ ?_|refine LeO.bind ?_ (fun _ => ?_)
set_option maxHeartbeats 3000000 in
set_option maxRecDepth 100000 in
theorem laws_pIn.calls (k : Nat) (A0 : Option Addr) (c0 : Nat) (l0 : List Int) (a1 : Int) (r : Bool) (w : World) (hr0 : Kd.C (Kd.int .i64) w A0 l0.length l0) (hc0 : l0.length ≤ c0) (h : laws_pIn.f k l0 a1 = some r) :
  Calls Try.prog 20 #[.slice A0 l0.length c0,.int .i64 a1] w fun e w' => e = .returned (.bool r) ∧ Drawn0 w w' := by
 have HR0 := Aside0.mk hr0
 have HC0 := Aside0.mk hc0
 clear hr0 hc0
 have H : (laws_pIn.l0 k a1 l0 (l0.length : Int) 0) = some r := h
 clear h
 have H' := Aside0.mk H
 clear H
 go_enter Try.func20,Try.ntmps20
 go_wp2
 go_loopg [9] k (fun kq v9 w' => ∃ (x9_1 : Int),v9 = .int .i64 x9_1 ∧ Aside0 (laws_pIn.l0 kq a1 l0 (l0.length : Int) x9_1 = some r) ∧ Aside0 (kq ≤ k) ∧ Drawn0 w w')
 case atStart => exact ⟨(0),(by first|rfl|(simp;done)|(simp [*];done)),H',⟨Nat.le_refl _⟩,by repeat (first|exact Drawn0.refl _|apply Drawn0.step)⟩
 case round =>
  clear H'
  obtain ⟨x9_1,rfl,HA,HK1,⟨m1,rfl⟩⟩ := hrel
  cases gk with
  | zero => exact absurd HA.out (by simp [laws_pIn.l0])
  | succ k1 =>
   have H := HA.out
   clear HA
   simp only [laws_pIn.l0] at H
   by_cases c3 : x9_1 < (l0.length : Int);rotate_left
   ·rw [if_neg c3] at H
    have c3b0 : decide (x9_1 < (l0.length : Int)) = false := decide_eq_false c3
    clear c3
    obtain rfl := Option.some.inj H
    go_wp2
    go_ret
    exact ⟨by first|rfl|(simp;done)|(simp [*];done),by repeat (first|exact Drawn0.refl _|apply Drawn0.step)⟩

   rw [if_pos c3] at H
   have c3b0 : decide (x9_1 < (l0.length : Int)) = true := decide_eq_true c3
   clear c3
   by_cases c4 : 0 ≤ x9_1;rotate_left
   ·rw [if_neg c4] at H
    exact absurd H (by simp)
   rw [if_pos c4] at H
   have c4b0 : decide (0 ≤ x9_1) = true := decide_eq_true c4
   clear c4
   by_cases c5 : x9_1 < (l0.length : Int);rotate_left
   ·rw [if_neg c5] at H
    exact absurd H (by simp)
   rw [if_pos c5] at H
   have c5b0 : decide (x9_1 < (l0.length : Int)) = true := decide_eq_true c5
   clear c5
   by_cases c6 : (rd l0 x9_1) = a1
   ·rw [if_pos c6] at H
    have c6b0 : ((rd l0 x9_1) == a1) = true := beq_iff_eq.mpr c6
    have c6b1 : ((rd l0 x9_1) != a1) = false := bne_eq_false_iff_eq.mpr c6
    clear c6
    obtain rfl := Option.some.inj H
    have p101 : 0 ≤ (x9_1 : Int) := ZD
    have q101 : x9_1 < (l0.length : Int) := ZD
    obtain ⟨ad101,e101,hx101_0⟩ := Kd.at_int HR0.out x9_1 p101 q101
    cases e101
    replace p101 := eq_true p101
    replace q101 := eq_true q101
    go_wp2
    go_ret
    exact ⟨by first|rfl|(simp;done)|(simp [*];done),by repeat (first|exact Drawn0.refl _|apply Drawn0.step)⟩
   rw [if_neg c6] at H
   have c6b0 : ((rd l0 x9_1) == a1) = false := beq_eq_false_iff_ne.mpr c6
   have c6b1 : ((rd l0 x9_1) != a1) = true := bne_iff_ne.mpr c6
   have H' := Aside0.mk H
   clear H
   have p101 : 0 ≤ (x9_1 : Int) := ZD
   have q101 : x9_1 < (l0.length : Int) := ZD
   obtain ⟨ad101,e101,hx101_0⟩ := Kd.at_int HR0.out x9_1 p101 q101
   cases e101
   replace p101 := eq_true p101
   replace q101 := eq_true q101
   go_wp2
   go_roundg k1
   case measure => have := HK1.out;omega
   case rel => exact ⟨(wrap64 (x9_1 + 1)),(by first|rfl|(simp;done)|(simp [*];done)),H',⟨by have := HK1.out;omega⟩,by repeat (first|exact Drawn0.refl _|apply Drawn0.step)⟩
end Go.Proofs.Ytgnijnlgbelifaa.Q
