-- Written for the seat Ytgnijnlgbelifaa by a program of this session (wip/tool/gx.py) out of the translation. Lean checks it.
import Derived.Test.YtgnijnlgbelifaaQ0
import Derived.Test.YtgnijnlgbelifaaGCall
import Derived.Test.YtgnijnlgbelifaaQBSlicesCloneInt
import Derived.Test.YtgnijnlgbelifaaQBSpecDrawLessonsOf
import Derived.Test.YtgnijnlgbelifaaQImplAllWithin
import Derived.Test.YtgnijnlgbelifaaQSlicesContainsFuncImplWord
import Derived.Test.YtgnijnlgbelifaaWTab
import Derived.Test.YtgnijnlgbelifaaWApart
import Derived.Test.YtgnijnlgbelifaaWFoot
import Derived.Test.YtgnijnlgbelifaaWKept
import Derived.Test.YtgnijnlgbelifaaWShare
import Derived.Test.YtgnijnlgbelifaaWN
import Derived.Test.YtgnijnlgbelifaaWRepsOne
import Derived.Test.YtgnijnlgbelifaaWGuard
namespace Go.Proofs.Ytgnijnlgbelifaa.Q
open Go.RowKit Go.Proofs.YtgnijnlgbelifaaW.PrintWords Go.Proofs.YtgnijnlgbelifaaW.PrintLast Go.Proofs.YtgnijnlgbelifaaW.PrintMore Go.Proofs.YtgnijnlgbelifaaW.GCall
attribute [local go_sem] max2_int min2_int max_two min_two max_three min_three max_four min_four   -- for this text's walks alone
set_option linter.unusedVariables false
set_option linter.unusedSimpArgs false

/-! ### impl_AreWords: function 14 -/
mutual
def impl_AreWords.l0 : Nat → List (S43) → List (S43) → Int → Int → Option (Bool)
 | 0,_,_,_,_ => none
 | k + 1,x0,x5,x6,x7 => if x7 < x6 then (if 0 ≤ x7 then (if x7 < (x5.length : Int) then ((impl_IsGloss.f k ((rd_T43 x5 x7).f0)).bind fun t103 => (if t103 = true then ((impl_within.f ((rd_T43 x5 x7).f2) 0 99999).bind fun t104 => (if t104 = true then ((impl_allWithin.f ((rd_T43 x5 x7).f1) 0 (wrap64 ((x0.length : Int) - 1))).bind fun t105 => (if t105 = true then ((slices_Contains_int.f k ((rd_T43 x5 x7).f1) x7).bind fun t106 => (impl_AreWords.j1 k x0 x7 x5 x6 x7 t106 ((rd_T43 x5 x7).f0) ((rd_T43 x5 x7).f1) ((rd_T43 x5 x7).f2))) else (impl_AreWords.j1 k x0 x7 x5 x6 x7 true ((rd_T43 x5 x7).f0) ((rd_T43 x5 x7).f1) ((rd_T43 x5 x7).f2)))) else (impl_AreWords.j1 k x0 x7 x5 x6 x7 true ((rd_T43 x5 x7).f0) ((rd_T43 x5 x7).f1) ((rd_T43 x5 x7).f2)))) else (impl_AreWords.j1 k x0 x7 x5 x6 x7 true ((rd_T43 x5 x7).f0) ((rd_T43 x5 x7).f1) ((rd_T43 x5 x7).f2)))) else (none)) else (none)) else (some (decide ((x0.length : Int) ≤ 16)))
def impl_AreWords.j1 : Nat → List (S43) → Int → List (S43) → Int → Int → Bool → ByteArray → List Int → Int → Option (Bool)
 | 0,_,_,_,_,_,_,_,_,_ => none
 | k + 1,x0,x3,x5,x6,x7,x36,x103000,x103001,x103002 => if x36 = true then (some false) else ((impl_distinct_int.f x103001).bind fun t107 => (if (t107.length : Int) = (x103001.length : Int) then ((slices_IsSorted_int.f k x103001).bind fun t110 => (impl_AreWords.j2 k x0 x3 x5 x6 x7 (!t110) x103000 x103001 x103002)) else (impl_AreWords.j2 k x0 x3 x5 x6 x7 true x103000 x103001 x103002)))
def impl_AreWords.j2 : Nat → List (S43) → Int → List (S43) → Int → Int → Bool → ByteArray → List Int → Int → Option (Bool)
 | 0,_,_,_,_,_,_,_,_,_ => none
 | k + 1,x0,x3,x5,x6,x7,x50,x103000,x103001,x103002 => if x50 = true then (some false) else (if 0 ≤ x3 then (if x3 ≤ (x0.length : Int) then ((slices_ContainsFunc_impl_Word.f (x0.take (x3 : Int).toNat) x103000).bind fun t115 => (if t115 = true then (some false) else (impl_AreWords.l0 k x0 x5 x6 (wrap64 (x7 + 1))))) else (none)) else (none))
end
def impl_AreWords.f (k : Nat) (l0 : List (S43)) : Option (Bool) := impl_AreWords.l0 k l0 l0 (l0.length : Int) 0
theorem impl_AreWords.mono_l : ∀ k,(∀ y0 y1 y2 y3,LeO (impl_AreWords.l0 k y0 y1 y2 y3) (impl_AreWords.l0 (k + 1) y0 y1 y2 y3)) ∧ (∀ y0 y1 y2 y3 y4 y5 y6 y7 y8,LeO (impl_AreWords.j1 k y0 y1 y2 y3 y4 y5 y6 y7 y8) (impl_AreWords.j1 (k + 1) y0 y1 y2 y3 y4 y5 y6 y7 y8)) ∧ (∀ y0 y1 y2 y3 y4 y5 y6 y7 y8,LeO (impl_AreWords.j2 k y0 y1 y2 y3 y4 y5 y6 y7 y8) (impl_AreWords.j2 (k + 1) y0 y1 y2 y3 y4 y5 y6 y7 y8))
 | 0 => ⟨fun _ _ _ _ r h => by simp [impl_AreWords.l0] at h,fun _ _ _ _ _ _ _ _ _ r h => by simp [impl_AreWords.j1] at h,fun _ _ _ _ _ _ _ _ _ r h => by simp [impl_AreWords.j2] at h⟩
 | k + 1 => by
  obtain ⟨ih0,ih1,ih2⟩ := impl_AreWords.mono_l k
  refine ⟨?_,?_,?_⟩ <;> intros
  all_goals first|unfold impl_AreWords.l0|unfold impl_AreWords.j1|unfold impl_AreWords.j2
  with_reducible repeat' first|apply ih0|apply ih1|apply ih2|apply impl_IsGloss.mono|apply slices_Contains_int.mono|apply slices_IsSorted_int.mono|apply LeO.refl|apply LeO.none|refine LeO.ite ?_ ?_|refine LeO.bind ?_ (fun _ => ?_)
theorem impl_AreWords.mono : ∀ a0 k,LeO (impl_AreWords.f k a0) (impl_AreWords.f (k + 1) a0) := by
 intro a0 k
 obtain ⟨ih0,ih1,ih2⟩ := impl_AreWords.mono_l k
 unfold impl_AreWords.f
 with_reducible repeat' first|apply ih0|apply ih1|apply ih2|apply impl_IsGloss.mono|apply slices_Contains_int.mono|apply slices_IsSorted_int.mono|apply LeO.refl|apply LeO.none|refine LeO.ite ?_ ?_|refine LeO.bind ?_ (fun _ => ?_)
def impl_AreWords.T6 : Bool × List (List Nat × List Nat) := (true,[([],[]),([0],[0]),([1],[1]),([2],[2]),([],[]),([4],[4]),([5],[5]),([3,6],[3,6]),([7,2],[7]),([8],[8]),([9,8],[8,9]),([10,8,8],[8,10]),([11,8],[8,11]),([8,12],[8,12])])
def impl_AreWords.B6 : List Nat := [0,1,3,7,0,16,48,127,255,511,1023,2047,4095,8191]
theorem impl_AreWords.tab6 : rtab .any (opsOf Try.f14 6) = impl_AreWords.T6 := by kernel_rfl
theorem impl_AreWords.bits6 : waitsOk impl_AreWords.T6.2 impl_AreWords.B6 = true := by kernel_rfl
set_option maxHeartbeats 3000000 in
set_option maxRecDepth 100000 in
theorem impl_AreWords.calls (k : Nat) (A0 : Option Addr) (c0 : Nat) (l0 : List (S43)) (r : Bool) (w : World) (hr0 : Kd.C k43 w A0 l0.length l0) (hc0 : l0.length ≤ c0) (h : impl_AreWords.f k l0 = some r) :
  Calls Try.prog 14 #[.slice A0 l0.length c0] w fun e w' => e = .returned (.bool r) ∧ Below w.heap.size w w' := by
 have hu43 := Try.underlying43
 have HR0 := Aside0.mk hr0
 have HC0 := Aside0.mk hc0
 clear hr0 hc0
 have HB := Aside0.mk (Below.refl w.heap.size w)
 have H : (impl_AreWords.l0 k l0 l0 (l0.length : Int) 0) = some r := h
 clear h
 have H' := Aside0.mk H
 clear H
 go_enter Try.func14,Try.ntmps14
 go_wp2
 go_loopg [7] k (fun kq v7 w' => ∃ (x7_1 : Int),v7 = .int .i64 x7_1 ∧ Aside0 (impl_AreWords.l0 kq l0 l0 (l0.length : Int) x7_1 = some r) ∧ Aside0 (kq ≤ k) ∧ Aside0 (Below w.heap.size w w'))
 case atStart => exact ⟨(0),(by first|rfl|(simp;done)|(simp [*];done)),H',⟨Nat.le_refl _⟩,⟨ZQ HB⟩⟩
 case round =>
  clear H'
  obtain ⟨x7_1,rfl,HA,HK1,HB⟩ := hrel
  cases gk with
  | zero => exact absurd HA.out (by simp [impl_AreWords.l0])
  | succ k1 =>
   have H := HA.out
   clear HA
   simp only [impl_AreWords.l0] at H
   by_cases c2 : x7_1 < (l0.length : Int);rotate_left
   ·rw [if_neg c2] at H
    have c2b0 : decide (x7_1 < (l0.length : Int)) = false := decide_eq_false c2
    clear c2
    obtain rfl := Option.some.inj H
    go_wp2
    go_ret
    exact ⟨by first|rfl|(simp [*,errW_none,errW_some] <;> rfl),ZQ HB⟩

   rw [if_pos c2] at H
   have c2b0 : decide (x7_1 < (l0.length : Int)) = true := decide_eq_true c2
   clear c2
   by_cases c3 : 0 ≤ x7_1;rotate_left
   ·rw [if_neg c3] at H
    exact absurd H (by simp)
   rw [if_pos c3] at H
   have c3b0 : decide (0 ≤ x7_1) = true := decide_eq_true c3
   clear c3
   by_cases c4 : x7_1 < (l0.length : Int);rotate_left
   ·rw [if_neg c4] at H
    exact absurd H (by simp)
   rw [if_pos c4] at H
   have c4b0 : decide (x7_1 < (l0.length : Int)) = true := decide_eq_true c4
   clear c4
   have HC5 := Aside0.mk H
   clear H
   have p101 : 0 ≤ (x7_1 : Int) := ZD
   have q101 : x7_1 < (l0.length : Int) := ZD
   obtain ⟨ad101,A101_1,c101_1,e101,hx101_0,hx101_1,hx101_2,hl101_1,hi101_1⟩ := at_T43 HR0.out x7_1 p101 q101
   cases e101
   replace hx101_0 := ZX HB hx101_0
   replace hx101_1 := ZX HB hx101_1
   replace hx101_2 := ZX HB hx101_2
   have HR101_1 := Aside0.mk hi101_1
   have HC101_1 := Aside0.mk hl101_1
   clear hi101_1 hl101_1
   replace p101 := eq_true p101
   replace q101 := eq_true q101
   go_upto_region 4 with (first|((with_reducible refine gate_dst (N := 4) rfl ?_);(try (refine gate_guard (by rfl) ?_;dsimp only));refine ZE 4 #[.string (⟨#[]⟩ : ByteArray),.slice none 0 0,.int .i64 0] 43 ?_;intro gb102 hg w6 hbox hb;have BK102 := Aside0.mk (hbox);have GW102 := Aside0.mk ((by rw [hg];exact (below_size (ZQ HB)) : w.heap.size ≤ gb102));have GE102 := Aside0.mk ((by rw [hg];exact (below_size (ZQ HB)) : w.heap.size ≤ gb102));replace HB := Aside0.mk (below_step (ZQ HB) hb);clear hb hbox hg;have hcz7_0 : w6.cell? ⟨gb102,0,none⟩ = some (.string (⟨#[]⟩ : ByteArray)) := ZC BK102 0 rfl;have hcz7_1 : w6.cell? ⟨gb102,1,none⟩ = some (.slice none 0 0) := ZC BK102 1 rfl;have hcz7_2 : w6.cell? ⟨gb102,2,none⟩ = some (.int .i64 0) := ZC BK102 2 rfl;have hfz7_0 := blk_frozen BK102.out 0;have hfz7_1 := blk_frozen BK102.out 1;have hfz7_2 := blk_frozen BK102.out 2))
   (try simp only [Act.put,zuA,zuB,zuC])
   go_cut [36] (fun v36 wc => ∃ (kq : Nat) (x36_4 : Bool),v36 = .bool x36_4 ∧ Aside0 (impl_AreWords.j1 kq l0 x7_1 l0 (l0.length : Int) x7_1 x36_4 ((rd_T43 l0 x7_1).f0) ((rd_T43 l0 x7_1).f1) ((rd_T43 l0 x7_1).f2) = some r) ∧ Aside0 (kq ≤ k1) ∧ Aside0 (wc.heap[gb102]? = some (.cells #[.string ((rd_T43 l0 x7_1).f0),(.slice A101_1 ((rd_T43 l0 x7_1).f1).length c101_1),.int .i64 ((rd_T43 l0 x7_1).f2)] 43 (0,0))) ∧ Aside0 (Below w.heap.size w wc))
   case first =>
    have H := HC5.out
    clear HC5
    replace H := Option.bind_eq_some_iff.mp H
    obtain ⟨t103,A80,H⟩ := H
    try dsimp only at H
    have A8 := Aside0.mk A80
    clear A80
    by_cases c9 : t103 = true;rotate_left
    ·replace c9 := Bool.eq_false_iff.mpr c9
     subst c9
     rw [if_neg (show ¬ (false = true) by decide)] at H
     have H' := Aside0.mk H
     clear H
     have hcz21_0 : w6.cell? ⟨gb102,0,none⟩ = some (.string (⟨#[]⟩ : ByteArray)) := ZC BK102 0 rfl
     have hcz21_1 : w6.cell? ⟨gb102,1,none⟩ = some (.slice none 0 0) := ZC BK102 1 rfl
     have hcz21_2 : w6.cell? ⟨gb102,2,none⟩ = some (.int .i64 0) := ZC BK102 2 rfl
     have hfz21_0 := blk_frozen BK102.out 0
     have hfz21_1 := blk_frozen BK102.out 1
     have hfz21_2 := blk_frozen BK102.out 2
     go_wp2_with (first|((with_reducible refine gate_callee (f := 34) rfl ?_);refine goesM_ (some 14) Try.func34 #[.string ((rd_T43 l0 x7_1).f0)] ?_;(with_reducible refine (impl_IsGloss.calls k1 ((rd_T43 l0 x7_1).f0) false _ A8.out).mono ?_);rintro e w' ⟨rfl,⟨nd,rfl⟩⟩;refine ⟨_,rfl,?_⟩))
     go_meet
     case rel => exact ⟨_,(true),(by first|rfl|(simp;done)|(simp [*];done)),H',⟨by have := HK1.out;first|omega|exact Nat.le_refl _⟩,⟨by (with_reducible repeat (first|apply zhA|apply zhB|apply zhC));refine blk_put (cs := #[.string ((rd_T43 l0 x7_1).f0),.slice A101_1 ((rd_T43 l0 x7_1).f1).length c101_1,.int .i64 0]) ?_ 2 _ rfl;(with_reducible repeat (first|apply zhA|apply zhB|apply zhC));refine blk_put (cs := #[.string ((rd_T43 l0 x7_1).f0),.slice none 0 0,.int .i64 0]) ?_ 1 _ rfl;(with_reducible repeat (first|apply zhA|apply zhB|apply zhC));refine blk_put (cs := #[.string (⟨#[]⟩ : ByteArray),.slice none 0 0,.int .i64 0]) ?_ 0 _ rfl;(with_reducible repeat (first|apply zhA|apply zhB|apply zhC));exact BK102.out⟩,⟨ZQ HB⟩⟩
    subst c9
    rw [if_pos rfl] at H
    replace H := Option.bind_eq_some_iff.mp H
    obtain ⟨t104,A100,H⟩ := H
    try dsimp only at H
    have A10 := Aside0.mk A100
    clear A100
    by_cases c11 : t104 = true;rotate_left
    ·replace c11 := Bool.eq_false_iff.mpr c11
     subst c11
     rw [if_neg (show ¬ (false = true) by decide)] at H
     have H' := Aside0.mk H
     clear H
     have hcz20_0 : w6.cell? ⟨gb102,0,none⟩ = some (.string (⟨#[]⟩ : ByteArray)) := ZC BK102 0 rfl
     have hcz20_1 : w6.cell? ⟨gb102,1,none⟩ = some (.slice none 0 0) := ZC BK102 1 rfl
     have hcz20_2 : w6.cell? ⟨gb102,2,none⟩ = some (.int .i64 0) := ZC BK102 2 rfl
     have hfz20_0 := blk_frozen BK102.out 0
     have hfz20_1 := blk_frozen BK102.out 1
     have hfz20_2 := blk_frozen BK102.out 2
     go_wp2_with (first|((with_reducible refine gate_callee (f := 34) rfl ?_);refine goesM_ (some 14) Try.func34 #[.string ((rd_T43 l0 x7_1).f0)] ?_;(with_reducible refine (impl_IsGloss.calls k1 ((rd_T43 l0 x7_1).f0) true _ A8.out).mono ?_);rintro e w' ⟨rfl,⟨nd,rfl⟩⟩;refine ⟨_,rfl,?_⟩)|(go_at_call 23;(with_reducible refine (impl_within.calls ((rd_T43 l0 x7_1).f2) 0 99999 false _ A10.out).mono ?_);rintro e w' ⟨rfl,⟨nd,rfl⟩⟩))
     go_meet
     case rel => exact ⟨_,(true),(by first|rfl|(simp;done)|(simp [*];done)),H',⟨by have := HK1.out;first|omega|exact Nat.le_refl _⟩,⟨by (with_reducible repeat (first|apply zhA|apply zhB|apply zhC));refine blk_put (cs := #[.string ((rd_T43 l0 x7_1).f0),.slice A101_1 ((rd_T43 l0 x7_1).f1).length c101_1,.int .i64 0]) ?_ 2 _ rfl;(with_reducible repeat (first|apply zhA|apply zhB|apply zhC));refine blk_put (cs := #[.string ((rd_T43 l0 x7_1).f0),.slice none 0 0,.int .i64 0]) ?_ 1 _ rfl;(with_reducible repeat (first|apply zhA|apply zhB|apply zhC));refine blk_put (cs := #[.string (⟨#[]⟩ : ByteArray),.slice none 0 0,.int .i64 0]) ?_ 0 _ rfl;(with_reducible repeat (first|apply zhA|apply zhB|apply zhC));exact BK102.out⟩,⟨ZQ HB⟩⟩
    subst c11
    rw [if_pos rfl] at H
    replace H := Option.bind_eq_some_iff.mp H
    obtain ⟨t105,A120,H⟩ := H
    try dsimp only at H
    have A12 := Aside0.mk A120
    clear A120
    by_cases c13 : t105 = true;rotate_left
    ·replace c13 := Bool.eq_false_iff.mpr c13
     subst c13
     rw [if_neg (show ¬ (false = true) by decide)] at H
     have H' := Aside0.mk H
     clear H
     have hcz18_0 : w6.cell? ⟨gb102,0,none⟩ = some (.string (⟨#[]⟩ : ByteArray)) := ZC BK102 0 rfl
     have hcz18_1 : w6.cell? ⟨gb102,1,none⟩ = some (.slice none 0 0) := ZC BK102 1 rfl
     have hcz18_2 : w6.cell? ⟨gb102,2,none⟩ = some (.int .i64 0) := ZC BK102 2 rfl
     have hfz18_0 := blk_frozen BK102.out 0
     have hfz18_1 := blk_frozen BK102.out 1
     have hfz18_2 := blk_frozen BK102.out 2
     go_wp2_with (first|((with_reducible refine gate_callee (f := 34) rfl ?_);refine goesM_ (some 14) Try.func34 #[.string ((rd_T43 l0 x7_1).f0)] ?_;(with_reducible refine (impl_IsGloss.calls k1 ((rd_T43 l0 x7_1).f0) true _ A8.out).mono ?_);rintro e w' ⟨rfl,⟨nd,rfl⟩⟩;refine ⟨_,rfl,?_⟩)|(go_at_call 23;(with_reducible refine (impl_within.calls ((rd_T43 l0 x7_1).f2) 0 99999 true _ A10.out).mono ?_);rintro e w' ⟨rfl,⟨nd,rfl⟩⟩)|(go_at_call 35;(with_reducible refine (impl_allWithin.calls _ _ ((rd_T43 l0 x7_1).f1) 0 (wrap64 ((l0.length : Int) - 1)) false _ ?side1 ?side2 A12.out).mono ?_);(case side1 => exact Kd.C_below HR101_1.out (ZQ HB));(case side2 => exact HC101_1.out);rintro e w19 ⟨rfl,hb⟩;replace BK102 := Aside0.mk (blk_below (g := gb102) (o := .cells #[.string ((rd_T43 l0 x7_1).f0),.slice A101_1 ((rd_T43 l0 x7_1).f1).length c101_1,.int .i64 ((rd_T43 l0 x7_1).f2)] 43 (0,0)) (by (with_reducible repeat (first|apply zhA|apply zhB|apply zhC));refine blk_put (cs := #[.string ((rd_T43 l0 x7_1).f0),.slice A101_1 ((rd_T43 l0 x7_1).f1).length c101_1,.int .i64 0]) ?_ 2 _ rfl;(with_reducible repeat (first|apply zhA|apply zhB|apply zhC));refine blk_put (cs := #[.string ((rd_T43 l0 x7_1).f0),.slice none 0 0,.int .i64 0]) ?_ 1 _ rfl;(with_reducible repeat (first|apply zhA|apply zhB|apply zhC));refine blk_put (cs := #[.string (⟨#[]⟩ : ByteArray),.slice none 0 0,.int .i64 0]) ?_ 0 _ rfl;(with_reducible repeat (first|apply zhA|apply zhB|apply zhC));exact BK102.out) hb);replace HB := Aside0.mk (below_step (ZQ HB) hb);(try clear hb)))
     go_meet
     case rel => exact ⟨_,(true),(by first|rfl|(simp;done)|(simp [*];done)),H',⟨by have := HK1.out;first|omega|exact Nat.le_refl _⟩,⟨ZH BK102⟩,⟨ZQ HB⟩⟩
    subst c13
    rw [if_pos rfl] at H
    replace H := Option.bind_eq_some_iff.mp H
    obtain ⟨t106,A140,H⟩ := H
    try dsimp only at H
    have A14 := Aside0.mk A140
    clear A140
    have H' := Aside0.mk H
    clear H
    have hcz15_0 : w6.cell? ⟨gb102,0,none⟩ = some (.string (⟨#[]⟩ : ByteArray)) := ZC BK102 0 rfl
    have hcz15_1 : w6.cell? ⟨gb102,1,none⟩ = some (.slice none 0 0) := ZC BK102 1 rfl
    have hcz15_2 : w6.cell? ⟨gb102,2,none⟩ = some (.int .i64 0) := ZC BK102 2 rfl
    have hfz15_0 := blk_frozen BK102.out 0
    have hfz15_1 := blk_frozen BK102.out 1
    have hfz15_2 := blk_frozen BK102.out 2
    go_wp2_with (first|((with_reducible refine gate_callee (f := 34) rfl ?_);refine goesM_ (some 14) Try.func34 #[.string ((rd_T43 l0 x7_1).f0)] ?_;(with_reducible refine (impl_IsGloss.calls k1 ((rd_T43 l0 x7_1).f0) true _ A8.out).mono ?_);rintro e w' ⟨rfl,⟨nd,rfl⟩⟩;refine ⟨_,rfl,?_⟩)|(go_at_call 23;(with_reducible refine (impl_within.calls ((rd_T43 l0 x7_1).f2) 0 99999 true _ A10.out).mono ?_);rintro e w' ⟨rfl,⟨nd,rfl⟩⟩)|(go_at_call 35;(with_reducible refine (impl_allWithin.calls _ _ ((rd_T43 l0 x7_1).f1) 0 (wrap64 ((l0.length : Int) - 1)) true _ ?side1 ?side2 A12.out).mono ?_);(case side1 => exact Kd.C_below HR101_1.out (ZQ HB));(case side2 => exact HC101_1.out);rintro e w16 ⟨rfl,hb⟩;replace BK102 := Aside0.mk (blk_below (g := gb102) (o := .cells #[.string ((rd_T43 l0 x7_1).f0),.slice A101_1 ((rd_T43 l0 x7_1).f1).length c101_1,.int .i64 ((rd_T43 l0 x7_1).f2)] 43 (0,0)) (by (with_reducible repeat (first|apply zhA|apply zhB|apply zhC));refine blk_put (cs := #[.string ((rd_T43 l0 x7_1).f0),.slice A101_1 ((rd_T43 l0 x7_1).f1).length c101_1,.int .i64 0]) ?_ 2 _ rfl;(with_reducible repeat (first|apply zhA|apply zhB|apply zhC));refine blk_put (cs := #[.string ((rd_T43 l0 x7_1).f0),.slice none 0 0,.int .i64 0]) ?_ 1 _ rfl;(with_reducible repeat (first|apply zhA|apply zhB|apply zhC));refine blk_put (cs := #[.string (⟨#[]⟩ : ByteArray),.slice none 0 0,.int .i64 0]) ?_ 0 _ rfl;(with_reducible repeat (first|apply zhA|apply zhB|apply zhC));exact BK102.out) hb);replace HB := Aside0.mk (below_step (ZQ HB) hb);(try clear hb);have hcz17_0 : w16.cell? ⟨gb102,0,none⟩ = some (.string ((rd_T43 l0 x7_1).f0)) := ZC BK102 0 rfl;have hcz17_1 : w16.cell? ⟨gb102,1,none⟩ = some (.slice A101_1 ((rd_T43 l0 x7_1).f1).length c101_1) := ZC BK102 1 rfl;have hcz17_2 : w16.cell? ⟨gb102,2,none⟩ = some (.int .i64 ((rd_T43 l0 x7_1).f2)) := ZC BK102 2 rfl;have hfz17_0 := blk_frozen BK102.out 0;have hfz17_1 := blk_frozen BK102.out 1;have hfz17_2 := blk_frozen BK102.out 2)|(go_at_call 26;(with_reducible refine (slices_Contains_int.calls k1 _ _ ((rd_T43 l0 x7_1).f1) x7_1 t106 _ ?side1 ?side2 A14.out).mono ?_);(case side1 => exact ZR (Kd.C_below HR101_1.out HB.out));(case side2 => exact HC101_1.out);rintro e w' ⟨rfl,⟨nd,rfl⟩⟩))
    go_meet
    case rel => exact ⟨_,(t106),(by first|rfl|(simp;done)|(simp [*];done)),H',⟨by have := HK1.out;first|omega|exact Nat.le_refl _⟩,⟨ZH BK102⟩,⟨ZQ HB⟩⟩
   case rest =>
    clear HC5
    obtain ⟨kq,x36_4,rfl,HA,HJ4,BK102,HB⟩ := hcut
    cases kq with
    | zero => exact absurd HA.out (by simp [impl_AreWords.j1])
    | succ kj4 =>
     have H := HA.out
     clear HA
     simp only [impl_AreWords.j1] at H
     by_cases c22 : x36_4 = true
     ·subst c22
      rw [if_pos rfl] at H
      obtain rfl := Option.some.inj H
      go_wp2
      go_ret
      exact ⟨by first|rfl|(simp [*,errW_none,errW_some] <;> rfl),ZQ HB⟩
     replace c22 := Bool.eq_false_iff.mpr c22
     subst c22
     rw [if_neg (show ¬ (false = true) by decide)] at H
     have HC23 := Aside0.mk H
     clear H
     go_upto_region 6 with (fail)
     go_cut [50] (fun v50 wc => ∃ (kq : Nat) (x50_22 : Bool),v50 = .bool x50_22 ∧ Aside0 (impl_AreWords.j2 kq l0 x7_1 l0 (l0.length : Int) x7_1 x50_22 ((rd_T43 l0 x7_1).f0) ((rd_T43 l0 x7_1).f1) ((rd_T43 l0 x7_1).f2) = some r) ∧ Aside0 (kq ≤ kj4) ∧ Aside0 (wc.heap[gb102]? = some (.cells #[.string ((rd_T43 l0 x7_1).f0),(.slice A101_1 ((rd_T43 l0 x7_1).f1).length c101_1),.int .i64 ((rd_T43 l0 x7_1).f2)] 43 (0,0))) ∧ Aside0 (Below w.heap.size w wc))
     case first =>
      have H := HC23.out
      clear HC23
      replace H := Option.bind_eq_some_iff.mp H
      obtain ⟨t107,A240,H⟩ := H
      try dsimp only at H
      have A24 := Aside0.mk A240
      clear A240
      by_cases c25 : (t107.length : Int) = (((rd_T43 l0 x7_1).f1).length : Int);rotate_left
      ·rw [if_neg c25] at H
       have c25b0 : ((t107.length : Int) == (((rd_T43 l0 x7_1).f1).length : Int)) = false := beq_eq_false_iff_ne.mpr c25
       have c25b1 : ((t107.length : Int) != (((rd_T43 l0 x7_1).f1).length : Int)) = true := bne_iff_ne.mpr c25
       have c25b2 : (t107.length == ((rd_T43 l0 x7_1).f1).length) = false := by first|simpa using c25|(simp at c25 ⊢;omega)
       (first|rw [c25b0]|rw [c25b1]|(simp only [i64_w,i32_w];rw [c25b0])|skip)
       have H' := Aside0.mk H
       clear H
       try go_wp2
       replace BK102 := Aside0.mk (blk_drew BK102.out)
       replace HB := Aside0.mk (below_drew1 HB.out)
       refine start_ (n := 14) (S := fun w' => w'.cell? ⟨gb102,0,none⟩ = some (.string ((rd_T43 l0 x7_1).f0)) ∧ w'.cell? ⟨gb102,1,none⟩ = some (.slice A101_1 ((rd_T43 l0 x7_1).f1).length c101_1) ∧ w'.cell? ⟨gb102,2,none⟩ = some (.int .i64 ((rd_T43 l0 x7_1).f2))) (ds := []) #[X,X,X,X,X,X,X,X,X,X,X,X,X,X] (by kernel_rfl) rfl rfl ⟨ZC BK102 0 rfl,ZC BK102 1 rfl,ZC BK102 2 rfl⟩ (fun hHeld => ?_);refine with_tabW impl_AreWords.tab6 impl_AreWords.bits6 (fun HT_ HW_ => ?_)
       generalize wc.drew = w30 at BK102 HB hHeld ⊢
       refine YP 0 37 #[Y,X,X,X,X,X,X,X,X,X,X,X,X,X] rfl rfl HT_ ?_
       refine YP 4 41 #[Y,X,X,X,Y,X,X,X,X,X,X,X,X,X] rfl rfl HT_ ?_
       refine YT 1 38 #[Y,Y,X,X,Y,X,X,X,X,X,X,X,X,X] rfl rfl HT_ HW_ hHeld ?_
       refine YT 5 42 #[Y,Y,X,X,Y,Y,X,X,X,X,X,X,X,X] rfl rfl HT_ HW_ hHeld ?_
       refine YP 6 43 #[Y,Y,X,X,Y,Y,Y,X,X,X,X,X,X,X] rfl rfl HT_ ?_
       refine ZO 2 39 #[Y,Y,Y,X,Y,Y,Y,X,X,X,X,X,X,X] rfl rfl HT_ fun K hK => ?_
       refine goes_ Try.func36 (by kernel_rfl) rfl #[.slice A101_1 ((rd_T43 l0 x7_1).f1).length c101_1] (by rfl) rfl rfl (by (try simp only [List.map_toArray,List.map_cons,List.map_nil]);first|done|rfl|(simp only [List.length_drop,List.length_take];rfl)) ?_
       with_reducible refine (impl_distinct_int.calls _ _ ((rd_T43 l0 x7_1).f1) t107 _ ?side1 ?side2 A24.out).mono ?_
       (case side1 => exact ZR (Kd.C_below HR101_1.out HB.out))
       (case side2 => exact HC101_1.out)
       rintro e w31 ⟨v108,rfl,ho0,hb⟩
       refine ⟨_,rfl,?_⟩
       have HO109 := Aside0.mk (Kd.R_lower ho0 (below_size (ZQ HB)))
       replace BK102 := Aside0.mk (blk_below (ZH BK102) hb)
       replace HB := Aside0.mk (below_step (ZQ HB) hb)
       obtain ⟨Ao32,co32,eo32⟩ := Kd.R_slice HO109.out
       (first|subst eo32|(injection eo32 with f1_ f2_ f3_;have f4_ := f1_.symm;have f5_ := f3_.symm;clear f1_ f2_ f3_;subst f4_;subst f5_))
       refine hK.out _ _ ⟨ZC BK102 0 rfl,ZC BK102 1 rfl,ZC BK102 2 rfl⟩ (fun hHeld => ?_)
       clear hK K
       refine norm_ (a' := ?_) ?_ ?_
       rotate_left
       ·show Act.put _ (some 39) _ = _
        simp only [Act.put,zuA,zuB,zuC,i64_w,i32_w]
        rfl
       refine YP 3 40 #[Y,Y,Y,Y,Y,Y,Y,X,X,X,X,X,X,X] rfl rfl HT_ ?_
       refine YP 7 44 #[Y,Y,Y,Y,Y,Y,Y,Y,X,X,X,X,X,X] rfl rfl HT_ ?_
       refine YP 8 45 #[Y,Y,Y,Y,Y,Y,Y,Y,Y,X,X,X,X,X] rfl rfl HT_ ?_
       refine YU 9 46 #[Y,Y,Y,Y,Y,Y,Y,Y,Y,Y,X,X,X,X] rfl rfl HT_ ?_
       refine YU 10 47 #[Y,Y,Y,Y,Y,Y,Y,Y,Y,Y,Y,X,X,X] rfl rfl HT_ ?_
       refine YU 11 48 #[Y,Y,Y,Y,Y,Y,Y,Y,Y,Y,Y,Y,X,X] rfl rfl HT_ ?_
       refine YU 12 49 #[Y,Y,Y,Y,Y,Y,Y,Y,Y,Y,Y,Y,Y,X] rfl rfl HT_ ?_
       refine YP 13 50 #[Y,Y,Y,Y,Y,Y,Y,Y,Y,Y,Y,Y,Y,Y] rfl rfl HT_ ?_
       refine done_ (done_of HT_.out (by kernel_rfl)) ?_
       try go_wp2
       go_meet
       case rel => exact ⟨_,(true),(by first|rfl|(simp;done)|(simp [*];done)),H',⟨by have := HK1.out;have := HJ4.out;first|omega|exact Nat.le_refl _⟩,⟨ZH BK102⟩,⟨ZQ HB⟩⟩
      rw [if_pos c25] at H
      have c25b0 : ((t107.length : Int) == (((rd_T43 l0 x7_1).f1).length : Int)) = true := beq_iff_eq.mpr c25
      have c25b1 : ((t107.length : Int) != (((rd_T43 l0 x7_1).f1).length : Int)) = false := bne_eq_false_iff_eq.mpr c25
      have c25b2 : (t107.length == ((rd_T43 l0 x7_1).f1).length) = true := by first|simpa using c25|(simp at c25 ⊢;omega)
      clear c25
      (first|rw [c25b0]|rw [c25b1]|(simp only [i64_w,i32_w];rw [c25b0])|skip)
      replace H := Option.bind_eq_some_iff.mp H
      obtain ⟨t110,A260,H⟩ := H
      try dsimp only at H
      have A26 := Aside0.mk A260
      clear A260
      have H' := Aside0.mk H
      clear H
      try go_wp2
      replace BK102 := Aside0.mk (blk_drew BK102.out)
      replace HB := Aside0.mk (below_drew1 HB.out)
      refine start_ (n := 14) (S := fun w' => w'.cell? ⟨gb102,0,none⟩ = some (.string ((rd_T43 l0 x7_1).f0)) ∧ w'.cell? ⟨gb102,1,none⟩ = some (.slice A101_1 ((rd_T43 l0 x7_1).f1).length c101_1) ∧ w'.cell? ⟨gb102,2,none⟩ = some (.int .i64 ((rd_T43 l0 x7_1).f2))) (ds := []) #[X,X,X,X,X,X,X,X,X,X,X,X,X,X] (by kernel_rfl) rfl rfl ⟨ZC BK102 0 rfl,ZC BK102 1 rfl,ZC BK102 2 rfl⟩ (fun hHeld => ?_);refine with_tabW impl_AreWords.tab6 impl_AreWords.bits6 (fun HT_ HW_ => ?_)
      generalize wc.drew = w27 at BK102 HB hHeld ⊢
      refine YP 0 37 #[Y,X,X,X,X,X,X,X,X,X,X,X,X,X] rfl rfl HT_ ?_
      refine YP 4 41 #[Y,X,X,X,Y,X,X,X,X,X,X,X,X,X] rfl rfl HT_ ?_
      refine YT 1 38 #[Y,Y,X,X,Y,X,X,X,X,X,X,X,X,X] rfl rfl HT_ HW_ hHeld ?_
      refine YT 5 42 #[Y,Y,X,X,Y,Y,X,X,X,X,X,X,X,X] rfl rfl HT_ HW_ hHeld ?_
      refine YP 6 43 #[Y,Y,X,X,Y,Y,Y,X,X,X,X,X,X,X] rfl rfl HT_ ?_
      refine ZO 2 39 #[Y,Y,Y,X,Y,Y,Y,X,X,X,X,X,X,X] rfl rfl HT_ fun K hK => ?_
      refine goes_ Try.func36 (by kernel_rfl) rfl #[.slice A101_1 ((rd_T43 l0 x7_1).f1).length c101_1] (by rfl) rfl rfl (by (try simp only [List.map_toArray,List.map_cons,List.map_nil]);first|done|rfl|(simp only [List.length_drop,List.length_take];rfl)) ?_
      with_reducible refine (impl_distinct_int.calls _ _ ((rd_T43 l0 x7_1).f1) t107 _ ?side1 ?side2 A24.out).mono ?_
      (case side1 => exact ZR (Kd.C_below HR101_1.out HB.out))
      (case side2 => exact HC101_1.out)
      rintro e w28 ⟨v108,rfl,ho0,hb⟩
      refine ⟨_,rfl,?_⟩
      have HO109 := Aside0.mk (Kd.R_lower ho0 (below_size (ZQ HB)))
      replace BK102 := Aside0.mk (blk_below (ZH BK102) hb)
      replace HB := Aside0.mk (below_step (ZQ HB) hb)
      obtain ⟨Ao29,co29,eo29⟩ := Kd.R_slice HO109.out
      (first|subst eo29|(injection eo29 with f1_ f2_ f3_;have f4_ := f1_.symm;have f5_ := f3_.symm;clear f1_ f2_ f3_;subst f4_;subst f5_))
      refine hK.out _ _ ⟨ZC BK102 0 rfl,ZC BK102 1 rfl,ZC BK102 2 rfl⟩ (fun hHeld => ?_)
      clear hK K
      refine norm_ (a' := ?_) ?_ ?_
      rotate_left
      ·show Act.put _ (some 39) _ = _
       simp only [Act.put,zuA,zuB,zuC,i64_w,i32_w]
       rfl
      refine YP 3 40 #[Y,Y,Y,Y,Y,Y,Y,X,X,X,X,X,X,X] rfl rfl HT_ ?_
      refine YP 7 44 #[Y,Y,Y,Y,Y,Y,Y,Y,X,X,X,X,X,X] rfl rfl HT_ ?_
      refine YP 8 45 #[Y,Y,Y,Y,Y,Y,Y,Y,Y,X,X,X,X,X] rfl rfl HT_ ?_
      refine YP 9 46 #[Y,Y,Y,Y,Y,Y,Y,Y,Y,Y,X,X,X,X] rfl rfl HT_ ?_
      refine YT 10 47 #[Y,Y,Y,Y,Y,Y,Y,Y,Y,Y,Y,X,X,X] rfl rfl HT_ HW_ hHeld ?_
      refine ZO 11 48 #[Y,Y,Y,Y,Y,Y,Y,Y,Y,Y,Y,Y,X,X] rfl rfl HT_ fun K hK => ?_
      refine goes_ Try.func37 (by kernel_rfl) rfl #[.slice A101_1 ((rd_T43 l0 x7_1).f1).length c101_1] (by rfl) rfl rfl (by (try simp only [List.map_toArray,List.map_cons,List.map_nil]);first|done|rfl|(simp only [List.length_drop,List.length_take];rfl)) ?_
      with_reducible refine (slices_IsSorted_int.calls kj4 _ _ ((rd_T43 l0 x7_1).f1) t110 _ ?side1 ?side2 A26.out).mono ?_
      (case side1 => exact ZR (Kd.C_below HR101_1.out HB.out))
      (case side2 => exact HC101_1.out)
      rintro e w' ⟨rfl,⟨nd,rfl⟩⟩
      refine ⟨_,rfl,?_⟩
      refine hK.out _ _ ⟨ZC BK102 0 rfl,ZC BK102 1 rfl,ZC BK102 2 rfl⟩ (fun hHeld => ?_)
      clear hK K
      refine norm_ (a' := ?_) ?_ ?_
      rotate_left
      ·show Act.put _ (some 48) _ = _
       simp only [Act.put,zuA,zuB,zuC,i64_w,i32_w]
       rfl
      refine YP 12 49 #[Y,Y,Y,Y,Y,Y,Y,Y,Y,Y,Y,Y,Y,X] rfl rfl HT_ ?_
      refine YP 13 50 #[Y,Y,Y,Y,Y,Y,Y,Y,Y,Y,Y,Y,Y,Y] rfl rfl HT_ ?_
      refine done_ (done_of HT_.out (by kernel_rfl)) ?_
      try go_wp2
      go_meet
      case rel => exact ⟨_,(!t110),(by first|rfl|(simp;done)|(simp [*];done)),H',⟨by have := HK1.out;have := HJ4.out;first|omega|exact Nat.le_refl _⟩,⟨ZH BK102⟩,⟨ZQ HB⟩⟩
     case rest =>
      clear HC23
      obtain ⟨kq,x50_22,rfl,HA,HJ22,BK102,HB⟩ := hcut
      cases kq with
      | zero => exact absurd HA.out (by simp [impl_AreWords.j2])
      | succ kj22 =>
       have H := HA.out
       clear HA
       simp only [impl_AreWords.j2] at H
       by_cases c33 : x50_22 = true
       ·subst c33
        rw [if_pos rfl] at H
        obtain rfl := Option.some.inj H
        go_wp2
        go_ret
        exact ⟨by first|rfl|(simp [*,errW_none,errW_some] <;> rfl),ZQ HB⟩
       replace c33 := Bool.eq_false_iff.mpr c33
       subst c33
       rw [if_neg (show ¬ (false = true) by decide)] at H
       by_cases c34 : 0 ≤ x7_1;rotate_left
       ·rw [if_neg c34] at H
        exact absurd H (by simp)
       rw [if_pos c34] at H
       have c34b0 := eq_true c34
       have c34b1 : decide (0 ≤ x7_1) = true := decide_eq_true c34
       clear c34
       by_cases c35 : x7_1 ≤ (l0.length : Int);rotate_left
       ·rw [if_neg c35] at H
        exact absurd H (by simp)
       rw [if_pos c35] at H
       have c35b0 := eq_true c35
       have c35b1 : decide (x7_1 ≤ (l0.length : Int)) = true := decide_eq_true c35
       clear c35
       obtain ⟨y111,hy111⟩ : ∃ y_ : List (S43),y_ = (l0.take (x7_1 : Int).toNat) := ⟨_,rfl⟩
       replace H : ((slices_ContainsFunc_impl_Word.f y111 ((rd_T43 l0 x7_1).f0)).bind fun t115 => (if t115 = true then (some false) else (impl_AreWords.l0 kj22 l0 l0 (l0.length : Int) (wrap64 (x7_1 + 1))))) = some r := by first|(rw [hy111];with_reducible exact H)|(have H2_ := (Option.bind_some _ _).symm.trans H;rw [hy111];with_reducible exact H2_)|(have H2_ := (Option.bind_some _ _).symm.trans H;with_reducible exact H2_)|with_reducible exact H|(rw [hy111];exact H)|exact H
       have Ny111 := Aside0.mk hy111
       clear hy111
       replace H := Option.bind_eq_some_iff.mp H
       obtain ⟨t115,A360,H⟩ := H
       try dsimp only at H
       have A36 := Aside0.mk A360
       clear A360
       by_cases c37 : t115 = true
       ·subst c37
        rw [if_pos rfl] at H
        obtain rfl := Option.some.inj H
        have q38 : (x7_1 : Int) ≤ ((l0.length : Int) : Int) := ZD
        obtain ⟨i038,hi038,_,hsz38,_⟩ := info_parts info43
        have hroom38 : l0.length ≤ c0 := HC0.out
        have hC38 : Kd.C k43 _ (some ad101) l0.length l0 := HR0.out
        have hcut38 := cut_to (P := Try.prog) 24 43 .i64 Try.underlying24 hi038 (some ad101) l0.length c0 x7_1 ZD q38 hroom38
        have hr38 := Kd.C_take (m := (x7_1 : Int).toNat) hC38 (by omega)
        have hy38 : y111.length = (x7_1 : Int).toNat := (by rw [Ny111.out,List.length_take];omega)
        rw [← Ny111.out] at hr38
        rw [← hy38] at hcut38
        have HR114 := Aside0.mk hr38
        have HC114 := Aside0.mk (show y111.length ≤ c0 from by omega)
        clear hr38 hC38 hroom38 hi038 hsz38
        have KY38 := Aside0.mk hy38
        clear hy38
        replace q38 := eq_true q38
        go_wp2_with (first|((with_reducible refine gate_callee (f := 38) rfl ?_);refine goesL_ (some 55) rfl rfl Try.func38 (by kernel_rfl) rfl #[.slice (some ad101) y111.length c0,.func (.func 39) #[] #[.pointer (some ⟨gb102,0,none⟩)]] rfl (by (try simp only [List.map_toArray,List.map_cons,List.map_nil]);first|done|rfl|(simp only [List.length_drop,List.length_take];rfl)) ?_;(with_reducible refine (slices_ContainsFunc_impl_Word.calls _ _ y111 ((rd_T43 l0 x7_1).f0) true _ ?side1 ?side2 ?side3 A36.out).mono ?_);(case side1 => exact ZR (Kd.C_below HR114.out HB.out));(case side2 => exact HC114.out);(case side3 => exact (blk_cell (cs := #[.string ((rd_T43 l0 x7_1).f0),.slice A101_1 ((rd_T43 l0 x7_1).f1).length c101_1,.int .i64 ((rd_T43 l0 x7_1).f2)]) (t := 43) (ZH BK102) 0).trans rfl);rintro e w39 ⟨rfl,hb⟩;refine ⟨_,rfl,?_⟩;replace BK102 := Aside0.mk (blk_below (ZH BK102) hb);replace HB := Aside0.mk (below_step (ZQ HB) hb);(try clear hb)))
        go_ret
        exact ⟨by first|rfl|(simp [*,errW_none,errW_some] <;> rfl),ZQ HB⟩
       replace c37 := Bool.eq_false_iff.mpr c37
       subst c37
       rw [if_neg (show ¬ (false = true) by decide)] at H
       have H' := Aside0.mk H
       clear H
       have q40 : (x7_1 : Int) ≤ ((l0.length : Int) : Int) := ZD
       obtain ⟨i040,hi040,_,hsz40,_⟩ := info_parts info43
       have hroom40 : l0.length ≤ c0 := HC0.out
       have hC40 : Kd.C k43 _ (some ad101) l0.length l0 := HR0.out
       have hcut40 := cut_to (P := Try.prog) 24 43 .i64 Try.underlying24 hi040 (some ad101) l0.length c0 x7_1 ZD q40 hroom40
       have hr40 := Kd.C_take (m := (x7_1 : Int).toNat) hC40 (by omega)
       have hy40 : y111.length = (x7_1 : Int).toNat := (by rw [Ny111.out,List.length_take];omega)
       rw [← Ny111.out] at hr40
       rw [← hy40] at hcut40
       have HR114 := Aside0.mk hr40
       have HC114 := Aside0.mk (show y111.length ≤ c0 from by omega)
       clear hr40 hC40 hroom40 hi040 hsz40
       have KY40 := Aside0.mk hy40
       clear hy40
       replace q40 := eq_true q40
       go_wp2_with (first|((with_reducible refine gate_callee (f := 38) rfl ?_);refine goesL_ (some 55) rfl rfl Try.func38 (by kernel_rfl) rfl #[.slice (some ad101) y111.length c0,.func (.func 39) #[] #[.pointer (some ⟨gb102,0,none⟩)]] rfl (by (try simp only [List.map_toArray,List.map_cons,List.map_nil]);first|done|rfl|(simp only [List.length_drop,List.length_take];rfl)) ?_;(with_reducible refine (slices_ContainsFunc_impl_Word.calls _ _ y111 ((rd_T43 l0 x7_1).f0) false _ ?side1 ?side2 ?side3 A36.out).mono ?_);(case side1 => exact ZR (Kd.C_below HR114.out HB.out));(case side2 => exact HC114.out);(case side3 => exact (blk_cell (cs := #[.string ((rd_T43 l0 x7_1).f0),.slice A101_1 ((rd_T43 l0 x7_1).f1).length c101_1,.int .i64 ((rd_T43 l0 x7_1).f2)]) (t := 43) (ZH BK102) 0).trans rfl);rintro e w41 ⟨rfl,hb⟩;refine ⟨_,rfl,?_⟩;replace BK102 := Aside0.mk (blk_below (ZH BK102) hb);replace HB := Aside0.mk (below_step (ZQ HB) hb);(try clear hb)))
       go_roundg kj22
       case measure => have := HK1.out;have := HJ4.out;have := HJ22.out;omega
       case rel => exact ⟨(wrap64 (x7_1 + 1)),(by first|rfl|(simp;done)|(simp [*];done)),H',⟨by have := HK1.out;have := HJ4.out;have := HJ22.out;omega⟩,⟨ZQ HB⟩⟩
end Go.Proofs.Ytgnijnlgbelifaa.Q
