-- Written for the seat Ytgnijnlgbelifaa by a program of this session (wip/tool/gx.py) out of the translation. Lean checks it.
import Derived.Test.YtgnijnlgbelifaaQ0
import Derived.Test.YtgnijnlgbelifaaGCall
import Derived.Test.YtgnijnlgbelifaaQBSpecL1In
import Derived.Test.YtgnijnlgbelifaaWTab
import Derived.Test.YtgnijnlgbelifaaWApart
import Derived.Test.YtgnijnlgbelifaaWFoot
import Derived.Test.YtgnijnlgbelifaaWKept
import Derived.Test.YtgnijnlgbelifaaWShare
import Derived.Test.YtgnijnlgbelifaaWN
import Derived.Test.YtgnijnlgbelifaaWRepsOne
namespace Go.Proofs.Ytgnijnlgbelifaa.Q
open Go.RowKit Go.Proofs.YtgnijnlgbelifaaW.PrintWords Go.Proofs.YtgnijnlgbelifaaW.PrintLast Go.Proofs.YtgnijnlgbelifaaW.PrintMore Go.Proofs.YtgnijnlgbelifaaW.GCall
attribute [local go_sem] max2_int min2_int max_two min_two max_three min_three max_four min_four   -- for this text's walks alone
set_option linter.unusedVariables false
set_option linter.unusedSimpArgs false

/-! ### spec_leBest: function 56 -/
def spec_leBest.l0 : Nat → List (S43) → List Int → List Int → Int → List (S43) → Int → Int → Option (Int)
 | 0,_,_,_,_,_,_,_ => none
 | k + 1,x0,x1,x2,x7,x10,x11,x12 => if x12 < x11 then (if 0 ≤ x12 then (if x12 < (x10.length : Int) then ((spec_l1Has.f k x1 x12).bind fun t103 => (if t103 = true then (spec_leBest.l0 k x0 x1 x2 x7 x10 x11 (wrap64 (x12 + 1))) else ((spec_l1Has.f k x2 x12).bind fun t104 => (if t104 = true then (spec_leBest.l0 k x0 x1 x2 x7 x10 x11 (wrap64 (x12 + 1))) else ((spec_leReady.f k x0 x1 x12).bind fun t105 => (if t105 = true then (if x7 < 0 then (spec_leBest.l0 k x0 x1 x2 x12 x10 x11 (wrap64 (x12 + 1))) else (if 0 ≤ x7 then (if x7 < (x0.length : Int) then (if ((rd_T43 x10 x12).f2) > ((rd_T43 x0 x7).f2) then (spec_leBest.l0 k x0 x1 x2 x12 x10 x11 (wrap64 (x12 + 1))) else (spec_leBest.l0 k x0 x1 x2 x7 x10 x11 (wrap64 (x12 + 1)))) else (none)) else (none))) else (spec_leBest.l0 k x0 x1 x2 x7 x10 x11 (wrap64 (x12 + 1))))))))) else (none)) else (none)) else (some x7)
def spec_leBest.f (k : Nat) (l0 : List (S43)) (l1 : List Int) (l2 : List Int) : Option (Int) := spec_leBest.l0 k l0 l1 l2 (-1) l0 (l0.length : Int) 0
theorem spec_leBest.mono_l : ∀ k,(∀ y0 y1 y2 y3 y4 y5 y6,LeO (spec_leBest.l0 k y0 y1 y2 y3 y4 y5 y6) (spec_leBest.l0 (k + 1) y0 y1 y2 y3 y4 y5 y6))
 | 0 => fun _ _ _ _ _ _ _ r h => by simp [spec_leBest.l0] at h
 | k + 1 => by
  have ih0 := spec_leBest.mono_l k
  intro y0 y1 y2 y3 y4 y5 y6
  unfold spec_leBest.l0
  with_reducible repeat' first|apply ih0|apply spec_l1Has.mono|apply spec_leReady.mono|apply LeO.refl|apply LeO.none|refine LeO.ite ?_ ?_|refine LeO.bind ?_ (fun _ => ?_)
theorem spec_leBest.mono : ∀ a0 a1 a2 k,LeO (spec_leBest.f k a0 a1 a2) (spec_leBest.f (k + 1) a0 a1 a2) := by
 intro a0 a1 a2 k
 have ih0 := spec_leBest.mono_l k
 unfold spec_leBest.f
 with_reducible repeat' first|apply ih0|apply spec_l1Has.mono|apply spec_leReady.mono|apply LeO.refl|apply LeO.none|refine LeO.ite ?_ ?_|refine LeO.bind ?_ (fun _ => ?_)
def spec_leBest.T5 : Bool × List (List Nat × List Nat) := (true,[([],[]),([],[]),([0,1],[0,1]),([2],[2]),([3,2],[3]),([4],[4]),([4],[4]),([5,6,4,4],[4,5,6]),([7,4],[4,7]),([4,8],[4,8]),([9,7],[9]),([10],[10]),([10],[10]),([10],[10]),([11,12,13,10,10],[10,11,12,13]),([10,14],[10,14]),([15,14],[15]),([16],[16]),([17,16],[16,17]),([18,16,16],[16,18]),([19],[19]),([20,19],[19,20]),([19],[19]),([19],[19]),([22,23,19],[19,22,23]),([24,19],[19,24]),([25,19],[19,25]),([21,26,19],[19,21,26]),([19,27,16],[16,19,27]),([16,28],[16,28])])
def spec_leBest.B5 : List Nat := [0,0,3,7,15,31,31,127,255,511,1023,2047,2047,2047,16383,32767,65535,131071,262143,524287,1048575,2097151,1048575,1048575,13631487,30408703,63963135,134217727,268435455,536870911]
theorem spec_leBest.tab5 : rtab .any (opsOf Try.f56 5) = spec_leBest.T5 := by kernel_rfl
theorem spec_leBest.bits5 : waitsOk spec_leBest.T5.2 spec_leBest.B5 = true := by kernel_rfl
set_option maxHeartbeats 3000000 in
set_option maxRecDepth 100000 in
theorem spec_leBest.calls (k : Nat) (A0 : Option Addr) (c0 : Nat) (l0 : List (S43)) (A1 : Option Addr) (c1 : Nat) (l1 : List Int) (A2 : Option Addr) (c2 : Nat) (l2 : List Int) (r : Int) (w : World) (hr0 : Kd.C k43 w A0 l0.length l0) (hc0 : l0.length ≤ c0) (hr1 : Kd.C (Kd.int .i64) w A1 l1.length l1) (hc1 : l1.length ≤ c1) (hr2 : Kd.C (Kd.int .i64) w A2 l2.length l2) (hc2 : l2.length ≤ c2) (h : spec_leBest.f k l0 l1 l2 = some r) :
  Calls Try.prog 56 #[.slice A0 l0.length c0,.slice A1 l1.length c1,.slice A2 l2.length c2] w fun e w' => e = .returned (.int .i64 r) ∧ Below w.heap.size w w' := by
 have hu43 := Try.underlying43
 have HR0 := Aside0.mk hr0
 have HC0 := Aside0.mk hc0
 clear hr0 hc0
 have HR1 := Aside0.mk hr1
 have HC1 := Aside0.mk hc1
 clear hr1 hc1
 have HR2 := Aside0.mk hr2
 have HC2 := Aside0.mk hc2
 clear hr2 hc2
 have HB := Aside0.mk (Below.refl w.heap.size w)
 have H : (spec_leBest.l0 k l0 l1 l2 (-1) l0 (l0.length : Int) 0) = some r := h
 clear h
 have H' := Aside0.mk H
 clear H
 go_enter Try.func56,Try.ntmps56
 go_wp2
 go_loopg [7,12] k (fun kq v7 v12 w' => ∃ (x7_1 : Int) (x12_1 : Int),v7 = .int .i64 x7_1 ∧ v12 = .int .i64 x12_1 ∧ Aside0 (spec_leBest.l0 kq l0 l1 l2 x7_1 l0 (l0.length : Int) x12_1 = some r) ∧ Aside0 (kq ≤ k) ∧ Aside0 (Below w.heap.size w w'))
 case atStart => exact ⟨((-1)),(0),(by first|rfl|(simp;done)|(simp [*];done)),(by first|rfl|(simp;done)|(simp [*];done)),H',⟨Nat.le_refl _⟩,⟨ZQ HB⟩⟩
 case round =>
  clear H'
  obtain ⟨x7_1,x12_1,rfl,rfl,HA,HK1,HB⟩ := hrel
  cases gk with
  | zero => exact absurd HA.out (by simp [spec_leBest.l0])
  | succ k1 =>
   have H := HA.out
   clear HA
   simp only [spec_leBest.l0] at H
   by_cases c4 : x12_1 < (l0.length : Int);rotate_left
   ·rw [if_neg c4] at H
    have c4b0 : decide (x12_1 < (l0.length : Int)) = false := decide_eq_false c4
    clear c4
    obtain rfl := Option.some.inj H
    go_wp2
    go_ret
    exact ⟨by first|rfl|(simp [*,errW_none,errW_some] <;> rfl),ZQ HB⟩

   rw [if_pos c4] at H
   have c4b0 : decide (x12_1 < (l0.length : Int)) = true := decide_eq_true c4
   clear c4
   by_cases c5 : 0 ≤ x12_1;rotate_left
   ·rw [if_neg c5] at H
    exact absurd H (by simp)
   rw [if_pos c5] at H
   have c5b0 : decide (0 ≤ x12_1) = true := decide_eq_true c5
   clear c5
   by_cases c6 : x12_1 < (l0.length : Int);rotate_left
   ·rw [if_neg c6] at H
    exact absurd H (by simp)
   rw [if_pos c6] at H
   have c6b0 : decide (x12_1 < (l0.length : Int)) = true := decide_eq_true c6
   clear c6
   replace H := Option.bind_eq_some_iff.mp H
   obtain ⟨t103,A70,H⟩ := H
   try dsimp only at H
   have A7 := Aside0.mk A70
   clear A70
   by_cases c8 : t103 = true
   ·subst c8
    rw [if_pos rfl] at H
    have H' := Aside0.mk H
    clear H
    have p101 : 0 ≤ (x12_1 : Int) := ZD
    have q101 : x12_1 < (l0.length : Int) := ZD
    obtain ⟨ad101,A101_1,c101_1,e101,hx101_0,hx101_1,hx101_2,hl101_1,hi101_1⟩ := at_T43 HR0.out x12_1 p101 q101
    cases e101
    replace hx101_0 := ZX HB hx101_0
    replace hx101_1 := ZX HB hx101_1
    replace hx101_2 := ZX HB hx101_2
    have HR101_1 := Aside0.mk hi101_1
    have HC101_1 := Aside0.mk hl101_1
    clear hi101_1 hl101_1
    replace p101 := eq_true p101
    replace q101 := eq_true q101
    try go_wp2_with (first|((with_reducible refine gate_dst (N := 9) rfl ?_);refine ZE 9 #[.string (⟨#[]⟩ : ByteArray),.slice none 0 0,.int .i64 0] 43 ?_;intro gb102 hg w9 hbox hb;have BK102 := Aside0.mk (hbox);have GW102 := Aside0.mk ((by rw [hg];exact (below_size (ZQ HB)) : w.heap.size ≤ gb102));have GE102 := Aside0.mk ((by rw [hg];exact (below_size (ZQ HB)) : w.heap.size ≤ gb102));replace HB := Aside0.mk (below_step (ZQ HB) hb);clear hb hbox hg;have hcz10_0 : w9.cell? ⟨gb102,0,none⟩ = some (.string (⟨#[]⟩ : ByteArray)) := ZC BK102 0 rfl;have hcz10_1 : w9.cell? ⟨gb102,1,none⟩ = some (.slice none 0 0) := ZC BK102 1 rfl;have hcz10_2 : w9.cell? ⟨gb102,2,none⟩ = some (.int .i64 0) := ZC BK102 2 rfl;have hfz10_0 := blk_frozen BK102.out 0;have hfz10_1 := blk_frozen BK102.out 1;have hfz10_2 := blk_frozen BK102.out 2))
    have n0_ : Aside0 ((((w9.setCell ⟨gb102,0,none⟩ (.string ((rd_T43 l0 x12_1).f0))).setCell ⟨gb102,1,none⟩ (.slice A101_1 ((rd_T43 l0 x12_1).f1).length c101_1)).setCell ⟨gb102,2,none⟩ (.int .i64 ((rd_T43 l0 x12_1).f2))).heap[gb102]? = some (.cells #[.string ((rd_T43 l0 x12_1).f0),.slice A101_1 ((rd_T43 l0 x12_1).f1).length c101_1,.int .i64 ((rd_T43 l0 x12_1).f2)] 43 (0,0))) := ⟨by (with_reducible repeat (first|refine blk_drewN ?_ _|refine blk_drew ?_|refine blk_alloc ?_ _));refine blk_put (cs := #[.string ((rd_T43 l0 x12_1).f0),.slice A101_1 ((rd_T43 l0 x12_1).f1).length c101_1,.int .i64 0]) ?_ 2 _ rfl;(with_reducible repeat (first|refine blk_drewN ?_ _|refine blk_drew ?_|refine blk_alloc ?_ _));refine blk_put (cs := #[.string ((rd_T43 l0 x12_1).f0),.slice none 0 0,.int .i64 0]) ?_ 1 _ rfl;(with_reducible repeat (first|refine blk_drewN ?_ _|refine blk_drew ?_|refine blk_alloc ?_ _));refine blk_put (cs := #[.string (⟨#[]⟩ : ByteArray),.slice none 0 0,.int .i64 0]) ?_ 0 _ rfl;(with_reducible repeat (first|refine blk_drewN ?_ _|refine blk_drew ?_|refine blk_alloc ?_ _));exact BK102.out⟩
    have n1_ : Aside0 (Below w.heap.size w (((w9.setCell ⟨gb102,0,none⟩ (.string ((rd_T43 l0 x12_1).f0))).setCell ⟨gb102,1,none⟩ (.slice A101_1 ((rd_T43 l0 x12_1).f1).length c101_1)).setCell ⟨gb102,2,none⟩ (.int .i64 ((rd_T43 l0 x12_1).f2)))) := ⟨by repeat (first|(with_reducible first|exact HB.out|apply below_alloc|apply pw_below_drewN|apply below_drew1|refine below_set ?_ GE102.out)|exact HB.out)⟩
    generalize (((w9.setCell ⟨gb102,0,none⟩ (.string ((rd_T43 l0 x12_1).f0))).setCell ⟨gb102,1,none⟩ (.slice A101_1 ((rd_T43 l0 x12_1).f1).length c101_1)).setCell ⟨gb102,2,none⟩ (.int .i64 ((rd_T43 l0 x12_1).f2))) = w11 at n0_ n1_ ⊢
    have BK102 := n0_
    have HB := n1_
    clear n0_ n1_
    replace BK102 := Aside0.mk (blk_drew BK102.out)
    replace HB := Aside0.mk (below_drew1 HB.out)
    refine start_ (n := 30) (S := fun w' => True) (ds := []) #[X,X,X,X,X,X,X,X,X,X,X,X,X,X,X,X,X,X,X,X,X,X,X,X,X,X,X,X,X,X] (by kernel_rfl) rfl rfl trivial (fun hHeld => ?_);refine with_tabW spec_leBest.tab5 spec_leBest.bits5 (fun HT_ HW_ => ?_)
    generalize w11.drew = w12 at BK102 HB hHeld ⊢
    refine YP 0 17 #[Y,X,X,X,X,X,X,X,X,X,X,X,X,X,X,X,X,X,X,X,X,X,X,X,X,X,X,X,X,X] rfl rfl HT_ ?_
    refine YP 1 18 #[Y,Y,X,X,X,X,X,X,X,X,X,X,X,X,X,X,X,X,X,X,X,X,X,X,X,X,X,X,X,X] rfl rfl HT_ ?_
    refine ZO 2 19 #[Y,Y,Y,X,X,X,X,X,X,X,X,X,X,X,X,X,X,X,X,X,X,X,X,X,X,X,X,X,X,X] rfl rfl HT_ fun K hK => ?_
    refine goes_ Try.func55 (by kernel_rfl) rfl #[.slice A1 l1.length c1,.int .i64 x12_1] (by rfl) rfl rfl (by (try simp only [List.map_toArray,List.map_cons,List.map_nil]);first|done|rfl|(simp only [List.length_drop,List.length_take];rfl)) ?_
    with_reducible refine (spec_l1Has.calls k1 _ _ l1 x12_1 true _ ?side1 ?side2 A7.out).mono ?_
    (case side1 => exact ZR (Kd.C_below HR1.out HB.out))
    (case side2 => exact HC1.out)
    rintro e w' ⟨rfl,⟨nd,rfl⟩⟩
    refine ⟨_,rfl,?_⟩
    refine hK.out _ _ trivial (fun hHeld => ?_)
    clear hK K
    refine norm_ (a' := ?_) ?_ ?_
    rotate_left
    ·show Act.put _ (some 19) _ = _
     simp only [Act.put,zuA,zuB,zuC,i64_w,i32_w]
     rfl
    refine YP 3 20 #[Y,Y,Y,Y,X,X,X,X,X,X,X,X,X,X,X,X,X,X,X,X,X,X,X,X,X,X,X,X,X,X] rfl rfl HT_ ?_
    refine YP 4 21 #[Y,Y,Y,Y,Y,X,X,X,X,X,X,X,X,X,X,X,X,X,X,X,X,X,X,X,X,X,X,X,X,X] rfl rfl HT_ ?_
    refine YU 5 22 #[Y,Y,Y,Y,Y,Y,X,X,X,X,X,X,X,X,X,X,X,X,X,X,X,X,X,X,X,X,X,X,X,X] rfl rfl HT_ ?_
    refine YU 6 23 #[Y,Y,Y,Y,Y,Y,Y,X,X,X,X,X,X,X,X,X,X,X,X,X,X,X,X,X,X,X,X,X,X,X] rfl rfl HT_ ?_
    refine YU 7 24 #[Y,Y,Y,Y,Y,Y,Y,Y,X,X,X,X,X,X,X,X,X,X,X,X,X,X,X,X,X,X,X,X,X,X] rfl rfl HT_ ?_
    refine YU 8 25 #[Y,Y,Y,Y,Y,Y,Y,Y,Y,X,X,X,X,X,X,X,X,X,X,X,X,X,X,X,X,X,X,X,X,X] rfl rfl HT_ ?_
    refine YP 9 26 #[Y,Y,Y,Y,Y,Y,Y,Y,Y,Y,X,X,X,X,X,X,X,X,X,X,X,X,X,X,X,X,X,X,X,X] rfl rfl HT_ ?_
    refine YP 10 27 #[Y,Y,Y,Y,Y,Y,Y,Y,Y,Y,Y,X,X,X,X,X,X,X,X,X,X,X,X,X,X,X,X,X,X,X] rfl rfl HT_ ?_
    refine YU 11 28 #[Y,Y,Y,Y,Y,Y,Y,Y,Y,Y,Y,Y,X,X,X,X,X,X,X,X,X,X,X,X,X,X,X,X,X,X] rfl rfl HT_ ?_
    refine YU 12 29 #[Y,Y,Y,Y,Y,Y,Y,Y,Y,Y,Y,Y,Y,X,X,X,X,X,X,X,X,X,X,X,X,X,X,X,X,X] rfl rfl HT_ ?_
    refine YU 13 30 #[Y,Y,Y,Y,Y,Y,Y,Y,Y,Y,Y,Y,Y,Y,X,X,X,X,X,X,X,X,X,X,X,X,X,X,X,X] rfl rfl HT_ ?_
    refine YU 14 31 #[Y,Y,Y,Y,Y,Y,Y,Y,Y,Y,Y,Y,Y,Y,Y,X,X,X,X,X,X,X,X,X,X,X,X,X,X,X] rfl rfl HT_ ?_
    refine YP 15 32 #[Y,Y,Y,Y,Y,Y,Y,Y,Y,Y,Y,Y,Y,Y,Y,Y,X,X,X,X,X,X,X,X,X,X,X,X,X,X] rfl rfl HT_ ?_
    refine YP 16 33 #[Y,Y,Y,Y,Y,Y,Y,Y,Y,Y,Y,Y,Y,Y,Y,Y,Y,X,X,X,X,X,X,X,X,X,X,X,X,X] rfl rfl HT_ ?_
    refine YU 17 34 #[Y,Y,Y,Y,Y,Y,Y,Y,Y,Y,Y,Y,Y,Y,Y,Y,Y,Y,X,X,X,X,X,X,X,X,X,X,X,X] rfl rfl HT_ ?_
    refine YU 18 35 #[Y,Y,Y,Y,Y,Y,Y,Y,Y,Y,Y,Y,Y,Y,Y,Y,Y,Y,Y,X,X,X,X,X,X,X,X,X,X,X] rfl rfl HT_ ?_
    refine YU 19 36 #[Y,Y,Y,Y,Y,Y,Y,Y,Y,Y,Y,Y,Y,Y,Y,Y,Y,Y,Y,Y,X,X,X,X,X,X,X,X,X,X] rfl rfl HT_ ?_
    refine YU 20 37 #[Y,Y,Y,Y,Y,Y,Y,Y,Y,Y,Y,Y,Y,Y,Y,Y,Y,Y,Y,Y,Y,X,X,X,X,X,X,X,X,X] rfl rfl HT_ ?_
    refine YU 21 38 #[Y,Y,Y,Y,Y,Y,Y,Y,Y,Y,Y,Y,Y,Y,Y,Y,Y,Y,Y,Y,Y,Y,X,X,X,X,X,X,X,X] rfl rfl HT_ ?_
    refine YU 22 39 #[Y,Y,Y,Y,Y,Y,Y,Y,Y,Y,Y,Y,Y,Y,Y,Y,Y,Y,Y,Y,Y,Y,Y,X,X,X,X,X,X,X] rfl rfl HT_ ?_
    refine YU 23 40 #[Y,Y,Y,Y,Y,Y,Y,Y,Y,Y,Y,Y,Y,Y,Y,Y,Y,Y,Y,Y,Y,Y,Y,Y,X,X,X,X,X,X] rfl rfl HT_ ?_
    refine YU 24 41 #[Y,Y,Y,Y,Y,Y,Y,Y,Y,Y,Y,Y,Y,Y,Y,Y,Y,Y,Y,Y,Y,Y,Y,Y,Y,X,X,X,X,X] rfl rfl HT_ ?_
    refine YU 25 42 #[Y,Y,Y,Y,Y,Y,Y,Y,Y,Y,Y,Y,Y,Y,Y,Y,Y,Y,Y,Y,Y,Y,Y,Y,Y,Y,X,X,X,X] rfl rfl HT_ ?_
    refine YU 26 43 #[Y,Y,Y,Y,Y,Y,Y,Y,Y,Y,Y,Y,Y,Y,Y,Y,Y,Y,Y,Y,Y,Y,Y,Y,Y,Y,Y,X,X,X] rfl rfl HT_ ?_
    refine YU 27 44 #[Y,Y,Y,Y,Y,Y,Y,Y,Y,Y,Y,Y,Y,Y,Y,Y,Y,Y,Y,Y,Y,Y,Y,Y,Y,Y,Y,Y,X,X] rfl rfl HT_ ?_
    refine YU 28 45 #[Y,Y,Y,Y,Y,Y,Y,Y,Y,Y,Y,Y,Y,Y,Y,Y,Y,Y,Y,Y,Y,Y,Y,Y,Y,Y,Y,Y,Y,X] rfl rfl HT_ ?_
    refine YP 29 46 #[Y,Y,Y,Y,Y,Y,Y,Y,Y,Y,Y,Y,Y,Y,Y,Y,Y,Y,Y,Y,Y,Y,Y,Y,Y,Y,Y,Y,Y,Y] rfl rfl HT_ ?_
    refine done_ (done_of HT_.out (by kernel_rfl)) ?_
    try go_wp2
    go_roundg k1
    case measure => have := HK1.out;omega
    case rel => exact ⟨(x7_1),(wrap64 (x12_1 + 1)),(by first|rfl|(simp;done)|(simp [*];done)),(by first|rfl|(simp;done)|(simp [*];done)),H',⟨by have := HK1.out;omega⟩,⟨by repeat (first|(with_reducible first|exact HB.out|apply below_alloc|apply pw_below_drewN|apply below_drew1|refine below_set ?_ GE102.out)|exact HB.out)⟩⟩
   replace c8 := Bool.eq_false_iff.mpr c8
   subst c8
   rw [if_neg (show ¬ (false = true) by decide)] at H
   replace H := Option.bind_eq_some_iff.mp H
   obtain ⟨t104,A130,H⟩ := H
   try dsimp only at H
   have A13 := Aside0.mk A130
   clear A130
   by_cases c14 : t104 = true
   ·subst c14
    rw [if_pos rfl] at H
    have H' := Aside0.mk H
    clear H
    have p101 : 0 ≤ (x12_1 : Int) := ZD
    have q101 : x12_1 < (l0.length : Int) := ZD
    obtain ⟨ad101,A101_1,c101_1,e101,hx101_0,hx101_1,hx101_2,hl101_1,hi101_1⟩ := at_T43 HR0.out x12_1 p101 q101
    cases e101
    replace hx101_0 := ZX HB hx101_0
    replace hx101_1 := ZX HB hx101_1
    replace hx101_2 := ZX HB hx101_2
    have HR101_1 := Aside0.mk hi101_1
    have HC101_1 := Aside0.mk hl101_1
    clear hi101_1 hl101_1
    replace p101 := eq_true p101
    replace q101 := eq_true q101
    try go_wp2_with (first|((with_reducible refine gate_dst (N := 9) rfl ?_);refine ZE 9 #[.string (⟨#[]⟩ : ByteArray),.slice none 0 0,.int .i64 0] 43 ?_;intro gb102 hg w15 hbox hb;have BK102 := Aside0.mk (hbox);have GW102 := Aside0.mk ((by rw [hg];exact (below_size (ZQ HB)) : w.heap.size ≤ gb102));have GE102 := Aside0.mk ((by rw [hg];exact (below_size (ZQ HB)) : w.heap.size ≤ gb102));replace HB := Aside0.mk (below_step (ZQ HB) hb);clear hb hbox hg;have hcz16_0 : w15.cell? ⟨gb102,0,none⟩ = some (.string (⟨#[]⟩ : ByteArray)) := ZC BK102 0 rfl;have hcz16_1 : w15.cell? ⟨gb102,1,none⟩ = some (.slice none 0 0) := ZC BK102 1 rfl;have hcz16_2 : w15.cell? ⟨gb102,2,none⟩ = some (.int .i64 0) := ZC BK102 2 rfl;have hfz16_0 := blk_frozen BK102.out 0;have hfz16_1 := blk_frozen BK102.out 1;have hfz16_2 := blk_frozen BK102.out 2))
    have n0_ : Aside0 ((((w15.setCell ⟨gb102,0,none⟩ (.string ((rd_T43 l0 x12_1).f0))).setCell ⟨gb102,1,none⟩ (.slice A101_1 ((rd_T43 l0 x12_1).f1).length c101_1)).setCell ⟨gb102,2,none⟩ (.int .i64 ((rd_T43 l0 x12_1).f2))).heap[gb102]? = some (.cells #[.string ((rd_T43 l0 x12_1).f0),.slice A101_1 ((rd_T43 l0 x12_1).f1).length c101_1,.int .i64 ((rd_T43 l0 x12_1).f2)] 43 (0,0))) := ⟨by (with_reducible repeat (first|refine blk_drewN ?_ _|refine blk_drew ?_|refine blk_alloc ?_ _));refine blk_put (cs := #[.string ((rd_T43 l0 x12_1).f0),.slice A101_1 ((rd_T43 l0 x12_1).f1).length c101_1,.int .i64 0]) ?_ 2 _ rfl;(with_reducible repeat (first|refine blk_drewN ?_ _|refine blk_drew ?_|refine blk_alloc ?_ _));refine blk_put (cs := #[.string ((rd_T43 l0 x12_1).f0),.slice none 0 0,.int .i64 0]) ?_ 1 _ rfl;(with_reducible repeat (first|refine blk_drewN ?_ _|refine blk_drew ?_|refine blk_alloc ?_ _));refine blk_put (cs := #[.string (⟨#[]⟩ : ByteArray),.slice none 0 0,.int .i64 0]) ?_ 0 _ rfl;(with_reducible repeat (first|refine blk_drewN ?_ _|refine blk_drew ?_|refine blk_alloc ?_ _));exact BK102.out⟩
    have n1_ : Aside0 (Below w.heap.size w (((w15.setCell ⟨gb102,0,none⟩ (.string ((rd_T43 l0 x12_1).f0))).setCell ⟨gb102,1,none⟩ (.slice A101_1 ((rd_T43 l0 x12_1).f1).length c101_1)).setCell ⟨gb102,2,none⟩ (.int .i64 ((rd_T43 l0 x12_1).f2)))) := ⟨by repeat (first|(with_reducible first|exact HB.out|apply below_alloc|apply pw_below_drewN|apply below_drew1|refine below_set ?_ GE102.out)|exact HB.out)⟩
    generalize (((w15.setCell ⟨gb102,0,none⟩ (.string ((rd_T43 l0 x12_1).f0))).setCell ⟨gb102,1,none⟩ (.slice A101_1 ((rd_T43 l0 x12_1).f1).length c101_1)).setCell ⟨gb102,2,none⟩ (.int .i64 ((rd_T43 l0 x12_1).f2))) = w17 at n0_ n1_ ⊢
    have BK102 := n0_
    have HB := n1_
    clear n0_ n1_
    replace BK102 := Aside0.mk (blk_drew BK102.out)
    replace HB := Aside0.mk (below_drew1 HB.out)
    refine start_ (n := 30) (S := fun w' => True) (ds := []) #[X,X,X,X,X,X,X,X,X,X,X,X,X,X,X,X,X,X,X,X,X,X,X,X,X,X,X,X,X,X] (by kernel_rfl) rfl rfl trivial (fun hHeld => ?_);refine with_tabW spec_leBest.tab5 spec_leBest.bits5 (fun HT_ HW_ => ?_)
    generalize w17.drew = w18 at BK102 HB hHeld ⊢
    refine YP 0 17 #[Y,X,X,X,X,X,X,X,X,X,X,X,X,X,X,X,X,X,X,X,X,X,X,X,X,X,X,X,X,X] rfl rfl HT_ ?_
    refine YP 1 18 #[Y,Y,X,X,X,X,X,X,X,X,X,X,X,X,X,X,X,X,X,X,X,X,X,X,X,X,X,X,X,X] rfl rfl HT_ ?_
    refine ZO 2 19 #[Y,Y,Y,X,X,X,X,X,X,X,X,X,X,X,X,X,X,X,X,X,X,X,X,X,X,X,X,X,X,X] rfl rfl HT_ fun K hK => ?_
    refine goes_ Try.func55 (by kernel_rfl) rfl #[.slice A1 l1.length c1,.int .i64 x12_1] (by rfl) rfl rfl (by (try simp only [List.map_toArray,List.map_cons,List.map_nil]);first|done|rfl|(simp only [List.length_drop,List.length_take];rfl)) ?_
    with_reducible refine (spec_l1Has.calls k1 _ _ l1 x12_1 false _ ?side1 ?side2 A7.out).mono ?_
    (case side1 => exact ZR (Kd.C_below HR1.out HB.out))
    (case side2 => exact HC1.out)
    rintro e w' ⟨rfl,⟨nd,rfl⟩⟩
    refine ⟨_,rfl,?_⟩
    refine hK.out _ _ trivial (fun hHeld => ?_)
    clear hK K
    refine norm_ (a' := ?_) ?_ ?_
    rotate_left
    ·show Act.put _ (some 19) _ = _
     simp only [Act.put,zuA,zuB,zuC,i64_w,i32_w]
     rfl
    refine YP 3 20 #[Y,Y,Y,Y,X,X,X,X,X,X,X,X,X,X,X,X,X,X,X,X,X,X,X,X,X,X,X,X,X,X] rfl rfl HT_ ?_
    refine YP 4 21 #[Y,Y,Y,Y,Y,X,X,X,X,X,X,X,X,X,X,X,X,X,X,X,X,X,X,X,X,X,X,X,X,X] rfl rfl HT_ ?_
    refine YP 5 22 #[Y,Y,Y,Y,Y,Y,X,X,X,X,X,X,X,X,X,X,X,X,X,X,X,X,X,X,X,X,X,X,X,X] rfl rfl HT_ ?_
    refine YP 6 23 #[Y,Y,Y,Y,Y,Y,Y,X,X,X,X,X,X,X,X,X,X,X,X,X,X,X,X,X,X,X,X,X,X,X] rfl rfl HT_ ?_
    refine ZO 7 24 #[Y,Y,Y,Y,Y,Y,Y,Y,X,X,X,X,X,X,X,X,X,X,X,X,X,X,X,X,X,X,X,X,X,X] rfl rfl HT_ fun K hK => ?_
    refine goes_ Try.func55 (by kernel_rfl) rfl #[.slice A2 l2.length c2,.int .i64 x12_1] (by rfl) rfl rfl (by (try simp only [List.map_toArray,List.map_cons,List.map_nil]);first|done|rfl|(simp only [List.length_drop,List.length_take];rfl)) ?_
    with_reducible refine (spec_l1Has.calls k1 _ _ l2 x12_1 true _ ?side1 ?side2 A13.out).mono ?_
    (case side1 => repeat (first|exact (Kd.C_below HR2.out (by repeat (first|(with_reducible first|exact HB.out|apply below_alloc|apply pw_below_drewN|apply below_drew1|refine below_set ?_ GE102.out)|exact HB.out)))|(with_reducible refine Kd.C_alloc ?_ _)|(with_reducible refine Kd.C_drewN ?_ _)|(with_reducible refine Kd.C_drew ?_)))
    (case side2 => exact HC2.out)
    rintro e w' ⟨rfl,⟨nd,rfl⟩⟩
    refine ⟨_,rfl,?_⟩
    refine hK.out _ _ trivial (fun hHeld => ?_)
    clear hK K
    refine norm_ (a' := ?_) ?_ ?_
    rotate_left
    ·show Act.put _ (some 24) _ = _
     simp only [Act.put,zuA,zuB,zuC,i64_w,i32_w]
     rfl
    refine YP 8 25 #[Y,Y,Y,Y,Y,Y,Y,Y,Y,X,X,X,X,X,X,X,X,X,X,X,X,X,X,X,X,X,X,X,X,X] rfl rfl HT_ ?_
    refine YP 9 26 #[Y,Y,Y,Y,Y,Y,Y,Y,Y,Y,X,X,X,X,X,X,X,X,X,X,X,X,X,X,X,X,X,X,X,X] rfl rfl HT_ ?_
    refine YP 10 27 #[Y,Y,Y,Y,Y,Y,Y,Y,Y,Y,Y,X,X,X,X,X,X,X,X,X,X,X,X,X,X,X,X,X,X,X] rfl rfl HT_ ?_
    refine YU 11 28 #[Y,Y,Y,Y,Y,Y,Y,Y,Y,Y,Y,Y,X,X,X,X,X,X,X,X,X,X,X,X,X,X,X,X,X,X] rfl rfl HT_ ?_
    refine YU 12 29 #[Y,Y,Y,Y,Y,Y,Y,Y,Y,Y,Y,Y,Y,X,X,X,X,X,X,X,X,X,X,X,X,X,X,X,X,X] rfl rfl HT_ ?_
    refine YU 13 30 #[Y,Y,Y,Y,Y,Y,Y,Y,Y,Y,Y,Y,Y,Y,X,X,X,X,X,X,X,X,X,X,X,X,X,X,X,X] rfl rfl HT_ ?_
    refine YU 14 31 #[Y,Y,Y,Y,Y,Y,Y,Y,Y,Y,Y,Y,Y,Y,Y,X,X,X,X,X,X,X,X,X,X,X,X,X,X,X] rfl rfl HT_ ?_
    refine YP 15 32 #[Y,Y,Y,Y,Y,Y,Y,Y,Y,Y,Y,Y,Y,Y,Y,Y,X,X,X,X,X,X,X,X,X,X,X,X,X,X] rfl rfl HT_ ?_
    refine YP 16 33 #[Y,Y,Y,Y,Y,Y,Y,Y,Y,Y,Y,Y,Y,Y,Y,Y,Y,X,X,X,X,X,X,X,X,X,X,X,X,X] rfl rfl HT_ ?_
    refine YU 17 34 #[Y,Y,Y,Y,Y,Y,Y,Y,Y,Y,Y,Y,Y,Y,Y,Y,Y,Y,X,X,X,X,X,X,X,X,X,X,X,X] rfl rfl HT_ ?_
    refine YU 18 35 #[Y,Y,Y,Y,Y,Y,Y,Y,Y,Y,Y,Y,Y,Y,Y,Y,Y,Y,Y,X,X,X,X,X,X,X,X,X,X,X] rfl rfl HT_ ?_
    refine YU 19 36 #[Y,Y,Y,Y,Y,Y,Y,Y,Y,Y,Y,Y,Y,Y,Y,Y,Y,Y,Y,Y,X,X,X,X,X,X,X,X,X,X] rfl rfl HT_ ?_
    refine YU 20 37 #[Y,Y,Y,Y,Y,Y,Y,Y,Y,Y,Y,Y,Y,Y,Y,Y,Y,Y,Y,Y,Y,X,X,X,X,X,X,X,X,X] rfl rfl HT_ ?_
    refine YU 21 38 #[Y,Y,Y,Y,Y,Y,Y,Y,Y,Y,Y,Y,Y,Y,Y,Y,Y,Y,Y,Y,Y,Y,X,X,X,X,X,X,X,X] rfl rfl HT_ ?_
    refine YU 22 39 #[Y,Y,Y,Y,Y,Y,Y,Y,Y,Y,Y,Y,Y,Y,Y,Y,Y,Y,Y,Y,Y,Y,Y,X,X,X,X,X,X,X] rfl rfl HT_ ?_
    refine YU 23 40 #[Y,Y,Y,Y,Y,Y,Y,Y,Y,Y,Y,Y,Y,Y,Y,Y,Y,Y,Y,Y,Y,Y,Y,Y,X,X,X,X,X,X] rfl rfl HT_ ?_
    refine YU 24 41 #[Y,Y,Y,Y,Y,Y,Y,Y,Y,Y,Y,Y,Y,Y,Y,Y,Y,Y,Y,Y,Y,Y,Y,Y,Y,X,X,X,X,X] rfl rfl HT_ ?_
    refine YU 25 42 #[Y,Y,Y,Y,Y,Y,Y,Y,Y,Y,Y,Y,Y,Y,Y,Y,Y,Y,Y,Y,Y,Y,Y,Y,Y,Y,X,X,X,X] rfl rfl HT_ ?_
    refine YU 26 43 #[Y,Y,Y,Y,Y,Y,Y,Y,Y,Y,Y,Y,Y,Y,Y,Y,Y,Y,Y,Y,Y,Y,Y,Y,Y,Y,Y,X,X,X] rfl rfl HT_ ?_
    refine YU 27 44 #[Y,Y,Y,Y,Y,Y,Y,Y,Y,Y,Y,Y,Y,Y,Y,Y,Y,Y,Y,Y,Y,Y,Y,Y,Y,Y,Y,Y,X,X] rfl rfl HT_ ?_
    refine YU 28 45 #[Y,Y,Y,Y,Y,Y,Y,Y,Y,Y,Y,Y,Y,Y,Y,Y,Y,Y,Y,Y,Y,Y,Y,Y,Y,Y,Y,Y,Y,X] rfl rfl HT_ ?_
    refine YP 29 46 #[Y,Y,Y,Y,Y,Y,Y,Y,Y,Y,Y,Y,Y,Y,Y,Y,Y,Y,Y,Y,Y,Y,Y,Y,Y,Y,Y,Y,Y,Y] rfl rfl HT_ ?_
    refine done_ (done_of HT_.out (by kernel_rfl)) ?_
    try go_wp2
    go_roundg k1
    case measure => have := HK1.out;omega
    case rel => exact ⟨(x7_1),(wrap64 (x12_1 + 1)),(by first|rfl|(simp;done)|(simp [*];done)),(by first|rfl|(simp;done)|(simp [*];done)),H',⟨by have := HK1.out;omega⟩,⟨by repeat (first|(with_reducible first|exact HB.out|apply below_alloc|apply pw_below_drewN|apply below_drew1|refine below_set ?_ GE102.out)|exact HB.out)⟩⟩
   replace c14 := Bool.eq_false_iff.mpr c14
   subst c14
   rw [if_neg (show ¬ (false = true) by decide)] at H
   replace H := Option.bind_eq_some_iff.mp H
   obtain ⟨t105,A190,H⟩ := H
   try dsimp only at H
   have A19 := Aside0.mk A190
   clear A190
   by_cases c20 : t105 = true;rotate_left
   ·replace c20 := Bool.eq_false_iff.mpr c20
    subst c20
    rw [if_neg (show ¬ (false = true) by decide)] at H
    have H' := Aside0.mk H
    clear H
    have p101 : 0 ≤ (x12_1 : Int) := ZD
    have q101 : x12_1 < (l0.length : Int) := ZD
    obtain ⟨ad101,A101_1,c101_1,e101,hx101_0,hx101_1,hx101_2,hl101_1,hi101_1⟩ := at_T43 HR0.out x12_1 p101 q101
    cases e101
    replace hx101_0 := ZX HB hx101_0
    replace hx101_1 := ZX HB hx101_1
    replace hx101_2 := ZX HB hx101_2
    have HR101_1 := Aside0.mk hi101_1
    have HC101_1 := Aside0.mk hl101_1
    clear hi101_1 hl101_1
    replace p101 := eq_true p101
    replace q101 := eq_true q101
    try go_wp2_with (first|((with_reducible refine gate_dst (N := 9) rfl ?_);refine ZE 9 #[.string (⟨#[]⟩ : ByteArray),.slice none 0 0,.int .i64 0] 43 ?_;intro gb102 hg w37 hbox hb;have BK102 := Aside0.mk (hbox);have GW102 := Aside0.mk ((by rw [hg];exact (below_size (ZQ HB)) : w.heap.size ≤ gb102));have GE102 := Aside0.mk ((by rw [hg];exact (below_size (ZQ HB)) : w.heap.size ≤ gb102));replace HB := Aside0.mk (below_step (ZQ HB) hb);clear hb hbox hg;have hcz38_0 : w37.cell? ⟨gb102,0,none⟩ = some (.string (⟨#[]⟩ : ByteArray)) := ZC BK102 0 rfl;have hcz38_1 : w37.cell? ⟨gb102,1,none⟩ = some (.slice none 0 0) := ZC BK102 1 rfl;have hcz38_2 : w37.cell? ⟨gb102,2,none⟩ = some (.int .i64 0) := ZC BK102 2 rfl;have hfz38_0 := blk_frozen BK102.out 0;have hfz38_1 := blk_frozen BK102.out 1;have hfz38_2 := blk_frozen BK102.out 2))
    have n0_ : Aside0 ((((w37.setCell ⟨gb102,0,none⟩ (.string ((rd_T43 l0 x12_1).f0))).setCell ⟨gb102,1,none⟩ (.slice A101_1 ((rd_T43 l0 x12_1).f1).length c101_1)).setCell ⟨gb102,2,none⟩ (.int .i64 ((rd_T43 l0 x12_1).f2))).heap[gb102]? = some (.cells #[.string ((rd_T43 l0 x12_1).f0),.slice A101_1 ((rd_T43 l0 x12_1).f1).length c101_1,.int .i64 ((rd_T43 l0 x12_1).f2)] 43 (0,0))) := ⟨by (with_reducible repeat (first|refine blk_drewN ?_ _|refine blk_drew ?_|refine blk_alloc ?_ _));refine blk_put (cs := #[.string ((rd_T43 l0 x12_1).f0),.slice A101_1 ((rd_T43 l0 x12_1).f1).length c101_1,.int .i64 0]) ?_ 2 _ rfl;(with_reducible repeat (first|refine blk_drewN ?_ _|refine blk_drew ?_|refine blk_alloc ?_ _));refine blk_put (cs := #[.string ((rd_T43 l0 x12_1).f0),.slice none 0 0,.int .i64 0]) ?_ 1 _ rfl;(with_reducible repeat (first|refine blk_drewN ?_ _|refine blk_drew ?_|refine blk_alloc ?_ _));refine blk_put (cs := #[.string (⟨#[]⟩ : ByteArray),.slice none 0 0,.int .i64 0]) ?_ 0 _ rfl;(with_reducible repeat (first|refine blk_drewN ?_ _|refine blk_drew ?_|refine blk_alloc ?_ _));exact BK102.out⟩
    have n1_ : Aside0 (Below w.heap.size w (((w37.setCell ⟨gb102,0,none⟩ (.string ((rd_T43 l0 x12_1).f0))).setCell ⟨gb102,1,none⟩ (.slice A101_1 ((rd_T43 l0 x12_1).f1).length c101_1)).setCell ⟨gb102,2,none⟩ (.int .i64 ((rd_T43 l0 x12_1).f2)))) := ⟨by repeat (first|(with_reducible first|exact HB.out|apply below_alloc|apply pw_below_drewN|apply below_drew1|refine below_set ?_ GE102.out)|exact HB.out)⟩
    generalize (((w37.setCell ⟨gb102,0,none⟩ (.string ((rd_T43 l0 x12_1).f0))).setCell ⟨gb102,1,none⟩ (.slice A101_1 ((rd_T43 l0 x12_1).f1).length c101_1)).setCell ⟨gb102,2,none⟩ (.int .i64 ((rd_T43 l0 x12_1).f2))) = w39 at n0_ n1_ ⊢
    have BK102 := n0_
    have HB := n1_
    clear n0_ n1_
    replace BK102 := Aside0.mk (blk_drew BK102.out)
    replace HB := Aside0.mk (below_drew1 HB.out)
    refine start_ (n := 30) (S := fun w' => True) (ds := []) #[X,X,X,X,X,X,X,X,X,X,X,X,X,X,X,X,X,X,X,X,X,X,X,X,X,X,X,X,X,X] (by kernel_rfl) rfl rfl trivial (fun hHeld => ?_);refine with_tabW spec_leBest.tab5 spec_leBest.bits5 (fun HT_ HW_ => ?_)
    generalize w39.drew = w40 at BK102 HB hHeld ⊢
    refine YP 0 17 #[Y,X,X,X,X,X,X,X,X,X,X,X,X,X,X,X,X,X,X,X,X,X,X,X,X,X,X,X,X,X] rfl rfl HT_ ?_
    refine YP 1 18 #[Y,Y,X,X,X,X,X,X,X,X,X,X,X,X,X,X,X,X,X,X,X,X,X,X,X,X,X,X,X,X] rfl rfl HT_ ?_
    refine ZO 2 19 #[Y,Y,Y,X,X,X,X,X,X,X,X,X,X,X,X,X,X,X,X,X,X,X,X,X,X,X,X,X,X,X] rfl rfl HT_ fun K hK => ?_
    refine goes_ Try.func55 (by kernel_rfl) rfl #[.slice A1 l1.length c1,.int .i64 x12_1] (by rfl) rfl rfl (by (try simp only [List.map_toArray,List.map_cons,List.map_nil]);first|done|rfl|(simp only [List.length_drop,List.length_take];rfl)) ?_
    with_reducible refine (spec_l1Has.calls k1 _ _ l1 x12_1 false _ ?side1 ?side2 A7.out).mono ?_
    (case side1 => exact ZR (Kd.C_below HR1.out HB.out))
    (case side2 => exact HC1.out)
    rintro e w' ⟨rfl,⟨nd,rfl⟩⟩
    refine ⟨_,rfl,?_⟩
    refine hK.out _ _ trivial (fun hHeld => ?_)
    clear hK K
    refine norm_ (a' := ?_) ?_ ?_
    rotate_left
    ·show Act.put _ (some 19) _ = _
     simp only [Act.put,zuA,zuB,zuC,i64_w,i32_w]
     rfl
    refine YP 3 20 #[Y,Y,Y,Y,X,X,X,X,X,X,X,X,X,X,X,X,X,X,X,X,X,X,X,X,X,X,X,X,X,X] rfl rfl HT_ ?_
    refine YP 4 21 #[Y,Y,Y,Y,Y,X,X,X,X,X,X,X,X,X,X,X,X,X,X,X,X,X,X,X,X,X,X,X,X,X] rfl rfl HT_ ?_
    refine YP 5 22 #[Y,Y,Y,Y,Y,Y,X,X,X,X,X,X,X,X,X,X,X,X,X,X,X,X,X,X,X,X,X,X,X,X] rfl rfl HT_ ?_
    refine YP 6 23 #[Y,Y,Y,Y,Y,Y,Y,X,X,X,X,X,X,X,X,X,X,X,X,X,X,X,X,X,X,X,X,X,X,X] rfl rfl HT_ ?_
    refine ZO 7 24 #[Y,Y,Y,Y,Y,Y,Y,Y,X,X,X,X,X,X,X,X,X,X,X,X,X,X,X,X,X,X,X,X,X,X] rfl rfl HT_ fun K hK => ?_
    refine goes_ Try.func55 (by kernel_rfl) rfl #[.slice A2 l2.length c2,.int .i64 x12_1] (by rfl) rfl rfl (by (try simp only [List.map_toArray,List.map_cons,List.map_nil]);first|done|rfl|(simp only [List.length_drop,List.length_take];rfl)) ?_
    with_reducible refine (spec_l1Has.calls k1 _ _ l2 x12_1 false _ ?side1 ?side2 A13.out).mono ?_
    (case side1 => repeat (first|exact (Kd.C_below HR2.out (by repeat (first|(with_reducible first|exact HB.out|apply below_alloc|apply pw_below_drewN|apply below_drew1|refine below_set ?_ GE102.out)|exact HB.out)))|(with_reducible refine Kd.C_alloc ?_ _)|(with_reducible refine Kd.C_drewN ?_ _)|(with_reducible refine Kd.C_drew ?_)))
    (case side2 => exact HC2.out)
    rintro e w' ⟨rfl,⟨nd,rfl⟩⟩
    refine ⟨_,rfl,?_⟩
    refine hK.out _ _ trivial (fun hHeld => ?_)
    clear hK K
    refine norm_ (a' := ?_) ?_ ?_
    rotate_left
    ·show Act.put _ (some 24) _ = _
     simp only [Act.put,zuA,zuB,zuC,i64_w,i32_w]
     rfl
    refine YP 8 25 #[Y,Y,Y,Y,Y,Y,Y,Y,Y,X,X,X,X,X,X,X,X,X,X,X,X,X,X,X,X,X,X,X,X,X] rfl rfl HT_ ?_
    refine YP 9 26 #[Y,Y,Y,Y,Y,Y,Y,Y,Y,Y,X,X,X,X,X,X,X,X,X,X,X,X,X,X,X,X,X,X,X,X] rfl rfl HT_ ?_
    refine YP 10 27 #[Y,Y,Y,Y,Y,Y,Y,Y,Y,Y,Y,X,X,X,X,X,X,X,X,X,X,X,X,X,X,X,X,X,X,X] rfl rfl HT_ ?_
    refine YP 11 28 #[Y,Y,Y,Y,Y,Y,Y,Y,Y,Y,Y,Y,X,X,X,X,X,X,X,X,X,X,X,X,X,X,X,X,X,X] rfl rfl HT_ ?_
    refine YP 12 29 #[Y,Y,Y,Y,Y,Y,Y,Y,Y,Y,Y,Y,Y,X,X,X,X,X,X,X,X,X,X,X,X,X,X,X,X,X] rfl rfl HT_ ?_
    refine YP 13 30 #[Y,Y,Y,Y,Y,Y,Y,Y,Y,Y,Y,Y,Y,Y,X,X,X,X,X,X,X,X,X,X,X,X,X,X,X,X] rfl rfl HT_ ?_
    refine ZO 14 31 #[Y,Y,Y,Y,Y,Y,Y,Y,Y,Y,Y,Y,Y,Y,Y,X,X,X,X,X,X,X,X,X,X,X,X,X,X,X] rfl rfl HT_ fun K hK => ?_
    refine goes_ Try.func80 (by kernel_rfl) rfl #[.slice (some ad101) l0.length c0,.slice A1 l1.length c1,.int .i64 x12_1] (by rfl) rfl rfl (by (try simp only [List.map_toArray,List.map_cons,List.map_nil]);first|done|rfl|(simp only [List.length_drop,List.length_take];rfl)) ?_
    with_reducible refine (spec_leReady.calls k1 _ _ l0 _ _ l1 x12_1 false _ ?side1 ?side2 ?side3 ?side4 A19.out).mono ?_
    (case side1 => repeat (first|exact (Kd.C_below HR0.out (by repeat (first|(with_reducible first|exact HB.out|apply below_alloc|apply pw_below_drewN|apply below_drew1|refine below_set ?_ GE102.out)|exact HB.out)))|(with_reducible refine Kd.C_alloc ?_ _)|(with_reducible refine Kd.C_drewN ?_ _)|(with_reducible refine Kd.C_drew ?_)))
    (case side2 => exact HC0.out)
    (case side3 => repeat (first|exact (Kd.C_below HR1.out (by repeat (first|(with_reducible first|exact HB.out|apply below_alloc|apply pw_below_drewN|apply below_drew1|refine below_set ?_ GE102.out)|exact HB.out)))|(with_reducible refine Kd.C_alloc ?_ _)|(with_reducible refine Kd.C_drewN ?_ _)|(with_reducible refine Kd.C_drew ?_)))
    (case side4 => exact HC1.out)
    rintro e w' ⟨rfl,⟨nd,rfl⟩⟩
    refine ⟨_,rfl,?_⟩
    refine hK.out _ _ trivial (fun hHeld => ?_)
    clear hK K
    refine norm_ (a' := ?_) ?_ ?_
    rotate_left
    ·show Act.put _ (some 31) _ = _
     simp only [Act.put,zuA,zuB,zuC,i64_w,i32_w]
     rfl
    refine YP 15 32 #[Y,Y,Y,Y,Y,Y,Y,Y,Y,Y,Y,Y,Y,Y,Y,Y,X,X,X,X,X,X,X,X,X,X,X,X,X,X] rfl rfl HT_ ?_
    refine YP 16 33 #[Y,Y,Y,Y,Y,Y,Y,Y,Y,Y,Y,Y,Y,Y,Y,Y,Y,X,X,X,X,X,X,X,X,X,X,X,X,X] rfl rfl HT_ ?_
    refine YU 17 34 #[Y,Y,Y,Y,Y,Y,Y,Y,Y,Y,Y,Y,Y,Y,Y,Y,Y,Y,X,X,X,X,X,X,X,X,X,X,X,X] rfl rfl HT_ ?_
    refine YU 18 35 #[Y,Y,Y,Y,Y,Y,Y,Y,Y,Y,Y,Y,Y,Y,Y,Y,Y,Y,Y,X,X,X,X,X,X,X,X,X,X,X] rfl rfl HT_ ?_
    refine YU 19 36 #[Y,Y,Y,Y,Y,Y,Y,Y,Y,Y,Y,Y,Y,Y,Y,Y,Y,Y,Y,Y,X,X,X,X,X,X,X,X,X,X] rfl rfl HT_ ?_
    refine YU 20 37 #[Y,Y,Y,Y,Y,Y,Y,Y,Y,Y,Y,Y,Y,Y,Y,Y,Y,Y,Y,Y,Y,X,X,X,X,X,X,X,X,X] rfl rfl HT_ ?_
    refine YU 21 38 #[Y,Y,Y,Y,Y,Y,Y,Y,Y,Y,Y,Y,Y,Y,Y,Y,Y,Y,Y,Y,Y,Y,X,X,X,X,X,X,X,X] rfl rfl HT_ ?_
    refine YU 22 39 #[Y,Y,Y,Y,Y,Y,Y,Y,Y,Y,Y,Y,Y,Y,Y,Y,Y,Y,Y,Y,Y,Y,Y,X,X,X,X,X,X,X] rfl rfl HT_ ?_
    refine YU 23 40 #[Y,Y,Y,Y,Y,Y,Y,Y,Y,Y,Y,Y,Y,Y,Y,Y,Y,Y,Y,Y,Y,Y,Y,Y,X,X,X,X,X,X] rfl rfl HT_ ?_
    refine YU 24 41 #[Y,Y,Y,Y,Y,Y,Y,Y,Y,Y,Y,Y,Y,Y,Y,Y,Y,Y,Y,Y,Y,Y,Y,Y,Y,X,X,X,X,X] rfl rfl HT_ ?_
    refine YU 25 42 #[Y,Y,Y,Y,Y,Y,Y,Y,Y,Y,Y,Y,Y,Y,Y,Y,Y,Y,Y,Y,Y,Y,Y,Y,Y,Y,X,X,X,X] rfl rfl HT_ ?_
    refine YU 26 43 #[Y,Y,Y,Y,Y,Y,Y,Y,Y,Y,Y,Y,Y,Y,Y,Y,Y,Y,Y,Y,Y,Y,Y,Y,Y,Y,Y,X,X,X] rfl rfl HT_ ?_
    refine YU 27 44 #[Y,Y,Y,Y,Y,Y,Y,Y,Y,Y,Y,Y,Y,Y,Y,Y,Y,Y,Y,Y,Y,Y,Y,Y,Y,Y,Y,Y,X,X] rfl rfl HT_ ?_
    refine YU 28 45 #[Y,Y,Y,Y,Y,Y,Y,Y,Y,Y,Y,Y,Y,Y,Y,Y,Y,Y,Y,Y,Y,Y,Y,Y,Y,Y,Y,Y,Y,X] rfl rfl HT_ ?_
    refine YP 29 46 #[Y,Y,Y,Y,Y,Y,Y,Y,Y,Y,Y,Y,Y,Y,Y,Y,Y,Y,Y,Y,Y,Y,Y,Y,Y,Y,Y,Y,Y,Y] rfl rfl HT_ ?_
    refine done_ (done_of HT_.out (by kernel_rfl)) ?_
    try go_wp2
    go_roundg k1
    case measure => have := HK1.out;omega
    case rel => exact ⟨(x7_1),(wrap64 (x12_1 + 1)),(by first|rfl|(simp;done)|(simp [*];done)),(by first|rfl|(simp;done)|(simp [*];done)),H',⟨by have := HK1.out;omega⟩,⟨by repeat (first|(with_reducible first|exact HB.out|apply below_alloc|apply pw_below_drewN|apply below_drew1|refine below_set ?_ GE102.out)|exact HB.out)⟩⟩
   subst c20
   rw [if_pos rfl] at H
   by_cases c21 : x7_1 < 0
   ·rw [if_pos c21] at H
    have c21b0 := decide_eq_true c21
    clear c21
    have H' := Aside0.mk H
    clear H
    have p101 : 0 ≤ (x12_1 : Int) := ZD
    have q101 : x12_1 < (l0.length : Int) := ZD
    obtain ⟨ad101,A101_1,c101_1,e101,hx101_0,hx101_1,hx101_2,hl101_1,hi101_1⟩ := at_T43 HR0.out x12_1 p101 q101
    cases e101
    replace hx101_0 := ZX HB hx101_0
    replace hx101_1 := ZX HB hx101_1
    replace hx101_2 := ZX HB hx101_2
    have HR101_1 := Aside0.mk hi101_1
    have HC101_1 := Aside0.mk hl101_1
    clear hi101_1 hl101_1
    replace p101 := eq_true p101
    replace q101 := eq_true q101
    try go_wp2_with (first|((with_reducible refine gate_dst (N := 9) rfl ?_);refine ZE 9 #[.string (⟨#[]⟩ : ByteArray),.slice none 0 0,.int .i64 0] 43 ?_;intro gb102 hg w22 hbox hb;have BK102 := Aside0.mk (hbox);have GW102 := Aside0.mk ((by rw [hg];exact (below_size (ZQ HB)) : w.heap.size ≤ gb102));have GE102 := Aside0.mk ((by rw [hg];exact (below_size (ZQ HB)) : w.heap.size ≤ gb102));replace HB := Aside0.mk (below_step (ZQ HB) hb);clear hb hbox hg;have hcz23_0 : w22.cell? ⟨gb102,0,none⟩ = some (.string (⟨#[]⟩ : ByteArray)) := ZC BK102 0 rfl;have hcz23_1 : w22.cell? ⟨gb102,1,none⟩ = some (.slice none 0 0) := ZC BK102 1 rfl;have hcz23_2 : w22.cell? ⟨gb102,2,none⟩ = some (.int .i64 0) := ZC BK102 2 rfl;have hfz23_0 := blk_frozen BK102.out 0;have hfz23_1 := blk_frozen BK102.out 1;have hfz23_2 := blk_frozen BK102.out 2))
    have n0_ : Aside0 ((((w22.setCell ⟨gb102,0,none⟩ (.string ((rd_T43 l0 x12_1).f0))).setCell ⟨gb102,1,none⟩ (.slice A101_1 ((rd_T43 l0 x12_1).f1).length c101_1)).setCell ⟨gb102,2,none⟩ (.int .i64 ((rd_T43 l0 x12_1).f2))).heap[gb102]? = some (.cells #[.string ((rd_T43 l0 x12_1).f0),.slice A101_1 ((rd_T43 l0 x12_1).f1).length c101_1,.int .i64 ((rd_T43 l0 x12_1).f2)] 43 (0,0))) := ⟨by (with_reducible repeat (first|refine blk_drewN ?_ _|refine blk_drew ?_|refine blk_alloc ?_ _));refine blk_put (cs := #[.string ((rd_T43 l0 x12_1).f0),.slice A101_1 ((rd_T43 l0 x12_1).f1).length c101_1,.int .i64 0]) ?_ 2 _ rfl;(with_reducible repeat (first|refine blk_drewN ?_ _|refine blk_drew ?_|refine blk_alloc ?_ _));refine blk_put (cs := #[.string ((rd_T43 l0 x12_1).f0),.slice none 0 0,.int .i64 0]) ?_ 1 _ rfl;(with_reducible repeat (first|refine blk_drewN ?_ _|refine blk_drew ?_|refine blk_alloc ?_ _));refine blk_put (cs := #[.string (⟨#[]⟩ : ByteArray),.slice none 0 0,.int .i64 0]) ?_ 0 _ rfl;(with_reducible repeat (first|refine blk_drewN ?_ _|refine blk_drew ?_|refine blk_alloc ?_ _));exact BK102.out⟩
    have n1_ : Aside0 (Below w.heap.size w (((w22.setCell ⟨gb102,0,none⟩ (.string ((rd_T43 l0 x12_1).f0))).setCell ⟨gb102,1,none⟩ (.slice A101_1 ((rd_T43 l0 x12_1).f1).length c101_1)).setCell ⟨gb102,2,none⟩ (.int .i64 ((rd_T43 l0 x12_1).f2)))) := ⟨by repeat (first|(with_reducible first|exact HB.out|apply below_alloc|apply pw_below_drewN|apply below_drew1|refine below_set ?_ GE102.out)|exact HB.out)⟩
    generalize (((w22.setCell ⟨gb102,0,none⟩ (.string ((rd_T43 l0 x12_1).f0))).setCell ⟨gb102,1,none⟩ (.slice A101_1 ((rd_T43 l0 x12_1).f1).length c101_1)).setCell ⟨gb102,2,none⟩ (.int .i64 ((rd_T43 l0 x12_1).f2))) = w24 at n0_ n1_ ⊢
    have BK102 := n0_
    have HB := n1_
    clear n0_ n1_
    replace BK102 := Aside0.mk (blk_drew BK102.out)
    replace HB := Aside0.mk (below_drew1 HB.out)
    refine start_ (n := 30) (S := fun w' => True) (ds := []) #[X,X,X,X,X,X,X,X,X,X,X,X,X,X,X,X,X,X,X,X,X,X,X,X,X,X,X,X,X,X] (by kernel_rfl) rfl rfl trivial (fun hHeld => ?_);refine with_tabW spec_leBest.tab5 spec_leBest.bits5 (fun HT_ HW_ => ?_)
    generalize w24.drew = w25 at BK102 HB hHeld ⊢
    refine YP 0 17 #[Y,X,X,X,X,X,X,X,X,X,X,X,X,X,X,X,X,X,X,X,X,X,X,X,X,X,X,X,X,X] rfl rfl HT_ ?_
    refine YP 1 18 #[Y,Y,X,X,X,X,X,X,X,X,X,X,X,X,X,X,X,X,X,X,X,X,X,X,X,X,X,X,X,X] rfl rfl HT_ ?_
    refine ZO 2 19 #[Y,Y,Y,X,X,X,X,X,X,X,X,X,X,X,X,X,X,X,X,X,X,X,X,X,X,X,X,X,X,X] rfl rfl HT_ fun K hK => ?_
    refine goes_ Try.func55 (by kernel_rfl) rfl #[.slice A1 l1.length c1,.int .i64 x12_1] (by rfl) rfl rfl (by (try simp only [List.map_toArray,List.map_cons,List.map_nil]);first|done|rfl|(simp only [List.length_drop,List.length_take];rfl)) ?_
    with_reducible refine (spec_l1Has.calls k1 _ _ l1 x12_1 false _ ?side1 ?side2 A7.out).mono ?_
    (case side1 => exact ZR (Kd.C_below HR1.out HB.out))
    (case side2 => exact HC1.out)
    rintro e w' ⟨rfl,⟨nd,rfl⟩⟩
    refine ⟨_,rfl,?_⟩
    refine hK.out _ _ trivial (fun hHeld => ?_)
    clear hK K
    refine norm_ (a' := ?_) ?_ ?_
    rotate_left
    ·show Act.put _ (some 19) _ = _
     simp only [Act.put,zuA,zuB,zuC,i64_w,i32_w]
     rfl
    refine YP 3 20 #[Y,Y,Y,Y,X,X,X,X,X,X,X,X,X,X,X,X,X,X,X,X,X,X,X,X,X,X,X,X,X,X] rfl rfl HT_ ?_
    refine YP 4 21 #[Y,Y,Y,Y,Y,X,X,X,X,X,X,X,X,X,X,X,X,X,X,X,X,X,X,X,X,X,X,X,X,X] rfl rfl HT_ ?_
    refine YP 5 22 #[Y,Y,Y,Y,Y,Y,X,X,X,X,X,X,X,X,X,X,X,X,X,X,X,X,X,X,X,X,X,X,X,X] rfl rfl HT_ ?_
    refine YP 6 23 #[Y,Y,Y,Y,Y,Y,Y,X,X,X,X,X,X,X,X,X,X,X,X,X,X,X,X,X,X,X,X,X,X,X] rfl rfl HT_ ?_
    refine ZO 7 24 #[Y,Y,Y,Y,Y,Y,Y,Y,X,X,X,X,X,X,X,X,X,X,X,X,X,X,X,X,X,X,X,X,X,X] rfl rfl HT_ fun K hK => ?_
    refine goes_ Try.func55 (by kernel_rfl) rfl #[.slice A2 l2.length c2,.int .i64 x12_1] (by rfl) rfl rfl (by (try simp only [List.map_toArray,List.map_cons,List.map_nil]);first|done|rfl|(simp only [List.length_drop,List.length_take];rfl)) ?_
    with_reducible refine (spec_l1Has.calls k1 _ _ l2 x12_1 false _ ?side1 ?side2 A13.out).mono ?_
    (case side1 => repeat (first|exact (Kd.C_below HR2.out (by repeat (first|(with_reducible first|exact HB.out|apply below_alloc|apply pw_below_drewN|apply below_drew1|refine below_set ?_ GE102.out)|exact HB.out)))|(with_reducible refine Kd.C_alloc ?_ _)|(with_reducible refine Kd.C_drewN ?_ _)|(with_reducible refine Kd.C_drew ?_)))
    (case side2 => exact HC2.out)
    rintro e w' ⟨rfl,⟨nd,rfl⟩⟩
    refine ⟨_,rfl,?_⟩
    refine hK.out _ _ trivial (fun hHeld => ?_)
    clear hK K
    refine norm_ (a' := ?_) ?_ ?_
    rotate_left
    ·show Act.put _ (some 24) _ = _
     simp only [Act.put,zuA,zuB,zuC,i64_w,i32_w]
     rfl
    refine YP 8 25 #[Y,Y,Y,Y,Y,Y,Y,Y,Y,X,X,X,X,X,X,X,X,X,X,X,X,X,X,X,X,X,X,X,X,X] rfl rfl HT_ ?_
    refine YP 9 26 #[Y,Y,Y,Y,Y,Y,Y,Y,Y,Y,X,X,X,X,X,X,X,X,X,X,X,X,X,X,X,X,X,X,X,X] rfl rfl HT_ ?_
    refine YP 10 27 #[Y,Y,Y,Y,Y,Y,Y,Y,Y,Y,Y,X,X,X,X,X,X,X,X,X,X,X,X,X,X,X,X,X,X,X] rfl rfl HT_ ?_
    refine YP 11 28 #[Y,Y,Y,Y,Y,Y,Y,Y,Y,Y,Y,Y,X,X,X,X,X,X,X,X,X,X,X,X,X,X,X,X,X,X] rfl rfl HT_ ?_
    refine YP 12 29 #[Y,Y,Y,Y,Y,Y,Y,Y,Y,Y,Y,Y,Y,X,X,X,X,X,X,X,X,X,X,X,X,X,X,X,X,X] rfl rfl HT_ ?_
    refine YP 13 30 #[Y,Y,Y,Y,Y,Y,Y,Y,Y,Y,Y,Y,Y,Y,X,X,X,X,X,X,X,X,X,X,X,X,X,X,X,X] rfl rfl HT_ ?_
    refine ZO 14 31 #[Y,Y,Y,Y,Y,Y,Y,Y,Y,Y,Y,Y,Y,Y,Y,X,X,X,X,X,X,X,X,X,X,X,X,X,X,X] rfl rfl HT_ fun K hK => ?_
    refine goes_ Try.func80 (by kernel_rfl) rfl #[.slice (some ad101) l0.length c0,.slice A1 l1.length c1,.int .i64 x12_1] (by rfl) rfl rfl (by (try simp only [List.map_toArray,List.map_cons,List.map_nil]);first|done|rfl|(simp only [List.length_drop,List.length_take];rfl)) ?_
    with_reducible refine (spec_leReady.calls k1 _ _ l0 _ _ l1 x12_1 true _ ?side1 ?side2 ?side3 ?side4 A19.out).mono ?_
    (case side1 => repeat (first|exact (Kd.C_below HR0.out (by repeat (first|(with_reducible first|exact HB.out|apply below_alloc|apply pw_below_drewN|apply below_drew1|refine below_set ?_ GE102.out)|exact HB.out)))|(with_reducible refine Kd.C_alloc ?_ _)|(with_reducible refine Kd.C_drewN ?_ _)|(with_reducible refine Kd.C_drew ?_)))
    (case side2 => exact HC0.out)
    (case side3 => repeat (first|exact (Kd.C_below HR1.out (by repeat (first|(with_reducible first|exact HB.out|apply below_alloc|apply pw_below_drewN|apply below_drew1|refine below_set ?_ GE102.out)|exact HB.out)))|(with_reducible refine Kd.C_alloc ?_ _)|(with_reducible refine Kd.C_drewN ?_ _)|(with_reducible refine Kd.C_drew ?_)))
    (case side4 => exact HC1.out)
    rintro e w' ⟨rfl,⟨nd,rfl⟩⟩
    refine ⟨_,rfl,?_⟩
    refine hK.out _ _ trivial (fun hHeld => ?_)
    clear hK K
    refine norm_ (a' := ?_) ?_ ?_
    rotate_left
    ·show Act.put _ (some 31) _ = _
     simp only [Act.put,zuA,zuB,zuC,i64_w,i32_w]
     rfl
    refine YP 15 32 #[Y,Y,Y,Y,Y,Y,Y,Y,Y,Y,Y,Y,Y,Y,Y,Y,X,X,X,X,X,X,X,X,X,X,X,X,X,X] rfl rfl HT_ ?_
    refine YP 16 33 #[Y,Y,Y,Y,Y,Y,Y,Y,Y,Y,Y,Y,Y,Y,Y,Y,Y,X,X,X,X,X,X,X,X,X,X,X,X,X] rfl rfl HT_ ?_
    refine YP 17 34 #[Y,Y,Y,Y,Y,Y,Y,Y,Y,Y,Y,Y,Y,Y,Y,Y,Y,Y,X,X,X,X,X,X,X,X,X,X,X,X] rfl rfl HT_ ?_
    refine YP 18 35 #[Y,Y,Y,Y,Y,Y,Y,Y,Y,Y,Y,Y,Y,Y,Y,Y,Y,Y,Y,X,X,X,X,X,X,X,X,X,X,X] rfl rfl HT_ ?_
    refine YP 19 36 #[Y,Y,Y,Y,Y,Y,Y,Y,Y,Y,Y,Y,Y,Y,Y,Y,Y,Y,Y,Y,X,X,X,X,X,X,X,X,X,X] rfl rfl HT_ ?_
    refine YU 20 37 #[Y,Y,Y,Y,Y,Y,Y,Y,Y,Y,Y,Y,Y,Y,Y,Y,Y,Y,Y,Y,Y,X,X,X,X,X,X,X,X,X] rfl rfl HT_ ?_
    refine YU 21 38 #[Y,Y,Y,Y,Y,Y,Y,Y,Y,Y,Y,Y,Y,Y,Y,Y,Y,Y,Y,Y,Y,Y,X,X,X,X,X,X,X,X] rfl rfl HT_ ?_
    refine YU 22 39 #[Y,Y,Y,Y,Y,Y,Y,Y,Y,Y,Y,Y,Y,Y,Y,Y,Y,Y,Y,Y,Y,Y,Y,X,X,X,X,X,X,X] rfl rfl HT_ ?_
    refine YU 23 40 #[Y,Y,Y,Y,Y,Y,Y,Y,Y,Y,Y,Y,Y,Y,Y,Y,Y,Y,Y,Y,Y,Y,Y,Y,X,X,X,X,X,X] rfl rfl HT_ ?_
    refine YU 24 41 #[Y,Y,Y,Y,Y,Y,Y,Y,Y,Y,Y,Y,Y,Y,Y,Y,Y,Y,Y,Y,Y,Y,Y,Y,Y,X,X,X,X,X] rfl rfl HT_ ?_
    refine YU 25 42 #[Y,Y,Y,Y,Y,Y,Y,Y,Y,Y,Y,Y,Y,Y,Y,Y,Y,Y,Y,Y,Y,Y,Y,Y,Y,Y,X,X,X,X] rfl rfl HT_ ?_
    refine YU 26 43 #[Y,Y,Y,Y,Y,Y,Y,Y,Y,Y,Y,Y,Y,Y,Y,Y,Y,Y,Y,Y,Y,Y,Y,Y,Y,Y,Y,X,X,X] rfl rfl HT_ ?_
    refine YU 27 44 #[Y,Y,Y,Y,Y,Y,Y,Y,Y,Y,Y,Y,Y,Y,Y,Y,Y,Y,Y,Y,Y,Y,Y,Y,Y,Y,Y,Y,X,X] rfl rfl HT_ ?_
    refine YP 28 45 #[Y,Y,Y,Y,Y,Y,Y,Y,Y,Y,Y,Y,Y,Y,Y,Y,Y,Y,Y,Y,Y,Y,Y,Y,Y,Y,Y,Y,Y,X] rfl rfl HT_ ?_
    refine YP 29 46 #[Y,Y,Y,Y,Y,Y,Y,Y,Y,Y,Y,Y,Y,Y,Y,Y,Y,Y,Y,Y,Y,Y,Y,Y,Y,Y,Y,Y,Y,Y] rfl rfl HT_ ?_
    refine done_ (done_of HT_.out (by kernel_rfl)) ?_
    try go_wp2
    go_roundg k1
    case measure => have := HK1.out;omega
    case rel => exact ⟨(x12_1),(wrap64 (x12_1 + 1)),(by first|rfl|(simp;done)|(simp [*];done)),(by first|rfl|(simp;done)|(simp [*];done)),H',⟨by have := HK1.out;omega⟩,⟨by repeat (first|(with_reducible first|exact HB.out|apply below_alloc|apply pw_below_drewN|apply below_drew1|refine below_set ?_ GE102.out)|exact HB.out)⟩⟩
   rw [if_neg c21] at H
   have c21b0 := decide_eq_false c21
   clear c21
   by_cases c26 : 0 ≤ x7_1;rotate_left
   ·rw [if_neg c26] at H
    exact absurd H (by simp)
   rw [if_pos c26] at H
   have c26b0 : decide (0 ≤ x7_1) = true := decide_eq_true c26
   clear c26
   by_cases c27 : x7_1 < (l0.length : Int);rotate_left
   ·rw [if_neg c27] at H
    exact absurd H (by simp)
   rw [if_pos c27] at H
   have c27b0 : decide (x7_1 < (l0.length : Int)) = true := decide_eq_true c27
   clear c27
   by_cases c28 : ((rd_T43 l0 x12_1).f2) > ((rd_T43 l0 x7_1).f2)
   ·rw [if_pos c28] at H
    have c28b0 : decide (((rd_T43 l0 x7_1).f2) < ((rd_T43 l0 x12_1).f2)) = true := decide_eq_true c28
    clear c28
    have H' := Aside0.mk H
    clear H
    have p101 : 0 ≤ (x12_1 : Int) := ZD
    have q101 : x12_1 < (l0.length : Int) := ZD
    obtain ⟨ad101,A101_1,c101_1,e101,hx101_0,hx101_1,hx101_2,hl101_1,hi101_1⟩ := at_T43 HR0.out x12_1 p101 q101
    cases e101
    replace hx101_0 := ZX HB hx101_0
    replace hx101_1 := ZX HB hx101_1
    replace hx101_2 := ZX HB hx101_2
    have HR101_1 := Aside0.mk hi101_1
    have HC101_1 := Aside0.mk hl101_1
    clear hi101_1 hl101_1
    replace p101 := eq_true p101
    replace q101 := eq_true q101
    try go_wp2_with (first|((with_reducible refine gate_dst (N := 9) rfl ?_);refine ZE 9 #[.string (⟨#[]⟩ : ByteArray),.slice none 0 0,.int .i64 0] 43 ?_;intro gb102 hg w29 hbox hb;have BK102 := Aside0.mk (hbox);have GW102 := Aside0.mk ((by rw [hg];exact (below_size (ZQ HB)) : w.heap.size ≤ gb102));have GE102 := Aside0.mk ((by rw [hg];exact (below_size (ZQ HB)) : w.heap.size ≤ gb102));replace HB := Aside0.mk (below_step (ZQ HB) hb);clear hb hbox hg;have hcz30_0 : w29.cell? ⟨gb102,0,none⟩ = some (.string (⟨#[]⟩ : ByteArray)) := ZC BK102 0 rfl;have hcz30_1 : w29.cell? ⟨gb102,1,none⟩ = some (.slice none 0 0) := ZC BK102 1 rfl;have hcz30_2 : w29.cell? ⟨gb102,2,none⟩ = some (.int .i64 0) := ZC BK102 2 rfl;have hfz30_0 := blk_frozen BK102.out 0;have hfz30_1 := blk_frozen BK102.out 1;have hfz30_2 := blk_frozen BK102.out 2))
    have n0_ : Aside0 ((((w29.setCell ⟨gb102,0,none⟩ (.string ((rd_T43 l0 x12_1).f0))).setCell ⟨gb102,1,none⟩ (.slice A101_1 ((rd_T43 l0 x12_1).f1).length c101_1)).setCell ⟨gb102,2,none⟩ (.int .i64 ((rd_T43 l0 x12_1).f2))).heap[gb102]? = some (.cells #[.string ((rd_T43 l0 x12_1).f0),.slice A101_1 ((rd_T43 l0 x12_1).f1).length c101_1,.int .i64 ((rd_T43 l0 x12_1).f2)] 43 (0,0))) := ⟨by (with_reducible repeat (first|refine blk_drewN ?_ _|refine blk_drew ?_|refine blk_alloc ?_ _));refine blk_put (cs := #[.string ((rd_T43 l0 x12_1).f0),.slice A101_1 ((rd_T43 l0 x12_1).f1).length c101_1,.int .i64 0]) ?_ 2 _ rfl;(with_reducible repeat (first|refine blk_drewN ?_ _|refine blk_drew ?_|refine blk_alloc ?_ _));refine blk_put (cs := #[.string ((rd_T43 l0 x12_1).f0),.slice none 0 0,.int .i64 0]) ?_ 1 _ rfl;(with_reducible repeat (first|refine blk_drewN ?_ _|refine blk_drew ?_|refine blk_alloc ?_ _));refine blk_put (cs := #[.string (⟨#[]⟩ : ByteArray),.slice none 0 0,.int .i64 0]) ?_ 0 _ rfl;(with_reducible repeat (first|refine blk_drewN ?_ _|refine blk_drew ?_|refine blk_alloc ?_ _));exact BK102.out⟩
    have n1_ : Aside0 (Below w.heap.size w (((w29.setCell ⟨gb102,0,none⟩ (.string ((rd_T43 l0 x12_1).f0))).setCell ⟨gb102,1,none⟩ (.slice A101_1 ((rd_T43 l0 x12_1).f1).length c101_1)).setCell ⟨gb102,2,none⟩ (.int .i64 ((rd_T43 l0 x12_1).f2)))) := ⟨by repeat (first|(with_reducible first|exact HB.out|apply below_alloc|apply pw_below_drewN|apply below_drew1|refine below_set ?_ GE102.out)|exact HB.out)⟩
    generalize (((w29.setCell ⟨gb102,0,none⟩ (.string ((rd_T43 l0 x12_1).f0))).setCell ⟨gb102,1,none⟩ (.slice A101_1 ((rd_T43 l0 x12_1).f1).length c101_1)).setCell ⟨gb102,2,none⟩ (.int .i64 ((rd_T43 l0 x12_1).f2))) = w31 at n0_ n1_ ⊢
    have BK102 := n0_
    have HB := n1_
    clear n0_ n1_
    replace BK102 := Aside0.mk (blk_drew BK102.out)
    replace HB := Aside0.mk (below_drew1 HB.out)
    have p106 : 0 ≤ (x7_1 : Int) := ZD
    have q106 : x7_1 < (l0.length : Int) := ZD
    obtain ⟨ad106,A106_1,c106_1,e106,hx106_0,hx106_1,hx106_2,hl106_1,hi106_1⟩ := at_T43 HR0.out x7_1 p106 q106
    have hw106_2 := hx106_2
    have hw106_1 := hx106_1
    have hw106_0 := hx106_0
    obtain rfl : ad101 = ad106 := (by injection e106)
    replace hx106_0 := ZX HB hx106_0
    replace hx106_1 := ZX HB hx106_1
    replace hx106_2 := ZX HB hx106_2
    have HR106_1 := Aside0.mk hi106_1
    have HC106_1 := Aside0.mk hl106_1
    clear hi106_1 hl106_1
    replace p106 := eq_true p106
    replace q106 := eq_true q106
    refine start_ (n := 30) (S := fun w' => w'.cell? ⟨gb102,0,none⟩ = some (.string ((rd_T43 l0 x12_1).f0)) ∧ w'.cell? ⟨gb102,1,none⟩ = some (.slice A101_1 ((rd_T43 l0 x12_1).f1).length c101_1) ∧ w'.cell? ⟨gb102,2,none⟩ = some (.int .i64 ((rd_T43 l0 x12_1).f2)) ∧ w'.cell? (ad101.add ((x7_1).toNat * 3)) = some (.string ((rd_T43 l0 x7_1).f0)) ∧ w'.cell? ⟨(ad101.add ((x7_1).toNat * 3)).block,(ad101.add ((x7_1).toNat * 3)).off + 1,none⟩ = some (.slice A106_1 ((rd_T43 l0 x7_1).f1).length c106_1) ∧ w'.cell? ⟨(ad101.add ((x7_1).toNat * 3)).block,(ad101.add ((x7_1).toNat * 3)).off + 2,none⟩ = some (.int .i64 ((rd_T43 l0 x7_1).f2))) (ds := []) #[X,X,X,X,X,X,X,X,X,X,X,X,X,X,X,X,X,X,X,X,X,X,X,X,X,X,X,X,X,X] (by kernel_rfl) rfl rfl ⟨ZC BK102 0 rfl,ZC BK102 1 rfl,ZC BK102 2 rfl,(ZX HB hw106_0),(ZX HB hw106_1),(ZX HB hw106_2)⟩ (fun hHeld => ?_);refine with_tabW spec_leBest.tab5 spec_leBest.bits5 (fun HT_ HW_ => ?_)
    generalize w31.drew = w32 at BK102 HB HR106_1 hx106_0 hx106_1 hx106_2 hHeld ⊢
    refine YP 0 17 #[Y,X,X,X,X,X,X,X,X,X,X,X,X,X,X,X,X,X,X,X,X,X,X,X,X,X,X,X,X,X] rfl rfl HT_ ?_
    refine YP 1 18 #[Y,Y,X,X,X,X,X,X,X,X,X,X,X,X,X,X,X,X,X,X,X,X,X,X,X,X,X,X,X,X] rfl rfl HT_ ?_
    refine ZO 2 19 #[Y,Y,Y,X,X,X,X,X,X,X,X,X,X,X,X,X,X,X,X,X,X,X,X,X,X,X,X,X,X,X] rfl rfl HT_ fun K hK => ?_
    refine goes_ Try.func55 (by kernel_rfl) rfl #[.slice A1 l1.length c1,.int .i64 x12_1] (by rfl) rfl rfl (by (try simp only [List.map_toArray,List.map_cons,List.map_nil]);first|done|rfl|(simp only [List.length_drop,List.length_take];rfl)) ?_
    with_reducible refine (spec_l1Has.calls k1 _ _ l1 x12_1 false _ ?side1 ?side2 A7.out).mono ?_
    (case side1 => exact ZR (Kd.C_below HR1.out HB.out))
    (case side2 => exact HC1.out)
    rintro e w' ⟨rfl,⟨nd,rfl⟩⟩
    refine ⟨_,rfl,?_⟩
    refine hK.out _ _ ⟨ZC BK102 0 rfl,ZC BK102 1 rfl,ZC BK102 2 rfl,(ZX HB hw106_0),(ZX HB hw106_1),(ZX HB hw106_2)⟩ (fun hHeld => ?_)
    clear hK K
    refine norm_ (a' := ?_) ?_ ?_
    rotate_left
    ·show Act.put _ (some 19) _ = _
     simp only [Act.put,zuA,zuB,zuC,i64_w,i32_w]
     rfl
    refine YP 3 20 #[Y,Y,Y,Y,X,X,X,X,X,X,X,X,X,X,X,X,X,X,X,X,X,X,X,X,X,X,X,X,X,X] rfl rfl HT_ ?_
    refine YP 4 21 #[Y,Y,Y,Y,Y,X,X,X,X,X,X,X,X,X,X,X,X,X,X,X,X,X,X,X,X,X,X,X,X,X] rfl rfl HT_ ?_
    refine YP 5 22 #[Y,Y,Y,Y,Y,Y,X,X,X,X,X,X,X,X,X,X,X,X,X,X,X,X,X,X,X,X,X,X,X,X] rfl rfl HT_ ?_
    refine YP 6 23 #[Y,Y,Y,Y,Y,Y,Y,X,X,X,X,X,X,X,X,X,X,X,X,X,X,X,X,X,X,X,X,X,X,X] rfl rfl HT_ ?_
    refine ZO 7 24 #[Y,Y,Y,Y,Y,Y,Y,Y,X,X,X,X,X,X,X,X,X,X,X,X,X,X,X,X,X,X,X,X,X,X] rfl rfl HT_ fun K hK => ?_
    refine goes_ Try.func55 (by kernel_rfl) rfl #[.slice A2 l2.length c2,.int .i64 x12_1] (by rfl) rfl rfl (by (try simp only [List.map_toArray,List.map_cons,List.map_nil]);first|done|rfl|(simp only [List.length_drop,List.length_take];rfl)) ?_
    with_reducible refine (spec_l1Has.calls k1 _ _ l2 x12_1 false _ ?side1 ?side2 A13.out).mono ?_
    (case side1 => repeat (first|exact (Kd.C_below HR2.out (by repeat (first|(with_reducible first|exact HB.out|apply below_alloc|apply pw_below_drewN|apply below_drew1|refine below_set ?_ GE102.out)|exact HB.out)))|(with_reducible refine Kd.C_alloc ?_ _)|(with_reducible refine Kd.C_drewN ?_ _)|(with_reducible refine Kd.C_drew ?_)))
    (case side2 => exact HC2.out)
    rintro e w' ⟨rfl,⟨nd,rfl⟩⟩
    refine ⟨_,rfl,?_⟩
    refine hK.out _ _ ⟨ZC BK102 0 rfl,ZC BK102 1 rfl,ZC BK102 2 rfl,(ZX HB hw106_0),(ZX HB hw106_1),(ZX HB hw106_2)⟩ (fun hHeld => ?_)
    clear hK K
    refine norm_ (a' := ?_) ?_ ?_
    rotate_left
    ·show Act.put _ (some 24) _ = _
     simp only [Act.put,zuA,zuB,zuC,i64_w,i32_w]
     rfl
    refine YP 8 25 #[Y,Y,Y,Y,Y,Y,Y,Y,Y,X,X,X,X,X,X,X,X,X,X,X,X,X,X,X,X,X,X,X,X,X] rfl rfl HT_ ?_
    refine YP 9 26 #[Y,Y,Y,Y,Y,Y,Y,Y,Y,Y,X,X,X,X,X,X,X,X,X,X,X,X,X,X,X,X,X,X,X,X] rfl rfl HT_ ?_
    refine YP 10 27 #[Y,Y,Y,Y,Y,Y,Y,Y,Y,Y,Y,X,X,X,X,X,X,X,X,X,X,X,X,X,X,X,X,X,X,X] rfl rfl HT_ ?_
    refine YP 11 28 #[Y,Y,Y,Y,Y,Y,Y,Y,Y,Y,Y,Y,X,X,X,X,X,X,X,X,X,X,X,X,X,X,X,X,X,X] rfl rfl HT_ ?_
    refine YP 12 29 #[Y,Y,Y,Y,Y,Y,Y,Y,Y,Y,Y,Y,Y,X,X,X,X,X,X,X,X,X,X,X,X,X,X,X,X,X] rfl rfl HT_ ?_
    refine YP 13 30 #[Y,Y,Y,Y,Y,Y,Y,Y,Y,Y,Y,Y,Y,Y,X,X,X,X,X,X,X,X,X,X,X,X,X,X,X,X] rfl rfl HT_ ?_
    refine ZO 14 31 #[Y,Y,Y,Y,Y,Y,Y,Y,Y,Y,Y,Y,Y,Y,Y,X,X,X,X,X,X,X,X,X,X,X,X,X,X,X] rfl rfl HT_ fun K hK => ?_
    refine goes_ Try.func80 (by kernel_rfl) rfl #[.slice (some ad101) l0.length c0,.slice A1 l1.length c1,.int .i64 x12_1] (by rfl) rfl rfl (by (try simp only [List.map_toArray,List.map_cons,List.map_nil]);first|done|rfl|(simp only [List.length_drop,List.length_take];rfl)) ?_
    with_reducible refine (spec_leReady.calls k1 _ _ l0 _ _ l1 x12_1 true _ ?side1 ?side2 ?side3 ?side4 A19.out).mono ?_
    (case side1 => repeat (first|exact (Kd.C_below HR0.out (by repeat (first|(with_reducible first|exact HB.out|apply below_alloc|apply pw_below_drewN|apply below_drew1|refine below_set ?_ GE102.out)|exact HB.out)))|(with_reducible refine Kd.C_alloc ?_ _)|(with_reducible refine Kd.C_drewN ?_ _)|(with_reducible refine Kd.C_drew ?_)))
    (case side2 => exact HC0.out)
    (case side3 => repeat (first|exact (Kd.C_below HR1.out (by repeat (first|(with_reducible first|exact HB.out|apply below_alloc|apply pw_below_drewN|apply below_drew1|refine below_set ?_ GE102.out)|exact HB.out)))|(with_reducible refine Kd.C_alloc ?_ _)|(with_reducible refine Kd.C_drewN ?_ _)|(with_reducible refine Kd.C_drew ?_)))
    (case side4 => exact HC1.out)
    rintro e w' ⟨rfl,⟨nd,rfl⟩⟩
    refine ⟨_,rfl,?_⟩
    refine hK.out _ _ ⟨ZC BK102 0 rfl,ZC BK102 1 rfl,ZC BK102 2 rfl,(ZX HB hw106_0),(ZX HB hw106_1),(ZX HB hw106_2)⟩ (fun hHeld => ?_)
    clear hK K
    refine norm_ (a' := ?_) ?_ ?_
    rotate_left
    ·show Act.put _ (some 31) _ = _
     simp only [Act.put,zuA,zuB,zuC,i64_w,i32_w]
     rfl
    refine YP 15 32 #[Y,Y,Y,Y,Y,Y,Y,Y,Y,Y,Y,Y,Y,Y,Y,Y,X,X,X,X,X,X,X,X,X,X,X,X,X,X] rfl rfl HT_ ?_
    refine YP 16 33 #[Y,Y,Y,Y,Y,Y,Y,Y,Y,Y,Y,Y,Y,Y,Y,Y,Y,X,X,X,X,X,X,X,X,X,X,X,X,X] rfl rfl HT_ ?_
    refine YP 17 34 #[Y,Y,Y,Y,Y,Y,Y,Y,Y,Y,Y,Y,Y,Y,Y,Y,Y,Y,X,X,X,X,X,X,X,X,X,X,X,X] rfl rfl HT_ ?_
    refine YP 18 35 #[Y,Y,Y,Y,Y,Y,Y,Y,Y,Y,Y,Y,Y,Y,Y,Y,Y,Y,Y,X,X,X,X,X,X,X,X,X,X,X] rfl rfl HT_ ?_
    refine YP 19 36 #[Y,Y,Y,Y,Y,Y,Y,Y,Y,Y,Y,Y,Y,Y,Y,Y,Y,Y,Y,Y,X,X,X,X,X,X,X,X,X,X] rfl rfl HT_ ?_
    refine YP 20 37 #[Y,Y,Y,Y,Y,Y,Y,Y,Y,Y,Y,Y,Y,Y,Y,Y,Y,Y,Y,Y,Y,X,X,X,X,X,X,X,X,X] rfl rfl HT_ ?_
    refine YP 22 39 #[Y,Y,Y,Y,Y,Y,Y,Y,Y,Y,Y,Y,Y,Y,Y,Y,Y,Y,Y,Y,Y,X,Y,X,X,X,X,X,X,X] rfl rfl HT_ ?_
    refine YP 23 40 #[Y,Y,Y,Y,Y,Y,Y,Y,Y,Y,Y,Y,Y,Y,Y,Y,Y,Y,Y,Y,Y,X,Y,Y,X,X,X,X,X,X] rfl rfl HT_ ?_
    refine YP 24 41 #[Y,Y,Y,Y,Y,Y,Y,Y,Y,Y,Y,Y,Y,Y,Y,Y,Y,Y,Y,Y,Y,X,Y,Y,Y,X,X,X,X,X] rfl rfl HT_ ?_
    refine YP 25 42 #[Y,Y,Y,Y,Y,Y,Y,Y,Y,Y,Y,Y,Y,Y,Y,Y,Y,Y,Y,Y,Y,X,Y,Y,Y,Y,X,X,X,X] rfl rfl HT_ ?_
    refine YT 21 38 #[Y,Y,Y,Y,Y,Y,Y,Y,Y,Y,Y,Y,Y,Y,Y,Y,Y,Y,Y,Y,Y,Y,Y,Y,Y,Y,X,X,X,X] rfl rfl HT_ HW_ hHeld ?_
    refine YT 26 43 #[Y,Y,Y,Y,Y,Y,Y,Y,Y,Y,Y,Y,Y,Y,Y,Y,Y,Y,Y,Y,Y,Y,Y,Y,Y,Y,Y,X,X,X] rfl rfl HT_ HW_ hHeld ?_
    refine YP 27 44 #[Y,Y,Y,Y,Y,Y,Y,Y,Y,Y,Y,Y,Y,Y,Y,Y,Y,Y,Y,Y,Y,Y,Y,Y,Y,Y,Y,Y,X,X] rfl rfl HT_ ?_
    refine YP 28 45 #[Y,Y,Y,Y,Y,Y,Y,Y,Y,Y,Y,Y,Y,Y,Y,Y,Y,Y,Y,Y,Y,Y,Y,Y,Y,Y,Y,Y,Y,X] rfl rfl HT_ ?_
    refine YP 29 46 #[Y,Y,Y,Y,Y,Y,Y,Y,Y,Y,Y,Y,Y,Y,Y,Y,Y,Y,Y,Y,Y,Y,Y,Y,Y,Y,Y,Y,Y,Y] rfl rfl HT_ ?_
    refine done_ (done_of HT_.out (by kernel_rfl)) ?_
    try go_wp2
    go_roundg k1
    case measure => have := HK1.out;omega
    case rel => exact ⟨(x12_1),(wrap64 (x12_1 + 1)),(by first|rfl|(simp;done)|(simp [*];done)),(by first|rfl|(simp;done)|(simp [*];done)),H',⟨by have := HK1.out;omega⟩,⟨by repeat (first|(with_reducible first|exact HB.out|apply below_alloc|apply pw_below_drewN|apply below_drew1|refine below_set ?_ GE102.out)|exact HB.out)⟩⟩
   rw [if_neg c28] at H
   have c28b0 : decide (((rd_T43 l0 x7_1).f2) < ((rd_T43 l0 x12_1).f2)) = false := decide_eq_false c28
   clear c28
   have H' := Aside0.mk H
   clear H
   have p101 : 0 ≤ (x12_1 : Int) := ZD
   have q101 : x12_1 < (l0.length : Int) := ZD
   obtain ⟨ad101,A101_1,c101_1,e101,hx101_0,hx101_1,hx101_2,hl101_1,hi101_1⟩ := at_T43 HR0.out x12_1 p101 q101
   cases e101
   replace hx101_0 := ZX HB hx101_0
   replace hx101_1 := ZX HB hx101_1
   replace hx101_2 := ZX HB hx101_2
   have HR101_1 := Aside0.mk hi101_1
   have HC101_1 := Aside0.mk hl101_1
   clear hi101_1 hl101_1
   replace p101 := eq_true p101
   replace q101 := eq_true q101
   try go_wp2_with (first|((with_reducible refine gate_dst (N := 9) rfl ?_);refine ZE 9 #[.string (⟨#[]⟩ : ByteArray),.slice none 0 0,.int .i64 0] 43 ?_;intro gb102 hg w33 hbox hb;have BK102 := Aside0.mk (hbox);have GW102 := Aside0.mk ((by rw [hg];exact (below_size (ZQ HB)) : w.heap.size ≤ gb102));have GE102 := Aside0.mk ((by rw [hg];exact (below_size (ZQ HB)) : w.heap.size ≤ gb102));replace HB := Aside0.mk (below_step (ZQ HB) hb);clear hb hbox hg;have hcz34_0 : w33.cell? ⟨gb102,0,none⟩ = some (.string (⟨#[]⟩ : ByteArray)) := ZC BK102 0 rfl;have hcz34_1 : w33.cell? ⟨gb102,1,none⟩ = some (.slice none 0 0) := ZC BK102 1 rfl;have hcz34_2 : w33.cell? ⟨gb102,2,none⟩ = some (.int .i64 0) := ZC BK102 2 rfl;have hfz34_0 := blk_frozen BK102.out 0;have hfz34_1 := blk_frozen BK102.out 1;have hfz34_2 := blk_frozen BK102.out 2))
   have n0_ : Aside0 ((((w33.setCell ⟨gb102,0,none⟩ (.string ((rd_T43 l0 x12_1).f0))).setCell ⟨gb102,1,none⟩ (.slice A101_1 ((rd_T43 l0 x12_1).f1).length c101_1)).setCell ⟨gb102,2,none⟩ (.int .i64 ((rd_T43 l0 x12_1).f2))).heap[gb102]? = some (.cells #[.string ((rd_T43 l0 x12_1).f0),.slice A101_1 ((rd_T43 l0 x12_1).f1).length c101_1,.int .i64 ((rd_T43 l0 x12_1).f2)] 43 (0,0))) := ⟨by (with_reducible repeat (first|refine blk_drewN ?_ _|refine blk_drew ?_|refine blk_alloc ?_ _));refine blk_put (cs := #[.string ((rd_T43 l0 x12_1).f0),.slice A101_1 ((rd_T43 l0 x12_1).f1).length c101_1,.int .i64 0]) ?_ 2 _ rfl;(with_reducible repeat (first|refine blk_drewN ?_ _|refine blk_drew ?_|refine blk_alloc ?_ _));refine blk_put (cs := #[.string ((rd_T43 l0 x12_1).f0),.slice none 0 0,.int .i64 0]) ?_ 1 _ rfl;(with_reducible repeat (first|refine blk_drewN ?_ _|refine blk_drew ?_|refine blk_alloc ?_ _));refine blk_put (cs := #[.string (⟨#[]⟩ : ByteArray),.slice none 0 0,.int .i64 0]) ?_ 0 _ rfl;(with_reducible repeat (first|refine blk_drewN ?_ _|refine blk_drew ?_|refine blk_alloc ?_ _));exact BK102.out⟩
   have n1_ : Aside0 (Below w.heap.size w (((w33.setCell ⟨gb102,0,none⟩ (.string ((rd_T43 l0 x12_1).f0))).setCell ⟨gb102,1,none⟩ (.slice A101_1 ((rd_T43 l0 x12_1).f1).length c101_1)).setCell ⟨gb102,2,none⟩ (.int .i64 ((rd_T43 l0 x12_1).f2)))) := ⟨by repeat (first|(with_reducible first|exact HB.out|apply below_alloc|apply pw_below_drewN|apply below_drew1|refine below_set ?_ GE102.out)|exact HB.out)⟩
   generalize (((w33.setCell ⟨gb102,0,none⟩ (.string ((rd_T43 l0 x12_1).f0))).setCell ⟨gb102,1,none⟩ (.slice A101_1 ((rd_T43 l0 x12_1).f1).length c101_1)).setCell ⟨gb102,2,none⟩ (.int .i64 ((rd_T43 l0 x12_1).f2))) = w35 at n0_ n1_ ⊢
   have BK102 := n0_
   have HB := n1_
   clear n0_ n1_
   replace BK102 := Aside0.mk (blk_drew BK102.out)
   replace HB := Aside0.mk (below_drew1 HB.out)
   have p106 : 0 ≤ (x7_1 : Int) := ZD
   have q106 : x7_1 < (l0.length : Int) := ZD
   obtain ⟨ad106,A106_1,c106_1,e106,hx106_0,hx106_1,hx106_2,hl106_1,hi106_1⟩ := at_T43 HR0.out x7_1 p106 q106
   have hw106_2 := hx106_2
   have hw106_1 := hx106_1
   have hw106_0 := hx106_0
   obtain rfl : ad101 = ad106 := (by injection e106)
   replace hx106_0 := ZX HB hx106_0
   replace hx106_1 := ZX HB hx106_1
   replace hx106_2 := ZX HB hx106_2
   have HR106_1 := Aside0.mk hi106_1
   have HC106_1 := Aside0.mk hl106_1
   clear hi106_1 hl106_1
   replace p106 := eq_true p106
   replace q106 := eq_true q106
   refine start_ (n := 30) (S := fun w' => w'.cell? ⟨gb102,0,none⟩ = some (.string ((rd_T43 l0 x12_1).f0)) ∧ w'.cell? ⟨gb102,1,none⟩ = some (.slice A101_1 ((rd_T43 l0 x12_1).f1).length c101_1) ∧ w'.cell? ⟨gb102,2,none⟩ = some (.int .i64 ((rd_T43 l0 x12_1).f2)) ∧ w'.cell? (ad101.add ((x7_1).toNat * 3)) = some (.string ((rd_T43 l0 x7_1).f0)) ∧ w'.cell? ⟨(ad101.add ((x7_1).toNat * 3)).block,(ad101.add ((x7_1).toNat * 3)).off + 1,none⟩ = some (.slice A106_1 ((rd_T43 l0 x7_1).f1).length c106_1) ∧ w'.cell? ⟨(ad101.add ((x7_1).toNat * 3)).block,(ad101.add ((x7_1).toNat * 3)).off + 2,none⟩ = some (.int .i64 ((rd_T43 l0 x7_1).f2))) (ds := []) #[X,X,X,X,X,X,X,X,X,X,X,X,X,X,X,X,X,X,X,X,X,X,X,X,X,X,X,X,X,X] (by kernel_rfl) rfl rfl ⟨ZC BK102 0 rfl,ZC BK102 1 rfl,ZC BK102 2 rfl,(ZX HB hw106_0),(ZX HB hw106_1),(ZX HB hw106_2)⟩ (fun hHeld => ?_);refine with_tabW spec_leBest.tab5 spec_leBest.bits5 (fun HT_ HW_ => ?_)
   generalize w35.drew = w36 at BK102 HB HR106_1 hx106_0 hx106_1 hx106_2 hHeld ⊢
   refine YP 0 17 #[Y,X,X,X,X,X,X,X,X,X,X,X,X,X,X,X,X,X,X,X,X,X,X,X,X,X,X,X,X,X] rfl rfl HT_ ?_
   refine YP 1 18 #[Y,Y,X,X,X,X,X,X,X,X,X,X,X,X,X,X,X,X,X,X,X,X,X,X,X,X,X,X,X,X] rfl rfl HT_ ?_
   refine ZO 2 19 #[Y,Y,Y,X,X,X,X,X,X,X,X,X,X,X,X,X,X,X,X,X,X,X,X,X,X,X,X,X,X,X] rfl rfl HT_ fun K hK => ?_
   refine goes_ Try.func55 (by kernel_rfl) rfl #[.slice A1 l1.length c1,.int .i64 x12_1] (by rfl) rfl rfl (by (try simp only [List.map_toArray,List.map_cons,List.map_nil]);first|done|rfl|(simp only [List.length_drop,List.length_take];rfl)) ?_
   with_reducible refine (spec_l1Has.calls k1 _ _ l1 x12_1 false _ ?side1 ?side2 A7.out).mono ?_
   (case side1 => exact ZR (Kd.C_below HR1.out HB.out))
   (case side2 => exact HC1.out)
   rintro e w' ⟨rfl,⟨nd,rfl⟩⟩
   refine ⟨_,rfl,?_⟩
   refine hK.out _ _ ⟨ZC BK102 0 rfl,ZC BK102 1 rfl,ZC BK102 2 rfl,(ZX HB hw106_0),(ZX HB hw106_1),(ZX HB hw106_2)⟩ (fun hHeld => ?_)
   clear hK K
   refine norm_ (a' := ?_) ?_ ?_
   rotate_left
   ·show Act.put _ (some 19) _ = _
    simp only [Act.put,zuA,zuB,zuC,i64_w,i32_w]
    rfl
   refine YP 3 20 #[Y,Y,Y,Y,X,X,X,X,X,X,X,X,X,X,X,X,X,X,X,X,X,X,X,X,X,X,X,X,X,X] rfl rfl HT_ ?_
   refine YP 4 21 #[Y,Y,Y,Y,Y,X,X,X,X,X,X,X,X,X,X,X,X,X,X,X,X,X,X,X,X,X,X,X,X,X] rfl rfl HT_ ?_
   refine YP 5 22 #[Y,Y,Y,Y,Y,Y,X,X,X,X,X,X,X,X,X,X,X,X,X,X,X,X,X,X,X,X,X,X,X,X] rfl rfl HT_ ?_
   refine YP 6 23 #[Y,Y,Y,Y,Y,Y,Y,X,X,X,X,X,X,X,X,X,X,X,X,X,X,X,X,X,X,X,X,X,X,X] rfl rfl HT_ ?_
   refine ZO 7 24 #[Y,Y,Y,Y,Y,Y,Y,Y,X,X,X,X,X,X,X,X,X,X,X,X,X,X,X,X,X,X,X,X,X,X] rfl rfl HT_ fun K hK => ?_
   refine goes_ Try.func55 (by kernel_rfl) rfl #[.slice A2 l2.length c2,.int .i64 x12_1] (by rfl) rfl rfl (by (try simp only [List.map_toArray,List.map_cons,List.map_nil]);first|done|rfl|(simp only [List.length_drop,List.length_take];rfl)) ?_
   with_reducible refine (spec_l1Has.calls k1 _ _ l2 x12_1 false _ ?side1 ?side2 A13.out).mono ?_
   (case side1 => repeat (first|exact (Kd.C_below HR2.out (by repeat (first|(with_reducible first|exact HB.out|apply below_alloc|apply pw_below_drewN|apply below_drew1|refine below_set ?_ GE102.out)|exact HB.out)))|(with_reducible refine Kd.C_alloc ?_ _)|(with_reducible refine Kd.C_drewN ?_ _)|(with_reducible refine Kd.C_drew ?_)))
   (case side2 => exact HC2.out)
   rintro e w' ⟨rfl,⟨nd,rfl⟩⟩
   refine ⟨_,rfl,?_⟩
   refine hK.out _ _ ⟨ZC BK102 0 rfl,ZC BK102 1 rfl,ZC BK102 2 rfl,(ZX HB hw106_0),(ZX HB hw106_1),(ZX HB hw106_2)⟩ (fun hHeld => ?_)
   clear hK K
   refine norm_ (a' := ?_) ?_ ?_
   rotate_left
   ·show Act.put _ (some 24) _ = _
    simp only [Act.put,zuA,zuB,zuC,i64_w,i32_w]
    rfl
   refine YP 8 25 #[Y,Y,Y,Y,Y,Y,Y,Y,Y,X,X,X,X,X,X,X,X,X,X,X,X,X,X,X,X,X,X,X,X,X] rfl rfl HT_ ?_
   refine YP 9 26 #[Y,Y,Y,Y,Y,Y,Y,Y,Y,Y,X,X,X,X,X,X,X,X,X,X,X,X,X,X,X,X,X,X,X,X] rfl rfl HT_ ?_
   refine YP 10 27 #[Y,Y,Y,Y,Y,Y,Y,Y,Y,Y,Y,X,X,X,X,X,X,X,X,X,X,X,X,X,X,X,X,X,X,X] rfl rfl HT_ ?_
   refine YP 11 28 #[Y,Y,Y,Y,Y,Y,Y,Y,Y,Y,Y,Y,X,X,X,X,X,X,X,X,X,X,X,X,X,X,X,X,X,X] rfl rfl HT_ ?_
   refine YP 12 29 #[Y,Y,Y,Y,Y,Y,Y,Y,Y,Y,Y,Y,Y,X,X,X,X,X,X,X,X,X,X,X,X,X,X,X,X,X] rfl rfl HT_ ?_
   refine YP 13 30 #[Y,Y,Y,Y,Y,Y,Y,Y,Y,Y,Y,Y,Y,Y,X,X,X,X,X,X,X,X,X,X,X,X,X,X,X,X] rfl rfl HT_ ?_
   refine ZO 14 31 #[Y,Y,Y,Y,Y,Y,Y,Y,Y,Y,Y,Y,Y,Y,Y,X,X,X,X,X,X,X,X,X,X,X,X,X,X,X] rfl rfl HT_ fun K hK => ?_
   refine goes_ Try.func80 (by kernel_rfl) rfl #[.slice (some ad101) l0.length c0,.slice A1 l1.length c1,.int .i64 x12_1] (by rfl) rfl rfl (by (try simp only [List.map_toArray,List.map_cons,List.map_nil]);first|done|rfl|(simp only [List.length_drop,List.length_take];rfl)) ?_
   with_reducible refine (spec_leReady.calls k1 _ _ l0 _ _ l1 x12_1 true _ ?side1 ?side2 ?side3 ?side4 A19.out).mono ?_
   (case side1 => repeat (first|exact (Kd.C_below HR0.out (by repeat (first|(with_reducible first|exact HB.out|apply below_alloc|apply pw_below_drewN|apply below_drew1|refine below_set ?_ GE102.out)|exact HB.out)))|(with_reducible refine Kd.C_alloc ?_ _)|(with_reducible refine Kd.C_drewN ?_ _)|(with_reducible refine Kd.C_drew ?_)))
   (case side2 => exact HC0.out)
   (case side3 => repeat (first|exact (Kd.C_below HR1.out (by repeat (first|(with_reducible first|exact HB.out|apply below_alloc|apply pw_below_drewN|apply below_drew1|refine below_set ?_ GE102.out)|exact HB.out)))|(with_reducible refine Kd.C_alloc ?_ _)|(with_reducible refine Kd.C_drewN ?_ _)|(with_reducible refine Kd.C_drew ?_)))
   (case side4 => exact HC1.out)
   rintro e w' ⟨rfl,⟨nd,rfl⟩⟩
   refine ⟨_,rfl,?_⟩
   refine hK.out _ _ ⟨ZC BK102 0 rfl,ZC BK102 1 rfl,ZC BK102 2 rfl,(ZX HB hw106_0),(ZX HB hw106_1),(ZX HB hw106_2)⟩ (fun hHeld => ?_)
   clear hK K
   refine norm_ (a' := ?_) ?_ ?_
   rotate_left
   ·show Act.put _ (some 31) _ = _
    simp only [Act.put,zuA,zuB,zuC,i64_w,i32_w]
    rfl
   refine YP 15 32 #[Y,Y,Y,Y,Y,Y,Y,Y,Y,Y,Y,Y,Y,Y,Y,Y,X,X,X,X,X,X,X,X,X,X,X,X,X,X] rfl rfl HT_ ?_
   refine YP 16 33 #[Y,Y,Y,Y,Y,Y,Y,Y,Y,Y,Y,Y,Y,Y,Y,Y,Y,X,X,X,X,X,X,X,X,X,X,X,X,X] rfl rfl HT_ ?_
   refine YP 17 34 #[Y,Y,Y,Y,Y,Y,Y,Y,Y,Y,Y,Y,Y,Y,Y,Y,Y,Y,X,X,X,X,X,X,X,X,X,X,X,X] rfl rfl HT_ ?_
   refine YP 18 35 #[Y,Y,Y,Y,Y,Y,Y,Y,Y,Y,Y,Y,Y,Y,Y,Y,Y,Y,Y,X,X,X,X,X,X,X,X,X,X,X] rfl rfl HT_ ?_
   refine YP 19 36 #[Y,Y,Y,Y,Y,Y,Y,Y,Y,Y,Y,Y,Y,Y,Y,Y,Y,Y,Y,Y,X,X,X,X,X,X,X,X,X,X] rfl rfl HT_ ?_
   refine YP 20 37 #[Y,Y,Y,Y,Y,Y,Y,Y,Y,Y,Y,Y,Y,Y,Y,Y,Y,Y,Y,Y,Y,X,X,X,X,X,X,X,X,X] rfl rfl HT_ ?_
   refine YP 22 39 #[Y,Y,Y,Y,Y,Y,Y,Y,Y,Y,Y,Y,Y,Y,Y,Y,Y,Y,Y,Y,Y,X,Y,X,X,X,X,X,X,X] rfl rfl HT_ ?_
   refine YP 23 40 #[Y,Y,Y,Y,Y,Y,Y,Y,Y,Y,Y,Y,Y,Y,Y,Y,Y,Y,Y,Y,Y,X,Y,Y,X,X,X,X,X,X] rfl rfl HT_ ?_
   refine YP 24 41 #[Y,Y,Y,Y,Y,Y,Y,Y,Y,Y,Y,Y,Y,Y,Y,Y,Y,Y,Y,Y,Y,X,Y,Y,Y,X,X,X,X,X] rfl rfl HT_ ?_
   refine YP 25 42 #[Y,Y,Y,Y,Y,Y,Y,Y,Y,Y,Y,Y,Y,Y,Y,Y,Y,Y,Y,Y,Y,X,Y,Y,Y,Y,X,X,X,X] rfl rfl HT_ ?_
   refine YT 21 38 #[Y,Y,Y,Y,Y,Y,Y,Y,Y,Y,Y,Y,Y,Y,Y,Y,Y,Y,Y,Y,Y,Y,Y,Y,Y,Y,X,X,X,X] rfl rfl HT_ HW_ hHeld ?_
   refine YT 26 43 #[Y,Y,Y,Y,Y,Y,Y,Y,Y,Y,Y,Y,Y,Y,Y,Y,Y,Y,Y,Y,Y,Y,Y,Y,Y,Y,Y,X,X,X] rfl rfl HT_ HW_ hHeld ?_
   refine YP 27 44 #[Y,Y,Y,Y,Y,Y,Y,Y,Y,Y,Y,Y,Y,Y,Y,Y,Y,Y,Y,Y,Y,Y,Y,Y,Y,Y,Y,Y,X,X] rfl rfl HT_ ?_
   refine YP 28 45 #[Y,Y,Y,Y,Y,Y,Y,Y,Y,Y,Y,Y,Y,Y,Y,Y,Y,Y,Y,Y,Y,Y,Y,Y,Y,Y,Y,Y,Y,X] rfl rfl HT_ ?_
   refine YP 29 46 #[Y,Y,Y,Y,Y,Y,Y,Y,Y,Y,Y,Y,Y,Y,Y,Y,Y,Y,Y,Y,Y,Y,Y,Y,Y,Y,Y,Y,Y,Y] rfl rfl HT_ ?_
   refine done_ (done_of HT_.out (by kernel_rfl)) ?_
   try go_wp2
   go_roundg k1
   case measure => have := HK1.out;omega
   case rel => exact ⟨(x7_1),(wrap64 (x12_1 + 1)),(by first|rfl|(simp;done)|(simp [*];done)),(by first|rfl|(simp;done)|(simp [*];done)),H',⟨by have := HK1.out;omega⟩,⟨by repeat (first|(with_reducible first|exact HB.out|apply below_alloc|apply pw_below_drewN|apply below_drew1|refine below_set ?_ GE102.out)|exact HB.out)⟩⟩
end Go.Proofs.Ytgnijnlgbelifaa.Q
