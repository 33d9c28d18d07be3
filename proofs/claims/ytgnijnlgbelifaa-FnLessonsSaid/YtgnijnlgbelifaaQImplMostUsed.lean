-- Written for the seat Ytgnijnlgbelifaa by a program of this session (wip/tool/gx.py) out of the translation. Lean checks it.
import Derived.Test.YtgnijnlgbelifaaQ0
import Derived.Test.YtgnijnlgbelifaaGCall
import Derived.Test.YtgnijnlgbelifaaGVal
import Derived.Test.YtgnijnlgbelifaaWTab
import Derived.Test.YtgnijnlgbelifaaWApart
import Derived.Test.YtgnijnlgbelifaaWFoot
import Derived.Test.YtgnijnlgbelifaaWKept
import Derived.Test.YtgnijnlgbelifaaWShare
import Derived.Test.YtgnijnlgbelifaaWN
import Derived.Test.YtgnijnlgbelifaaWRepsOne
namespace Go.Proofs.Ytgnijnlgbelifaa.Q
open Go.RowKit Go.Proofs.YtgnijnlgbelifaaW.PrintWords Go.Proofs.YtgnijnlgbelifaaW.PrintLast Go.Proofs.YtgnijnlgbelifaaW.PrintMore Go.Proofs.YtgnijnlgbelifaaW.GCall
attribute [local go_sem] max2_int min2_int max_two min_two max_three min_three max_four min_four   -- for this text's walks alone
set_option linter.unusedVariables false
set_option linter.unusedSimpArgs false

/-! ### impl_mostUsed: function 24 -/
def impl_mostUsed.l0 (p : Int → Option Bool) : Nat → List (S43) → Int → List (S43) → Int → Int → Option (Int)
 | 0,_,_,_,_,_ => none
 | k + 1,x0,x5,x8,x9,x10 => if x10 < x9 then (if 0 ≤ x10 then (if x10 < (x8.length : Int) then ((p x10).bind fun t103 => (if t103 = true then (if x5 < 0 then (impl_mostUsed.l0 p k x0 x10 x8 x9 (wrap64 (x10 + 1))) else (if 0 ≤ x5 then (if x5 < (x0.length : Int) then (if ((rd_T43 x8 x10).f2) > ((rd_T43 x0 x5).f2) then (impl_mostUsed.l0 p k x0 x10 x8 x9 (wrap64 (x10 + 1))) else (impl_mostUsed.l0 p k x0 x5 x8 x9 (wrap64 (x10 + 1)))) else (none)) else (none))) else (impl_mostUsed.l0 p k x0 x5 x8 x9 (wrap64 (x10 + 1))))) else (none)) else (none)) else (some x5)
def impl_mostUsed.f (p : Int → Option Bool) (k : Nat) (l0 : List (S43)) : Option (Int) := impl_mostUsed.l0 p k l0 (-1) l0 (l0.length : Int) 0
theorem impl_mostUsed.mono_l (p q : Int → Option Bool) (hpq : ∀ x,LeO (p x) (q x)) : ∀ k,(∀ y0 y1 y2 y3 y4,LeO (impl_mostUsed.l0 p k y0 y1 y2 y3 y4) (impl_mostUsed.l0 q (k + 1) y0 y1 y2 y3 y4))
 | 0 => fun _ _ _ _ _ r h => by simp [impl_mostUsed.l0] at h
 | k + 1 => by
  have ih0 := impl_mostUsed.mono_l p q hpq k
  intro y0 y1 y2 y3 y4
  unfold impl_mostUsed.l0
  with_reducible repeat' first|apply ih0|apply hpq|apply LeO.none|refine LeO.ite ?_ ?_|refine LeO.bind ?_ (fun _ => ?_)|apply LeO.refl
theorem impl_mostUsed.mono (p q : Int → Option Bool) (hpq : ∀ x,LeO (p x) (q x)) : ∀ a0 k,LeO (impl_mostUsed.f p k a0) (impl_mostUsed.f q (k + 1) a0) := fun a0 k => impl_mostUsed.mono_l p q hpq k _ _ _ _ _
def impl_mostUsed.T5 : Bool × List (List Nat × List Nat) := (true,[([],[]),([],[]),([0,1],[0,1]),([2,2],[2]),([3],[3]),([4,3],[3,4]),([5,3,3],[3,5]),([6],[6]),([7,6],[6,7]),([6],[6]),([6],[6]),([9,10,6],[6,9,10]),([11,6],[6,11]),([12,6],[6,12]),([8,13,6],[6,8,13]),([6,14,3],[3,6,14]),([3,15],[3,15])])
def impl_mostUsed.B5 : List Nat := [0,0,3,7,15,31,63,127,255,127,127,1663,3711,7807,16383,32767,65535]
theorem impl_mostUsed.tab5 : rtab .any (opsOf Try.f24 5) = impl_mostUsed.T5 := by kernel_rfl
theorem impl_mostUsed.bits5 : waitsOk impl_mostUsed.T5.2 impl_mostUsed.B5 = true := by kernel_rfl
set_option maxHeartbeats 3000000 in
set_option maxRecDepth 100000 in
theorem impl_mostUsed.calls (p : Int → Option Bool) (g : Nat) (lb : Array Value) (eg : ∀ args w,(callFunc g args).run Try.prog w = .ok (.enter g args) w) (k : Nat) (A0 : Option Addr) (c0 : Nat) (l0 : List (S43)) (r : Int) (w : World) (hp : ∀ (W : World) (x : Int) (b : Bool),Below w.heap.size w W → 0 ≤ x → x < (l0.length : Int) → p x = some b → Calls Try.prog g (#[.int .i64 x] ++ lb) W fun e w' => e = .returned (.bool b) ∧ Below W.heap.size W w') (hr0 : Kd.C k43 w A0 l0.length l0) (hc0 : l0.length ≤ c0) (h : impl_mostUsed.f p k l0 = some r) :
  Calls Try.prog 24 #[.slice A0 l0.length c0,.func (.func g) #[] lb] w fun e w' => e = .returned (.int .i64 r) ∧ Below w.heap.size w w' := by
 have hu43 := Try.underlying43
 have HR0 := Aside0.mk hr0
 have HC0 := Aside0.mk hc0
 have HP := Aside0.mk hp
 clear hr0 hc0 hp
 have HB := Aside0.mk (Below.refl w.heap.size w)
 have H : (impl_mostUsed.l0 p k l0 (-1) l0 (l0.length : Int) 0) = some r := h
 clear h
 have H' := Aside0.mk H
 clear H
 go_enter Try.func24,Try.ntmps24
 go_wp2
 go_loopg [5,10] k (fun kq v5 v10 w' => ∃ (x5_1 : Int) (x10_1 : Int),v5 = .int .i64 x5_1 ∧ v10 = .int .i64 x10_1 ∧ Aside0 (impl_mostUsed.l0 p kq l0 x5_1 l0 (l0.length : Int) x10_1 = some r) ∧ Aside0 (kq ≤ k) ∧ Aside0 (Below w.heap.size w w'))
 case atStart => exact ⟨((-1)),(0),(by first|rfl|(simp;done)|(simp [*];done)),(by first|rfl|(simp;done)|(simp [*];done)),H',⟨Nat.le_refl _⟩,⟨ZQ HB⟩⟩
 case round =>
  clear H'
  obtain ⟨x5_1,x10_1,rfl,rfl,HA,HK1,HB⟩ := hrel
  cases gk with
  | zero => exact absurd HA.out (by simp [impl_mostUsed.l0])
  | succ k1 =>
   have H := HA.out
   clear HA
   simp only [impl_mostUsed.l0] at H
   by_cases c3 : x10_1 < (l0.length : Int);rotate_left
   ·rw [if_neg c3] at H
    have c3b0 : decide (x10_1 < (l0.length : Int)) = false := decide_eq_false c3
    clear c3
    obtain rfl := Option.some.inj H
    go_wp2
    go_ret
    exact ⟨by first|rfl|(simp [*,errW_none,errW_some] <;> rfl),ZQ HB⟩


   rw [if_pos c3] at H
   have c3b0 : decide (x10_1 < (l0.length : Int)) = true := decide_eq_true c3
   clear c3
   by_cases c4 : 0 ≤ x10_1;rotate_left
   ·rw [if_neg c4] at H
    exact absurd H (by simp)
   rw [if_pos c4] at H
   have c4b0 : decide (0 ≤ x10_1) = true := decide_eq_true c4
   clear c4
   by_cases c5 : x10_1 < (l0.length : Int);rotate_left
   ·rw [if_neg c5] at H
    exact absurd H (by simp)
   rw [if_pos c5] at H
   have c5b0 : decide (x10_1 < (l0.length : Int)) = true := decide_eq_true c5
   clear c5
   replace H := Option.bind_eq_some_iff.mp H
   obtain ⟨t103,A60,H⟩ := H
   try dsimp only at H
   have A6 := Aside0.mk A60
   clear A60
   by_cases c7 : t103 = true;rotate_left
   ·replace c7 := Bool.eq_false_iff.mpr c7
    subst c7
    rw [if_neg (show ¬ (false = true) by decide)] at H
    have H' := Aside0.mk H
    clear H
    have p101 : 0 ≤ (x10_1 : Int) := ZD
    have q101 : x10_1 < (l0.length : Int) := ZD
    obtain ⟨ad101,A101_1,c101_1,e101,hx101_0,hx101_1,hx101_2,hl101_1,hi101_1⟩ := at_T43 HR0.out x10_1 p101 q101
    cases e101
    replace hx101_0 := ZX HB hx101_0
    replace hx101_1 := ZX HB hx101_1
    replace hx101_2 := ZX HB hx101_2
    have HR101_1 := Aside0.mk hi101_1
    have HC101_1 := Aside0.mk hl101_1
    clear hi101_1 hl101_1
    replace p101 := eq_true p101
    replace q101 := eq_true q101
    try go_wp2_with (first|((with_reducible refine gate_dst (N := 7) rfl ?_);refine ZE 7 #[.string (⟨#[]⟩ : ByteArray),.slice none 0 0,.int .i64 0] 43 ?_;intro gb102 hg w27 hbox hb;have BK102 := Aside0.mk (hbox);have GW102 := Aside0.mk ((by rw [hg];exact (below_size (ZQ HB)) : w.heap.size ≤ gb102));have GE102 := Aside0.mk ((by rw [hg];exact (below_size (ZQ HB)) : w.heap.size ≤ gb102));replace HB := Aside0.mk (below_step (ZQ HB) hb);clear hb hbox hg;have hcz28_0 : w27.cell? ⟨gb102,0,none⟩ = some (.string (⟨#[]⟩ : ByteArray)) := ZC BK102 0 rfl;have hcz28_1 : w27.cell? ⟨gb102,1,none⟩ = some (.slice none 0 0) := ZC BK102 1 rfl;have hcz28_2 : w27.cell? ⟨gb102,2,none⟩ = some (.int .i64 0) := ZC BK102 2 rfl;have hfz28_0 := blk_frozen BK102.out 0;have hfz28_1 := blk_frozen BK102.out 1;have hfz28_2 := blk_frozen BK102.out 2))
    have n0_ : Aside0 ((((w27.setCell ⟨gb102,0,none⟩ (.string ((rd_T43 l0 x10_1).f0))).setCell ⟨gb102,1,none⟩ (.slice A101_1 ((rd_T43 l0 x10_1).f1).length c101_1)).setCell ⟨gb102,2,none⟩ (.int .i64 ((rd_T43 l0 x10_1).f2))).heap[gb102]? = some (.cells #[.string ((rd_T43 l0 x10_1).f0),.slice A101_1 ((rd_T43 l0 x10_1).f1).length c101_1,.int .i64 ((rd_T43 l0 x10_1).f2)] 43 (0,0))) := ⟨by (with_reducible repeat (first|refine blk_drewN ?_ _|refine blk_drew ?_|refine blk_alloc ?_ _));refine blk_put (cs := #[.string ((rd_T43 l0 x10_1).f0),.slice A101_1 ((rd_T43 l0 x10_1).f1).length c101_1,.int .i64 0]) ?_ 2 _ rfl;(with_reducible repeat (first|refine blk_drewN ?_ _|refine blk_drew ?_|refine blk_alloc ?_ _));refine blk_put (cs := #[.string ((rd_T43 l0 x10_1).f0),.slice none 0 0,.int .i64 0]) ?_ 1 _ rfl;(with_reducible repeat (first|refine blk_drewN ?_ _|refine blk_drew ?_|refine blk_alloc ?_ _));refine blk_put (cs := #[.string (⟨#[]⟩ : ByteArray),.slice none 0 0,.int .i64 0]) ?_ 0 _ rfl;(with_reducible repeat (first|refine blk_drewN ?_ _|refine blk_drew ?_|refine blk_alloc ?_ _));exact BK102.out⟩
    have n1_ : Aside0 (Below w.heap.size w (((w27.setCell ⟨gb102,0,none⟩ (.string ((rd_T43 l0 x10_1).f0))).setCell ⟨gb102,1,none⟩ (.slice A101_1 ((rd_T43 l0 x10_1).f1).length c101_1)).setCell ⟨gb102,2,none⟩ (.int .i64 ((rd_T43 l0 x10_1).f2)))) := ⟨by repeat (first|(with_reducible first|exact HB.out|apply below_alloc|apply pw_below_drewN|apply below_drew1|refine below_set ?_ GE102.out)|exact HB.out)⟩
    generalize (((w27.setCell ⟨gb102,0,none⟩ (.string ((rd_T43 l0 x10_1).f0))).setCell ⟨gb102,1,none⟩ (.slice A101_1 ((rd_T43 l0 x10_1).f1).length c101_1)).setCell ⟨gb102,2,none⟩ (.int .i64 ((rd_T43 l0 x10_1).f2))) = w29 at n0_ n1_ ⊢
    have BK102 := n0_
    have HB := n1_
    clear n0_ n1_
    replace BK102 := Aside0.mk (blk_drew BK102.out)
    replace HB := Aside0.mk (below_drew1 HB.out)
    refine start_ (n := 17) (S := fun w' => True) (ds := []) #[X,X,X,X,X,X,X,X,X,X,X,X,X,X,X,X,X] (by kernel_rfl) rfl rfl trivial (fun hHeld => ?_);refine with_tabW impl_mostUsed.tab5 impl_mostUsed.bits5 (fun HT_ HW_ => ?_)
    generalize w29.drew = w30 at BK102 HB hHeld ⊢
    refine YP 0 15 #[Y,X,X,X,X,X,X,X,X,X,X,X,X,X,X,X,X] rfl rfl HT_ ?_
    refine YP 1 16 #[Y,Y,X,X,X,X,X,X,X,X,X,X,X,X,X,X,X] rfl rfl HT_ ?_
    refine ZO 2 17 #[Y,Y,Y,X,X,X,X,X,X,X,X,X,X,X,X,X,X] rfl rfl HT_ fun K hK => ?_
    refine Go.Proofs.YtgnijnlgbelifaaW.PrintLast.goesV_ g lb eg #[.int .i64 x10_1] (by rfl) rfl rfl rfl (by (try simp only [List.map_toArray,List.map_cons,List.map_nil]);first|done|rfl|(simp only [List.length_drop,List.length_take];rfl)) ?_
    with_reducible refine (HP.out _ x10_1 false ?sb_ ?s0_ ?s1_ A6.out).mono ?_
    (case sb_ => repeat (first|(with_reducible first|exact HB.out|apply below_alloc|apply pw_below_drewN|apply below_drew1|refine below_set ?_ GE102.out)|exact HB.out))
    (case s0_ => exact of_decide_eq_true c4b0)
    (case s1_ => exact of_decide_eq_true c5b0)
    rintro e w31 ⟨rfl,hb⟩
    refine ⟨_,rfl,?_⟩
    replace BK102 := Aside0.mk (blk_below (g := gb102) (o := .cells #[.string ((rd_T43 l0 x10_1).f0),.slice A101_1 ((rd_T43 l0 x10_1).f1).length c101_1,.int .i64 ((rd_T43 l0 x10_1).f2)] 43 (0,0)) (by (with_reducible repeat (first|refine blk_drewN ?_ _|refine blk_drew ?_|refine blk_alloc ?_ _));exact BK102.out) hb)
    replace HB := Aside0.mk (below_step (by repeat (first|(with_reducible first|exact HB.out|apply below_alloc|apply pw_below_drewN|apply below_drew1|refine below_set ?_ GE102.out)|exact HB.out)) hb)
    refine hK.out _ _ trivial (fun hHeld => ?_)
    clear hK K
    refine norm_ (a' := ?_) ?_ ?_
    rotate_left
    ·show Act.put _ (some 17) _ = _
     simp only [Act.put,zuA,zuB,zuC,i64_w,i32_w]
     rfl
    refine YP 3 18 #[Y,Y,Y,Y,X,X,X,X,X,X,X,X,X,X,X,X,X] rfl rfl HT_ ?_
    refine YU 4 19 #[Y,Y,Y,Y,Y,X,X,X,X,X,X,X,X,X,X,X,X] rfl rfl HT_ ?_
    refine YU 5 20 #[Y,Y,Y,Y,Y,Y,X,X,X,X,X,X,X,X,X,X,X] rfl rfl HT_ ?_
    refine YU 6 21 #[Y,Y,Y,Y,Y,Y,Y,X,X,X,X,X,X,X,X,X,X] rfl rfl HT_ ?_
    refine YU 7 22 #[Y,Y,Y,Y,Y,Y,Y,Y,X,X,X,X,X,X,X,X,X] rfl rfl HT_ ?_
    refine YU 8 23 #[Y,Y,Y,Y,Y,Y,Y,Y,Y,X,X,X,X,X,X,X,X] rfl rfl HT_ ?_
    refine YU 9 24 #[Y,Y,Y,Y,Y,Y,Y,Y,Y,Y,X,X,X,X,X,X,X] rfl rfl HT_ ?_
    refine YU 10 25 #[Y,Y,Y,Y,Y,Y,Y,Y,Y,Y,Y,X,X,X,X,X,X] rfl rfl HT_ ?_
    refine YU 11 26 #[Y,Y,Y,Y,Y,Y,Y,Y,Y,Y,Y,Y,X,X,X,X,X] rfl rfl HT_ ?_
    refine YU 12 27 #[Y,Y,Y,Y,Y,Y,Y,Y,Y,Y,Y,Y,Y,X,X,X,X] rfl rfl HT_ ?_
    refine YU 13 28 #[Y,Y,Y,Y,Y,Y,Y,Y,Y,Y,Y,Y,Y,Y,X,X,X] rfl rfl HT_ ?_
    refine YU 14 29 #[Y,Y,Y,Y,Y,Y,Y,Y,Y,Y,Y,Y,Y,Y,Y,X,X] rfl rfl HT_ ?_
    refine YU 15 30 #[Y,Y,Y,Y,Y,Y,Y,Y,Y,Y,Y,Y,Y,Y,Y,Y,X] rfl rfl HT_ ?_
    refine YP 16 31 #[Y,Y,Y,Y,Y,Y,Y,Y,Y,Y,Y,Y,Y,Y,Y,Y,Y] rfl rfl HT_ ?_
    refine done_ (done_of HT_.out (by kernel_rfl)) ?_
    try go_wp2
    go_roundg k1
    case measure => have := HK1.out;omega
    case rel => exact ⟨(x5_1),(wrap64 (x10_1 + 1)),(by first|rfl|(simp;done)|(simp [*];done)),(by first|rfl|(simp;done)|(simp [*];done)),H',⟨by have := HK1.out;omega⟩,⟨by repeat (first|(with_reducible first|exact HB.out|apply below_alloc|apply pw_below_drewN|apply below_drew1|refine below_set ?_ GE102.out)|exact HB.out)⟩⟩
   subst c7
   rw [if_pos rfl] at H
   by_cases c8 : x5_1 < 0
   ·rw [if_pos c8] at H
    have c8b0 := decide_eq_true c8
    clear c8
    have H' := Aside0.mk H
    clear H
    have p101 : 0 ≤ (x10_1 : Int) := ZD
    have q101 : x10_1 < (l0.length : Int) := ZD
    obtain ⟨ad101,A101_1,c101_1,e101,hx101_0,hx101_1,hx101_2,hl101_1,hi101_1⟩ := at_T43 HR0.out x10_1 p101 q101
    cases e101
    replace hx101_0 := ZX HB hx101_0
    replace hx101_1 := ZX HB hx101_1
    replace hx101_2 := ZX HB hx101_2
    have HR101_1 := Aside0.mk hi101_1
    have HC101_1 := Aside0.mk hl101_1
    clear hi101_1 hl101_1
    replace p101 := eq_true p101
    replace q101 := eq_true q101
    try go_wp2_with (first|((with_reducible refine gate_dst (N := 7) rfl ?_);refine ZE 7 #[.string (⟨#[]⟩ : ByteArray),.slice none 0 0,.int .i64 0] 43 ?_;intro gb102 hg w9 hbox hb;have BK102 := Aside0.mk (hbox);have GW102 := Aside0.mk ((by rw [hg];exact (below_size (ZQ HB)) : w.heap.size ≤ gb102));have GE102 := Aside0.mk ((by rw [hg];exact (below_size (ZQ HB)) : w.heap.size ≤ gb102));replace HB := Aside0.mk (below_step (ZQ HB) hb);clear hb hbox hg;have hcz10_0 : w9.cell? ⟨gb102,0,none⟩ = some (.string (⟨#[]⟩ : ByteArray)) := ZC BK102 0 rfl;have hcz10_1 : w9.cell? ⟨gb102,1,none⟩ = some (.slice none 0 0) := ZC BK102 1 rfl;have hcz10_2 : w9.cell? ⟨gb102,2,none⟩ = some (.int .i64 0) := ZC BK102 2 rfl;have hfz10_0 := blk_frozen BK102.out 0;have hfz10_1 := blk_frozen BK102.out 1;have hfz10_2 := blk_frozen BK102.out 2))
    have n0_ : Aside0 ((((w9.setCell ⟨gb102,0,none⟩ (.string ((rd_T43 l0 x10_1).f0))).setCell ⟨gb102,1,none⟩ (.slice A101_1 ((rd_T43 l0 x10_1).f1).length c101_1)).setCell ⟨gb102,2,none⟩ (.int .i64 ((rd_T43 l0 x10_1).f2))).heap[gb102]? = some (.cells #[.string ((rd_T43 l0 x10_1).f0),.slice A101_1 ((rd_T43 l0 x10_1).f1).length c101_1,.int .i64 ((rd_T43 l0 x10_1).f2)] 43 (0,0))) := ⟨by (with_reducible repeat (first|refine blk_drewN ?_ _|refine blk_drew ?_|refine blk_alloc ?_ _));refine blk_put (cs := #[.string ((rd_T43 l0 x10_1).f0),.slice A101_1 ((rd_T43 l0 x10_1).f1).length c101_1,.int .i64 0]) ?_ 2 _ rfl;(with_reducible repeat (first|refine blk_drewN ?_ _|refine blk_drew ?_|refine blk_alloc ?_ _));refine blk_put (cs := #[.string ((rd_T43 l0 x10_1).f0),.slice none 0 0,.int .i64 0]) ?_ 1 _ rfl;(with_reducible repeat (first|refine blk_drewN ?_ _|refine blk_drew ?_|refine blk_alloc ?_ _));refine blk_put (cs := #[.string (⟨#[]⟩ : ByteArray),.slice none 0 0,.int .i64 0]) ?_ 0 _ rfl;(with_reducible repeat (first|refine blk_drewN ?_ _|refine blk_drew ?_|refine blk_alloc ?_ _));exact BK102.out⟩
    have n1_ : Aside0 (Below w.heap.size w (((w9.setCell ⟨gb102,0,none⟩ (.string ((rd_T43 l0 x10_1).f0))).setCell ⟨gb102,1,none⟩ (.slice A101_1 ((rd_T43 l0 x10_1).f1).length c101_1)).setCell ⟨gb102,2,none⟩ (.int .i64 ((rd_T43 l0 x10_1).f2)))) := ⟨by repeat (first|(with_reducible first|exact HB.out|apply below_alloc|apply pw_below_drewN|apply below_drew1|refine below_set ?_ GE102.out)|exact HB.out)⟩
    generalize (((w9.setCell ⟨gb102,0,none⟩ (.string ((rd_T43 l0 x10_1).f0))).setCell ⟨gb102,1,none⟩ (.slice A101_1 ((rd_T43 l0 x10_1).f1).length c101_1)).setCell ⟨gb102,2,none⟩ (.int .i64 ((rd_T43 l0 x10_1).f2))) = w11 at n0_ n1_ ⊢
    have BK102 := n0_
    have HB := n1_
    clear n0_ n1_
    replace BK102 := Aside0.mk (blk_drew BK102.out)
    replace HB := Aside0.mk (below_drew1 HB.out)
    refine start_ (n := 17) (S := fun w' => True) (ds := []) #[X,X,X,X,X,X,X,X,X,X,X,X,X,X,X,X,X] (by kernel_rfl) rfl rfl trivial (fun hHeld => ?_);refine with_tabW impl_mostUsed.tab5 impl_mostUsed.bits5 (fun HT_ HW_ => ?_)
    generalize w11.drew = w12 at BK102 HB hHeld ⊢
    refine YP 0 15 #[Y,X,X,X,X,X,X,X,X,X,X,X,X,X,X,X,X] rfl rfl HT_ ?_
    refine YP 1 16 #[Y,Y,X,X,X,X,X,X,X,X,X,X,X,X,X,X,X] rfl rfl HT_ ?_
    refine ZO 2 17 #[Y,Y,Y,X,X,X,X,X,X,X,X,X,X,X,X,X,X] rfl rfl HT_ fun K hK => ?_
    refine Go.Proofs.YtgnijnlgbelifaaW.PrintLast.goesV_ g lb eg #[.int .i64 x10_1] (by rfl) rfl rfl rfl (by (try simp only [List.map_toArray,List.map_cons,List.map_nil]);first|done|rfl|(simp only [List.length_drop,List.length_take];rfl)) ?_
    with_reducible refine (HP.out _ x10_1 true ?sb_ ?s0_ ?s1_ A6.out).mono ?_
    (case sb_ => repeat (first|(with_reducible first|exact HB.out|apply below_alloc|apply pw_below_drewN|apply below_drew1|refine below_set ?_ GE102.out)|exact HB.out))
    (case s0_ => exact of_decide_eq_true c4b0)
    (case s1_ => exact of_decide_eq_true c5b0)
    rintro e w13 ⟨rfl,hb⟩
    refine ⟨_,rfl,?_⟩
    replace BK102 := Aside0.mk (blk_below (g := gb102) (o := .cells #[.string ((rd_T43 l0 x10_1).f0),.slice A101_1 ((rd_T43 l0 x10_1).f1).length c101_1,.int .i64 ((rd_T43 l0 x10_1).f2)] 43 (0,0)) (by (with_reducible repeat (first|refine blk_drewN ?_ _|refine blk_drew ?_|refine blk_alloc ?_ _));exact BK102.out) hb)
    replace HB := Aside0.mk (below_step (by repeat (first|(with_reducible first|exact HB.out|apply below_alloc|apply pw_below_drewN|apply below_drew1|refine below_set ?_ GE102.out)|exact HB.out)) hb)
    refine hK.out _ _ trivial (fun hHeld => ?_)
    clear hK K
    refine norm_ (a' := ?_) ?_ ?_
    rotate_left
    ·show Act.put _ (some 17) _ = _
     simp only [Act.put,zuA,zuB,zuC,i64_w,i32_w]
     rfl
    refine YP 3 18 #[Y,Y,Y,Y,X,X,X,X,X,X,X,X,X,X,X,X,X] rfl rfl HT_ ?_
    refine YP 4 19 #[Y,Y,Y,Y,Y,X,X,X,X,X,X,X,X,X,X,X,X] rfl rfl HT_ ?_
    refine YP 5 20 #[Y,Y,Y,Y,Y,Y,X,X,X,X,X,X,X,X,X,X,X] rfl rfl HT_ ?_
    refine YP 6 21 #[Y,Y,Y,Y,Y,Y,Y,X,X,X,X,X,X,X,X,X,X] rfl rfl HT_ ?_
    refine YU 7 22 #[Y,Y,Y,Y,Y,Y,Y,Y,X,X,X,X,X,X,X,X,X] rfl rfl HT_ ?_
    refine YU 8 23 #[Y,Y,Y,Y,Y,Y,Y,Y,Y,X,X,X,X,X,X,X,X] rfl rfl HT_ ?_
    refine YU 9 24 #[Y,Y,Y,Y,Y,Y,Y,Y,Y,Y,X,X,X,X,X,X,X] rfl rfl HT_ ?_
    refine YU 10 25 #[Y,Y,Y,Y,Y,Y,Y,Y,Y,Y,Y,X,X,X,X,X,X] rfl rfl HT_ ?_
    refine YU 11 26 #[Y,Y,Y,Y,Y,Y,Y,Y,Y,Y,Y,Y,X,X,X,X,X] rfl rfl HT_ ?_
    refine YU 12 27 #[Y,Y,Y,Y,Y,Y,Y,Y,Y,Y,Y,Y,Y,X,X,X,X] rfl rfl HT_ ?_
    refine YU 13 28 #[Y,Y,Y,Y,Y,Y,Y,Y,Y,Y,Y,Y,Y,Y,X,X,X] rfl rfl HT_ ?_
    refine YU 14 29 #[Y,Y,Y,Y,Y,Y,Y,Y,Y,Y,Y,Y,Y,Y,Y,X,X] rfl rfl HT_ ?_
    refine YP 15 30 #[Y,Y,Y,Y,Y,Y,Y,Y,Y,Y,Y,Y,Y,Y,Y,Y,X] rfl rfl HT_ ?_
    refine YP 16 31 #[Y,Y,Y,Y,Y,Y,Y,Y,Y,Y,Y,Y,Y,Y,Y,Y,Y] rfl rfl HT_ ?_
    refine done_ (done_of HT_.out (by kernel_rfl)) ?_
    try go_wp2
    go_roundg k1
    case measure => have := HK1.out;omega
    case rel => exact ⟨(x10_1),(wrap64 (x10_1 + 1)),(by first|rfl|(simp;done)|(simp [*];done)),(by first|rfl|(simp;done)|(simp [*];done)),H',⟨by have := HK1.out;omega⟩,⟨by repeat (first|(with_reducible first|exact HB.out|apply below_alloc|apply pw_below_drewN|apply below_drew1|refine below_set ?_ GE102.out)|exact HB.out)⟩⟩
   rw [if_neg c8] at H
   have c8b0 := decide_eq_false c8
   clear c8
   by_cases c14 : 0 ≤ x5_1;rotate_left
   ·rw [if_neg c14] at H
    exact absurd H (by simp)
   rw [if_pos c14] at H
   have c14b0 : decide (0 ≤ x5_1) = true := decide_eq_true c14
   clear c14
   by_cases c15 : x5_1 < (l0.length : Int);rotate_left
   ·rw [if_neg c15] at H
    exact absurd H (by simp)
   rw [if_pos c15] at H
   have c15b0 : decide (x5_1 < (l0.length : Int)) = true := decide_eq_true c15
   clear c15
   by_cases c16 : ((rd_T43 l0 x10_1).f2) > ((rd_T43 l0 x5_1).f2)
   ·rw [if_pos c16] at H
    have c16b0 : decide (((rd_T43 l0 x5_1).f2) < ((rd_T43 l0 x10_1).f2)) = true := decide_eq_true c16
    clear c16
    have H' := Aside0.mk H
    clear H
    have p101 : 0 ≤ (x10_1 : Int) := ZD
    have q101 : x10_1 < (l0.length : Int) := ZD
    obtain ⟨ad101,A101_1,c101_1,e101,hx101_0,hx101_1,hx101_2,hl101_1,hi101_1⟩ := at_T43 HR0.out x10_1 p101 q101
    cases e101
    replace hx101_0 := ZX HB hx101_0
    replace hx101_1 := ZX HB hx101_1
    replace hx101_2 := ZX HB hx101_2
    have HR101_1 := Aside0.mk hi101_1
    have HC101_1 := Aside0.mk hl101_1
    clear hi101_1 hl101_1
    replace p101 := eq_true p101
    replace q101 := eq_true q101
    try go_wp2_with (first|((with_reducible refine gate_dst (N := 7) rfl ?_);refine ZE 7 #[.string (⟨#[]⟩ : ByteArray),.slice none 0 0,.int .i64 0] 43 ?_;intro gb102 hg w17 hbox hb;have BK102 := Aside0.mk (hbox);have GW102 := Aside0.mk ((by rw [hg];exact (below_size (ZQ HB)) : w.heap.size ≤ gb102));have GE102 := Aside0.mk ((by rw [hg];exact (below_size (ZQ HB)) : w.heap.size ≤ gb102));replace HB := Aside0.mk (below_step (ZQ HB) hb);clear hb hbox hg;have hcz18_0 : w17.cell? ⟨gb102,0,none⟩ = some (.string (⟨#[]⟩ : ByteArray)) := ZC BK102 0 rfl;have hcz18_1 : w17.cell? ⟨gb102,1,none⟩ = some (.slice none 0 0) := ZC BK102 1 rfl;have hcz18_2 : w17.cell? ⟨gb102,2,none⟩ = some (.int .i64 0) := ZC BK102 2 rfl;have hfz18_0 := blk_frozen BK102.out 0;have hfz18_1 := blk_frozen BK102.out 1;have hfz18_2 := blk_frozen BK102.out 2))
    have n0_ : Aside0 ((((w17.setCell ⟨gb102,0,none⟩ (.string ((rd_T43 l0 x10_1).f0))).setCell ⟨gb102,1,none⟩ (.slice A101_1 ((rd_T43 l0 x10_1).f1).length c101_1)).setCell ⟨gb102,2,none⟩ (.int .i64 ((rd_T43 l0 x10_1).f2))).heap[gb102]? = some (.cells #[.string ((rd_T43 l0 x10_1).f0),.slice A101_1 ((rd_T43 l0 x10_1).f1).length c101_1,.int .i64 ((rd_T43 l0 x10_1).f2)] 43 (0,0))) := ⟨by (with_reducible repeat (first|refine blk_drewN ?_ _|refine blk_drew ?_|refine blk_alloc ?_ _));refine blk_put (cs := #[.string ((rd_T43 l0 x10_1).f0),.slice A101_1 ((rd_T43 l0 x10_1).f1).length c101_1,.int .i64 0]) ?_ 2 _ rfl;(with_reducible repeat (first|refine blk_drewN ?_ _|refine blk_drew ?_|refine blk_alloc ?_ _));refine blk_put (cs := #[.string ((rd_T43 l0 x10_1).f0),.slice none 0 0,.int .i64 0]) ?_ 1 _ rfl;(with_reducible repeat (first|refine blk_drewN ?_ _|refine blk_drew ?_|refine blk_alloc ?_ _));refine blk_put (cs := #[.string (⟨#[]⟩ : ByteArray),.slice none 0 0,.int .i64 0]) ?_ 0 _ rfl;(with_reducible repeat (first|refine blk_drewN ?_ _|refine blk_drew ?_|refine blk_alloc ?_ _));exact BK102.out⟩
    have n1_ : Aside0 (Below w.heap.size w (((w17.setCell ⟨gb102,0,none⟩ (.string ((rd_T43 l0 x10_1).f0))).setCell ⟨gb102,1,none⟩ (.slice A101_1 ((rd_T43 l0 x10_1).f1).length c101_1)).setCell ⟨gb102,2,none⟩ (.int .i64 ((rd_T43 l0 x10_1).f2)))) := ⟨by repeat (first|(with_reducible first|exact HB.out|apply below_alloc|apply pw_below_drewN|apply below_drew1|refine below_set ?_ GE102.out)|exact HB.out)⟩
    generalize (((w17.setCell ⟨gb102,0,none⟩ (.string ((rd_T43 l0 x10_1).f0))).setCell ⟨gb102,1,none⟩ (.slice A101_1 ((rd_T43 l0 x10_1).f1).length c101_1)).setCell ⟨gb102,2,none⟩ (.int .i64 ((rd_T43 l0 x10_1).f2))) = w19 at n0_ n1_ ⊢
    have BK102 := n0_
    have HB := n1_
    clear n0_ n1_
    replace BK102 := Aside0.mk (blk_drew BK102.out)
    replace HB := Aside0.mk (below_drew1 HB.out)
    have p104 : 0 ≤ (x5_1 : Int) := ZD
    have q104 : x5_1 < (l0.length : Int) := ZD
    obtain ⟨ad104,A104_1,c104_1,e104,hx104_0,hx104_1,hx104_2,hl104_1,hi104_1⟩ := at_T43 HR0.out x5_1 p104 q104
    have hw104_2 := hx104_2
    have hw104_1 := hx104_1
    have hw104_0 := hx104_0
    obtain rfl : ad101 = ad104 := (by injection e104)
    replace hx104_0 := ZX HB hx104_0
    replace hx104_1 := ZX HB hx104_1
    replace hx104_2 := ZX HB hx104_2
    have HR104_1 := Aside0.mk hi104_1
    have HC104_1 := Aside0.mk hl104_1
    clear hi104_1 hl104_1
    replace p104 := eq_true p104
    replace q104 := eq_true q104
    refine start_ (n := 17) (S := fun w' => w'.cell? ⟨gb102,0,none⟩ = some (.string ((rd_T43 l0 x10_1).f0)) ∧ w'.cell? ⟨gb102,1,none⟩ = some (.slice A101_1 ((rd_T43 l0 x10_1).f1).length c101_1) ∧ w'.cell? ⟨gb102,2,none⟩ = some (.int .i64 ((rd_T43 l0 x10_1).f2)) ∧ w'.cell? (ad101.add ((x5_1).toNat * 3)) = some (.string ((rd_T43 l0 x5_1).f0)) ∧ w'.cell? ⟨(ad101.add ((x5_1).toNat * 3)).block,(ad101.add ((x5_1).toNat * 3)).off + 1,none⟩ = some (.slice A104_1 ((rd_T43 l0 x5_1).f1).length c104_1) ∧ w'.cell? ⟨(ad101.add ((x5_1).toNat * 3)).block,(ad101.add ((x5_1).toNat * 3)).off + 2,none⟩ = some (.int .i64 ((rd_T43 l0 x5_1).f2))) (ds := []) #[X,X,X,X,X,X,X,X,X,X,X,X,X,X,X,X,X] (by kernel_rfl) rfl rfl ⟨ZC BK102 0 rfl,ZC BK102 1 rfl,ZC BK102 2 rfl,(ZX HB hw104_0),(ZX HB hw104_1),(ZX HB hw104_2)⟩ (fun hHeld => ?_);refine with_tabW impl_mostUsed.tab5 impl_mostUsed.bits5 (fun HT_ HW_ => ?_)
    generalize w19.drew = w20 at BK102 HB HR104_1 hx104_0 hx104_1 hx104_2 hHeld ⊢
    refine YP 0 15 #[Y,X,X,X,X,X,X,X,X,X,X,X,X,X,X,X,X] rfl rfl HT_ ?_
    refine YP 1 16 #[Y,Y,X,X,X,X,X,X,X,X,X,X,X,X,X,X,X] rfl rfl HT_ ?_
    refine ZO 2 17 #[Y,Y,Y,X,X,X,X,X,X,X,X,X,X,X,X,X,X] rfl rfl HT_ fun K hK => ?_
    refine Go.Proofs.YtgnijnlgbelifaaW.PrintLast.goesV_ g lb eg #[.int .i64 x10_1] (by rfl) rfl rfl rfl (by (try simp only [List.map_toArray,List.map_cons,List.map_nil]);first|done|rfl|(simp only [List.length_drop,List.length_take];rfl)) ?_
    with_reducible refine (HP.out _ x10_1 true ?sb_ ?s0_ ?s1_ A6.out).mono ?_
    (case sb_ => repeat (first|(with_reducible first|exact HB.out|apply below_alloc|apply pw_below_drewN|apply below_drew1|refine below_set ?_ GE102.out)|exact HB.out))
    (case s0_ => exact of_decide_eq_true c4b0)
    (case s1_ => exact of_decide_eq_true c5b0)
    rintro e w21 ⟨rfl,hb⟩
    refine ⟨_,rfl,?_⟩
    replace BK102 := Aside0.mk (blk_below (g := gb102) (o := .cells #[.string ((rd_T43 l0 x10_1).f0),.slice A101_1 ((rd_T43 l0 x10_1).f1).length c101_1,.int .i64 ((rd_T43 l0 x10_1).f2)] 43 (0,0)) (by (with_reducible repeat (first|refine blk_drewN ?_ _|refine blk_drew ?_|refine blk_alloc ?_ _));exact BK102.out) hb)
    replace HB := Aside0.mk (below_step (by repeat (first|(with_reducible first|exact HB.out|apply below_alloc|apply pw_below_drewN|apply below_drew1|refine below_set ?_ GE102.out)|exact HB.out)) hb)
    refine hK.out _ _ ⟨ZC BK102 0 rfl,ZC BK102 1 rfl,ZC BK102 2 rfl,(ZX HB hw104_0),(ZX HB hw104_1),(ZX HB hw104_2)⟩ (fun hHeld => ?_)
    clear hK K
    refine norm_ (a' := ?_) ?_ ?_
    rotate_left
    ·show Act.put _ (some 17) _ = _
     simp only [Act.put,zuA,zuB,zuC,i64_w,i32_w]
     rfl
    refine YP 3 18 #[Y,Y,Y,Y,X,X,X,X,X,X,X,X,X,X,X,X,X] rfl rfl HT_ ?_
    refine YP 4 19 #[Y,Y,Y,Y,Y,X,X,X,X,X,X,X,X,X,X,X,X] rfl rfl HT_ ?_
    refine YP 5 20 #[Y,Y,Y,Y,Y,Y,X,X,X,X,X,X,X,X,X,X,X] rfl rfl HT_ ?_
    refine YP 6 21 #[Y,Y,Y,Y,Y,Y,Y,X,X,X,X,X,X,X,X,X,X] rfl rfl HT_ ?_
    refine YP 7 22 #[Y,Y,Y,Y,Y,Y,Y,Y,X,X,X,X,X,X,X,X,X] rfl rfl HT_ ?_
    refine YP 9 24 #[Y,Y,Y,Y,Y,Y,Y,Y,X,Y,X,X,X,X,X,X,X] rfl rfl HT_ ?_
    refine YP 10 25 #[Y,Y,Y,Y,Y,Y,Y,Y,X,Y,Y,X,X,X,X,X,X] rfl rfl HT_ ?_
    refine YP 11 26 #[Y,Y,Y,Y,Y,Y,Y,Y,X,Y,Y,Y,X,X,X,X,X] rfl rfl HT_ ?_
    refine YP 12 27 #[Y,Y,Y,Y,Y,Y,Y,Y,X,Y,Y,Y,Y,X,X,X,X] rfl rfl HT_ ?_
    refine YT 8 23 #[Y,Y,Y,Y,Y,Y,Y,Y,Y,Y,Y,Y,Y,X,X,X,X] rfl rfl HT_ HW_ hHeld ?_
    refine YT 13 28 #[Y,Y,Y,Y,Y,Y,Y,Y,Y,Y,Y,Y,Y,Y,X,X,X] rfl rfl HT_ HW_ hHeld ?_
    refine YP 14 29 #[Y,Y,Y,Y,Y,Y,Y,Y,Y,Y,Y,Y,Y,Y,Y,X,X] rfl rfl HT_ ?_
    refine YP 15 30 #[Y,Y,Y,Y,Y,Y,Y,Y,Y,Y,Y,Y,Y,Y,Y,Y,X] rfl rfl HT_ ?_
    refine YP 16 31 #[Y,Y,Y,Y,Y,Y,Y,Y,Y,Y,Y,Y,Y,Y,Y,Y,Y] rfl rfl HT_ ?_
    refine done_ (done_of HT_.out (by kernel_rfl)) ?_
    try go_wp2
    go_roundg k1
    case measure => have := HK1.out;omega
    case rel => exact ⟨(x10_1),(wrap64 (x10_1 + 1)),(by first|rfl|(simp;done)|(simp [*];done)),(by first|rfl|(simp;done)|(simp [*];done)),H',⟨by have := HK1.out;omega⟩,⟨by repeat (first|(with_reducible first|exact HB.out|apply below_alloc|apply pw_below_drewN|apply below_drew1|refine below_set ?_ GE102.out)|exact HB.out)⟩⟩
   rw [if_neg c16] at H
   have c16b0 : decide (((rd_T43 l0 x5_1).f2) < ((rd_T43 l0 x10_1).f2)) = false := decide_eq_false c16
   clear c16
   have H' := Aside0.mk H
   clear H
   have p101 : 0 ≤ (x10_1 : Int) := ZD
   have q101 : x10_1 < (l0.length : Int) := ZD
   obtain ⟨ad101,A101_1,c101_1,e101,hx101_0,hx101_1,hx101_2,hl101_1,hi101_1⟩ := at_T43 HR0.out x10_1 p101 q101
   cases e101
   replace hx101_0 := ZX HB hx101_0
   replace hx101_1 := ZX HB hx101_1
   replace hx101_2 := ZX HB hx101_2
   have HR101_1 := Aside0.mk hi101_1
   have HC101_1 := Aside0.mk hl101_1
   clear hi101_1 hl101_1
   replace p101 := eq_true p101
   replace q101 := eq_true q101
   try go_wp2_with (first|((with_reducible refine gate_dst (N := 7) rfl ?_);refine ZE 7 #[.string (⟨#[]⟩ : ByteArray),.slice none 0 0,.int .i64 0] 43 ?_;intro gb102 hg w22 hbox hb;have BK102 := Aside0.mk (hbox);have GW102 := Aside0.mk ((by rw [hg];exact (below_size (ZQ HB)) : w.heap.size ≤ gb102));have GE102 := Aside0.mk ((by rw [hg];exact (below_size (ZQ HB)) : w.heap.size ≤ gb102));replace HB := Aside0.mk (below_step (ZQ HB) hb);clear hb hbox hg;have hcz23_0 : w22.cell? ⟨gb102,0,none⟩ = some (.string (⟨#[]⟩ : ByteArray)) := ZC BK102 0 rfl;have hcz23_1 : w22.cell? ⟨gb102,1,none⟩ = some (.slice none 0 0) := ZC BK102 1 rfl;have hcz23_2 : w22.cell? ⟨gb102,2,none⟩ = some (.int .i64 0) := ZC BK102 2 rfl;have hfz23_0 := blk_frozen BK102.out 0;have hfz23_1 := blk_frozen BK102.out 1;have hfz23_2 := blk_frozen BK102.out 2))
   have n0_ : Aside0 ((((w22.setCell ⟨gb102,0,none⟩ (.string ((rd_T43 l0 x10_1).f0))).setCell ⟨gb102,1,none⟩ (.slice A101_1 ((rd_T43 l0 x10_1).f1).length c101_1)).setCell ⟨gb102,2,none⟩ (.int .i64 ((rd_T43 l0 x10_1).f2))).heap[gb102]? = some (.cells #[.string ((rd_T43 l0 x10_1).f0),.slice A101_1 ((rd_T43 l0 x10_1).f1).length c101_1,.int .i64 ((rd_T43 l0 x10_1).f2)] 43 (0,0))) := ⟨by (with_reducible repeat (first|refine blk_drewN ?_ _|refine blk_drew ?_|refine blk_alloc ?_ _));refine blk_put (cs := #[.string ((rd_T43 l0 x10_1).f0),.slice A101_1 ((rd_T43 l0 x10_1).f1).length c101_1,.int .i64 0]) ?_ 2 _ rfl;(with_reducible repeat (first|refine blk_drewN ?_ _|refine blk_drew ?_|refine blk_alloc ?_ _));refine blk_put (cs := #[.string ((rd_T43 l0 x10_1).f0),.slice none 0 0,.int .i64 0]) ?_ 1 _ rfl;(with_reducible repeat (first|refine blk_drewN ?_ _|refine blk_drew ?_|refine blk_alloc ?_ _));refine blk_put (cs := #[.string (⟨#[]⟩ : ByteArray),.slice none 0 0,.int .i64 0]) ?_ 0 _ rfl;(with_reducible repeat (first|refine blk_drewN ?_ _|refine blk_drew ?_|refine blk_alloc ?_ _));exact BK102.out⟩
   have n1_ : Aside0 (Below w.heap.size w (((w22.setCell ⟨gb102,0,none⟩ (.string ((rd_T43 l0 x10_1).f0))).setCell ⟨gb102,1,none⟩ (.slice A101_1 ((rd_T43 l0 x10_1).f1).length c101_1)).setCell ⟨gb102,2,none⟩ (.int .i64 ((rd_T43 l0 x10_1).f2)))) := ⟨by repeat (first|(with_reducible first|exact HB.out|apply below_alloc|apply pw_below_drewN|apply below_drew1|refine below_set ?_ GE102.out)|exact HB.out)⟩
   generalize (((w22.setCell ⟨gb102,0,none⟩ (.string ((rd_T43 l0 x10_1).f0))).setCell ⟨gb102,1,none⟩ (.slice A101_1 ((rd_T43 l0 x10_1).f1).length c101_1)).setCell ⟨gb102,2,none⟩ (.int .i64 ((rd_T43 l0 x10_1).f2))) = w24 at n0_ n1_ ⊢
   have BK102 := n0_
   have HB := n1_
   clear n0_ n1_
   replace BK102 := Aside0.mk (blk_drew BK102.out)
   replace HB := Aside0.mk (below_drew1 HB.out)
   have p104 : 0 ≤ (x5_1 : Int) := ZD
   have q104 : x5_1 < (l0.length : Int) := ZD
   obtain ⟨ad104,A104_1,c104_1,e104,hx104_0,hx104_1,hx104_2,hl104_1,hi104_1⟩ := at_T43 HR0.out x5_1 p104 q104
   have hw104_2 := hx104_2
   have hw104_1 := hx104_1
   have hw104_0 := hx104_0
   obtain rfl : ad101 = ad104 := (by injection e104)
   replace hx104_0 := ZX HB hx104_0
   replace hx104_1 := ZX HB hx104_1
   replace hx104_2 := ZX HB hx104_2
   have HR104_1 := Aside0.mk hi104_1
   have HC104_1 := Aside0.mk hl104_1
   clear hi104_1 hl104_1
   replace p104 := eq_true p104
   replace q104 := eq_true q104
   refine start_ (n := 17) (S := fun w' => w'.cell? ⟨gb102,0,none⟩ = some (.string ((rd_T43 l0 x10_1).f0)) ∧ w'.cell? ⟨gb102,1,none⟩ = some (.slice A101_1 ((rd_T43 l0 x10_1).f1).length c101_1) ∧ w'.cell? ⟨gb102,2,none⟩ = some (.int .i64 ((rd_T43 l0 x10_1).f2)) ∧ w'.cell? (ad101.add ((x5_1).toNat * 3)) = some (.string ((rd_T43 l0 x5_1).f0)) ∧ w'.cell? ⟨(ad101.add ((x5_1).toNat * 3)).block,(ad101.add ((x5_1).toNat * 3)).off + 1,none⟩ = some (.slice A104_1 ((rd_T43 l0 x5_1).f1).length c104_1) ∧ w'.cell? ⟨(ad101.add ((x5_1).toNat * 3)).block,(ad101.add ((x5_1).toNat * 3)).off + 2,none⟩ = some (.int .i64 ((rd_T43 l0 x5_1).f2))) (ds := []) #[X,X,X,X,X,X,X,X,X,X,X,X,X,X,X,X,X] (by kernel_rfl) rfl rfl ⟨ZC BK102 0 rfl,ZC BK102 1 rfl,ZC BK102 2 rfl,(ZX HB hw104_0),(ZX HB hw104_1),(ZX HB hw104_2)⟩ (fun hHeld => ?_);refine with_tabW impl_mostUsed.tab5 impl_mostUsed.bits5 (fun HT_ HW_ => ?_)
   generalize w24.drew = w25 at BK102 HB HR104_1 hx104_0 hx104_1 hx104_2 hHeld ⊢
   refine YP 0 15 #[Y,X,X,X,X,X,X,X,X,X,X,X,X,X,X,X,X] rfl rfl HT_ ?_
   refine YP 1 16 #[Y,Y,X,X,X,X,X,X,X,X,X,X,X,X,X,X,X] rfl rfl HT_ ?_
   refine ZO 2 17 #[Y,Y,Y,X,X,X,X,X,X,X,X,X,X,X,X,X,X] rfl rfl HT_ fun K hK => ?_
   refine Go.Proofs.YtgnijnlgbelifaaW.PrintLast.goesV_ g lb eg #[.int .i64 x10_1] (by rfl) rfl rfl rfl (by (try simp only [List.map_toArray,List.map_cons,List.map_nil]);first|done|rfl|(simp only [List.length_drop,List.length_take];rfl)) ?_
   with_reducible refine (HP.out _ x10_1 true ?sb_ ?s0_ ?s1_ A6.out).mono ?_
   (case sb_ => repeat (first|(with_reducible first|exact HB.out|apply below_alloc|apply pw_below_drewN|apply below_drew1|refine below_set ?_ GE102.out)|exact HB.out))
   (case s0_ => exact of_decide_eq_true c4b0)
   (case s1_ => exact of_decide_eq_true c5b0)
   rintro e w26 ⟨rfl,hb⟩
   refine ⟨_,rfl,?_⟩
   replace BK102 := Aside0.mk (blk_below (g := gb102) (o := .cells #[.string ((rd_T43 l0 x10_1).f0),.slice A101_1 ((rd_T43 l0 x10_1).f1).length c101_1,.int .i64 ((rd_T43 l0 x10_1).f2)] 43 (0,0)) (by (with_reducible repeat (first|refine blk_drewN ?_ _|refine blk_drew ?_|refine blk_alloc ?_ _));exact BK102.out) hb)
   replace HB := Aside0.mk (below_step (by repeat (first|(with_reducible first|exact HB.out|apply below_alloc|apply pw_below_drewN|apply below_drew1|refine below_set ?_ GE102.out)|exact HB.out)) hb)
   refine hK.out _ _ ⟨ZC BK102 0 rfl,ZC BK102 1 rfl,ZC BK102 2 rfl,(ZX HB hw104_0),(ZX HB hw104_1),(ZX HB hw104_2)⟩ (fun hHeld => ?_)
   clear hK K
   refine norm_ (a' := ?_) ?_ ?_
   rotate_left
   ·show Act.put _ (some 17) _ = _
    simp only [Act.put,zuA,zuB,zuC,i64_w,i32_w]
    rfl
   refine YP 3 18 #[Y,Y,Y,Y,X,X,X,X,X,X,X,X,X,X,X,X,X] rfl rfl HT_ ?_
   refine YP 4 19 #[Y,Y,Y,Y,Y,X,X,X,X,X,X,X,X,X,X,X,X] rfl rfl HT_ ?_
   refine YP 5 20 #[Y,Y,Y,Y,Y,Y,X,X,X,X,X,X,X,X,X,X,X] rfl rfl HT_ ?_
   refine YP 6 21 #[Y,Y,Y,Y,Y,Y,Y,X,X,X,X,X,X,X,X,X,X] rfl rfl HT_ ?_
   refine YP 7 22 #[Y,Y,Y,Y,Y,Y,Y,Y,X,X,X,X,X,X,X,X,X] rfl rfl HT_ ?_
   refine YP 9 24 #[Y,Y,Y,Y,Y,Y,Y,Y,X,Y,X,X,X,X,X,X,X] rfl rfl HT_ ?_
   refine YP 10 25 #[Y,Y,Y,Y,Y,Y,Y,Y,X,Y,Y,X,X,X,X,X,X] rfl rfl HT_ ?_
   refine YP 11 26 #[Y,Y,Y,Y,Y,Y,Y,Y,X,Y,Y,Y,X,X,X,X,X] rfl rfl HT_ ?_
   refine YP 12 27 #[Y,Y,Y,Y,Y,Y,Y,Y,X,Y,Y,Y,Y,X,X,X,X] rfl rfl HT_ ?_
   refine YT 8 23 #[Y,Y,Y,Y,Y,Y,Y,Y,Y,Y,Y,Y,Y,X,X,X,X] rfl rfl HT_ HW_ hHeld ?_
   refine YT 13 28 #[Y,Y,Y,Y,Y,Y,Y,Y,Y,Y,Y,Y,Y,Y,X,X,X] rfl rfl HT_ HW_ hHeld ?_
   refine YP 14 29 #[Y,Y,Y,Y,Y,Y,Y,Y,Y,Y,Y,Y,Y,Y,Y,X,X] rfl rfl HT_ ?_
   refine YP 15 30 #[Y,Y,Y,Y,Y,Y,Y,Y,Y,Y,Y,Y,Y,Y,Y,Y,X] rfl rfl HT_ ?_
   refine YP 16 31 #[Y,Y,Y,Y,Y,Y,Y,Y,Y,Y,Y,Y,Y,Y,Y,Y,Y] rfl rfl HT_ ?_
   refine done_ (done_of HT_.out (by kernel_rfl)) ?_
   try go_wp2
   go_roundg k1
   case measure => have := HK1.out;omega
   case rel => exact ⟨(x5_1),(wrap64 (x10_1 + 1)),(by first|rfl|(simp;done)|(simp [*];done)),(by first|rfl|(simp;done)|(simp [*];done)),H',⟨by have := HK1.out;omega⟩,⟨by repeat (first|(with_reducible first|exact HB.out|apply below_alloc|apply pw_below_drewN|apply below_drew1|refine below_set ?_ GE102.out)|exact HB.out)⟩⟩
end Go.Proofs.Ytgnijnlgbelifaa.Q
