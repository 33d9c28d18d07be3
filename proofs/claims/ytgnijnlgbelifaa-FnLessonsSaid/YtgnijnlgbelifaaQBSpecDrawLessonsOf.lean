-- Written for the seat Ytgnijnlgbelifaa by a program of this session (wip/tool/gx.py) out of the translation. Lean checks it.
import Derived.Test.YtgnijnlgbelifaaQ0
import Derived.Test.YtgnijnlgbelifaaGPeel
import Derived.Test.YtgnijnlgbelifaaGCall
import Derived.Test.YtgnijnlgbelifaaQBLawsBig
import Derived.Test.YtgnijnlgbelifaaQSpecL1CurWords
import Derived.Test.YtgnijnlgbelifaaS137
import Derived.Lib.Bytealg
import Derived.Test.YtgnijnlgbelifaaWApart
import Derived.Test.YtgnijnlgbelifaaWFoot
import Derived.Test.YtgnijnlgbelifaaWKept
import Derived.Test.YtgnijnlgbelifaaWShare
import Derived.Test.YtgnijnlgbelifaaWN
import Derived.Test.YtgnijnlgbelifaaWRepsOne
namespace Go.Proofs.Ytgnijnlgbelifaa.Q
open Go.RowKit Go.Proofs.YtgnijnlgbelifaaW.PrintWords Go.Proofs.YtgnijnlgbelifaaW.PrintLast Go.Proofs.YtgnijnlgbelifaaW.PrintMore Go.Proofs.YtgnijnlgbelifaaW.GCall
attribute [local go_sem] max2_int min2_int max_two min_two max_three min_three max_four min_four   -- for this text's walks alone
set_option linter.unusedVariables false
set_option linter.unusedSimpArgs false

/-! ### spec_DrawLessonsOf: function 5 -/
def spec_DrawLessonsOf.f (k : Nat) (l0 : List Int) : Option ((List (S43)) × Int) := (spec_l1Cur_words.f k l0 0 0).bind fun bt102 => ((spec_l1Cur_among.f l0 bt102.2.1 bt102.2.2 (([2,0,17] : List Int))).bind fun bt110 => ((spec_l1Cur_among.f l0 bt110.2.1 bt110.2.2 (([1,2,3,16,bt110.1] : List Int))).bind fun bt116 => (some (bt102.1,bt116.1))))
theorem spec_DrawLessonsOf.mono : ∀ a0 k,LeO (spec_DrawLessonsOf.f k a0) (spec_DrawLessonsOf.f (k + 1) a0) := by
 intro a0 k
 unfold spec_DrawLessonsOf.f
 with_reducible repeat' first|apply spec_l1Cur_words.mono|apply LeO.refl|apply LeO.none|refine LeO.ite ?_ ?_|refine LeO.bind ?_ (fun _ => ?_)
set_option maxHeartbeats 3000000 in
set_option maxRecDepth 100000 in
theorem spec_DrawLessonsOf.calls (k : Nat) (A0 : Option Addr) (c0 : Nat) (l0 : List Int) (r1 : List (S43)) (r2 : Int) (w : World) (hr0 : Kd.C (Kd.int .u8) w A0 l0.length l0) (hc0 : l0.length ≤ c0) (h : spec_DrawLessonsOf.f k l0 = some (r1,r2)) :
  Calls Try.prog 5 #[.slice A0 l0.length c0] w fun e w' => ∃ v0_ : Value,e = .returned (.tuple #[v0_,.int .i64 r2]) ∧ Kd.N k43 43 w' w.heap.size (fun k_ => (w.heap.size ≤ k_)) v0_ r1 ∧ Below w.heap.size w w' := by
 have hu49 := Try.underlying49
 have HR0 := Aside0.mk hr0
 have HC0 := Aside0.mk hc0
 clear hr0 hc0
 have HB := Aside0.mk (Below.refl w.heap.size w)
 have H : ((spec_l1Cur_words.f k l0 0 0).bind fun bt102 => ((spec_l1Cur_among.f l0 bt102.2.1 bt102.2.2 (([2,0,17] : List Int))).bind fun bt110 => ((spec_l1Cur_among.f l0 bt110.2.1 bt110.2.2 (([1,2,3,16,bt110.1] : List Int))).bind fun bt116 => (some (bt102.1,bt116.1))))) = some (r1,r2) := h
 clear h
 replace H := Option.bind_eq_some_iff.mp H
 obtain ⟨⟨t102,t105,t106⟩,A20,H⟩ := H
 try dsimp only at H
 have A2 := Aside0.mk A20
 clear A20
 obtain ⟨y107,hy107⟩ : ∃ y_ : List Int,y_ = (([2,0,17] : List Int)) := ⟨_,rfl⟩
 replace H : ((spec_l1Cur_among.f l0 t105 t106 y107).bind fun bt110 => ((spec_l1Cur_among.f l0 bt110.2.1 bt110.2.2 (([1,2,3,16,bt110.1] : List Int))).bind fun bt116 => (some (t102,bt116.1)))) = some (r1,r2) := by first|(rw [hy107];with_reducible exact H)|(have H2_ := (Option.bind_some _ _).symm.trans H;rw [hy107];with_reducible exact H2_)|(have H2_ := (Option.bind_some _ _).symm.trans H;with_reducible exact H2_)|with_reducible exact H|(rw [hy107];exact H)|exact H
 have Ny107 := Aside0.mk hy107
 clear hy107
 replace H := Option.bind_eq_some_iff.mp H
 obtain ⟨⟨t110,t111,t112⟩,A30,H⟩ := H
 try dsimp only at H
 have A3 := Aside0.mk A30
 clear A30
 obtain ⟨y113,hy113⟩ : ∃ y_ : List Int,y_ = (([1,2,3,16,t110] : List Int)) := ⟨_,rfl⟩
 replace H : ((spec_l1Cur_among.f l0 t111 t112 y113).bind fun bt116 => (some (t102,bt116.1))) = some (r1,r2) := by first|(rw [hy113];with_reducible exact H)|(have H2_ := (Option.bind_some _ _).symm.trans H;rw [hy113];with_reducible exact H2_)|(have H2_ := (Option.bind_some _ _).symm.trans H;with_reducible exact H2_)|with_reducible exact H|(rw [hy113];exact H)|exact H
 have Ny113 := Aside0.mk hy113
 clear hy113
 replace H := Option.bind_eq_some_iff.mp H
 obtain ⟨⟨t116,t117,t118⟩,A40,H⟩ := H
 try dsimp only at H
 have A4 := Aside0.mk A40
 clear A40
 simp only [Option.some.injEq,Prod.mk.injEq] at H
 obtain ⟨rfl,rfl⟩ := H
 go_enter Try.func5,Try.ntmps5
 go_wp2_with (first|((with_reducible refine gate_dst (N := 7) rfl ?_);refine ZE 7 #[.slice A0 l0.length c0,.int .i64 0,.int .u64 0] 49 ?_;intro gb101 hg w5 hbox hb;have HI101 := Aside0.mk ((⟨_,_,hbox,(by rw [hg];exact (below_size (ZQ HB))),HR0.out⟩ : IsS49 w w5 gb101 l0 0 0));replace HB := Aside0.mk (below_step (ZQ HB) hb);clear hb hbox hg)|((with_reducible refine gate_callee (f := 21) rfl ?_);refine goesM_ (some 9) Try.func21 #[.pointer (some ⟨gb101,0,none⟩)] ?_;(with_reducible refine (spec_l1Cur_words.calls k gb101 l0 0 0 t102 t105 t106 w _ ?side1 ?side2 A2.out).mono ?_);(case side1 => repeat (first|(with_reducible first|exact HI101.out|apply zsA|apply zsB|apply zsC|apply zsD|apply zsE)|exact HI101.out));(case side2 => repeat (first|(with_reducible first|exact HB.out|apply zbA|apply zbB|apply zbC|refine below_set ?_ (IsS49.ge HI101.out))|exact HB.out));rintro e w6 ⟨v103,rfl,ho0,hi,hb,hk⟩;refine ⟨_,rfl,?_⟩;have HO104 := Aside0.mk (Kd.N_lower (Kd.N_mono (ok' := fun k_ => (w.heap.size ≤ k_) ∧ k_ ≠ gb101) ho0 (fun k_ hk_ => ⟨(Nat.le_trans (below_size (by repeat (first|(with_reducible first|exact HB.out|apply zbA|apply zbB|apply zbC|refine below_set ?_ (IsS49.ge HI101.out))|exact HB.out))) hk_),(IsS49.fresh (ZS HI101) k_ hk_)⟩)) (below_size (by repeat (first|(with_reducible first|exact HB.out|apply zbA|apply zbB|apply zbC|refine below_set ?_ (IsS49.ge HI101.out))|exact HB.out))));replace HB := Aside0.mk (hb);replace HI101 := Aside0.mk (hi);(try clear hb);(try clear ho0))|((with_reducible refine gate_dst (N := 12) rfl ?_);refine Kd.R_lit (Kd.int .i64) _ 3 ?hg (N := 12) ?hd (xs := ([2,0,17] : List Int)) (inner := [.int .i64 2,.int .i64 0,.int .i64 17]) (ok := fun _ => True) (okp := fun _ => True) ?hr ?hp (fun _ hk => hk) trivial (Below.refl _ _) (Nat.le_refl _) (by simp) ?_;(case hd => rfl);(case hg => rfl);(case hr => first|(go_simp;done)|(go_simp;rfl));(case hp => exact (Reps.one (show Kd.M (Kd.int .i64) _ _ _ 2 [.int .i64 2] from rfl) (Reps.one (show Kd.M (Kd.int .i64) _ _ _ 0 [.int .i64 0] from rfl) (Reps.one (show Kd.M (Kd.int .i64) _ _ _ 17 [.int .i64 17] from rfl) (Reps.none _ _)))));intro v108 w7 ho8 hb hg_ hnew_;clear hg_ hnew_;(first|rw [← Ny107.out] at ho8|(simp only [Int.reduceToNat] at ho8;rw [← Ny107.out] at ho8));replace HO104 := Aside0.mk (Kd.N_elder' (ZKN HO104) (Kd.R_base ho8) hb);have HO109 := Aside0.mk (Kd.R_lower (Kd.R_newM (M := fun k_ => (w.heap.size ≤ k_)) ho8 (below_size (by repeat (first|(with_reducible first|exact HB.out|apply zbA|apply zbB|apply zbC|refine below_set ?_ (IsS49.ge HI101.out))|exact HB.out))) (fun k_ h_ => h_)) (below_size (by repeat (first|(with_reducible first|exact HB.out|apply zbA|apply zbB|apply zbC|refine below_set ?_ (IsS49.ge HI101.out))|exact HB.out))));replace HB := Aside0.mk (below_step (by repeat (first|(with_reducible first|exact HB.out|apply zbA|apply zbB|apply zbC|refine below_set ?_ (IsS49.ge HI101.out))|exact HB.out)) hb);replace HI101 := Aside0.mk (IsS49.below (ZS HI101) hb);clear hb ho8;obtain ⟨Ao9,co9,eo9⟩ := Kd.R_slice HO109.out;subst eo9)|((with_reducible refine gate_callee (f := 22) rfl ?_);refine goesM_ (some 13) Try.func22 #[.pointer (some ⟨gb101,0,none⟩),.slice Ao9 y107.length co9] ?_;(with_reducible refine (spec_l1Cur_among.calls gb101 l0 t105 t106 _ _ y107 t110 t111 t112 w _ ?side1 ?side2 ?side3 ?side4 ?side5 A3.out).mono ?_);(case side1 => repeat (first|(with_reducible first|exact HI101.out|apply zsA|apply zsB|apply zsC|apply zsD|apply zsE)|exact HI101.out));(case side2 => repeat (first|(with_reducible first|exact HB.out|apply zbA|apply zbB|apply zbC|refine below_set ?_ (IsS49.ge HI101.out))|exact HB.out));(case side3 => exact ZR (Kd.R_reads' HO109.out).2.2);(case side4 => exact (Kd.R_reads' HO109.out).2.1);(case side5 => exact far_slice (IsS49.own_ne HI101.out HO109.out (by decide)));rintro e w10 ⟨rfl,hi,hb,hk⟩;refine ⟨_,rfl,?_⟩;replace HO104 := Aside0.mk (Kd.N_mono (Kd.N_keep (Kd.N_mono (ok := fun k_ => ((((w.heap.size ≤ k_)) ∧ k_ ≠ gb101) ∧ some k_ ≠ (.slice Ao9 y107.length co9 : Value).ownBlock)) (ZKN HO104) (fun k_ hk_ => (⟨hk_,hk_.1.2⟩ : _ ∧ k_ ≠ gb101))) hk (fun _ h => h.2)) (fun _ h => h.1));replace HO109 := Aside0.mk (Kd.R_mono (Kd.R_keep (IsS49.apart (show IsS49 w _ gb101 l0 t105 t106 from ZS HI101) (ZK HO109) (by decide)) hk (fun _ h => h.2)) (fun _ h => h.1));replace HB := Aside0.mk (hb);replace HI101 := Aside0.mk (hi);(try clear hb))|((with_reducible refine gate_dst (N := 14) rfl ?_);refine Kd.R_lit (Kd.int .i64) _ 3 ?hg (N := 14) ?hd (xs := ([1,2,3,16,t110] : List Int)) (inner := [.int .i64 1,.int .i64 2,.int .i64 3,.int .i64 16,.int .i64 t110]) (ok := fun _ => True) (okp := fun _ => True) ?hr ?hp (fun _ hk => hk) trivial (Below.refl _ _) (Nat.le_refl _) (by simp) ?_;(case hd => rfl);(case hg => rfl);(case hr => first|(go_simp;done)|(go_simp;rfl));(case hp => exact (Reps.one (show Kd.M (Kd.int .i64) _ _ _ 1 [.int .i64 1] from rfl) (Reps.one (show Kd.M (Kd.int .i64) _ _ _ 2 [.int .i64 2] from rfl) (Reps.one (show Kd.M (Kd.int .i64) _ _ _ 3 [.int .i64 3] from rfl) (Reps.one (show Kd.M (Kd.int .i64) _ _ _ 16 [.int .i64 16] from rfl) (Reps.one (show Kd.M (Kd.int .i64) _ _ _ t110 [.int .i64 t110] from rfl) (Reps.none _ _)))))));intro v114 w11 ho12 hb hg_ hnew_;clear hg_ hnew_;(first|rw [← Ny113.out] at ho12|(simp only [Int.reduceToNat] at ho12;rw [← Ny113.out] at ho12));replace HO104 := Aside0.mk (Kd.N_elder' (ZKN HO104) (Kd.R_base ho12) hb);have HO115 := Aside0.mk (Kd.R_lower (Kd.R_new' (Kd.R_newM (M := fun k_ => (w.heap.size ≤ k_)) ho12 (below_size (by repeat (first|(with_reducible first|exact HB.out|apply zbA|apply zbB|apply zbC|refine below_set ?_ (IsS49.ge HI101.out))|exact HB.out))) (fun k_ h_ => h_)) (Kd.R_lt (ZK HO109))) (below_size (by repeat (first|(with_reducible first|exact HB.out|apply zbA|apply zbB|apply zbC|refine below_set ?_ (IsS49.ge HI101.out))|exact HB.out))));replace HO109 := Aside0.mk (Kd.R_elder' (ZK HO109) (Kd.R_base ho12) hb);replace HB := Aside0.mk (below_step (by repeat (first|(with_reducible first|exact HB.out|apply zbA|apply zbB|apply zbC|refine below_set ?_ (IsS49.ge HI101.out))|exact HB.out)) hb);replace HI101 := Aside0.mk (IsS49.below (ZS HI101) hb);clear hb ho12;obtain ⟨Ao13,co13,eo13⟩ := Kd.R_slice HO115.out;subst eo13)|((with_reducible refine gate_callee (f := 22) rfl ?_);refine goesM_ (some 15) Try.func22 #[.pointer (some ⟨gb101,0,none⟩),.slice Ao13 y113.length co13] ?_;(with_reducible refine (spec_l1Cur_among.calls gb101 l0 t111 t112 _ _ y113 t116 t117 t118 w _ ?side1 ?side2 ?side3 ?side4 ?side5 A4.out).mono ?_);(case side1 => repeat (first|(with_reducible first|exact HI101.out|apply zsA|apply zsB|apply zsC|apply zsD|apply zsE)|exact HI101.out));(case side2 => repeat (first|(with_reducible first|exact HB.out|apply zbA|apply zbB|apply zbC|refine below_set ?_ (IsS49.ge HI101.out))|exact HB.out));(case side3 => exact ZR (Kd.R_reads' HO115.out).2.2);(case side4 => exact (Kd.R_reads' HO115.out).2.1);(case side5 => exact far_slice (IsS49.own_ne HI101.out HO115.out (by decide)));rintro e w14 ⟨rfl,hi,hb,hk⟩;refine ⟨_,rfl,?_⟩;replace HO104 := Aside0.mk (Kd.N_mono (Kd.N_keep (Kd.N_mono (ok := fun k_ => (((((w.heap.size ≤ k_)) ∧ k_ ≠ gb101) ∧ some k_ ≠ (.slice Ao9 y107.length co9 : Value).ownBlock) ∧ some k_ ≠ (.slice Ao13 y113.length co13 : Value).ownBlock)) (ZKN HO104) (fun k_ hk_ => (⟨hk_,hk_.1.1.2⟩ : _ ∧ k_ ≠ gb101))) hk (fun _ h => h.2)) (fun _ h => h.1));replace HO109 := Aside0.mk (Kd.R_mono (Kd.R_keep (IsS49.apart (show IsS49 w _ gb101 l0 t111 t112 from ZS HI101) (ZK HO109) (by decide)) hk (fun _ h => h.2)) (fun _ h => h.1));replace HO115 := Aside0.mk (Kd.R_mono (Kd.R_keep (IsS49.apart (show IsS49 w _ gb101 l0 t111 t112 from ZS HI101) (ZK HO115) (by decide)) hk (fun _ h => h.2)) (fun _ h => h.1));replace HB := Aside0.mk (hb);replace HI101 := Aside0.mk (hi);(try clear hb)))
 go_ret2
 exact ⟨_,by first|rfl|(simp [*,errW_none,errW_some] <;> rfl),ZKN ⟨Kd.N_mono HO104.out (fun _ hk => hk.1.1.1)⟩,by repeat (first|(with_reducible first|exact HB.out|apply zbA|apply zbB|apply zbC|refine below_set ?_ (IsS49.ge HI101.out))|exact HB.out)⟩

/-! ### impl_within: function 23 -/
def impl_within.f (a0 : Int) (a1 : Int) (a2 : Int) : Option (Bool) := if a0 ≥ a1 then (some (decide (a0 ≤ a2))) else (some false)
set_option maxHeartbeats 3000000 in
set_option maxRecDepth 100000 in
theorem impl_within.calls (a0 : Int) (a1 : Int) (a2 : Int) (r : Bool) (w : World) (h : impl_within.f a0 a1 a2 = some r) :
  Calls Try.prog 23 #[.int .i64 a0,.int .i64 a1,.int .i64 a2] w fun e w' => e = .returned (.bool r) ∧ Drawn0 w w' := by
 have H : (if a0 ≥ a1 then (some (decide (a0 ≤ a2))) else (some false)) = some r := h
 clear h
 by_cases c4 : a0 ≥ a1
 ·rw [if_pos c4] at H
  have c4b0 : decide (a1 ≤ a0) = true := decide_eq_true c4
  clear c4
  obtain rfl := Option.some.inj H
  go_enter Try.func23,Try.ntmps23
  go_wp2
  go_ret
  exact ⟨by first|rfl|(simp;done)|(simp [*];done),by repeat (first|exact Drawn0.refl _|apply Drawn0.step)⟩
 rw [if_neg c4] at H
 have c4b0 : decide (a1 ≤ a0) = false := decide_eq_false c4
 clear c4
 obtain rfl := Option.some.inj H
 go_enter Try.func23,Try.ntmps23
 go_wp2
 go_ret
 exact ⟨by first|rfl|(simp;done)|(simp [*];done),by repeat (first|exact Drawn0.refl _|apply Drawn0.step)⟩

/-! ### slices_Index_int: function 48 -/
def slices_Index_int.l0 : Nat → List Int → Int → Int → Int → Option (Int)
 | 0,_,_,_,_ => none
 | k + 1,x0,x1,x7,x8 => if x8 < x7 then (if 0 ≤ x8 then (if x8 < (x0.length : Int) then (if x1 = (rd x0 x8) then (some x8) else (slices_Index_int.l0 k x0 x1 x7 (wrap64 (x8 + 1)))) else (none)) else (none)) else (some (-1))
def slices_Index_int.f (k : Nat) (l0 : List Int) (a1 : Int) : Option (Int) := slices_Index_int.l0 k l0 a1 (l0.length : Int) 0
theorem slices_Index_int.mono_l : ∀ k,(∀ y0 y1 y2 y3,LeO (slices_Index_int.l0 k y0 y1 y2 y3) (slices_Index_int.l0 (k + 1) y0 y1 y2 y3))
 | 0 => fun _ _ _ _ r h => by simp [slices_Index_int.l0] at h
 | k + 1 => by
  have ih0 := slices_Index_int.mono_l k
  intro y0 y1 y2 y3
  unfold slices_Index_int.l0
  with_reducible repeat' first|apply ih0|apply LeO.refl|apply LeO.none|refine LeO.ite ?_ ?_|refine LeO.bind ?_ (fun _ => ?_)
theorem slices_Index_int.mono : ∀ a0 a1 k,LeO (slices_Index_int.f k a0 a1) (slices_Index_int.f (k + 1) a0 a1) := by
 intro a0 a1 k
 have ih0 := slices_Index_int.mono_l k
 unfold slices_Index_int.f
 with_reducible repeat' first|apply ih0|apply LeO.refl|apply LeO.none|refine LeO.ite ?_ ?_|refine LeO.bind ?_ (fun _ => ?_)
set_option maxHeartbeats 3000000 in
set_option maxRecDepth 100000 in
theorem slices_Index_int.calls (k : Nat) (A0 : Option Addr) (c0 : Nat) (l0 : List Int) (a1 : Int) (r : Int) (w : World) (hr0 : Kd.C (Kd.int .i64) w A0 l0.length l0) (hc0 : l0.length ≤ c0) (h : slices_Index_int.f k l0 a1 = some r) :
  Calls Try.prog 48 #[.slice A0 l0.length c0,.int .i64 a1] w fun e w' => e = .returned (.int .i64 r) ∧ Drawn0 w w' := by
 have HR0 := Aside0.mk hr0
 have HC0 := Aside0.mk hc0
 clear hr0 hc0
 have H : (slices_Index_int.l0 k l0 a1 (l0.length : Int) 0) = some r := h
 clear h
 have H' := Aside0.mk H
 clear H
 go_enter Try.func48,Try.ntmps48
 go_wp2
 go_loopg [8] k (fun kq v8 w' => ∃ (x8_1 : Int),v8 = .int .i64 x8_1 ∧ Aside0 (slices_Index_int.l0 kq l0 a1 (l0.length : Int) x8_1 = some r) ∧ Aside0 (kq ≤ k) ∧ Drawn0 w w')
 case atStart => exact ⟨(0),(by first|rfl|(simp;done)|(simp [*];done)),H',⟨Nat.le_refl _⟩,by repeat (first|exact Drawn0.refl _|apply Drawn0.step)⟩
 case round =>
  clear H'
  obtain ⟨x8_1,rfl,HA,HK1,⟨m1,rfl⟩⟩ := hrel
  cases gk with
  | zero => exact absurd HA.out (by simp [slices_Index_int.l0])
  | succ k1 =>
   have H := HA.out
   clear HA
   simp only [slices_Index_int.l0] at H
   by_cases c3 : x8_1 < (l0.length : Int);rotate_left
   ·rw [if_neg c3] at H
    have c3b0 : decide (x8_1 < (l0.length : Int)) = false := decide_eq_false c3
    clear c3
    obtain rfl := Option.some.inj H
    go_wp2
    go_ret
    exact ⟨by first|rfl|(simp;done)|(simp [*];done),by repeat (first|exact Drawn0.refl _|apply Drawn0.step)⟩

   rw [if_pos c3] at H
   have c3b0 : decide (x8_1 < (l0.length : Int)) = true := decide_eq_true c3
   clear c3
   by_cases c4 : 0 ≤ x8_1;rotate_left
   ·rw [if_neg c4] at H
    exact absurd H (by simp)
   rw [if_pos c4] at H
   have c4b0 : decide (0 ≤ x8_1) = true := decide_eq_true c4
   clear c4
   by_cases c5 : x8_1 < (l0.length : Int);rotate_left
   ·rw [if_neg c5] at H
    exact absurd H (by simp)
   rw [if_pos c5] at H
   have c5b0 : decide (x8_1 < (l0.length : Int)) = true := decide_eq_true c5
   clear c5
   by_cases c6 : a1 = (rd l0 x8_1)
   ·rw [if_pos c6] at H
    have c6b0 : (a1 == (rd l0 x8_1)) = true := beq_iff_eq.mpr c6
    have c6b1 : (a1 != (rd l0 x8_1)) = false := bne_eq_false_iff_eq.mpr c6
    clear c6
    obtain rfl := Option.some.inj H
    have p101 : 0 ≤ (x8_1 : Int) := ZD
    have q101 : x8_1 < (l0.length : Int) := ZD
    obtain ⟨ad101,e101,hx101_0⟩ := Kd.at_int HR0.out x8_1 p101 q101
    cases e101
    replace p101 := eq_true p101
    replace q101 := eq_true q101
    go_wp2
    go_ret
    exact ⟨by first|rfl|(simp;done)|(simp [*];done),by repeat (first|exact Drawn0.refl _|apply Drawn0.step)⟩
   rw [if_neg c6] at H
   have c6b0 : (a1 == (rd l0 x8_1)) = false := beq_eq_false_iff_ne.mpr c6
   have c6b1 : (a1 != (rd l0 x8_1)) = true := bne_iff_ne.mpr c6
   have H' := Aside0.mk H
   clear H
   have p101 : 0 ≤ (x8_1 : Int) := ZD
   have q101 : x8_1 < (l0.length : Int) := ZD
   obtain ⟨ad101,e101,hx101_0⟩ := Kd.at_int HR0.out x8_1 p101 q101
   cases e101
   replace p101 := eq_true p101
   replace q101 := eq_true q101
   go_wp2
   go_roundg k1
   case measure => have := HK1.out;omega
   case rel => exact ⟨(wrap64 (x8_1 + 1)),(by first|rfl|(simp;done)|(simp [*];done)),H',⟨by have := HK1.out;omega⟩,by repeat (first|exact Drawn0.refl _|apply Drawn0.step)⟩
/-! ### slices_Contains_int: function 26 -/
def slices_Contains_int.f (k : Nat) (l0 : List Int) (a1 : Int) : Option (Bool) := (slices_Index_int.f k l0 a1).bind fun t101 => (some (decide (t101 ≥ 0)))
theorem slices_Contains_int.mono : ∀ a0 a1 k,LeO (slices_Contains_int.f k a0 a1) (slices_Contains_int.f (k + 1) a0 a1) := by
 intro a0 a1 k
 unfold slices_Contains_int.f
 with_reducible repeat' first|apply slices_Index_int.mono|apply LeO.refl|apply LeO.none|refine LeO.ite ?_ ?_|refine LeO.bind ?_ (fun _ => ?_)
set_option maxHeartbeats 3000000 in
set_option maxRecDepth 100000 in
theorem slices_Contains_int.calls (k : Nat) (A0 : Option Addr) (c0 : Nat) (l0 : List Int) (a1 : Int) (r : Bool) (w : World) (hr0 : Kd.C (Kd.int .i64) w A0 l0.length l0) (hc0 : l0.length ≤ c0) (h : slices_Contains_int.f k l0 a1 = some r) :
  Calls Try.prog 26 #[.slice A0 l0.length c0,.int .i64 a1] w fun e w' => e = .returned (.bool r) ∧ Drawn0 w w' := by
 have HR0 := Aside0.mk hr0
 have HC0 := Aside0.mk hc0
 clear hr0 hc0
 have H : ((slices_Index_int.f k l0 a1).bind fun t101 => (some (decide (t101 ≥ 0)))) = some r := h
 clear h
 replace H := Option.bind_eq_some_iff.mp H
 obtain ⟨t101,A30,H⟩ := H
 try dsimp only at H
 have A3 := Aside0.mk A30
 clear A30
 obtain rfl := Option.some.inj H
 go_enter Try.func26,Try.ntmps26
 go_wp2_with (first|((with_reducible refine gate_callee (f := 48) rfl ?_);refine goesM_ (some 7) Try.func48 #[.slice A0 l0.length c0,.int .i64 a1] ?_;(with_reducible refine (slices_Index_int.calls k _ _ l0 a1 t101 _ ?side1 ?side2 A3.out).mono ?_);(case side1 => exact ZR HR0.out);(case side2 => exact HC0.out);rintro e w' ⟨rfl,⟨nd,rfl⟩⟩;refine ⟨_,rfl,?_⟩))
 go_ret
 exact ⟨by first|rfl|(simp;done)|(simp [*];done),by repeat (first|exact Drawn0.refl _|apply Drawn0.step)⟩

/-! ### strings_IndexByte: function 90 -/
def strings_IndexByte.f (a0 : ByteArray) (a1 : Int) : Option (Int) := some (Lib.indexByte a0.data.toList a1.toNat.toUInt8)
theorem strings_IndexByte.calls (a0 : ByteArray) (a1 : Int) (r : Int) (w : World) (h : strings_IndexByte.f a0 a1 = some r) :
  Calls Try.prog 90 #[.string a0,.int .u8 a1] w fun e w' => e = .returned (.int .i64 r) ∧ Drawn0 w w' := by
 obtain rfl := Option.some.inj h
 refine (Try.strings_IndexByte a0 a1 w).mono ?_
 rintro e w' ⟨rfl,rfl⟩
 exact ⟨rfl,Drawn0.refl _⟩

/-! ### impl_hasOnly: function 81 -/
def impl_hasOnly.l0 : Nat → ByteArray → ByteArray → Int → Int → Option (Bool)
 | 0,_,_,_,_ => none
 | k + 1,x0,x1,x7,x8 => if x8 < x7 then (if 0 ≤ x8 then (if x8 < (x0.size : Int) then ((strings_IndexByte.f x1 (bt x0 x8)).bind fun t101 => (if t101 < 0 then (some false) else (impl_hasOnly.l0 k x0 x1 x7 (wrap64 (x8 + 1))))) else (none)) else (none)) else (some true)
def impl_hasOnly.f (k : Nat) (a0 : ByteArray) (a1 : ByteArray) : Option (Bool) := impl_hasOnly.l0 k a0 a1 (a0.size : Int) 0
theorem impl_hasOnly.mono_l : ∀ k,(∀ y0 y1 y2 y3,LeO (impl_hasOnly.l0 k y0 y1 y2 y3) (impl_hasOnly.l0 (k + 1) y0 y1 y2 y3))
 | 0 => fun _ _ _ _ r h => by simp [impl_hasOnly.l0] at h
 | k + 1 => by
  have ih0 := impl_hasOnly.mono_l k
  intro y0 y1 y2 y3
  unfold impl_hasOnly.l0
  with_reducible repeat' first|apply ih0|apply LeO.refl|apply LeO.none|refine LeO.ite ?_ ?_|refine LeO.bind ?_ (fun _ => ?_)
theorem impl_hasOnly.mono : ∀ a0 a1 k,LeO (impl_hasOnly.f k a0 a1) (impl_hasOnly.f (k + 1) a0 a1) := by
 intro a0 a1 k
 have ih0 := impl_hasOnly.mono_l k
 unfold impl_hasOnly.f
 with_reducible repeat' first|apply ih0|apply LeO.refl|apply LeO.none|refine LeO.ite ?_ ?_|refine LeO.bind ?_ (fun _ => ?_)
set_option maxHeartbeats 3000000 in
set_option maxRecDepth 100000 in
theorem impl_hasOnly.calls (k : Nat) (a0 : ByteArray) (a1 : ByteArray) (r : Bool) (w : World) (h : impl_hasOnly.f k a0 a1 = some r) :
  Calls Try.prog 81 #[.string a0,.string a1] w fun e w' => e = .returned (.bool r) ∧ Drawn0 w w' := by
 have H : (impl_hasOnly.l0 k a0 a1 (a0.size : Int) 0) = some r := h
 clear h
 have H' := Aside0.mk H
 clear H
 go_enter Try.func81,Try.ntmps81
 go_wp2
 go_loopg [8] k (fun kq v8 w' => ∃ (x8_1 : Int),v8 = .int .i64 x8_1 ∧ Aside0 (impl_hasOnly.l0 kq a0 a1 (a0.size : Int) x8_1 = some r) ∧ Aside0 (kq ≤ k) ∧ Drawn0 w w')
 case atStart => exact ⟨(0),(by first|rfl|(simp;done)|(simp [*];done)),H',⟨Nat.le_refl _⟩,by repeat (first|exact Drawn0.refl _|apply Drawn0.step)⟩
 case round =>
  clear H'
  obtain ⟨x8_1,rfl,HA,HK1,⟨m1,rfl⟩⟩ := hrel
  cases gk with
  | zero => exact absurd HA.out (by simp [impl_hasOnly.l0])
  | succ k1 =>
   have H := HA.out
   clear HA
   simp only [impl_hasOnly.l0] at H
   by_cases c3 : x8_1 < (a0.size : Int);rotate_left
   ·rw [if_neg c3] at H
    have c3b0 : decide (x8_1 < (a0.size : Int)) = false := decide_eq_false c3
    clear c3
    obtain rfl := Option.some.inj H
    go_wp2
    go_ret
    exact ⟨by first|rfl|(simp;done)|(simp [*];done),by repeat (first|exact Drawn0.refl _|apply Drawn0.step)⟩

   rw [if_pos c3] at H
   have c3b0 : decide (x8_1 < (a0.size : Int)) = true := decide_eq_true c3
   clear c3
   by_cases c4 : 0 ≤ x8_1;rotate_left
   ·rw [if_neg c4] at H
    exact absurd H (by simp)
   rw [if_pos c4] at H
   have c4b0 : decide (0 ≤ x8_1) = true := decide_eq_true c4
   clear c4
   by_cases c5 : x8_1 < (a0.size : Int);rotate_left
   ·rw [if_neg c5] at H
    exact absurd H (by simp)
   rw [if_pos c5] at H
   have c5b0 : decide (x8_1 < (a0.size : Int)) = true := decide_eq_true c5
   clear c5
   replace H := Option.bind_eq_some_iff.mp H
   obtain ⟨t101,A70,H⟩ := H
   try dsimp only at H
   have A7 := Aside0.mk A70
   clear A70
   by_cases c8 : t101 < 0
   ·rw [if_pos c8] at H
    have c8b0 := decide_eq_true c8
    clear c8
    obtain rfl := Option.some.inj H
    have p6 : 0 ≤ (x8_1 : Int) := ZD
    have q6 : x8_1 < (a0.size : Int) := ZD
    have hx6 := bt_at a0 x8_1
    replace p6 := eq_true p6
    replace q6 := eq_true q6
    go_wp2_with (first|((with_reducible refine gate_callee (f := 90) rfl ?_);refine goesM_ (some 15) Try.func90 #[.string a1,.int .u8 (bt a0 x8_1)] ?_;(with_reducible refine (strings_IndexByte.calls a1 (bt a0 x8_1) t101 _ A7.out).mono ?_);rintro e w' ⟨rfl,⟨nd,rfl⟩⟩;refine ⟨_,rfl,?_⟩))
    go_ret
    exact ⟨by first|rfl|(simp;done)|(simp [*];done),by repeat (first|exact Drawn0.refl _|apply Drawn0.step)⟩
   rw [if_neg c8] at H
   have c8b0 := decide_eq_false c8
   clear c8
   have H' := Aside0.mk H
   clear H
   have p6 : 0 ≤ (x8_1 : Int) := ZD
   have q6 : x8_1 < (a0.size : Int) := ZD
   have hx6 := bt_at a0 x8_1
   replace p6 := eq_true p6
   replace q6 := eq_true q6
   go_wp2_with (first|((with_reducible refine gate_callee (f := 90) rfl ?_);refine goesM_ (some 15) Try.func90 #[.string a1,.int .u8 (bt a0 x8_1)] ?_;(with_reducible refine (strings_IndexByte.calls a1 (bt a0 x8_1) t101 _ A7.out).mono ?_);rintro e w' ⟨rfl,⟨nd,rfl⟩⟩;refine ⟨_,rfl,?_⟩))
   go_roundg k1
   case measure => have := HK1.out;omega
   case rel => exact ⟨(wrap64 (x8_1 + 1)),(by first|rfl|(simp;done)|(simp [*];done)),H',⟨by have := HK1.out;omega⟩,by repeat (first|exact Drawn0.refl _|apply Drawn0.step)⟩
/-! ### impl_isWordOf: function 57 -/
def impl_isWordOf.f (k : Nat) (a0 : ByteArray) (a1 : ByteArray) : Option (Bool) := (impl_within.f (a0.size : Int) 1 8).bind fun t101 => (if t101 = true then ((impl_hasOnly.f k a0 a1).bind fun t102 => (some t102)) else (some false))
theorem impl_isWordOf.mono : ∀ a0 a1 k,LeO (impl_isWordOf.f k a0 a1) (impl_isWordOf.f (k + 1) a0 a1) := by
 intro a0 a1 k
 unfold impl_isWordOf.f
 with_reducible repeat' first|apply impl_hasOnly.mono|apply LeO.refl|apply LeO.none|refine LeO.ite ?_ ?_|refine LeO.bind ?_ (fun _ => ?_)
set_option maxHeartbeats 3000000 in
set_option maxRecDepth 100000 in
theorem impl_isWordOf.calls (k : Nat) (a0 : ByteArray) (a1 : ByteArray) (r : Bool) (w : World) (h : impl_isWordOf.f k a0 a1 = some r) :
  Calls Try.prog 57 #[.string a0,.string a1] w fun e w' => e = .returned (.bool r) ∧ Drawn0 w w' := by
 have H : ((impl_within.f (a0.size : Int) 1 8).bind fun t101 => (if t101 = true then ((impl_hasOnly.f k a0 a1).bind fun t102 => (some t102)) else (some false))) = some r := h
 clear h
 replace H := Option.bind_eq_some_iff.mp H
 obtain ⟨t101,A30,H⟩ := H
 try dsimp only at H
 have A3 := Aside0.mk A30
 clear A30
 by_cases c4 : t101 = true;rotate_left
 ·replace c4 := Bool.eq_false_iff.mpr c4
  subst c4
  rw [if_neg (show ¬ (false = true) by decide)] at H
  obtain rfl := Option.some.inj H
  go_enter Try.func57,Try.ntmps57
  go_wp2_with (first|((with_reducible refine gate_callee (f := 23) rfl ?_);refine goesM_ (some 7) Try.func23 #[.int .i64 (a0.size : Int),.int .i64 1,.int .i64 8] ?_;(with_reducible refine (impl_within.calls (a0.size : Int) 1 8 false _ A3.out).mono ?_);rintro e w' ⟨rfl,⟨nd,rfl⟩⟩;refine ⟨_,rfl,?_⟩))
  go_ret
  exact ⟨by first|rfl|(simp;done)|(simp [*];done),by repeat (first|exact Drawn0.refl _|apply Drawn0.step)⟩

 subst c4
 rw [if_pos rfl] at H
 replace H := Option.bind_eq_some_iff.mp H
 obtain ⟨t102,A50,H⟩ := H
 try dsimp only at H
 have A5 := Aside0.mk A50
 clear A50
 obtain rfl := Option.some.inj H
 go_enter Try.func57,Try.ntmps57
 go_wp2_with (first|((with_reducible refine gate_callee (f := 23) rfl ?_);refine goesM_ (some 7) Try.func23 #[.int .i64 (a0.size : Int),.int .i64 1,.int .i64 8] ?_;(with_reducible refine (impl_within.calls (a0.size : Int) 1 8 true _ A3.out).mono ?_);rintro e w' ⟨rfl,⟨nd,rfl⟩⟩;refine ⟨_,rfl,?_⟩)|(go_at_call 81;(with_reducible refine (impl_hasOnly.calls k a0 a1 t102 _ A5.out).mono ?_);rintro e w' ⟨rfl,⟨nd,rfl⟩⟩))
 go_ret
 exact ⟨by first|rfl|(simp;done)|(simp [*];done),by repeat (first|exact Drawn0.refl _|apply Drawn0.step)⟩
/-! ### impl_IsGloss: function 34 -/
def impl_IsGloss.f (k : Nat) (a0 : ByteArray) : Option (Bool) := (impl_isWordOf.f k a0 (⟨#[65,66,67,68,69,70,71,72,73,74,75,76,77,78,79,80,81,82,83,84,85,86,87,88,89,90]⟩ : ByteArray)).bind fun t101 => (some t101)
theorem impl_IsGloss.mono : ∀ a0 k,LeO (impl_IsGloss.f k a0) (impl_IsGloss.f (k + 1) a0) := by
 intro a0 k
 unfold impl_IsGloss.f
 with_reducible repeat' first|apply impl_isWordOf.mono|apply LeO.refl|apply LeO.none|refine LeO.ite ?_ ?_|refine LeO.bind ?_ (fun _ => ?_)
set_option maxHeartbeats 3000000 in
set_option maxRecDepth 100000 in
theorem impl_IsGloss.calls (k : Nat) (a0 : ByteArray) (r : Bool) (w : World) (h : impl_IsGloss.f k a0 = some r) :
  Calls Try.prog 34 #[.string a0] w fun e w' => e = .returned (.bool r) ∧ Drawn0 w w' := by
 have H : ((impl_isWordOf.f k a0 (⟨#[65,66,67,68,69,70,71,72,73,74,75,76,77,78,79,80,81,82,83,84,85,86,87,88,89,90]⟩ : ByteArray)).bind fun t101 => (some t101)) = some r := h
 clear h
 replace H := Option.bind_eq_some_iff.mp H
 obtain ⟨t101,A20,H⟩ := H
 try dsimp only at H
 have A2 := Aside0.mk A20
 clear A20
 obtain rfl := Option.some.inj H
 go_enter Try.func34,Try.ntmps34
 go_wp2_with (first|((with_reducible refine gate_callee (f := 57) rfl ?_);refine goesL_ (some 4) rfl rfl Try.func57 (by kernel_rfl) rfl #[.string a0,.string (⟨#[65,66,67,68,69,70,71,72,73,74,75,76,77,78,79,80,81,82,83,84,85,86,87,88,89,90]⟩ : ByteArray)] rfl (by (try simp only [List.map_toArray,List.map_cons,List.map_nil]);first|done|rfl|(simp only [List.length_drop,List.length_take];rfl)) ?_;(with_reducible refine (impl_isWordOf.calls k a0 (⟨#[65,66,67,68,69,70,71,72,73,74,75,76,77,78,79,80,81,82,83,84,85,86,87,88,89,90]⟩ : ByteArray) t101 _ A2.out).mono ?_);rintro e w' ⟨rfl,⟨nd,rfl⟩⟩;refine ⟨_,rfl,?_⟩))
 go_ret
 exact ⟨by first|rfl|(simp;done)|(simp [*];done),by repeat (first|exact Drawn0.refl _|apply Drawn0.step)⟩

end Go.Proofs.Ytgnijnlgbelifaa.Q
