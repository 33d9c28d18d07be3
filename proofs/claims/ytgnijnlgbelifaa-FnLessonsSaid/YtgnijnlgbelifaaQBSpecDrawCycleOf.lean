-- Written for the seat Ytgnijnlgbelifaa by a program of this session (wip/tool/gx.py) out of the translation. Lean checks it.
import Derived.Test.YtgnijnlgbelifaaQ0
import Derived.Test.YtgnijnlgbelifaaGPeel
import Derived.Test.YtgnijnlgbelifaaGCall
import Derived.Test.YtgnijnlgbelifaaQBLawsBig
import Derived.Test.YtgnijnlgbelifaaQBSlicesCloneInt
import Derived.Test.YtgnijnlgbelifaaQBSpecDrawLessonsOf
import Derived.Test.YtgnijnlgbelifaaQImplAreWords
import Derived.Test.YtgnijnlgbelifaaQSpecL1CurWords
import Derived.WalkSpells
import Derived.Test.YtgnijnlgbelifaaWKept
import Derived.WalkSpells
import Derived.Test.YtgnijnlgbelifaaWKept
import Derived.Test.YtgnijnlgbelifaaWRepsOne
import Derived.Test.YtgnijnlgbelifaaWApart
import Derived.Test.YtgnijnlgbelifaaWFoot
import Derived.Test.YtgnijnlgbelifaaWKept
import Derived.Test.YtgnijnlgbelifaaWShare
import Derived.Test.YtgnijnlgbelifaaWN
import Derived.Test.YtgnijnlgbelifaaWRepsOne
import Derived.Test.YtgnijnlgbelifaaWGuard
import Derived.Test.YtgnijnlgbelifaaWNEv
namespace Go.Proofs.Ytgnijnlgbelifaa.Q
open Go.RowKit Go.Proofs.YtgnijnlgbelifaaW.PrintWords Go.Proofs.YtgnijnlgbelifaaW.PrintLast Go.Proofs.YtgnijnlgbelifaaW.PrintMore Go.Proofs.YtgnijnlgbelifaaW.GCall
attribute [local go_sem] max2_int min2_int max_two min_two max_three min_three max_four min_four   -- for this text's walks alone
set_option linter.unusedVariables false
set_option linter.unusedSimpArgs false

/-! ### spec_DrawCycleOf: function 17 -/
mutual
def spec_DrawCycleOf.l0 : Nat → List (S43) → Int → List Int → Int → Int → Option ((List (S43)))
 | 0,_,_,_,_,_ => none
 | k + 1,x4,x5,x102000,x102001,x102002 => if x5 < 2 then (if (x4.length : Int) > 1 then (spec_DrawCycleOf.j1 k x4 x5 (decide ((x4.length : Int) < 9)) x102000 x102001 x102002) else (spec_DrawCycleOf.j1 k x4 x5 false x102000 x102001 x102002)) else (spec_DrawCycleOf.j1 k x4 x5 false x102000 x102001 x102002)
def spec_DrawCycleOf.j1 : Nat → List (S43) → Int → Bool → List Int → Int → Int → Option ((List (S43)))
 | 0,_,_,_,_,_,_ => none
 | k + 1,x4,x5,x24,x102000,x102001,x102002 => if x24 = true then ((spec_l1Cur_pick.f x102000 x102001 x102002 (x4.length : Int)).bind fun bt107 => ((spec_l1Cur_pick.f x102000 bt107.2.1 bt107.2.2 (x4.length : Int)).bind fun bt110 => (if bt107.1 = bt110.1 then (spec_DrawCycleOf.l0 k x4 (wrap64 (x5 + 1)) x102000 bt110.2.1 bt110.2.2) else (if 0 ≤ bt107.1 then (if bt107.1 < (x4.length : Int) then ((spec_l1Put.f k ((rd_T43 x4 bt107.1).f1) bt110.1).bind fun t114 => (spec_DrawCycleOf.l0 k (x4.set (bt107.1 : Int).toNat (⟨(rd_T43 x4 bt107.1).f0,t114,(rd_T43 x4 bt107.1).f2⟩ : S43)) (wrap64 (x5 + 1)) x102000 bt110.2.1 bt110.2.2)) else (none)) else (none))))) else (some x4)
end
def spec_DrawCycleOf.f (k : Nat) (l0 : List Int) : Option ((List (S43))) := (spec_l1Cur_words.f k l0 0 0).bind fun bt102 => (spec_DrawCycleOf.l0 k bt102.1 0 l0 bt102.2.1 bt102.2.2)
theorem spec_DrawCycleOf.mono_l : ∀ k,(∀ y0 y1 y2 y3 y4,LeO (spec_DrawCycleOf.l0 k y0 y1 y2 y3 y4) (spec_DrawCycleOf.l0 (k + 1) y0 y1 y2 y3 y4)) ∧ (∀ y0 y1 y2 y3 y4 y5,LeO (spec_DrawCycleOf.j1 k y0 y1 y2 y3 y4 y5) (spec_DrawCycleOf.j1 (k + 1) y0 y1 y2 y3 y4 y5))
 | 0 => ⟨fun _ _ _ _ _ r h => by simp [spec_DrawCycleOf.l0] at h,fun _ _ _ _ _ _ r h => by simp [spec_DrawCycleOf.j1] at h⟩
 | k + 1 => by
  obtain ⟨ih0,ih1⟩ := spec_DrawCycleOf.mono_l k
  refine ⟨?_,?_⟩ <;> intros
  all_goals first|unfold spec_DrawCycleOf.l0|unfold spec_DrawCycleOf.j1
  with_reducible repeat' first|apply ih0|apply ih1|apply spec_l1Cur_words.mono|apply spec_l1Put.mono|apply LeO.refl|apply LeO.none|refine LeO.ite ?_ ?_|refine LeO.bind ?_ (fun _ => ?_)
theorem spec_DrawCycleOf.mono : ∀ a0 k,LeO (spec_DrawCycleOf.f k a0) (spec_DrawCycleOf.f (k + 1) a0) := by
 intro a0 k
 obtain ⟨ih0,ih1⟩ := spec_DrawCycleOf.mono_l k
 unfold spec_DrawCycleOf.f
 with_reducible repeat' first|apply ih0|apply ih1|apply spec_l1Cur_words.mono|apply spec_l1Put.mono|apply LeO.refl|apply LeO.none|refine LeO.ite ?_ ?_|refine LeO.bind ?_ (fun _ => ?_)
set_option maxHeartbeats 3000000 in
set_option maxRecDepth 100000 in
theorem spec_DrawCycleOf.calls (k : Nat) (A0 : Option Addr) (c0 : Nat) (l0 : List Int) (r : List (S43)) (w : World) (hr0 : Kd.C (Kd.int .u8) w A0 l0.length l0) (hc0 : l0.length ≤ c0) (h : spec_DrawCycleOf.f k l0 = some r) :
  Calls Try.prog 17 #[.slice A0 l0.length c0] w fun e w' => ∃ v0_ : Value,e = .returned (v0_) ∧ Kd.N k43 43 w' w.heap.size (fun k_ => (w.heap.size ≤ k_)) v0_ r ∧ Below w.heap.size w w' := by
 have hu49 := Try.underlying49
 have HR0 := Aside0.mk hr0
 have HC0 := Aside0.mk hc0
 clear hr0 hc0
 have HB := Aside0.mk (Below.refl w.heap.size w)
 have H : ((spec_l1Cur_words.f k l0 0 0).bind fun bt102 => (spec_DrawCycleOf.l0 k bt102.1 0 l0 bt102.2.1 bt102.2.2)) = some r := h
 clear h
 replace H := Option.bind_eq_some_iff.mp H
 obtain ⟨⟨t102,t105,t106⟩,A20,H⟩ := H
 try dsimp only at H
 have A2 := Aside0.mk A20
 clear A20
 have H' := Aside0.mk H
 clear H
 go_enter Try.func17,Try.ntmps17
 go_wp2_with (first|((with_reducible refine gate_dst (N := 10) rfl ?_);(try (refine gate_guard (by rfl) ?_;dsimp only));refine ZE 10 #[.slice A0 l0.length c0,.int .i64 0,.int .u64 0] 49 ?_;intro gb101 hg w3 hbox hb;have HI101 := Aside0.mk ((⟨_,_,hbox,(by rw [hg];exact (below_size (ZQ HB))),HR0.out⟩ : IsS49 w w3 gb101 l0 0 0));replace HB := Aside0.mk (below_step (ZQ HB) hb);clear hb hbox hg)|((with_reducible refine gate_callee (f := 21) rfl ?_);refine goesM_ (some 12) Try.func21 #[.pointer (some ⟨gb101,0,none⟩)] ?_;(with_reducible refine (spec_l1Cur_words.calls k gb101 l0 0 0 t102 t105 t106 w _ ?side1 ?side2 A2.out).mono ?_);(case side1 => repeat (first|(with_reducible first|exact HI101.out|apply zsA|apply zsB|apply zsC|apply zsD|apply zsE)|exact HI101.out));(case side2 => repeat (first|(with_reducible first|exact HB.out|apply zbA|apply zbB|apply zbC|refine below_set ?_ (IsS49.ge HI101.out))|exact HB.out));rintro e w4 ⟨v103,rfl,ho0,hi,hb,hk⟩;refine ⟨_,rfl,?_⟩;have HO104 := Aside0.mk (Kd.N_lower (Kd.N_mono (ok' := fun k_ => (w.heap.size ≤ k_) ∧ k_ ≠ gb101) ho0 (fun k_ hk_ => ⟨(Nat.le_trans (below_size (by repeat (first|(with_reducible first|exact HB.out|apply zbA|apply zbB|apply zbC|refine below_set ?_ (IsS49.ge HI101.out))|exact HB.out))) hk_),(IsS49.fresh (ZS HI101) k_ hk_)⟩)) (below_size (by repeat (first|(with_reducible first|exact HB.out|apply zbA|apply zbB|apply zbC|refine below_set ?_ (IsS49.ge HI101.out))|exact HB.out))));replace HB := Aside0.mk (hb);replace HI101 := Aside0.mk (hi);(try clear hb);(try clear ho0)))
 go_loopg [5] k (fun kq v5 w' => ∃ (x4_1 : List (S43)) (x5_1 : Int) (x102001_1 : Int) (x102002_1 : Int),v5 = .int .i64 x5_1 ∧ Aside0 (spec_DrawCycleOf.l0 kq x4_1 x5_1 l0 x102001_1 x102002_1 = some r) ∧ Aside0 (kq ≤ k) ∧ Aside0 (Kd.N k43 43 w' w.heap.size (fun k_ => (w.heap.size ≤ k_) ∧ k_ ≠ gb101) v103 x4_1) ∧ Aside0 (IsS49 w w' gb101 l0 x102001_1 x102002_1) ∧ Aside0 (Below w.heap.size w w'))
 case atStart => exact ⟨(t102),(0),(t105),(t106),(by first|rfl|(simp;done)|(simp [*];done)),H',⟨Nat.le_refl _⟩,⟨ZKN HO104⟩,⟨ZS HI101⟩,⟨by repeat (first|(with_reducible first|exact HB.out|apply zbA|apply zbB|apply zbC|refine below_set ?_ (IsS49.ge HI101.out))|exact HB.out)⟩⟩
 case round =>
  clear H'
  obtain ⟨x4_1,x5_1,x102001_1,x102002_1,rfl,HA,HK1,HO_4,HI101,HB⟩ := hrel
  cases gk with
  | zero => exact absurd HA.out (by simp [spec_DrawCycleOf.l0])
  | succ k1 =>
   have H := HA.out
   clear HA
   simp only [spec_DrawCycleOf.l0] at H
   have HC5 := Aside0.mk H
   clear H
   go_upto_region 4 with (fail)
   go_cut [24] (fun v24 wc => ∃ (kq : Nat) (x24_4 : Bool),v24 = .bool x24_4 ∧ Aside0 (spec_DrawCycleOf.j1 kq x4_1 x5_1 x24_4 l0 x102001_1 x102002_1 = some r) ∧ Aside0 (kq ≤ k1) ∧ Aside0 (Kd.N k43 43 wc w.heap.size (fun k_ => (w.heap.size ≤ k_) ∧ k_ ≠ gb101) v103 x4_1) ∧ Aside0 (IsS49 w wc gb101 l0 x102001_1 x102002_1) ∧ Aside0 (Below w.heap.size w wc))
   case first =>
    have H := HC5.out
    clear HC5
    by_cases c6 : x5_1 < 2;rotate_left
    ·rw [if_neg c6] at H
     have c6b0 : decide (x5_1 < 2) = false := decide_eq_false c6
     clear c6
     (first|rw [c6b0]|rw [c6b1]|(simp only [i64_w,i32_w];rw [c6b0])|skip)
     have H' := Aside0.mk H
     clear H
     go_wp2
     go_meet
     case rel => exact ⟨_,(false),(by first|rfl|(simp;done)|(simp [*];done)),H',⟨by have := HK1.out;first|omega|exact Nat.le_refl _⟩,⟨ZKN HO_4⟩,⟨ZS HI101⟩,⟨by repeat (first|(with_reducible first|exact HB.out|apply zbA|apply zbB|apply zbC|refine below_set ?_ (IsS49.ge HI101.out))|exact HB.out)⟩⟩
    rw [if_pos c6] at H
    have c6b0 : decide (x5_1 < 2) = true := decide_eq_true c6
    clear c6
    (first|rw [c6b0]|rw [c6b1]|(simp only [i64_w,i32_w];rw [c6b0])|skip)
    by_cases c7 : (x4_1.length : Int) > 1;rotate_left
    ·rw [if_neg c7] at H
     have c7b0 : decide (1 < (x4_1.length : Int)) = false := decide_eq_false c7
     have c7b1 : decide (1 < x4_1.length) = false := decide_eq_false (by omega)
     clear c7
     have H' := Aside0.mk H
     clear H
     obtain ⟨Ao9,co9,eo9⟩ := Kd.N_slice HO_4.out
     subst eo9
     go_wp2
     go_meet
     case rel => exact ⟨_,(false),(by first|rfl|(simp;done)|(simp [*];done)),H',⟨by have := HK1.out;first|omega|exact Nat.le_refl _⟩,⟨ZKN HO_4⟩,⟨ZS HI101⟩,⟨by repeat (first|(with_reducible first|exact HB.out|apply zbA|apply zbB|apply zbC|refine below_set ?_ (IsS49.ge HI101.out))|exact HB.out)⟩⟩
    rw [if_pos c7] at H
    have c7b0 : decide (1 < (x4_1.length : Int)) = true := decide_eq_true c7
    have c7b1 : decide (1 < x4_1.length) = true := decide_eq_true (by omega)
    clear c7
    have H' := Aside0.mk H
    clear H
    obtain ⟨Ao8,co8,eo8⟩ := Kd.N_slice HO_4.out
    subst eo8
    go_wp2
    go_meet
    case rel => exact ⟨_,(decide ((x4_1.length : Int) < 9)),(by first|rfl|(simp;done)|(simp [*];done)),H',⟨by have := HK1.out;first|omega|exact Nat.le_refl _⟩,⟨ZKN HO_4⟩,⟨ZS HI101⟩,⟨by repeat (first|(with_reducible first|exact HB.out|apply zbA|apply zbB|apply zbC|refine below_set ?_ (IsS49.ge HI101.out))|exact HB.out)⟩⟩
   case rest =>
    clear HC5
    obtain ⟨kq,x24_4,rfl,HA,HJ4,HO_4,HI101,HB⟩ := hcut
    cases kq with
    | zero => exact absurd HA.out (by simp [spec_DrawCycleOf.j1])
    | succ kj4 =>
     have H := HA.out
     clear HA
     simp only [spec_DrawCycleOf.j1] at H
     by_cases c10 : x24_4 = true;rotate_left
     ·replace c10 := Bool.eq_false_iff.mpr c10
      subst c10
      rw [if_neg (show ¬ (false = true) by decide)] at H
      obtain rfl := Option.some.inj H
      go_wp2
      go_ret
      exact ⟨_,by first|rfl|(simp [*,errW_none,errW_some] <;> rfl),ZKN ⟨Kd.N_mono HO_4.out (fun _ hk => hk.1)⟩,by repeat (first|(with_reducible first|exact HB.out|apply zbA|apply zbB|apply zbC|refine below_set ?_ (IsS49.ge HI101.out))|exact HB.out)⟩

     subst c10
     rw [if_pos rfl] at H
     replace H := Option.bind_eq_some_iff.mp H
     obtain ⟨⟨t107,t108,t109⟩,A110,H⟩ := H
     try dsimp only at H
     have A11 := Aside0.mk A110
     clear A110
     replace H := Option.bind_eq_some_iff.mp H
     obtain ⟨⟨t110,t111,t112⟩,A120,H⟩ := H
     try dsimp only at H
     have A12 := Aside0.mk A120
     clear A120
     by_cases c13 : t107 = t110
     ·rw [if_pos c13] at H
      have c13b0 : (t107 == t110) = true := beq_iff_eq.mpr c13
      have c13b1 : (t107 != t110) = false := bne_eq_false_iff_eq.mpr c13
      clear c13
      have H' := Aside0.mk H
      clear H
      obtain ⟨Ao14,co14,eo14⟩ := Kd.N_slice HO_4.out
      subst eo14
      go_wp2_with (first|((with_reducible refine gate_callee (f := 42) rfl ?_);refine goesM_ (some 30) Try.func42 #[.pointer (some ⟨gb101,0,none⟩),.int .i64 (x4_1.length : Int)] ?_;(with_reducible refine (spec_l1Cur_pick.calls gb101 l0 x102001_1 x102002_1 (x4_1.length : Int) t107 t108 t109 w _ ?side1 ?side2 A11.out).mono ?_);(case side1 => repeat (first|(with_reducible first|exact HI101.out|apply zsA|apply zsB|apply zsC|apply zsD|apply zsE)|exact HI101.out));(case side2 => repeat (first|(with_reducible first|exact HB.out|apply zbA|apply zbB|apply zbC|refine below_set ?_ (IsS49.ge HI101.out))|exact HB.out));rintro e w15 ⟨rfl,hi,hb,hk⟩;refine ⟨_,rfl,?_⟩;replace HO_4 := Aside0.mk (Kd.N_mono (Kd.N_keep (Kd.N_mono (ok := fun k_ => (((w.heap.size ≤ k_)) ∧ k_ ≠ gb101)) (ZKN HO_4) (fun k_ hk_ => (⟨hk_,hk_.2⟩ : _ ∧ k_ ≠ gb101))) hk (fun _ h => h.2)) (fun _ h => h.1));replace HB := Aside0.mk (hb);replace HI101 := Aside0.mk (hi);(try clear hb))|((with_reducible refine gate_callee (f := 42) rfl ?_);refine goesM_ (some 34) Try.func42 #[.pointer (some ⟨gb101,0,none⟩),.int .i64 (x4_1.length : Int)] ?_;(with_reducible refine (spec_l1Cur_pick.calls gb101 l0 t108 t109 (x4_1.length : Int) t110 t111 t112 w _ ?side1 ?side2 A12.out).mono ?_);(case side1 => repeat (first|(with_reducible first|exact HI101.out|apply zsA|apply zsB|apply zsC|apply zsD|apply zsE)|exact HI101.out));(case side2 => repeat (first|(with_reducible first|exact HB.out|apply zbA|apply zbB|apply zbC|refine below_set ?_ (IsS49.ge HI101.out))|exact HB.out));rintro e w16 ⟨rfl,hi,hb,hk⟩;refine ⟨_,rfl,?_⟩;replace HO_4 := Aside0.mk (Kd.N_mono (Kd.N_keep (Kd.N_mono (ok := fun k_ => (((w.heap.size ≤ k_)) ∧ k_ ≠ gb101)) (ZKN HO_4) (fun k_ hk_ => (⟨hk_,hk_.2⟩ : _ ∧ k_ ≠ gb101))) hk (fun _ h => h.2)) (fun _ h => h.1));replace HB := Aside0.mk (hb);replace HI101 := Aside0.mk (hi);(try clear hb)))
      go_roundg kj4
      case measure => have := HK1.out;have := HJ4.out;omega
      case rel => exact ⟨(x4_1),(wrap64 (x5_1 + 1)),(t111),(t112),(by first|rfl|(simp;done)|(simp [*];done)),H',⟨by have := HK1.out;have := HJ4.out;omega⟩,⟨ZKN HO_4⟩,⟨ZS HI101⟩,⟨by repeat (first|(with_reducible first|exact HB.out|apply zbA|apply zbB|apply zbC|refine below_set ?_ (IsS49.ge HI101.out))|exact HB.out)⟩⟩
     rw [if_neg c13] at H
     have c13b0 : (t107 == t110) = false := beq_eq_false_iff_ne.mpr c13
     have c13b1 : (t107 != t110) = true := bne_iff_ne.mpr c13
     by_cases c17 : 0 ≤ t107;rotate_left
     ·rw [if_neg c17] at H
      exact absurd H (by simp)
     rw [if_pos c17] at H
     have c17b0 : decide (0 ≤ t107) = true := decide_eq_true c17
     clear c17
     by_cases c18 : t107 < (x4_1.length : Int);rotate_left
     ·rw [if_neg c18] at H
      exact absurd H (by simp)
     rw [if_pos c18] at H
     have c18b0 : decide (t107 < (x4_1.length : Int)) = true := decide_eq_true c18
     clear c18
     replace H := Option.bind_eq_some_iff.mp H
     obtain ⟨t114,A190,H⟩ := H
     try dsimp only at H
     have A19 := Aside0.mk A190
     clear A190
     obtain ⟨y117,hy117⟩ : ∃ y_ : List (S43),y_ = (x4_1.set (t107 : Int).toNat (⟨(rd_T43 x4_1 t107).f0,t114,(rd_T43 x4_1 t107).f2⟩ : S43)) := ⟨_,rfl⟩
     replace H : (spec_DrawCycleOf.l0 kj4 y117 (wrap64 (x5_1 + 1)) l0 t111 t112) = some r := by first|(rw [hy117];with_reducible exact H)|(have H2_ := (Option.bind_some _ _).symm.trans H;rw [hy117];with_reducible exact H2_)|(have H2_ := (Option.bind_some _ _).symm.trans H;with_reducible exact H2_)|with_reducible exact H|(rw [hy117];exact H)|exact H
     have Ny117 := Aside0.mk hy117
     clear hy117
     have H' := Aside0.mk H
     clear H
     obtain ⟨Ao21,co21,eo21⟩ := Kd.N_slice HO_4.out
     subst eo21
     go_wp2_with (first|((with_reducible refine gate_callee (f := 42) rfl ?_);refine goesM_ (some 30) Try.func42 #[.pointer (some ⟨gb101,0,none⟩),.int .i64 (x4_1.length : Int)] ?_;(with_reducible refine (spec_l1Cur_pick.calls gb101 l0 x102001_1 x102002_1 (x4_1.length : Int) t107 t108 t109 w _ ?side1 ?side2 A11.out).mono ?_);(case side1 => repeat (first|(with_reducible first|exact HI101.out|apply zsA|apply zsB|apply zsC|apply zsD|apply zsE)|exact HI101.out));(case side2 => repeat (first|(with_reducible first|exact HB.out|apply zbA|apply zbB|apply zbC|refine below_set ?_ (IsS49.ge HI101.out))|exact HB.out));rintro e w22 ⟨rfl,hi,hb,hk⟩;refine ⟨_,rfl,?_⟩;replace HO_4 := Aside0.mk (Kd.N_mono (Kd.N_keep (Kd.N_mono (ok := fun k_ => (((w.heap.size ≤ k_)) ∧ k_ ≠ gb101)) (ZKN HO_4) (fun k_ hk_ => (⟨hk_,hk_.2⟩ : _ ∧ k_ ≠ gb101))) hk (fun _ h => h.2)) (fun _ h => h.1));replace HB := Aside0.mk (hb);replace HI101 := Aside0.mk (hi);(try clear hb))|((with_reducible refine gate_callee (f := 42) rfl ?_);refine goesM_ (some 34) Try.func42 #[.pointer (some ⟨gb101,0,none⟩),.int .i64 (x4_1.length : Int)] ?_;(with_reducible refine (spec_l1Cur_pick.calls gb101 l0 t108 t109 (x4_1.length : Int) t110 t111 t112 w _ ?side1 ?side2 A12.out).mono ?_);(case side1 => repeat (first|(with_reducible first|exact HI101.out|apply zsA|apply zsB|apply zsC|apply zsD|apply zsE)|exact HI101.out));(case side2 => repeat (first|(with_reducible first|exact HB.out|apply zbA|apply zbB|apply zbC|refine below_set ?_ (IsS49.ge HI101.out))|exact HB.out));rintro e w23 ⟨rfl,hi,hb,hk⟩;refine ⟨_,rfl,?_⟩;replace HO_4 := Aside0.mk (Kd.N_mono (Kd.N_keep (Kd.N_mono (ok := fun k_ => (((w.heap.size ≤ k_)) ∧ k_ ≠ gb101)) (ZKN HO_4) (fun k_ hk_ => (⟨hk_,hk_.2⟩ : _ ∧ k_ ≠ gb101))) hk (fun _ h => h.2)) (fun _ h => h.1));replace HB := Aside0.mk (hb);replace HI101 := Aside0.mk (hi);(try clear hb);have p113 : 0 ≤ (t107 : Int) := ZD;have q113 : t107 < (x4_1.length : Int) := ZD;obtain ⟨ad113,A113_1,c113_1,e113,hx113_0,hx113_1,hx113_2,hl113_1,hi113_1⟩ := at_T43 (Kd.N_reads' HO_4.out).2.2 t107 p113 q113;cases e113;obtain ⟨ce113,hce113,hMe113,hcc113⟩ := Kd.N_get HO_4.out z43 t107 p113 (by first|exact q113|exact ZD|(have e_ := (Kd.N_reads' HO_4.out).1;omega));obtain ⟨ua113_1,uc113_1,rfl,ul113_1,ge113_1⟩ := k43_openF hMe113;have hv113_1 := hcc113 1 _ rfl;rw [add_field _ _ 1 (by omega)] at hv113_1;replace hv113_1 := Option.some.inj (hv113_1.symm.trans hx113_1);injection hv113_1 with hva_ hvn_ hvc_;rw [hva_] at ge113_1;rw [hvc_] at ul113_1;have HL113_1 := Aside0.mk (show Kd.V (Kd.int .i64) 3 _ w.heap.size _ _ ((rd_T43 x4_1 t107).f1) from Kd.V_mk ul113_1 ge113_1);clear hva_ hvn_ hvc_ ge113_1 ul113_1;clear hcc113 hce113;have HR113_1 := Aside0.mk hi113_1;have HC113_1 := Aside0.mk hl113_1;clear hi113_1 hl113_1;replace p113 := eq_true p113;replace q113 := eq_true q113)|((with_reducible refine gate_callee (f := 43) rfl ?_);refine goesM_ (some 46) Try.func43 #[.slice A113_1 ((rd_T43 x4_1 t107).f1).length c113_1,.int .i64 t110] ?_;(with_reducible refine (spec_l1Put.calls kj4 (fun k_ => (((w.heap.size ≤ k_) ∧ k_ ≠ gb101) ∧ some k_ ≠ (.slice (some ad113) x4_1.length co21 : Value).ownBlock)) _ _ ((rd_T43 x4_1 t107).f1) t110 t114 _ ?side1 A19.out).mono ?_);(case side1 => exact HL113_1.out);rintro e w24 ⟨v115,rfl,ho0,hb⟩;refine ⟨_,rfl,?_⟩;have hst_v115 : ∀ (a_ : Addr) (m_ : Mode) (W_ : World),Sem.run Try.prog (store a_ v115 m_) W_ = stored Try.prog W_ a_ v115 m_ := (fun a_ m_ W_ => by obtain ⟨_,_,e_⟩ := Kd.V_slice ho0;subst e_;exact run_store _ _ _ _ m_ rfl);have hsl_v115 := Kd.V_slice ho0;replace HL113_1 := ZBV HL113_1 hb;have HO116 := Aside0.mk (Kd.V_lower (Kd.V_mono (ok' := fun k_ => (w.heap.size ≤ k_) ∧ some k_ ≠ (.slice (some ad113) x4_1.length co21 : Value).ownBlock ∧ k_ ≠ gb101) ho0 (fun k_ hk_ => ⟨Or.elim hk_ (fun hs_ => hs_.1.1) (fun hn_ => (Nat.le_trans (below_size (by repeat (first|(with_reducible first|exact HB.out|apply zbA|apply zbB|apply zbC|refine below_set ?_ (IsS49.ge HI101.out))|exact HB.out))) hn_)),Or.elim hk_ (fun hs_ => hs_.2) (fun hn_ => (Kd.fresh' (Kd.N_lt (ZKN HO_4)) k_ hn_)),Or.elim hk_ (fun hs_ => hs_.1.2) (fun hn_ => (IsS49.fresh (ZS HI101) k_ hn_))⟩)) (below_size (by repeat (first|(with_reducible first|exact HB.out|apply zbA|apply zbB|apply zbC|refine below_set ?_ (IsS49.ge HI101.out))|exact HB.out))));replace HO_4 := ZBN HO_4 hb;replace HR113_1 := Aside0.mk (Kd.C_below (by repeat (first|(with_reducible exact HR113_1.out)|(with_reducible refine Kd.C_alloc ?_ _)|(with_reducible refine Kd.C_drewN ?_ _)|(with_reducible refine Kd.C_drew ?_)|exact HR113_1.out)) hb);replace HB := Aside0.mk (below_step (by repeat (first|(with_reducible first|exact HB.out|apply zbA|apply zbB|apply zbC|refine below_set ?_ (IsS49.ge HI101.out))|exact HB.out)) hb);replace HI101 := Aside0.mk (IsS49.below (ZS HI101) hb);(try clear hb);(try clear ho0);have p20 : 0 ≤ (t107 : Int) := ZD;have q20 : (t107 : Int) < ((x4_1.length : Int) : Int) := ZD;obtain ⟨go20,co20,eo20,gb20,gl20,cl20,HG20⟩ := Kd.N_form HO_4.out (by omega);(first|cases eo20|(injection eo20 with ea_ en_ ec_;(first|subst ea_|(injection ea_ with ea_;subst ea_));subst ec_;clear en_));have GB20 := Aside0.mk gb20;have GG20 := Aside0.mk HG20;clear gb20 gl20 HG20;(first|simp only [add_plain] at hx113_0|skip);(first|simp only [add_plain] at hx113_1|skip);(first|simp only [add_plain] at hx113_2|skip);obtain ⟨ce20,hcl20,hM20,hcc20,hfr20⟩ := Kd.N_elem HO_4.out z43 (t107 : Int) p20 q20;obtain ⟨ua20_1,uc20_1,rfl,ul20_1,ge20_1⟩ := k43_openF hM20;have hx20_0 : w24.cell? ⟨go20,(t107 : Int).toNat * 3,none⟩ = some (.string ((rd_T43 x4_1 t107).f0)) := hcc20 0 _ rfl;have hx20_1 : w24.cell? ⟨go20,(t107 : Int).toNat * 3 + 1,none⟩ = some (.slice ua20_1 ((rd_T43 x4_1 t107).f1).length uc20_1) := hcc20 1 _ rfl;have hx20_2 : w24.cell? ⟨go20,(t107 : Int).toNat * 3 + 2,none⟩ = some (.int .i64 ((rd_T43 x4_1 t107).f2)) := hcc20 2 _ rfl;have hf20_0 : w24.frozen? ⟨go20,(t107 : Int).toNat * 3,none⟩ = false := hfr20 0;have hf20_1 : w24.frozen? ⟨go20,(t107 : Int).toNat * 3 + 1,none⟩ = false := hfr20 1;have hf20_2 : w24.frozen? ⟨go20,(t107 : Int).toNat * 3 + 2,none⟩ = false := hfr20 2;clear hcl20 hcc20 hfr20 ;(try clear hM20);replace p20 := eq_true p20;replace q20 := eq_true q20;have HX25 := Aside0.mk (show Kd.N k43 43 w24 w.heap.size (fun k_ => (w.heap.size ≤ k_) ∧ k_ ≠ gb101) (.slice (some ⟨go20,0,none⟩) x4_1.length co21) x4_1 from (ZKN HO_4));obtain ⟨ce25,hcl25,hM25,hcc25,hfr25⟩ := Kd.N_elem HX25.out z43 (t107 : Int) ZD (by have h_ : (t107 : Int) < ((x4_1.length : Int) : Int) := ZD;first|exact h_|(have e_ := (Kd.N_reads' HO_4.out).1;omega)|simpa using h_);obtain ⟨ua25_1,uc25_1,rfl,ul25_1,ge25_1⟩ := k43_openF hM25;obtain ⟨Av25_,cv25_,ev25_⟩ := Kd.V_slice HO116.out;subst ev25_;have hv25_0 := Kd.V_mono (ok' := (fun k_ => ((fun k_ => (w.heap.size ≤ k_) ∧ k_ ≠ gb101)) k_ ∧ k_ ≠ go20)) (HO116.out) (fun k_ hk => ⟨⟨hk.1,hk.2.2⟩,fun e_ => (hk.2.1) (by rw [e_];rfl)⟩);have HP25 := Kd.N_seg HX25.out (t107 : Int) ZD (by have h_ : (t107 : Int) < ((x4_1.length : Int) : Int) := ZD;first|exact h_|(have e_ := (Kd.N_reads' HO_4.out).1;omega)|simpa using h_) (seg := [(.slice Av25_ t114.length cv25_)]) (j := 1) hcl25 hcc25 (show 2 ≤ 3 from by decide) (x' := (⟨(rd_T43 x4_1 t107).f0,t114,(rd_T43 x4_1 t107).f2⟩ : S43)) (k43_mkF _ _ (⟨(rd_T43 x4_1 t107).f0,t114,(rd_T43 x4_1 t107).f2⟩ : S43) (Kd.V_reads' hv25_0).2.1 (Kd.V_F hv25_0)) (fun _ hk => hk);have hx25_1 := hcc25 1 _ rfl;(try simp only [show (k43).sz = 3 from rfl,Nat.mul_one,Nat.add_zero] at hx25_1);have hf25_1 := hfr25 1;(try simp only [show (k43).sz = 3 from rfl,Nat.mul_one,Nat.add_zero] at hf25_1);clear hcl25 hcc25 hfr25 hM25)|((with_reducible refine gate_store (t := 32) (p := 48) rfl ?_);refine store_event (t := 32) (p := 48) (v := ?vo_w26) (w1 := (w24.setCell ⟨go20,(t107 : Int).toNat * 3 + 1,none⟩ ((.slice Av25_ t114.length cv25_)))) ?hg ?ho ?hn ?hr ?_;(case ho => rfl);(case hg => rfl);(case hn => rfl);(case hr => first|(obtain ⟨A_,c_,e_⟩ := hsl_v115;subst e_;first|(go_simp;done)|(go_simp;rfl))|(go_simp;done)|(go_simp;rfl));intro w26 hw;have hg : w24.grownBy w26 (some go20) := (by rw [hw];exact HP25.2);have hp_ : Kd.N k43 43 w26 w.heap.size (fun k_ => (w.heap.size ≤ k_) ∧ k_ ≠ gb101) (.slice (some ⟨go20,0,none⟩) x4_1.length co21) y117 := (by rw [hw,Ny117.out];exact HP25.1);clear HP25;replace HI101 := Aside0.mk (IsS49.grown (ZS HI101) hg (IsS49.own_neN HI101.out HO_4.out (by decide)));replace HO_4 := Aside0.mk (hp_);replace HL113_1 := Aside0.mk (Kd.V_afterv (v := (.slice (some ⟨go20,0,none⟩) x4_1.length co21)) (v1 := (.slice (some ⟨go20,0,none⟩) x4_1.length co21)) (ok := (fun k_ => (w.heap.size ≤ k_) ∧ k_ ≠ gb101)) (ZKV HL113_1) hg (.inl rfl));replace HO116 := Aside0.mk (Kd.V_afterv (v := (.slice (some ⟨go20,0,none⟩) x4_1.length co21)) (v1 := (.slice (some ⟨go20,0,none⟩) x4_1.length co21)) (ok := (fun k_ => (w.heap.size ≤ k_) ∧ k_ ≠ gb101)) (ZKV ⟨Kd.V_mono HO116.out (fun _ hk => ⟨⟨hk.1,hk.2.2⟩,hk.2.1⟩)⟩) hg (.inl rfl));replace HB := Aside0.mk ((by rw [hw];exact below_set (HB.out) GB20.out : Below w.heap.size w w26));clear hg hw hp_))
     go_roundg kj4
     case measure => have := HK1.out;have := HJ4.out;omega
     case rel => exact ⟨(y117),(wrap64 (x5_1 + 1)),(t111),(t112),(by first|rfl|(simp;done)|(simp [*];done)),H',⟨by have := HK1.out;have := HJ4.out;omega⟩,⟨ZKN HO_4⟩,⟨ZS HI101⟩,⟨by repeat (first|(with_reducible first|exact HB.out|apply zbA|apply zbB|apply zbC|refine below_set ?_ (IsS49.ge HI101.out))|exact HB.out)⟩⟩
/-! ### impl_cycleFrom: function 44 -/
mutual
def impl_cycleFrom.f : Nat → List S43 → List Int → Int → Option (List Int)
 | 0,_,_,_ => none
 | k + 1,l,c,n => if 0 < c.length ∧ 0 ≤ wrap64 ((c.length : Int) - 1) ∧ wrap64 ((c.length : Int) - 1) < (c.length : Int) ∧ 0 ≤ rd c (wrap64 ((c.length : Int) - 1)) ∧ rd c (wrap64 ((c.length : Int) - 1)) < (l.length : Int) then (if (c.length : Int) = n then ((slices_Contains_int.f k (rd_T43 l (rd c (wrap64 ((c.length : Int) - 1)))).f1 (rd c 0)).bind fun b => if b = true then some c else some []) else impl_cycleFrom.l0 k l c n (rd_T43 l (rd c (wrap64 ((c.length : Int) - 1)))).f1 0) else none
def impl_cycleFrom.l0 : Nat → List S43 → List Int → Int → List Int → Int → Option (List Int)
 | 0,_,_,_,_,_ => none
 | k + 1,l,c,n,d,i => if i < (d.length : Int) then (if 0 ≤ i then (if rd d i < rd c 0 then impl_cycleFrom.l0 k l c n d (wrap64 (i + 1)) else ((slices_Contains_int.f k c (rd d i)).bind fun b => if b = true then impl_cycleFrom.l0 k l c n d (wrap64 (i + 1)) else ((slices_Clone_int.f c).bind fun c2 => if c2.length < 17592186044416 then ((impl_cycleFrom.f k l (c2 ++ [rd d i]) n).bind fun r => if r.length = 0 then impl_cycleFrom.l0 k l c n d (wrap64 (i + 1)) else some r) else none))) else none) else some []
end
theorem impl_cycleFrom.mono_l : ∀ k,(∀ y0 y1 y2,LeO (impl_cycleFrom.f k y0 y1 y2) (impl_cycleFrom.f (k + 1) y0 y1 y2)) ∧ (∀ y0 y1 y2 y3 y4,LeO (impl_cycleFrom.l0 k y0 y1 y2 y3 y4) (impl_cycleFrom.l0 (k + 1) y0 y1 y2 y3 y4))
 | 0 => ⟨fun _ _ _ r h => by simp [impl_cycleFrom.f] at h,fun _ _ _ _ _ r h => by simp [impl_cycleFrom.l0] at h⟩
 | k + 1 => by
  obtain ⟨ih0,ih1⟩ := impl_cycleFrom.mono_l k
  refine ⟨?_,?_⟩
  ·intro y0 y1 y2
   rw [impl_cycleFrom.f,impl_cycleFrom.f]
   with_reducible repeat' first|apply ih1|apply slices_Contains_int.mono|apply LeO.refl|refine LeO.ite ?_ ?_|refine LeO.bind ?_ (fun _ => ?_)
  intro y0 y1 y2 y3 y4
  rw [impl_cycleFrom.l0,impl_cycleFrom.l0]
  with_reducible repeat' first|apply ih0|apply ih1|apply slices_Contains_int.mono|apply LeO.refl|refine LeO.ite ?_ ?_|refine LeO.bind ?_ (fun _ => ?_)
theorem impl_cycleFrom.mono : ∀ a0 a1 a2 k,LeO (impl_cycleFrom.f k a0 a1 a2) (impl_cycleFrom.f (k + 1) a0 a1 a2) := fun a0 a1 a2 k => (impl_cycleFrom.mono_l k).1 a0 a1 a2
set_option maxHeartbeats 1000000
open Go.RowKit Go.Lib Go.Proofs.YtgnijnlgbelifaaW.PrintWords Go.Proofs.YtgnijnlgbelifaaW.PrintLast Go.Proofs.YtgnijnlgbelifaaW.PrintMore Go.Proofs.YtgnijnlgbelifaaW Go.Proofs.Ytgnijnlgbelifaa.Q Go.Proofs.YtgnijnlgbelifaaW.GCall
set_option maxHeartbeats 2000000 in
set_option maxRecDepth 100000 in
theorem impl_cycleFrom.calls (k : Nat) : ∀ (A0 : Option Addr) (c0 : Nat) (l0 : List S43) (P0_ : Nat → Prop) (u9000_ : Value) (l1 : List Int) (a2 : Int) (r : List Int) (w0 w : World) (hB : Below w0.heap.size w0 w) (hr0 : Kd.C k43 w A0 l0.length l0) (hc0 : l0.length ≤ c0) (ho0 : Kd.R (Kd.int .i64) 3 w w0.heap.size P0_ u9000_ l1) (h : impl_cycleFrom.f k l0 l1 a2 = some r),
  Calls Try.prog 44 #[.slice A0 l0.length c0,u9000_,.int .i64 a2] w fun e w' => ∃ v0_ : Value,e = .returned v0_ ∧ Kd.R (Kd.int .i64) 3 w' w0.heap.size (fun k_ => (P0_ k_ ∨ w.heap.size ≤ k_)) v0_ r ∧ (r = [] → v0_ = .slice none 0 0) ∧ Below w.heap.size w w' := by
 induction k using Nat.strongRecOn with
 | _ k ih =>
 intro A0 c0 l0 P0_ u9000_ l1 a2 r w0 w hB hr0 hc0 ho0 h
 cases k with
 | zero => exact absurd h (by simp [impl_cycleFrom.f])
 | succ k =>
 rw [impl_cycleFrom.f] at h
 obtain ⟨ji,hji⟩ : ∃ j_ : Int,(wrap64 ((l1.length : Int) - 1)) = j_ := ⟨_,rfl⟩
 have hjiw : (IntKind.i64.wrap ((l1.length : Int) - 1)) = ji := (i64_w _).trans hji
 rw [hji] at h
 by_cases g : 0 < l1.length ∧ 0 ≤ ji ∧ ji < (l1.length : Int) ∧ 0 ≤ rd l1 ji ∧ rd l1 ji < (l0.length : Int)
 case neg => rw [if_neg g] at h;cases h
 rw [if_pos g] at h
 obtain ⟨g1,p101,q101,p105,q105⟩ := g
 obtain ⟨A1,c1,rfl⟩ := Kd.R_slice ho0
 have hC1 := (Kd.R_reads' ho0).2.2
 have hL1 := (Kd.R_reads' ho0).2.1
 obtain ⟨ad101,e101,hx101_0⟩ := Kd.at_int hC1 ji p101 q101
 cases e101
 obtain ⟨ad105,A105_1,c105_1,e105,hx105_0,hx105_1,hx105_2,hl105_1,hi105_1⟩ := at_T43 hr0 (rd l1 ji) p105 q105
 cases e105
 obtain ⟨ad103,e103,hx103_0⟩ := Kd.at_int hC1 0 (by omega) (by omega)
 obtain rfl : ad101 = ad103 := (by injection e103)
 have qi103 : (0 < l1.length) = True := eq_true g1
 rw [show ((0 : Int)).toNat = 0 from rfl] at hx103_0
 (try rw [Addr.add_zero'] at hx103_0)
 have HO := Aside0.mk ho0
 have HBB := Aside0.mk hB
 have HR0 := Aside0.mk hr0
 have HC0 := Aside0.mk hc0
 have HC1 := Aside0.mk hC1
 have HL1 := Aside0.mk hL1
 have HR105 := Aside0.mk hi105_1
 have HC105 := Aside0.mk hl105_1
 have P1 := eq_true p101
 have Q1 := eq_true q101
 have P2 := eq_true p105
 have Q2 := eq_true q105
 have Q3 : ((0 : Int) < (l1.length : Int)) = True := eq_true (by omega)
 clear ho0 hB hr0 hc0 hC1 hL1 hi105_1 hl105_1 e103
 generalize hnd : (rd_T43 l0 (rd l1 ji)).f1 = nd at *
 by_cases c7 : (l1.length : Int) = a2
 ·rw [if_pos c7] at h
  have c7b0 : ((l1.length : Int) == a2) = true := beq_iff_eq.mpr c7
  have c7b1 : ((l1.length : Int) != a2) = false := bne_eq_false_iff_eq.mpr c7
  clear c7
  obtain ⟨b,A4,h⟩ := Option.bind_eq_some_iff.mp h
  have A4' := Aside0.mk A4
  clear A4
  cases b with
  | true =>
   rw [if_pos rfl] at h
   obtain rfl := Option.some.inj h
   go_enter Try.func44,Try.ntmps44
   go_wp2_with (go_at_call 26;refine (slices_Contains_int.calls k _ _ nd (rd l1 0) true _ HR105.out HC105.out A4'.out).mono ?_;rintro e w' ⟨rfl,⟨nd_,rfl⟩⟩)
   go_ret
   exact ⟨_,rfl,Kd.R_drewN (Kd.R_mono HO.out (fun k_ hk => .inl hk)) _,fun e => by subst e;exact absurd (of_eq_true qi103) (by simp),pw_below_drewN (Below.refl _ _) _⟩
  | false =>
   rw [if_neg (by decide)] at h
   obtain rfl := Option.some.inj h
   go_enter Try.func44,Try.ntmps44
   go_wp2_with (go_at_call 26;refine (slices_Contains_int.calls k _ _ nd (rd l1 0) false _ HR105.out HC105.out A4'.out).mono ?_;rintro e w' ⟨rfl,⟨nd_,rfl⟩⟩)
   go_ret
   exact ⟨_,rfl,Kd.R_nil _ _ _ _ _,fun _ => rfl,pw_below_drewN (Below.refl _ _) _⟩
 rw [if_neg c7] at h
 have c7b0 : ((l1.length : Int) == a2) = false := beq_eq_false_iff_ne.mpr c7
 have c7b1 : ((l1.length : Int) != a2) = true := bne_iff_ne.mpr c7
 have H' := Aside0.mk h
 have HB := Aside0.mk (Below.refl w.heap.size w)
 clear h c7
 go_enter Try.func44,Try.ntmps44
 go_wp2
 go_loopg [33] k (fun kq v33 w' => ∃ (x33_1 : Int),v33 = .int .i64 x33_1 ∧ Aside0 (impl_cycleFrom.l0 kq l0 l1 a2 nd x33_1 = some r) ∧ Aside0 (kq ≤ k) ∧ Aside0 (Below w.heap.size w w'))
 case atStart => exact ⟨0,rfl,H',⟨Nat.le_refl _⟩,HB⟩
 case round =>
  clear H' HB
  obtain ⟨x33,rfl,HA,HK1,HB⟩ := hrel
  cases gk with
  | zero => exact absurd HA.out (by simp [impl_cycleFrom.l0])
  | succ k1 =>
   have H := HA.out
   clear HA
   rw [impl_cycleFrom.l0] at H
   by_cases c6 : x33 < (nd.length : Int);rotate_left
   ·rw [if_neg c6] at H
    have d6 : decide (x33 < (nd.length : Int)) = false := decide_eq_false c6
    obtain rfl := Option.some.inj H
    go_wp2
    go_ret
    exact ⟨.slice none 0 0,rfl,Kd.R_nil _ _ _ _ _,by first|exact fun _ => rfl|rfl,HB.out⟩


   rw [if_pos c6] at H
   by_cases c8 : 0 ≤ x33
   case neg => rw [if_neg c8] at H;cases H
   rw [if_pos c8] at H
   have d6 : decide (x33 < (nd.length : Int)) = true := decide_eq_true c6
   have Q6 := eq_true c6
   have P6 := eq_true c8
   have hn_ := Kd.at_int (Kd.C_below HR105.out HB.out) x33 c8 c6
   obtain ⟨ad6,e6,hx6⟩ := hn_
   cases e6
   have hC0 := ZX HB hx103_0
   clear c6 c8
   by_cases c9 : rd nd x33 < rd l1 0
   ·rw [if_pos c9] at H
    have d9 := decide_eq_true c9
    have H' := Aside0.mk H
    clear H c9
    go_wp2
    go_roundg k1
    case measure => have := HK1.out;omega
    case rel => exact ⟨wrap64 (x33 + 1),(by first|rfl|(simp;done)|(simp [*];done)),H',⟨by have := HK1.out;omega⟩,HB⟩
   rw [if_neg c9] at H
   have d9 := decide_eq_false c9
   clear c9
   obtain ⟨b,A4,H⟩ := Option.bind_eq_some_iff.mp H
   have A5 := Aside0.mk A4
   clear A4
   cases b with
   | true =>
    rw [if_pos rfl] at H
    have H' := Aside0.mk H
    clear H
    go_wp2_with (go_at_call 26;refine (slices_Contains_int.calls k1 _ _ l1 (rd nd x33) true _ (Kd.C_below HC1.out HB.out) HL1.out A5.out).mono ?_;rintro e w' ⟨rfl,⟨nd_,rfl⟩⟩)
    go_roundg k1
    case measure => have := HK1.out;omega
    case rel => exact ⟨wrap64 (x33 + 1),(by first|rfl|(simp;done)|(simp [*];done)),H',⟨by have := HK1.out;omega⟩,⟨pw_below_drewN HB.out _⟩⟩
   | false =>
    rw [if_neg (by decide)] at H
    obtain ⟨c2,A6,H⟩ := Option.bind_eq_some_iff.mp H
    have A6' := Aside0.mk A6
    clear A6
    by_cases c12 : c2.length < 17592186044416
    case neg => rw [if_neg c12] at H;cases H
    rw [if_pos c12] at H
    have LM := Aside0.mk c12
    clear c12
    obtain ⟨t,A7,H⟩ := Option.bind_eq_some_iff.mp H
    have hqn := fun (w : World) => Go.run_neq_slice_nil_any (P := Try.prog) w 32 3 none 0 0 0 0 Try.underlying32
    have hqs := fun (w : World) (a : Addr) (n c : Nat) => Go.run_neq_slice_nil_any (P := Try.prog) w 32 3 (some a) n c 0 0 Try.underlying32
    by_cases ht : t.length = 0
    ·rw [if_pos ht] at H
     obtain rfl := List.eq_nil_of_length_eq_zero ht
     have A7' := Aside0.mk A7
     have H' := Aside0.mk H
     clear A7 H ht
     go_wp2_with (first
     | (go_at_call 26;refine (slices_Contains_int.calls k1 _ _ l1 (rd nd x33) false _ (Kd.C_below HC1.out HB.out) HL1.out A5.out).mono ?_;rintro e w' ⟨rfl,⟨nd_,rfl⟩⟩;replace HB := Aside0.mk (pw_below_drewN HB.out nd_))
     | (go_at_call 60;refine (slices_Clone_int.calls _ _ l1 c2 _ (Kd.C_below HC1.out (ZQ HB)) HL1.out A6'.out).mono ?_;rintro e w20 ⟨v20,rfl,ho,hb⟩;have HOC := Aside0.mk (Kd.R_lower (Kd.R_mono (Kd.R_bound ho) (fun k_ hk => (Nat.le_trans (below_size HB.out) hk.2.1 : w.heap.size ≤ k_))) (below_size HB.out));have n0_ := Aside0.mk (below_step HB.out hb);clear HB;have HB := n0_;clear n0_ hb ho)
     | ((with_reducible refine gate_builtin (b := .append) (xs := #[.tmp 49,.tmp 51]) rfl ?_);at_builtin;refine Kd.R_append (Kd.int .i64) (w0 := w) w.heap.size rfl (.tmp 49) (.tmp 51) 32 3 (.int .i64 0) 8 rfl Try.underlying32 info3 rfl (by decide) (by omega) v20 c2 (rd nd x33) [.int .i64 (rd nd x33)] (fun k_ => (w.heap.size ≤ k_)) (fun _ => False) rfl rfl ?aP (fun _ hk => hk.elim) ?aF ?aO ?aB ?aS ?aL ?_;(case aP => exact rfl);(case aB => exact HB.out);(case aF => exact (fun k_ hk => Nat.le_trans (below_size HB.out) hk));(case aO => exact HOC.out);(case aS => exact below_size HB.out);(case aL => have := LM.out;omega);intro v21 w21 ho hb hg hat;clear HOC HB;have HOC := Aside0.mk ho;have HB := Aside0.mk hb;clear ho hb hg hat)
     | (go_at_call 44;refine (ih k1 (by have := HK1.out;omega) _ _ l0 (fun k_ => w.heap.size ≤ k_) v21 (c2 ++ [rd nd x33]) a2 [] w _ HB.out (Kd.C_below HR0.out HB.out) HC0.out HOC.out A7'.out).mono ?_;rintro e w22 ⟨v22,rfl,ho,hnil,hb⟩;obtain rfl := hnil rfl;have n0_ := Aside0.mk (below_step HB.out hb);have HOR := Aside0.mk (Kd.R_mono (ok' := fun k_ => w.heap.size ≤ k_) ho (fun k_ hk => hk.elim id (fun h_ => Nat.le_trans (below_size HB.out) h_)));clear HB HOC;have HB := n0_;clear n0_ hb ho hnil))
     go_roundg k1
     case measure => have := HK1.out;omega
     case rel => exact ⟨wrap64 (x33 + 1),(by first|rfl|(simp;done)|(simp [*];done)),H',⟨by have := HK1.out;omega⟩,HB⟩
    rw [if_neg ht] at H
    obtain rfl := Option.some.inj H
    have A7' := Aside0.mk A7
    have HT := Aside0.mk ht
    clear A7 H ht
    go_wp2_with (first
    | (go_at_call 26;refine (slices_Contains_int.calls k1 _ _ l1 (rd nd x33) false _ (Kd.C_below HC1.out HB.out) HL1.out A5.out).mono ?_;rintro e w' ⟨rfl,⟨nd_,rfl⟩⟩;replace HB := Aside0.mk (pw_below_drewN HB.out nd_))
    | (go_at_call 60;refine (slices_Clone_int.calls _ _ l1 c2 _ (Kd.C_below HC1.out (ZQ HB)) HL1.out A6'.out).mono ?_;rintro e w20 ⟨v20,rfl,ho,hb⟩;have HOC := Aside0.mk (Kd.R_lower (Kd.R_mono (Kd.R_bound ho) (fun k_ hk => (Nat.le_trans (below_size HB.out) hk.2.1 : w.heap.size ≤ k_))) (below_size HB.out));have n0_ := Aside0.mk (below_step HB.out hb);clear HB;have HB := n0_;clear n0_ hb ho)
    | ((with_reducible refine gate_builtin (b := .append) (xs := #[.tmp 49,.tmp 51]) rfl ?_);at_builtin;refine Kd.R_append (Kd.int .i64) (w0 := w) w.heap.size rfl (.tmp 49) (.tmp 51) 32 3 (.int .i64 0) 8 rfl Try.underlying32 info3 rfl (by decide) (by omega) v20 c2 (rd nd x33) [.int .i64 (rd nd x33)] (fun k_ => (w.heap.size ≤ k_)) (fun _ => False) rfl rfl ?aP (fun _ hk => hk.elim) ?aF ?aO ?aB ?aS ?aL ?_;(case aP => exact rfl);(case aB => exact HB.out);(case aF => exact (fun k_ hk => Nat.le_trans (below_size HB.out) hk));(case aO => exact HOC.out);(case aS => exact below_size HB.out);(case aL => have := LM.out;omega);intro v21 w21 ho hb hg hat;clear HOC HB;have HOC := Aside0.mk ho;have HB := Aside0.mk hb;clear ho hb hg hat)
    | (go_at_call 44;refine (ih k1 (by have := HK1.out;omega) _ _ l0 (fun k_ => w.heap.size ≤ k_) v21 (c2 ++ [rd nd x33]) a2 t w _ HB.out (Kd.C_below HR0.out HB.out) HC0.out HOC.out A7'.out).mono ?_;rintro e w22 ⟨v22,rfl,ho,hnil,hb⟩;obtain ⟨g_,cap_,rfl,_⟩ := Kd.R_form ho (Nat.pos_of_ne_zero HT.out);have n0_ := Aside0.mk (below_step HB.out hb);have HOR := Aside0.mk (Kd.R_mono (ok' := fun k_ => w.heap.size ≤ k_) ho (fun k_ hk => hk.elim id (fun h_ => Nat.le_trans (below_size HB.out) h_)));clear HB HOC;have HB := n0_;clear n0_ hb ho hnil))
    go_ret
    exact ⟨_,rfl,Kd.R_lower (Kd.R_mono HOR.out (fun k_ hk => .inr hk)) (below_size HBB.out),fun e => absurd (by rw [e];rfl) HT.out,HB.out⟩
/-! ### impl_CycleOf: function 18 -/
mutual
def impl_CycleOf.l0 : Nat → List S43 → Int → Option (List Int × Bool)
 | 0,_,_ => none
 | k + 1,l,n => if n ≤ (l.length : Int) then impl_CycleOf.l1 k l n 0 else some ([],false)
def impl_CycleOf.l1 : Nat → List S43 → Int → Int → Option (List Int × Bool)
 | 0,_,_,_ => none
 | k + 1,l,n,i => if i < (l.length : Int) then ((impl_cycleFrom.f k l [i] n).bind fun r => if r.length = 0 then impl_CycleOf.l1 k l n (wrap64 (i + 1)) else some (r,true)) else impl_CycleOf.l0 k l (wrap64 (n + 1))
end
def impl_CycleOf.f (k : Nat) (l : List S43) : Option (List Int × Bool) := (impl_AreWords.f k l).bind fun b => if b = true then impl_CycleOf.l0 k l 2 else some ([],false)
theorem impl_CycleOf.mono_l : ∀ k,(∀ y0 y1,LeO (impl_CycleOf.l0 k y0 y1) (impl_CycleOf.l0 (k + 1) y0 y1)) ∧ (∀ y0 y1 y2,LeO (impl_CycleOf.l1 k y0 y1 y2) (impl_CycleOf.l1 (k + 1) y0 y1 y2))
 | 0 => ⟨fun _ _ r h => by simp [impl_CycleOf.l0] at h,fun _ _ _ r h => by simp [impl_CycleOf.l1] at h⟩
 | k + 1 => by
  obtain ⟨ih0,ih1⟩ := impl_CycleOf.mono_l k
  refine ⟨?_,?_⟩
  ·intro y0 y1
   rw [impl_CycleOf.l0,impl_CycleOf.l0]
   exact LeO.ite (ih1 _ _ _) (LeO.refl _)
  intro y0 y1 y2
  rw [impl_CycleOf.l1,impl_CycleOf.l1]
  exact LeO.ite (LeO.bind (impl_cycleFrom.mono _ _ _ _) (fun _ => LeO.ite (ih1 _ _ _) (LeO.refl _))) (ih0 _ _)
theorem impl_CycleOf.mono : ∀ a0 k,LeO (impl_CycleOf.f k a0) (impl_CycleOf.f (k + 1) a0) := by
 intro a0 k
 unfold impl_CycleOf.f
 exact LeO.bind (impl_AreWords.mono _ _) (fun _ => LeO.ite ((impl_CycleOf.mono_l k).1 _ _) (LeO.refl _))
set_option maxHeartbeats 1000000
open Go.RowKit Go.Lib Go.Proofs.YtgnijnlgbelifaaW.PrintWords Go.Proofs.YtgnijnlgbelifaaW.PrintLast Go.Proofs.YtgnijnlgbelifaaW.PrintMore Go.Proofs.YtgnijnlgbelifaaW Go.Proofs.Ytgnijnlgbelifaa.Q Go.Proofs.YtgnijnlgbelifaaW.GCall
set_option maxHeartbeats 2000000 in
set_option maxRecDepth 100000 in
theorem impl_CycleOf.calls (k : Nat) (A0 : Option Addr) (c0 : Nat) (l0 : List S43) (r1 : List Int) (r2 : Bool) (w : World) (hr0 : Kd.C k43 w A0 l0.length l0) (hc0 : l0.length ≤ c0) (h : impl_CycleOf.f k l0 = some (r1,r2)) :
  Calls Try.prog 18 #[.slice A0 l0.length c0] w fun e w' => ∃ v0_ : Value,e = .returned (.tuple #[v0_,.bool r2]) ∧ Kd.R (Kd.int .i64) 3 w' w.heap.size (fun _ => True) v0_ r1 ∧ Below w.heap.size w w' := by
 have HR0 := Aside0.mk hr0
 have HC0 := Aside0.mk hc0
 clear hr0 hc0
 have HB := Aside0.mk (Below.refl w.heap.size w)
 have hqn := fun (w : World) => Go.run_neq_slice_nil_any (P := Try.prog) w 32 3 none 0 0 0 0 Try.underlying32
 have hqs := fun (w : World) (a : Addr) (n c : Nat) => Go.run_neq_slice_nil_any (P := Try.prog) w 32 3 (some a) n c 0 0 Try.underlying32
 unfold impl_CycleOf.f at h
 obtain ⟨b,A3,h⟩ := Option.bind_eq_some_iff.mp h
 have A3' := Aside0.mk A3
 clear A3
 cases b with
 | false =>
  rw [if_neg (by decide)] at h
  simp only [Option.some.injEq,Prod.mk.injEq] at h
  obtain ⟨rfl,rfl⟩ := h
  go_enter Try.func18,Try.ntmps18
  go_wp2_with (go_at_call 14;refine (impl_AreWords.calls k _ _ l0 false _ HR0.out HC0.out A3'.out).mono ?_;rintro e w5 ⟨rfl,hb⟩;have n0_ := Aside0.mk (below_step HB.out hb);clear HB;have HB := n0_;clear n0_ hb)
  go_ret2
  exact ⟨.slice none 0 0,by first|rfl|(simp;done),Kd.R_nil _ _ _ _ _,HB.out⟩
 | true =>
  rw [if_pos rfl] at h
  have H' := Aside0.mk h
  clear h
  go_enter Try.func18,Try.ntmps18
  go_wp2_with (go_at_call 14;refine (impl_AreWords.calls k _ _ l0 true _ HR0.out HC0.out A3'.out).mono ?_;rintro e w5 ⟨rfl,hb⟩;have n0_ := Aside0.mk (below_step HB.out hb);clear HB;have HB := n0_;clear n0_ hb)
  go_loopg [4] k (fun kq v4 w' => ∃ (x4_1 : Int),v4 = .int .i64 x4_1 ∧ Aside0 (impl_CycleOf.l0 kq l0 x4_1 = some (r1,r2)) ∧ Aside0 (kq ≤ k) ∧ Aside0 (Below w.heap.size w w'))
  case atStart => exact ⟨2,rfl,H',⟨Nat.le_refl _⟩,HB⟩
  case round =>
   clear H' HB A3'
   obtain ⟨x4_1,rfl,HA,HK1,HB⟩ := hrel
   cases gk with
   | zero => exact absurd HA.out (by simp [impl_CycleOf.l0])
   | succ k1 =>
    have H := HA.out
    clear HA
    rw [impl_CycleOf.l0] at H
    by_cases c2 : x4_1 ≤ (l0.length : Int);rotate_left
    ·rw [if_neg c2] at H
     have c2b0 : decide (x4_1 ≤ (l0.length : Int)) = false := decide_eq_false c2
     clear c2
     simp only [Option.some.injEq,Prod.mk.injEq] at H
     obtain ⟨rfl,rfl⟩ := H
     go_wp2
     go_ret2
     exact ⟨.slice none 0 0,by first|rfl|(simp;done),Kd.R_nil _ _ _ _ _,HB.out⟩


    rw [if_pos c2] at H
    have c2b0 : decide (x4_1 ≤ (l0.length : Int)) = true := decide_eq_true c2
    clear c2
    have H' := Aside0.mk H
    clear H
    go_wp2
    go_loopg [18] k1 (fun kq v18 w' => ∃ (x18_2 : Int),v18 = .int .i64 x18_2 ∧ Aside0 (impl_CycleOf.l1 kq l0 x4_1 x18_2 = some (r1,r2)) ∧ Aside0 (kq ≤ k1) ∧ Aside0 (Below w.heap.size w w'))
    case atStart => exact ⟨0,(by first|rfl|(simp;done)|(simp [*];done)),H',⟨Nat.le_refl _⟩,HB⟩
    case round =>
     clear H' HB c2b0
     obtain ⟨x18_2,rfl,HA,HK2,HB⟩ := hrel
     cases gk with
     | zero => exact absurd HA.out (by simp [impl_CycleOf.l1])
     | succ k2 =>
      have H := HA.out
      clear HA
      rw [impl_CycleOf.l1] at H
      by_cases c3 : x18_2 < (l0.length : Int);rotate_left
      ·rw [if_neg c3] at H
       have c3b0 : decide (x18_2 < (l0.length : Int)) = false := decide_eq_false c3
       clear c3
       have H' := Aside0.mk H
       clear H
       go_wp2
       go_roundg k2
       case measure => have := HK1.out;have := HK2.out;omega
       case rel => exact ⟨wrap64 (x4_1 + 1),(by first|rfl|(simp;done)|(simp [*];done)),H',⟨by have := HK1.out;have := HK2.out;omega⟩,HB⟩
      rw [if_pos c3] at H
      have c3b0 : decide (x18_2 < (l0.length : Int)) = true := decide_eq_true c3
      clear c3
      obtain ⟨t,A7,H⟩ := Option.bind_eq_some_iff.mp H
      by_cases ht : t.length = 0
      ·rw [if_pos ht] at H
       obtain rfl := List.eq_nil_of_length_eq_zero ht
       have A7' := Aside0.mk A7
       have H' := Aside0.mk H
       clear A7 H ht
       go_wp2_with (first
      |((with_reducible refine gate_dst (N := 23) rfl ?_);refine Kd.R_lit (Kd.int .i64) _ 3 ?hg (N := 23) ?hd (xs := ([x18_2] : List Int)) (inner := [.int .i64 x18_2]) (ok := fun _ => True) (okp := fun _ => True) ?hr ?hp (fun _ hk => hk) trivial (Below.refl _ _) (Nat.le_refl _) (by simp) ?_;(case hd => rfl);(case hg => rfl);(case hr => first|(go_simp;done)|(go_simp;rfl));(case hp => exact (Reps.one (show Kd.M (Kd.int .i64) _ _ _ x18_2 [.int .i64 x18_2] from rfl) (Reps.none _ _)));intro v102 w6 ho7 hb hg_ hnew_;clear hg_ hnew_;have HOC := Aside0.mk (Kd.R_lower ho7 (below_size HB.out));have n1_ := Aside0.mk (below_step HB.out hb);clear HB;have HB := n1_;clear n1_ hb ho7)
       | (go_at_call 44;refine (impl_cycleFrom.calls k2 _ _ l0 (fun _ => True) v102 [x18_2] x4_1 [] w _ HB.out (Kd.C_below HR0.out HB.out) HC0.out HOC.out A7'.out).mono ?_;rintro e w22 ⟨v22,rfl,ho,hnil,hb⟩;obtain rfl := hnil rfl;have n0_ := Aside0.mk (below_step HB.out hb);clear HB HOC;have HB := n0_;clear n0_ hb ho hnil))
       go_roundg k2
       case measure => have := HK1.out;have := HK2.out;omega
       case rel => exact ⟨wrap64 (x18_2 + 1),(by first|rfl|(simp;done)|(simp [*];done)),H',⟨by have := HK2.out;omega⟩,HB⟩
      rw [if_neg ht] at H
      simp only [Option.some.injEq,Prod.mk.injEq] at H
      obtain ⟨rfl,rfl⟩ := H
      have A7' := Aside0.mk A7
      have HT := Aside0.mk ht
      clear A7 ht
      go_wp2_with (first
     |((with_reducible refine gate_dst (N := 23) rfl ?_);refine Kd.R_lit (Kd.int .i64) _ 3 ?hg (N := 23) ?hd (xs := ([x18_2] : List Int)) (inner := [.int .i64 x18_2]) (ok := fun _ => True) (okp := fun _ => True) ?hr ?hp (fun _ hk => hk) trivial (Below.refl _ _) (Nat.le_refl _) (by simp) ?_;(case hd => rfl);(case hg => rfl);(case hr => first|(go_simp;done)|(go_simp;rfl));(case hp => exact (Reps.one (show Kd.M (Kd.int .i64) _ _ _ x18_2 [.int .i64 x18_2] from rfl) (Reps.none _ _)));intro v102 w6 ho7 hb hg_ hnew_;clear hg_ hnew_;have HOC := Aside0.mk (Kd.R_lower ho7 (below_size HB.out));have n1_ := Aside0.mk (below_step HB.out hb);clear HB;have HB := n1_;clear n1_ hb ho7)
      | (go_at_call 44;refine (impl_cycleFrom.calls k2 _ _ l0 (fun _ => True) v102 [x18_2] x4_1 t w _ HB.out (Kd.C_below HR0.out HB.out) HC0.out HOC.out A7'.out).mono ?_;rintro e w22 ⟨v22,rfl,ho,hnil,hb⟩;obtain ⟨g_,cap_,rfl,_⟩ := Kd.R_form ho (Nat.pos_of_ne_zero HT.out);have HOR := Aside0.mk (Kd.R_mono (ok' := fun _ => True) ho (fun _ _ => trivial));have n0_ := Aside0.mk (below_step HB.out hb);clear HB HOC;have HB := n0_;clear n0_ hb ho hnil))
      go_ret2
      exact ⟨_,by first|rfl|(simp;done),HOR.out,HB.out⟩
end Go.Proofs.Ytgnijnlgbelifaa.Q
