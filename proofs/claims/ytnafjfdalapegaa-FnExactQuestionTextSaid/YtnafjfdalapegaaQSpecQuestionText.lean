-- Written for the seat Ytnafjfdalapegaa by a program of this session (wip/tool/gx.py) out of the translation. Lean checks it.
import Derived.Test.YtnafjfdalapegaaQ0
import Derived.Test.YtnafjfdalapegaaQBLawsSzIntS
import Derived.Test.YtnafjfdalapegaaQBSpecL1All
import Derived.Test.YtnafjfdalapegaaQSpecLeGood
import Derived.Test.YtnafjfdalapegaaWApart
import Derived.Test.YtnafjfdalapegaaWFoot
import Derived.Test.YtnafjfdalapegaaWKept
import Derived.Test.YtnafjfdalapegaaWShare
import Derived.Test.YtnafjfdalapegaaWN
import Derived.Test.YtnafjfdalapegaaWRepsOne
import Derived.Test.YtnafjfdalapegaaWGuard
namespace Go.Proofs.Ytnafjfdalapegaa.Q
open Go.RowKit Go.Proofs.YtnafjfdalapegaaW.PrintWords Go.Proofs.YtnafjfdalapegaaW.PrintLast Go.Proofs.YtnafjfdalapegaaW.PrintMore
attribute [local go_sem] max2_int min2_int max_two min_two max_three min_three max_four min_four   -- for this text's walks alone
set_option linter.unusedVariables false
set_option linter.unusedSimpArgs false

/-! ### spec_QuestionText: function 31 -/
mutual
def spec_QuestionText.j0 : Nat → List (S79) → Bool → Int → List Int → Option (ByteArray × Bool)
  | 0, _, _, _, _ => none
  | k + 1, x0, x25, x102000, x102001 => if x25 = true then (some ((⟨#[]⟩ : ByteArray), false)) else (spec_QuestionText.l0 k x0 (⟨#[]⟩ : ByteArray) x102001 (x102001.length : Int) 0 x102000 x102001)
def spec_QuestionText.l0 : Nat → List (S79) → ByteArray → List Int → Int → Int → Int → List Int → Option (ByteArray × Bool)
  | 0, _, _, _, _, _, _, _ => none
  | k + 1, x0, x6, x27, x28, x29, x102000, x102001 => if x29 < x28 then (if 0 ≤ x29 then (if x29 < (x27.length : Int) then (if x29 > 0 then (if x6.size + 1 ≤ 9223372036854775807 then (if (rd x27 x29) = x102000 then (if (x6 ++ (⟨#[32]⟩ : ByteArray)).size + 1 ≤ 9223372036854775807 then (if 0 ≤ (rd x27 x29) then (if (rd x27 x29) < (x0.length : Int) then (if ((x6 ++ (⟨#[32]⟩ : ByteArray)) ++ (⟨#[61]⟩ : ByteArray)).size + ((rd_T79 x0 (rd x27 x29)).f0).size ≤ 9223372036854775807 then (spec_QuestionText.l0 k x0 (((x6 ++ (⟨#[32]⟩ : ByteArray)) ++ (⟨#[61]⟩ : ByteArray)) ++ ((rd_T79 x0 (rd x27 x29)).f0)) x27 x28 (wrap64 (x29 + 1)) x102000 x102001) else (none)) else (none)) else (none)) else (none)) else (if 0 ≤ (rd x27 x29) then (if (rd x27 x29) < (x0.length : Int) then (if (x6 ++ (⟨#[32]⟩ : ByteArray)).size + ((rd_T79 x0 (rd x27 x29)).f0).size ≤ 9223372036854775807 then (spec_QuestionText.l0 k x0 ((x6 ++ (⟨#[32]⟩ : ByteArray)) ++ ((rd_T79 x0 (rd x27 x29)).f0)) x27 x28 (wrap64 (x29 + 1)) x102000 x102001) else (none)) else (none)) else (none))) else (none)) else (if (rd x27 x29) = x102000 then (if x6.size + 1 ≤ 9223372036854775807 then (if 0 ≤ (rd x27 x29) then (if (rd x27 x29) < (x0.length : Int) then (if (x6 ++ (⟨#[61]⟩ : ByteArray)).size + ((rd_T79 x0 (rd x27 x29)).f0).size ≤ 9223372036854775807 then (spec_QuestionText.l0 k x0 ((x6 ++ (⟨#[61]⟩ : ByteArray)) ++ ((rd_T79 x0 (rd x27 x29)).f0)) x27 x28 (wrap64 (x29 + 1)) x102000 x102001) else (none)) else (none)) else (none)) else (none)) else (if 0 ≤ (rd x27 x29) then (if (rd x27 x29) < (x0.length : Int) then (if x6.size + ((rd_T79 x0 (rd x27 x29)).f0).size ≤ 9223372036854775807 then (spec_QuestionText.l0 k x0 (x6 ++ ((rd_T79 x0 (rd x27 x29)).f0)) x27 x28 (wrap64 (x29 + 1)) x102000 x102001) else (none)) else (none)) else (none)))) else (none)) else (none)) else (some (x6, true))
end
def spec_QuestionText.f (k : Nat) (l0 : List (S79)) (a1_0 : Int) (l1_1 : List Int) : Option (ByteArray × Bool) := (spec_leGood.f k l0).bind fun t102 => (if t102 = true then ((spec_exQuestion.f k a1_0 l1_1).bind fun t103 => (if t103 = true then ((spec_l1All.f k l1_1 0 (wrap64 ((l0.length : Int) - 1))).bind fun t104 => (spec_QuestionText.j0 k l0 (!t104) a1_0 l1_1)) else (spec_QuestionText.j0 k l0 true a1_0 l1_1))) else (spec_QuestionText.j0 k l0 true a1_0 l1_1))
theorem spec_QuestionText.mono_l : ∀ k, (∀ y0 y1 y2 y3, LeO (spec_QuestionText.j0 k y0 y1 y2 y3) (spec_QuestionText.j0 (k + 1) y0 y1 y2 y3)) ∧ (∀ y0 y1 y2 y3 y4 y5 y6, LeO (spec_QuestionText.l0 k y0 y1 y2 y3 y4 y5 y6) (spec_QuestionText.l0 (k + 1) y0 y1 y2 y3 y4 y5 y6))
  | 0 => ⟨fun _ _ _ _ r h => by simp [spec_QuestionText.j0] at h, fun _ _ _ _ _ _ _ r h => by simp [spec_QuestionText.l0] at h⟩
  | k + 1 => by
    obtain ⟨ih0, ih1⟩ := spec_QuestionText.mono_l k
    refine ⟨?_, ?_⟩
    · intro y0 y1 y2 y3
      unfold spec_QuestionText.j0
      repeat' first
      | (with_reducible exact ih0 _ _ _ _)
      | (with_reducible exact ih1 _ _ _ _ _ _ _)
      | (with_reducible exact spec_exQuestion.mono _ _ _)
      | (with_reducible exact spec_l1All.mono _ _ _ _)
      | (with_reducible exact spec_leGood.mono _ _)
      | (with_reducible exact LeO.refl _)
      | (with_reducible exact LeO.none _)
      | (with_reducible refine LeO.ite ?_ ?_)
      | (with_reducible refine LeO.bind ?_ (fun _ => ?_))
      | exact ih0 _ _ _ _
      | exact ih1 _ _ _ _ _ _ _
      | exact spec_exQuestion.mono _ _ _
      | exact spec_l1All.mono _ _ _ _
      | exact spec_leGood.mono _ _
      | exact LeO.none _
      | refine LeO.ite ?_ ?_
      | refine LeO.bind ?_ (fun _ => ?_)
    · intro y0 y1 y2 y3 y4 y5 y6
      unfold spec_QuestionText.l0
      repeat' first
      | (with_reducible exact ih0 _ _ _ _)
      | (with_reducible exact ih1 _ _ _ _ _ _ _)
      | (with_reducible exact spec_exQuestion.mono _ _ _)
      | (with_reducible exact spec_l1All.mono _ _ _ _)
      | (with_reducible exact spec_leGood.mono _ _)
      | (with_reducible exact LeO.refl _)
      | (with_reducible exact LeO.none _)
      | (with_reducible refine LeO.ite ?_ ?_)
      | (with_reducible refine LeO.bind ?_ (fun _ => ?_))
      | exact ih0 _ _ _ _
      | exact ih1 _ _ _ _ _ _ _
      | exact spec_exQuestion.mono _ _ _
      | exact spec_l1All.mono _ _ _ _
      | exact spec_leGood.mono _ _
      | exact LeO.none _
      | refine LeO.ite ?_ ?_
      | refine LeO.bind ?_ (fun _ => ?_)
theorem spec_QuestionText.mono : ∀ a0 a1 a2 k, LeO (spec_QuestionText.f k a0 a1 a2) (spec_QuestionText.f (k + 1) a0 a1 a2) := by
  intro a0 a1 a2 k
  obtain ⟨ih0, ih1⟩ := spec_QuestionText.mono_l k
  unfold spec_QuestionText.f
  repeat' first
      | (with_reducible exact ih0 _ _ _ _)
      | (with_reducible exact ih1 _ _ _ _ _ _ _)
      | (with_reducible exact spec_exQuestion.mono _ _ _)
      | (with_reducible exact spec_l1All.mono _ _ _ _)
      | (with_reducible exact spec_leGood.mono _ _)
      | (with_reducible exact LeO.refl _)
      | (with_reducible exact LeO.none _)
      | (with_reducible refine LeO.ite ?_ ?_)
      | (with_reducible refine LeO.bind ?_ (fun _ => ?_))
      | exact ih0 _ _ _ _
      | exact ih1 _ _ _ _ _ _ _
      | exact spec_exQuestion.mono _ _ _
      | exact spec_l1All.mono _ _ _ _
      | exact spec_leGood.mono _ _
      | exact LeO.none _
      | refine LeO.ite ?_ ?_
      | refine LeO.bind ?_ (fun _ => ?_)
set_option maxHeartbeats 3000000 in
set_option maxRecDepth 100000 in
theorem spec_QuestionText.calls (k : Nat) (A0 : Option Addr) (c0 : Nat) (l0 : List (S79)) (a1_0 : Int) (A1_1 : Option Addr) (c1_1 : Nat) (l1_1 : List Int) (r1 : ByteArray) (r2 : Bool) (w : World) (hr0 : Kd.C k79 w A0 l0.length l0) (hc0 : l0.length ≤ c0) (hr1_1 : Kd.C (Kd.int .i64) w A1_1 l1_1.length l1_1) (hc1_1 : l1_1.length ≤ c1_1) (h : spec_QuestionText.f k l0 a1_0 l1_1 = some (r1, r2)) :
    Calls Try.prog 31 #[.slice A0 l0.length c0, .agg #[.int .i64 a1_0, .slice A1_1 l1_1.length c1_1]] w fun e w' => e = .returned (.tuple #[.string r1, .bool r2]) ∧ Below w.heap.size w w' := by
  have hu28 := Try.underlying28
  have HR0 := Aside0.mk hr0
  have HC0 := Aside0.mk hc0
  clear hr0 hc0
  have HR1_1 := Aside0.mk hr1_1
  have HC1_1 := Aside0.mk hc1_1
  clear hr1_1 hc1_1
  have HB := Aside0.mk (Below.refl w.heap.size w)
  have H : ((spec_leGood.f k l0).bind fun t102 => (if t102 = true then ((spec_exQuestion.f k a1_0 l1_1).bind fun t103 => (if t103 = true then ((spec_l1All.f k l1_1 0 (wrap64 ((l0.length : Int) - 1))).bind fun t104 => (spec_QuestionText.j0 k l0 (!t104) a1_0 l1_1)) else (spec_QuestionText.j0 k l0 true a1_0 l1_1))) else (spec_QuestionText.j0 k l0 true a1_0 l1_1))) = some (r1, r2) := h
  clear h
  have HC3 := Aside0.mk H
  clear H
  go_enter Try.func31, Try.ntmps31
  go_upto_region 1 with (first | ((with_reducible refine gate_dst (N := 3) rfl ?_); (try (refine gate_guard (by rfl) ?_; dsimp only)); refine box_event ?hg (N := 3) ?hd (cs := #[.int .i64 a1_0, .slice A1_1 l1_1.length c1_1]) (t := 28) ?hr ?_; (case hd => rfl); (case hg => rfl); (case hr => first | (go_simp; done) | (go_simp; rfl)); intro gb101 hg w4 hbox hb; have n0_ := Aside0.mk (below_step (by repeat (first | (with_reducible first | exact HB.out | apply below_alloc | apply pw_below_drewN | apply below_drew1) | exact HB.out)) hb); have n1_ := Aside0.mk (hbox); have n2_ := Aside0.mk ((by rw [hg]; exact (below_size (by repeat (first | (with_reducible first | exact HB.out | apply below_alloc | apply pw_below_drewN | apply below_drew1) | exact HB.out))) : w.heap.size ≤ gb101)); have n3_ := Aside0.mk ((by rw [hg]; exact (below_size (by repeat (first | (with_reducible first | exact HB.out | apply below_alloc | apply pw_below_drewN | apply below_drew1) | exact HB.out))) : w.heap.size ≤ gb101)); clear HB; have HB := n0_; have BK101 := n1_; have GW101 := n2_; have GE101 := n3_; clear n0_ n1_ n2_ n3_; clear hb hbox hg))
  (try simp only [Act.put, List.setIfInBounds_toArray, List.set_cons_zero, List.set_cons_succ])
  go_cut [25] (fun v25 wc => ∃ (kq : Nat) (x25_2 : Bool), v25 = .bool x25_2 ∧ Aside0 (spec_QuestionText.j0 kq l0 x25_2 a1_0 l1_1 = some (r1, r2)) ∧ Aside0 (kq ≤ k) ∧ Aside0 (wc.heap[gb101]? = some (.cells #[.int .i64 a1_0, (.slice A1_1 l1_1.length c1_1)] 28 (0, 0))) ∧ Aside0 (Below w.heap.size w wc))
  case first =>
    have H := HC3.out
    clear HC3
    replace H := Option.bind_eq_some_iff.mp H
    obtain ⟨t102, A50, H⟩ := H
    replace H : (if t102 = true then ((spec_exQuestion.f k a1_0 l1_1).bind fun t103 => (if t103 = true then ((spec_l1All.f k l1_1 0 (wrap64 ((l0.length : Int) - 1))).bind fun t104 => (spec_QuestionText.j0 k l0 (!t104) a1_0 l1_1)) else (spec_QuestionText.j0 k l0 true a1_0 l1_1))) else (spec_QuestionText.j0 k l0 true a1_0 l1_1)) = some (r1, r2) := H
    have A5 := Aside0.mk A50
    clear A50
    by_cases c6 : t102 = true
    · subst c6
      have H1 : ((spec_exQuestion.f k a1_0 l1_1).bind fun t103 => (if t103 = true then ((spec_l1All.f k l1_1 0 (wrap64 ((l0.length : Int) - 1))).bind fun t104 => (spec_QuestionText.j0 k l0 (!t104) a1_0 l1_1)) else (spec_QuestionText.j0 k l0 true a1_0 l1_1))) = some (r1, r2) := by rw [if_pos rfl] at H; exact H
      clear H
      have H := H1
      clear H1
      replace H := Option.bind_eq_some_iff.mp H
      obtain ⟨t103, A70, H⟩ := H
      replace H : (if t103 = true then ((spec_l1All.f k l1_1 0 (wrap64 ((l0.length : Int) - 1))).bind fun t104 => (spec_QuestionText.j0 k l0 (!t104) a1_0 l1_1)) else (spec_QuestionText.j0 k l0 true a1_0 l1_1)) = some (r1, r2) := H
      have A7 := Aside0.mk A70
      clear A70
      by_cases c8 : t103 = true
      · subst c8
        have H1 : ((spec_l1All.f k l1_1 0 (wrap64 ((l0.length : Int) - 1))).bind fun t104 => (spec_QuestionText.j0 k l0 (!t104) a1_0 l1_1)) = some (r1, r2) := by rw [if_pos rfl] at H; exact H
        clear H
        have H := H1
        clear H1
        replace H := Option.bind_eq_some_iff.mp H
        obtain ⟨t104, A90, H⟩ := H
        replace H : (spec_QuestionText.j0 k l0 (!t104) a1_0 l1_1) = some (r1, r2) := H
        have A9 := Aside0.mk A90
        clear A90
        have H' := Aside0.mk H
        clear H
        go_wp2_with (first | ((with_reducible refine gate_callee (f := 56) rfl ?_); refine goesL_ (some 10) rfl rfl Try.func56 (by kernel_rfl) rfl #[.slice A0 l0.length c0] rfl (by (try simp only [List.map_toArray, List.map_cons, List.map_nil]); first | done | rfl | (simp only [List.length_drop, List.length_take]; rfl)) ?_; (with_reducible refine (spec_leGood.calls k _ _ l0 true _ ?side1 ?side2 A5.out).mono ?_); (case side1 => repeat (first | exact (Kd.C_below HR0.out HB.out) | (with_reducible refine Kd.C_alloc ?_ _) | (with_reducible refine Kd.C_drewN ?_ _) | (with_reducible refine Kd.C_drew ?_))); (case side2 => exact HC0.out); rintro e w10 ⟨rfl, hb⟩; refine ⟨_, rfl, ?_⟩; have n0_ := Aside0.mk (blk_below (g := gb101) (o := .cells #[.int .i64 a1_0, .slice A1_1 l1_1.length c1_1] 28 (0, 0)) (by (with_reducible repeat (first | refine blk_drewN ?_ _ | refine blk_drew ?_ | refine blk_alloc ?_ _)); exact BK101.out) hb); have n1_ := Aside0.mk (below_step (by repeat (first | (with_reducible first | exact HB.out | apply below_alloc | apply pw_below_drewN | apply below_drew1 | refine below_set ?_ GE101.out) | exact HB.out)) hb); clear BK101; clear HB; have BK101 := n0_; have HB := n1_; clear n0_ n1_; (try clear hb); (try clear hb2); (try clear hk); (try clear hi); have hcz11_0 : w10.cell? ⟨gb101, 0, none⟩ = some (.int .i64 a1_0) := (blk_cell BK101.out 0).trans rfl; have hcz11_1 : w10.cell? ⟨gb101, 1, none⟩ = some (.slice A1_1 l1_1.length c1_1) := (blk_cell BK101.out 1).trans rfl; have hfz11_0 := blk_frozen BK101.out 0; have hfz11_1 := blk_frozen BK101.out 1) | (go_at_call 43; (with_reducible refine (spec_exQuestion.calls k a1_0 _ _ l1_1 true _ ?side1 ?side2 A7.out).mono ?_); (case side1 => repeat (first | exact (Kd.C_below HR1_1.out HB.out) | (with_reducible refine Kd.C_alloc ?_ _) | (with_reducible refine Kd.C_drewN ?_ _) | (with_reducible refine Kd.C_drew ?_))); (case side2 => exact HC1_1.out); rintro e w12 ⟨rfl, hb⟩; have n0_ := Aside0.mk (blk_below (g := gb101) (o := .cells #[.int .i64 a1_0, .slice A1_1 l1_1.length c1_1] 28 (0, 0)) (by (with_reducible repeat (first | refine blk_drewN ?_ _ | refine blk_drew ?_ | refine blk_alloc ?_ _)); exact BK101.out) hb); have n1_ := Aside0.mk (below_step (by repeat (first | (with_reducible first | exact HB.out | apply below_alloc | apply pw_below_drewN | apply below_drew1 | refine below_set ?_ GE101.out) | exact HB.out)) hb); clear BK101; clear HB; have BK101 := n0_; have HB := n1_; clear n0_ n1_; (try clear hb); (try clear hb2); (try clear hk); (try clear hi); have hcz13_0 : w12.cell? ⟨gb101, 0, none⟩ = some (.int .i64 a1_0) := (blk_cell BK101.out 0).trans rfl; have hcz13_1 : w12.cell? ⟨gb101, 1, none⟩ = some (.slice A1_1 l1_1.length c1_1) := (blk_cell BK101.out 1).trans rfl; have hfz13_0 := blk_frozen BK101.out 0; have hfz13_1 := blk_frozen BK101.out 1) | (go_at_call 57; (with_reducible refine (spec_l1All.calls k _ _ l1_1 0 (wrap64 ((l0.length : Int) - 1)) t104 _ ?side1 ?side2 A9.out).mono ?_); (case side1 => repeat (first | exact (Kd.C_below HR1_1.out HB.out) | (with_reducible refine Kd.C_alloc ?_ _) | (with_reducible refine Kd.C_drewN ?_ _) | (with_reducible refine Kd.C_drew ?_))); (case side2 => exact HC1_1.out); rintro e w' ⟨rfl, ⟨nd, rfl⟩⟩))
        go_meet
        case rel => exact ⟨_, (!t104), (by first | rfl | (simp; done) | (simp [*]; done)), H', ⟨by first | omega | exact Nat.le_refl _⟩, ⟨by (with_reducible repeat (first | refine blk_drewN ?_ _ | refine blk_drew ?_ | refine blk_alloc ?_ _)); exact BK101.out⟩, ⟨by repeat (first | (with_reducible first | exact HB.out | apply below_alloc | apply pw_below_drewN | apply below_drew1 | refine below_set ?_ GE101.out) | exact HB.out)⟩⟩
      · replace c8 := Bool.eq_false_iff.mpr c8
        subst c8
        have H1 : (spec_QuestionText.j0 k l0 true a1_0 l1_1) = some (r1, r2) := by rw [if_neg (show ¬ (false = true) by decide)] at H; exact H
        clear H
        have H := H1
        clear H1
        have H' := Aside0.mk H
        clear H
        go_wp2_with (first | ((with_reducible refine gate_callee (f := 56) rfl ?_); refine goesL_ (some 10) rfl rfl Try.func56 (by kernel_rfl) rfl #[.slice A0 l0.length c0] rfl (by (try simp only [List.map_toArray, List.map_cons, List.map_nil]); first | done | rfl | (simp only [List.length_drop, List.length_take]; rfl)) ?_; (with_reducible refine (spec_leGood.calls k _ _ l0 true _ ?side1 ?side2 A5.out).mono ?_); (case side1 => repeat (first | exact (Kd.C_below HR0.out HB.out) | (with_reducible refine Kd.C_alloc ?_ _) | (with_reducible refine Kd.C_drewN ?_ _) | (with_reducible refine Kd.C_drew ?_))); (case side2 => exact HC0.out); rintro e w14 ⟨rfl, hb⟩; refine ⟨_, rfl, ?_⟩; have n0_ := Aside0.mk (blk_below (g := gb101) (o := .cells #[.int .i64 a1_0, .slice A1_1 l1_1.length c1_1] 28 (0, 0)) (by (with_reducible repeat (first | refine blk_drewN ?_ _ | refine blk_drew ?_ | refine blk_alloc ?_ _)); exact BK101.out) hb); have n1_ := Aside0.mk (below_step (by repeat (first | (with_reducible first | exact HB.out | apply below_alloc | apply pw_below_drewN | apply below_drew1 | refine below_set ?_ GE101.out) | exact HB.out)) hb); clear BK101; clear HB; have BK101 := n0_; have HB := n1_; clear n0_ n1_; (try clear hb); (try clear hb2); (try clear hk); (try clear hi); have hcz15_0 : w14.cell? ⟨gb101, 0, none⟩ = some (.int .i64 a1_0) := (blk_cell BK101.out 0).trans rfl; have hcz15_1 : w14.cell? ⟨gb101, 1, none⟩ = some (.slice A1_1 l1_1.length c1_1) := (blk_cell BK101.out 1).trans rfl; have hfz15_0 := blk_frozen BK101.out 0; have hfz15_1 := blk_frozen BK101.out 1) | (go_at_call 43; (with_reducible refine (spec_exQuestion.calls k a1_0 _ _ l1_1 false _ ?side1 ?side2 A7.out).mono ?_); (case side1 => repeat (first | exact (Kd.C_below HR1_1.out HB.out) | (with_reducible refine Kd.C_alloc ?_ _) | (with_reducible refine Kd.C_drewN ?_ _) | (with_reducible refine Kd.C_drew ?_))); (case side2 => exact HC1_1.out); rintro e w16 ⟨rfl, hb⟩; have n0_ := Aside0.mk (blk_below (g := gb101) (o := .cells #[.int .i64 a1_0, .slice A1_1 l1_1.length c1_1] 28 (0, 0)) (by (with_reducible repeat (first | refine blk_drewN ?_ _ | refine blk_drew ?_ | refine blk_alloc ?_ _)); exact BK101.out) hb); have n1_ := Aside0.mk (below_step (by repeat (first | (with_reducible first | exact HB.out | apply below_alloc | apply pw_below_drewN | apply below_drew1 | refine below_set ?_ GE101.out) | exact HB.out)) hb); clear BK101; clear HB; have BK101 := n0_; have HB := n1_; clear n0_ n1_; (try clear hb); (try clear hb2); (try clear hk); (try clear hi)))
        go_meet
        case rel => exact ⟨_, (true), (by first | rfl | (simp; done) | (simp [*]; done)), H', ⟨by first | omega | exact Nat.le_refl _⟩, ⟨by (with_reducible repeat (first | refine blk_drewN ?_ _ | refine blk_drew ?_ | refine blk_alloc ?_ _)); exact BK101.out⟩, ⟨by repeat (first | (with_reducible first | exact HB.out | apply below_alloc | apply pw_below_drewN | apply below_drew1 | refine below_set ?_ GE101.out) | exact HB.out)⟩⟩
    · replace c6 := Bool.eq_false_iff.mpr c6
      subst c6
      have H1 : (spec_QuestionText.j0 k l0 true a1_0 l1_1) = some (r1, r2) := by rw [if_neg (show ¬ (false = true) by decide)] at H; exact H
      clear H
      have H := H1
      clear H1
      have H' := Aside0.mk H
      clear H
      go_wp2_with (first | ((with_reducible refine gate_callee (f := 56) rfl ?_); refine goesL_ (some 10) rfl rfl Try.func56 (by kernel_rfl) rfl #[.slice A0 l0.length c0] rfl (by (try simp only [List.map_toArray, List.map_cons, List.map_nil]); first | done | rfl | (simp only [List.length_drop, List.length_take]; rfl)) ?_; (with_reducible refine (spec_leGood.calls k _ _ l0 false _ ?side1 ?side2 A5.out).mono ?_); (case side1 => repeat (first | exact (Kd.C_below HR0.out HB.out) | (with_reducible refine Kd.C_alloc ?_ _) | (with_reducible refine Kd.C_drewN ?_ _) | (with_reducible refine Kd.C_drew ?_))); (case side2 => exact HC0.out); rintro e w17 ⟨rfl, hb⟩; refine ⟨_, rfl, ?_⟩; have n0_ := Aside0.mk (blk_below (g := gb101) (o := .cells #[.int .i64 a1_0, .slice A1_1 l1_1.length c1_1] 28 (0, 0)) (by (with_reducible repeat (first | refine blk_drewN ?_ _ | refine blk_drew ?_ | refine blk_alloc ?_ _)); exact BK101.out) hb); have n1_ := Aside0.mk (below_step (by repeat (first | (with_reducible first | exact HB.out | apply below_alloc | apply pw_below_drewN | apply below_drew1 | refine below_set ?_ GE101.out) | exact HB.out)) hb); clear BK101; clear HB; have BK101 := n0_; have HB := n1_; clear n0_ n1_; (try clear hb); (try clear hb2); (try clear hk); (try clear hi)))
      go_meet
      case rel => exact ⟨_, (true), (by first | rfl | (simp; done) | (simp [*]; done)), H', ⟨by first | omega | exact Nat.le_refl _⟩, ⟨by (with_reducible repeat (first | refine blk_drewN ?_ _ | refine blk_drew ?_ | refine blk_alloc ?_ _)); exact BK101.out⟩, ⟨by repeat (first | (with_reducible first | exact HB.out | apply below_alloc | apply pw_below_drewN | apply below_drew1 | refine below_set ?_ GE101.out) | exact HB.out)⟩⟩
  case rest =>
    clear HC3
    try clear c1
    try clear p2
    try clear c3
    try clear c5
    try clear c6
    try clear p6
    try clear c8
    try clear hcz11_0
    try clear hcz11_1
    try clear hcz13_0
    try clear hcz13_1
    try clear hcz15_0
    try clear hcz15_1
    try clear hfz11_0
    try clear hfz11_1
    try clear hfz13_0
    try clear hfz13_1
    try clear hfz15_0
    try clear hfz15_1
    obtain ⟨kq, x25_2, rfl, HA, HJ2, BK101, HB⟩ := hcut
    cases kq with
    | zero => exact absurd HA.out (by simp [spec_QuestionText.j0])
    | succ kj2 =>
      have H := HA.out
      clear HA
      simp only [spec_QuestionText.j0] at H
      by_cases c18 : x25_2 = true
      · subst c18
        have H1 : (some ((⟨#[]⟩ : ByteArray), false)) = some (r1, r2) := by rw [if_pos rfl] at H; exact H
        clear H
        have H := H1
        clear H1
        simp only [Option.some.injEq, Prod.mk.injEq] at H
        obtain ⟨rfl, rfl⟩ := H
        go_wp2
        go_ret2
        exact ⟨by first | rfl | (simp [errW_none, errW_some] <;> rfl) | (simp [*, errW_none, errW_some] <;> rfl), by repeat (first | (with_reducible first | exact HB.out | apply below_alloc | apply pw_below_drewN | apply below_drew1 | refine below_set ?_ GE101.out) | exact HB.out)⟩
      · replace c18 := Bool.eq_false_iff.mpr c18
        subst c18
        have H1 : (spec_QuestionText.l0 kj2 l0 (⟨#[]⟩ : ByteArray) l1_1 (l1_1.length : Int) 0 a1_0 l1_1) = some (r1, r2) := by rw [if_neg (show ¬ (false = true) by decide)] at H; exact H
        clear H
        have H := H1
        clear H1
        have H' := Aside0.mk H
        clear H
        have hcz19_0 : wc.cell? ⟨gb101, 0, none⟩ = some (.int .i64 a1_0) := (blk_cell BK101.out 0).trans rfl
        have hcz19_1 : wc.cell? ⟨gb101, 1, none⟩ = some (.slice A1_1 l1_1.length c1_1) := (blk_cell BK101.out 1).trans rfl
        have hfz19_0 := blk_frozen BK101.out 0
        have hfz19_1 := blk_frozen BK101.out 1
        go_wp2
        go_loopg [6, 29] kj2 (fun kq v6 v29 w' => ∃ (x6_2 : ByteArray) (x29_2 : Int), v6 = .string x6_2 ∧ v29 = .int .i64 x29_2 ∧ Aside0 (spec_QuestionText.l0 kq l0 x6_2 l1_1 (l1_1.length : Int) x29_2 a1_0 l1_1 = some (r1, r2)) ∧ Aside0 (kq ≤ kj2) ∧ Aside0 (w'.heap[gb101]? = some (.cells #[.int .i64 a1_0, (.slice A1_1 l1_1.length c1_1)] 28 (0, 0))) ∧ Aside0 (Below w.heap.size w w'))
        case atStart => exact ⟨((⟨#[]⟩ : ByteArray)), (0), (by first | rfl | (simp; done) | (simp [*]; done)), (by first | rfl | (simp; done) | (simp [*]; done)), H', ⟨Nat.le_refl _⟩, ⟨by (with_reducible repeat (first | refine blk_drewN ?_ _ | refine blk_drew ?_ | refine blk_alloc ?_ _)); exact BK101.out⟩, ⟨by repeat (first | (with_reducible first | exact HB.out | apply below_alloc | apply pw_below_drewN | apply below_drew1 | refine below_set ?_ GE101.out) | exact HB.out)⟩⟩
        case round =>
          clear H'
          try clear c1
          try clear p2
          try clear c3
          try clear c5
          try clear c6
          try clear p6
          try clear c8
          try clear c18
          try clear hcz11_0
          try clear hcz11_1
          try clear hcz13_0
          try clear hcz13_1
          try clear hcz15_0
          try clear hcz15_1
          try clear hcz19_0
          try clear hcz19_1
          try clear hfz11_0
          try clear hfz11_1
          try clear hfz13_0
          try clear hfz13_1
          try clear hfz15_0
          try clear hfz15_1
          try clear hfz19_0
          try clear hfz19_1
          try clear p2
          try clear p6
          obtain ⟨x6_2, x29_2, rfl, rfl, HA, HK2, BK101, HB⟩ := hrel
          cases gk with
          | zero => exact absurd HA.out (by simp [spec_QuestionText.l0])
          | succ k2 =>
            have H := HA.out
            clear HA
            simp only [spec_QuestionText.l0] at H
            by_cases c20 : x29_2 < (l1_1.length : Int)
            · rw [if_pos c20] at H
              have c20b0 : decide (x29_2 < (l1_1.length : Int)) = true := decide_eq_true c20
              clear c20
              by_cases c21 : 0 ≤ x29_2
              · rw [if_pos c21] at H
                have c21b0 : decide (0 ≤ x29_2) = true := decide_eq_true c21
                clear c21
                by_cases c22 : x29_2 < (l1_1.length : Int)
                · rw [if_pos c22] at H
                  have c22b0 : decide (x29_2 < (l1_1.length : Int)) = true := decide_eq_true c22
                  clear c22
                  by_cases c23 : x29_2 > 0
                  · rw [if_pos c23] at H
                    have c23b0 : decide (0 < x29_2) = true := decide_eq_true c23
                    clear c23
                    by_cases c24 : x6_2.size + 1 ≤ 9223372036854775807
                    · rw [if_pos c24] at H
                      have c24b0 := eq_true c24
                      have c24b1 : decide (x6_2.size + 1 ≤ 9223372036854775807) = true := decide_eq_true c24
                      try have c24b2 : (9223372036854775807 < x6_2.size + 1) = False := eq_false (Nat.not_lt.2 c24)
                      by_cases c25 : (rd l1_1 x29_2) = a1_0
                      · rw [if_pos c25] at H
                        have c25b0 : ((rd l1_1 x29_2) == a1_0) = true := beq_iff_eq.mpr c25
                        have c25b1 : ((rd l1_1 x29_2) != a1_0) = false := bne_eq_false_iff_eq.mpr c25
                        clear c25
                        by_cases c26 : (x6_2 ++ (⟨#[32]⟩ : ByteArray)).size + 1 ≤ 9223372036854775807
                        · rw [if_pos c26] at H
                          have c26b0 := eq_true c26
                          have c26b1 : decide ((x6_2 ++ (⟨#[32]⟩ : ByteArray)).size + 1 ≤ 9223372036854775807) = true := decide_eq_true c26
                          try (have zc26_0 : (x6_2.size + 1 + 1 ≤ 9223372036854775807) = True := (by have zq_ := of_eq_true c26b0; simp only [ByteArray.size_append] at zq_; have zl0_ : (⟨#[32]⟩ : ByteArray).size = 1 := rfl; refine eq_true ?_; omega))
                          try (have zc26_1 : (9223372036854775807 < x6_2.size + 1 + 1) = False := (by have zq_ := of_eq_true c26b0; simp only [ByteArray.size_append] at zq_; have zl0_ : (⟨#[32]⟩ : ByteArray).size = 1 := rfl; refine eq_false ?_; omega))
                          try (have zc26_2 : (x6_2.size + 2 ≤ 9223372036854775807) = True := (by have zq_ := of_eq_true c26b0; simp only [ByteArray.size_append] at zq_; have zl0_ : (⟨#[32]⟩ : ByteArray).size = 1 := rfl; refine eq_true ?_; omega))
                          try (have zc26_3 : (9223372036854775807 < x6_2.size + 2) = False := (by have zq_ := of_eq_true c26b0; simp only [ByteArray.size_append] at zq_; have zl0_ : (⟨#[32]⟩ : ByteArray).size = 1 := rfl; refine eq_false ?_; omega))
                          try (have zc26_4 : (x6_2.size ≤ 9223372036854775805) = True := (by have zq_ := of_eq_true c26b0; simp only [ByteArray.size_append] at zq_; have zl0_ : (⟨#[32]⟩ : ByteArray).size = 1 := rfl; refine eq_true ?_; omega))
                          try (have zc26_5 : (9223372036854775805 < x6_2.size) = False := (by have zq_ := of_eq_true c26b0; simp only [ByteArray.size_append] at zq_; have zl0_ : (⟨#[32]⟩ : ByteArray).size = 1 := rfl; refine eq_false ?_; omega))
                          try have c26b2 : (9223372036854775807 < (x6_2 ++ (⟨#[32]⟩ : ByteArray)).size + 1) = False := eq_false (Nat.not_lt.2 c26)
                          by_cases c27 : 0 ≤ (rd l1_1 x29_2)
                          · rw [if_pos c27] at H
                            have c27b0 : decide (0 ≤ (rd l1_1 x29_2)) = true := decide_eq_true c27
                            clear c27
                            by_cases c28 : (rd l1_1 x29_2) < (l0.length : Int)
                            · rw [if_pos c28] at H
                              have c28b0 : decide ((rd l1_1 x29_2) < (l0.length : Int)) = true := decide_eq_true c28
                              clear c28
                              by_cases c29 : ((x6_2 ++ (⟨#[32]⟩ : ByteArray)) ++ (⟨#[61]⟩ : ByteArray)).size + ((rd_T79 l0 (rd l1_1 x29_2)).f0).size ≤ 9223372036854775807
                              · rw [if_pos c29] at H
                                have c29b0 := eq_true c29
                                have c29b1 : decide (((x6_2 ++ (⟨#[32]⟩ : ByteArray)) ++ (⟨#[61]⟩ : ByteArray)).size + ((rd_T79 l0 (rd l1_1 x29_2)).f0).size ≤ 9223372036854775807) = true := decide_eq_true c29
                                try (have zc29_0 : (x6_2.size + 1 + 1 + ((rd_T79 l0 (rd l1_1 x29_2)).f0).size ≤ 9223372036854775807) = True := (by have zq_ := of_eq_true c29b0; simp only [ByteArray.size_append] at zq_; have zl0_ : (⟨#[32]⟩ : ByteArray).size = 1 := rfl; have zl1_ : (⟨#[61]⟩ : ByteArray).size = 1 := rfl; refine eq_true ?_; omega))
                                try (have zc29_1 : (9223372036854775807 < x6_2.size + 1 + 1 + ((rd_T79 l0 (rd l1_1 x29_2)).f0).size) = False := (by have zq_ := of_eq_true c29b0; simp only [ByteArray.size_append] at zq_; have zl0_ : (⟨#[32]⟩ : ByteArray).size = 1 := rfl; have zl1_ : (⟨#[61]⟩ : ByteArray).size = 1 := rfl; refine eq_false ?_; omega))
                                try (have zc29_2 : (x6_2.size + ((rd_T79 l0 (rd l1_1 x29_2)).f0).size + 2 ≤ 9223372036854775807) = True := (by have zq_ := of_eq_true c29b0; simp only [ByteArray.size_append] at zq_; have zl0_ : (⟨#[32]⟩ : ByteArray).size = 1 := rfl; have zl1_ : (⟨#[61]⟩ : ByteArray).size = 1 := rfl; refine eq_true ?_; omega))
                                try (have zc29_3 : (9223372036854775807 < x6_2.size + ((rd_T79 l0 (rd l1_1 x29_2)).f0).size + 2) = False := (by have zq_ := of_eq_true c29b0; simp only [ByteArray.size_append] at zq_; have zl0_ : (⟨#[32]⟩ : ByteArray).size = 1 := rfl; have zl1_ : (⟨#[61]⟩ : ByteArray).size = 1 := rfl; refine eq_false ?_; omega))
                                try (have zc29_4 : (x6_2.size + ((rd_T79 l0 (rd l1_1 x29_2)).f0).size ≤ 9223372036854775805) = True := (by have zq_ := of_eq_true c29b0; simp only [ByteArray.size_append] at zq_; have zl0_ : (⟨#[32]⟩ : ByteArray).size = 1 := rfl; have zl1_ : (⟨#[61]⟩ : ByteArray).size = 1 := rfl; refine eq_true ?_; omega))
                                try (have zc29_5 : (9223372036854775805 < x6_2.size + ((rd_T79 l0 (rd l1_1 x29_2)).f0).size) = False := (by have zq_ := of_eq_true c29b0; simp only [ByteArray.size_append] at zq_; have zl0_ : (⟨#[32]⟩ : ByteArray).size = 1 := rfl; have zl1_ : (⟨#[61]⟩ : ByteArray).size = 1 := rfl; refine eq_false ?_; omega))
                                try have c29b2 : (9223372036854775807 < ((x6_2 ++ (⟨#[32]⟩ : ByteArray)) ++ (⟨#[61]⟩ : ByteArray)).size + ((rd_T79 l0 (rd l1_1 x29_2)).f0).size) = False := eq_false (Nat.not_lt.2 c29)
                                have H' := Aside0.mk H
                                clear H
                                have p105 : 0 ≤ (x29_2 : Int) := of_decide_eq_true (by first | (with_reducible assumption) | assumption)
                                have q105 : x29_2 < (l1_1.length : Int) := of_decide_eq_true (by first | (with_reducible assumption) | assumption)
                                obtain ⟨ad105, e105, hx105_0⟩ := Kd.at_int HR1_1.out x29_2 p105 q105
                                cases e105
                                replace hx105_0 := (HB.out.cell (World.block_lt_of_cell? w _ hx105_0)).trans hx105_0
                                replace p105 := eq_true p105
                                replace q105 := eq_true q105
                                have hcz30_0 : wr.cell? ⟨gb101, 0, none⟩ = some (.int .i64 a1_0) := (blk_cell BK101.out 0).trans rfl
                                have hcz30_1 : wr.cell? ⟨gb101, 1, none⟩ = some (.slice (some ad105) l1_1.length c1_1) := (blk_cell BK101.out 1).trans rfl
                                have hfz30_0 := blk_frozen BK101.out 0
                                have hfz30_1 := blk_frozen BK101.out 1
                                have p106 : 0 ≤ ((rd l1_1 x29_2) : Int) := of_decide_eq_true (by first | (with_reducible assumption) | assumption)
                                have q106 : (rd l1_1 x29_2) < (l0.length : Int) := of_decide_eq_true (by first | (with_reducible assumption) | assumption)
                                obtain ⟨ad106, A106_1, c106_1, e106, hx106_0, hx106_1, hx106_2, hl106_1, hi106_1⟩ := at_T79 HR0.out (rd l1_1 x29_2) p106 q106
                                cases e106
                                replace hx106_0 := (HB.out.cell (World.block_lt_of_cell? w _ hx106_0)).trans hx106_0
                                replace hx106_1 := (HB.out.cell (World.block_lt_of_cell? w _ hx106_1)).trans hx106_1
                                replace hx106_2 := (HB.out.cell (World.block_lt_of_cell? w _ hx106_2)).trans hx106_2
                                have HR106_1 := Aside0.mk hi106_1
                                have HC106_1 := Aside0.mk hl106_1
                                clear hi106_1 hl106_1
                                replace p106 := eq_true p106
                                replace q106 := eq_true q106
                                go_wp2
                                go_roundg k2
                                case measure => have := HJ2.out; have := HK2.out; omega
                                case rel => exact ⟨(((x6_2 ++ (⟨#[32]⟩ : ByteArray)) ++ (⟨#[61]⟩ : ByteArray)) ++ ((rd_T79 l0 (rd l1_1 x29_2)).f0)), (wrap64 (x29_2 + 1)), (by first | rfl | (simp; done) | (simp [*]; done)), (by first | rfl | (simp; done) | (simp [*]; done)), H', ⟨by have := HJ2.out; have := HK2.out; omega⟩, ⟨by (with_reducible repeat (first | refine blk_drewN ?_ _ | refine blk_drew ?_ | refine blk_alloc ?_ _)); exact BK101.out⟩, ⟨by repeat (first | (with_reducible first | exact HB.out | apply below_alloc | apply pw_below_drewN | apply below_drew1 | refine below_set ?_ GE101.out) | exact HB.out)⟩⟩
                              · rw [if_neg c29] at H
                                exact absurd H (by simp)
                            · rw [if_neg c28] at H
                              exact absurd H (by simp)
                          · rw [if_neg c27] at H
                            exact absurd H (by simp)
                        · rw [if_neg c26] at H
                          exact absurd H (by simp)
                      · rw [if_neg c25] at H
                        have c25b0 : ((rd l1_1 x29_2) == a1_0) = false := beq_eq_false_iff_ne.mpr c25
                        have c25b1 : ((rd l1_1 x29_2) != a1_0) = true := bne_iff_ne.mpr c25
                        by_cases c31 : 0 ≤ (rd l1_1 x29_2)
                        · rw [if_pos c31] at H
                          have c31b0 : decide (0 ≤ (rd l1_1 x29_2)) = true := decide_eq_true c31
                          clear c31
                          by_cases c32 : (rd l1_1 x29_2) < (l0.length : Int)
                          · rw [if_pos c32] at H
                            have c32b0 : decide ((rd l1_1 x29_2) < (l0.length : Int)) = true := decide_eq_true c32
                            clear c32
                            by_cases c33 : (x6_2 ++ (⟨#[32]⟩ : ByteArray)).size + ((rd_T79 l0 (rd l1_1 x29_2)).f0).size ≤ 9223372036854775807
                            · rw [if_pos c33] at H
                              have c33b0 := eq_true c33
                              have c33b1 : decide ((x6_2 ++ (⟨#[32]⟩ : ByteArray)).size + ((rd_T79 l0 (rd l1_1 x29_2)).f0).size ≤ 9223372036854775807) = true := decide_eq_true c33
                              try (have zc33_0 : (x6_2.size + 1 + ((rd_T79 l0 (rd l1_1 x29_2)).f0).size ≤ 9223372036854775807) = True := (by have zq_ := of_eq_true c33b0; simp only [ByteArray.size_append] at zq_; have zl0_ : (⟨#[32]⟩ : ByteArray).size = 1 := rfl; refine eq_true ?_; omega))
                              try (have zc33_1 : (9223372036854775807 < x6_2.size + 1 + ((rd_T79 l0 (rd l1_1 x29_2)).f0).size) = False := (by have zq_ := of_eq_true c33b0; simp only [ByteArray.size_append] at zq_; have zl0_ : (⟨#[32]⟩ : ByteArray).size = 1 := rfl; refine eq_false ?_; omega))
                              try (have zc33_2 : (x6_2.size + ((rd_T79 l0 (rd l1_1 x29_2)).f0).size + 1 ≤ 9223372036854775807) = True := (by have zq_ := of_eq_true c33b0; simp only [ByteArray.size_append] at zq_; have zl0_ : (⟨#[32]⟩ : ByteArray).size = 1 := rfl; refine eq_true ?_; omega))
                              try (have zc33_3 : (9223372036854775807 < x6_2.size + ((rd_T79 l0 (rd l1_1 x29_2)).f0).size + 1) = False := (by have zq_ := of_eq_true c33b0; simp only [ByteArray.size_append] at zq_; have zl0_ : (⟨#[32]⟩ : ByteArray).size = 1 := rfl; refine eq_false ?_; omega))
                              try (have zc33_4 : (x6_2.size + ((rd_T79 l0 (rd l1_1 x29_2)).f0).size ≤ 9223372036854775806) = True := (by have zq_ := of_eq_true c33b0; simp only [ByteArray.size_append] at zq_; have zl0_ : (⟨#[32]⟩ : ByteArray).size = 1 := rfl; refine eq_true ?_; omega))
                              try (have zc33_5 : (9223372036854775806 < x6_2.size + ((rd_T79 l0 (rd l1_1 x29_2)).f0).size) = False := (by have zq_ := of_eq_true c33b0; simp only [ByteArray.size_append] at zq_; have zl0_ : (⟨#[32]⟩ : ByteArray).size = 1 := rfl; refine eq_false ?_; omega))
                              try have c33b2 : (9223372036854775807 < (x6_2 ++ (⟨#[32]⟩ : ByteArray)).size + ((rd_T79 l0 (rd l1_1 x29_2)).f0).size) = False := eq_false (Nat.not_lt.2 c33)
                              have H' := Aside0.mk H
                              clear H
                              have p105 : 0 ≤ (x29_2 : Int) := of_decide_eq_true (by first | (with_reducible assumption) | assumption)
                              have q105 : x29_2 < (l1_1.length : Int) := of_decide_eq_true (by first | (with_reducible assumption) | assumption)
                              obtain ⟨ad105, e105, hx105_0⟩ := Kd.at_int HR1_1.out x29_2 p105 q105
                              cases e105
                              replace hx105_0 := (HB.out.cell (World.block_lt_of_cell? w _ hx105_0)).trans hx105_0
                              replace p105 := eq_true p105
                              replace q105 := eq_true q105
                              have hcz34_0 : wr.cell? ⟨gb101, 0, none⟩ = some (.int .i64 a1_0) := (blk_cell BK101.out 0).trans rfl
                              have hcz34_1 : wr.cell? ⟨gb101, 1, none⟩ = some (.slice (some ad105) l1_1.length c1_1) := (blk_cell BK101.out 1).trans rfl
                              have hfz34_0 := blk_frozen BK101.out 0
                              have hfz34_1 := blk_frozen BK101.out 1
                              have p107 : 0 ≤ ((rd l1_1 x29_2) : Int) := of_decide_eq_true (by first | (with_reducible assumption) | assumption)
                              have q107 : (rd l1_1 x29_2) < (l0.length : Int) := of_decide_eq_true (by first | (with_reducible assumption) | assumption)
                              obtain ⟨ad107, A107_1, c107_1, e107, hx107_0, hx107_1, hx107_2, hl107_1, hi107_1⟩ := at_T79 HR0.out (rd l1_1 x29_2) p107 q107
                              cases e107
                              replace hx107_0 := (HB.out.cell (World.block_lt_of_cell? w _ hx107_0)).trans hx107_0
                              replace hx107_1 := (HB.out.cell (World.block_lt_of_cell? w _ hx107_1)).trans hx107_1
                              replace hx107_2 := (HB.out.cell (World.block_lt_of_cell? w _ hx107_2)).trans hx107_2
                              have HR107_1 := Aside0.mk hi107_1
                              have HC107_1 := Aside0.mk hl107_1
                              clear hi107_1 hl107_1
                              replace p107 := eq_true p107
                              replace q107 := eq_true q107
                              go_wp2
                              go_roundg k2
                              case measure => have := HJ2.out; have := HK2.out; omega
                              case rel => exact ⟨((x6_2 ++ (⟨#[32]⟩ : ByteArray)) ++ ((rd_T79 l0 (rd l1_1 x29_2)).f0)), (wrap64 (x29_2 + 1)), (by first | rfl | (simp; done) | (simp [*]; done)), (by first | rfl | (simp; done) | (simp [*]; done)), H', ⟨by have := HJ2.out; have := HK2.out; omega⟩, ⟨by (with_reducible repeat (first | refine blk_drewN ?_ _ | refine blk_drew ?_ | refine blk_alloc ?_ _)); exact BK101.out⟩, ⟨by repeat (first | (with_reducible first | exact HB.out | apply below_alloc | apply pw_below_drewN | apply below_drew1 | refine below_set ?_ GE101.out) | exact HB.out)⟩⟩
                            · rw [if_neg c33] at H
                              exact absurd H (by simp)
                          · rw [if_neg c32] at H
                            exact absurd H (by simp)
                        · rw [if_neg c31] at H
                          exact absurd H (by simp)
                    · rw [if_neg c24] at H
                      exact absurd H (by simp)
                  · rw [if_neg c23] at H
                    have c23b0 : decide (0 < x29_2) = false := decide_eq_false c23
                    clear c23
                    by_cases c35 : (rd l1_1 x29_2) = a1_0
                    · rw [if_pos c35] at H
                      have c35b0 : ((rd l1_1 x29_2) == a1_0) = true := beq_iff_eq.mpr c35
                      have c35b1 : ((rd l1_1 x29_2) != a1_0) = false := bne_eq_false_iff_eq.mpr c35
                      clear c35
                      by_cases c36 : x6_2.size + 1 ≤ 9223372036854775807
                      · rw [if_pos c36] at H
                        have c36b0 := eq_true c36
                        have c36b1 : decide (x6_2.size + 1 ≤ 9223372036854775807) = true := decide_eq_true c36
                        try have c36b2 : (9223372036854775807 < x6_2.size + 1) = False := eq_false (Nat.not_lt.2 c36)
                        by_cases c37 : 0 ≤ (rd l1_1 x29_2)
                        · rw [if_pos c37] at H
                          have c37b0 : decide (0 ≤ (rd l1_1 x29_2)) = true := decide_eq_true c37
                          clear c37
                          by_cases c38 : (rd l1_1 x29_2) < (l0.length : Int)
                          · rw [if_pos c38] at H
                            have c38b0 : decide ((rd l1_1 x29_2) < (l0.length : Int)) = true := decide_eq_true c38
                            clear c38
                            by_cases c39 : (x6_2 ++ (⟨#[61]⟩ : ByteArray)).size + ((rd_T79 l0 (rd l1_1 x29_2)).f0).size ≤ 9223372036854775807
                            · rw [if_pos c39] at H
                              have c39b0 := eq_true c39
                              have c39b1 : decide ((x6_2 ++ (⟨#[61]⟩ : ByteArray)).size + ((rd_T79 l0 (rd l1_1 x29_2)).f0).size ≤ 9223372036854775807) = true := decide_eq_true c39
                              try (have zc39_0 : (x6_2.size + 1 + ((rd_T79 l0 (rd l1_1 x29_2)).f0).size ≤ 9223372036854775807) = True := (by have zq_ := of_eq_true c39b0; simp only [ByteArray.size_append] at zq_; have zl0_ : (⟨#[61]⟩ : ByteArray).size = 1 := rfl; refine eq_true ?_; omega))
                              try (have zc39_1 : (9223372036854775807 < x6_2.size + 1 + ((rd_T79 l0 (rd l1_1 x29_2)).f0).size) = False := (by have zq_ := of_eq_true c39b0; simp only [ByteArray.size_append] at zq_; have zl0_ : (⟨#[61]⟩ : ByteArray).size = 1 := rfl; refine eq_false ?_; omega))
                              try (have zc39_2 : (x6_2.size + ((rd_T79 l0 (rd l1_1 x29_2)).f0).size + 1 ≤ 9223372036854775807) = True := (by have zq_ := of_eq_true c39b0; simp only [ByteArray.size_append] at zq_; have zl0_ : (⟨#[61]⟩ : ByteArray).size = 1 := rfl; refine eq_true ?_; omega))
                              try (have zc39_3 : (9223372036854775807 < x6_2.size + ((rd_T79 l0 (rd l1_1 x29_2)).f0).size + 1) = False := (by have zq_ := of_eq_true c39b0; simp only [ByteArray.size_append] at zq_; have zl0_ : (⟨#[61]⟩ : ByteArray).size = 1 := rfl; refine eq_false ?_; omega))
                              try (have zc39_4 : (x6_2.size + ((rd_T79 l0 (rd l1_1 x29_2)).f0).size ≤ 9223372036854775806) = True := (by have zq_ := of_eq_true c39b0; simp only [ByteArray.size_append] at zq_; have zl0_ : (⟨#[61]⟩ : ByteArray).size = 1 := rfl; refine eq_true ?_; omega))
                              try (have zc39_5 : (9223372036854775806 < x6_2.size + ((rd_T79 l0 (rd l1_1 x29_2)).f0).size) = False := (by have zq_ := of_eq_true c39b0; simp only [ByteArray.size_append] at zq_; have zl0_ : (⟨#[61]⟩ : ByteArray).size = 1 := rfl; refine eq_false ?_; omega))
                              try have c39b2 : (9223372036854775807 < (x6_2 ++ (⟨#[61]⟩ : ByteArray)).size + ((rd_T79 l0 (rd l1_1 x29_2)).f0).size) = False := eq_false (Nat.not_lt.2 c39)
                              have H' := Aside0.mk H
                              clear H
                              have p105 : 0 ≤ (x29_2 : Int) := of_decide_eq_true (by first | (with_reducible assumption) | assumption)
                              have q105 : x29_2 < (l1_1.length : Int) := of_decide_eq_true (by first | (with_reducible assumption) | assumption)
                              obtain ⟨ad105, e105, hx105_0⟩ := Kd.at_int HR1_1.out x29_2 p105 q105
                              cases e105
                              replace hx105_0 := (HB.out.cell (World.block_lt_of_cell? w _ hx105_0)).trans hx105_0
                              replace p105 := eq_true p105
                              replace q105 := eq_true q105
                              have hcz40_0 : wr.cell? ⟨gb101, 0, none⟩ = some (.int .i64 a1_0) := (blk_cell BK101.out 0).trans rfl
                              have hcz40_1 : wr.cell? ⟨gb101, 1, none⟩ = some (.slice (some ad105) l1_1.length c1_1) := (blk_cell BK101.out 1).trans rfl
                              have hfz40_0 := blk_frozen BK101.out 0
                              have hfz40_1 := blk_frozen BK101.out 1
                              have p108 : 0 ≤ ((rd l1_1 x29_2) : Int) := of_decide_eq_true (by first | (with_reducible assumption) | assumption)
                              have q108 : (rd l1_1 x29_2) < (l0.length : Int) := of_decide_eq_true (by first | (with_reducible assumption) | assumption)
                              obtain ⟨ad108, A108_1, c108_1, e108, hx108_0, hx108_1, hx108_2, hl108_1, hi108_1⟩ := at_T79 HR0.out (rd l1_1 x29_2) p108 q108
                              cases e108
                              replace hx108_0 := (HB.out.cell (World.block_lt_of_cell? w _ hx108_0)).trans hx108_0
                              replace hx108_1 := (HB.out.cell (World.block_lt_of_cell? w _ hx108_1)).trans hx108_1
                              replace hx108_2 := (HB.out.cell (World.block_lt_of_cell? w _ hx108_2)).trans hx108_2
                              have HR108_1 := Aside0.mk hi108_1
                              have HC108_1 := Aside0.mk hl108_1
                              clear hi108_1 hl108_1
                              replace p108 := eq_true p108
                              replace q108 := eq_true q108
                              go_wp2
                              go_roundg k2
                              case measure => have := HJ2.out; have := HK2.out; omega
                              case rel => exact ⟨((x6_2 ++ (⟨#[61]⟩ : ByteArray)) ++ ((rd_T79 l0 (rd l1_1 x29_2)).f0)), (wrap64 (x29_2 + 1)), (by first | rfl | (simp; done) | (simp [*]; done)), (by first | rfl | (simp; done) | (simp [*]; done)), H', ⟨by have := HJ2.out; have := HK2.out; omega⟩, ⟨by (with_reducible repeat (first | refine blk_drewN ?_ _ | refine blk_drew ?_ | refine blk_alloc ?_ _)); exact BK101.out⟩, ⟨by repeat (first | (with_reducible first | exact HB.out | apply below_alloc | apply pw_below_drewN | apply below_drew1 | refine below_set ?_ GE101.out) | exact HB.out)⟩⟩
                            · rw [if_neg c39] at H
                              exact absurd H (by simp)
                          · rw [if_neg c38] at H
                            exact absurd H (by simp)
                        · rw [if_neg c37] at H
                          exact absurd H (by simp)
                      · rw [if_neg c36] at H
                        exact absurd H (by simp)
                    · rw [if_neg c35] at H
                      have c35b0 : ((rd l1_1 x29_2) == a1_0) = false := beq_eq_false_iff_ne.mpr c35
                      have c35b1 : ((rd l1_1 x29_2) != a1_0) = true := bne_iff_ne.mpr c35
                      by_cases c41 : 0 ≤ (rd l1_1 x29_2)
                      · rw [if_pos c41] at H
                        have c41b0 : decide (0 ≤ (rd l1_1 x29_2)) = true := decide_eq_true c41
                        clear c41
                        by_cases c42 : (rd l1_1 x29_2) < (l0.length : Int)
                        · rw [if_pos c42] at H
                          have c42b0 : decide ((rd l1_1 x29_2) < (l0.length : Int)) = true := decide_eq_true c42
                          clear c42
                          by_cases c43 : x6_2.size + ((rd_T79 l0 (rd l1_1 x29_2)).f0).size ≤ 9223372036854775807
                          · rw [if_pos c43] at H
                            have c43b0 := eq_true c43
                            have c43b1 : decide (x6_2.size + ((rd_T79 l0 (rd l1_1 x29_2)).f0).size ≤ 9223372036854775807) = true := decide_eq_true c43
                            try have c43b2 : (9223372036854775807 < x6_2.size + ((rd_T79 l0 (rd l1_1 x29_2)).f0).size) = False := eq_false (Nat.not_lt.2 c43)
                            have H' := Aside0.mk H
                            clear H
                            have p105 : 0 ≤ (x29_2 : Int) := of_decide_eq_true (by first | (with_reducible assumption) | assumption)
                            have q105 : x29_2 < (l1_1.length : Int) := of_decide_eq_true (by first | (with_reducible assumption) | assumption)
                            obtain ⟨ad105, e105, hx105_0⟩ := Kd.at_int HR1_1.out x29_2 p105 q105
                            cases e105
                            replace hx105_0 := (HB.out.cell (World.block_lt_of_cell? w _ hx105_0)).trans hx105_0
                            replace p105 := eq_true p105
                            replace q105 := eq_true q105
                            have hcz44_0 : wr.cell? ⟨gb101, 0, none⟩ = some (.int .i64 a1_0) := (blk_cell BK101.out 0).trans rfl
                            have hcz44_1 : wr.cell? ⟨gb101, 1, none⟩ = some (.slice (some ad105) l1_1.length c1_1) := (blk_cell BK101.out 1).trans rfl
                            have hfz44_0 := blk_frozen BK101.out 0
                            have hfz44_1 := blk_frozen BK101.out 1
                            have p109 : 0 ≤ ((rd l1_1 x29_2) : Int) := of_decide_eq_true (by first | (with_reducible assumption) | assumption)
                            have q109 : (rd l1_1 x29_2) < (l0.length : Int) := of_decide_eq_true (by first | (with_reducible assumption) | assumption)
                            obtain ⟨ad109, A109_1, c109_1, e109, hx109_0, hx109_1, hx109_2, hl109_1, hi109_1⟩ := at_T79 HR0.out (rd l1_1 x29_2) p109 q109
                            cases e109
                            replace hx109_0 := (HB.out.cell (World.block_lt_of_cell? w _ hx109_0)).trans hx109_0
                            replace hx109_1 := (HB.out.cell (World.block_lt_of_cell? w _ hx109_1)).trans hx109_1
                            replace hx109_2 := (HB.out.cell (World.block_lt_of_cell? w _ hx109_2)).trans hx109_2
                            have HR109_1 := Aside0.mk hi109_1
                            have HC109_1 := Aside0.mk hl109_1
                            clear hi109_1 hl109_1
                            replace p109 := eq_true p109
                            replace q109 := eq_true q109
                            go_wp2
                            go_roundg k2
                            case measure => have := HJ2.out; have := HK2.out; omega
                            case rel => exact ⟨(x6_2 ++ ((rd_T79 l0 (rd l1_1 x29_2)).f0)), (wrap64 (x29_2 + 1)), (by first | rfl | (simp; done) | (simp [*]; done)), (by first | rfl | (simp; done) | (simp [*]; done)), H', ⟨by have := HJ2.out; have := HK2.out; omega⟩, ⟨by (with_reducible repeat (first | refine blk_drewN ?_ _ | refine blk_drew ?_ | refine blk_alloc ?_ _)); exact BK101.out⟩, ⟨by repeat (first | (with_reducible first | exact HB.out | apply below_alloc | apply pw_below_drewN | apply below_drew1 | refine below_set ?_ GE101.out) | exact HB.out)⟩⟩
                          · rw [if_neg c43] at H
                            exact absurd H (by simp)
                        · rw [if_neg c42] at H
                          exact absurd H (by simp)
                      · rw [if_neg c41] at H
                        exact absurd H (by simp)
                · rw [if_neg c22] at H
                  exact absurd H (by simp)
              · rw [if_neg c21] at H
                exact absurd H (by simp)
            · rw [if_neg c20] at H
              have c20b0 : decide (x29_2 < (l1_1.length : Int)) = false := decide_eq_false c20
              clear c20
              simp only [Option.some.injEq, Prod.mk.injEq] at H
              obtain ⟨rfl, rfl⟩ := H
              go_wp2
              go_ret2
              exact ⟨by first | rfl | (simp [errW_none, errW_some] <;> rfl) | (simp [*, errW_none, errW_some] <;> rfl), by repeat (first | (with_reducible first | exact HB.out | apply below_alloc | apply pw_below_drewN | apply below_drew1 | refine below_set ?_ GE101.out) | exact HB.out)⟩

end Go.Proofs.Ytnafjfdalapegaa.Q
