-- Written for the seat Ytfndkjklphajmaa by a program of this session (wip/tool/gx.py) out of the translation. Lean checks it.
import Derived.Test.YtfndkjklphajmaaQ0
import Derived.Test.YtfndkjklphajmaaQSpecCtGood
import Derived.Test.YtfndkjklphajmaaQSpecCtPut
import Derived.Test.YtfndkjklphajmaaQSpecL1In
import Derived.Test.YtfndkjklphajmaaWApart
import Derived.Test.YtfndkjklphajmaaWFoot
import Derived.Test.YtfndkjklphajmaaWKept
import Derived.Test.YtfndkjklphajmaaWShare
import Derived.Test.YtfndkjklphajmaaWRepsOne
namespace Go.Proofs.Ytfndkjklphajmaa.Q
open Go.RowKit Go.Proofs.YtfndkjklphajmaaW.PrintWords Go.Proofs.YtfndkjklphajmaaW.PrintLast Go.Proofs.YtfndkjklphajmaaW.PrintMore
attribute [local go_sem] max2_int min2_int max_two min_two max_three min_three max_four min_four   -- for this text's walks alone
set_option linter.unusedVariables false
set_option linter.unusedSimpArgs false

/-! ### spec_RichestWindow: function 26 -/
mutual
def spec_RichestWindow.j0 : Nat → List ByteArray → Int → Bool → Option (Int × Int × Bool)
  | 0, _, _, _ => none
  | k + 1, x0, x1, x26 => if x26 = true then (some (0, 0, false)) else (spec_RichestWindow.l0 k x0 x1 0 (-1) 0)
def spec_RichestWindow.l0 : Nat → List ByteArray → Int → Int → Int → Int → Option (Int × Int × Bool)
  | 0, _, _, _, _, _ => none
  | k + 1, x0, x1, x7, x8, x9 => if (wrap64 (x9 + x1)) ≤ (x0.length : Int) then (if 0 ≤ x9 then (if x9 ≤ (wrap64 (x9 + x1)) then (spec_RichestWindow.l1 k x0 x1 x7 x8 x9 ([] : List ByteArray) ((x0.take ((wrap64 (x9 + x1)) : Int).toNat).drop (x9 : Int).toNat) (((x0.take ((wrap64 (x9 + x1)) : Int).toNat).drop (x9 : Int).toNat).length : Int) 0) else (none)) else (none)) else (some (x7, x8, true))
def spec_RichestWindow.l1 : Nat → List ByteArray → Int → Int → Int → Int → List ByteArray → List ByteArray → Int → Int → Option (Int × Int × Bool)
  | 0, _, _, _, _, _, _, _, _, _ => none
  | k + 1, x0, x1, x7, x8, x9, x10, x40, x41, x42 => if x42 < x41 then (if 0 ≤ x42 then (if x42 < (x40.length : Int) then ((spec_ctPut.f k x10 (rdOf ByteArray.empty x40 x42)).bind fun t105 => (spec_RichestWindow.l1 k x0 x1 x7 x8 x9 t105 x40 x41 (wrap64 (x42 + 1)))) else (none)) else (none)) else (if (x10.length : Int) > x8 then (spec_RichestWindow.l0 k x0 x1 x9 (x10.length : Int) (wrap64 (x9 + 1))) else (spec_RichestWindow.l0 k x0 x1 x7 x8 (wrap64 (x9 + 1))))
end
def spec_RichestWindow.f (k : Nat) (l0 : List ByteArray) (a1 : Int) : Option (Int × Int × Bool) := (spec_ctGood.f k l0).bind fun t101 => (if t101 = true then ((spec_l1In.f a1 1 120).bind fun t102 => (if t102 = true then (spec_RichestWindow.j0 k l0 a1 (decide ((l0.length : Int) < a1))) else (spec_RichestWindow.j0 k l0 a1 true))) else (spec_RichestWindow.j0 k l0 a1 true))
theorem spec_RichestWindow.mono_l : ∀ k, (∀ y0 y1 y2, LeO (spec_RichestWindow.j0 k y0 y1 y2) (spec_RichestWindow.j0 (k + 1) y0 y1 y2)) ∧ (∀ y0 y1 y2 y3 y4, LeO (spec_RichestWindow.l0 k y0 y1 y2 y3 y4) (spec_RichestWindow.l0 (k + 1) y0 y1 y2 y3 y4)) ∧ (∀ y0 y1 y2 y3 y4 y5 y6 y7 y8, LeO (spec_RichestWindow.l1 k y0 y1 y2 y3 y4 y5 y6 y7 y8) (spec_RichestWindow.l1 (k + 1) y0 y1 y2 y3 y4 y5 y6 y7 y8))
  | 0 => ⟨fun _ _ _ r h => by simp [spec_RichestWindow.j0] at h, fun _ _ _ _ _ r h => by simp [spec_RichestWindow.l0] at h, fun _ _ _ _ _ _ _ _ _ r h => by simp [spec_RichestWindow.l1] at h⟩
  | k + 1 => by
    obtain ⟨ih0, ih1, ih2⟩ := spec_RichestWindow.mono_l k
    refine ⟨?_, ?_, ?_⟩
    · intro y0 y1 y2
      unfold spec_RichestWindow.j0
      repeat' first
      | (with_reducible exact ih0 _ _ _)
      | (with_reducible exact ih1 _ _ _ _ _)
      | (with_reducible exact ih2 _ _ _ _ _ _ _ _ _)
      | (with_reducible exact spec_ctGood.mono _ _)
      | (with_reducible exact spec_ctPut.mono _ _ _)
      | (with_reducible exact LeO.refl _)
      | (with_reducible exact LeO.none _)
      | (with_reducible refine LeO.ite ?_ ?_)
      | (with_reducible refine LeO.bind ?_ (fun _ => ?_))
      | exact ih0 _ _ _
      | exact ih1 _ _ _ _ _
      | exact ih2 _ _ _ _ _ _ _ _ _
      | exact spec_ctGood.mono _ _
      | exact spec_ctPut.mono _ _ _
      | exact LeO.none _
      | refine LeO.ite ?_ ?_
      | refine LeO.bind ?_ (fun _ => ?_)
    · intro y0 y1 y2 y3 y4
      unfold spec_RichestWindow.l0
      repeat' first
      | (with_reducible exact ih0 _ _ _)
      | (with_reducible exact ih1 _ _ _ _ _)
      | (with_reducible exact ih2 _ _ _ _ _ _ _ _ _)
      | (with_reducible exact spec_ctGood.mono _ _)
      | (with_reducible exact spec_ctPut.mono _ _ _)
      | (with_reducible exact LeO.refl _)
      | (with_reducible exact LeO.none _)
      | (with_reducible refine LeO.ite ?_ ?_)
      | (with_reducible refine LeO.bind ?_ (fun _ => ?_))
      | exact ih0 _ _ _
      | exact ih1 _ _ _ _ _
      | exact ih2 _ _ _ _ _ _ _ _ _
      | exact spec_ctGood.mono _ _
      | exact spec_ctPut.mono _ _ _
      | exact LeO.none _
      | refine LeO.ite ?_ ?_
      | refine LeO.bind ?_ (fun _ => ?_)
    · intro y0 y1 y2 y3 y4 y5 y6 y7 y8
      unfold spec_RichestWindow.l1
      repeat' first
      | (with_reducible exact ih0 _ _ _)
      | (with_reducible exact ih1 _ _ _ _ _)
      | (with_reducible exact ih2 _ _ _ _ _ _ _ _ _)
      | (with_reducible exact spec_ctGood.mono _ _)
      | (with_reducible exact spec_ctPut.mono _ _ _)
      | (with_reducible exact LeO.refl _)
      | (with_reducible exact LeO.none _)
      | (with_reducible refine LeO.ite ?_ ?_)
      | (with_reducible refine LeO.bind ?_ (fun _ => ?_))
      | exact ih0 _ _ _
      | exact ih1 _ _ _ _ _
      | exact ih2 _ _ _ _ _ _ _ _ _
      | exact spec_ctGood.mono _ _
      | exact spec_ctPut.mono _ _ _
      | exact LeO.none _
      | refine LeO.ite ?_ ?_
      | refine LeO.bind ?_ (fun _ => ?_)
theorem spec_RichestWindow.mono : ∀ a0 a1 k, LeO (spec_RichestWindow.f k a0 a1) (spec_RichestWindow.f (k + 1) a0 a1) := by
  intro a0 a1 k
  obtain ⟨ih0, ih1, ih2⟩ := spec_RichestWindow.mono_l k
  unfold spec_RichestWindow.f
  repeat' first
      | (with_reducible exact ih0 _ _ _)
      | (with_reducible exact ih1 _ _ _ _ _)
      | (with_reducible exact ih2 _ _ _ _ _ _ _ _ _)
      | (with_reducible exact spec_ctGood.mono _ _)
      | (with_reducible exact spec_ctPut.mono _ _ _)
      | (with_reducible exact LeO.refl _)
      | (with_reducible exact LeO.none _)
      | (with_reducible refine LeO.ite ?_ ?_)
      | (with_reducible refine LeO.bind ?_ (fun _ => ?_))
      | exact ih0 _ _ _
      | exact ih1 _ _ _ _ _
      | exact ih2 _ _ _ _ _ _ _ _ _
      | exact spec_ctGood.mono _ _
      | exact spec_ctPut.mono _ _ _
      | exact LeO.none _
      | refine LeO.ite ?_ ?_
      | refine LeO.bind ?_ (fun _ => ?_)
set_option maxHeartbeats 3000000 in
set_option maxRecDepth 100000 in
theorem spec_RichestWindow.calls (k : Nat) (A0 : Option Addr) (c0 : Nat) (l0 : List ByteArray) (a1 : Int) (r1 : Int) (r2 : Int) (r3 : Bool) (w : World) (hr0 : Kd.C Kd.string w A0 l0.length l0) (hc0 : l0.length ≤ c0) (h : spec_RichestWindow.f k l0 a1 = some (r1, r2, r3)) :
    Calls Try.prog 26 #[.slice A0 l0.length c0, .int .i64 a1] w fun e w' => e = .returned (.tuple #[.int .i64 r1, .int .i64 r2, .bool r3]) ∧ Below w.heap.size w w' := by
  have HR0 := Aside0.mk hr0
  have HC0 := Aside0.mk hc0
  clear hr0 hc0
  have HB := Aside0.mk (Below.refl w.heap.size w)
  have H : ((spec_ctGood.f k l0).bind fun t101 => (if t101 = true then ((spec_l1In.f a1 1 120).bind fun t102 => (if t102 = true then (spec_RichestWindow.j0 k l0 a1 (decide ((l0.length : Int) < a1))) else (spec_RichestWindow.j0 k l0 a1 true))) else (spec_RichestWindow.j0 k l0 a1 true))) = some (r1, r2, r3) := h
  clear h
  have HC3 := Aside0.mk H
  clear H
  go_enter Try.func26, Try.ntmps26
  go_upto_region 1 with (fail)
  go_cut [26] (fun v26 wc => ∃ (kq : Nat) (x26_2 : Bool), v26 = .bool x26_2 ∧ Aside0 (spec_RichestWindow.j0 kq l0 a1 x26_2 = some (r1, r2, r3)) ∧ Aside0 (kq ≤ k) ∧ Aside0 (Below w.heap.size w wc))
  case first =>
    have H := HC3.out
    clear HC3
    replace H := Option.bind_eq_some_iff.mp H
    obtain ⟨t101, A40, H⟩ := H
    replace H : (if t101 = true then ((spec_l1In.f a1 1 120).bind fun t102 => (if t102 = true then (spec_RichestWindow.j0 k l0 a1 (decide ((l0.length : Int) < a1))) else (spec_RichestWindow.j0 k l0 a1 true))) else (spec_RichestWindow.j0 k l0 a1 true)) = some (r1, r2, r3) := H
    have A4 := Aside0.mk A40
    clear A40
    by_cases c5 : t101 = true
    · subst c5
      have H1 : ((spec_l1In.f a1 1 120).bind fun t102 => (if t102 = true then (spec_RichestWindow.j0 k l0 a1 (decide ((l0.length : Int) < a1))) else (spec_RichestWindow.j0 k l0 a1 true))) = some (r1, r2, r3) := by rw [if_pos rfl] at H; exact H
      clear H
      have H := H1
      clear H1
      replace H := Option.bind_eq_some_iff.mp H
      obtain ⟨t102, A60, H⟩ := H
      replace H : (if t102 = true then (spec_RichestWindow.j0 k l0 a1 (decide ((l0.length : Int) < a1))) else (spec_RichestWindow.j0 k l0 a1 true)) = some (r1, r2, r3) := H
      have A6 := Aside0.mk A60
      clear A60
      by_cases c7 : t102 = true
      · subst c7
        have H1 : (spec_RichestWindow.j0 k l0 a1 (decide ((l0.length : Int) < a1))) = some (r1, r2, r3) := by rw [if_pos rfl] at H; exact H
        clear H
        have H := H1
        clear H1
        have H' := Aside0.mk H
        clear H
        go_wp2_with (first | ((with_reducible refine gate_callee (f := 46) rfl ?_); refine goesL_ (some 14) rfl rfl Try.func46 (by kernel_rfl) rfl #[.slice A0 l0.length c0] rfl (by (try simp only [List.map_toArray, List.map_cons, List.map_nil]); first | done | rfl | (simp only [List.length_drop, List.length_take]; rfl)) ?_; (with_reducible refine (spec_ctGood.calls k _ _ l0 true _ ?side1 ?side2 A4.out).mono ?_); (case side1 => repeat (first | exact (Kd.C_below HR0.out HB.out) | (with_reducible refine Kd.C_alloc ?_ _) | (with_reducible refine Kd.C_drewN ?_ _) | (with_reducible refine Kd.C_drew ?_))); (case side2 => exact HC0.out); rintro e w' ⟨rfl, ⟨nd, rfl⟩⟩; refine ⟨_, rfl, ?_⟩) | (go_at_call 49; (with_reducible refine (spec_l1In.calls a1 1 120 true _ A6.out).mono ?_); rintro e w' ⟨rfl, ⟨nd, rfl⟩⟩))
        go_meet
        case rel => exact ⟨_, (decide ((l0.length : Int) < a1)), (by first | rfl | (simp; done) | (simp [*]; done)), H', ⟨by first | omega | exact Nat.le_refl _⟩, ⟨by repeat (first | (with_reducible first | exact HB.out | apply below_alloc | apply pw_below_drewN | apply below_drew1) | exact HB.out)⟩⟩
      · replace c7 := Bool.eq_false_iff.mpr c7
        subst c7
        have H1 : (spec_RichestWindow.j0 k l0 a1 true) = some (r1, r2, r3) := by rw [if_neg (show ¬ (false = true) by decide)] at H; exact H
        clear H
        have H := H1
        clear H1
        have H' := Aside0.mk H
        clear H
        go_wp2_with (first | ((with_reducible refine gate_callee (f := 46) rfl ?_); refine goesL_ (some 14) rfl rfl Try.func46 (by kernel_rfl) rfl #[.slice A0 l0.length c0] rfl (by (try simp only [List.map_toArray, List.map_cons, List.map_nil]); first | done | rfl | (simp only [List.length_drop, List.length_take]; rfl)) ?_; (with_reducible refine (spec_ctGood.calls k _ _ l0 true _ ?side1 ?side2 A4.out).mono ?_); (case side1 => repeat (first | exact (Kd.C_below HR0.out HB.out) | (with_reducible refine Kd.C_alloc ?_ _) | (with_reducible refine Kd.C_drewN ?_ _) | (with_reducible refine Kd.C_drew ?_))); (case side2 => exact HC0.out); rintro e w' ⟨rfl, ⟨nd, rfl⟩⟩; refine ⟨_, rfl, ?_⟩) | (go_at_call 49; (with_reducible refine (spec_l1In.calls a1 1 120 false _ A6.out).mono ?_); rintro e w' ⟨rfl, ⟨nd, rfl⟩⟩))
        go_meet
        case rel => exact ⟨_, (true), (by first | rfl | (simp; done) | (simp [*]; done)), H', ⟨by first | omega | exact Nat.le_refl _⟩, ⟨by repeat (first | (with_reducible first | exact HB.out | apply below_alloc | apply pw_below_drewN | apply below_drew1) | exact HB.out)⟩⟩
    · replace c5 := Bool.eq_false_iff.mpr c5
      subst c5
      have H1 : (spec_RichestWindow.j0 k l0 a1 true) = some (r1, r2, r3) := by rw [if_neg (show ¬ (false = true) by decide)] at H; exact H
      clear H
      have H := H1
      clear H1
      have H' := Aside0.mk H
      clear H
      go_wp2_with (first | ((with_reducible refine gate_callee (f := 46) rfl ?_); refine goesL_ (some 14) rfl rfl Try.func46 (by kernel_rfl) rfl #[.slice A0 l0.length c0] rfl (by (try simp only [List.map_toArray, List.map_cons, List.map_nil]); first | done | rfl | (simp only [List.length_drop, List.length_take]; rfl)) ?_; (with_reducible refine (spec_ctGood.calls k _ _ l0 false _ ?side1 ?side2 A4.out).mono ?_); (case side1 => repeat (first | exact (Kd.C_below HR0.out HB.out) | (with_reducible refine Kd.C_alloc ?_ _) | (with_reducible refine Kd.C_drewN ?_ _) | (with_reducible refine Kd.C_drew ?_))); (case side2 => exact HC0.out); rintro e w' ⟨rfl, ⟨nd, rfl⟩⟩; refine ⟨_, rfl, ?_⟩))
      go_meet
      case rel => exact ⟨_, (true), (by first | rfl | (simp; done) | (simp [*]; done)), H', ⟨by first | omega | exact Nat.le_refl _⟩, ⟨by repeat (first | (with_reducible first | exact HB.out | apply below_alloc | apply pw_below_drewN | apply below_drew1) | exact HB.out)⟩⟩
  case rest =>
    clear HC3
    try clear c2
    try clear p2
    try clear c4
    try clear c5
    try clear c7
    obtain ⟨kq, x26_2, rfl, HA, HJ2, HB⟩ := hcut
    cases kq with
    | zero => exact absurd HA.out (by simp [spec_RichestWindow.j0])
    | succ kj2 =>
      have H := HA.out
      clear HA
      simp only [spec_RichestWindow.j0] at H
      by_cases c8 : x26_2 = true
      · subst c8
        have H1 : (some (0, 0, false)) = some (r1, r2, r3) := by rw [if_pos rfl] at H; exact H
        clear H
        have H := H1
        clear H1
        simp only [Option.some.injEq, Prod.mk.injEq] at H
        obtain ⟨rfl, rfl, rfl⟩ := H
        go_wp2
        go_ret3
        exact ⟨by first | rfl | (simp [errW_none, errW_some] <;> rfl) | (simp [*, errW_none, errW_some] <;> rfl), by repeat (first | (with_reducible first | exact HB.out | apply below_alloc | apply pw_below_drewN | apply below_drew1) | exact HB.out)⟩
      · replace c8 := Bool.eq_false_iff.mpr c8
        subst c8
        have H1 : (spec_RichestWindow.l0 kj2 l0 a1 0 (-1) 0) = some (r1, r2, r3) := by rw [if_neg (show ¬ (false = true) by decide)] at H; exact H
        clear H
        have H := H1
        clear H1
        have H' := Aside0.mk H
        clear H
        go_wp2
        go_loopg [7, 8, 9] kj2 (fun kq v7 v8 v9 w' => ∃ (x7_2 : Int) (x8_2 : Int) (x9_2 : Int), v7 = .int .i64 x7_2 ∧ v8 = .int .i64 x8_2 ∧ v9 = .int .i64 x9_2 ∧ Aside0 (spec_RichestWindow.l0 kq l0 a1 x7_2 x8_2 x9_2 = some (r1, r2, r3)) ∧ Aside0 (kq ≤ kj2) ∧ Aside0 (Below w.heap.size w w'))
        case atStart => exact ⟨(0), ((-1)), (0), (by first | rfl | (simp; done) | (simp [*]; done)), (by first | rfl | (simp; done) | (simp [*]; done)), (by first | rfl | (simp; done) | (simp [*]; done)), H', ⟨Nat.le_refl _⟩, ⟨by repeat (first | (with_reducible first | exact HB.out | apply below_alloc | apply pw_below_drewN | apply below_drew1) | exact HB.out)⟩⟩
        case round =>
          clear H'
          try clear c2
          try clear p2
          try clear c4
          try clear c5
          try clear c7
          try clear c8
          try clear p2
          obtain ⟨x7_2, x8_2, x9_2, rfl, rfl, rfl, HA, HK2, HB⟩ := hrel
          cases gk with
          | zero => exact absurd HA.out (by simp [spec_RichestWindow.l0])
          | succ k2 =>
            have H := HA.out
            clear HA
            simp only [spec_RichestWindow.l0] at H
            by_cases c9 : (wrap64 (x9_2 + a1)) ≤ (l0.length : Int)
            · rw [if_pos c9] at H
              have c9b0 : decide ((wrap64 (x9_2 + a1)) ≤ (l0.length : Int)) = true := decide_eq_true c9
              clear c9
              by_cases c10 : 0 ≤ x9_2
              · rw [if_pos c10] at H
                have c10b0 := eq_true c10
                have c10b1 : decide (0 ≤ x9_2) = true := decide_eq_true c10
                clear c10
                by_cases c11 : x9_2 ≤ (wrap64 (x9_2 + a1))
                · rw [if_pos c11] at H
                  have c11b0 := eq_true c11
                  have c11b1 : decide (x9_2 ≤ (wrap64 (x9_2 + a1))) = true := decide_eq_true c11
                  have c12b0 := eq_true (of_decide_eq_true (by first | (with_reducible assumption) | assumption) : (wrap64 (x9_2 + a1)) ≤ (l0.length : Int))
                  have hcl1_ : Aside0 (((l0.take ((wrap64 (x9_2 + a1)) : Int).toNat).drop (x9_2 : Int).toNat).length = ((wrap64 (x9_2 + a1))).toNat - (x9_2).toNat) := ⟨by rw [List.length_drop, List.length_take, Nat.min_eq_left]; have := of_eq_true c12b0; omega⟩
                  have H' := Aside0.mk H
                  clear H
                  obtain ⟨i013, hi013, _, hsz13, _⟩ := info_parts info9
                  obtain ⟨A13, hcut13, hA13, hC13⟩ := print_mid_of (P := Try.prog) Value.string (⟨#[]⟩ : ByteArray) 22 9 .i64 .i64 Try.underlying22 hi013 hsz13 A0 c0 l0 x9_2 (wrap64 (x9_2 + a1)) (of_decide_eq_true (by first | (with_reducible assumption) | assumption)) (by first | omega | exact of_decide_eq_true (by first | (with_reducible assumption) | assumption)) (of_decide_eq_true (by first | (with_reducible assumption) | assumption)) HC0.out
                  have HR103 := Aside0.mk (Kd.C_of_reads (h1 := fun _ => rfl) (hA13 _ (Kd.reads_of_C HR0.out)))
                  have HC103 := Aside0.mk hC13
                  clear hA13 hC13 hi013 hsz13
                  go_wp2
                  go_loopg [10, 42] k2 (fun kq v10 v42 w' => ∃ (x10_3 : List ByteArray) (x42_3 : Int), v42 = .int .i64 x42_3 ∧ Aside0 (spec_RichestWindow.l1 kq l0 a1 x7_2 x8_2 x9_2 x10_3 ((l0.take ((wrap64 (x9_2 + a1)) : Int).toNat).drop (x9_2 : Int).toNat) (((l0.take ((wrap64 (x9_2 + a1)) : Int).toNat).drop (x9_2 : Int).toNat).length : Int) x42_3 = some (r1, r2, r3)) ∧ Aside0 (kq ≤ k2) ∧ Aside0 (Kd.V Kd.string 9 w' w.heap.size (fun _ => True) v10 x10_3) ∧ Aside0 (Below w.heap.size w w'))
                  case atStart => exact ⟨(([] : List ByteArray)), (0), (by first | rfl | (simp; done) | (simp [*]; done)), H', ⟨Nat.le_refl _⟩, ⟨Kd.V_nil _ _ _ _ _⟩, ⟨by repeat (first | (with_reducible first | exact HB.out | apply below_alloc | apply pw_below_drewN | apply below_drew1) | exact HB.out)⟩⟩
                  case round =>
                    clear H'
                    try clear c1
                    try clear c2
                    try clear p2
                    try clear c4
                    try clear c5
                    try clear p6
                    try clear c7
                    try clear c8
                    try clear c9
                    try clear c9b0
                    try clear c10
                    try clear c10b0
                    try clear c10b1
                    try clear c11
                    try clear c11b0
                    try clear c11b1
                    try clear c12
                    try clear c12b0
                    try clear p2
                    obtain ⟨x10_3, x42_3, rfl, HA, HK3, HO_10, HB⟩ := hrel
                    cases gk with
                    | zero => exact absurd HA.out (by simp [spec_RichestWindow.l1])
                    | succ k3 =>
                      have H := HA.out
                      clear HA
                      simp only [spec_RichestWindow.l1] at H
                      by_cases c14 : x42_3 < (((l0.take ((wrap64 (x9_2 + a1)) : Int).toNat).drop (x9_2 : Int).toNat).length : Int)
                      · rw [if_pos c14] at H
                        have c14b0 : decide (x42_3 < (((l0.take ((wrap64 (x9_2 + a1)) : Int).toNat).drop (x9_2 : Int).toNat).length : Int)) = true := decide_eq_true c14
                        try (have c14b0_k := c14b0; rw [hcl1_.out] at c14b0_k)
                        try (have c14b0_q := eq_true (of_decide_eq_true c14b0_k))
                        clear c14
                        by_cases c15 : 0 ≤ x42_3
                        · rw [if_pos c15] at H
                          have c15b0 : decide (0 ≤ x42_3) = true := decide_eq_true c15
                          clear c15
                          by_cases c16 : x42_3 < (((l0.take ((wrap64 (x9_2 + a1)) : Int).toNat).drop (x9_2 : Int).toNat).length : Int)
                          · rw [if_pos c16] at H
                            have c16b0 : decide (x42_3 < (((l0.take ((wrap64 (x9_2 + a1)) : Int).toNat).drop (x9_2 : Int).toNat).length : Int)) = true := decide_eq_true c16
                            try (have c16b0_k := c16b0; rw [hcl1_.out] at c16b0_k)
                            try (have c16b0_q := eq_true (of_decide_eq_true c16b0_k))
                            clear c16
                            replace H := Option.bind_eq_some_iff.mp H
                            obtain ⟨t105, A170, H⟩ := H
                            replace H : (spec_RichestWindow.l1 k3 l0 a1 x7_2 x8_2 x9_2 t105 ((l0.take ((wrap64 (x9_2 + a1)) : Int).toNat).drop (x9_2 : Int).toNat) (((l0.take ((wrap64 (x9_2 + a1)) : Int).toNat).drop (x9_2 : Int).toNat).length : Int) (wrap64 (x42_3 + 1))) = some (r1, r2, r3) := H
                            have A17 := Aside0.mk A170
                            clear A170
                            have H' := Aside0.mk H
                            clear H
                            have p104 : 0 ≤ (x42_3 : Int) := of_decide_eq_true (by first | (with_reducible assumption) | assumption)
                            have q104 : x42_3 < (((l0.take ((wrap64 (x9_2 + a1)) : Int).toNat).drop (x9_2 : Int).toNat).length : Int) := of_decide_eq_true (by first | (with_reducible assumption) | assumption)
                            obtain ⟨ad104, e104, hx104_0⟩ := Kd.at_string HR103.out x42_3 p104 q104
                            cases e104
                            replace hx104_0 := (HB.out.cell (World.block_lt_of_cell? w _ hx104_0)).trans hx104_0
                            replace p104 := eq_true p104
                            replace q104 := eq_true q104
                            obtain ⟨Ao18, co18, eo18⟩ := Kd.V_slice HO_10.out
                            subst eo18
                            go_wp2_with (first | ((with_reducible refine gate_callee (f := 50) rfl ?_); refine goesL_ (some 48) rfl rfl Try.func50 (by kernel_rfl) rfl #[.slice Ao18 x10_3.length co18, .string (rdOf ByteArray.empty ((l0.take ((wrap64 (x9_2 + a1)) : Int).toNat).drop (x9_2 : Int).toNat) x42_3)] rfl (by (try simp only [List.map_toArray, List.map_cons, List.map_nil]); first | done | rfl | (simp only [List.length_drop, List.length_take]; rfl)) ?_; (with_reducible refine (spec_ctPut.calls k3 (fun k_ => True) _ _ x10_3 (rdOf ByteArray.empty ((l0.take ((wrap64 (x9_2 + a1)) : Int).toNat).drop (x9_2 : Int).toNat) x42_3) t105 _ ?side1 A17.out).mono ?_); (case side1 => exact HO_10.out); rintro e w19 ⟨v106, rfl, ho0, hb⟩; refine ⟨_, rfl, ?_⟩; have n0_ := Aside0.mk (Kd.V_below (by (with_reducible repeat (first | apply Kd.V_alloc | apply Kd.V_drewN | apply Kd.V_drew)); exact HO_10.out) hb); have n1_ := Aside0.mk (Kd.V_lower (Kd.V_mono (ok' := fun k_ => True) ho0 (fun k_ hk_ => trivial)) (below_size (by repeat (first | (with_reducible first | exact HB.out | apply below_alloc | apply pw_below_drewN | apply below_drew1) | exact HB.out)))); have n2_ := Aside0.mk (below_step (by repeat (first | (with_reducible first | exact HB.out | apply below_alloc | apply pw_below_drewN | apply below_drew1) | exact HB.out)) hb); clear HO_10; clear HB; have HO_10 := n0_; have HO107 := n1_; have HB := n2_; clear n0_ n1_ n2_; (try clear hb); (try clear hb2); (try clear hk); (try clear hi); (try clear ho0)))
                            go_roundg k3
                            case measure => have := HJ2.out; have := HK2.out; have := HK3.out; omega
                            case rel => exact ⟨(t105), (wrap64 (x42_3 + 1)), (by first | rfl | (simp; done) | (simp [*]; done)), H', ⟨by have := HJ2.out; have := HK2.out; have := HK3.out; omega⟩, ⟨by (with_reducible repeat (first | apply Kd.V_alloc | apply Kd.V_drewN | apply Kd.V_drew)); exact HO107.out⟩, ⟨by repeat (first | (with_reducible first | exact HB.out | apply below_alloc | apply pw_below_drewN | apply below_drew1) | exact HB.out)⟩⟩
                          · rw [if_neg c16] at H
                            exact absurd H (by simp)
                        · rw [if_neg c15] at H
                          exact absurd H (by simp)
                      · rw [if_neg c14] at H
                        have c14b0 : decide (x42_3 < (((l0.take ((wrap64 (x9_2 + a1)) : Int).toNat).drop (x9_2 : Int).toNat).length : Int)) = false := decide_eq_false c14
                        try (have c14b0_k := c14b0; rw [hcl1_.out] at c14b0_k)
                        try (have c14b0_q := eq_true (of_decide_eq_true c14b0_k))
                        clear c14
                        by_cases c20 : (x10_3.length : Int) > x8_2
                        · rw [if_pos c20] at H
                          have c20b0 : decide (x8_2 < (x10_3.length : Int)) = true := decide_eq_true c20
                          clear c20
                          have H' := Aside0.mk H
                          clear H
                          obtain ⟨Ao21, co21, eo21⟩ := Kd.V_slice HO_10.out
                          subst eo21
                          go_wp2
                          go_roundg k3
                          case measure => have := HJ2.out; have := HK2.out; have := HK3.out; omega
                          case rel => exact ⟨(x9_2), ((x10_3.length : Int)), (wrap64 (x9_2 + 1)), (by first | rfl | (simp; done) | (simp [*]; done)), (by first | rfl | (simp; done) | (simp [*]; done)), (by first | rfl | (simp; done) | (simp [*]; done)), H', ⟨by have := HJ2.out; have := HK2.out; have := HK3.out; omega⟩, ⟨by repeat (first | (with_reducible first | exact HB.out | apply below_alloc | apply pw_below_drewN | apply below_drew1) | exact HB.out)⟩⟩
                        · rw [if_neg c20] at H
                          have c20b0 : decide (x8_2 < (x10_3.length : Int)) = false := decide_eq_false c20
                          clear c20
                          have H' := Aside0.mk H
                          clear H
                          obtain ⟨Ao22, co22, eo22⟩ := Kd.V_slice HO_10.out
                          subst eo22
                          go_wp2
                          go_roundg k3
                          case measure => have := HJ2.out; have := HK2.out; have := HK3.out; omega
                          case rel => exact ⟨(x7_2), (x8_2), (wrap64 (x9_2 + 1)), (by first | rfl | (simp; done) | (simp [*]; done)), (by first | rfl | (simp; done) | (simp [*]; done)), (by first | rfl | (simp; done) | (simp [*]; done)), H', ⟨by have := HJ2.out; have := HK2.out; have := HK3.out; omega⟩, ⟨by repeat (first | (with_reducible first | exact HB.out | apply below_alloc | apply pw_below_drewN | apply below_drew1) | exact HB.out)⟩⟩
                · rw [if_neg c11] at H
                  exact absurd H (by simp)
              · rw [if_neg c10] at H
                exact absurd H (by simp)
            · rw [if_neg c9] at H
              have c9b0 : decide ((wrap64 (x9_2 + a1)) ≤ (l0.length : Int)) = false := decide_eq_false c9
              clear c9
              simp only [Option.some.injEq, Prod.mk.injEq] at H
              obtain ⟨rfl, rfl, rfl⟩ := H
              go_wp2
              go_ret3
              exact ⟨by first | rfl | (simp [errW_none, errW_some] <;> rfl) | (simp [*, errW_none, errW_some] <;> rfl), by repeat (first | (with_reducible first | exact HB.out | apply below_alloc | apply pw_below_drewN | apply below_drew1) | exact HB.out)⟩

end Go.Proofs.Ytfndkjklphajmaa.Q
