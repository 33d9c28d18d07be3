-- Written for the seat Ythcedgbjpkgoeaa by a program of this session (wip/tool/gx.py) out of the translation. Lean checks it.
import Derived.Test.YthcedgbjpkgoeaaQ0
import Derived.Test.YthcedgbjpkgoeaaQBSlicesCloneInt
import Derived.Test.YthcedgbjpkgoeaaQImplAreWords
import Derived.WalkSpells
import Derived.Test.YthcedgbjpkgoeaaWKept
import Derived.WalkSpells
import Derived.Test.YthcedgbjpkgoeaaWKept
import Derived.Test.YthcedgbjpkgoeaaWRepsOne
import Derived.Test.YthcedgbjpkgoeaaWApart
import Derived.Test.YthcedgbjpkgoeaaWFoot
import Derived.Test.YthcedgbjpkgoeaaWKept
import Derived.Test.YthcedgbjpkgoeaaWShare
import Derived.Test.YthcedgbjpkgoeaaWN
import Derived.Test.YthcedgbjpkgoeaaWRepsOne
namespace Go.Proofs.Ythcedgbjpkgoeaa.Q
open Go.RowKit Go.Proofs.YthcedgbjpkgoeaaW.PrintWords Go.Proofs.YthcedgbjpkgoeaaW.PrintLast Go.Proofs.YthcedgbjpkgoeaaW.PrintMore
attribute [local go_sem] max2_int min2_int max_two min_two max_three min_three max_four min_four   -- for this text's walks alone
set_option linter.unusedVariables false
set_option linter.unusedSimpArgs false

/-! ### impl_cycleFrom: function 51 -/
mutual
def impl_cycleFrom.f : Nat → List S59 → List Int → Int → Option (List Int)
  | 0, _, _, _ => none
  | k + 1, l, c, n => if 0 < c.length ∧ 0 ≤ wrap64 ((c.length : Int) - 1) ∧ wrap64 ((c.length : Int) - 1) < (c.length : Int) ∧ 0 ≤ rd c (wrap64 ((c.length : Int) - 1)) ∧ rd c (wrap64 ((c.length : Int) - 1)) < (l.length : Int) then (if (c.length : Int) = n then ((slices_Contains_int.f k (rd_T59 l (rd c (wrap64 ((c.length : Int) - 1)))).f1 (rd c 0)).bind fun b => if b = true then some c else some []) else impl_cycleFrom.l0 k l c n (rd_T59 l (rd c (wrap64 ((c.length : Int) - 1)))).f1 0) else none
def impl_cycleFrom.l0 : Nat → List S59 → List Int → Int → List Int → Int → Option (List Int)
  | 0, _, _, _, _, _ => none
  | k + 1, l, c, n, d, i => if i < (d.length : Int) then (if 0 ≤ i then (if rd d i < rd c 0 then impl_cycleFrom.l0 k l c n d (wrap64 (i + 1)) else ((slices_Contains_int.f k c (rd d i)).bind fun b => if b = true then impl_cycleFrom.l0 k l c n d (wrap64 (i + 1)) else ((slices_Clone_int.f c).bind fun c2 => if c2.length < 17592186044416 then ((impl_cycleFrom.f k l (c2 ++ [rd d i]) n).bind fun r => if r.length = 0 then impl_cycleFrom.l0 k l c n d (wrap64 (i + 1)) else some r) else none))) else none) else some []
end
theorem impl_cycleFrom.mono_l : ∀ k, (∀ y0 y1 y2, LeO (impl_cycleFrom.f k y0 y1 y2) (impl_cycleFrom.f (k + 1) y0 y1 y2)) ∧ (∀ y0 y1 y2 y3 y4, LeO (impl_cycleFrom.l0 k y0 y1 y2 y3 y4) (impl_cycleFrom.l0 (k + 1) y0 y1 y2 y3 y4))
  | 0 => ⟨fun _ _ _ r h => by simp [impl_cycleFrom.f] at h, fun _ _ _ _ _ r h => by simp [impl_cycleFrom.l0] at h⟩
  | k + 1 => by
    obtain ⟨ih0, ih1⟩ := impl_cycleFrom.mono_l k
    refine ⟨?_, ?_⟩
    · intro y0 y1 y2
      rw [impl_cycleFrom.f, impl_cycleFrom.f]
      repeat' first
      | (with_reducible exact ih1 _ _ _ _ _)
      | (with_reducible exact slices_Contains_int.mono _ _ _)
      | (with_reducible exact LeO.refl _)
      | (with_reducible refine LeO.ite ?_ ?_)
      | (with_reducible refine LeO.bind ?_ (fun _ => ?_))
    · intro y0 y1 y2 y3 y4
      rw [impl_cycleFrom.l0, impl_cycleFrom.l0]
      repeat' first
      | (with_reducible exact ih0 _ _ _)
      | (with_reducible exact ih1 _ _ _ _ _)
      | (with_reducible exact slices_Contains_int.mono _ _ _)
      | (with_reducible exact LeO.refl _)
      | (with_reducible refine LeO.ite ?_ ?_)
      | (with_reducible refine LeO.bind ?_ (fun _ => ?_))
theorem impl_cycleFrom.mono : ∀ a0 a1 a2 k, LeO (impl_cycleFrom.f k a0 a1 a2) (impl_cycleFrom.f (k + 1) a0 a1 a2) := fun a0 a1 a2 k => (impl_cycleFrom.mono_l k).1 a0 a1 a2
set_option maxHeartbeats 1000000
open Go.RowKit Go.Lib Go.Proofs.YthcedgbjpkgoeaaW.PrintWords Go.Proofs.YthcedgbjpkgoeaaW.PrintLast Go.Proofs.YthcedgbjpkgoeaaW.PrintMore Go.Proofs.YthcedgbjpkgoeaaW Go.Proofs.Ythcedgbjpkgoeaa.Q
set_option maxHeartbeats 2000000 in
set_option maxRecDepth 100000 in
theorem impl_cycleFrom.calls (k : Nat) : ∀ (A0 : Option Addr) (c0 : Nat) (l0 : List S59) (P0_ : Nat → Prop) (u9000_ : Value) (l1 : List Int) (a2 : Int) (r : List Int) (w0 w : World) (hB : Below w0.heap.size w0 w) (hr0 : Kd.C k59 w A0 l0.length l0) (hc0 : l0.length ≤ c0) (ho0 : Kd.R (Kd.int .i64) 3 w w0.heap.size P0_ u9000_ l1) (h : impl_cycleFrom.f k l0 l1 a2 = some r),
    Calls Try.prog 51 #[.slice A0 l0.length c0, u9000_, .int .i64 a2] w fun e w' => ∃ v0_ : Value, e = .returned v0_ ∧ Kd.R (Kd.int .i64) 3 w' w0.heap.size (fun k_ => (P0_ k_ ∨ w.heap.size ≤ k_)) v0_ r ∧ (r = [] → v0_ = .slice none 0 0) ∧ Below w.heap.size w w' := by
  induction k using Nat.strongRecOn with
  | _ k ih =>
  intro A0 c0 l0 P0_ u9000_ l1 a2 r w0 w hB hr0 hc0 ho0 h
  cases k with
  | zero => exact absurd h (by simp [impl_cycleFrom.f])
  | succ k =>
  rw [impl_cycleFrom.f] at h
  obtain ⟨ji, hji⟩ : ∃ j_ : Int, (wrap64 ((l1.length : Int) - 1)) = j_ := ⟨_, rfl⟩
  have hjiw : (IntKind.i64.wrap ((l1.length : Int) - 1)) = ji := (i64_w _).trans hji
  rw [hji] at h
  by_cases g : 0 < l1.length ∧ 0 ≤ ji ∧ ji < (l1.length : Int) ∧ 0 ≤ rd l1 ji ∧ rd l1 ji < (l0.length : Int)
  case neg => rw [if_neg g] at h; cases h
  rw [if_pos g] at h
  obtain ⟨g1, p101, q101, p105, q105⟩ := g
  obtain ⟨A1, c1, rfl⟩ := Kd.R_slice ho0
  have hC1 := (Kd.R_reads' ho0).2.2
  have hL1 := (Kd.R_reads' ho0).2.1
  obtain ⟨ad101, e101, hx101_0⟩ := Kd.at_int hC1 ji p101 q101
  cases e101
  obtain ⟨ad105, A105_1, c105_1, e105, hx105_0, hx105_1, hx105_2, hl105_1, hi105_1⟩ := at_T59 hr0 (rd l1 ji) p105 q105
  cases e105
  obtain ⟨ad103, e103, hx103_0⟩ := Kd.at_int hC1 0 (by omega) (by omega)
  obtain rfl : ad101 = ad103 := (by injection e103)
  have qi103 : (0 < l1.length) = True := eq_true g1
  rw [show ((0 : Int)).toNat = 0 from rfl] at hx103_0
  (try rw [Addr.add_zero'] at hx103_0)
  have HO := Aside0.mk ho0
  have HBB := Aside0.mk hB
  have HR0 := Aside0.mk hr0
  have HC0 := Aside0.mk hc0
  have HC1 := Aside0.mk hC1
  have HL1 := Aside0.mk hL1
  have HR105 := Aside0.mk hi105_1
  have HC105 := Aside0.mk hl105_1
  have P1 := eq_true p101
  have Q1 := eq_true q101
  have P2 := eq_true p105
  have Q2 := eq_true q105
  have Q3 : ((0 : Int) < (l1.length : Int)) = True := eq_true (by omega)
  clear ho0 hB hr0 hc0 hC1 hL1 hi105_1 hl105_1 e103
  generalize hnd : (rd_T59 l0 (rd l1 ji)).f1 = nd at *
  by_cases c7 : (l1.length : Int) = a2
  · rw [if_pos c7] at h
    have c7b0 : ((l1.length : Int) == a2) = true := beq_iff_eq.mpr c7
    have c7b1 : ((l1.length : Int) != a2) = false := bne_eq_false_iff_eq.mpr c7
    clear c7
    obtain ⟨b, A4, h⟩ := Option.bind_eq_some_iff.mp h
    have A4' := Aside0.mk A4
    clear A4
    cases b with
    | true =>
      rw [if_pos rfl] at h
      obtain rfl := Option.some.inj h
      go_enter Try.func51, Try.ntmps51
      go_wp2_with (go_at_call 60; refine (slices_Contains_int.calls k _ _ nd (rd l1 0) true _ HR105.out HC105.out A4'.out).mono ?_; rintro e w' ⟨rfl, ⟨nd_, rfl⟩⟩)
      go_ret
      exact ⟨_, rfl, Kd.R_drewN (Kd.R_mono HO.out (fun k_ hk => .inl hk)) _, fun e => by subst e; exact absurd (of_eq_true qi103) (by simp), pw_below_drewN (Below.refl _ _) _⟩
    | false =>
      rw [if_neg (by decide)] at h
      obtain rfl := Option.some.inj h
      go_enter Try.func51, Try.ntmps51
      go_wp2_with (go_at_call 60; refine (slices_Contains_int.calls k _ _ nd (rd l1 0) false _ HR105.out HC105.out A4'.out).mono ?_; rintro e w' ⟨rfl, ⟨nd_, rfl⟩⟩)
      go_ret
      exact ⟨_, rfl, Kd.R_nil _ _ _ _ _, fun _ => rfl, pw_below_drewN (Below.refl _ _) _⟩
  · rw [if_neg c7] at h
    have c7b0 : ((l1.length : Int) == a2) = false := beq_eq_false_iff_ne.mpr c7
    have c7b1 : ((l1.length : Int) != a2) = true := bne_iff_ne.mpr c7
    have H' := Aside0.mk h
    have HB := Aside0.mk (Below.refl w.heap.size w)
    clear h c7
    go_enter Try.func51, Try.ntmps51
    go_wp2
    go_loopg [33] k (fun kq v33 w' => ∃ (x33_1 : Int), v33 = .int .i64 x33_1 ∧ Aside0 (impl_cycleFrom.l0 kq l0 l1 a2 nd x33_1 = some r) ∧ Aside0 (kq ≤ k) ∧ Aside0 (Below w.heap.size w w'))
    case atStart => exact ⟨0, rfl, H', ⟨Nat.le_refl _⟩, HB⟩
    case round =>
      clear H' HB
      obtain ⟨x33, rfl, HA, HK1, HB⟩ := hrel
      cases gk with
      | zero => exact absurd HA.out (by simp [impl_cycleFrom.l0])
      | succ k1 =>
        have H := HA.out
        clear HA
        rw [impl_cycleFrom.l0] at H
        by_cases c6 : x33 < (nd.length : Int)
        · rw [if_pos c6] at H
          by_cases c8 : 0 ≤ x33
          case neg => rw [if_neg c8] at H; cases H
          rw [if_pos c8] at H
          have d6 : decide (x33 < (nd.length : Int)) = true := decide_eq_true c6
          have Q6 := eq_true c6
          have P6 := eq_true c8
          have hn_ := Kd.at_int (Kd.C_below HR105.out HB.out) x33 c8 c6
          obtain ⟨ad6, e6, hx6⟩ := hn_
          cases e6
          have hC0 := (HB.out.cell (World.block_lt_of_cell? w _ hx103_0)).trans hx103_0
          clear c6 c8
          by_cases c9 : rd nd x33 < rd l1 0
          · rw [if_pos c9] at H
            have d9 : decide (rd nd x33 < rd l1 0) = true := decide_eq_true c9
            have H' := Aside0.mk H
            clear H c9
            go_wp2
            go_roundg k1
            case measure => have := HK1.out; omega
            case rel => exact ⟨wrap64 (x33 + 1), (by first | rfl | (simp; done) | (simp [*]; done)), H', ⟨by have := HK1.out; omega⟩, HB⟩
          · rw [if_neg c9] at H
            have d9 : decide (rd nd x33 < rd l1 0) = false := decide_eq_false c9
            clear c9
            obtain ⟨b, A4, H⟩ := Option.bind_eq_some_iff.mp H
            have A5 := Aside0.mk A4
            clear A4
            cases b with
            | true =>
              rw [if_pos rfl] at H
              have H' := Aside0.mk H
              clear H
              go_wp2_with (go_at_call 60; refine (slices_Contains_int.calls k1 _ _ l1 (rd nd x33) true _ (Kd.C_below HC1.out HB.out) HL1.out A5.out).mono ?_; rintro e w' ⟨rfl, ⟨nd_, rfl⟩⟩)
              go_roundg k1
              case measure => have := HK1.out; omega
              case rel => exact ⟨wrap64 (x33 + 1), (by first | rfl | (simp; done) | (simp [*]; done)), H', ⟨by have := HK1.out; omega⟩, ⟨pw_below_drewN HB.out _⟩⟩
            | false =>
              rw [if_neg (by decide)] at H
              obtain ⟨c2, A6, H⟩ := Option.bind_eq_some_iff.mp H
              have A6' := Aside0.mk A6
              clear A6
              by_cases c12 : c2.length < 17592186044416
              case neg => rw [if_neg c12] at H; cases H
              rw [if_pos c12] at H
              have LM := Aside0.mk c12
              clear c12
              obtain ⟨t, A7, H⟩ := Option.bind_eq_some_iff.mp H
              have hqn := fun (w : World) => Go.run_neq_slice_nil_any (P := Try.prog) w 34 3 none 0 0 0 0 Try.underlying34
              have hqs := fun (w : World) (a : Addr) (n c : Nat) => Go.run_neq_slice_nil_any (P := Try.prog) w 34 3 (some a) n c 0 0 Try.underlying34
              by_cases ht : t.length = 0
              · rw [if_pos ht] at H
                obtain rfl := List.eq_nil_of_length_eq_zero ht
                have A7' := Aside0.mk A7
                have H' := Aside0.mk H
                clear A7 H ht
                go_wp2_with (first
                | (go_at_call 60; refine (slices_Contains_int.calls k1 _ _ l1 (rd nd x33) false _ (Kd.C_below HC1.out HB.out) HL1.out A5.out).mono ?_; rintro e w' ⟨rfl, ⟨nd_, rfl⟩⟩; have n0_ := Aside0.mk (pw_below_drewN HB.out nd_); clear HB; have HB := n0_; clear n0_)
                | (go_at_call 83; refine (slices_Clone_int.calls _ _ l1 c2 _ (Kd.C_below HC1.out (by repeat (first | exact HB.out | apply pw_below_drewN | apply below_drew1))) HL1.out A6'.out).mono ?_; rintro e w20 ⟨v20, rfl, ho, hb⟩; have HOC := Aside0.mk (Kd.R_lower (Kd.R_mono (Kd.R_bound ho) (fun k_ hk => (Nat.le_trans (below_size HB.out) hk.2.1 : w.heap.size ≤ k_))) (below_size HB.out)); have n0_ := Aside0.mk (below_step HB.out hb); clear HB; have HB := n0_; clear n0_ hb ho)
                | ((with_reducible refine gate_builtin (b := .append) (xs := #[.tmp 49, .tmp 51]) rfl ?_); at_builtin; refine Kd.R_append (Kd.int .i64) (w0 := w) w.heap.size rfl (.tmp 49) (.tmp 51) 34 3 (.int .i64 0) 8 rfl Try.underlying34 info3 rfl (by decide) (by omega) v20 c2 (rd nd x33) [.int .i64 (rd nd x33)] (fun k_ => (w.heap.size ≤ k_)) (fun _ => False) rfl rfl ?aP (fun _ hk => hk.elim) ?aF ?aO ?aB ?aS ?aL ?_; (case aP => exact rfl); (case aB => exact HB.out); (case aF => exact (fun k_ hk => Nat.le_trans (below_size HB.out) hk)); (case aO => exact HOC.out); (case aS => exact below_size HB.out); (case aL => have := LM.out; omega); intro v21 w21 ho hb hg hat; clear HOC HB; have HOC := Aside0.mk ho; have HB := Aside0.mk hb; clear ho hb hg hat)
                | (go_at_call 51; refine (ih k1 (by have := HK1.out; omega) _ _ l0 (fun k_ => w.heap.size ≤ k_) v21 (c2 ++ [rd nd x33]) a2 [] w _ HB.out (Kd.C_below HR0.out HB.out) HC0.out HOC.out A7'.out).mono ?_; rintro e w22 ⟨v22, rfl, ho, hnil, hb⟩; obtain rfl := hnil rfl; have n0_ := Aside0.mk (below_step HB.out hb); have HOR := Aside0.mk (Kd.R_mono (ok' := fun k_ => w.heap.size ≤ k_) ho (fun k_ hk => hk.elim id (fun h_ => Nat.le_trans (below_size HB.out) h_))); clear HB HOC; have HB := n0_; clear n0_ hb ho hnil))
                go_roundg k1
                case measure => have := HK1.out; omega
                case rel => exact ⟨wrap64 (x33 + 1), (by first | rfl | (simp; done) | (simp [*]; done)), H', ⟨by have := HK1.out; omega⟩, HB⟩
              · rw [if_neg ht] at H
                obtain rfl := Option.some.inj H
                have A7' := Aside0.mk A7
                have HT := Aside0.mk ht
                clear A7 H ht
                go_wp2_with (first
                | (go_at_call 60; refine (slices_Contains_int.calls k1 _ _ l1 (rd nd x33) false _ (Kd.C_below HC1.out HB.out) HL1.out A5.out).mono ?_; rintro e w' ⟨rfl, ⟨nd_, rfl⟩⟩; have n0_ := Aside0.mk (pw_below_drewN HB.out nd_); clear HB; have HB := n0_; clear n0_)
                | (go_at_call 83; refine (slices_Clone_int.calls _ _ l1 c2 _ (Kd.C_below HC1.out (by repeat (first | exact HB.out | apply pw_below_drewN | apply below_drew1))) HL1.out A6'.out).mono ?_; rintro e w20 ⟨v20, rfl, ho, hb⟩; have HOC := Aside0.mk (Kd.R_lower (Kd.R_mono (Kd.R_bound ho) (fun k_ hk => (Nat.le_trans (below_size HB.out) hk.2.1 : w.heap.size ≤ k_))) (below_size HB.out)); have n0_ := Aside0.mk (below_step HB.out hb); clear HB; have HB := n0_; clear n0_ hb ho)
                | ((with_reducible refine gate_builtin (b := .append) (xs := #[.tmp 49, .tmp 51]) rfl ?_); at_builtin; refine Kd.R_append (Kd.int .i64) (w0 := w) w.heap.size rfl (.tmp 49) (.tmp 51) 34 3 (.int .i64 0) 8 rfl Try.underlying34 info3 rfl (by decide) (by omega) v20 c2 (rd nd x33) [.int .i64 (rd nd x33)] (fun k_ => (w.heap.size ≤ k_)) (fun _ => False) rfl rfl ?aP (fun _ hk => hk.elim) ?aF ?aO ?aB ?aS ?aL ?_; (case aP => exact rfl); (case aB => exact HB.out); (case aF => exact (fun k_ hk => Nat.le_trans (below_size HB.out) hk)); (case aO => exact HOC.out); (case aS => exact below_size HB.out); (case aL => have := LM.out; omega); intro v21 w21 ho hb hg hat; clear HOC HB; have HOC := Aside0.mk ho; have HB := Aside0.mk hb; clear ho hb hg hat)
                | (go_at_call 51; refine (ih k1 (by have := HK1.out; omega) _ _ l0 (fun k_ => w.heap.size ≤ k_) v21 (c2 ++ [rd nd x33]) a2 t w _ HB.out (Kd.C_below HR0.out HB.out) HC0.out HOC.out A7'.out).mono ?_; rintro e w22 ⟨v22, rfl, ho, hnil, hb⟩; obtain ⟨g_, cap_, rfl, _⟩ := Kd.R_form ho (Nat.pos_of_ne_zero HT.out); have n0_ := Aside0.mk (below_step HB.out hb); have HOR := Aside0.mk (Kd.R_mono (ok' := fun k_ => w.heap.size ≤ k_) ho (fun k_ hk => hk.elim id (fun h_ => Nat.le_trans (below_size HB.out) h_))); clear HB HOC; have HB := n0_; clear n0_ hb ho hnil))
                go_ret
                exact ⟨_, rfl, Kd.R_lower (Kd.R_mono HOR.out (fun k_ hk => .inr hk)) (below_size HBB.out), fun e => absurd (by rw [e]; rfl) HT.out, HB.out⟩
        · rw [if_neg c6] at H
          have d6 : decide (x33 < (nd.length : Int)) = false := decide_eq_false c6
          obtain rfl := Option.some.inj H
          go_wp2
          go_ret
          exact ⟨.slice none 0 0, rfl, Kd.R_nil _ _ _ _ _, by first | exact fun _ => rfl | rfl, HB.out⟩


/-! ### impl_CycleOf: function 19 -/
mutual
def impl_CycleOf.l0 : Nat → List S59 → Int → Option (List Int × Bool)
  | 0, _, _ => none
  | k + 1, l, n => if n ≤ (l.length : Int) then impl_CycleOf.l1 k l n 0 else some ([], false)
def impl_CycleOf.l1 : Nat → List S59 → Int → Int → Option (List Int × Bool)
  | 0, _, _, _ => none
  | k + 1, l, n, i => if i < (l.length : Int) then ((impl_cycleFrom.f k l [i] n).bind fun r => if r.length = 0 then impl_CycleOf.l1 k l n (wrap64 (i + 1)) else some (r, true)) else impl_CycleOf.l0 k l (wrap64 (n + 1))
end
def impl_CycleOf.f (k : Nat) (l : List S59) : Option (List Int × Bool) := (impl_AreWords.f k l).bind fun b => if b = true then impl_CycleOf.l0 k l 2 else some ([], false)
theorem impl_CycleOf.mono_l : ∀ k, (∀ y0 y1, LeO (impl_CycleOf.l0 k y0 y1) (impl_CycleOf.l0 (k + 1) y0 y1)) ∧ (∀ y0 y1 y2, LeO (impl_CycleOf.l1 k y0 y1 y2) (impl_CycleOf.l1 (k + 1) y0 y1 y2))
  | 0 => ⟨fun _ _ r h => by simp [impl_CycleOf.l0] at h, fun _ _ _ r h => by simp [impl_CycleOf.l1] at h⟩
  | k + 1 => by
    obtain ⟨ih0, ih1⟩ := impl_CycleOf.mono_l k
    refine ⟨?_, ?_⟩
    · intro y0 y1
      rw [impl_CycleOf.l0, impl_CycleOf.l0]
      exact LeO.ite (ih1 _ _ _) (LeO.refl _)
    · intro y0 y1 y2
      rw [impl_CycleOf.l1, impl_CycleOf.l1]
      exact LeO.ite (LeO.bind (impl_cycleFrom.mono _ _ _ _) (fun _ => LeO.ite (ih1 _ _ _) (LeO.refl _))) (ih0 _ _)
theorem impl_CycleOf.mono : ∀ a0 k, LeO (impl_CycleOf.f k a0) (impl_CycleOf.f (k + 1) a0) := by
  intro a0 k
  unfold impl_CycleOf.f
  exact LeO.bind (impl_AreWords.mono _ _) (fun _ => LeO.ite ((impl_CycleOf.mono_l k).1 _ _) (LeO.refl _))
set_option maxHeartbeats 1000000
open Go.RowKit Go.Lib Go.Proofs.YthcedgbjpkgoeaaW.PrintWords Go.Proofs.YthcedgbjpkgoeaaW.PrintLast Go.Proofs.YthcedgbjpkgoeaaW.PrintMore Go.Proofs.YthcedgbjpkgoeaaW Go.Proofs.Ythcedgbjpkgoeaa.Q
set_option maxHeartbeats 2000000 in
set_option maxRecDepth 100000 in
theorem impl_CycleOf.calls (k : Nat) (A0 : Option Addr) (c0 : Nat) (l0 : List S59) (r1 : List Int) (r2 : Bool) (w : World) (hr0 : Kd.C k59 w A0 l0.length l0) (hc0 : l0.length ≤ c0) (h : impl_CycleOf.f k l0 = some (r1, r2)) :
    Calls Try.prog 19 #[.slice A0 l0.length c0] w fun e w' => ∃ v0_ : Value, e = .returned (.tuple #[v0_, .bool r2]) ∧ Kd.R (Kd.int .i64) 3 w' w.heap.size (fun _ => True) v0_ r1 ∧ Below w.heap.size w w' := by
  have HR0 := Aside0.mk hr0
  have HC0 := Aside0.mk hc0
  clear hr0 hc0
  have HB := Aside0.mk (Below.refl w.heap.size w)
  have hqn := fun (w : World) => Go.run_neq_slice_nil_any (P := Try.prog) w 34 3 none 0 0 0 0 Try.underlying34
  have hqs := fun (w : World) (a : Addr) (n c : Nat) => Go.run_neq_slice_nil_any (P := Try.prog) w 34 3 (some a) n c 0 0 Try.underlying34
  unfold impl_CycleOf.f at h
  obtain ⟨b, A3, h⟩ := Option.bind_eq_some_iff.mp h
  have A3' := Aside0.mk A3
  clear A3
  cases b with
  | false =>
    rw [if_neg (by decide)] at h
    simp only [Option.some.injEq, Prod.mk.injEq] at h
    obtain ⟨rfl, rfl⟩ := h
    go_enter Try.func19, Try.ntmps19
    go_wp2_with (go_at_call 44; refine (impl_AreWords.calls k _ _ l0 false _ HR0.out HC0.out A3'.out).mono ?_; rintro e w5 ⟨rfl, hb⟩; have n0_ := Aside0.mk (below_step HB.out hb); clear HB; have HB := n0_; clear n0_ hb)
    go_ret2
    exact ⟨.slice none 0 0, by first | rfl | (simp; done), Kd.R_nil _ _ _ _ _, HB.out⟩
  | true =>
    rw [if_pos rfl] at h
    have H' := Aside0.mk h
    clear h
    go_enter Try.func19, Try.ntmps19
    go_wp2_with (go_at_call 44; refine (impl_AreWords.calls k _ _ l0 true _ HR0.out HC0.out A3'.out).mono ?_; rintro e w5 ⟨rfl, hb⟩; have n0_ := Aside0.mk (below_step HB.out hb); clear HB; have HB := n0_; clear n0_ hb)
    go_loopg [4] k (fun kq v4 w' => ∃ (x4_1 : Int), v4 = .int .i64 x4_1 ∧ Aside0 (impl_CycleOf.l0 kq l0 x4_1 = some (r1, r2)) ∧ Aside0 (kq ≤ k) ∧ Aside0 (Below w.heap.size w w'))
    case atStart => exact ⟨2, rfl, H', ⟨Nat.le_refl _⟩, HB⟩
    case round =>
      clear H' HB A3'
      obtain ⟨x4_1, rfl, HA, HK1, HB⟩ := hrel
      cases gk with
      | zero => exact absurd HA.out (by simp [impl_CycleOf.l0])
      | succ k1 =>
        have H := HA.out
        clear HA
        rw [impl_CycleOf.l0] at H
        by_cases c2 : x4_1 ≤ (l0.length : Int)
        · rw [if_pos c2] at H
          have c2b0 : decide (x4_1 ≤ (l0.length : Int)) = true := decide_eq_true c2
          clear c2
          have H' := Aside0.mk H
          clear H
          go_wp2
          go_loopg [18] k1 (fun kq v18 w' => ∃ (x18_2 : Int), v18 = .int .i64 x18_2 ∧ Aside0 (impl_CycleOf.l1 kq l0 x4_1 x18_2 = some (r1, r2)) ∧ Aside0 (kq ≤ k1) ∧ Aside0 (Below w.heap.size w w'))
          case atStart => exact ⟨0, (by first | rfl | (simp; done) | (simp [*]; done)), H', ⟨Nat.le_refl _⟩, HB⟩
          case round =>
            clear H' HB c2b0
            obtain ⟨x18_2, rfl, HA, HK2, HB⟩ := hrel
            cases gk with
            | zero => exact absurd HA.out (by simp [impl_CycleOf.l1])
            | succ k2 =>
              have H := HA.out
              clear HA
              rw [impl_CycleOf.l1] at H
              by_cases c3 : x18_2 < (l0.length : Int)
              · rw [if_pos c3] at H
                have c3b0 : decide (x18_2 < (l0.length : Int)) = true := decide_eq_true c3
                clear c3
                obtain ⟨t, A7, H⟩ := Option.bind_eq_some_iff.mp H
                by_cases ht : t.length = 0
                · rw [if_pos ht] at H
                  obtain rfl := List.eq_nil_of_length_eq_zero ht
                  have A7' := Aside0.mk A7
                  have H' := Aside0.mk H
                  clear A7 H ht
                  go_wp2_with (first
                  | ((with_reducible refine gate_dst (N := 23) rfl ?_); refine Kd.R_lit (Kd.int .i64) _ 3 ?hg (N := 23) ?hd (xs := ([x18_2] : List Int)) (inner := [.int .i64 x18_2]) (ok := fun _ => True) (okp := fun _ => True) ?hr ?hp (fun _ hk => hk) trivial (Below.refl _ _) (Nat.le_refl _) (by simp) ?_; (case hd => rfl); (case hg => rfl); (case hr => first | (go_simp; done) | (go_simp; rfl)); (case hp => exact (Reps.one (show Kd.M (Kd.int .i64) _ _ _ x18_2 [.int .i64 x18_2] from rfl) (Reps.none _ _))); intro v102 w6 ho7 hb hg_ hnew_; clear hg_ hnew_; have HOC := Aside0.mk (Kd.R_lower ho7 (below_size HB.out)); have n1_ := Aside0.mk (below_step HB.out hb); clear HB; have HB := n1_; clear n1_ hb ho7)
                  | (go_at_call 51; refine (impl_cycleFrom.calls k2 _ _ l0 (fun _ => True) v102 [x18_2] x4_1 [] w _ HB.out (Kd.C_below HR0.out HB.out) HC0.out HOC.out A7'.out).mono ?_; rintro e w22 ⟨v22, rfl, ho, hnil, hb⟩; obtain rfl := hnil rfl; have n0_ := Aside0.mk (below_step HB.out hb); clear HB HOC; have HB := n0_; clear n0_ hb ho hnil))
                  go_roundg k2
                  case measure => have := HK1.out; have := HK2.out; omega
                  case rel => exact ⟨wrap64 (x18_2 + 1), (by first | rfl | (simp; done) | (simp [*]; done)), H', ⟨by have := HK2.out; omega⟩, HB⟩
                · rw [if_neg ht] at H
                  simp only [Option.some.injEq, Prod.mk.injEq] at H
                  obtain ⟨rfl, rfl⟩ := H
                  have A7' := Aside0.mk A7
                  have HT := Aside0.mk ht
                  clear A7 ht
                  go_wp2_with (first
                  | ((with_reducible refine gate_dst (N := 23) rfl ?_); refine Kd.R_lit (Kd.int .i64) _ 3 ?hg (N := 23) ?hd (xs := ([x18_2] : List Int)) (inner := [.int .i64 x18_2]) (ok := fun _ => True) (okp := fun _ => True) ?hr ?hp (fun _ hk => hk) trivial (Below.refl _ _) (Nat.le_refl _) (by simp) ?_; (case hd => rfl); (case hg => rfl); (case hr => first | (go_simp; done) | (go_simp; rfl)); (case hp => exact (Reps.one (show Kd.M (Kd.int .i64) _ _ _ x18_2 [.int .i64 x18_2] from rfl) (Reps.none _ _))); intro v102 w6 ho7 hb hg_ hnew_; clear hg_ hnew_; have HOC := Aside0.mk (Kd.R_lower ho7 (below_size HB.out)); have n1_ := Aside0.mk (below_step HB.out hb); clear HB; have HB := n1_; clear n1_ hb ho7)
                  | (go_at_call 51; refine (impl_cycleFrom.calls k2 _ _ l0 (fun _ => True) v102 [x18_2] x4_1 t w _ HB.out (Kd.C_below HR0.out HB.out) HC0.out HOC.out A7'.out).mono ?_; rintro e w22 ⟨v22, rfl, ho, hnil, hb⟩; obtain ⟨g_, cap_, rfl, _⟩ := Kd.R_form ho (Nat.pos_of_ne_zero HT.out); have HOR := Aside0.mk (Kd.R_mono (ok' := fun _ => True) ho (fun _ _ => trivial)); have n0_ := Aside0.mk (below_step HB.out hb); clear HB HOC; have HB := n0_; clear n0_ hb ho hnil))
                  go_ret2
                  exact ⟨_, by first | rfl | (simp; done), HOR.out, HB.out⟩
              · rw [if_neg c3] at H
                have c3b0 : decide (x18_2 < (l0.length : Int)) = false := decide_eq_false c3
                clear c3
                have H' := Aside0.mk H
                clear H
                go_wp2
                go_roundg k2
                case measure => have := HK1.out; have := HK2.out; omega
                case rel => exact ⟨wrap64 (x4_1 + 1), (by first | rfl | (simp; done) | (simp [*]; done)), H', ⟨by have := HK1.out; have := HK2.out; omega⟩, HB⟩
        · rw [if_neg c2] at H
          have c2b0 : decide (x4_1 ≤ (l0.length : Int)) = false := decide_eq_false c2
          clear c2
          simp only [Option.some.injEq, Prod.mk.injEq] at H
          obtain ⟨rfl, rfl⟩ := H
          go_wp2
          go_ret2
          exact ⟨.slice none 0 0, by first | rfl | (simp; done), Kd.R_nil _ _ _ _ _, HB.out⟩


/-! ### laws_markIntS: function 22 -/
def laws_markIntS.l0 : Nat → List Int → Int → Int → Option (Int × List Int)
  | 0, _, _, _ => none
  | k + 1, x0, x1, x5 => if x5 < (x0.length : Int) then (if 0 ≤ x5 then (laws_markIntS.l0 k (x0.set (x5 : Int).toNat x1) (wrap64 (x1 + 1)) (wrap64 (x5 + 1))) else (none)) else (some (x1, x0))
def laws_markIntS.f (k : Nat) (l0 : List Int) (a1 : Int) : Option (Int × List Int) := laws_markIntS.l0 k l0 a1 0
theorem laws_markIntS.mono_l : ∀ k, (∀ y0 y1 y2, LeO (laws_markIntS.l0 k y0 y1 y2) (laws_markIntS.l0 (k + 1) y0 y1 y2))
  | 0 => fun _ _ _ r h => by simp [laws_markIntS.l0] at h
  | k + 1 => by
    have ih0 := laws_markIntS.mono_l k
    · intro y0 y1 y2
      unfold laws_markIntS.l0
      repeat' first
      | (with_reducible exact ih0 _ _ _)
      | (with_reducible exact LeO.refl _)
      | (with_reducible exact LeO.none _)
      | (with_reducible refine LeO.ite ?_ ?_)
      | (with_reducible refine LeO.bind ?_ (fun _ => ?_))
      | exact ih0 _ _ _
      | exact LeO.none _
      | refine LeO.ite ?_ ?_
      | refine LeO.bind ?_ (fun _ => ?_)
theorem laws_markIntS.mono : ∀ a0 a1 k, LeO (laws_markIntS.f k a0 a1) (laws_markIntS.f (k + 1) a0 a1) := by
  intro a0 a1 k
  have ih0 := laws_markIntS.mono_l k
  unfold laws_markIntS.f
  repeat' first
      | (with_reducible exact ih0 _ _ _)
      | (with_reducible exact LeO.refl _)
      | (with_reducible exact LeO.none _)
      | (with_reducible refine LeO.ite ?_ ?_)
      | (with_reducible refine LeO.bind ?_ (fun _ => ?_))
      | exact ih0 _ _ _
      | exact LeO.none _
      | refine LeO.ite ?_ ?_
      | refine LeO.bind ?_ (fun _ => ?_)
set_option maxHeartbeats 3000000 in
set_option maxRecDepth 100000 in
theorem laws_markIntS.calls (k : Nat) (P0_ : Nat → Prop) (u9000_ : Value) (l0 : List Int) (a1 : Int) (r1 : Int) (r2 : List Int) (w0 w : World) (hB : Below w0.heap.size w0 w) (ho0 : Kd.R (Kd.int .i64) 3 w w0.heap.size P0_ u9000_ l0) (h : laws_markIntS.f k l0 a1 = some (r1, r2)) :
    Calls Try.prog 22 #[u9000_, .int .i64 a1] w fun e w' => e = .returned (.int .i64 r1) ∧ Kd.R (Kd.int .i64) 3 w' w0.heap.size (fun k_ => (P0_ k_ ∨ w.heap.size ≤ k_)) u9000_ r2 ∧ Below w0.heap.size w0 w' ∧ Kept w w' (fun k_ => P0_ k_) := by
  have HO0 := Aside0.mk (show Kd.R (Kd.int .i64) 3 w w0.heap.size (fun k_ => (P0_ k_ ∨ w.heap.size ≤ k_)) u9000_ l0 from Kd.R_mono ho0 (fun k_ hk => (.inl hk)))
  have HK := Aside0.mk (Kept.refl w (fun k_ => P0_ k_))
  have HW0 := Aside0.mk hB.size
  have HB := Aside0.mk hB
  clear hB
  have H : (laws_markIntS.l0 k l0 a1 0) = some (r1, r2) := h
  clear h
  have H' := Aside0.mk H
  clear H
  go_enter Try.func22, Try.ntmps22
  go_wp2
  go_loopg [1, 5] k (fun kq v1 v5 w' => ∃ (x0_1 : List Int) (x1_1 : Int) (x5_1 : Int), v1 = .int .i64 x1_1 ∧ v5 = .int .i64 x5_1 ∧ Aside0 (laws_markIntS.l0 kq x0_1 x1_1 x5_1 = some (r1, r2)) ∧ Aside0 (kq ≤ k) ∧ Aside0 (Kd.R (Kd.int .i64) 3 w' w0.heap.size (fun k_ => (P0_ k_ ∨ w.heap.size ≤ k_)) u9000_ x0_1) ∧ Aside0 (Kept w w' (fun k_ => P0_ k_)) ∧ Aside0 (Below w0.heap.size w0 w'))
  case atStart => exact ⟨(l0), (a1), (0), (by first | rfl | (simp; done) | (simp [*]; done)), (by first | rfl | (simp; done) | (simp [*]; done)), H', ⟨Nat.le_refl _⟩, ⟨by (with_reducible repeat (first | apply Kd.R_alloc | apply Kd.R_drewN | apply Kd.R_drew)); exact HO0.out⟩, ⟨by repeat (first | (with_reducible first | exact HK.out | apply Kept.alloc | apply Kept.drewN | apply Kept.drew) | exact HK.out)⟩, ⟨by repeat (first | (with_reducible first | exact HB.out | apply below_alloc | apply pw_below_drewN | apply below_drew1) | exact HB.out)⟩⟩
  case round =>
    clear H'
    try clear c2
    try clear p2
    obtain ⟨x0_1, x1_1, x5_1, rfl, rfl, HA, HK1, HO_0, HK, HB⟩ := hrel
    cases gk with
    | zero => exact absurd HA.out (by simp [laws_markIntS.l0])
    | succ k1 =>
      have H := HA.out
      clear HA
      simp only [laws_markIntS.l0] at H
      by_cases c3 : x5_1 < (x0_1.length : Int)
      · rw [if_pos c3] at H
        have c3b0 : decide (x5_1 < (x0_1.length : Int)) = true := decide_eq_true c3
        clear c3
        by_cases c4 : 0 ≤ x5_1
        · rw [if_pos c4] at H
          have c4b0 : decide (0 ≤ x5_1) = true := decide_eq_true c4
          clear c4
          obtain ⟨y101, hy101⟩ : ∃ y_ : List Int, y_ = (x0_1.set (x5_1 : Int).toNat x1_1) := ⟨_, rfl⟩
          replace H : (laws_markIntS.l0 k1 y101 (wrap64 (x1_1 + 1)) (wrap64 (x5_1 + 1))) = some (r1, r2) := by first | (rw [hy101]; with_reducible exact H) | (have H2_ := (Option.bind_some _ _).symm.trans H; rw [hy101]; with_reducible exact H2_) | (have H2_ := (Option.bind_some _ _).symm.trans H; with_reducible exact H2_) | with_reducible exact H | (rw [hy101]; exact H) | exact H
          have Ny101 := Aside0.mk hy101
          clear hy101
          have H' := Aside0.mk H
          clear H
          obtain ⟨Ao6, co6, eo6⟩ := Kd.R_slice HO_0.out
          subst eo6
          have p5 : 0 ≤ (x5_1 : Int) := of_decide_eq_true (by first | (with_reducible assumption) | assumption)
          have q5 : (x5_1 : Int) < ((x0_1.length : Int) : Int) := of_decide_eq_true (by first | (with_reducible assumption) | assumption)
          obtain ⟨go5, co5, eo5, gb5, gl5, cl5, HG5⟩ := Kd.R_form HO_0.out (by omega)
          (first | cases eo5 | (injection eo5 with ea_ en_ ec_; (first | subst ea_ | (injection ea_ with ea_; subst ea_)); subst ec_; clear en_))
          have GB5 := Aside0.mk gb5
          have GG5 := Aside0.mk HG5
          clear gb5 gl5 HG5
          have HMgo5 := Aside0.mk (show (P0_ go5 ∨ w.heap.size ≤ go5) from (HO_0.out.1 _ rfl))
          obtain ⟨hx5_0, hf5_0⟩ := Kd.R_celln 0 HO_0.out (x5_1 : Int) p5 q5
          replace p5 := eq_true p5
          replace q5 := eq_true q5
          have HP7 := Kd.R_putg HO_0.out (x5_1 : Int) x1_1
          go_wp2_with (first | ((with_reducible refine gate_store (t := 3) (p := 15) rfl ?_); refine store_event (t := 3) (p := 15) (v := ?vo_w8) (w1 := (wr.setCell ⟨go5, (x5_1 : Int).toNat, none⟩ (.int .i64 x1_1))) ?hg ?ho ?hn ?hr ?_; (case ho => rfl); (case hg => rfl); (case hn => rfl); (case hr => first | (go_simp; done) | (go_simp; rfl)); intro w8 hw; have hg : wr.grownBy w8 (some go5) := (by rw [hw]; exact HP7.2); have hp_ : Kd.R (Kd.int .i64) 3 w8 w0.heap.size (fun k_ => (P0_ k_ ∨ w.heap.size ≤ k_)) (.slice (some ⟨go5, 0, none⟩) x0_1.length co6) y101 := (by rw [hw, Ny101.out]; exact HP7.1); clear HP7; have n0_ := Aside0.mk (hp_); have n1_ := Aside0.mk ((by rw [hw]; exact below_set (HB.out) GB5.out : Below w0.heap.size w0 w8)); have n2_ := Aside0.mk (Kept.of_grown (S := (fun k_ => P0_ k_)) hg (by repeat (first | (with_reducible first | exact HK.out | apply Kept.alloc | apply Kept.drewN | apply Kept.drew) | exact HK.out)) (fun k_ e_ => (HO_0.out.1 k_ e_))); clear HO_0; clear HB; clear HK; have HO_0 := n0_; have HB := n1_; have HK := n2_; clear n0_ n1_ n2_; clear hg hw hp_))
          go_roundg k1
          case measure => have := HK1.out; omega
          case rel => exact ⟨(y101), (wrap64 (x1_1 + 1)), (wrap64 (x5_1 + 1)), (by first | rfl | (simp; done) | (simp [*]; done)), (by first | rfl | (simp; done) | (simp [*]; done)), H', ⟨by have := HK1.out; omega⟩, ⟨by (with_reducible repeat (first | apply Kd.R_alloc | apply Kd.R_drewN | apply Kd.R_drew)); exact HO_0.out⟩, ⟨by repeat (first | (with_reducible first | exact HK.out | apply Kept.alloc | apply Kept.drewN | apply Kept.drew) | exact HK.out)⟩, ⟨by repeat (first | (with_reducible first | exact HB.out | apply below_alloc | apply pw_below_drewN | apply below_drew1) | exact HB.out)⟩⟩
        · rw [if_neg c4] at H
          exact absurd H (by simp)
      · rw [if_neg c3] at H
        have c3b0 : decide (x5_1 < (x0_1.length : Int)) = false := decide_eq_false c3
        clear c3
        simp only [Option.some.injEq, Prod.mk.injEq] at H
        obtain ⟨rfl, rfl⟩ := H
        obtain ⟨Ao9, co9, eo9⟩ := Kd.R_slice HO_0.out
        subst eo9
        go_wp2
        go_ret
        exact ⟨by first | rfl | (simp [errW_none, errW_some] <;> rfl) | (simp [*, errW_none, errW_some] <;> rfl), by (with_reducible repeat (first | apply Kd.R_alloc | apply Kd.R_drewN | apply Kd.R_drew)); exact HO_0.out, by repeat (first | (with_reducible first | exact HB.out | apply below_alloc | apply pw_below_drewN | apply below_drew1) | exact HB.out), by repeat (first | (with_reducible first | exact HK.out | apply Kept.alloc | apply Kept.drewN | apply Kept.drew) | exact HK.out)⟩

/-! ### laws_markText: function 52 -/
def laws_markText.l0 : Nat → Int → ByteArray → Option (ByteArray)
  | 0, _, _ => none
  | k + 1, x0, x3 => if x0 > 0 then ((some (([(wrap64 (48 + (Int.tmod x0 10))) % 256] : List Int) : List Int)).bind fun y101 => (if (strOfNums y101).size + x3.size ≤ 9223372036854775807 then (laws_markText.l0 k (wrap64 (Int.tdiv x0 10)) ((strOfNums y101) ++ x3)) else (none))) else (if 1 + x3.size ≤ 9223372036854775807 then (some ((⟨#[109]⟩ : ByteArray) ++ x3)) else (none))
def laws_markText.f (k : Nat) (a0 : Int) : Option (ByteArray) := if a0 ≤ 0 then (some (⟨#[109, 48]⟩ : ByteArray)) else (laws_markText.l0 k a0 (⟨#[]⟩ : ByteArray))
theorem laws_markText.mono_l : ∀ k, (∀ y0 y1, LeO (laws_markText.l0 k y0 y1) (laws_markText.l0 (k + 1) y0 y1))
  | 0 => fun _ _ r h => by simp [laws_markText.l0] at h
  | k + 1 => by
    have ih0 := laws_markText.mono_l k
    · intro y0 y1
      unfold laws_markText.l0
      repeat' first
      | (with_reducible exact ih0 _ _)
      | (with_reducible exact LeO.refl _)
      | (with_reducible exact LeO.none _)
      | (with_reducible refine LeO.ite ?_ ?_)
      | (with_reducible refine LeO.bind ?_ (fun _ => ?_))
      | exact ih0 _ _
      | exact LeO.none _
      | refine LeO.ite ?_ ?_
      | refine LeO.bind ?_ (fun _ => ?_)
theorem laws_markText.mono : ∀ a0 k, LeO (laws_markText.f k a0) (laws_markText.f (k + 1) a0) := by
  intro a0 k
  have ih0 := laws_markText.mono_l k
  unfold laws_markText.f
  repeat' first
      | (with_reducible exact ih0 _ _)
      | (with_reducible exact LeO.refl _)
      | (with_reducible exact LeO.none _)
      | (with_reducible refine LeO.ite ?_ ?_)
      | (with_reducible refine LeO.bind ?_ (fun _ => ?_))
      | exact ih0 _ _
      | exact LeO.none _
      | refine LeO.ite ?_ ?_
      | refine LeO.bind ?_ (fun _ => ?_)
set_option maxHeartbeats 3000000 in
set_option maxRecDepth 100000 in
theorem laws_markText.calls (k : Nat) (a0 : Int) (r : ByteArray) (w : World) (h : laws_markText.f k a0 = some r) :
    Calls Try.prog 52 #[.int .i64 a0] w fun e w' => e = .returned (.string r) ∧ Below w.heap.size w w' := by
  have HB := Aside0.mk (Below.refl w.heap.size w)
  have H : (if a0 ≤ 0 then (some (⟨#[109, 48]⟩ : ByteArray)) else (laws_markText.l0 k a0 (⟨#[]⟩ : ByteArray))) = some r := h
  clear h
  by_cases c2 : a0 ≤ 0
  · rw [if_pos c2] at H
    have c2b0 : decide (a0 ≤ 0) = true := decide_eq_true c2
    clear c2
    obtain rfl := Option.some.inj H
    go_enter Try.func52, Try.ntmps52
    go_wp2
    go_ret
    exact ⟨by first | rfl | (simp [errW_none, errW_some] <;> rfl) | (simp [*, errW_none, errW_some] <;> rfl), by repeat (first | (with_reducible first | exact HB.out | apply below_alloc | apply pw_below_drewN | apply below_drew1) | exact HB.out)⟩
  · rw [if_neg c2] at H
    have c2b0 : decide (a0 ≤ 0) = false := decide_eq_false c2
    clear c2
    have H' := Aside0.mk H
    clear H
    go_enter Try.func52, Try.ntmps52
    go_wp2
    go_loopg [0, 3] k (fun kq v0 v3 w' => ∃ (x0_1 : Int) (x3_1 : ByteArray), v0 = .int .i64 x0_1 ∧ v3 = .string x3_1 ∧ Aside0 (laws_markText.l0 kq x0_1 x3_1 = some r) ∧ Aside0 (kq ≤ k) ∧ Aside0 (Below w.heap.size w w'))
    case atStart => exact ⟨(a0), ((⟨#[]⟩ : ByteArray)), (by first | rfl | (simp; done) | (simp [*]; done)), (by first | rfl | (simp; done) | (simp [*]; done)), H', ⟨Nat.le_refl _⟩, ⟨by repeat (first | (with_reducible first | exact HB.out | apply below_alloc | apply pw_below_drewN | apply below_drew1) | exact HB.out)⟩⟩
    case round =>
      clear H'
      try clear c2
      try clear c2b0
      try clear p2
      obtain ⟨x0_1, x3_1, rfl, rfl, HA, HK1, HB⟩ := hrel
      cases gk with
      | zero => exact absurd HA.out (by simp [laws_markText.l0])
      | succ k1 =>
        have H := HA.out
        clear HA
        simp only [laws_markText.l0] at H
        by_cases c3 : x0_1 > 0
        · rw [if_pos c3] at H
          have c3b0 : decide (0 < x0_1) = true := decide_eq_true c3
          clear c3
          obtain ⟨y101, hy101⟩ : ∃ y_ : List Int, y_ = (([(wrap64 (48 + (Int.tmod x0_1 10))) % 256] : List Int)) := ⟨_, rfl⟩
          replace H : (if (strOfNums y101).size + x3_1.size ≤ 9223372036854775807 then (laws_markText.l0 k1 (wrap64 (Int.tdiv x0_1 10)) ((strOfNums y101) ++ x3_1)) else (none)) = some r := by first | (rw [hy101]; with_reducible exact H) | (have H2_ := (Option.bind_some _ _).symm.trans H; rw [hy101]; with_reducible exact H2_) | (have H2_ := (Option.bind_some _ _).symm.trans H; with_reducible exact H2_) | with_reducible exact H | (rw [hy101]; exact H) | exact H
          have Ny101 := Aside0.mk hy101
          clear hy101
          by_cases c4 : (strOfNums y101).size + x3_1.size ≤ 9223372036854775807
          · rw [if_pos c4] at H
            have c4b0 := eq_true c4
            have c4b1 : decide ((strOfNums y101).size + x3_1.size ≤ 9223372036854775807) = true := decide_eq_true c4
            try have c4b2 : (9223372036854775807 < (strOfNums y101).size + x3_1.size) = False := eq_false (Nat.not_lt.2 c4)
            have H' := Aside0.mk H
            clear H
            go_wp2_with (first | ((with_reducible refine gate_dst (N := 12) rfl ?_); refine Kd.R_lit (Kd.int .u8) _ 5 ?hg (N := 12) ?hd (xs := ([(wrap64 (48 + (Int.tmod x0_1 10))) % 256] : List Int)) (inner := [.int .u8 ((wrap64 (48 + (Int.tmod x0_1 10))) % 256)]) (ok := fun _ => True) (okp := fun _ => True) ?hr ?hp (fun _ hk => hk) trivial (Below.refl _ _) (Nat.le_refl _) (by simp) ?_; (case hd => rfl); (case hg => rfl); (case hr => first | (go_simp; done) | (go_simp; rfl)); (case hp => exact (Reps.one (show Kd.M (Kd.int .u8) _ _ _ ((wrap64 (48 + (Int.tmod x0_1 10))) % 256) [.int .u8 ((wrap64 (48 + (Int.tmod x0_1 10))) % 256)] from rfl) (Reps.none _ _))); intro v102 w5 ho6 hb hg_ hnew_; clear hg_ hnew_; (first | rw [← Ny101.out] at ho6 | (simp only [Int.reduceToNat] at ho6; rw [← Ny101.out] at ho6)); have n0_ := Aside0.mk (Kd.R_lower ho6 (below_size (by repeat (first | (with_reducible first | exact HB.out | apply below_alloc | apply pw_below_drewN | apply below_drew1) | exact HB.out)))); have n1_ := Aside0.mk (below_step (by repeat (first | (with_reducible first | exact HB.out | apply below_alloc | apply pw_below_drewN | apply below_drew1) | exact HB.out)) hb); clear HB; have HO103 := n0_; have HB := n1_; clear n0_ n1_; clear hb ho6; have hcv7 := own_string (P := Try.prog) Try.underlying87 Try.underlying5 Try.underlying9 (Kd.own_of_R HO103.out)))
            go_roundg k1
            case measure => have := HK1.out; omega
            case rel => exact ⟨(wrap64 (Int.tdiv x0_1 10)), ((strOfNums y101) ++ x3_1), (by first | rfl | (simp; done) | (simp [*]; done)), (by first | rfl | (simp; done) | (simp [*]; done)), H', ⟨by have := HK1.out; omega⟩, ⟨by repeat (first | (with_reducible first | exact HB.out | apply below_alloc | apply pw_below_drewN | apply below_drew1) | exact HB.out)⟩⟩
          · rw [if_neg c4] at H
            exact absurd H (by simp)
        · rw [if_neg c3] at H
          have c3b0 : decide (0 < x0_1) = false := decide_eq_false c3
          clear c3
          by_cases c8 : 1 + x3_1.size ≤ 9223372036854775807
          · rw [if_pos c8] at H
            have c8b0 := eq_true c8
            have c8b1 : decide (1 + x3_1.size ≤ 9223372036854775807) = true := decide_eq_true c8
            try have c8b2 : (9223372036854775807 < 1 + x3_1.size) = False := eq_false (Nat.not_lt.2 c8)
            obtain rfl := Option.some.inj H
            go_wp2
            go_ret
            exact ⟨by first | rfl | (simp [errW_none, errW_some] <;> rfl) | (simp [*, errW_none, errW_some] <;> rfl), by repeat (first | (with_reducible first | exact HB.out | apply below_alloc | apply pw_below_drewN | apply below_drew1) | exact HB.out)⟩
          · rw [if_neg c8] at H
            exact absurd H (by simp)

/-! ### laws_markWordS: function 21 -/
def laws_markWordS.l0 : Nat → List S59 → Int → Int → Option (Int × List S59)
  | 0, _, _, _ => none
  | k + 1, x0, x1, x5 => if x5 < (x0.length : Int) then (if 0 ≤ x5 then ((laws_markText.f k x1).bind fun s => ((laws_markIntS.f k (rd_T59 x0 x5).f1 (wrap64 (x1 + 1))).bind fun t => laws_markWordS.l0 k (x0.set x5.toNat (⟨s, t.2, t.1⟩ : S59)) (wrap64 (t.1 + 1)) (wrap64 (x5 + 1)))) else none) else some (x1, x0)
def laws_markWordS.f (k : Nat) (l0 : List S59) (a1 : Int) : Option (Int × List S59) := laws_markWordS.l0 k l0 a1 0
theorem laws_markWordS.mono_l : ∀ k, ∀ y0 y1 y2, LeO (laws_markWordS.l0 k y0 y1 y2) (laws_markWordS.l0 (k + 1) y0 y1 y2)
  | 0 => fun _ _ _ r h => by simp [laws_markWordS.l0] at h
  | k + 1 => by
    have ih := laws_markWordS.mono_l k
    intro y0 y1 y2
    unfold laws_markWordS.l0
    exact LeO.ite (LeO.ite (LeO.bind (laws_markText.mono _ _) fun s => LeO.bind (laws_markIntS.mono _ _ _) fun t => ih _ _ _) (LeO.refl _)) (LeO.refl _)
theorem laws_markWordS.mono : ∀ a0 a1 k, LeO (laws_markWordS.f k a0 a1) (laws_markWordS.f (k + 1) a0 a1) := fun a0 a1 k => laws_markWordS.mono_l k a0 a1 0
set_option maxHeartbeats 1000000
open Go.RowKit Go.Lib Go.Proofs.YthcedgbjpkgoeaaW.PrintWords Go.Proofs.YthcedgbjpkgoeaaW.PrintLast Go.Proofs.YthcedgbjpkgoeaaW.PrintMore Go.Proofs.YthcedgbjpkgoeaaW Go.Proofs.Ythcedgbjpkgoeaa.Q
set_option maxHeartbeats 2000000 in
set_option maxRecDepth 100000 in
theorem laws_markWordS.calls (k : Nat) (P0_ : Nat → Prop) (u9000_ : Value) (l0 : List S59) (a1 : Int) (r1 : Int) (r2 : List S59) (w0 w : World) (hB : Below w0.heap.size w0 w) (ho0 : Kd.S k59 59 w w0.heap.size P0_ u9000_ l0) (h : laws_markWordS.f k l0 a1 = some (r1, r2)) :
    Calls Try.prog 21 #[u9000_, .int .i64 a1] w fun e w' => e = .returned (.int .i64 r1) ∧ Kd.S k59 59 w' w0.heap.size (fun k_ => (P0_ k_ ∨ w.heap.size ≤ k_)) u9000_ r2 ∧ Below w0.heap.size w0 w' ∧ Kept w w' (fun k_ => P0_ k_) := by
  obtain ⟨A, cap, rfl⟩ := Kd.S_slice ho0
  have HO0 := Aside0.mk (show Kd.S k59 59 w w0.heap.size (fun k_ => (P0_ k_ ∨ w.heap.size ≤ k_)) (.slice A l0.length cap) l0 from Kd.S_mono ho0 (fun k_ hk => (.inl hk)))
  have HK := Aside0.mk (Kept.refl w (fun k_ => P0_ k_))
  have HB := Aside0.mk hB
  have H' : Aside0 (laws_markWordS.l0 k l0 a1 0 = some (r1, r2)) := ⟨h⟩
  have hu := Try.underlying59
  clear hB h ho0
  go_enter Try.func21, Try.ntmps21
  go_wp2
  go_loopg [1, 5] k (fun kq v1 v5 w' => ∃ (x0_1 : List S59) (x1_1 : Int) (x5_1 : Int), v1 = .int .i64 x1_1 ∧ v5 = .int .i64 x5_1 ∧ Aside0 (x0_1.length = l0.length) ∧ Aside0 (laws_markWordS.l0 kq x0_1 x1_1 x5_1 = some (r1, r2)) ∧ Aside0 (kq ≤ k) ∧ Aside0 (Kd.S k59 59 w' w0.heap.size (fun k_ => (P0_ k_ ∨ w.heap.size ≤ k_)) (.slice A l0.length cap) x0_1) ∧ Aside0 (Kept w w' (fun k_ => P0_ k_)) ∧ Aside0 (Below w0.heap.size w0 w'))
  case atStart => exact ⟨l0, a1, 0, rfl, rfl, ⟨rfl⟩, H', ⟨Nat.le_refl _⟩, HO0, HK, HB⟩
  case round =>
    clear H' HO0 HK HB
    obtain ⟨x0_1, x1_1, x5_1, rfl, rfl, HL, HA, HK1, HO_0, HK, HB⟩ := hrel
    cases gk with
    | zero => exact absurd HA.out (by simp [laws_markWordS.l0])
    | succ k1 =>
      have H := HA.out
      clear HA
      simp only [laws_markWordS.l0] at H
      by_cases c3 : x5_1 < (x0_1.length : Int)
      · rw [if_pos c3] at H
        by_cases c5 : 0 ≤ x5_1
        · rw [if_pos c5] at H
          replace H := Option.bind_eq_some_iff.mp H
          obtain ⟨ts, A50, H⟩ := H
          have A5 := Aside0.mk A50
          clear A50
          replace H := Option.bind_eq_some_iff.mp H
          obtain ⟨⟨t1, t2⟩, A40, H⟩ := H
          have H' := Aside0.mk H
          have A4 : Aside0 (laws_markIntS.f k1 (x0_1.getD x5_1.toNat z59).f1 (wrap64 (x1_1 + 1)) = some (t1, t2)) := ⟨A40⟩
          clear H A40
          have hlen := HL.out
          have q5 : x5_1 < (l0.length : Int) := by omega
          obtain ⟨g, cg, eg, gb, gl, cl, HG⟩ := Kd.S_form HO_0.out (by omega)
          injection eg with ea en ec
          subst ea
          obtain ⟨oki, cs, hcl, hM, hcc, hfr, hoki, hH⟩ := Kd.S_elem HO_0.out z59 x5_1 c5 q5
          obtain ⟨v1, rfl, hR⟩ := k59_openM hM
          obtain ⟨A1, c1, rfl⟩ := Kd.R_slice hR
          have hx0 := hcc 0 _ rfl
          have hf0 := hfr 0
          simp only [show k59.sz = 3 from rfl, Nat.add_zero] at hx0 hf0
          have HH := Aside0.mk hH
          have HR := Aside0.mk hR
          have HI := Aside0.mk hoki
          have GB := Aside0.mk gb
          have GL := Aside0.mk gl
          have GI : Aside0 (P0_ g ∨ w.heap.size ≤ g) := ⟨(Kd.S_R HO_0.out).1 g (by simp [Value.ownBlock])⟩
          have P5 := Aside0.mk c5
          have Q5 := Aside0.mk q5
          have p5 := eq_true c5
          have p3 := decide_eq_true c3
          rw [hlen] at p3
          have p6 := eq_true q5
          clear hcl hM hcc hfr hoki hH hR gb gl HG c3 HO_0 hlen en ec
          go_wp2_with (first | (go_at_call 52; (with_reducible refine (laws_markText.calls k1 x1_1 ts _ A5.out).mono ?_); rintro e w12 ⟨rfl, hb⟩; have n0_ := Aside0.mk (Kd.H_below HH.out hb); have n1_ := Aside0.mk (Kd.R_below HR.out hb); have n2_ := Aside0.mk (below_step HB.out hb); have n3_ := Aside0.mk (Kept.below HK.out hb); have n4_ := Aside0.mk (Nat.lt_of_lt_of_le GL.out hb.size); clear HH HR HB HK GL hx0 hf0 hb; have HH := n0_; have HR := n1_; have HB := n2_; have HK := n3_; have GL := n4_; clear n0_ n1_ n2_ n3_ n4_; have hat_ := Kd.H_at HH.out P5.out Q5.out; have hx0 := hat_.1 0 _ rfl; have hf0 := hat_.2 0; simp only [show k59.sz = 3 from rfl, Nat.add_zero] at hx0 hf0; clear hat_) | ((with_reducible refine gate_store (t := 9) (p := 17) rfl ?_); refine store_event (t := 9) (p := 17) (v := ?vo_) (w1 := (w12.setCell ⟨g, x5_1.toNat * 3, none⟩ (.string ts))) ?hg ?ho ?hn ?hr ?_; (case ho => rfl); (case hg => rfl); (case hn => rfl); (case hr => first | (go_simp; done) | (go_simp; rfl)); intro w13 hw; have n0_ := Aside0.mk (show Kd.H k59 59 w13 w0.heap.size (fun k_ => (P0_ k_ ∨ w.heap.size ≤ k_)) (.slice (some ⟨g, 0, none⟩) l0.length cap) x0_1 x5_1 oki [.string ts, .slice A1 (x0_1.getD x5_1.toNat z59).f1.length c1, .int .i64 (x0_1.getD x5_1.toNat z59).f2] from by (rw [hw]; exact (Kd.H_seg HH.out P5.out Q5.out (seg := [.string ts]) (j := 0) (show 0 + 1 ≤ 3 from by decide) (by simp [Value.oneCell'])).1)); have n1_ := Aside0.mk (show Kd.R (Kd.int .i64) 3 w13 w0.heap.size oki (.slice A1 (x0_1.getD x5_1.toNat z59).f1.length c1) (x0_1.getD x5_1.toNat z59).f1 from by (rw [hw]; exact Kd.R_far HR.out (fun k_ hk => (HI.out k_ hk).2) _)); have n2_ := Aside0.mk (show Below w0.heap.size w0 w13 from by (rw [hw]; exact below_set HB.out GB.out)); have n3_ := Aside0.mk (show Kept w w13 (fun k_ => P0_ k_) from by (rw [hw]; exact Kept.setCell HK.out GI.out _)); have n4_ := Aside0.mk (show g < w13.heap.size from by (rw [hw]; simpa [World.setCell] using GL.out)); clear hw HH HR HB HK GL hx0 hf0; have HH := n0_; have HR := n1_; have HB := n2_; have HK := n3_; have GL := n4_; clear n0_ n1_ n2_ n3_ n4_; have hat_ := Kd.H_at HH.out P5.out Q5.out; have hx1 := hat_.1 1 _ rfl; have hf1 := hat_.2 1; simp only [show k59.sz = 3 from rfl, Nat.add_zero] at hx1 hf1; clear hat_) | (go_at_call 22; (with_reducible refine (laws_markIntS.calls k1 oki _ (x0_1.getD x5_1.toNat z59).f1 (wrap64 (x1_1 + 1)) t1 t2 w0 _ ?side1 ?side2 A4.out).mono ?_); (case side1 => exact HB.out); (case side2 => exact HR.out); rintro e w14 ⟨rfl, hR2, hB2, hK2⟩; have n0_ := Aside0.mk (Kd.H_kept (Kd.H_widen HH.out) hK2 (fun k_ _ hn hk => hn (.inl hk))); have n1_ := Aside0.mk hR2; have n2_ := Aside0.mk hB2; have n3_ := Aside0.mk (Kept.then_ HK.out hK2 (fun k_ hk => (HI.out k_ hk).1)); have n4_ := Aside0.mk (Nat.lt_of_lt_of_le GL.out hK2.1); have HS := Aside0.mk HK.out.1; have GL0 := GL; clear HH HR HB HK GL hx1 hf1 hR2 hB2 hK2; have HH := n0_; have HR := n1_; have HB := n2_; have HK := n3_; have GL := n4_; clear n0_ n1_ n2_ n3_ n4_; have hat_ := Kd.H_at HH.out P5.out Q5.out; have hx2 := hat_.1 2 _ rfl; have hf2 := hat_.2 2; simp only [show k59.sz = 3 from rfl, Nat.add_zero] at hx2 hf2; clear hat_) | ((with_reducible refine gate_store (t := 3) (p := 31) rfl ?_); refine store_event (t := 3) (p := 31) (v := ?vo4_) (w1 := (w14.setCell ⟨g, x5_1.toNat * 3 + 2, none⟩ (.int .i64 t1))) ?hg ?ho ?hn ?hr ?_; (case ho => rfl); (case hg => rfl); (case hn => rfl); (case hr => first | (go_simp; done) | (go_simp; rfl)); intro w15 hw; have n5_ := Aside0.mk (Kd.R_far (p := ⟨g, x5_1.toNat * 3 + 2, none⟩) HR.out (fun k_ hk => hk.elim (fun h_ => (HI.out k_ h_).2) (fun h_ e_ => Nat.not_le.2 GL0.out (by rw [← show k_ = g from e_]; exact h_))) (.int .i64 t1)); have n0_ := Aside0.mk (show Kd.S k59 59 w15 w0.heap.size (fun k_ => (P0_ k_ ∨ w.heap.size ≤ k_)) (.slice (some ⟨g, 0, none⟩) l0.length cap) (x0_1.set x5_1.toNat (⟨ts, t2, t1⟩ : S59)) from by (rw [hw]; exact Kd.H_back (Kd.H_seg HH.out P5.out Q5.out (seg := [.int .i64 t1]) (j := 2) (show 2 + 1 ≤ 3 from by decide) (by simp [Value.oneCell'])).1 (k59_mkM _ _ _ ⟨ts, t2, t1⟩ n5_.out) (fun k_ hk => hk.elim .inl (fun h_ => .inr ⟨.inr (Nat.le_trans HS.out h_), h_⟩)))); have n1_ := Aside0.mk (show Kept w w15 (fun k_ => P0_ k_) from by (rw [hw]; exact Kept.setCell HK.out GI.out _)); have n2_ := Aside0.mk (show Below w0.heap.size w0 w15 from by (rw [hw]; exact below_set HB.out GB.out)); clear hw HH HR HB HK GL GL0 HS hx2 hf2 n5_))
          go_roundg k1
          case measure => have := HK1.out; omega
          case rel => exact ⟨x0_1.set x5_1.toNat (⟨ts, t2, t1⟩ : S59), wrap64 (t1 + 1), wrap64 (x5_1 + 1), rfl, (by first | rfl | (simp; done) | (simp [*]; done)), ⟨by rw [List.length_set]; exact HL.out⟩, H', ⟨by have := HK1.out; omega⟩, n0_, n1_, n2_⟩
        · rw [if_neg c5] at H
          exact absurd H (by simp)
      · rw [if_neg c3] at H
        have c3b0 : decide (x5_1 < (l0.length : Int)) = false := decide_eq_false (by rw [← HL.out]; exact c3)
        injection Option.some.inj H with e1 e2
        subst e1 e2
        go_wp2
        go_ret
        exact ⟨rfl, HO_0.out, HB.out, HK.out⟩


/-! ### laws_heldIntS: function 23 -/
def laws_heldIntS.l0 : Nat → List Int → Int → Int → Option (Int)
  | 0, _, _, _ => none
  | k + 1, x0, x1, x5 => if x5 < (x0.length : Int) then (if 0 ≤ x5 then (if (rd x0 x5) = x1 then (laws_heldIntS.l0 k x0 (wrap64 (x1 + 1)) (wrap64 (x5 + 1))) else (some (-1))) else (none)) else (some x1)
def laws_heldIntS.f (k : Nat) (l0 : List Int) (a1 : Int) : Option (Int) := laws_heldIntS.l0 k l0 a1 0
theorem laws_heldIntS.mono_l : ∀ k, (∀ y0 y1 y2, LeO (laws_heldIntS.l0 k y0 y1 y2) (laws_heldIntS.l0 (k + 1) y0 y1 y2))
  | 0 => fun _ _ _ r h => by simp [laws_heldIntS.l0] at h
  | k + 1 => by
    have ih0 := laws_heldIntS.mono_l k
    · intro y0 y1 y2
      unfold laws_heldIntS.l0
      repeat' first
      | (with_reducible exact ih0 _ _ _)
      | (with_reducible exact LeO.refl _)
      | (with_reducible exact LeO.none _)
      | (with_reducible refine LeO.ite ?_ ?_)
      | (with_reducible refine LeO.bind ?_ (fun _ => ?_))
      | exact ih0 _ _ _
      | exact LeO.none _
      | refine LeO.ite ?_ ?_
      | refine LeO.bind ?_ (fun _ => ?_)
theorem laws_heldIntS.mono : ∀ a0 a1 k, LeO (laws_heldIntS.f k a0 a1) (laws_heldIntS.f (k + 1) a0 a1) := by
  intro a0 a1 k
  have ih0 := laws_heldIntS.mono_l k
  unfold laws_heldIntS.f
  repeat' first
      | (with_reducible exact ih0 _ _ _)
      | (with_reducible exact LeO.refl _)
      | (with_reducible exact LeO.none _)
      | (with_reducible refine LeO.ite ?_ ?_)
      | (with_reducible refine LeO.bind ?_ (fun _ => ?_))
      | exact ih0 _ _ _
      | exact LeO.none _
      | refine LeO.ite ?_ ?_
      | refine LeO.bind ?_ (fun _ => ?_)
set_option maxHeartbeats 3000000 in
set_option maxRecDepth 100000 in
theorem laws_heldIntS.calls (k : Nat) (A0 : Option Addr) (c0 : Nat) (l0 : List Int) (a1 : Int) (r : Int) (w : World) (hr0 : Kd.C (Kd.int .i64) w A0 l0.length l0) (hc0 : l0.length ≤ c0) (h : laws_heldIntS.f k l0 a1 = some r) :
    Calls Try.prog 23 #[.slice A0 l0.length c0, .int .i64 a1] w fun e w' => e = .returned (.int .i64 r) ∧ Drawn0 w w' := by
  have HR0 := Aside0.mk hr0
  have HC0 := Aside0.mk hc0
  clear hr0 hc0
  have H : (laws_heldIntS.l0 k l0 a1 0) = some r := h
  clear h
  have H' := Aside0.mk H
  clear H
  go_enter Try.func23, Try.ntmps23
  go_wp2
  go_loopg [1, 5] k (fun kq v1 v5 w' => ∃ (x1_1 : Int) (x5_1 : Int), v1 = .int .i64 x1_1 ∧ v5 = .int .i64 x5_1 ∧ Aside0 (laws_heldIntS.l0 kq l0 x1_1 x5_1 = some r) ∧ Aside0 (kq ≤ k) ∧ Drawn0 w w')
  case atStart => exact ⟨(a1), (0), (by first | rfl | (simp; done) | (simp [*]; done)), (by first | rfl | (simp; done) | (simp [*]; done)), H', ⟨Nat.le_refl _⟩, by repeat (first | exact Drawn0.refl _ | apply Drawn0.step)⟩
  case round =>
    clear H'
    try clear c2
    try clear p2
    obtain ⟨x1_1, x5_1, rfl, rfl, HA, HK1, ⟨m1, rfl⟩⟩ := hrel
    cases gk with
    | zero => exact absurd HA.out (by simp [laws_heldIntS.l0])
    | succ k1 =>
      have H := HA.out
      clear HA
      simp only [laws_heldIntS.l0] at H
      by_cases c3 : x5_1 < (l0.length : Int)
      · rw [if_pos c3] at H
        have c3b0 : decide (x5_1 < (l0.length : Int)) = true := decide_eq_true c3
        clear c3
        by_cases c4 : 0 ≤ x5_1
        · rw [if_pos c4] at H
          have c4b0 : decide (0 ≤ x5_1) = true := decide_eq_true c4
          clear c4
          by_cases c5 : (rd l0 x5_1) = x1_1
          · rw [if_pos c5] at H
            have c5b0 : ((rd l0 x5_1) == x1_1) = true := beq_iff_eq.mpr c5
            have c5b1 : ((rd l0 x5_1) != x1_1) = false := bne_eq_false_iff_eq.mpr c5
            clear c5
            have H' := Aside0.mk H
            clear H
            have p101 : 0 ≤ (x5_1 : Int) := of_decide_eq_true (by first | (with_reducible assumption) | assumption)
            have q101 : x5_1 < (l0.length : Int) := of_decide_eq_true (by first | (with_reducible assumption) | assumption)
            obtain ⟨ad101, e101, hx101_0⟩ := Kd.at_int HR0.out x5_1 p101 q101
            cases e101
            replace p101 := eq_true p101
            replace q101 := eq_true q101
            go_wp2
            go_roundg k1
            case measure => have := HK1.out; omega
            case rel => exact ⟨(wrap64 (x1_1 + 1)), (wrap64 (x5_1 + 1)), (by first | rfl | (simp; done) | (simp [*]; done)), (by first | rfl | (simp; done) | (simp [*]; done)), H', ⟨by have := HK1.out; omega⟩, by repeat (first | exact Drawn0.refl _ | apply Drawn0.step)⟩
          · rw [if_neg c5] at H
            have c5b0 : ((rd l0 x5_1) == x1_1) = false := beq_eq_false_iff_ne.mpr c5
            have c5b1 : ((rd l0 x5_1) != x1_1) = true := bne_iff_ne.mpr c5
            obtain rfl := Option.some.inj H
            have p101 : 0 ≤ (x5_1 : Int) := of_decide_eq_true (by first | (with_reducible assumption) | assumption)
            have q101 : x5_1 < (l0.length : Int) := of_decide_eq_true (by first | (with_reducible assumption) | assumption)
            obtain ⟨ad101, e101, hx101_0⟩ := Kd.at_int HR0.out x5_1 p101 q101
            cases e101
            replace p101 := eq_true p101
            replace q101 := eq_true q101
            go_wp2
            go_ret
            exact ⟨by first | rfl | (simp; done) | (simp [*]; done), by repeat (first | exact Drawn0.refl _ | apply Drawn0.step)⟩
        · rw [if_neg c4] at H
          exact absurd H (by simp)
      · rw [if_neg c3] at H
        have c3b0 : decide (x5_1 < (l0.length : Int)) = false := decide_eq_false c3
        clear c3
        obtain rfl := Option.some.inj H
        go_wp2
        go_ret
        exact ⟨by first | rfl | (simp; done) | (simp [*]; done), by repeat (first | exact Drawn0.refl _ | apply Drawn0.step)⟩

end Go.Proofs.Ythcedgbjpkgoeaa.Q
