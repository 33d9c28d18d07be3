-- Written for the seat Ytfndkjklphajmaa by a program of this session (wip/tool/gx.py) out of the translation. Lean checks it.
import Derived.Test.YtfndkjklphajmaaQ0
import Derived.Test.YtfndkjklphajmaaQSpecCtAsked
import Derived.Test.YtfndkjklphajmaaQSpecCtPut
import Derived.Test.YtfndkjklphajmaaGIdx
import Derived.Test.YtfndkjklphajmaaWFoot
import Derived.Test.YtfndkjklphajmaaWKept
import Derived.Test.YtfndkjklphajmaaWShare
import Derived.Test.YtfndkjklphajmaaWRepsOne
namespace Go.Proofs.Ytfndkjklphajmaa.Q
open Go.RowKit Go.Proofs.YtfndkjklphajmaaW.PrintWords Go.Proofs.YtfndkjklphajmaaW.PrintLast Go.Proofs.YtfndkjklphajmaaW.PrintMore
attribute [local go_sem] max2_int min2_int max_two min_two max_three min_three max_four min_four   -- for this text's walks alone
set_option linter.unusedVariables false
set_option linter.unusedSimpArgs false

/-! ### spec_ContextsOf: function 30 -/
def spec_ContextsOf.l (k : Nat) (l0 : List ByteArray) (g : ByteArray) : Nat → Nat → List ByteArray → List ByteArray → Option (List ByteArray × List ByteArray)
  | 0, _, b, h => some (b, h)
  | d + 1, j, b, h => if (l0.getD j ByteArray.empty).toList = g.toList then ((if 0 < j then spec_ctPut.f k b (l0.getD (j - 1) ByteArray.empty) else some b).bind fun b' => (if j + 1 < l0.length then spec_ctPut.f k h (l0.getD (j + 1) ByteArray.empty) else some h).bind fun h' => spec_ContextsOf.l k l0 g d (j + 1) b' h') else spec_ContextsOf.l k l0 g d (j + 1) b h
def spec_ContextsOf.f (k : Nat) (l0 : List ByteArray) (a1 : ByteArray) : Option (List ByteArray × List ByteArray × Bool) := (spec_ctAsked.f k l0 a1).bind fun b => if b = true then ((spec_ContextsOf.l k l0 a1 l0.length 0 [] []).bind fun p => some (p.1, p.2, true)) else some ([], [], false)
theorem spec_ContextsOf.mono_l (k : Nat) (l0 : List ByteArray) (g : ByteArray) : ∀ d j b h, LeO (spec_ContextsOf.l k l0 g d j b h) (spec_ContextsOf.l (k + 1) l0 g d j b h)
  | 0, _, _, _ => LeO.refl _
  | d + 1, j, b, h => by
    unfold spec_ContextsOf.l
    exact LeO.ite (LeO.bind (LeO.ite (spec_ctPut.mono _ _ _) (LeO.refl _)) fun _ => LeO.bind (LeO.ite (spec_ctPut.mono _ _ _) (LeO.refl _)) fun _ => spec_ContextsOf.mono_l k l0 g d _ _ _) (spec_ContextsOf.mono_l k l0 g d _ _ _)
theorem spec_ContextsOf.mono : ∀ a0 a1 k, LeO (spec_ContextsOf.f k a0 a1) (spec_ContextsOf.f (k + 1) a0 a1) := by
  intro a0 a1 k
  unfold spec_ContextsOf.f
  exact LeO.bind (spec_ctAsked.mono _ _ _) fun _ => LeO.ite (LeO.bind (spec_ContextsOf.mono_l _ _ _ _ _ _ _) fun _ => LeO.refl _) (LeO.refl _)
set_option maxHeartbeats 1000000
open Go.RowKit Go.Lib Go.Proofs.YtfndkjklphajmaaW.PrintWords Go.Proofs.YtfndkjklphajmaaW.PrintLast Go.Proofs.YtfndkjklphajmaaW.PrintMore Go.Proofs.YtfndkjklphajmaaW Go.Proofs.Ytfndkjklphajmaa.Q
set_option maxHeartbeats 4000000 in
set_option maxRecDepth 100000 in
theorem spec_ContextsOf.calls (k : Nat) (A0 : Option Addr) (c0 : Nat) (l0 : List ByteArray) (a1 : ByteArray) (r1 r2 : List ByteArray) (r3 : Bool) (w : World) (hr0 : Kd.C Kd.string w A0 l0.length l0) (hc0 : l0.length ≤ c0) (h : spec_ContextsOf.f k l0 a1 = some (r1, r2, r3)) :
    Calls Try.prog 30 #[.slice A0 l0.length c0, .string a1] w fun e w' => ∃ v0_ v1_ : Value, e = .returned (.tuple #[v0_, v1_, .bool r3]) ∧ Kd.V Kd.string 9 w' w.heap.size (fun k_ => (w.heap.size ≤ k_)) v0_ r1 ∧ Kd.V Kd.string 9 w' w.heap.size (fun k_ => (w.heap.size ≤ k_)) v1_ r2 ∧ Below w.heap.size w w' := by
  unfold spec_ContextsOf.f at h
  have hbig := Kd.C_max hr0
  have HR0 := Aside0.mk hr0
  cases hb : spec_ctAsked.f k l0 a1 with
  | none => rw [hb] at h; cases h
  | some b =>
    have HA := Aside0.mk (fun (W : World) (hC : Kd.C Kd.string W A0 l0.length l0) => spec_ctAsked.calls k A0 c0 l0 a1 b W hC hc0 hb)
    rw [hb] at h
    cases b with
    | false =>
      obtain ⟨rfl, rfl, rfl⟩ : ([] : List ByteArray) = r1 ∧ ([] : List ByteArray) = r2 ∧ false = r3 := by injection (Option.some.inj h) with h1 h2; injection h2 with h2 h3; exact ⟨h1, h2, h3⟩
      clear h hb hr0
      go_enter Try.func30, Try.ntmps30
      go_wp2_with (go_at_call 41; refine (HA.out _ HR0.out).mono ?_; rintro e w1 ⟨rfl, ⟨q, rfl⟩⟩)
      go_ret3
      exact ⟨_, _, rfl, Kd.V_nil _ _ _ _ _, Kd.V_nil _ _ _ _ _, pw_below_drewN (Below.refl _ _) _⟩
    | true =>
      simp only [Option.bind_some, if_true] at h
      cases hp : spec_ContextsOf.l k l0 a1 l0.length 0 [] [] with
      | none => rw [hp] at h; cases h
      | some p =>
        rw [hp] at h
        obtain ⟨rfl, rfl, rfl⟩ : p.1 = r1 ∧ p.2 = r2 ∧ true = r3 := by injection (Option.some.inj h) with h1 h2; injection h2 with h2 h3; exact ⟨h1, h2, h3⟩
        have HP := Aside0.mk hp
        clear h hb hr0 hp
        go_enter Try.func30, Try.ntmps30
        go_wp2_with (go_at_call 41; refine (HA.out _ HR0.out).mono ?_; rintro e w1 ⟨rfl, ⟨q, rfl⟩⟩)
        go_loopg [7, 8, 17] l0.length (fun gg v7 v8 v17 wr => ∃ (j : Nat) (b h : List ByteArray) (Ab Ah : Option Addr) (cb ch : Nat), v7 = .slice Ab b.length cb ∧ v8 = .slice Ah h.length ch ∧ v17 = .int .i64 (j : Int) ∧ Aside0 (j + gg = l0.length) ∧ Aside0 (spec_ContextsOf.l k l0 a1 gg j b h = some p) ∧ Aside0 (Kd.V Kd.string 9 wr w.heap.size (fun k_ => (w.heap.size ≤ k_)) (.slice Ab b.length cb) b) ∧ Aside0 (Kd.V Kd.string 9 wr w.heap.size (fun k_ => (w.heap.size ≤ k_)) (.slice Ah h.length ch) h) ∧ Aside0 (Below w.heap.size w wr))
        case atStart => exact ⟨0, [], [], none, none, 0, 0, rfl, rfl, rfl, ⟨by omega⟩, HP, ⟨Kd.V_nil _ _ _ _ _⟩, ⟨Kd.V_nil _ _ _ _ _⟩, ⟨pw_below_drewN (Below.refl _ _) _⟩⟩
        case round =>
          obtain ⟨j, b, h, Ab, Ah, cb, ch, rfl, rfl, rfl, HJ, HE, HVb, HVh, HB⟩ := hrel
          by_cases hlt : (j : Int) < (l0.length : Int)
          · have d1 : decide ((j : Int) < (l0.length : Int)) = true := decide_eq_true hlt
            obtain ⟨bk, off, rfl, hbk, hcl⟩ := GIdx.C_spot HR0.out (by omega) (by decide)
            have hread' : ∀ i : Nat, i < l0.length → ∀ W', Below wr.heap.size wr W' → W'.cell? ⟨bk, off + i, none⟩ = some (.string (l0.getD i ByteArray.empty)) := fun i hi W' hW => by
              obtain ⟨c, _, hK, hc⟩ := hcl i _ (List.getElem?_eq_getElem hi)
              have hK' : c = [.string l0[i]] := hK
              subst hK'
              have h1 := hc 0 _ rfl
              have e_ : off + i * Kd.string.sz + 0 = off + i := by show off + i * 1 + 0 = _; omega
              rw [e_] at h1
              have h2 := (HB.out.cell (p := ⟨bk, off + i, none⟩) hbk).trans h1
              have h3 := (hW.cell (p := ⟨bk, off + i, none⟩) (Nat.lt_of_lt_of_le hbk HB.out.size)).trans h2
              rw [h3, List.getD_eq_getElem?_getD, List.getElem?_eq_getElem hi]
              rfl
            have HRD := Aside0.mk hread'
            clear hread' hcl
            have hx := HRD.out j (by omega) wr (Below.refl _ _)
            obtain ⟨sj, HSJ⟩ : ∃ s, Aside0 (l0.getD j ByteArray.empty = s) := ⟨_, ⟨rfl⟩⟩
            rw [HSJ.out] at hx
            have q1 : ((0 : Int) ≤ (j : Int)) = True := eq_true (by omega)
            have q2 : ((j : Int) < (l0.length : Int)) = True := eq_true hlt
            obtain ⟨g1, rfl⟩ : ∃ g1, gk = g1 + 1 := ⟨gk - 1, by have := HJ.out; omega⟩
            have hjb : j < l0.length := by omega
            have hw1 : wrap64 ((j : Int) + 1) = ((j + 1 : Nat) : Int) := by unfold wrap64; omega
            have hw1' : IntKind.i64.wrap ((j : Int) + 1) = ((j + 1 : Nat) : Int) := (i64_w _).trans hw1
            have HJ2 : Aside0 ((j + 1) + g1 = l0.length) := ⟨by have := HJ.out; omega⟩
            have HE2 : spec_ContextsOf.l k l0 a1 (g1 + 1) j b h = some p := HE.out
            unfold spec_ContextsOf.l at HE2
            rw [HSJ.out] at HE2
            clear hlt HE HJ
            by_cases hg : sj.toList = a1.toList
            · rw [if_pos hg] at HE2
              have hgb : (sj.toList == a1.toList) = true := by rw [hg]; simp
              have HGG := Aside0.mk hg
              clear hg
              by_cases hj0 : 0 < j
              · rw [if_pos hj0] at HE2
                have e0 : decide (0 < (j : Int)) = true := decide_eq_true (by omega)
                have hwm : wrap64 ((j : Int) - 1) = ((j - 1 : Nat) : Int) := by unfold wrap64; omega
                have hwm' : IntKind.i64.wrap ((j : Int) - 1) = ((j - 1 : Nat) : Int) := (i64_w _).trans hwm
                have q3 : ((0 : Int) ≤ ((j - 1 : Nat) : Int)) = True := eq_true (by omega)
                have q4 : (((j - 1 : Nat) : Int) < (l0.length : Int)) = True := eq_true (by omega)
                have hxm := HRD.out (j - 1) (by omega) wr (Below.refl _ _)
                obtain ⟨sm, HSM⟩ : ∃ s, Aside0 (l0.getD (j - 1) ByteArray.empty = s) := ⟨_, ⟨rfl⟩⟩
                rw [HSM.out] at hxm HE2
                cases hpb : spec_ctPut.f k b sm with
                | none => rw [hpb] at HE2; cases HE2
                | some b' =>
                  rw [hpb, Option.bind_some] at HE2
                  have HPB := Aside0.mk (fun (W : World) (hW : Below wr.heap.size wr W) => spec_ctPut.calls k (fun k_ => w.heap.size ≤ k_) Ab cb b sm b' W (show Kd.V Kd.string 9 W W.heap.size (fun k_ => w.heap.size ≤ k_) (.slice Ab b.length cb) b from Kd.V_below HVb.out hW) hpb)
                  clear hpb
                  by_cases hj1 : j + 1 < l0.length
                  · rw [if_pos hj1] at HE2
                    have e1 : decide (((j + 1 : Nat) : Int) < (l0.length : Int)) = true := decide_eq_true (by omega)
                    have q5 : ((0 : Int) ≤ ((j + 1 : Nat) : Int)) = True := eq_true (by omega)
                    have q6 : (((j + 1 : Nat) : Int) < (l0.length : Int)) = True := eq_true (by omega)
                    obtain ⟨sp, HSP⟩ : ∃ s, Aside0 (l0.getD (j + 1) ByteArray.empty = s) := ⟨_, ⟨rfl⟩⟩
                    rw [HSP.out] at HE2
                    cases hph : spec_ctPut.f k h sp with
                    | none => rw [hph] at HE2; cases HE2
                    | some h' =>
                      rw [hph, Option.bind_some] at HE2
                      have HPH := Aside0.mk (fun (W : World) (hW : Below wr.heap.size wr W) => spec_ctPut.calls k (fun k_ => w.heap.size ≤ k_) Ah ch h sp h' W (show Kd.V Kd.string 9 W W.heap.size (fun k_ => w.heap.size ≤ k_) (.slice Ah h.length ch) h from Kd.V_below HVh.out hW) hph)
                      have HEE := Aside0.mk HE2
                      clear hph HE2
                      go_upto_region 10 with (go_at_call 50; refine (HPB.out _ (by repeat (first | exact Below.refl _ _ | apply pw_below_drewN | apply below_alloc))).mono ?_; rintro e w2 ⟨v2, rfl, hV2, hb2⟩; obtain ⟨A2, c2, rfl⟩ := Kd.V_slice hV2)
                      have hxp := HRD.out (j + 1) hj1 w2 hb2
                      rw [HSP.out] at hxp
                      go_wp2_with (go_at_call 50; refine (HPH.out _ hb2).mono ?_; rintro e w3 ⟨v3, rfl, hV3, hb3⟩; obtain ⟨A3, c3, rfl⟩ := Kd.V_slice hV3)
                      go_roundg g1
                      case measure => omega
                      case rel => exact ⟨j + 1, b', h', A2, A3, c2, c3, rfl, rfl, (by go_num), HJ2, HEE, ⟨Kd.V_below (Kd.V_mono hV2 (fun k_ hk => hk.elim id (fun h2 => Nat.le_trans HB.out.size h2))) hb3⟩, ⟨Kd.V_mono hV3 (fun k_ hk => hk.elim id (fun h2 => Nat.le_trans (Nat.le_trans HB.out.size hb2.size) h2))⟩, ⟨(HB.out.trans (hb2.mono HB.out.size)).trans (hb3.mono (Nat.le_trans HB.out.size hb2.size))⟩⟩
                  · rw [if_neg hj1, Option.bind_some] at HE2
                    have e1 : decide (((j + 1 : Nat) : Int) < (l0.length : Int)) = false := decide_eq_false (by omega)
                    have HEE := Aside0.mk HE2
                    clear HE2
                    go_wp2_with (go_at_call 50; refine (HPB.out _ (by repeat (first | exact Below.refl _ _ | apply pw_below_drewN))).mono ?_; rintro e w2 ⟨v2, rfl, hV2, hb2⟩; obtain ⟨A2, c2, rfl⟩ := Kd.V_slice hV2)
                    go_roundg g1
                    case measure => omega
                    case rel => exact ⟨j + 1, b', h, A2, Ah, c2, ch, rfl, rfl, (by go_num), HJ2, HEE, ⟨Kd.V_mono hV2 (fun k_ hk => hk.elim id (fun h2 => Nat.le_trans HB.out.size h2))⟩, ⟨Kd.V_below HVh.out hb2⟩, ⟨HB.out.trans (hb2.mono HB.out.size)⟩⟩
              · rw [if_neg hj0, Option.bind_some] at HE2
                have e0 : decide (0 < (j : Int)) = false := decide_eq_false (by omega)
                by_cases hj1 : j + 1 < l0.length
                · rw [if_pos hj1] at HE2
                  have e1 : decide (((j + 1 : Nat) : Int) < (l0.length : Int)) = true := decide_eq_true (by omega)
                  have q5 : ((0 : Int) ≤ ((j + 1 : Nat) : Int)) = True := eq_true (by omega)
                  have q6 : (((j + 1 : Nat) : Int) < (l0.length : Int)) = True := eq_true (by omega)
                  have hxp := HRD.out (j + 1) hj1 wr (Below.refl _ _)
                  obtain ⟨sp, HSP⟩ : ∃ s, Aside0 (l0.getD (j + 1) ByteArray.empty = s) := ⟨_, ⟨rfl⟩⟩
                  rw [HSP.out] at HE2 hxp
                  cases hph : spec_ctPut.f k h sp with
                  | none => rw [hph] at HE2; cases HE2
                  | some h' =>
                    rw [hph, Option.bind_some] at HE2
                    have HPH := Aside0.mk (fun (W : World) (hW : Below wr.heap.size wr W) => spec_ctPut.calls k (fun k_ => w.heap.size ≤ k_) Ah ch h sp h' W (show Kd.V Kd.string 9 W W.heap.size (fun k_ => w.heap.size ≤ k_) (.slice Ah h.length ch) h from Kd.V_below HVh.out hW) hph)
                    have HEE := Aside0.mk HE2
                    clear hph HE2
                    go_wp2_with (go_at_call 50; refine (HPH.out _ (by repeat (first | exact Below.refl _ _ | apply pw_below_drewN))).mono ?_; rintro e w3 ⟨v3, rfl, hV3, hb3⟩; obtain ⟨A3, c3, rfl⟩ := Kd.V_slice hV3)
                    go_roundg g1
                    case measure => omega
                    case rel => exact ⟨j + 1, b, h', Ab, A3, cb, c3, rfl, rfl, (by go_num), HJ2, HEE, ⟨Kd.V_below HVb.out hb3⟩, ⟨Kd.V_mono hV3 (fun k_ hk => hk.elim id (fun h2 => Nat.le_trans HB.out.size h2))⟩, ⟨HB.out.trans (hb3.mono HB.out.size)⟩⟩
                · rw [if_neg hj1, Option.bind_some] at HE2
                  have e1 : decide (((j + 1 : Nat) : Int) < (l0.length : Int)) = false := decide_eq_false (by omega)
                  have HEE := Aside0.mk HE2
                  clear HE2
                  go_wp2
                  go_roundg g1
                  case measure => omega
                  case rel => exact ⟨j + 1, b, h, Ab, Ah, cb, ch, rfl, rfl, (by go_num), HJ2, HEE, ⟨by (with_reducible repeat (first | apply Kd.V_alloc | apply Kd.V_drewN | apply Kd.V_drew)); exact HVb.out⟩, ⟨by (with_reducible repeat (first | apply Kd.V_alloc | apply Kd.V_drewN | apply Kd.V_drew)); exact HVh.out⟩, ⟨by repeat (first | exact HB.out | apply pw_below_drewN | apply below_alloc)⟩⟩
            · rw [if_neg hg] at HE2
              have hgb : (sj.toList == a1.toList) = false := by simpa using hg
              have HEE := Aside0.mk HE2
              clear HE2 hg
              go_wp2
              go_roundg g1
              case measure => omega
              case rel => exact ⟨j + 1, b, h, Ab, Ah, cb, ch, rfl, rfl, (by go_num), HJ2, HEE, ⟨by (with_reducible repeat (first | apply Kd.V_alloc | apply Kd.V_drewN | apply Kd.V_drew)); exact HVb.out⟩, ⟨by (with_reducible repeat (first | apply Kd.V_alloc | apply Kd.V_drewN | apply Kd.V_drew)); exact HVh.out⟩, ⟨by repeat (first | exact HB.out | apply pw_below_drewN | apply below_alloc)⟩⟩
          · have d1 : decide ((j : Int) < (l0.length : Int)) = false := decide_eq_false hlt
            have hgg : gk = 0 := by have := HJ.out; omega
            subst hgg
            obtain rfl := Option.some.inj HE.out
            go_wp2
            go_ret3
            exact ⟨_, _, rfl, (by (with_reducible repeat (first | apply Kd.V_alloc | apply Kd.V_drewN | apply Kd.V_drew)); exact HVb.out), (by (with_reducible repeat (first | apply Kd.V_alloc | apply Kd.V_drewN | apply Kd.V_drew)); exact HVh.out), (by repeat (first | exact HB.out | apply pw_below_drewN | apply below_alloc))⟩


end Go.Proofs.Ytfndkjklphajmaa.Q
