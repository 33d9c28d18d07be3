-- Written for the seat Ytfndkjklphajmaa by a program of this session (wip/tool/gx.py) out of the translation. Lean checks it.
import Derived.Test.YtfndkjklphajmaaQ0
import Derived.Shelf.GgClosure.Gives
import Derived.Test.YtfndkjklphajmaaWFoot
import Derived.Test.YtfndkjklphajmaaWKept
import Derived.Test.YtfndkjklphajmaaWShare
namespace Go.Proofs.Ytfndkjklphajmaa.Q
open Go.RowKit Go.Proofs.YtfndkjklphajmaaW.PrintWords Go.Proofs.YtfndkjklphajmaaW.PrintLast Go.Proofs.YtfndkjklphajmaaW.PrintMore
attribute [local go_sem] max2_int min2_int max_two min_two max_three min_three max_four min_four   -- for this text's walks alone
set_option linter.unusedVariables false
set_option linter.unusedSimpArgs false

/-! ### impl_placesOf: function 45 -/
/-- The places, from j on, of d elements at which p holds, behind c. -/
def impl_placesOf.at (p : ByteArray → Bool) (l : List ByteArray) : Nat → Nat → List Int → List Int
  | 0, _, c => c
  | d + 1, j, c => impl_placesOf.at p l d (j + 1) (if p (l.getD j ByteArray.empty) then c ++ [(j : Int)] else c)
def impl_placesOf.f (l0 : List ByteArray) (a1 : ByteArray) : Option (List Int) := if l0.length < 17592186044416 then some (impl_placesOf.at (fun s => decide (s.toList = a1.toList)) l0 l0.length 0 []) else none

open Go.Lib
set_option maxHeartbeats 1000000 in
theorem impl_placesOf.those (p : ByteArray → Bool) (g : Nat) (lb : Array Value) (eg : ∀ args w, (callFunc g args).run Try.prog w = .ok (.enter g args) w) (A0 : Option Addr) (c0 : Nat) (l0 : List ByteArray) (w : World)
    (hp : ∀ (W : World) (s : ByteArray), Below w.heap.size w W → Calls Try.prog g (#[.string s] ++ lb) W fun e w' => e = .returned (.bool (p s)) ∧ ∃ q, w' = W.drewN q)
    (hr0 : Kd.C Kd.string w A0 l0.length l0) (hl : l0.length < 17592186044416) :
    Calls Try.prog 64 #[.slice A0 l0.length c0, .func (.func g) #[] lb] w fun e w' => ∃ v0_ : Value, e = .returned v0_ ∧ Kd.R (Kd.int .i64) 3 w' w.heap.size (fun _ => True) v0_ (impl_placesOf.at p l0 l0.length 0 []) ∧ Below w.heap.size w w' := by
  have HR0 := Aside0.mk hr0
  clear hr0
  have HB := Aside0.mk (Below.refl w.heap.size w)
  go_enter Try.func64, Try.ntmps64
  go_wp2
  go_loopg [5, 10] l0.length (fun gg v5 v10 wr => ∃ (j : Nat) (acc : List Int), v10 = .int .i64 (j : Int) ∧ Aside0 (j + gg = l0.length) ∧ Aside0 (acc.length ≤ j) ∧ Aside0 (impl_placesOf.at p l0 gg j acc = impl_placesOf.at p l0 l0.length 0 []) ∧ Aside0 (Kd.R (Kd.int .i64) 3 wr w.heap.size (fun _ => True) v5 acc) ∧ Aside0 (Below w.heap.size w wr))
  case atStart => exact ⟨0, [], rfl, ⟨by omega⟩, ⟨Nat.le_refl _⟩, ⟨rfl⟩, ⟨Kd.R_nil _ _ _ _ _⟩, HB⟩
  case round =>
    clear HB
    obtain ⟨j, acc, rfl, HJ, HL, HE, HO, HB⟩ := hrel
    by_cases hlt : (j : Int) < (l0.length : Int)
    · have d1 : decide ((j : Int) < (l0.length : Int)) = true := decide_eq_true hlt
      obtain ⟨ad, e1, hx⟩ := Kd.at_string HR0.out (j : Int) (by omega) hlt
      cases e1
      replace hx := (HB.out.cell (World.block_lt_of_cell? w _ hx)).trans hx
      rw [Int.toNat_natCast] at hx
      have q1 : ((0 : Int) ≤ (j : Int)) = True := eq_true (by omega)
      have q2 : ((j : Int) < (l0.length : Int)) = True := eq_true hlt
      have Hy : Aside0 (rdOf ByteArray.empty l0 (j : Int) = l0.getD j ByteArray.empty) := ⟨by simp [rdOf]⟩
      obtain ⟨g1, rfl⟩ : ∃ g1, gk = g1 + 1 := ⟨gk - 1, by have := HJ.out; omega⟩
      clear hlt
      have hcall := fun (W : World) (hb : Below w.heap.size w W) => hp W (rdOf ByteArray.empty l0 (j : Int)) hb
      have HE' : impl_placesOf.at p l0 g1 (j + 1) (if p (l0.getD j ByteArray.empty) then acc ++ [(j : Int)] else acc) = _ := HE.out
      rw [← Hy.out] at HE'
      have hw1 : wrap64 ((j : Int) + 1) = ((j + 1 : Nat) : Int) := by unfold wrap64; have := HJ.out; omega
      cases hpv : p (rdOf ByteArray.empty l0 (j : Int)) with
      | true =>
        rw [hpv] at hcall
        rw [hpv, if_pos rfl] at HE'
        replace HE := Aside0.mk HE'
        clear HE' hpv hp Hy
        have HC := Aside0.mk hcall
        clear hcall
        go_wp2_with (first | (go_at_fn g; refine (HC.out _ HB.out).mono ?_; rintro e w' ⟨rfl, q, rfl⟩; have n0_ := Aside0.mk (Kd.R_drewN HO.out q); have n1_ := Aside0.mk (below_drewN' HB.out q); clear HO HB; have HO := n0_; have HB := n1_; clear n0_ n1_) | ((with_reducible refine gate_builtin (b := .append) (xs := #[.tmp 18, .tmp 20]) rfl ?_); at_builtin; refine Kd.R_append (Kd.int .i64) (w0 := w) w.heap.size rfl (.tmp 18) (.tmp 20) 32 3 (.int .i64 0) 8 rfl Try.underlying32 info3 rfl (by decide) (by omega) u5 acc (j : Int) [.int .i64 (j : Int)] (fun _ => True) (fun _ => False) rfl rfl ?aP (fun _ hk => hk.elim) ?aF ?aO ?aB ?aS ?aL ?_; (case aP => exact rfl); (case aB => exact (by repeat (first | (with_reducible first | exact HB.out | apply below_alloc | apply pw_below_drewN | apply below_drew1) | exact HB.out))); (case aF => exact (fun _ _ => trivial)); (case aO => exact (by (with_reducible repeat (first | apply Kd.R_alloc | apply Kd.R_drewN | apply Kd.R_drew)); exact HO.out)); (case aS => exact (below_size (by repeat (first | (with_reducible first | exact HB.out | apply below_alloc | apply pw_below_drewN | apply below_drew1) | exact HB.out)))); (case aL => have := HL.out; have := HJ.out; omega); intro v104 w10 ho hb hg hat; have n0_ := Aside0.mk hb; have n1_ := Aside0.mk ho; clear HB; clear HO; have HB := n0_; have HO := n1_; clear n0_ n1_; clear ho hb hg hat))
        go_roundg g1
        case measure => omega
        case rel => exact ⟨j + 1, acc ++ [(j : Int)], (by rw [← hw1]), ⟨by have := HJ.out; omega⟩, ⟨by rw [List.length_append]; have := HL.out; simp; omega⟩, HE, ⟨by (with_reducible repeat (first | apply Kd.R_alloc | apply Kd.R_drewN | apply Kd.R_drew)); exact HO.out⟩, ⟨by repeat (first | (with_reducible first | exact HB.out | apply below_alloc | apply pw_below_drewN | apply below_drew1) | exact HB.out)⟩⟩
      | false =>
        rw [hpv] at hcall
        rw [hpv, if_neg Bool.false_ne_true] at HE'
        replace HE := Aside0.mk HE'
        clear HE' hpv hp Hy
        have HC := Aside0.mk hcall
        clear hcall
        go_wp2_with (first | (go_at_fn g; refine (HC.out _ HB.out).mono ?_; rintro e w' ⟨rfl, q, rfl⟩; have n0_ := Aside0.mk (Kd.R_drewN HO.out q); have n1_ := Aside0.mk (below_drewN' HB.out q); clear HO HB; have HO := n0_; have HB := n1_; clear n0_ n1_))
        go_roundg g1
        case measure => omega
        case rel => exact ⟨j + 1, acc, (by rw [← hw1]), ⟨by have := HJ.out; omega⟩, ⟨by have := HL.out; omega⟩, HE, ⟨by (with_reducible repeat (first | apply Kd.R_alloc | apply Kd.R_drewN | apply Kd.R_drew)); exact HO.out⟩, ⟨by repeat (first | (with_reducible first | exact HB.out | apply below_alloc | apply pw_below_drewN | apply below_drew1) | exact HB.out)⟩⟩
    · have d1 : decide ((j : Int) < (l0.length : Int)) = false := decide_eq_false hlt
      have hgg : gk = 0 := by have := HJ.out; omega
      subst hgg
      go_wp2
      go_ret
      exact ⟨_, rfl, by rw [← HE.out]; exact HO.out, HB.out⟩
set_option maxHeartbeats 400000 in
theorem impl_placesOf.pred (a1 : ByteArray) (B : Nat) (w : World) (hB : B < w.heap.size) (hcell : w.cell? ⟨B, 0, none⟩ = some (.string a1)) (W : World) (s : ByteArray) (hb : Below w.heap.size w W) :
    Calls Try.prog 65 (#[.string s] ++ #[.pointer (some ⟨B, 0, none⟩)]) W fun e w' => e = .returned (.bool (decide (s.toList = a1.toList))) ∧ ∃ q, w' = W.drewN q := by
  have hc : W.cell? ⟨B, 0, none⟩ = some (.string a1) := (hb.cell (p := ⟨B, 0, none⟩) hB).trans hcell
  have e_ : (s.toList == a1.toList) = decide (s.toList = a1.toList) := by rw [Bool.eq_iff_iff]; simp
  rw [← e_]
  show Calls Try.prog 65 #[.string s, .pointer (some ⟨B, 0, none⟩)] W _
  go_enter Try.func65, Try.ntmps65
  go_wp2
  go_ret
  exact ⟨by rw [e_]; rfl, 0, rfl⟩
set_option maxHeartbeats 1000000 in
theorem impl_placesOf.calls (A0 : Option Addr) (c0 : Nat) (l0 : List ByteArray) (a1 : ByteArray) (r : List Int) (w : World) (hr0 : Kd.C Kd.string w A0 l0.length l0) (hc0 : l0.length ≤ c0) (h : impl_placesOf.f l0 a1 = some r) :
    Calls Try.prog 45 #[.slice A0 l0.length c0, .string a1] w fun e w' => ∃ v0_ : Value, e = .returned v0_ ∧ Kd.R (Kd.int .i64) 3 w' w.heap.size (fun _ => True) v0_ r ∧ Below w.heap.size w w' := by
  unfold impl_placesOf.f at h
  split at h
  · rename_i hl
    obtain rfl := Option.some.inj h
    have e65 : ∀ args w, (callFunc 65 args).run Try.prog w = .ok (.enter 65 args) w := enters_of Try.func65 (by kernel_rfl) rfl
    have hcon := impl_placesOf.those (fun s => decide (s.toList = a1.toList)) 65 #[.pointer (some ⟨w.heap.size, 0, none⟩)] e65 A0 c0 l0 (w.alloc (.cells #[.string a1] 9))
      (impl_placesOf.pred a1 w.heap.size _ (by simp) (by simp)) (Kd.C_alloc hr0 _) hl
    have HC := Aside0.mk hcon
    clear hcon hr0
    go_enter Try.func45, Try.ntmps45
    go_wp2_with (go_at_call 64; refine HC.out.mono ?_; rintro e w' ⟨v0_, rfl, ho, hb⟩)
    go_ret
    refine ⟨_, rfl, ?_, ?_⟩
    · exact Kd.R_lower ho (by simp)
    · exact ((Below.refl _ w).alloc (Nat.le_refl _) _).trans (hb.mono (by simp))
  · cases h


end Go.Proofs.Ytfndkjklphajmaa.Q
