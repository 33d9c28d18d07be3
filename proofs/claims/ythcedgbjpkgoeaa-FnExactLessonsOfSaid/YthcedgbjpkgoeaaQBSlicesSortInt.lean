-- Written for the seat Ythcedgbjpkgoeaa by a program of this session (wip/tool/gx.py) out of the translation. Lean checks it.
import Derived.Test.YthcedgbjpkgoeaaQ0
import Derived.Test.YthcedgbjpkgoeaaS189
import Derived.Test.YthcedgbjpkgoeaaS0Nm231
import Derived.Test.YthcedgbjpkgoeaaWKept
import Derived.Shelf.GgClosure.Gives
import Derived.Lib.OwnBridge
import Derived.Test.YthcedgbjpkgoeaaWKept
import Derived.Test.YthcedgbjpkgoeaaWShare
namespace Go.Proofs.Ythcedgbjpkgoeaa.Q
open Go.RowKit Go.Proofs.YthcedgbjpkgoeaaW.PrintWords Go.Proofs.YthcedgbjpkgoeaaW.PrintLast Go.Proofs.YthcedgbjpkgoeaaW.PrintMore
attribute [local go_sem] max2_int min2_int max_two min_two max_three min_three max_four min_four   -- for this text's walks alone
set_option linter.unusedVariables false
set_option linter.unusedSimpArgs false

/-! ### slices_Sort_int: function 61 -/
def slices_Sort_int.srt (l : List Int) : List Int := l.mergeSort fun x y => decide (x ≤ y)
def slices_Sort_int.f (l0 : List Int) : Option (List Int) := if l0.length < 4611686018427387904 then some (slices_Sort_int.srt l0) else none
set_option maxHeartbeats 1000000
open Go.RowKit Go.Lib Go.Sort Go.Proofs.YthcedgbjpkgoeaaW.PrintWords Go.Proofs.YthcedgbjpkgoeaaW.PrintLast Go.Proofs.YthcedgbjpkgoeaaW.PrintMore Go.Proofs.YthcedgbjpkgoeaaW Go.Proofs.Ythcedgbjpkgoeaa.Q
theorem slices_Sort_int.nil_or {w : World} {base e n : Nat} {zs : List Int} (h : w.ownsRow base e 1 (.slice none 0 0) n (zs.map (Value.int .i64))) : zs = [] := by
  have hl : zs.length = n := by simpa using h.1
  rcases h.2 with ⟨_, h2⟩ | ⟨g, cap, cur, e0, _⟩
  · exact List.eq_nil_of_length_eq_zero (by omega)
  · cases e0
theorem slices_Sort_int.calls (P0_ : Nat → Prop) (u9000_ : Value) (l0 : List Int) (r1 : List Int) (w0 w : World) (hB : Below w0.heap.size w0 w) (ho0 : Kd.R (Kd.int .i64) 3 w w0.heap.size P0_ u9000_ l0) (h : slices_Sort_int.f l0 = some r1) :
    Calls Try.prog 61 #[u9000_] w fun e w' => e = .returned (.tuple #[]) ∧ Kd.R (Kd.int .i64) 3 w' w0.heap.size (fun k_ => (P0_ k_ ∨ w.heap.size ≤ k_)) u9000_ r1 ∧ Below w0.heap.size w0 w' ∧ Kept w w' (fun k_ => P0_ k_) := by
  unfold slices_Sort_int.f at h
  split at h
  case isFalse => cases h
  rename_i hl
  obtain rfl := Option.some.inj h
  clear h
  have ho : w.ownsRow w0.heap.size 3 1 u9000_ l0.length (l0.map (Value.int .i64)) := Kd.own_of_R ho0
  by_cases hv : u9000_ = .slice none 0 0
  · subst hv
    obtain rfl := slices_Sort_int.nil_or ho
    refine (Try.slices_Sort_int_none none 0 w).mono ?_
    rintro e w' ⟨rfl, rfl⟩
    exact ⟨rfl, by simpa [slices_Sort_int.srt] using Kd.R_mono ho0 (fun k_ hk => .inl hk), hB, Kept.refl _ _⟩
  · obtain ⟨g, cap, rfl, hb, hlt, hn, hm, _, hH⟩ := Lib.holds_of_ownsRow ho hv
    refine (Try.slices_Sort_int g 0 cap l0 w hH hlt hl).mono ?_
    rintro e w' ⟨rfl, n, os, rfl⟩
    have hlen : (slices_Sort_int.srt l0).length = l0.length := by simp [slices_Sort_int.srt]
    have h1 := Lib.ownsRow_putRow (q := n) (k := l0.length) (ys := slices_Sort_int.srt l0) ho hlen (Nat.le_refl _)
    rw [List.take_of_length_le (by omega)] at h1
    have hbel := below_grown (putRow (Value.int .i64) (Sort.ahead w n) g 0 (slices_Sort_int.srt l0).toArray) 0 os
    have hz : (putRow (Value.int .i64) (Sort.ahead w n) g 0 (slices_Sort_int.srt l0).toArray).heap.size = w.heap.size := by simp [putRow, mapBlock, Sort.ahead]
    have hP : P0_ g := ho0.1 g (by simp [Value.ownBlock])
    refine ⟨rfl, ?_, ?_, ?_, ?_⟩
    · have h2 : Kd.R (Kd.int .i64) 3 (putRow (Value.int .i64) (Sort.ahead w n) g 0 (slices_Sort_int.srt l0).toArray) w0.heap.size (fun k_ => (P0_ k_ ∨ w.heap.size ≤ k_)) (.slice (some ⟨g, 0, none⟩) l0.length cap) (slices_Sort_int.srt l0) := Kd.R_of_own (by rw [hlen]; exact h1) (fun k hk => .inl (ho0.1 k hk))
      exact Kd.R_below h2 hbel
    · have hp := Lib.below_putRow (enc := Value.int .i64) (q := n) (d := (slices_Sort_int.srt l0).toArray) hB hb
      exact hp.trans (hbel.mono (by rw [hz]; exact hB.size))
    · exact Nat.le_trans (Nat.le_of_eq hz.symm) hbel.size
    · intro i hi hni
      refine (hbel.block i (by rw [hz]; exact hi)).trans ?_
      have hne : g ≠ i := fun e => hni (e ▸ hP)
      simp [putRow, mapBlock, Sort.ahead, Array.getElem?_modify, hne]


end Go.Proofs.Ythcedgbjpkgoeaa.Q
