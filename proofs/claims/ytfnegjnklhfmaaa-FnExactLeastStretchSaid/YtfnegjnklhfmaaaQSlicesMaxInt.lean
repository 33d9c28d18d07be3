-- Written for the seat Ytfnegjnklhfmaaa by a program of this session (wip/tool/gx.py) out of the translation. Lean checks it.
import Derived.Test.YtfnegjnklhfmaaaQ0
import Derived.Test.YtfnegjnklhfmaaaS113
import Derived.Lib.Slices
import Derived.Test.YtfnegjnklhfmaaaWFoot
import Derived.Test.YtfnegjnklhfmaaaWKept
import Derived.Test.YtfnegjnklhfmaaaWShare
namespace Go.Proofs.Ytfnegjnklhfmaaa.Q
open Go.RowKit Go.Proofs.YtfnegjnklhfmaaaW.PrintWords Go.Proofs.YtfnegjnklhfmaaaW.PrintLast Go.Proofs.YtfnegjnklhfmaaaW.PrintMore
attribute [local go_sem] max2_int min2_int max_two min_two max_three min_three max_four min_four   -- for this text's walks alone
set_option linter.unusedVariables false
set_option linter.unusedSimpArgs false

/-! ### slices_Max_int: function 72 -/
def slices_Max_int.f (l0 : List (Int)) : Option (Int) := if l0 = [] then none else some (Lib.maxOf l0)
theorem slices_Max_int.cells {w : World} {A : Option Addr} {n : Nat} {xs : List Int} (h : Kd.C (Kd.int .i64) w A n xs) (hn : 0 < n) : ∃ b off, A = some ⟨b, off, none⟩ ∧ ∀ j, j < xs.length → w.cell? ⟨b, off + j, none⟩ = some (.int .i64 (xs.getD j 0)) := by
  obtain ⟨hl, _, hc⟩ := h
  obtain ⟨⟨b, off, sp⟩, rfl, hc2⟩ := hc hn
  have key : ∀ j, j < xs.length → w.cell? ((⟨b, off, sp⟩ : Addr).add j) = some (.int .i64 (xs.getD j 0)) := by
    intro j hj
    obtain ⟨c, _, hK, hcc⟩ := hc2 j _ (List.getElem?_eq_getElem hj)
    have hK' : c = [.int .i64 xs[j]] := hK
    subst hK'
    have := hcc 0 _ rfl
    have e_ : j * (Kd.int .i64).sz + 0 = j := Nat.mul_one j
    rw [e_] at this
    rw [this, List.getD_eq_getElem?_getD, List.getElem?_eq_getElem hj]
    rfl
  have h0 := key 0 (by omega)
  have e0 : (⟨b, off, sp⟩ : Addr).add 0 = ⟨b, off, sp⟩ := by simp [Addr.add]
  rw [e0] at h0
  have hs : sp = none := World.cell?_spot h0
  subst hs
  refine ⟨b, off, rfl, fun j hj => ?_⟩
  have := key j hj
  have e1 : (⟨b, off, none⟩ : Addr).add j = ⟨b, off + j, none⟩ := by unfold Addr.add; split <;> simp_all
  rwa [e1] at this
theorem slices_Max_int.calls (A0 : Option Addr) (c0 : Nat) (l0 : List (Int)) (r : Int) (w : World) (hr0 : Kd.C (Kd.int .i64) w A0 l0.length l0) (hc0 : l0.length ≤ c0) (h : slices_Max_int.f l0 = some r) :
    Calls Try.prog 72 #[.slice A0 l0.length c0] w fun e w' => e = .returned (.int .i64 r) ∧ Drawn0 w w' := by
  unfold slices_Max_int.f at h
  split at h
  · cases h
  · rename_i hne
    obtain rfl := Option.some.inj h
    have hpos : 0 < l0.length := by cases l0 with
      | nil => exact absurd rfl hne
      | cons a l => simp
    obtain ⟨b, off, rfl, hcell⟩ := slices_Max_int.cells hr0 hpos
    have hbig := Kd.C_max hr0
    refine (Try.slices_Max_int b off l0.length c0 l0 w hpos (Nat.le_refl _) hbig hcell).mono ?_
    rw [List.take_length]
    rintro e w' ⟨rfl, rfl⟩
    exact ⟨rfl, Drawn0.refl _⟩

end Go.Proofs.Ytfnegjnklhfmaaa.Q
