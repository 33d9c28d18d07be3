/- Lemmas of every seat: what a law has made lies in an interval of blocks; a row that is marked keeps all others. -/
import Derived.Test.YtnafjfdalapegaaGreatWWords
import Derived.Test.YtnafjfdalapegaaGreatWApart
import Derived.Test.YtnafjfdalapegaaGreatWKept
import Derived.Test.YtnafjfdalapegaaGreatWMore
import Derived.Test.YtnafjfdalapegaaGreatWShare
import Derived.Test.YtnafjfdalapegaaGreatWN
set_option linter.unusedVariables false
set_option linter.unusedSimpArgs false
namespace Go.Proofs.YtnafjfdalapegaaGreatW.GLaw
open Go.RowKit Go.Proofs.YtnafjfdalapegaaGreatW.PrintWords
def In (lo hi k : Nat) : Prop := lo ≤ k ∧ k < hi
theorem apartL {a b c d : Nat} (h : b ≤ c) : ∀ k, In a b k → ¬ In c d k := fun k h1 h2 => by unfold In at h1 h2; omega
theorem apartR {a b c d : Nat} (h : d ≤ a) : ∀ k, In a b k → ¬ In c d k := fun k h1 h2 => by unfold In at h1 h2; omega
section
variable {α : Type} {d : Kd α} {e m : Nat} {w W W2 : World} {v : Value} {xs : List α} {ok : Nat → Prop} {base : Nat}
theorem madeR (hz : m ≤ W.heap.size) (hB : Below w.heap.size w W) (ho : d.R e W2 W.heap.size ok v xs) : ∃ lo hi, m ≤ lo ∧ lo = W.heap.size ∧ hi = W2.heap.size ∧ d.R e W2 w.heap.size (In lo hi) v xs :=
 ⟨_, _, hz, rfl, rfl, Kd.R_lower (Kd.R_mono (Kd.R_bound ho) (fun k hk => ⟨hk.2.1, hk.2.2.1⟩)) hB.size⟩
theorem madeS (hz : m ≤ W.heap.size) (hB : Below w.heap.size w W) (ho : Kd.S d e W2 W.heap.size ok v xs) : ∃ lo hi, m ≤ lo ∧ lo = W.heap.size ∧ hi = W2.heap.size ∧ Kd.S d e W2 w.heap.size (In lo hi) v xs :=
 ⟨_, _, hz, rfl, rfl, Kd.S_lower (Kd.S_mono (Kd.S_bound ho) (fun k hk => ⟨hk.2.1, hk.2.2.1⟩)) hB.size⟩
theorem madeV (hz : m ≤ W.heap.size) (hok : ∀ k, ok k → W.heap.size ≤ k) (ho : Kd.V d e W2 base ok v xs) : ∃ lo hi, m ≤ lo ∧ lo = W.heap.size ∧ hi = W2.heap.size ∧ Kd.V d e W2 w.heap.size (In lo hi) v xs :=
 ⟨_, _, hz, rfl, rfl, Kd.V_map (base' := w.heap.size) (Kd.V_mono (Kd.V_bound ho) (fun k hk => (⟨hok k hk.1, hk.2⟩ : In W.heap.size W2.heap.size k))) (fun _ hf => hf)⟩
end
end Go.Proofs.YtnafjfdalapegaaGreatW.GLaw
namespace Go.Proofs.YtnafjfdalapegaaGreatW.GLaw
theorem ite_some {β : Type} {p : Prop} [Decidable p] {a : Option β} {r : β} (h : (if p then a else none) = some r) : p ∧ a = some r := by
 by_cases hp : p
 ·rw [if_pos hp] at h
  exact ⟨hp, h⟩
 ·rw [if_neg hp] at h
  cases h
theorem itn_some {β : Type} {p : Prop} [Decidable p] {a : Option β} {r : β} (h : (if p then none else a) = some r) : ¬ p ∧ a = some r := by
 by_cases hp : p
 ·rw [if_pos hp] at h
  cases h
 ·rw [if_neg hp] at h
  exact ⟨hp, h⟩
end Go.Proofs.YtnafjfdalapegaaGreatW.GLaw
