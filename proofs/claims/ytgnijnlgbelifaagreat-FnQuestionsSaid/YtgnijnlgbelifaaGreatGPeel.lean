/- What a fact on rows is in a later world,told shortly: rows of rows. -/
import Derived.Test.YtgnijnlgbelifaaGreatWMore
set_option linter.unusedVariables false
namespace Go.Proofs.YtgnijnlgbelifaaGreatW.GCall
open Go.RowKit Go.Proofs.YtgnijnlgbelifaaGreatW.PrintWords Go.Proofs.YtgnijnlgbelifaaGreatW.PrintLast Go.Proofs.YtgnijnlgbelifaaGreatW.PrintMore
section
variable {α : Type} {d : Kd α} {e : Nat} {w w1 W0 : World} {base : Nat} {ok : Nat -> Prop} {v : Value} {xs : List α}
theorem ZKN (h : Aside0 (Kd.N d e W0 base ok v xs)) (e' : Kd.N d e W0 base ok v xs -> Kd.N d e w base ok v xs := by intro h_;(with_reducible repeat (first|apply Kd.Eip | apply Kd.Eiq | apply Kd.Edi));exact h_) : Kd.N d e w base ok v xs := e' h.out
theorem ZKS (h : Aside0 (Kd.S d e W0 base ok v xs)) (e' : Kd.S d e W0 base ok v xs -> Kd.S d e w base ok v xs := by intro h_;(with_reducible repeat (first|apply Kd.Eec | apply Kd.Eed | apply Kd.Eek));exact h_) : Kd.S d e w base ok v xs := e' h.out
theorem ZKV (h : Aside0 (Kd.V d e W0 base ok v xs)) (e' : Kd.V d e W0 base ok v xs -> Kd.V d e w base ok v xs := by intro h_;(with_reducible repeat (first|apply Kd.Ekv | apply Kd.Ekw | apply Kd.Eds));exact h_) : Kd.V d e w base ok v xs := e' h.out
theorem ZBN (h : Aside0 (Kd.N d e W0 base ok v xs)) (hb : Below w.heap.size w w1) (e' : Kd.N d e W0 base ok v xs -> Kd.N d e w base ok v xs := by intro h_;(with_reducible repeat (first|apply Kd.Eip | apply Kd.Eiq | apply Kd.Edi));exact h_) : Aside0 (Kd.N d e w1 base ok v xs) := ⟨Kd.Eah (e' h.out) hb⟩
theorem ZBS (h : Aside0 (Kd.S d e W0 base ok v xs)) (hb : Below w.heap.size w w1) (e' : Kd.S d e W0 base ok v xs -> Kd.S d e w base ok v xs := by intro h_;(with_reducible repeat (first|apply Kd.Eec | apply Kd.Eed | apply Kd.Eek));exact h_) : Aside0 (Kd.S d e w1 base ok v xs) := ⟨Kd.Eeb (e' h.out) hb⟩
theorem ZBV (h : Aside0 (Kd.V d e W0 base ok v xs)) (hb : Below w.heap.size w w1) (e' : Kd.V d e W0 base ok v xs -> Kd.V d e w base ok v xs := by intro h_;(with_reducible repeat (first|apply Kd.Ekv | apply Kd.Ekw | apply Kd.Eds));exact h_) : Aside0 (Kd.V d e w1 base ok v xs) := ⟨Kd.Ebn (e' h.out) hb⟩
theorem ZBR (h : Aside0 (Kd.R d e W0 base ok v xs)) (hb : Below w.heap.size w w1) (e' : Kd.R d e W0 base ok v xs -> Kd.R d e w base ok v xs := by intro h_;(with_reducible repeat (first|apply Kd.Ekj | apply Kd.Ekk | apply Kd.Edr));exact h_) : Aside0 (Kd.R d e w1 base ok v xs) := ⟨Kd.Ebj (e' h.out) hb⟩
end
end Go.Proofs.YtgnijnlgbelifaaGreatW.GCall
