import Derived.Test.YtgnijnlgbelifaaGreatWMore
set_option linter.unusedVariables false
namespace Go.Proofs.YtgnijnlgbelifaaGreat.W.GCall
open RowKit W.PrintWords W.PrintLast W.PrintMore
section
variable {α : Type} {d : Kd α} {e : Nat} {w w1 W0 : World} {base : Nat} {ok : Nat -> Prop} {v : Value} {xs : List α}
theorem ZKN (h : Aside0 (Kd.N d e W0 base ok v xs)) (e' : Kd.N d e W0 base ok v xs -> Kd.N d e w base ok v xs := by intro h_;(with_reducible repeat (first|apply Kd.Eil | apply Kd.Eim | apply Kd.Efd));exact h_) : Kd.N d e w base ok v xs := e' h.out
theorem ZKS (h : Aside0 (Kd.S d e W0 base ok v xs)) (e' : Kd.S d e W0 base ok v xs -> Kd.S d e w base ok v xs := by intro h_;(with_reducible repeat (first|apply Kd.Eei | apply Kd.Eej | apply Kd.Ecm));exact h_) : Kd.S d e w base ok v xs := e' h.out
theorem ZKV (h : Aside0 (Kd.V d e W0 base ok v xs)) (e' : Kd.V d e W0 base ok v xs -> Kd.V d e w base ok v xs := by intro h_;(with_reducible repeat (first|apply Kd.Ekf | apply Kd.Ekg | apply Kd.Efb));exact h_) : Kd.V d e w base ok v xs := e' h.out
theorem ZBN (h : Aside0 (Kd.N d e W0 base ok v xs)) (hb : Below w.heap.size w w1) (e' : Kd.N d e W0 base ok v xs -> Kd.N d e w base ok v xs := by intro h_;(with_reducible repeat (first|apply Kd.Eil | apply Kd.Eim | apply Kd.Efd));exact h_) : Aside0 (Kd.N d e w1 base ok v xs) := ⟨Kd.Ece (e' h.out) hb⟩
theorem ZBS (h : Aside0 (Kd.S d e W0 base ok v xs)) (hb : Below w.heap.size w w1) (e' : Kd.S d e W0 base ok v xs -> Kd.S d e w base ok v xs := by intro h_;(with_reducible repeat (first|apply Kd.Eei | apply Kd.Eej | apply Kd.Ecm));exact h_) : Aside0 (Kd.S d e w1 base ok v xs) := ⟨Kd.Ebq (e' h.out) hb⟩
theorem ZBV (h : Aside0 (Kd.V d e W0 base ok v xs)) (hb : Below w.heap.size w w1) (e' : Kd.V d e W0 base ok v xs -> Kd.V d e w base ok v xs := by intro h_;(with_reducible repeat (first|apply Kd.Ekf | apply Kd.Ekg | apply Kd.Efb));exact h_) : Aside0 (Kd.V d e w1 base ok v xs) := ⟨Kd.Edd (e' h.out) hb⟩
theorem ZBR (h : Aside0 (Kd.R d e W0 base ok v xs)) (hb : Below w.heap.size w w1) (e' : Kd.R d e W0 base ok v xs -> Kd.R d e w base ok v xs := by intro h_;(with_reducible repeat (first|apply Kd.Eku | apply Kd.Ekv | apply Kd.Edc));exact h_) : Aside0 (Kd.R d e w1 base ok v xs) := ⟨Kd.Eem (e' h.out) hb⟩
end
end Go.Proofs.YtgnijnlgbelifaaGreat.W.GCall
