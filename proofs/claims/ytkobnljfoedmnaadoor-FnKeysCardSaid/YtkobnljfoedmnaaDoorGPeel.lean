/- What a fact on rows is in a later world,told shortly: rows of rows. -/
import Derived.Test.YtkobnljfoedmnaaDoorWMore
set_option linter.unusedVariables false
namespace Go.Proofs.YtkobnljfoedmnaaDoorW.GCall
open Go.RowKit Go.Proofs.YtkobnljfoedmnaaDoorW.PrintWords Go.Proofs.YtkobnljfoedmnaaDoorW.PrintLast Go.Proofs.YtkobnljfoedmnaaDoorW.PrintMore
section
variable {α : Type} {d : Kd α} {e : Nat} {w w1 W0 : World} {base : Nat} {ok : Nat -> Prop} {v : Value} {xs : List α}
theorem ZBR (h : Aside0 (Kd.R d e W0 base ok v xs)) (hb : Below w.heap.size w w1) (e' : Kd.R d e W0 base ok v xs -> Kd.R d e w base ok v xs := by intro h_;(with_reducible repeat (first|apply Kd.R_alloc | apply Kd.R_drewN | apply Kd.R_drew));exact h_) : Aside0 (Kd.R d e w1 base ok v xs) := ⟨Kd.R_below (e' h.out) hb⟩
end
end Go.Proofs.YtkobnljfoedmnaaDoorW.GCall
