-- Written for the seat Ythcedgbjpkgoeaa by a program of this session (wip/tool/gx.py) out of the translation. Lean checks it.
import Derived.Test.YthcedgbjpkgoeaaQ0
namespace Go.Proofs.Ythcedgbjpkgoeaa.Q
open Go.RowKit Go.Proofs.YthcedgbjpkgoeaaW.PrintWords Go.Proofs.YthcedgbjpkgoeaaW.PrintLast Go.Proofs.YthcedgbjpkgoeaaW.PrintMore
attribute [local go_sem] max2_int min2_int max_two min_two max_three min_three max_four min_four   -- for this text's walks alone
set_option linter.unusedVariables false
set_option linter.unusedSimpArgs false

def B54 (x : S54) : Prop := ((x.f0).size ≤ 140737488351232) ∧ (((x.f1).length * 8 ≤ 140737488351232 ∧ ∀ y, y ∈ x.f1 → (Lit.int .i64 y).wf = true)) ∧ ((Lit.int .i64 x.f2).wf = true)
end Go.Proofs.Ythcedgbjpkgoeaa.Q
