-- Written for the seat YtnafjfdalapegaaGreat by a program of this session (wip/tool/gx.py) out of the translation. Lean checks it.
import Derived.Test.YtnafjfdalapegaaGreatQ0
namespace Go.Proofs.YtnafjfdalapegaaGreat.Q
open Go.RowKit Go.Proofs.YtnafjfdalapegaaGreatW.PrintWords Go.Proofs.YtnafjfdalapegaaGreatW.PrintLast Go.Proofs.YtnafjfdalapegaaGreatW.PrintMore
attribute [local go_sem] max2_int min2_int max_two min_two max_three min_three max_four min_four   -- for this text's walks alone
set_option linter.unusedVariables false
set_option linter.unusedSimpArgs false

def B56 (x : S56) : Prop := ((x.f0).size ≤ 140737488351232) ∧ (((x.f1).length * 8 ≤ 140737488351232 ∧ ∀ y, y ∈ x.f1 → (Lit.int .i64 y).wf = true)) ∧ ((Lit.int .i64 x.f2).wf = true)
end Go.Proofs.YtnafjfdalapegaaGreat.Q
