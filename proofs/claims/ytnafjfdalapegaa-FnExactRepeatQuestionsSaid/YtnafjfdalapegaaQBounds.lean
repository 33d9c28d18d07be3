-- Written for the seat Ytnafjfdalapegaa by a program of this session (wip/tool/gx.py) out of the translation. Lean checks it.
import Derived.Test.YtnafjfdalapegaaQ0
namespace Go.Proofs.Ytnafjfdalapegaa.Q
open Go.RowKit Go.Proofs.YtnafjfdalapegaaW.PrintWords Go.Proofs.YtnafjfdalapegaaW.PrintLast Go.Proofs.YtnafjfdalapegaaW.PrintMore
attribute [local go_sem] max2_int min2_int max_two min_two max_three min_three max_four min_four   -- for this text's walks alone
set_option linter.unusedVariables false
set_option linter.unusedSimpArgs false

def B24 (x : S24) : Prop := ((Lit.int .i64 x.f0).wf = true) ∧ (((x.f1).length * 8 ≤ 140737488351232 ∧ ∀ y, y ∈ x.f1 → (Lit.int .i64 y).wf = true))
end Go.Proofs.Ytnafjfdalapegaa.Q
