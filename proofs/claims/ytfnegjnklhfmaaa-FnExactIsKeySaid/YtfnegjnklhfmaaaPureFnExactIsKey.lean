/- For every Key, the program's IsKey returns what the reference's IsKey returns. No condition. -/
import Derived.Test.YtfnegjnklhfmaaaQLawsFnExactIsKey
import Derived.Test.YtfnegjnklhfmaaaQLawsToKey
import Derived.Test.YtfnegjnklhfmaaaQSpecIsKey
import Derived.Test.YtfnegjnklhfmaaaKBase
import Derived.Test.YtfnegjnklhfmaaaQ0
set_option linter.unusedVariables false
set_option linter.unusedSimpArgs false
namespace Go.Proofs.Ytfnegjnklhfmaaa.Pure
open Go.RowKit Go.Proofs.Ytfnegjnklhfmaaa.Q Go.Proofs.YtfnegjnklhfmaaaW.PrintWords Go.Proofs.YtfnegjnklhfmaaaW.PrintLast

theorem FnExactIsKey : laws_FnExactIsKey.Pure := by
  intro a b c d e _ _ _ _ _
  unfold laws_FnExactIsKey.f laws_toKey.f spec_IsKey.f
  simp only [Option.bind_some, isKey_eq, avOne_eq]
  simp

end Go.Proofs.Ytfnegjnklhfmaaa.Pure
