/- Plain lemmas on what the printed functions compute: bounds and keys. -/
import Derived.Test.YtfnegjnklhfmaaaQImplIsKey
import Derived.Test.YtfnegjnklhfmaaaQImplWithin
import Derived.Test.YtfnegjnklhfmaaaQSpecAvFrame
import Derived.Test.YtfnegjnklhfmaaaQSpecAvOne
import Derived.Test.YtfnegjnklhfmaaaQSpecL1In
import Derived.Test.YtfnegjnklhfmaaaQ0
set_option linter.unusedVariables false
set_option linter.unusedSimpArgs false
namespace Go.Proofs.Ytfnegjnklhfmaaa.Pure
open Go.RowKit Go.Proofs.Ytfnegjnklhfmaaa.Q Go.Proofs.YtfnegjnklhfmaaaW.PrintWords Go.Proofs.YtfnegjnklhfmaaaW.PrintLast

def inB (a b c : Int) : Bool := decide (b ≤ a ∧ a ≤ c)
theorem l1In_eq (a b c : Int) : spec_l1In.f a b c = some (inB a b c) := by
  unfold spec_l1In.f inB
  split <;> simp <;> omega
theorem within_eq (a b c : Int) : impl_within.f a b c = some (inB a b c) := by
  unfold impl_within.f inB
  split <;> simp <;> omega
def keyB (a b c d e : Int) : Bool := inB a 0 9999 && (inB b (-90) 180 && (inB c 0 150 && (inB d (-70) 70 && inB e 0 90)))
theorem isKey_eq (a b c d e : Int) : impl_IsKey.f a b c d e = some (keyB a b c d e) := by
  unfold impl_IsKey.f keyB
  simp only [within_eq, Option.bind_some]
  cases inB a 0 9999 <;> cases inB b (-90) 180 <;> cases inB c 0 150 <;> cases inB d (-70) 70 <;> simp
theorem avOne_eq (a b c d e : Int) : spec_avOne.f a b c d e = some (keyB a b c d e) := by
  unfold spec_avOne.f spec_avFrame.f keyB
  simp only [l1In_eq, Option.bind_some]
  cases inB a 0 9999 <;> cases inB b (-90) 180 <;> cases inB c 0 150 <;> cases inB d (-70) 70 <;> simp
end Go.Proofs.Ytfnegjnklhfmaaa.Pure
