/- For every list of keys, the program's AreKeys returns what the reference's AreKeys returns, and leaves the list alone. No condition. -/
import Derived.Test.YtfnegjnklhfmaaaQLawsFnExactAreKeys
import Derived.Test.YtfnegjnklhfmaaaQSpecAreKeys
import Derived.Test.YtfnegjnklhfmaaaKKeys
import Derived.Test.YtfnegjnklhfmaaaKKeyLaws
import Derived.Test.YtfnegjnklhfmaaaQ0
set_option linter.unusedVariables false
set_option linter.unusedSimpArgs false
namespace Go.Proofs.Ytfnegjnklhfmaaa.Pure
open Go.RowKit Go.Proofs.Ytfnegjnklhfmaaa.Q Go.Proofs.YtfnegjnklhfmaaaW.PrintWords Go.Proofs.YtfnegjnklhfmaaaW.PrintLast

theorem FnExactAreKeys : laws_FnExactAreKeys.Pure := by
  intro l h _
  obtain ⟨r, hr, _⟩ := szKeyS_some l 1048576 h (by decide) (by decide)
  refine Ev.rounds ?_
  unfold laws_FnExactAreKeys.f spec_AreKeys.f
  simp only [hr, Option.bind_some]
  by_cases h0 : r < 0
  · simp only [eq_true h0, if_true]
    exact Ev.now _
  simp only [eq_false h0, if_false]
  have hm : (l.map kconv).length < 4611686018427387904 := by rw [List.length_map]; omega
  refine Ev.bind (toKeyS_ev l h) ?_
  refine Ev.bind (Ev.bind (avGood_ev _ hm) (Ev.now _)) ?_
  refine Ev.bind (toKeyS_ev l h) ?_
  refine Ev.bind (areKeys_ev _ hm) ?_
  simp only [bne_self_eq_false]
  refine Ev.bind (toKeyS_ev l h) ?_
  refine Ev.bind (eqKeyS_ev _ hm) ?_
  exact Ev.now _
end Go.Proofs.Ytfnegjnklhfmaaa.Pure
