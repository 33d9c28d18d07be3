/-
  No cell of these rows narrows 'for every input' (looked for: loops, veiled, ifaces, maps, wideKeys, modest, calm, conditions, laid).
  DERIVED. THE GIVEN ROWS OF THIS SEAT. 10 by the template 'for every input the law returns true; each argument reads behind the call as it read before'; 0 by the template 'total and deterministic' (their statements: YtfndkjklphajmaaTotals.lean).
  GIVEN WITH THE SEED: the statements are not yours to turn. If you find one false, say at which input.
  Laid BY PROGRAM, IN A SANDBOX (cutbox-rows.mjs): the forced cells as the released guide's own fill.sh prints them over the translation ca609ebe419be885… (all of the seat's roots in one cut). By AI agents, Wed Nov 11 2026. No macro, syntax, notation, axiom, sorry.
-/
import Derived.Test.YtfndkjklphajmaaChecked
import GoSem.Claim
import GoSem.ClaimJoined
import GoSem.ClaimMapViews
import Derived.JoinedTies
import Derived.KernelRfl
namespace Go.Proofs.Ytfndkjklphajmaa
/- THE CELL 'sum', in the pinned program and in every row, IS THE sha256 OF THE DUMP (.gsa) THAT YtfndkjklphajmaaProg.lean LOADS. Nothing in Lean hashes anything: it is a label: what it is worth is what the hold of that sum in a sandbox is worth. -/
noncomputable def Try.pinned : Pinned := { name := "ytfndkjklphajmaa", sum := "ca609ebe419be8856895cfca7dc6fdd1260b65bb3cdf0018f3446a7632e74fd7", checked := Try.checked }
namespace Rows
def none {H : Type} : Left H := { results := [], args := [] }

/-- 'laws.FnExactCountOf': WHATEVER THE INPUT: true; the input reads as it did. -/
def fnExactCountOfSpec : ChangeSpec := { name := "fnExactCountOf", fn := fun _ => fun
  | [d1, d2] => { results := [.lit (.bool true)], args := [d1, d2] }
  | _ => none }
def fnExactCountOfRow : OpenClaim := { program := "ytfndkjklphajmaa", sum := "ca609ebe419be8856895cfca7dc6fdd1260b65bb3cdf0018f3446a7632e74fd7", func := "loop.example/g01008/laws.FnExactCountOf", spec := "fnExactCountOf", inPlace := ["internal/bytealg.IndexByteString"], unfollowed := true, recurses := true, plainKeys := false, apart := false }
def FnExactCountOfSaid : Prop := fnExactCountOfRow.holds Try.pinned (OpenSpec.ofChange fnExactCountOfSpec)

/-- ITS FALSE NEIGHBOUR: 'it returns false'. Refute it at one input. -/
def fnExactCountOfWrong : ChangeSpec := { name := "fnExactCountOf", fn := fun _ => fun
  | [d1, d2] => { results := [.lit (.bool false)], args := [d1, d2] }
  | _ => none }
def FnExactCountOfWrongFalsely : Prop := fnExactCountOfRow.holds Try.pinned (OpenSpec.ofChange fnExactCountOfWrong)

/-- 'laws.FnExactMostPair': WHATEVER THE INPUT: true; the input reads as it did. -/
def fnExactMostPairSpec : ChangeSpec := { name := "fnExactMostPair", fn := fun _ => fun
  | [d] => { results := [.lit (.bool true)], args := [d] }
  | _ => none }
def fnExactMostPairRow : OpenClaim := { program := "ytfndkjklphajmaa", sum := "ca609ebe419be8856895cfca7dc6fdd1260b65bb3cdf0018f3446a7632e74fd7", func := "loop.example/g01008/laws.FnExactMostPair", spec := "fnExactMostPair", inPlace := ["internal/bytealg.IndexByteString"], unfollowed := true, recurses := true, plainKeys := false, apart := false }
def FnExactMostPairSaid : Prop := fnExactMostPairRow.holds Try.pinned (OpenSpec.ofChange fnExactMostPairSpec)

/-- ITS FALSE NEIGHBOUR: 'it returns false'. Refute it at one input. -/
def fnExactMostPairWrong : ChangeSpec := { name := "fnExactMostPair", fn := fun _ => fun
  | [d] => { results := [.lit (.bool false)], args := [d] }
  | _ => none }
def FnExactMostPairWrongFalsely : Prop := fnExactMostPairRow.holds Try.pinned (OpenSpec.ofChange fnExactMostPairWrong)

/-- 'laws.FnExactDistancesOf': WHATEVER THE INPUT: true; the input reads as it did. -/
def fnExactDistancesOfSpec : ChangeSpec := { name := "fnExactDistancesOf", fn := fun _ => fun
  | [d1, d2] => { results := [.lit (.bool true)], args := [d1, d2] }
  | _ => none }
def fnExactDistancesOfRow : OpenClaim := { program := "ytfndkjklphajmaa", sum := "ca609ebe419be8856895cfca7dc6fdd1260b65bb3cdf0018f3446a7632e74fd7", func := "loop.example/g01008/laws.FnExactDistancesOf", spec := "fnExactDistancesOf", inPlace := ["internal/bytealg.IndexByteString"], unfollowed := true, recurses := true, plainKeys := false, apart := false }
def FnExactDistancesOfSaid : Prop := fnExactDistancesOfRow.holds Try.pinned (OpenSpec.ofChange fnExactDistancesOfSpec)

/-- ITS FALSE NEIGHBOUR: 'it returns false'. Refute it at one input. -/
def fnExactDistancesOfWrong : ChangeSpec := { name := "fnExactDistancesOf", fn := fun _ => fun
  | [d1, d2] => { results := [.lit (.bool false)], args := [d1, d2] }
  | _ => none }
def FnExactDistancesOfWrongFalsely : Prop := fnExactDistancesOfRow.holds Try.pinned (OpenSpec.ofChange fnExactDistancesOfWrong)

/-- 'laws.FnExactRichestWindow': WHATEVER THE INPUT: true; the input reads as it did. -/
def fnExactRichestWindowSpec : ChangeSpec := { name := "fnExactRichestWindow", fn := fun _ => fun
  | [d1, d2] => { results := [.lit (.bool true)], args := [d1, d2] }
  | _ => none }
def fnExactRichestWindowRow : OpenClaim := { program := "ytfndkjklphajmaa", sum := "ca609ebe419be8856895cfca7dc6fdd1260b65bb3cdf0018f3446a7632e74fd7", func := "loop.example/g01008/laws.FnExactRichestWindow", spec := "fnExactRichestWindow", inPlace := ["internal/bytealg.IndexByteString"], unfollowed := true, recurses := true, plainKeys := false, apart := false }
def FnExactRichestWindowSaid : Prop := fnExactRichestWindowRow.holds Try.pinned (OpenSpec.ofChange fnExactRichestWindowSpec)

/-- ITS FALSE NEIGHBOUR: 'it returns false'. Refute it at one input. -/
def fnExactRichestWindowWrong : ChangeSpec := { name := "fnExactRichestWindow", fn := fun _ => fun
  | [d1, d2] => { results := [.lit (.bool false)], args := [d1, d2] }
  | _ => none }
def FnExactRichestWindowWrongFalsely : Prop := fnExactRichestWindowRow.holds Try.pinned (OpenSpec.ofChange fnExactRichestWindowWrong)

/-- 'laws.FnExactGrowthOf': WHATEVER THE INPUT: true; the input reads as it did. -/
def fnExactGrowthOfSpec : ChangeSpec := { name := "fnExactGrowthOf", fn := fun _ => fun
  | [d] => { results := [.lit (.bool true)], args := [d] }
  | _ => none }
def fnExactGrowthOfRow : OpenClaim := { program := "ytfndkjklphajmaa", sum := "ca609ebe419be8856895cfca7dc6fdd1260b65bb3cdf0018f3446a7632e74fd7", func := "loop.example/g01008/laws.FnExactGrowthOf", spec := "fnExactGrowthOf", inPlace := ["internal/bytealg.IndexByteString"], unfollowed := true, recurses := true, plainKeys := false, apart := false }
def FnExactGrowthOfSaid : Prop := fnExactGrowthOfRow.holds Try.pinned (OpenSpec.ofChange fnExactGrowthOfSpec)

/-- ITS FALSE NEIGHBOUR: 'it returns false'. Refute it at one input. -/
def fnExactGrowthOfWrong : ChangeSpec := { name := "fnExactGrowthOf", fn := fun _ => fun
  | [d] => { results := [.lit (.bool false)], args := [d] }
  | _ => none }
def FnExactGrowthOfWrongFalsely : Prop := fnExactGrowthOfRow.holds Try.pinned (OpenSpec.ofChange fnExactGrowthOfWrong)

/-- 'laws.FnExactContextsOf': WHATEVER THE INPUT: true; the input reads as it did. -/
def fnExactContextsOfSpec : ChangeSpec := { name := "fnExactContextsOf", fn := fun _ => fun
  | [d1, d2] => { results := [.lit (.bool true)], args := [d1, d2] }
  | _ => none }
def fnExactContextsOfRow : OpenClaim := { program := "ytfndkjklphajmaa", sum := "ca609ebe419be8856895cfca7dc6fdd1260b65bb3cdf0018f3446a7632e74fd7", func := "loop.example/g01008/laws.FnExactContextsOf", spec := "fnExactContextsOf", inPlace := ["internal/bytealg.IndexByteString"], unfollowed := true, recurses := true, plainKeys := false, apart := false }
def FnExactContextsOfSaid : Prop := fnExactContextsOfRow.holds Try.pinned (OpenSpec.ofChange fnExactContextsOfSpec)

/-- ITS FALSE NEIGHBOUR: 'it returns false'. Refute it at one input. -/
def fnExactContextsOfWrong : ChangeSpec := { name := "fnExactContextsOf", fn := fun _ => fun
  | [d1, d2] => { results := [.lit (.bool false)], args := [d1, d2] }
  | _ => none }
def FnExactContextsOfWrongFalsely : Prop := fnExactContextsOfRow.holds Try.pinned (OpenSpec.ofChange fnExactContextsOfWrong)

/-- 'laws.FnExactOnceOnly': WHATEVER THE INPUT: true; the input reads as it did. -/
def fnExactOnceOnlySpec : ChangeSpec := { name := "fnExactOnceOnly", fn := fun _ => fun
  | [d] => { results := [.lit (.bool true)], args := [d] }
  | _ => none }
def fnExactOnceOnlyRow : OpenClaim := { program := "ytfndkjklphajmaa", sum := "ca609ebe419be8856895cfca7dc6fdd1260b65bb3cdf0018f3446a7632e74fd7", func := "loop.example/g01008/laws.FnExactOnceOnly", spec := "fnExactOnceOnly", inPlace := ["internal/bytealg.IndexByteString"], unfollowed := true, recurses := true, plainKeys := false, apart := false }
def FnExactOnceOnlySaid : Prop := fnExactOnceOnlyRow.holds Try.pinned (OpenSpec.ofChange fnExactOnceOnlySpec)

/-- ITS FALSE NEIGHBOUR: 'it returns false'. Refute it at one input. -/
def fnExactOnceOnlyWrong : ChangeSpec := { name := "fnExactOnceOnly", fn := fun _ => fun
  | [d] => { results := [.lit (.bool false)], args := [d] }
  | _ => none }
def FnExactOnceOnlyWrongFalsely : Prop := fnExactOnceOnlyRow.holds Try.pinned (OpenSpec.ofChange fnExactOnceOnlyWrong)

/-- 'laws.FnExactRankOf': WHATEVER THE INPUT: true; the input reads as it did. -/
def fnExactRankOfSpec : ChangeSpec := { name := "fnExactRankOf", fn := fun _ => fun
  | [d1, d2] => { results := [.lit (.bool true)], args := [d1, d2] }
  | _ => none }
def fnExactRankOfRow : OpenClaim := { program := "ytfndkjklphajmaa", sum := "ca609ebe419be8856895cfca7dc6fdd1260b65bb3cdf0018f3446a7632e74fd7", func := "loop.example/g01008/laws.FnExactRankOf", spec := "fnExactRankOf", inPlace := ["internal/bytealg.IndexByteString"], unfollowed := true, recurses := true, plainKeys := false, apart := false }
def FnExactRankOfSaid : Prop := fnExactRankOfRow.holds Try.pinned (OpenSpec.ofChange fnExactRankOfSpec)

/-- ITS FALSE NEIGHBOUR: 'it returns false'. Refute it at one input. -/
def fnExactRankOfWrong : ChangeSpec := { name := "fnExactRankOf", fn := fun _ => fun
  | [d1, d2] => { results := [.lit (.bool false)], args := [d1, d2] }
  | _ => none }
def FnExactRankOfWrongFalsely : Prop := fnExactRankOfRow.holds Try.pinned (OpenSpec.ofChange fnExactRankOfWrong)

/-- 'laws.FnExactTopCoverage': WHATEVER THE INPUT: true; the input reads as it did. -/
def fnExactTopCoverageSpec : ChangeSpec := { name := "fnExactTopCoverage", fn := fun _ => fun
  | [d1, d2] => { results := [.lit (.bool true)], args := [d1, d2] }
  | _ => none }
def fnExactTopCoverageRow : OpenClaim := { program := "ytfndkjklphajmaa", sum := "ca609ebe419be8856895cfca7dc6fdd1260b65bb3cdf0018f3446a7632e74fd7", func := "loop.example/g01008/laws.FnExactTopCoverage", spec := "fnExactTopCoverage", inPlace := ["internal/bytealg.IndexByteString"], unfollowed := true, recurses := true, plainKeys := false, apart := false }
def FnExactTopCoverageSaid : Prop := fnExactTopCoverageRow.holds Try.pinned (OpenSpec.ofChange fnExactTopCoverageSpec)

/-- ITS FALSE NEIGHBOUR: 'it returns false'. Refute it at one input. -/
def fnExactTopCoverageWrong : ChangeSpec := { name := "fnExactTopCoverage", fn := fun _ => fun
  | [d1, d2] => { results := [.lit (.bool false)], args := [d1, d2] }
  | _ => none }
def FnExactTopCoverageWrongFalsely : Prop := fnExactTopCoverageRow.holds Try.pinned (OpenSpec.ofChange fnExactTopCoverageWrong)

/-- 'laws.FnExactTopFor': WHATEVER THE INPUT: true; the input reads as it did. -/
def fnExactTopForSpec : ChangeSpec := { name := "fnExactTopFor", fn := fun _ => fun
  | [d1, d2] => { results := [.lit (.bool true)], args := [d1, d2] }
  | _ => none }
def fnExactTopForRow : OpenClaim := { program := "ytfndkjklphajmaa", sum := "ca609ebe419be8856895cfca7dc6fdd1260b65bb3cdf0018f3446a7632e74fd7", func := "loop.example/g01008/laws.FnExactTopFor", spec := "fnExactTopFor", inPlace := ["internal/bytealg.IndexByteString"], unfollowed := true, recurses := true, plainKeys := false, apart := false }
def FnExactTopForSaid : Prop := fnExactTopForRow.holds Try.pinned (OpenSpec.ofChange fnExactTopForSpec)

/-- ITS FALSE NEIGHBOUR: 'it returns false'. Refute it at one input. -/
def fnExactTopForWrong : ChangeSpec := { name := "fnExactTopFor", fn := fun _ => fun
  | [d1, d2] => { results := [.lit (.bool false)], args := [d1, d2] }
  | _ => none }
def FnExactTopForWrongFalsely : Prop := fnExactTopForRow.holds Try.pinned (OpenSpec.ofChange fnExactTopForWrong)

/- THE SECOND FORM. 'bulk': how many values and letters a reading holds, each counted each time it is reached (what is shared counts as often as it is met; a slice's spare places count too). A statement '..UptoSaid' is the law's where the arguments, and the package variables that the reading takes, are together of bulk at most 1048576: NARROWER than '..Said'. Prove '..Said' where nothing that the law and all that it calls make is longer than what came in: it says more and counts as full. Else prove '..UptoSaid'. A law counts once. -/
mutual
def uptoBulk {H : Type} : DataW H → Nat
  | .lit (.string bytes) => bytes.length + 1
  | .lit _ => 1
  | .nil => 1
  | .ptr d => uptoBulk d + 1
  | .slice elems spare => uptoBulkAll elems + uptoBulkAll spare + 1
  | .agg parts => uptoBulkAll parts + 1
  | .iface _ d => uptoBulk d + 1
  | .map entries => uptoBulkEntries entries + 1
  | .held _ => 1
def uptoBulkAll {H : Type} : List (DataW H) → Nat
  | [] => 0
  | d :: r => uptoBulk d + uptoBulkAll r
def uptoBulkEntries {H : Type} : List (Lit × DataW H) → Nat
  | [] => 0
  | x :: r => uptoBulkEntry x + uptoBulkEntries r
def uptoBulkEntry {H : Type} : Lit × DataW H → Nat
  | (.string bytes, d) => bytes.length + uptoBulk d + 1
  | (_, d) => uptoBulk d + 1
 end
def uptoSmall : (H : Type) → List (DataW H) → Bool := fun _ ds => decide (uptoBulkAll ds ≤ 1048576)
def OpenSpec.upto (s : _root_.Go.ChangeSpec) : _root_.Go.OpenSpec := { _root_.Go.OpenSpec.ofChange s with cond := some uptoSmall }

/-- 'laws.FnExactCountOf', WHERE WHAT IT READS IS OF BULK AT MOST 1048576: true; the input reads as it did. -/
def fnExactCountOfUptoRow : OpenClaim := { program := "ytfndkjklphajmaa", sum := "ca609ebe419be8856895cfca7dc6fdd1260b65bb3cdf0018f3446a7632e74fd7", func := "loop.example/g01008/laws.FnExactCountOf", spec := "fnExactCountOf", inPlace := ["internal/bytealg.IndexByteString"], unfollowed := true, recurses := true, plainKeys := false, apart := false, narrowed := true }
def FnExactCountOfUptoSaid : Prop := fnExactCountOfUptoRow.holds Try.pinned (OpenSpec.upto fnExactCountOfSpec)

/-- 'laws.FnExactMostPair', WHERE WHAT IT READS IS OF BULK AT MOST 1048576: true; the input reads as it did. -/
def fnExactMostPairUptoRow : OpenClaim := { program := "ytfndkjklphajmaa", sum := "ca609ebe419be8856895cfca7dc6fdd1260b65bb3cdf0018f3446a7632e74fd7", func := "loop.example/g01008/laws.FnExactMostPair", spec := "fnExactMostPair", inPlace := ["internal/bytealg.IndexByteString"], unfollowed := true, recurses := true, plainKeys := false, apart := false, narrowed := true }
def FnExactMostPairUptoSaid : Prop := fnExactMostPairUptoRow.holds Try.pinned (OpenSpec.upto fnExactMostPairSpec)

/-- 'laws.FnExactDistancesOf', WHERE WHAT IT READS IS OF BULK AT MOST 1048576: true; the input reads as it did. -/
def fnExactDistancesOfUptoRow : OpenClaim := { program := "ytfndkjklphajmaa", sum := "ca609ebe419be8856895cfca7dc6fdd1260b65bb3cdf0018f3446a7632e74fd7", func := "loop.example/g01008/laws.FnExactDistancesOf", spec := "fnExactDistancesOf", inPlace := ["internal/bytealg.IndexByteString"], unfollowed := true, recurses := true, plainKeys := false, apart := false, narrowed := true }
def FnExactDistancesOfUptoSaid : Prop := fnExactDistancesOfUptoRow.holds Try.pinned (OpenSpec.upto fnExactDistancesOfSpec)

/-- 'laws.FnExactRichestWindow', WHERE WHAT IT READS IS OF BULK AT MOST 1048576: true; the input reads as it did. -/
def fnExactRichestWindowUptoRow : OpenClaim := { program := "ytfndkjklphajmaa", sum := "ca609ebe419be8856895cfca7dc6fdd1260b65bb3cdf0018f3446a7632e74fd7", func := "loop.example/g01008/laws.FnExactRichestWindow", spec := "fnExactRichestWindow", inPlace := ["internal/bytealg.IndexByteString"], unfollowed := true, recurses := true, plainKeys := false, apart := false, narrowed := true }
def FnExactRichestWindowUptoSaid : Prop := fnExactRichestWindowUptoRow.holds Try.pinned (OpenSpec.upto fnExactRichestWindowSpec)

/-- 'laws.FnExactGrowthOf', WHERE WHAT IT READS IS OF BULK AT MOST 1048576: true; the input reads as it did. -/
def fnExactGrowthOfUptoRow : OpenClaim := { program := "ytfndkjklphajmaa", sum := "ca609ebe419be8856895cfca7dc6fdd1260b65bb3cdf0018f3446a7632e74fd7", func := "loop.example/g01008/laws.FnExactGrowthOf", spec := "fnExactGrowthOf", inPlace := ["internal/bytealg.IndexByteString"], unfollowed := true, recurses := true, plainKeys := false, apart := false, narrowed := true }
def FnExactGrowthOfUptoSaid : Prop := fnExactGrowthOfUptoRow.holds Try.pinned (OpenSpec.upto fnExactGrowthOfSpec)

/-- 'laws.FnExactContextsOf', WHERE WHAT IT READS IS OF BULK AT MOST 1048576: true; the input reads as it did. -/
def fnExactContextsOfUptoRow : OpenClaim := { program := "ytfndkjklphajmaa", sum := "ca609ebe419be8856895cfca7dc6fdd1260b65bb3cdf0018f3446a7632e74fd7", func := "loop.example/g01008/laws.FnExactContextsOf", spec := "fnExactContextsOf", inPlace := ["internal/bytealg.IndexByteString"], unfollowed := true, recurses := true, plainKeys := false, apart := false, narrowed := true }
def FnExactContextsOfUptoSaid : Prop := fnExactContextsOfUptoRow.holds Try.pinned (OpenSpec.upto fnExactContextsOfSpec)

/-- 'laws.FnExactOnceOnly', WHERE WHAT IT READS IS OF BULK AT MOST 1048576: true; the input reads as it did. -/
def fnExactOnceOnlyUptoRow : OpenClaim := { program := "ytfndkjklphajmaa", sum := "ca609ebe419be8856895cfca7dc6fdd1260b65bb3cdf0018f3446a7632e74fd7", func := "loop.example/g01008/laws.FnExactOnceOnly", spec := "fnExactOnceOnly", inPlace := ["internal/bytealg.IndexByteString"], unfollowed := true, recurses := true, plainKeys := false, apart := false, narrowed := true }
def FnExactOnceOnlyUptoSaid : Prop := fnExactOnceOnlyUptoRow.holds Try.pinned (OpenSpec.upto fnExactOnceOnlySpec)

/-- 'laws.FnExactRankOf', WHERE WHAT IT READS IS OF BULK AT MOST 1048576: true; the input reads as it did. -/
def fnExactRankOfUptoRow : OpenClaim := { program := "ytfndkjklphajmaa", sum := "ca609ebe419be8856895cfca7dc6fdd1260b65bb3cdf0018f3446a7632e74fd7", func := "loop.example/g01008/laws.FnExactRankOf", spec := "fnExactRankOf", inPlace := ["internal/bytealg.IndexByteString"], unfollowed := true, recurses := true, plainKeys := false, apart := false, narrowed := true }
def FnExactRankOfUptoSaid : Prop := fnExactRankOfUptoRow.holds Try.pinned (OpenSpec.upto fnExactRankOfSpec)

/-- 'laws.FnExactTopCoverage', WHERE WHAT IT READS IS OF BULK AT MOST 1048576: true; the input reads as it did. -/
def fnExactTopCoverageUptoRow : OpenClaim := { program := "ytfndkjklphajmaa", sum := "ca609ebe419be8856895cfca7dc6fdd1260b65bb3cdf0018f3446a7632e74fd7", func := "loop.example/g01008/laws.FnExactTopCoverage", spec := "fnExactTopCoverage", inPlace := ["internal/bytealg.IndexByteString"], unfollowed := true, recurses := true, plainKeys := false, apart := false, narrowed := true }
def FnExactTopCoverageUptoSaid : Prop := fnExactTopCoverageUptoRow.holds Try.pinned (OpenSpec.upto fnExactTopCoverageSpec)

/-- 'laws.FnExactTopFor', WHERE WHAT IT READS IS OF BULK AT MOST 1048576: true; the input reads as it did. -/
def fnExactTopForUptoRow : OpenClaim := { program := "ytfndkjklphajmaa", sum := "ca609ebe419be8856895cfca7dc6fdd1260b65bb3cdf0018f3446a7632e74fd7", func := "loop.example/g01008/laws.FnExactTopFor", spec := "fnExactTopFor", inPlace := ["internal/bytealg.IndexByteString"], unfollowed := true, recurses := true, plainKeys := false, apart := false, narrowed := true }
def FnExactTopForUptoSaid : Prop := fnExactTopForUptoRow.holds Try.pinned (OpenSpec.upto fnExactTopForSpec)

end Rows
end Go.Proofs.Ytfndkjklphajmaa
