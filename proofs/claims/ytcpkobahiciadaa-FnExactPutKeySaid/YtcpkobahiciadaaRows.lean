/-
  No cell of these rows narrows 'for every input' (looked for: loops, veiled, ifaces, maps, wideKeys, modest, calm, conditions, laid).
  DERIVED. THE GIVEN ROWS OF THIS SEAT. 7 by the template 'for every input the law returns true; each argument reads behind the call as it read before'; 0 by the template 'total and deterministic' (their statements: YtcpkobahiciadaaTotals.lean).
  GIVEN WITH THE SEED: the statements are not yours to turn. If you find one false, say at which input.
  Laid BY PROGRAM, IN A SANDBOX (cutbox-rows.mjs): the forced cells as the released guide's own fill.sh prints them over the translation 7f47c223e8fba107… (all of the seat's roots in one cut). By AI agents, Wed Nov 11 2026. No macro, syntax, notation, axiom, sorry.
-/
import Derived.Test.YtcpkobahiciadaaChecked
import GoSem.Claim
import GoSem.ClaimJoined
import GoSem.ClaimMapViews
import Derived.JoinedTies
import Derived.KernelRfl
namespace Go.Proofs.Ytcpkobahiciadaa
/- THE CELL 'sum', in the pinned program and in every row, IS THE sha256 OF THE DUMP (.gsa) THAT YtcpkobahiciadaaProg.lean LOADS. Nothing in Lean hashes anything: it is a label: what it is worth is what the hold of that sum in a sandbox is worth. -/
noncomputable def Try.pinned : Pinned := { name := "ytcpkobahiciadaa", sum := "7f47c223e8fba107089e7ce7f7c934fcbf6cb66c738ebe437a53d5fe661904c1", checked := Try.checked }
namespace Rows
def none {H : Type} : Left H := { results := [], args := [] }

/-- 'laws.FnExactRunAnswers': WHATEVER THE INPUT: true; the input reads as it did. -/
def fnExactRunAnswersSpec : ChangeSpec := { name := "fnExactRunAnswers", fn := fun _ => fun
  | [d1, d2] => { results := [.lit (.bool true)], args := [d1, d2] }
  | _ => none }
def fnExactRunAnswersRow : OpenClaim := { program := "ytcpkobahiciadaa", sum := "7f47c223e8fba107089e7ce7f7c934fcbf6cb66c738ebe437a53d5fe661904c1", func := "loop.example/g01008/laws.FnExactRunAnswers", spec := "fnExactRunAnswers", inPlace := ["internal/bytealg.IndexByteString"], unfollowed := true, recurses := true, plainKeys := false, apart := false }
def FnExactRunAnswersSaid : Prop := fnExactRunAnswersRow.holds Try.pinned (OpenSpec.ofChange fnExactRunAnswersSpec)

/-- ITS FALSE NEIGHBOUR: 'it returns false'. Refute it at one input. -/
def fnExactRunAnswersWrong : ChangeSpec := { name := "fnExactRunAnswers", fn := fun _ => fun
  | [d1, d2] => { results := [.lit (.bool false)], args := [d1, d2] }
  | _ => none }
def FnExactRunAnswersWrongFalsely : Prop := fnExactRunAnswersRow.holds Try.pinned (OpenSpec.ofChange fnExactRunAnswersWrong)

/-- 'laws.FnExactPutKey': WHATEVER THE INPUT: true; the input reads as it did. -/
def fnExactPutKeySpec : ChangeSpec := { name := "fnExactPutKey", fn := fun _ => fun
  | [d1, d2] => { results := [.lit (.bool true)], args := [d1, d2] }
  | _ => none }
def fnExactPutKeyRow : OpenClaim := { program := "ytcpkobahiciadaa", sum := "7f47c223e8fba107089e7ce7f7c934fcbf6cb66c738ebe437a53d5fe661904c1", func := "loop.example/g01008/laws.FnExactPutKey", spec := "fnExactPutKey", unfollowed := true, recurses := true, plainKeys := false, apart := false }
def FnExactPutKeySaid : Prop := fnExactPutKeyRow.holds Try.pinned (OpenSpec.ofChange fnExactPutKeySpec)

/-- ITS FALSE NEIGHBOUR: 'it returns false'. Refute it at one input. -/
def fnExactPutKeyWrong : ChangeSpec := { name := "fnExactPutKey", fn := fun _ => fun
  | [d1, d2] => { results := [.lit (.bool false)], args := [d1, d2] }
  | _ => none }
def FnExactPutKeyWrongFalsely : Prop := fnExactPutKeyRow.holds Try.pinned (OpenSpec.ofChange fnExactPutKeyWrong)

/-- 'laws.FnExactPlanDay': WHATEVER THE INPUT: true; the input reads as it did. -/
def fnExactPlanDaySpec : ChangeSpec := { name := "fnExactPlanDay", fn := fun _ => fun
  | [d1, d2, d3] => { results := [.lit (.bool true)], args := [d1, d2, d3] }
  | _ => none }
def fnExactPlanDayRow : OpenClaim := { program := "ytcpkobahiciadaa", sum := "7f47c223e8fba107089e7ce7f7c934fcbf6cb66c738ebe437a53d5fe661904c1", func := "loop.example/g01008/laws.FnExactPlanDay", spec := "fnExactPlanDay", inPlace := ["internal/bytealg.IndexByteString"], unfollowed := true, recurses := true, plainKeys := false, apart := false }
def FnExactPlanDaySaid : Prop := fnExactPlanDayRow.holds Try.pinned (OpenSpec.ofChange fnExactPlanDaySpec)

/-- ITS FALSE NEIGHBOUR: 'it returns false'. Refute it at one input. -/
def fnExactPlanDayWrong : ChangeSpec := { name := "fnExactPlanDay", fn := fun _ => fun
  | [d1, d2, d3] => { results := [.lit (.bool false)], args := [d1, d2, d3] }
  | _ => none }
def FnExactPlanDayWrongFalsely : Prop := fnExactPlanDayRow.holds Try.pinned (OpenSpec.ofChange fnExactPlanDayWrong)

/-- 'laws.FnExactMostPair': WHATEVER THE INPUT: true; the input reads as it did. -/
def fnExactMostPairSpec : ChangeSpec := { name := "fnExactMostPair", fn := fun _ => fun
  | [d] => { results := [.lit (.bool true)], args := [d] }
  | _ => none }
def fnExactMostPairRow : OpenClaim := { program := "ytcpkobahiciadaa", sum := "7f47c223e8fba107089e7ce7f7c934fcbf6cb66c738ebe437a53d5fe661904c1", func := "loop.example/g01008/laws.FnExactMostPair", spec := "fnExactMostPair", inPlace := ["internal/bytealg.IndexByteString"], unfollowed := true, recurses := true, plainKeys := false, apart := false }
def FnExactMostPairSaid : Prop := fnExactMostPairRow.holds Try.pinned (OpenSpec.ofChange fnExactMostPairSpec)

/-- ITS FALSE NEIGHBOUR: 'it returns false'. Refute it at one input. -/
def fnExactMostPairWrong : ChangeSpec := { name := "fnExactMostPair", fn := fun _ => fun
  | [d] => { results := [.lit (.bool false)], args := [d] }
  | _ => none }
def FnExactMostPairWrongFalsely : Prop := fnExactMostPairRow.holds Try.pinned (OpenSpec.ofChange fnExactMostPairWrong)

/-- 'laws.FnExactRankOf': WHATEVER THE INPUT: true; the input reads as it did. -/
def fnExactRankOfSpec : ChangeSpec := { name := "fnExactRankOf", fn := fun _ => fun
  | [d1, d2] => { results := [.lit (.bool true)], args := [d1, d2] }
  | _ => none }
def fnExactRankOfRow : OpenClaim := { program := "ytcpkobahiciadaa", sum := "7f47c223e8fba107089e7ce7f7c934fcbf6cb66c738ebe437a53d5fe661904c1", func := "loop.example/g01008/laws.FnExactRankOf", spec := "fnExactRankOf", inPlace := ["internal/bytealg.IndexByteString"], unfollowed := true, recurses := true, plainKeys := false, apart := false }
def FnExactRankOfSaid : Prop := fnExactRankOfRow.holds Try.pinned (OpenSpec.ofChange fnExactRankOfSpec)

/-- ITS FALSE NEIGHBOUR: 'it returns false'. Refute it at one input. -/
def fnExactRankOfWrong : ChangeSpec := { name := "fnExactRankOf", fn := fun _ => fun
  | [d1, d2] => { results := [.lit (.bool false)], args := [d1, d2] }
  | _ => none }
def FnExactRankOfWrongFalsely : Prop := fnExactRankOfRow.holds Try.pinned (OpenSpec.ofChange fnExactRankOfWrong)

/-- 'laws.FnExactTopCoverage': WHATEVER THE INPUT: true; the input reads as it did. -/
def fnExactTopCoverageSpec : ChangeSpec := { name := "fnExactTopCoverage", fn := fun _ => fun
  | [d1, d2] => { results := [.lit (.bool true)], args := [d1, d2] }
  | _ => none }
def fnExactTopCoverageRow : OpenClaim := { program := "ytcpkobahiciadaa", sum := "7f47c223e8fba107089e7ce7f7c934fcbf6cb66c738ebe437a53d5fe661904c1", func := "loop.example/g01008/laws.FnExactTopCoverage", spec := "fnExactTopCoverage", inPlace := ["internal/bytealg.IndexByteString"], unfollowed := true, recurses := true, plainKeys := false, apart := false }
def FnExactTopCoverageSaid : Prop := fnExactTopCoverageRow.holds Try.pinned (OpenSpec.ofChange fnExactTopCoverageSpec)

/-- ITS FALSE NEIGHBOUR: 'it returns false'. Refute it at one input. -/
def fnExactTopCoverageWrong : ChangeSpec := { name := "fnExactTopCoverage", fn := fun _ => fun
  | [d1, d2] => { results := [.lit (.bool false)], args := [d1, d2] }
  | _ => none }
def FnExactTopCoverageWrongFalsely : Prop := fnExactTopCoverageRow.holds Try.pinned (OpenSpec.ofChange fnExactTopCoverageWrong)

/-- 'laws.FnExactTopFor': WHATEVER THE INPUT: true; the input reads as it did. -/
def fnExactTopForSpec : ChangeSpec := { name := "fnExactTopFor", fn := fun _ => fun
  | [d1, d2] => { results := [.lit (.bool true)], args := [d1, d2] }
  | _ => none }
def fnExactTopForRow : OpenClaim := { program := "ytcpkobahiciadaa", sum := "7f47c223e8fba107089e7ce7f7c934fcbf6cb66c738ebe437a53d5fe661904c1", func := "loop.example/g01008/laws.FnExactTopFor", spec := "fnExactTopFor", inPlace := ["internal/bytealg.IndexByteString"], unfollowed := true, recurses := true, plainKeys := false, apart := false }
def FnExactTopForSaid : Prop := fnExactTopForRow.holds Try.pinned (OpenSpec.ofChange fnExactTopForSpec)

/-- ITS FALSE NEIGHBOUR: 'it returns false'. Refute it at one input. -/
def fnExactTopForWrong : ChangeSpec := { name := "fnExactTopFor", fn := fun _ => fun
  | [d1, d2] => { results := [.lit (.bool false)], args := [d1, d2] }
  | _ => none }
def FnExactTopForWrongFalsely : Prop := fnExactTopForRow.holds Try.pinned (OpenSpec.ofChange fnExactTopForWrong)

/- THE SECOND FORM. 'bulk': how many values and letters a reading holds, each counted each time it is reached (what is shared counts as often as it is met; a slice's spare places count too). A statement '..UptoSaid' is the law's where the arguments, and the package variables that the reading takes, are together of bulk at most 1048576: NARROWER than '..Said'. Prove '..Said' where nothing that the law and all that it calls make is longer than what came in: it says more and counts as full. Else prove '..UptoSaid'. A law counts once. -/
mutual
def uptoBulk {H : Type} : DataW H → Nat
  | .lit (.string bytes) => bytes.length + 1
  | .lit _ => 1
  | .nil => 1
  | .ptr d => uptoBulk d + 1
  | .slice elems spare => uptoBulkAll elems + uptoBulkAll spare + 1
  | .agg parts => uptoBulkAll parts + 1
  | .iface _ d => uptoBulk d + 1
  | .map entries => uptoBulkEntries entries + 1
  | .held _ => 1
def uptoBulkAll {H : Type} : List (DataW H) → Nat
  | [] => 0
  | d :: r => uptoBulk d + uptoBulkAll r
def uptoBulkEntries {H : Type} : List (Lit × DataW H) → Nat
  | [] => 0
  | x :: r => uptoBulkEntry x + uptoBulkEntries r
def uptoBulkEntry {H : Type} : Lit × DataW H → Nat
  | (.string bytes, d) => bytes.length + uptoBulk d + 1
  | (_, d) => uptoBulk d + 1
 end
def uptoSmall : (H : Type) → List (DataW H) → Bool := fun _ ds => decide (uptoBulkAll ds ≤ 1048576)
def OpenSpec.upto (s : _root_.Go.ChangeSpec) : _root_.Go.OpenSpec := { _root_.Go.OpenSpec.ofChange s with cond := some uptoSmall }

/-- 'laws.FnExactRunAnswers', WHERE WHAT IT READS IS OF BULK AT MOST 1048576: true; the input reads as it did. -/
def fnExactRunAnswersUptoRow : OpenClaim := { program := "ytcpkobahiciadaa", sum := "7f47c223e8fba107089e7ce7f7c934fcbf6cb66c738ebe437a53d5fe661904c1", func := "loop.example/g01008/laws.FnExactRunAnswers", spec := "fnExactRunAnswers", inPlace := ["internal/bytealg.IndexByteString"], unfollowed := true, recurses := true, plainKeys := false, apart := false, narrowed := true }
def FnExactRunAnswersUptoSaid : Prop := fnExactRunAnswersUptoRow.holds Try.pinned (OpenSpec.upto fnExactRunAnswersSpec)

/-- 'laws.FnExactPutKey', WHERE WHAT IT READS IS OF BULK AT MOST 1048576: true; the input reads as it did. -/
def fnExactPutKeyUptoRow : OpenClaim := { program := "ytcpkobahiciadaa", sum := "7f47c223e8fba107089e7ce7f7c934fcbf6cb66c738ebe437a53d5fe661904c1", func := "loop.example/g01008/laws.FnExactPutKey", spec := "fnExactPutKey", unfollowed := true, recurses := true, plainKeys := false, apart := false, narrowed := true }
def FnExactPutKeyUptoSaid : Prop := fnExactPutKeyUptoRow.holds Try.pinned (OpenSpec.upto fnExactPutKeySpec)

/-- 'laws.FnExactPlanDay', WHERE WHAT IT READS IS OF BULK AT MOST 1048576: true; the input reads as it did. -/
def fnExactPlanDayUptoRow : OpenClaim := { program := "ytcpkobahiciadaa", sum := "7f47c223e8fba107089e7ce7f7c934fcbf6cb66c738ebe437a53d5fe661904c1", func := "loop.example/g01008/laws.FnExactPlanDay", spec := "fnExactPlanDay", inPlace := ["internal/bytealg.IndexByteString"], unfollowed := true, recurses := true, plainKeys := false, apart := false, narrowed := true }
def FnExactPlanDayUptoSaid : Prop := fnExactPlanDayUptoRow.holds Try.pinned (OpenSpec.upto fnExactPlanDaySpec)

/-- 'laws.FnExactMostPair', WHERE WHAT IT READS IS OF BULK AT MOST 1048576: true; the input reads as it did. -/
def fnExactMostPairUptoRow : OpenClaim := { program := "ytcpkobahiciadaa", sum := "7f47c223e8fba107089e7ce7f7c934fcbf6cb66c738ebe437a53d5fe661904c1", func := "loop.example/g01008/laws.FnExactMostPair", spec := "fnExactMostPair", inPlace := ["internal/bytealg.IndexByteString"], unfollowed := true, recurses := true, plainKeys := false, apart := false, narrowed := true }
def FnExactMostPairUptoSaid : Prop := fnExactMostPairUptoRow.holds Try.pinned (OpenSpec.upto fnExactMostPairSpec)

/-- 'laws.FnExactRankOf', WHERE WHAT IT READS IS OF BULK AT MOST 1048576: true; the input reads as it did. -/
def fnExactRankOfUptoRow : OpenClaim := { program := "ytcpkobahiciadaa", sum := "7f47c223e8fba107089e7ce7f7c934fcbf6cb66c738ebe437a53d5fe661904c1", func := "loop.example/g01008/laws.FnExactRankOf", spec := "fnExactRankOf", inPlace := ["internal/bytealg.IndexByteString"], unfollowed := true, recurses := true, plainKeys := false, apart := false, narrowed := true }
def FnExactRankOfUptoSaid : Prop := fnExactRankOfUptoRow.holds Try.pinned (OpenSpec.upto fnExactRankOfSpec)

/-- 'laws.FnExactTopCoverage', WHERE WHAT IT READS IS OF BULK AT MOST 1048576: true; the input reads as it did. -/
def fnExactTopCoverageUptoRow : OpenClaim := { program := "ytcpkobahiciadaa", sum := "7f47c223e8fba107089e7ce7f7c934fcbf6cb66c738ebe437a53d5fe661904c1", func := "loop.example/g01008/laws.FnExactTopCoverage", spec := "fnExactTopCoverage", inPlace := ["internal/bytealg.IndexByteString"], unfollowed := true, recurses := true, plainKeys := false, apart := false, narrowed := true }
def FnExactTopCoverageUptoSaid : Prop := fnExactTopCoverageUptoRow.holds Try.pinned (OpenSpec.upto fnExactTopCoverageSpec)

/-- 'laws.FnExactTopFor', WHERE WHAT IT READS IS OF BULK AT MOST 1048576: true; the input reads as it did. -/
def fnExactTopForUptoRow : OpenClaim := { program := "ytcpkobahiciadaa", sum := "7f47c223e8fba107089e7ce7f7c934fcbf6cb66c738ebe437a53d5fe661904c1", func := "loop.example/g01008/laws.FnExactTopFor", spec := "fnExactTopFor", inPlace := ["internal/bytealg.IndexByteString"], unfollowed := true, recurses := true, plainKeys := false, apart := false, narrowed := true }
def FnExactTopForUptoSaid : Prop := fnExactTopForUptoRow.holds Try.pinned (OpenSpec.upto fnExactTopForSpec)

end Rows
end Go.Proofs.Ytcpkobahiciadaa
