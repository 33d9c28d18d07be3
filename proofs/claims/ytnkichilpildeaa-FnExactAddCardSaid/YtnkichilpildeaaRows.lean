/-
  No cell of these rows narrows 'for every input' (looked for: loops, veiled, ifaces, maps, wideKeys, modest, calm, conditions, laid).
  DERIVED. THE GIVEN ROWS OF THIS SEAT. 7 by the template 'for every input the law returns true; each argument reads behind the call as it read before'; 0 by the template 'total and deterministic' (their statements: YtnkichilpildeaaTotals.lean).
  GIVEN WITH THE SEED: the statements are not yours to turn. If you find one false, say at which input.
  Laid BY PROGRAM, IN A SANDBOX (cutbox-rows.mjs): the forced cells as the released guide's own fill.sh prints them over the translation ebf36ed2717c0344… (all of the seat's roots in one cut). By AI agents, Wed Nov 11 2026. No macro, syntax, notation, axiom, sorry.
-/
import Derived.Test.YtnkichilpildeaaChecked
import GoSem.Claim
import GoSem.ClaimJoined
import GoSem.ClaimMapViews
import Derived.JoinedTies
import Derived.KernelRfl
namespace Go.Proofs.Ytnkichilpildeaa
/- THE CELL 'sum', in the pinned program and in every row, IS THE sha256 OF THE DUMP (.gsa) THAT YtnkichilpildeaaProg.lean LOADS. Nothing in Lean hashes anything: it is a label: what it is worth is what the hold of that sum in a sandbox is worth. -/
noncomputable def Try.pinned : Pinned := { name := "ytnkichilpildeaa", sum := "ebf36ed2717c03443a7201d101453b668222228073c478d93c84add87280a459", checked := Try.checked }
namespace Rows
def none {H : Type} : Left H := { results := [], args := [] }

/-- 'laws.FnExactNextDay': WHATEVER THE INPUT: true; the input reads as it did. -/
def fnExactNextDaySpec : ChangeSpec := { name := "fnExactNextDay", fn := fun _ => fun
  | [d] => { results := [.lit (.bool true)], args := [d] }
  | _ => none }
def fnExactNextDayRow : OpenClaim := { program := "ytnkichilpildeaa", sum := "ebf36ed2717c03443a7201d101453b668222228073c478d93c84add87280a459", func := "loop.example/g01008/laws.FnExactNextDay", spec := "fnExactNextDay", inPlace := ["internal/bytealg.IndexByteString"], apart := false }
def FnExactNextDaySaid : Prop := fnExactNextDayRow.holds Try.pinned (OpenSpec.ofChange fnExactNextDaySpec)

/-- ITS FALSE NEIGHBOUR: 'it returns false'. Refute it at one input. -/
def fnExactNextDayWrong : ChangeSpec := { name := "fnExactNextDay", fn := fun _ => fun
  | [d] => { results := [.lit (.bool false)], args := [d] }
  | _ => none }
def FnExactNextDayWrongFalsely : Prop := fnExactNextDayRow.holds Try.pinned (OpenSpec.ofChange fnExactNextDayWrong)

/-- 'laws.FnExactBoxCounts': WHATEVER THE INPUT: true; the input reads as it did. -/
def fnExactBoxCountsSpec : ChangeSpec := { name := "fnExactBoxCounts", fn := fun _ => fun
  | [d] => { results := [.lit (.bool true)], args := [d] }
  | _ => none }
def fnExactBoxCountsRow : OpenClaim := { program := "ytnkichilpildeaa", sum := "ebf36ed2717c03443a7201d101453b668222228073c478d93c84add87280a459", func := "loop.example/g01008/laws.FnExactBoxCounts", spec := "fnExactBoxCounts", inPlace := ["internal/bytealg.IndexByteString"], apart := false }
def FnExactBoxCountsSaid : Prop := fnExactBoxCountsRow.holds Try.pinned (OpenSpec.ofChange fnExactBoxCountsSpec)

/-- ITS FALSE NEIGHBOUR: 'it returns false'. Refute it at one input. -/
def fnExactBoxCountsWrong : ChangeSpec := { name := "fnExactBoxCounts", fn := fun _ => fun
  | [d] => { results := [.lit (.bool false)], args := [d] }
  | _ => none }
def FnExactBoxCountsWrongFalsely : Prop := fnExactBoxCountsRow.holds Try.pinned (OpenSpec.ofChange fnExactBoxCountsWrong)

/-- 'laws.FnExactDueCards': WHATEVER THE INPUT: true; the input reads as it did. -/
def fnExactDueCardsSpec : ChangeSpec := { name := "fnExactDueCards", fn := fun _ => fun
  | [d1, d2] => { results := [.lit (.bool true)], args := [d1, d2] }
  | _ => none }
def fnExactDueCardsRow : OpenClaim := { program := "ytnkichilpildeaa", sum := "ebf36ed2717c03443a7201d101453b668222228073c478d93c84add87280a459", func := "loop.example/g01008/laws.FnExactDueCards", spec := "fnExactDueCards", inPlace := ["internal/bytealg.IndexByteString"], apart := false }
def FnExactDueCardsSaid : Prop := fnExactDueCardsRow.holds Try.pinned (OpenSpec.ofChange fnExactDueCardsSpec)

/-- ITS FALSE NEIGHBOUR: 'it returns false'. Refute it at one input. -/
def fnExactDueCardsWrong : ChangeSpec := { name := "fnExactDueCards", fn := fun _ => fun
  | [d1, d2] => { results := [.lit (.bool false)], args := [d1, d2] }
  | _ => none }
def FnExactDueCardsWrongFalsely : Prop := fnExactDueCardsRow.holds Try.pinned (OpenSpec.ofChange fnExactDueCardsWrong)

/-- 'laws.FnExactRunAnswers': WHATEVER THE INPUT: true; the input reads as it did. -/
def fnExactRunAnswersSpec : ChangeSpec := { name := "fnExactRunAnswers", fn := fun _ => fun
  | [d1, d2] => { results := [.lit (.bool true)], args := [d1, d2] }
  | _ => none }
def fnExactRunAnswersRow : OpenClaim := { program := "ytnkichilpildeaa", sum := "ebf36ed2717c03443a7201d101453b668222228073c478d93c84add87280a459", func := "loop.example/g01008/laws.FnExactRunAnswers", spec := "fnExactRunAnswers", inPlace := ["internal/bytealg.IndexByteString"], unfollowed := true, recurses := true, apart := false }
def FnExactRunAnswersSaid : Prop := fnExactRunAnswersRow.holds Try.pinned (OpenSpec.ofChange fnExactRunAnswersSpec)

/-- ITS FALSE NEIGHBOUR: 'it returns false'. Refute it at one input. -/
def fnExactRunAnswersWrong : ChangeSpec := { name := "fnExactRunAnswers", fn := fun _ => fun
  | [d1, d2] => { results := [.lit (.bool false)], args := [d1, d2] }
  | _ => none }
def FnExactRunAnswersWrongFalsely : Prop := fnExactRunAnswersRow.holds Try.pinned (OpenSpec.ofChange fnExactRunAnswersWrong)

/-- 'laws.FnExactPlanDay': WHATEVER THE INPUT: true; the input reads as it did. -/
def fnExactPlanDaySpec : ChangeSpec := { name := "fnExactPlanDay", fn := fun _ => fun
  | [d1, d2, d3] => { results := [.lit (.bool true)], args := [d1, d2, d3] }
  | _ => none }
def fnExactPlanDayRow : OpenClaim := { program := "ytnkichilpildeaa", sum := "ebf36ed2717c03443a7201d101453b668222228073c478d93c84add87280a459", func := "loop.example/g01008/laws.FnExactPlanDay", spec := "fnExactPlanDay", inPlace := ["internal/bytealg.IndexByteString"], unfollowed := true, recurses := true, apart := false }
def FnExactPlanDaySaid : Prop := fnExactPlanDayRow.holds Try.pinned (OpenSpec.ofChange fnExactPlanDaySpec)

/-- ITS FALSE NEIGHBOUR: 'it returns false'. Refute it at one input. -/
def fnExactPlanDayWrong : ChangeSpec := { name := "fnExactPlanDay", fn := fun _ => fun
  | [d1, d2, d3] => { results := [.lit (.bool false)], args := [d1, d2, d3] }
  | _ => none }
def FnExactPlanDayWrongFalsely : Prop := fnExactPlanDayRow.holds Try.pinned (OpenSpec.ofChange fnExactPlanDayWrong)

/-- 'laws.FnExactAddCard': WHATEVER THE INPUT: true; the input reads as it did. -/
def fnExactAddCardSpec : ChangeSpec := { name := "fnExactAddCard", fn := fun _ => fun
  | [d1, d2, d3] => { results := [.lit (.bool true)], args := [d1, d2, d3] }
  | _ => none }
def fnExactAddCardRow : OpenClaim := { program := "ytnkichilpildeaa", sum := "ebf36ed2717c03443a7201d101453b668222228073c478d93c84add87280a459", func := "loop.example/g01008/laws.FnExactAddCard", spec := "fnExactAddCard", inPlace := ["internal/bytealg.IndexByteString", "internal/bytealg.abigen_runtime_cmpstring"], unfollowed := true, recurses := true, apart := false }
def FnExactAddCardSaid : Prop := fnExactAddCardRow.holds Try.pinned (OpenSpec.ofChange fnExactAddCardSpec)

/-- ITS FALSE NEIGHBOUR: 'it returns false'. Refute it at one input. -/
def fnExactAddCardWrong : ChangeSpec := { name := "fnExactAddCard", fn := fun _ => fun
  | [d1, d2, d3] => { results := [.lit (.bool false)], args := [d1, d2, d3] }
  | _ => none }
def FnExactAddCardWrongFalsely : Prop := fnExactAddCardRow.holds Try.pinned (OpenSpec.ofChange fnExactAddCardWrong)

/-- 'laws.FnExactPutKey': WHATEVER THE INPUT: true; the input reads as it did. -/
def fnExactPutKeySpec : ChangeSpec := { name := "fnExactPutKey", fn := fun _ => fun
  | [d1, d2] => { results := [.lit (.bool true)], args := [d1, d2] }
  | _ => none }
def fnExactPutKeyRow : OpenClaim := { program := "ytnkichilpildeaa", sum := "ebf36ed2717c03443a7201d101453b668222228073c478d93c84add87280a459", func := "loop.example/g01008/laws.FnExactPutKey", spec := "fnExactPutKey", unfollowed := true, recurses := true, apart := false }
def FnExactPutKeySaid : Prop := fnExactPutKeyRow.holds Try.pinned (OpenSpec.ofChange fnExactPutKeySpec)

/-- ITS FALSE NEIGHBOUR: 'it returns false'. Refute it at one input. -/
def fnExactPutKeyWrong : ChangeSpec := { name := "fnExactPutKey", fn := fun _ => fun
  | [d1, d2] => { results := [.lit (.bool false)], args := [d1, d2] }
  | _ => none }
def FnExactPutKeyWrongFalsely : Prop := fnExactPutKeyRow.holds Try.pinned (OpenSpec.ofChange fnExactPutKeyWrong)

/- THE SECOND FORM. 'bulk': how many values and letters a reading holds, each counted each time it is reached (what is shared counts as often as it is met; a slice's spare places count too). A statement '..UptoSaid' is the law's where the arguments, and the package variables that the reading takes, are together of bulk at most 1048576: NARROWER than '..Said'. Prove '..Said' where nothing that the law and all that it calls make is longer than what came in: it says more and counts as full. Else prove '..UptoSaid'. A law counts once. -/
mutual
def uptoBulk {H : Type} : DataW H → Nat
  | .lit (.string bytes) => bytes.length + 1
  | .lit _ => 1
  | .nil => 1
  | .ptr d => uptoBulk d + 1
  | .slice elems spare => uptoBulkAll elems + uptoBulkAll spare + 1
  | .agg parts => uptoBulkAll parts + 1
  | .iface _ d => uptoBulk d + 1
  | .map entries => uptoBulkEntries entries + 1
  | .held _ => 1
def uptoBulkAll {H : Type} : List (DataW H) → Nat
  | [] => 0
  | d :: r => uptoBulk d + uptoBulkAll r
def uptoBulkEntries {H : Type} : List (Lit × DataW H) → Nat
  | [] => 0
  | x :: r => uptoBulkEntry x + uptoBulkEntries r
def uptoBulkEntry {H : Type} : Lit × DataW H → Nat
  | (.string bytes, d) => bytes.length + uptoBulk d + 1
  | (_, d) => uptoBulk d + 1
 end
def uptoSmall : (H : Type) → List (DataW H) → Bool := fun _ ds => decide (uptoBulkAll ds ≤ 1048576)
def OpenSpec.upto (s : _root_.Go.ChangeSpec) : _root_.Go.OpenSpec := { _root_.Go.OpenSpec.ofChange s with cond := some uptoSmall }

/-- 'laws.FnExactNextDay', WHERE WHAT IT READS IS OF BULK AT MOST 1048576: true; the input reads as it did. -/
def fnExactNextDayUptoRow : OpenClaim := { program := "ytnkichilpildeaa", sum := "ebf36ed2717c03443a7201d101453b668222228073c478d93c84add87280a459", func := "loop.example/g01008/laws.FnExactNextDay", spec := "fnExactNextDay", inPlace := ["internal/bytealg.IndexByteString"], apart := false, narrowed := true }
def FnExactNextDayUptoSaid : Prop := fnExactNextDayUptoRow.holds Try.pinned (OpenSpec.upto fnExactNextDaySpec)

/-- 'laws.FnExactBoxCounts', WHERE WHAT IT READS IS OF BULK AT MOST 1048576: true; the input reads as it did. -/
def fnExactBoxCountsUptoRow : OpenClaim := { program := "ytnkichilpildeaa", sum := "ebf36ed2717c03443a7201d101453b668222228073c478d93c84add87280a459", func := "loop.example/g01008/laws.FnExactBoxCounts", spec := "fnExactBoxCounts", inPlace := ["internal/bytealg.IndexByteString"], apart := false, narrowed := true }
def FnExactBoxCountsUptoSaid : Prop := fnExactBoxCountsUptoRow.holds Try.pinned (OpenSpec.upto fnExactBoxCountsSpec)

/-- 'laws.FnExactDueCards', WHERE WHAT IT READS IS OF BULK AT MOST 1048576: true; the input reads as it did. -/
def fnExactDueCardsUptoRow : OpenClaim := { program := "ytnkichilpildeaa", sum := "ebf36ed2717c03443a7201d101453b668222228073c478d93c84add87280a459", func := "loop.example/g01008/laws.FnExactDueCards", spec := "fnExactDueCards", inPlace := ["internal/bytealg.IndexByteString"], apart := false, narrowed := true }
def FnExactDueCardsUptoSaid : Prop := fnExactDueCardsUptoRow.holds Try.pinned (OpenSpec.upto fnExactDueCardsSpec)

/-- 'laws.FnExactRunAnswers', WHERE WHAT IT READS IS OF BULK AT MOST 1048576: true; the input reads as it did. -/
def fnExactRunAnswersUptoRow : OpenClaim := { program := "ytnkichilpildeaa", sum := "ebf36ed2717c03443a7201d101453b668222228073c478d93c84add87280a459", func := "loop.example/g01008/laws.FnExactRunAnswers", spec := "fnExactRunAnswers", inPlace := ["internal/bytealg.IndexByteString"], unfollowed := true, recurses := true, apart := false, narrowed := true }
def FnExactRunAnswersUptoSaid : Prop := fnExactRunAnswersUptoRow.holds Try.pinned (OpenSpec.upto fnExactRunAnswersSpec)

/-- 'laws.FnExactPlanDay', WHERE WHAT IT READS IS OF BULK AT MOST 1048576: true; the input reads as it did. -/
def fnExactPlanDayUptoRow : OpenClaim := { program := "ytnkichilpildeaa", sum := "ebf36ed2717c03443a7201d101453b668222228073c478d93c84add87280a459", func := "loop.example/g01008/laws.FnExactPlanDay", spec := "fnExactPlanDay", inPlace := ["internal/bytealg.IndexByteString"], unfollowed := true, recurses := true, apart := false, narrowed := true }
def FnExactPlanDayUptoSaid : Prop := fnExactPlanDayUptoRow.holds Try.pinned (OpenSpec.upto fnExactPlanDaySpec)

/-- 'laws.FnExactAddCard', WHERE WHAT IT READS IS OF BULK AT MOST 1048576: true; the input reads as it did. -/
def fnExactAddCardUptoRow : OpenClaim := { program := "ytnkichilpildeaa", sum := "ebf36ed2717c03443a7201d101453b668222228073c478d93c84add87280a459", func := "loop.example/g01008/laws.FnExactAddCard", spec := "fnExactAddCard", inPlace := ["internal/bytealg.IndexByteString", "internal/bytealg.abigen_runtime_cmpstring"], unfollowed := true, recurses := true, apart := false, narrowed := true }
def FnExactAddCardUptoSaid : Prop := fnExactAddCardUptoRow.holds Try.pinned (OpenSpec.upto fnExactAddCardSpec)

/-- 'laws.FnExactPutKey', WHERE WHAT IT READS IS OF BULK AT MOST 1048576: true; the input reads as it did. -/
def fnExactPutKeyUptoRow : OpenClaim := { program := "ytnkichilpildeaa", sum := "ebf36ed2717c03443a7201d101453b668222228073c478d93c84add87280a459", func := "loop.example/g01008/laws.FnExactPutKey", spec := "fnExactPutKey", unfollowed := true, recurses := true, apart := false, narrowed := true }
def FnExactPutKeyUptoSaid : Prop := fnExactPutKeyUptoRow.holds Try.pinned (OpenSpec.upto fnExactPutKeySpec)

end Rows
end Go.Proofs.Ytnkichilpildeaa
