/-
  No cell of these rows narrows 'for every input' (looked for: loops, veiled, ifaces, maps, wideKeys, modest, calm, conditions, laid).
  DERIVED. THE GIVEN ROWS OF THIS SEAT. 12 by the template 'for every input the law returns true; each argument reads behind the call as it read before'; 0 by the template 'total and deterministic' (their statements: YtfnegjnklhfmaaaTotals.lean).
  GIVEN WITH THE SEED: the statements are not yours to turn. If you find one false, say at which input.
  Laid BY PROGRAM, IN A SANDBOX (cutbox-rows.mjs): the forced cells as the released guide's own fill.sh prints them over the translation 9867125dda7f61d6… (all of the seat's roots in one cut). By AI agents, Wed Nov 11 2026. No macro, syntax, notation, axiom, sorry.
-/
import Derived.Test.YtfnegjnklhfmaaaChecked
import GoSem.Claim
import GoSem.ClaimJoined
import GoSem.ClaimMapViews
import Derived.JoinedTies
import Derived.KernelRfl
namespace Go.Proofs.Ytfnegjnklhfmaaa
/- THE CELL 'sum', in the pinned program and in every row, IS THE sha256 OF THE DUMP (.gsa) THAT YtfnegjnklhfmaaaProg.lean LOADS. Nothing in Lean hashes anything: it is a label: what it is worth is what the hold of that sum in a sandbox is worth. -/
noncomputable def Try.pinned : Pinned := { name := "ytfnegjnklhfmaaa", sum := "9867125dda7f61d64732f04913505a1bec63658cf3c57b6898fdbde9005c9452", checked := Try.checked }
namespace Rows
def none {H : Type} : Left H := { results := [], args := [] }

/-- 'laws.FnExactIsKey': WHATEVER THE INPUT: true; the input reads as it did. -/
def fnExactIsKeySpec : ChangeSpec := { name := "fnExactIsKey", fn := fun _ => fun
  | [d] => { results := [.lit (.bool true)], args := [d] }
  | _ => none }
def fnExactIsKeyRow : OpenClaim := { program := "ytfnegjnklhfmaaa", sum := "9867125dda7f61d64732f04913505a1bec63658cf3c57b6898fdbde9005c9452", func := "loop.example/g01008/laws.FnExactIsKey", spec := "fnExactIsKey", apart := false }
def FnExactIsKeySaid : Prop := fnExactIsKeyRow.holds Try.pinned (OpenSpec.ofChange fnExactIsKeySpec)

/-- ITS FALSE NEIGHBOUR: 'it returns false'. Refute it at one input. -/
def fnExactIsKeyWrong : ChangeSpec := { name := "fnExactIsKey", fn := fun _ => fun
  | [d] => { results := [.lit (.bool false)], args := [d] }
  | _ => none }
def FnExactIsKeyWrongFalsely : Prop := fnExactIsKeyRow.holds Try.pinned (OpenSpec.ofChange fnExactIsKeyWrong)

/-- 'laws.FnExactAreKeys': WHATEVER THE INPUT: true; the input reads as it did. -/
def fnExactAreKeysSpec : ChangeSpec := { name := "fnExactAreKeys", fn := fun _ => fun
  | [d] => { results := [.lit (.bool true)], args := [d] }
  | _ => none }
def fnExactAreKeysRow : OpenClaim := { program := "ytfnegjnklhfmaaa", sum := "9867125dda7f61d64732f04913505a1bec63658cf3c57b6898fdbde9005c9452", func := "loop.example/g01008/laws.FnExactAreKeys", spec := "fnExactAreKeys", apart := false }
def FnExactAreKeysSaid : Prop := fnExactAreKeysRow.holds Try.pinned (OpenSpec.ofChange fnExactAreKeysSpec)

/-- ITS FALSE NEIGHBOUR: 'it returns false'. Refute it at one input. -/
def fnExactAreKeysWrong : ChangeSpec := { name := "fnExactAreKeys", fn := fun _ => fun
  | [d] => { results := [.lit (.bool false)], args := [d] }
  | _ => none }
def FnExactAreKeysWrongFalsely : Prop := fnExactAreKeysRow.holds Try.pinned (OpenSpec.ofChange fnExactAreKeysWrong)

/-- 'laws.FnExactPoseAt': WHATEVER THE INPUT: true; the input reads as it did. -/
def fnExactPoseAtSpec : ChangeSpec := { name := "fnExactPoseAt", fn := fun _ => fun
  | [d1, d2] => { results := [.lit (.bool true)], args := [d1, d2] }
  | _ => none }
def fnExactPoseAtRow : OpenClaim := { program := "ytfnegjnklhfmaaa", sum := "9867125dda7f61d64732f04913505a1bec63658cf3c57b6898fdbde9005c9452", func := "loop.example/g01008/laws.FnExactPoseAt", spec := "fnExactPoseAt", unfollowed := true, recurses := true, apart := false }
def FnExactPoseAtSaid : Prop := fnExactPoseAtRow.holds Try.pinned (OpenSpec.ofChange fnExactPoseAtSpec)

/-- ITS FALSE NEIGHBOUR: 'it returns false'. Refute it at one input. -/
def fnExactPoseAtWrong : ChangeSpec := { name := "fnExactPoseAt", fn := fun _ => fun
  | [d1, d2] => { results := [.lit (.bool false)], args := [d1, d2] }
  | _ => none }
def FnExactPoseAtWrongFalsely : Prop := fnExactPoseAtRow.holds Try.pinned (OpenSpec.ofChange fnExactPoseAtWrong)

/-- 'laws.FnExactMirrorKeys': WHATEVER THE INPUT: true; the input reads as it did. -/
def fnExactMirrorKeysSpec : ChangeSpec := { name := "fnExactMirrorKeys", fn := fun _ => fun
  | [d] => { results := [.lit (.bool true)], args := [d] }
  | _ => none }
def fnExactMirrorKeysRow : OpenClaim := { program := "ytfnegjnklhfmaaa", sum := "9867125dda7f61d64732f04913505a1bec63658cf3c57b6898fdbde9005c9452", func := "loop.example/g01008/laws.FnExactMirrorKeys", spec := "fnExactMirrorKeys", apart := false }
def FnExactMirrorKeysSaid : Prop := fnExactMirrorKeysRow.holds Try.pinned (OpenSpec.ofChange fnExactMirrorKeysSpec)

/-- ITS FALSE NEIGHBOUR: 'it returns false'. Refute it at one input. -/
def fnExactMirrorKeysWrong : ChangeSpec := { name := "fnExactMirrorKeys", fn := fun _ => fun
  | [d] => { results := [.lit (.bool false)], args := [d] }
  | _ => none }
def FnExactMirrorKeysWrongFalsely : Prop := fnExactMirrorKeysRow.holds Try.pinned (OpenSpec.ofChange fnExactMirrorKeysWrong)

/-- 'laws.FnExactStretchKeys': WHATEVER THE INPUT: true; the input reads as it did. -/
def fnExactStretchKeysSpec : ChangeSpec := { name := "fnExactStretchKeys", fn := fun _ => fun
  | [d1, d2] => { results := [.lit (.bool true)], args := [d1, d2] }
  | _ => none }
def fnExactStretchKeysRow : OpenClaim := { program := "ytfnegjnklhfmaaa", sum := "9867125dda7f61d64732f04913505a1bec63658cf3c57b6898fdbde9005c9452", func := "loop.example/g01008/laws.FnExactStretchKeys", spec := "fnExactStretchKeys", apart := false }
def FnExactStretchKeysSaid : Prop := fnExactStretchKeysRow.holds Try.pinned (OpenSpec.ofChange fnExactStretchKeysSpec)

/-- ITS FALSE NEIGHBOUR: 'it returns false'. Refute it at one input. -/
def fnExactStretchKeysWrong : ChangeSpec := { name := "fnExactStretchKeys", fn := fun _ => fun
  | [d1, d2] => { results := [.lit (.bool false)], args := [d1, d2] }
  | _ => none }
def FnExactStretchKeysWrongFalsely : Prop := fnExactStretchKeysRow.holds Try.pinned (OpenSpec.ofChange fnExactStretchKeysWrong)

/-- 'laws.FnExactKeepsSpeed': WHATEVER THE INPUT: true; the input reads as it did. -/
def fnExactKeepsSpeedSpec : ChangeSpec := { name := "fnExactKeepsSpeed", fn := fun _ => fun
  | [d1, d2] => { results := [.lit (.bool true)], args := [d1, d2] }
  | _ => none }
def fnExactKeepsSpeedRow : OpenClaim := { program := "ytfnegjnklhfmaaa", sum := "9867125dda7f61d64732f04913505a1bec63658cf3c57b6898fdbde9005c9452", func := "loop.example/g01008/laws.FnExactKeepsSpeed", spec := "fnExactKeepsSpeed", apart := false }
def FnExactKeepsSpeedSaid : Prop := fnExactKeepsSpeedRow.holds Try.pinned (OpenSpec.ofChange fnExactKeepsSpeedSpec)

/-- ITS FALSE NEIGHBOUR: 'it returns false'. Refute it at one input. -/
def fnExactKeepsSpeedWrong : ChangeSpec := { name := "fnExactKeepsSpeed", fn := fun _ => fun
  | [d1, d2] => { results := [.lit (.bool false)], args := [d1, d2] }
  | _ => none }
def FnExactKeepsSpeedWrongFalsely : Prop := fnExactKeepsSpeedRow.holds Try.pinned (OpenSpec.ofChange fnExactKeepsSpeedWrong)

/-- 'laws.FnExactFastestPart': WHATEVER THE INPUT: true; the input reads as it did. -/
def fnExactFastestPartSpec : ChangeSpec := { name := "fnExactFastestPart", fn := fun _ => fun
  | [d] => { results := [.lit (.bool true)], args := [d] }
  | _ => none }
def fnExactFastestPartRow : OpenClaim := { program := "ytfnegjnklhfmaaa", sum := "9867125dda7f61d64732f04913505a1bec63658cf3c57b6898fdbde9005c9452", func := "loop.example/g01008/laws.FnExactFastestPart", spec := "fnExactFastestPart", apart := false }
def FnExactFastestPartSaid : Prop := fnExactFastestPartRow.holds Try.pinned (OpenSpec.ofChange fnExactFastestPartSpec)

/-- ITS FALSE NEIGHBOUR: 'it returns false'. Refute it at one input. -/
def fnExactFastestPartWrong : ChangeSpec := { name := "fnExactFastestPart", fn := fun _ => fun
  | [d] => { results := [.lit (.bool false)], args := [d] }
  | _ => none }
def FnExactFastestPartWrongFalsely : Prop := fnExactFastestPartRow.holds Try.pinned (OpenSpec.ofChange fnExactFastestPartWrong)

/-- 'laws.FnExactHeldParts': WHATEVER THE INPUT: true; the input reads as it did. -/
def fnExactHeldPartsSpec : ChangeSpec := { name := "fnExactHeldParts", fn := fun _ => fun
  | [d] => { results := [.lit (.bool true)], args := [d] }
  | _ => none }
def fnExactHeldPartsRow : OpenClaim := { program := "ytfnegjnklhfmaaa", sum := "9867125dda7f61d64732f04913505a1bec63658cf3c57b6898fdbde9005c9452", func := "loop.example/g01008/laws.FnExactHeldParts", spec := "fnExactHeldParts", apart := false }
def FnExactHeldPartsSaid : Prop := fnExactHeldPartsRow.holds Try.pinned (OpenSpec.ofChange fnExactHeldPartsSpec)

/-- ITS FALSE NEIGHBOUR: 'it returns false'. Refute it at one input. -/
def fnExactHeldPartsWrong : ChangeSpec := { name := "fnExactHeldParts", fn := fun _ => fun
  | [d] => { results := [.lit (.bool false)], args := [d] }
  | _ => none }
def FnExactHeldPartsWrongFalsely : Prop := fnExactHeldPartsRow.holds Try.pinned (OpenSpec.ofChange fnExactHeldPartsWrong)

/-- 'laws.FnExactLeastStretch': WHATEVER THE INPUT: true; the input reads as it did. -/
def fnExactLeastStretchSpec : ChangeSpec := { name := "fnExactLeastStretch", fn := fun _ => fun
  | [d1, d2] => { results := [.lit (.bool true)], args := [d1, d2] }
  | _ => none }
def fnExactLeastStretchRow : OpenClaim := { program := "ytfnegjnklhfmaaa", sum := "9867125dda7f61d64732f04913505a1bec63658cf3c57b6898fdbde9005c9452", func := "loop.example/g01008/laws.FnExactLeastStretch", spec := "fnExactLeastStretch", apart := false }
def FnExactLeastStretchSaid : Prop := fnExactLeastStretchRow.holds Try.pinned (OpenSpec.ofChange fnExactLeastStretchSpec)

/-- ITS FALSE NEIGHBOUR: 'it returns false'. Refute it at one input. -/
def fnExactLeastStretchWrong : ChangeSpec := { name := "fnExactLeastStretch", fn := fun _ => fun
  | [d1, d2] => { results := [.lit (.bool false)], args := [d1, d2] }
  | _ => none }
def FnExactLeastStretchWrongFalsely : Prop := fnExactLeastStretchRow.holds Try.pinned (OpenSpec.ofChange fnExactLeastStretchWrong)

/-- 'laws.FnExactDayOfLast': WHATEVER THE INPUT: true; the input reads as it did. -/
def fnExactDayOfLastSpec : ChangeSpec := { name := "fnExactDayOfLast", fn := fun _ => fun
  | [d1, d2] => { results := [.lit (.bool true)], args := [d1, d2] }
  | _ => none }
def fnExactDayOfLastRow : OpenClaim := { program := "ytfnegjnklhfmaaa", sum := "9867125dda7f61d64732f04913505a1bec63658cf3c57b6898fdbde9005c9452", func := "loop.example/g01008/laws.FnExactDayOfLast", spec := "fnExactDayOfLast", inPlace := ["internal/bytealg.IndexByteString"], apart := false }
def FnExactDayOfLastSaid : Prop := fnExactDayOfLastRow.holds Try.pinned (OpenSpec.ofChange fnExactDayOfLastSpec)

/-- ITS FALSE NEIGHBOUR: 'it returns false'. Refute it at one input. -/
def fnExactDayOfLastWrong : ChangeSpec := { name := "fnExactDayOfLast", fn := fun _ => fun
  | [d1, d2] => { results := [.lit (.bool false)], args := [d1, d2] }
  | _ => none }
def FnExactDayOfLastWrongFalsely : Prop := fnExactDayOfLastRow.holds Try.pinned (OpenSpec.ofChange fnExactDayOfLastWrong)

/-- 'laws.FnExactAnswerCard': WHATEVER THE INPUT: true; the input reads as it did. -/
def fnExactAnswerCardSpec : ChangeSpec := { name := "fnExactAnswerCard", fn := fun _ => fun
  | [d1, d2, d3] => { results := [.lit (.bool true)], args := [d1, d2, d3] }
  | _ => none }
def fnExactAnswerCardRow : OpenClaim := { program := "ytfnegjnklhfmaaa", sum := "9867125dda7f61d64732f04913505a1bec63658cf3c57b6898fdbde9005c9452", func := "loop.example/g01008/laws.FnExactAnswerCard", spec := "fnExactAnswerCard", inPlace := ["internal/bytealg.IndexByteString"], apart := false }
def FnExactAnswerCardSaid : Prop := fnExactAnswerCardRow.holds Try.pinned (OpenSpec.ofChange fnExactAnswerCardSpec)

/-- ITS FALSE NEIGHBOUR: 'it returns false'. Refute it at one input. -/
def fnExactAnswerCardWrong : ChangeSpec := { name := "fnExactAnswerCard", fn := fun _ => fun
  | [d1, d2, d3] => { results := [.lit (.bool false)], args := [d1, d2, d3] }
  | _ => none }
def FnExactAnswerCardWrongFalsely : Prop := fnExactAnswerCardRow.holds Try.pinned (OpenSpec.ofChange fnExactAnswerCardWrong)

/-- 'laws.FnExactAreCards': WHATEVER THE INPUT: true; the input reads as it did. -/
def fnExactAreCardsSpec : ChangeSpec := { name := "fnExactAreCards", fn := fun _ => fun
  | [d] => { results := [.lit (.bool true)], args := [d] }
  | _ => none }
def fnExactAreCardsRow : OpenClaim := { program := "ytfnegjnklhfmaaa", sum := "9867125dda7f61d64732f04913505a1bec63658cf3c57b6898fdbde9005c9452", func := "loop.example/g01008/laws.FnExactAreCards", spec := "fnExactAreCards", inPlace := ["internal/bytealg.IndexByteString"], apart := false }
def FnExactAreCardsSaid : Prop := fnExactAreCardsRow.holds Try.pinned (OpenSpec.ofChange fnExactAreCardsSpec)

/-- ITS FALSE NEIGHBOUR: 'it returns false'. Refute it at one input. -/
def fnExactAreCardsWrong : ChangeSpec := { name := "fnExactAreCards", fn := fun _ => fun
  | [d] => { results := [.lit (.bool false)], args := [d] }
  | _ => none }
def FnExactAreCardsWrongFalsely : Prop := fnExactAreCardsRow.holds Try.pinned (OpenSpec.ofChange fnExactAreCardsWrong)

/- THE SECOND FORM. 'bulk': how many values and letters a reading holds, each counted each time it is reached (what is shared counts as often as it is met; a slice's spare places count too). A statement '..UptoSaid' is the law's where the arguments, and the package variables that the reading takes, are together of bulk at most 1048576: NARROWER than '..Said'. Prove '..Said' where nothing that the law and all that it calls make is longer than what came in: it says more and counts as full. Else prove '..UptoSaid'. A law counts once. -/
mutual
def uptoBulk {H : Type} : DataW H → Nat
  | .lit (.string bytes) => bytes.length + 1
  | .lit _ => 1
  | .nil => 1
  | .ptr d => uptoBulk d + 1
  | .slice elems spare => uptoBulkAll elems + uptoBulkAll spare + 1
  | .agg parts => uptoBulkAll parts + 1
  | .iface _ d => uptoBulk d + 1
  | .map entries => uptoBulkEntries entries + 1
  | .held _ => 1
def uptoBulkAll {H : Type} : List (DataW H) → Nat
  | [] => 0
  | d :: r => uptoBulk d + uptoBulkAll r
def uptoBulkEntries {H : Type} : List (Lit × DataW H) → Nat
  | [] => 0
  | x :: r => uptoBulkEntry x + uptoBulkEntries r
def uptoBulkEntry {H : Type} : Lit × DataW H → Nat
  | (.string bytes, d) => bytes.length + uptoBulk d + 1
  | (_, d) => uptoBulk d + 1
 end
def uptoSmall : (H : Type) → List (DataW H) → Bool := fun _ ds => decide (uptoBulkAll ds ≤ 1048576)
def OpenSpec.upto (s : _root_.Go.ChangeSpec) : _root_.Go.OpenSpec := { _root_.Go.OpenSpec.ofChange s with cond := some uptoSmall }

/-- 'laws.FnExactIsKey', WHERE WHAT IT READS IS OF BULK AT MOST 1048576: true; the input reads as it did. -/
def fnExactIsKeyUptoRow : OpenClaim := { program := "ytfnegjnklhfmaaa", sum := "9867125dda7f61d64732f04913505a1bec63658cf3c57b6898fdbde9005c9452", func := "loop.example/g01008/laws.FnExactIsKey", spec := "fnExactIsKey", apart := false, narrowed := true }
def FnExactIsKeyUptoSaid : Prop := fnExactIsKeyUptoRow.holds Try.pinned (OpenSpec.upto fnExactIsKeySpec)

/-- 'laws.FnExactAreKeys', WHERE WHAT IT READS IS OF BULK AT MOST 1048576: true; the input reads as it did. -/
def fnExactAreKeysUptoRow : OpenClaim := { program := "ytfnegjnklhfmaaa", sum := "9867125dda7f61d64732f04913505a1bec63658cf3c57b6898fdbde9005c9452", func := "loop.example/g01008/laws.FnExactAreKeys", spec := "fnExactAreKeys", apart := false, narrowed := true }
def FnExactAreKeysUptoSaid : Prop := fnExactAreKeysUptoRow.holds Try.pinned (OpenSpec.upto fnExactAreKeysSpec)

/-- 'laws.FnExactPoseAt', WHERE WHAT IT READS IS OF BULK AT MOST 1048576: true; the input reads as it did. -/
def fnExactPoseAtUptoRow : OpenClaim := { program := "ytfnegjnklhfmaaa", sum := "9867125dda7f61d64732f04913505a1bec63658cf3c57b6898fdbde9005c9452", func := "loop.example/g01008/laws.FnExactPoseAt", spec := "fnExactPoseAt", unfollowed := true, recurses := true, apart := false, narrowed := true }
def FnExactPoseAtUptoSaid : Prop := fnExactPoseAtUptoRow.holds Try.pinned (OpenSpec.upto fnExactPoseAtSpec)

/-- 'laws.FnExactMirrorKeys', WHERE WHAT IT READS IS OF BULK AT MOST 1048576: true; the input reads as it did. -/
def fnExactMirrorKeysUptoRow : OpenClaim := { program := "ytfnegjnklhfmaaa", sum := "9867125dda7f61d64732f04913505a1bec63658cf3c57b6898fdbde9005c9452", func := "loop.example/g01008/laws.FnExactMirrorKeys", spec := "fnExactMirrorKeys", apart := false, narrowed := true }
def FnExactMirrorKeysUptoSaid : Prop := fnExactMirrorKeysUptoRow.holds Try.pinned (OpenSpec.upto fnExactMirrorKeysSpec)

/-- 'laws.FnExactStretchKeys', WHERE WHAT IT READS IS OF BULK AT MOST 1048576: true; the input reads as it did. -/
def fnExactStretchKeysUptoRow : OpenClaim := { program := "ytfnegjnklhfmaaa", sum := "9867125dda7f61d64732f04913505a1bec63658cf3c57b6898fdbde9005c9452", func := "loop.example/g01008/laws.FnExactStretchKeys", spec := "fnExactStretchKeys", apart := false, narrowed := true }
def FnExactStretchKeysUptoSaid : Prop := fnExactStretchKeysUptoRow.holds Try.pinned (OpenSpec.upto fnExactStretchKeysSpec)

/-- 'laws.FnExactKeepsSpeed', WHERE WHAT IT READS IS OF BULK AT MOST 1048576: true; the input reads as it did. -/
def fnExactKeepsSpeedUptoRow : OpenClaim := { program := "ytfnegjnklhfmaaa", sum := "9867125dda7f61d64732f04913505a1bec63658cf3c57b6898fdbde9005c9452", func := "loop.example/g01008/laws.FnExactKeepsSpeed", spec := "fnExactKeepsSpeed", apart := false, narrowed := true }
def FnExactKeepsSpeedUptoSaid : Prop := fnExactKeepsSpeedUptoRow.holds Try.pinned (OpenSpec.upto fnExactKeepsSpeedSpec)

/-- 'laws.FnExactFastestPart', WHERE WHAT IT READS IS OF BULK AT MOST 1048576: true; the input reads as it did. -/
def fnExactFastestPartUptoRow : OpenClaim := { program := "ytfnegjnklhfmaaa", sum := "9867125dda7f61d64732f04913505a1bec63658cf3c57b6898fdbde9005c9452", func := "loop.example/g01008/laws.FnExactFastestPart", spec := "fnExactFastestPart", apart := false, narrowed := true }
def FnExactFastestPartUptoSaid : Prop := fnExactFastestPartUptoRow.holds Try.pinned (OpenSpec.upto fnExactFastestPartSpec)

/-- 'laws.FnExactHeldParts', WHERE WHAT IT READS IS OF BULK AT MOST 1048576: true; the input reads as it did. -/
def fnExactHeldPartsUptoRow : OpenClaim := { program := "ytfnegjnklhfmaaa", sum := "9867125dda7f61d64732f04913505a1bec63658cf3c57b6898fdbde9005c9452", func := "loop.example/g01008/laws.FnExactHeldParts", spec := "fnExactHeldParts", apart := false, narrowed := true }
def FnExactHeldPartsUptoSaid : Prop := fnExactHeldPartsUptoRow.holds Try.pinned (OpenSpec.upto fnExactHeldPartsSpec)

/-- 'laws.FnExactLeastStretch', WHERE WHAT IT READS IS OF BULK AT MOST 1048576: true; the input reads as it did. -/
def fnExactLeastStretchUptoRow : OpenClaim := { program := "ytfnegjnklhfmaaa", sum := "9867125dda7f61d64732f04913505a1bec63658cf3c57b6898fdbde9005c9452", func := "loop.example/g01008/laws.FnExactLeastStretch", spec := "fnExactLeastStretch", apart := false, narrowed := true }
def FnExactLeastStretchUptoSaid : Prop := fnExactLeastStretchUptoRow.holds Try.pinned (OpenSpec.upto fnExactLeastStretchSpec)

/-- 'laws.FnExactDayOfLast', WHERE WHAT IT READS IS OF BULK AT MOST 1048576: true; the input reads as it did. -/
def fnExactDayOfLastUptoRow : OpenClaim := { program := "ytfnegjnklhfmaaa", sum := "9867125dda7f61d64732f04913505a1bec63658cf3c57b6898fdbde9005c9452", func := "loop.example/g01008/laws.FnExactDayOfLast", spec := "fnExactDayOfLast", inPlace := ["internal/bytealg.IndexByteString"], apart := false, narrowed := true }
def FnExactDayOfLastUptoSaid : Prop := fnExactDayOfLastUptoRow.holds Try.pinned (OpenSpec.upto fnExactDayOfLastSpec)

/-- 'laws.FnExactAnswerCard', WHERE WHAT IT READS IS OF BULK AT MOST 1048576: true; the input reads as it did. -/
def fnExactAnswerCardUptoRow : OpenClaim := { program := "ytfnegjnklhfmaaa", sum := "9867125dda7f61d64732f04913505a1bec63658cf3c57b6898fdbde9005c9452", func := "loop.example/g01008/laws.FnExactAnswerCard", spec := "fnExactAnswerCard", inPlace := ["internal/bytealg.IndexByteString"], apart := false, narrowed := true }
def FnExactAnswerCardUptoSaid : Prop := fnExactAnswerCardUptoRow.holds Try.pinned (OpenSpec.upto fnExactAnswerCardSpec)

/-- 'laws.FnExactAreCards', WHERE WHAT IT READS IS OF BULK AT MOST 1048576: true; the input reads as it did. -/
def fnExactAreCardsUptoRow : OpenClaim := { program := "ytfnegjnklhfmaaa", sum := "9867125dda7f61d64732f04913505a1bec63658cf3c57b6898fdbde9005c9452", func := "loop.example/g01008/laws.FnExactAreCards", spec := "fnExactAreCards", inPlace := ["internal/bytealg.IndexByteString"], apart := false, narrowed := true }
def FnExactAreCardsUptoSaid : Prop := fnExactAreCardsUptoRow.holds Try.pinned (OpenSpec.upto fnExactAreCardsSpec)

end Rows
end Go.Proofs.Ytfnegjnklhfmaaa
