/-
  No cell of these rows narrows 'for every input' (looked for: loops, veiled, ifaces, maps, wideKeys, modest, calm, conditions, laid).
  DERIVED. THE GIVEN ROWS OF THIS SEAT. 7 by the template 'for every input the law returns true; each argument reads behind the call as it read before'; 0 by the template 'total and deterministic' (their statements: YtnafjfdalapegaaTotals.lean).
  GIVEN WITH THE SEED: the statements are not yours to turn. If you find one false, say at which input.
  Laid BY PROGRAM, IN A SANDBOX (cutbox-rows.mjs): the forced cells as the released guide's own fill.sh prints them over the translation 074ef445b1ba0120… (all of the seat's roots in one cut). By AI agents, Wed Nov 11 2026. No macro, syntax, notation, axiom, sorry.
-/
import Derived.Test.YtnafjfdalapegaaChecked
import GoSem.Claim
import GoSem.ClaimJoined
import GoSem.ClaimMapViews
import Derived.JoinedTies
import Derived.KernelRfl
namespace Go.Proofs.Ytnafjfdalapegaa
/- THE CELL 'sum', in the pinned program and in every row, IS THE sha256 OF THE DUMP (.gsa) THAT YtnafjfdalapegaaProg.lean LOADS. Nothing in Lean hashes anything: it is a label: what it is worth is what the hold of that sum in a sandbox is worth. -/
noncomputable def Try.pinned : Pinned := { name := "ytnafjfdalapegaa", sum := "074ef445b1ba0120551896b2c9dace364dd5f4e061d0a073f7683b685c09735a", checked := Try.checked }
namespace Rows
def none {H : Type} : Left H := { results := [], args := [] }

/-- 'laws.FnExactRightAnswer': WHATEVER THE INPUT: true; the input reads as it did. -/
def fnExactRightAnswerSpec : ChangeSpec := { name := "fnExactRightAnswer", fn := fun _ => fun
  | [d] => { results := [.lit (.bool true)], args := [d] }
  | _ => none }
def fnExactRightAnswerRow : OpenClaim := { program := "ytnafjfdalapegaa", sum := "074ef445b1ba0120551896b2c9dace364dd5f4e061d0a073f7683b685c09735a", func := "loop.example/g01008/laws.FnExactRightAnswer", spec := "fnExactRightAnswer", unfollowed := true, recurses := true, apart := false }
def FnExactRightAnswerSaid : Prop := fnExactRightAnswerRow.holds Try.pinned (OpenSpec.ofChange fnExactRightAnswerSpec)

/-- ITS FALSE NEIGHBOUR: 'it returns false'. Refute it at one input. -/
def fnExactRightAnswerWrong : ChangeSpec := { name := "fnExactRightAnswer", fn := fun _ => fun
  | [d] => { results := [.lit (.bool false)], args := [d] }
  | _ => none }
def FnExactRightAnswerWrongFalsely : Prop := fnExactRightAnswerRow.holds Try.pinned (OpenSpec.ofChange fnExactRightAnswerWrong)

/-- 'laws.FnExactScoreOf': WHATEVER THE INPUT: true; the input reads as it did. -/
def fnExactScoreOfSpec : ChangeSpec := { name := "fnExactScoreOf", fn := fun _ => fun
  | [d1, d2] => { results := [.lit (.bool true)], args := [d1, d2] }
  | _ => none }
def fnExactScoreOfRow : OpenClaim := { program := "ytnafjfdalapegaa", sum := "074ef445b1ba0120551896b2c9dace364dd5f4e061d0a073f7683b685c09735a", func := "loop.example/g01008/laws.FnExactScoreOf", spec := "fnExactScoreOf", unfollowed := true, recurses := true, apart := false }
def FnExactScoreOfSaid : Prop := fnExactScoreOfRow.holds Try.pinned (OpenSpec.ofChange fnExactScoreOfSpec)

/-- ITS FALSE NEIGHBOUR: 'it returns false'. Refute it at one input. -/
def fnExactScoreOfWrong : ChangeSpec := { name := "fnExactScoreOf", fn := fun _ => fun
  | [d1, d2] => { results := [.lit (.bool false)], args := [d1, d2] }
  | _ => none }
def FnExactScoreOfWrongFalsely : Prop := fnExactScoreOfRow.holds Try.pinned (OpenSpec.ofChange fnExactScoreOfWrong)

/-- 'laws.FnExactWeakWords': WHATEVER THE INPUT: true; the input reads as it did. -/
def fnExactWeakWordsSpec : ChangeSpec := { name := "fnExactWeakWords", fn := fun _ => fun
  | [d1, d2] => { results := [.lit (.bool true)], args := [d1, d2] }
  | _ => none }
def fnExactWeakWordsRow : OpenClaim := { program := "ytnafjfdalapegaa", sum := "074ef445b1ba0120551896b2c9dace364dd5f4e061d0a073f7683b685c09735a", func := "loop.example/g01008/laws.FnExactWeakWords", spec := "fnExactWeakWords", unfollowed := true, recurses := true, apart := false }
def FnExactWeakWordsSaid : Prop := fnExactWeakWordsRow.holds Try.pinned (OpenSpec.ofChange fnExactWeakWordsSpec)

/-- ITS FALSE NEIGHBOUR: 'it returns false'. Refute it at one input. -/
def fnExactWeakWordsWrong : ChangeSpec := { name := "fnExactWeakWords", fn := fun _ => fun
  | [d1, d2] => { results := [.lit (.bool false)], args := [d1, d2] }
  | _ => none }
def FnExactWeakWordsWrongFalsely : Prop := fnExactWeakWordsRow.holds Try.pinned (OpenSpec.ofChange fnExactWeakWordsWrong)

/-- 'laws.FnExactRepeatQuestions': WHATEVER THE INPUT: true; the input reads as it did. -/
def fnExactRepeatQuestionsSpec : ChangeSpec := { name := "fnExactRepeatQuestions", fn := fun _ => fun
  | [d1, d2] => { results := [.lit (.bool true)], args := [d1, d2] }
  | _ => none }
def fnExactRepeatQuestionsRow : OpenClaim := { program := "ytnafjfdalapegaa", sum := "074ef445b1ba0120551896b2c9dace364dd5f4e061d0a073f7683b685c09735a", func := "loop.example/g01008/laws.FnExactRepeatQuestions", spec := "fnExactRepeatQuestions", unfollowed := true, recurses := true, apart := false }
def FnExactRepeatQuestionsSaid : Prop := fnExactRepeatQuestionsRow.holds Try.pinned (OpenSpec.ofChange fnExactRepeatQuestionsSpec)

/-- ITS FALSE NEIGHBOUR: 'it returns false'. Refute it at one input. -/
def fnExactRepeatQuestionsWrong : ChangeSpec := { name := "fnExactRepeatQuestions", fn := fun _ => fun
  | [d1, d2] => { results := [.lit (.bool false)], args := [d1, d2] }
  | _ => none }
def FnExactRepeatQuestionsWrongFalsely : Prop := fnExactRepeatQuestionsRow.holds Try.pinned (OpenSpec.ofChange fnExactRepeatQuestionsWrong)

/-- 'laws.FnExactQuestionText': WHATEVER THE INPUT: true; the input reads as it did. -/
def fnExactQuestionTextSpec : ChangeSpec := { name := "fnExactQuestionText", fn := fun _ => fun
  | [d1, d2] => { results := [.lit (.bool true)], args := [d1, d2] }
  | _ => none }
def fnExactQuestionTextRow : OpenClaim := { program := "ytnafjfdalapegaa", sum := "074ef445b1ba0120551896b2c9dace364dd5f4e061d0a073f7683b685c09735a", func := "loop.example/g01008/laws.FnExactQuestionText", spec := "fnExactQuestionText", inPlace := ["internal/bytealg.IndexByteString", "internal/abi.NoEscape", "internal/bytealg.MakeNoZero"], unfollowed := true, recurses := true, apart := false }
def FnExactQuestionTextSaid : Prop := fnExactQuestionTextRow.holds Try.pinned (OpenSpec.ofChange fnExactQuestionTextSpec)

/-- ITS FALSE NEIGHBOUR: 'it returns false'. Refute it at one input. -/
def fnExactQuestionTextWrong : ChangeSpec := { name := "fnExactQuestionText", fn := fun _ => fun
  | [d1, d2] => { results := [.lit (.bool false)], args := [d1, d2] }
  | _ => none }
def FnExactQuestionTextWrongFalsely : Prop := fnExactQuestionTextRow.holds Try.pinned (OpenSpec.ofChange fnExactQuestionTextWrong)

/-- 'laws.FnExactIsTaught': WHATEVER THE INPUT: true; the input reads as it did. -/
def fnExactIsTaughtSpec : ChangeSpec := { name := "fnExactIsTaught", fn := fun _ => fun
  | [d1, d2, d3, d4] => { results := [.lit (.bool true)], args := [d1, d2, d3, d4] }
  | _ => none }
def fnExactIsTaughtRow : OpenClaim := { program := "ytnafjfdalapegaa", sum := "074ef445b1ba0120551896b2c9dace364dd5f4e061d0a073f7683b685c09735a", func := "loop.example/g01008/laws.FnExactIsTaught", spec := "fnExactIsTaught", inPlace := ["internal/bytealg.IndexByteString"], unfollowed := true, recurses := true, apart := false }
def FnExactIsTaughtSaid : Prop := fnExactIsTaughtRow.holds Try.pinned (OpenSpec.ofChange fnExactIsTaughtSpec)

/-- ITS FALSE NEIGHBOUR: 'it returns false'. Refute it at one input. -/
def fnExactIsTaughtWrong : ChangeSpec := { name := "fnExactIsTaught", fn := fun _ => fun
  | [d1, d2, d3, d4] => { results := [.lit (.bool false)], args := [d1, d2, d3, d4] }
  | _ => none }
def FnExactIsTaughtWrongFalsely : Prop := fnExactIsTaughtRow.holds Try.pinned (OpenSpec.ofChange fnExactIsTaughtWrong)

/-- 'laws.FnExactIsFairQuestion': WHATEVER THE INPUT: true; the input reads as it did. -/
def fnExactIsFairQuestionSpec : ChangeSpec := { name := "fnExactIsFairQuestion", fn := fun _ => fun
  | [d1, d2, d3, d4] => { results := [.lit (.bool true)], args := [d1, d2, d3, d4] }
  | _ => none }
def fnExactIsFairQuestionRow : OpenClaim := { program := "ytnafjfdalapegaa", sum := "074ef445b1ba0120551896b2c9dace364dd5f4e061d0a073f7683b685c09735a", func := "loop.example/g01008/laws.FnExactIsFairQuestion", spec := "fnExactIsFairQuestion", inPlace := ["internal/bytealg.IndexByteString"], unfollowed := true, recurses := true, apart := false }
def FnExactIsFairQuestionSaid : Prop := fnExactIsFairQuestionRow.holds Try.pinned (OpenSpec.ofChange fnExactIsFairQuestionSpec)

/-- ITS FALSE NEIGHBOUR: 'it returns false'. Refute it at one input. -/
def fnExactIsFairQuestionWrong : ChangeSpec := { name := "fnExactIsFairQuestion", fn := fun _ => fun
  | [d1, d2, d3, d4] => { results := [.lit (.bool false)], args := [d1, d2, d3, d4] }
  | _ => none }
def FnExactIsFairQuestionWrongFalsely : Prop := fnExactIsFairQuestionRow.holds Try.pinned (OpenSpec.ofChange fnExactIsFairQuestionWrong)

/- THE SECOND FORM. 'bulk': how many values and letters a reading holds, each counted each time it is reached (what is shared counts as often as it is met; a slice's spare places count too). A statement '..UptoSaid' is the law's where the arguments, and the package variables that the reading takes, are together of bulk at most 1048576: NARROWER than '..Said'. Prove '..Said' where nothing that the law and all that it calls make is longer than what came in: it says more and counts as full. Else prove '..UptoSaid'. A law counts once. -/
mutual
def uptoBulk {H : Type} : DataW H → Nat
  | .lit (.string bytes) => bytes.length + 1
  | .lit _ => 1
  | .nil => 1
  | .ptr d => uptoBulk d + 1
  | .slice elems spare => uptoBulkAll elems + uptoBulkAll spare + 1
  | .agg parts => uptoBulkAll parts + 1
  | .iface _ d => uptoBulk d + 1
  | .map entries => uptoBulkEntries entries + 1
  | .held _ => 1
def uptoBulkAll {H : Type} : List (DataW H) → Nat
  | [] => 0
  | d :: r => uptoBulk d + uptoBulkAll r
def uptoBulkEntries {H : Type} : List (Lit × DataW H) → Nat
  | [] => 0
  | x :: r => uptoBulkEntry x + uptoBulkEntries r
def uptoBulkEntry {H : Type} : Lit × DataW H → Nat
  | (.string bytes, d) => bytes.length + uptoBulk d + 1
  | (_, d) => uptoBulk d + 1
 end
def uptoSmall : (H : Type) → List (DataW H) → Bool := fun _ ds => decide (uptoBulkAll ds ≤ 1048576)
def OpenSpec.upto (s : _root_.Go.ChangeSpec) : _root_.Go.OpenSpec := { _root_.Go.OpenSpec.ofChange s with cond := some uptoSmall }

/-- 'laws.FnExactRightAnswer', WHERE WHAT IT READS IS OF BULK AT MOST 1048576: true; the input reads as it did. -/
def fnExactRightAnswerUptoRow : OpenClaim := { program := "ytnafjfdalapegaa", sum := "074ef445b1ba0120551896b2c9dace364dd5f4e061d0a073f7683b685c09735a", func := "loop.example/g01008/laws.FnExactRightAnswer", spec := "fnExactRightAnswer", unfollowed := true, recurses := true, apart := false, narrowed := true }
def FnExactRightAnswerUptoSaid : Prop := fnExactRightAnswerUptoRow.holds Try.pinned (OpenSpec.upto fnExactRightAnswerSpec)

/-- 'laws.FnExactScoreOf', WHERE WHAT IT READS IS OF BULK AT MOST 1048576: true; the input reads as it did. -/
def fnExactScoreOfUptoRow : OpenClaim := { program := "ytnafjfdalapegaa", sum := "074ef445b1ba0120551896b2c9dace364dd5f4e061d0a073f7683b685c09735a", func := "loop.example/g01008/laws.FnExactScoreOf", spec := "fnExactScoreOf", unfollowed := true, recurses := true, apart := false, narrowed := true }
def FnExactScoreOfUptoSaid : Prop := fnExactScoreOfUptoRow.holds Try.pinned (OpenSpec.upto fnExactScoreOfSpec)

/-- 'laws.FnExactWeakWords', WHERE WHAT IT READS IS OF BULK AT MOST 1048576: true; the input reads as it did. -/
def fnExactWeakWordsUptoRow : OpenClaim := { program := "ytnafjfdalapegaa", sum := "074ef445b1ba0120551896b2c9dace364dd5f4e061d0a073f7683b685c09735a", func := "loop.example/g01008/laws.FnExactWeakWords", spec := "fnExactWeakWords", unfollowed := true, recurses := true, apart := false, narrowed := true }
def FnExactWeakWordsUptoSaid : Prop := fnExactWeakWordsUptoRow.holds Try.pinned (OpenSpec.upto fnExactWeakWordsSpec)

/-- 'laws.FnExactRepeatQuestions', WHERE WHAT IT READS IS OF BULK AT MOST 1048576: true; the input reads as it did. -/
def fnExactRepeatQuestionsUptoRow : OpenClaim := { program := "ytnafjfdalapegaa", sum := "074ef445b1ba0120551896b2c9dace364dd5f4e061d0a073f7683b685c09735a", func := "loop.example/g01008/laws.FnExactRepeatQuestions", spec := "fnExactRepeatQuestions", unfollowed := true, recurses := true, apart := false, narrowed := true }
def FnExactRepeatQuestionsUptoSaid : Prop := fnExactRepeatQuestionsUptoRow.holds Try.pinned (OpenSpec.upto fnExactRepeatQuestionsSpec)

/-- 'laws.FnExactQuestionText', WHERE WHAT IT READS IS OF BULK AT MOST 1048576: true; the input reads as it did. -/
def fnExactQuestionTextUptoRow : OpenClaim := { program := "ytnafjfdalapegaa", sum := "074ef445b1ba0120551896b2c9dace364dd5f4e061d0a073f7683b685c09735a", func := "loop.example/g01008/laws.FnExactQuestionText", spec := "fnExactQuestionText", inPlace := ["internal/bytealg.IndexByteString", "internal/abi.NoEscape", "internal/bytealg.MakeNoZero"], unfollowed := true, recurses := true, apart := false, narrowed := true }
def FnExactQuestionTextUptoSaid : Prop := fnExactQuestionTextUptoRow.holds Try.pinned (OpenSpec.upto fnExactQuestionTextSpec)

/-- 'laws.FnExactIsTaught', WHERE WHAT IT READS IS OF BULK AT MOST 1048576: true; the input reads as it did. -/
def fnExactIsTaughtUptoRow : OpenClaim := { program := "ytnafjfdalapegaa", sum := "074ef445b1ba0120551896b2c9dace364dd5f4e061d0a073f7683b685c09735a", func := "loop.example/g01008/laws.FnExactIsTaught", spec := "fnExactIsTaught", inPlace := ["internal/bytealg.IndexByteString"], unfollowed := true, recurses := true, apart := false, narrowed := true }
def FnExactIsTaughtUptoSaid : Prop := fnExactIsTaughtUptoRow.holds Try.pinned (OpenSpec.upto fnExactIsTaughtSpec)

/-- 'laws.FnExactIsFairQuestion', WHERE WHAT IT READS IS OF BULK AT MOST 1048576: true; the input reads as it did. -/
def fnExactIsFairQuestionUptoRow : OpenClaim := { program := "ytnafjfdalapegaa", sum := "074ef445b1ba0120551896b2c9dace364dd5f4e061d0a073f7683b685c09735a", func := "loop.example/g01008/laws.FnExactIsFairQuestion", spec := "fnExactIsFairQuestion", inPlace := ["internal/bytealg.IndexByteString"], unfollowed := true, recurses := true, apart := false, narrowed := true }
def FnExactIsFairQuestionUptoSaid : Prop := fnExactIsFairQuestionUptoRow.holds Try.pinned (OpenSpec.upto fnExactIsFairQuestionSpec)

end Rows
end Go.Proofs.Ytnafjfdalapegaa
