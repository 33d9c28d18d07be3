/-
  No cell of these rows narrows 'for every input' (looked for: loops, veiled, ifaces, maps, wideKeys, modest, calm, conditions, laid).
  DERIVED. THE GIVEN ROWS OF THIS SEAT. 7 by the template 'for every input the law returns true; each argument reads behind the call as it read before'; 0 by the template 'total and deterministic' (their statements: YthcedgbjpkgoeaaTotals.lean).
  GIVEN WITH THE SEED: the statements are not yours to turn. If you find one false, say at which input.
  Laid BY PROGRAM, IN A SANDBOX (cutbox-rows.mjs): the forced cells as the released guide's own fill.sh prints them over the translation 65ad83ba91428efa… (all of the seat's roots in one cut). By AI agents, Wed Nov 11 2026. No macro, syntax, notation, axiom, sorry.
-/
import Derived.Test.YthcedgbjpkgoeaaChecked
import GoSem.Claim
import GoSem.ClaimJoined
import GoSem.ClaimMapViews
import Derived.JoinedTies
import Derived.KernelRfl
namespace Go.Proofs.Ythcedgbjpkgoeaa
/- THE CELL 'sum', in the pinned program and in every row, IS THE sha256 OF THE DUMP (.gsa) THAT YthcedgbjpkgoeaaProg.lean LOADS. Nothing in Lean hashes anything: it is a label: what it is worth is what the hold of that sum in a sandbox is worth. -/
noncomputable def Try.pinned : Pinned := { name := "ythcedgbjpkgoeaa", sum := "65ad83ba91428efa67ca0a7742cd628d99ad1d5b9f3252a96a0347c9646b6fa8", checked := Try.checked }
namespace Rows
def none {H : Type} : Left H := { results := [], args := [] }

/-- 'laws.FnExactFirstUntaught': WHATEVER THE INPUT: true; the input reads as it did. -/
def fnExactFirstUntaughtSpec : ChangeSpec := { name := "fnExactFirstUntaught", fn := fun _ => fun
  | [d1, d2] => { results := [.lit (.bool true)], args := [d1, d2] }
  | _ => none }
def fnExactFirstUntaughtRow : OpenClaim := { program := "ythcedgbjpkgoeaa", sum := "65ad83ba91428efa67ca0a7742cd628d99ad1d5b9f3252a96a0347c9646b6fa8", func := "loop.example/g01008/laws.FnExactFirstUntaught", spec := "fnExactFirstUntaught", inPlace := ["internal/bytealg.IndexByteString"], unfollowed := true, recurses := true, apart := false }
def FnExactFirstUntaughtSaid : Prop := fnExactFirstUntaughtRow.holds Try.pinned (OpenSpec.ofChange fnExactFirstUntaughtSpec)

/-- ITS FALSE NEIGHBOUR: 'it returns false'. Refute it at one input. -/
def fnExactFirstUntaughtWrong : ChangeSpec := { name := "fnExactFirstUntaught", fn := fun _ => fun
  | [d1, d2] => { results := [.lit (.bool false)], args := [d1, d2] }
  | _ => none }
def FnExactFirstUntaughtWrongFalsely : Prop := fnExactFirstUntaughtRow.holds Try.pinned (OpenSpec.ofChange fnExactFirstUntaughtWrong)

/-- 'laws.FnExactCycleOf': WHATEVER THE INPUT: true; the input reads as it did. -/
def fnExactCycleOfSpec : ChangeSpec := { name := "fnExactCycleOf", fn := fun _ => fun
  | [d] => { results := [.lit (.bool true)], args := [d] }
  | _ => none }
def fnExactCycleOfRow : OpenClaim := { program := "ythcedgbjpkgoeaa", sum := "65ad83ba91428efa67ca0a7742cd628d99ad1d5b9f3252a96a0347c9646b6fa8", func := "loop.example/g01008/laws.FnExactCycleOf", spec := "fnExactCycleOf", inPlace := ["internal/bytealg.IndexByteString"], unfollowed := true, recurses := true, apart := false }
def FnExactCycleOfSaid : Prop := fnExactCycleOfRow.holds Try.pinned (OpenSpec.ofChange fnExactCycleOfSpec)

/-- ITS FALSE NEIGHBOUR: 'it returns false'. Refute it at one input. -/
def fnExactCycleOfWrong : ChangeSpec := { name := "fnExactCycleOf", fn := fun _ => fun
  | [d] => { results := [.lit (.bool false)], args := [d] }
  | _ => none }
def FnExactCycleOfWrongFalsely : Prop := fnExactCycleOfRow.holds Try.pinned (OpenSpec.ofChange fnExactCycleOfWrong)

/-- 'laws.FnExactAreLessons': WHATEVER THE INPUT: true; the input reads as it did. -/
def fnExactAreLessonsSpec : ChangeSpec := { name := "fnExactAreLessons", fn := fun _ => fun
  | [d1, d2] => { results := [.lit (.bool true)], args := [d1, d2] }
  | _ => none }
def fnExactAreLessonsRow : OpenClaim := { program := "ythcedgbjpkgoeaa", sum := "65ad83ba91428efa67ca0a7742cd628d99ad1d5b9f3252a96a0347c9646b6fa8", func := "loop.example/g01008/laws.FnExactAreLessons", spec := "fnExactAreLessons", inPlace := ["internal/bytealg.IndexByteString"], unfollowed := true, recurses := true, apart := false }
def FnExactAreLessonsSaid : Prop := fnExactAreLessonsRow.holds Try.pinned (OpenSpec.ofChange fnExactAreLessonsSpec)

/-- ITS FALSE NEIGHBOUR: 'it returns false'. Refute it at one input. -/
def fnExactAreLessonsWrong : ChangeSpec := { name := "fnExactAreLessons", fn := fun _ => fun
  | [d1, d2] => { results := [.lit (.bool false)], args := [d1, d2] }
  | _ => none }
def FnExactAreLessonsWrongFalsely : Prop := fnExactAreLessonsRow.holds Try.pinned (OpenSpec.ofChange fnExactAreLessonsWrong)

/-- 'laws.FnExactLessonsOf': WHATEVER THE INPUT: true; the input reads as it did. -/
def fnExactLessonsOfSpec : ChangeSpec := { name := "fnExactLessonsOf", fn := fun _ => fun
  | [d1, d2] => { results := [.lit (.bool true)], args := [d1, d2] }
  | _ => none }
def fnExactLessonsOfRow : OpenClaim := { program := "ythcedgbjpkgoeaa", sum := "65ad83ba91428efa67ca0a7742cd628d99ad1d5b9f3252a96a0347c9646b6fa8", func := "loop.example/g01008/laws.FnExactLessonsOf", spec := "fnExactLessonsOf", inPlace := ["internal/bytealg.IndexByteString"], unfollowed := true, recurses := true, apart := false }
def FnExactLessonsOfSaid : Prop := fnExactLessonsOfRow.holds Try.pinned (OpenSpec.ofChange fnExactLessonsOfSpec)

/-- ITS FALSE NEIGHBOUR: 'it returns false'. Refute it at one input. -/
def fnExactLessonsOfWrong : ChangeSpec := { name := "fnExactLessonsOf", fn := fun _ => fun
  | [d1, d2] => { results := [.lit (.bool false)], args := [d1, d2] }
  | _ => none }
def FnExactLessonsOfWrongFalsely : Prop := fnExactLessonsOfRow.holds Try.pinned (OpenSpec.ofChange fnExactLessonsOfWrong)

/-- 'laws.FnExactCoverageAfter': WHATEVER THE INPUT: true; the input reads as it did. -/
def fnExactCoverageAfterSpec : ChangeSpec := { name := "fnExactCoverageAfter", fn := fun _ => fun
  | [d1, d2, d3] => { results := [.lit (.bool true)], args := [d1, d2, d3] }
  | _ => none }
def fnExactCoverageAfterRow : OpenClaim := { program := "ythcedgbjpkgoeaa", sum := "65ad83ba91428efa67ca0a7742cd628d99ad1d5b9f3252a96a0347c9646b6fa8", func := "loop.example/g01008/laws.FnExactCoverageAfter", spec := "fnExactCoverageAfter", inPlace := ["internal/bytealg.IndexByteString"], unfollowed := true, recurses := true, apart := false }
def FnExactCoverageAfterSaid : Prop := fnExactCoverageAfterRow.holds Try.pinned (OpenSpec.ofChange fnExactCoverageAfterSpec)

/-- ITS FALSE NEIGHBOUR: 'it returns false'. Refute it at one input. -/
def fnExactCoverageAfterWrong : ChangeSpec := { name := "fnExactCoverageAfter", fn := fun _ => fun
  | [d1, d2, d3] => { results := [.lit (.bool false)], args := [d1, d2, d3] }
  | _ => none }
def FnExactCoverageAfterWrongFalsely : Prop := fnExactCoverageAfterRow.holds Try.pinned (OpenSpec.ofChange fnExactCoverageAfterWrong)

/-- 'laws.FnExactWordsForShare': WHATEVER THE INPUT: true; the input reads as it did. -/
def fnExactWordsForShareSpec : ChangeSpec := { name := "fnExactWordsForShare", fn := fun _ => fun
  | [d1, d2] => { results := [.lit (.bool true)], args := [d1, d2] }
  | _ => none }
def fnExactWordsForShareRow : OpenClaim := { program := "ythcedgbjpkgoeaa", sum := "65ad83ba91428efa67ca0a7742cd628d99ad1d5b9f3252a96a0347c9646b6fa8", func := "loop.example/g01008/laws.FnExactWordsForShare", spec := "fnExactWordsForShare", inPlace := ["internal/bytealg.IndexByteString"], unfollowed := true, recurses := true, apart := false }
def FnExactWordsForShareSaid : Prop := fnExactWordsForShareRow.holds Try.pinned (OpenSpec.ofChange fnExactWordsForShareSpec)

/-- ITS FALSE NEIGHBOUR: 'it returns false'. Refute it at one input. -/
def fnExactWordsForShareWrong : ChangeSpec := { name := "fnExactWordsForShare", fn := fun _ => fun
  | [d1, d2] => { results := [.lit (.bool false)], args := [d1, d2] }
  | _ => none }
def FnExactWordsForShareWrongFalsely : Prop := fnExactWordsForShareRow.holds Try.pinned (OpenSpec.ofChange fnExactWordsForShareWrong)

/-- 'laws.FnExactSwapWords': WHATEVER THE INPUT: true; the input reads as it did. -/
def fnExactSwapWordsSpec : ChangeSpec := { name := "fnExactSwapWords", fn := fun _ => fun
  | [d1, d2, d3, d4] => { results := [.lit (.bool true)], args := [d1, d2, d3, d4] }
  | _ => none }
def fnExactSwapWordsRow : OpenClaim := { program := "ythcedgbjpkgoeaa", sum := "65ad83ba91428efa67ca0a7742cd628d99ad1d5b9f3252a96a0347c9646b6fa8", func := "loop.example/g01008/laws.FnExactSwapWords", spec := "fnExactSwapWords", inPlace := ["internal/bytealg.IndexByteString"], unfollowed := true, recurses := true, apart := false }
def FnExactSwapWordsSaid : Prop := fnExactSwapWordsRow.holds Try.pinned (OpenSpec.ofChange fnExactSwapWordsSpec)

/-- ITS FALSE NEIGHBOUR: 'it returns false'. Refute it at one input. -/
def fnExactSwapWordsWrong : ChangeSpec := { name := "fnExactSwapWords", fn := fun _ => fun
  | [d1, d2, d3, d4] => { results := [.lit (.bool false)], args := [d1, d2, d3, d4] }
  | _ => none }
def FnExactSwapWordsWrongFalsely : Prop := fnExactSwapWordsRow.holds Try.pinned (OpenSpec.ofChange fnExactSwapWordsWrong)

/- THE SECOND FORM. 'bulk': how many values and letters a reading holds, each counted each time it is reached (what is shared counts as often as it is met; a slice's spare places count too). A statement '..UptoSaid' is the law's where the arguments, and the package variables that the reading takes, are together of bulk at most 1048576: NARROWER than '..Said'. Prove '..Said' where nothing that the law and all that it calls make is longer than what came in: it says more and counts as full. Else prove '..UptoSaid'. A law counts once. -/
mutual
def uptoBulk {H : Type} : DataW H → Nat
  | .lit (.string bytes) => bytes.length + 1
  | .lit _ => 1
  | .nil => 1
  | .ptr d => uptoBulk d + 1
  | .slice elems spare => uptoBulkAll elems + uptoBulkAll spare + 1
  | .agg parts => uptoBulkAll parts + 1
  | .iface _ d => uptoBulk d + 1
  | .map entries => uptoBulkEntries entries + 1
  | .held _ => 1
def uptoBulkAll {H : Type} : List (DataW H) → Nat
  | [] => 0
  | d :: r => uptoBulk d + uptoBulkAll r
def uptoBulkEntries {H : Type} : List (Lit × DataW H) → Nat
  | [] => 0
  | x :: r => uptoBulkEntry x + uptoBulkEntries r
def uptoBulkEntry {H : Type} : Lit × DataW H → Nat
  | (.string bytes, d) => bytes.length + uptoBulk d + 1
  | (_, d) => uptoBulk d + 1
 end
def uptoSmall : (H : Type) → List (DataW H) → Bool := fun _ ds => decide (uptoBulkAll ds ≤ 1048576)
def OpenSpec.upto (s : _root_.Go.ChangeSpec) : _root_.Go.OpenSpec := { _root_.Go.OpenSpec.ofChange s with cond := some uptoSmall }

/-- 'laws.FnExactFirstUntaught', WHERE WHAT IT READS IS OF BULK AT MOST 1048576: true; the input reads as it did. -/
def fnExactFirstUntaughtUptoRow : OpenClaim := { program := "ythcedgbjpkgoeaa", sum := "65ad83ba91428efa67ca0a7742cd628d99ad1d5b9f3252a96a0347c9646b6fa8", func := "loop.example/g01008/laws.FnExactFirstUntaught", spec := "fnExactFirstUntaught", inPlace := ["internal/bytealg.IndexByteString"], unfollowed := true, recurses := true, apart := false, narrowed := true }
def FnExactFirstUntaughtUptoSaid : Prop := fnExactFirstUntaughtUptoRow.holds Try.pinned (OpenSpec.upto fnExactFirstUntaughtSpec)

/-- 'laws.FnExactCycleOf', WHERE WHAT IT READS IS OF BULK AT MOST 1048576: true; the input reads as it did. -/
def fnExactCycleOfUptoRow : OpenClaim := { program := "ythcedgbjpkgoeaa", sum := "65ad83ba91428efa67ca0a7742cd628d99ad1d5b9f3252a96a0347c9646b6fa8", func := "loop.example/g01008/laws.FnExactCycleOf", spec := "fnExactCycleOf", inPlace := ["internal/bytealg.IndexByteString"], unfollowed := true, recurses := true, apart := false, narrowed := true }
def FnExactCycleOfUptoSaid : Prop := fnExactCycleOfUptoRow.holds Try.pinned (OpenSpec.upto fnExactCycleOfSpec)

/-- 'laws.FnExactAreLessons', WHERE WHAT IT READS IS OF BULK AT MOST 1048576: true; the input reads as it did. -/
def fnExactAreLessonsUptoRow : OpenClaim := { program := "ythcedgbjpkgoeaa", sum := "65ad83ba91428efa67ca0a7742cd628d99ad1d5b9f3252a96a0347c9646b6fa8", func := "loop.example/g01008/laws.FnExactAreLessons", spec := "fnExactAreLessons", inPlace := ["internal/bytealg.IndexByteString"], unfollowed := true, recurses := true, apart := false, narrowed := true }
def FnExactAreLessonsUptoSaid : Prop := fnExactAreLessonsUptoRow.holds Try.pinned (OpenSpec.upto fnExactAreLessonsSpec)

/-- 'laws.FnExactLessonsOf', WHERE WHAT IT READS IS OF BULK AT MOST 1048576: true; the input reads as it did. -/
def fnExactLessonsOfUptoRow : OpenClaim := { program := "ythcedgbjpkgoeaa", sum := "65ad83ba91428efa67ca0a7742cd628d99ad1d5b9f3252a96a0347c9646b6fa8", func := "loop.example/g01008/laws.FnExactLessonsOf", spec := "fnExactLessonsOf", inPlace := ["internal/bytealg.IndexByteString"], unfollowed := true, recurses := true, apart := false, narrowed := true }
def FnExactLessonsOfUptoSaid : Prop := fnExactLessonsOfUptoRow.holds Try.pinned (OpenSpec.upto fnExactLessonsOfSpec)

/-- 'laws.FnExactCoverageAfter', WHERE WHAT IT READS IS OF BULK AT MOST 1048576: true; the input reads as it did. -/
def fnExactCoverageAfterUptoRow : OpenClaim := { program := "ythcedgbjpkgoeaa", sum := "65ad83ba91428efa67ca0a7742cd628d99ad1d5b9f3252a96a0347c9646b6fa8", func := "loop.example/g01008/laws.FnExactCoverageAfter", spec := "fnExactCoverageAfter", inPlace := ["internal/bytealg.IndexByteString"], unfollowed := true, recurses := true, apart := false, narrowed := true }
def FnExactCoverageAfterUptoSaid : Prop := fnExactCoverageAfterUptoRow.holds Try.pinned (OpenSpec.upto fnExactCoverageAfterSpec)

/-- 'laws.FnExactWordsForShare', WHERE WHAT IT READS IS OF BULK AT MOST 1048576: true; the input reads as it did. -/
def fnExactWordsForShareUptoRow : OpenClaim := { program := "ythcedgbjpkgoeaa", sum := "65ad83ba91428efa67ca0a7742cd628d99ad1d5b9f3252a96a0347c9646b6fa8", func := "loop.example/g01008/laws.FnExactWordsForShare", spec := "fnExactWordsForShare", inPlace := ["internal/bytealg.IndexByteString"], unfollowed := true, recurses := true, apart := false, narrowed := true }
def FnExactWordsForShareUptoSaid : Prop := fnExactWordsForShareUptoRow.holds Try.pinned (OpenSpec.upto fnExactWordsForShareSpec)

/-- 'laws.FnExactSwapWords', WHERE WHAT IT READS IS OF BULK AT MOST 1048576: true; the input reads as it did. -/
def fnExactSwapWordsUptoRow : OpenClaim := { program := "ythcedgbjpkgoeaa", sum := "65ad83ba91428efa67ca0a7742cd628d99ad1d5b9f3252a96a0347c9646b6fa8", func := "loop.example/g01008/laws.FnExactSwapWords", spec := "fnExactSwapWords", inPlace := ["internal/bytealg.IndexByteString"], unfollowed := true, recurses := true, apart := false, narrowed := true }
def FnExactSwapWordsUptoSaid : Prop := fnExactSwapWordsUptoRow.holds Try.pinned (OpenSpec.upto fnExactSwapWordsSpec)

end Rows
end Go.Proofs.Ythcedgbjpkgoeaa
