/-
  DERIVED. GIVEN WITH THE SEED: THE CARDS: each row of YtcpkobahiciadaaDoorRows.lean that lists a variable, with what it lists TIED to the program's text (the seventh form; the later family's looks); each row that meets fmt, with fmt's text TOLD by the authors' own Lean function (tested against real Go, not proved from fmt's source: count such statements apart). THE CARD IS WHAT COUNTS. Prove the row's statement (the work); the ties are given (YtcpkobahiciadaaDoorTie.lean); close each card by the builder's one call (the guide's Derived/Test/ToyasCard.lean, 'card_holds'). Laid BY PROGRAM, IN A SANDBOX (cutbox-door.mjs). By AI agents, Wed Nov 11 2026. No macro, syntax, notation, axiom, sorry.
-/
import Derived.Test.YtcpkobahiciadaaDoorRows
import GoSem.ClaimSeven
namespace Go.Proofs.YtcpkobahiciadaaDoor
namespace Rows

/-- THE TIED CARD OF 'laws.FnExactCardsText'. -/
def fnExactCardsTextCard : Claim7 := { stood := { row := fnExactCardsTextRow, standIns := [], harness := (true, "af2cd63857964ab086dd4e1059e34be58fc95c105fbfcc3a2bc9d495e33471cf"), looks := false }, kinds := [], alts := [], laidByText := true, laidKinds := [.data, .data, .data], laidTests := true, laidLooks := .later }
def FnExactCardsTextCardSaid : Prop := Claim7.holds Tryd.pinned (.plain (OpenSpec.ofChange fnExactCardsTextSpec)) fnExactCardsTextCard

/-- THE TIED CARD OF 'laws.FnExactKeysText'. -/
def fnExactKeysTextCard : Claim7 := { stood := { row := fnExactKeysTextRow, standIns := [], harness := (true, "af2cd63857964ab086dd4e1059e34be58fc95c105fbfcc3a2bc9d495e33471cf"), looks := false }, kinds := [], alts := [], laidByText := true, laidKinds := [.data, .data, .data], laidTests := true, laidLooks := .later }
def FnExactKeysTextCardSaid : Prop := Claim7.holds Tryd.pinned (.plain (OpenSpec.ofChange fnExactKeysTextSpec)) fnExactKeysTextCard

/-- THE SECOND FORM's CARD OF 'laws.FnExactCardsText'. -/
def fnExactCardsTextUptoCard : Claim7 := { stood := { row := fnExactCardsTextUptoRow, standIns := [], harness := (true, "af2cd63857964ab086dd4e1059e34be58fc95c105fbfcc3a2bc9d495e33471cf"), looks := false }, kinds := [], alts := [], laidByText := true, laidKinds := [.data, .data, .data], laidTests := true, laidLooks := .later }
def FnExactCardsTextUptoCardSaid : Prop := Claim7.holds Tryd.pinned (.plain (OpenSpec.upto fnExactCardsTextSpec)) fnExactCardsTextUptoCard

/-- THE SECOND FORM's CARD OF 'laws.FnExactKeysText'. -/
def fnExactKeysTextUptoCard : Claim7 := { stood := { row := fnExactKeysTextUptoRow, standIns := [], harness := (true, "af2cd63857964ab086dd4e1059e34be58fc95c105fbfcc3a2bc9d495e33471cf"), looks := false }, kinds := [], alts := [], laidByText := true, laidKinds := [.data, .data, .data], laidTests := true, laidLooks := .later }
def FnExactKeysTextUptoCardSaid : Prop := Claim7.holds Tryd.pinned (.plain (OpenSpec.upto fnExactKeysTextSpec)) fnExactKeysTextUptoCard
end Rows
end Go.Proofs.YtcpkobahiciadaaDoor
