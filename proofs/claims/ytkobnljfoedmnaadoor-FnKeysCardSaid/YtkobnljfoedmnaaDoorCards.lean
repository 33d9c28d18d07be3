/-
  DERIVED. GIVEN WITH THE SEED: THE CARDS: each row of YtkobnljfoedmnaaDoorRows.lean that lists a variable, with what it lists TIED to the program's text (the seventh form; the later family's looks); each row that meets fmt, with fmt's text TOLD by the authors' own Lean function (tested against real Go, not proved from fmt's source: count such statements apart). THE CARD IS WHAT COUNTS. Prove the row's statement (the work); the ties are given (YtkobnljfoedmnaaDoorTie.lean); close each card by the builder's one call (the guide's Derived/Test/ToyasCard.lean, 'card_holds'). Laid BY PROGRAM, IN A SANDBOX (cutbox-door.mjs). By AI agents, Wed Nov 11 2026. No macro, syntax, notation, axiom, sorry.
-/
import Derived.Test.YtkobnljfoedmnaaDoorRows
import GoSem.ClaimSeven
namespace Go.Proofs.YtkobnljfoedmnaaDoor
namespace Rows

/-- THE TIED CARD OF 'laws.FnKeys'. -/
def fnKeysCard : Claim7 := { stood := { row := fnKeysRow, standIns := [], harness := (true, "4774885533d2a5302bcdcfd20c87c6343ae3d68aad0b2d1d3fbb83babe60a558"), looks := false }, kinds := [], alts := [], laidByText := true, laidKinds := [.data, .data, .data], laidTests := true, laidLooks := .later }
def FnKeysCardSaid : Prop := Claim7.holds Tryd.pinned (.plain (OpenSpec.ofChange fnKeysSpec)) fnKeysCard

/-- THE TIED CARD OF 'laws.FnCards'. -/
def fnCardsCard : Claim7 := { stood := { row := fnCardsRow, standIns := [], harness := (true, "4774885533d2a5302bcdcfd20c87c6343ae3d68aad0b2d1d3fbb83babe60a558"), looks := false }, kinds := [], alts := [], laidByText := true, laidKinds := [.data, .data, .data], laidTests := true, laidLooks := .later }
def FnCardsCardSaid : Prop := Claim7.holds Tryd.pinned (.plain (OpenSpec.ofChange fnCardsSpec)) fnCardsCard

/-- THE SECOND FORM's CARD OF 'laws.FnKeys'. -/
def fnKeysUptoCard : Claim7 := { stood := { row := fnKeysUptoRow, standIns := [], harness := (true, "4774885533d2a5302bcdcfd20c87c6343ae3d68aad0b2d1d3fbb83babe60a558"), looks := false }, kinds := [], alts := [], laidByText := true, laidKinds := [.data, .data, .data], laidTests := true, laidLooks := .later }
def FnKeysUptoCardSaid : Prop := Claim7.holds Tryd.pinned (.plain (OpenSpec.upto fnKeysSpec)) fnKeysUptoCard

/-- THE SECOND FORM's CARD OF 'laws.FnCards'. -/
def fnCardsUptoCard : Claim7 := { stood := { row := fnCardsUptoRow, standIns := [], harness := (true, "4774885533d2a5302bcdcfd20c87c6343ae3d68aad0b2d1d3fbb83babe60a558"), looks := false }, kinds := [], alts := [], laidByText := true, laidKinds := [.data, .data, .data], laidTests := true, laidLooks := .later }
def FnCardsUptoCardSaid : Prop := Claim7.holds Tryd.pinned (.plain (OpenSpec.upto fnCardsSpec)) fnCardsUptoCard
end Rows
end Go.Proofs.YtkobnljfoedmnaaDoor
