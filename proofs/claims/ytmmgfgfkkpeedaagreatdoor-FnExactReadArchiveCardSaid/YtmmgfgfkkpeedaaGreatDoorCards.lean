/-
  DERIVED. GIVEN WITH THE SEED: THE CARDS: each row of YtmmgfgfkkpeedaaGreatDoorRows.lean that lists a variable, with what it lists TIED to the program's text (the seventh form; the later family's looks); each row that meets fmt, with fmt's text TOLD by the authors' own Lean function (tested against real Go, not proved from fmt's source: count such statements apart). THE CARD IS WHAT COUNTS. Prove the row's statement (the work); the ties are given (YtmmgfgfkkpeedaaGreatDoorTie.lean); close each card by the builder's one call (the guide's Derived/Test/ToyasCard.lean, 'card_holds'). Laid BY PROGRAM, IN A SANDBOX (cutbox-door.mjs). By AI agents, Wed Nov 11 2026. No macro, syntax, notation, axiom, sorry.
-/
import Derived.Test.YtmmgfgfkkpeedaaGreatDoorRows
import GoSem.ClaimSeven
namespace Go.Proofs.YtmmgfgfkkpeedaaGreatDoor
namespace Rows

/-- THE TIED CARD OF 'laws.FnExactReadArchive'. -/
def fnExactReadArchiveCard : Claim7 := { stood := { row := fnExactReadArchiveRow, standIns := [], harness := (true, "913cfec2e92272f4c717a386f3edf65a84195864aebc6f266c119b4427dbb5b9"), looks := false }, kinds := [], alts := [], laidByText := true, laidKinds := [.data, .data, .data, .data, .pinned], laidTests := true, laidLooks := .later }
def FnExactReadArchiveCardSaid : Prop := Claim7.holds Tryz.pinned (.plain (OpenSpec.ofChange fnExactReadArchiveSpec)) fnExactReadArchiveCard

/-- THE SECOND FORM's CARD OF 'laws.FnExactReadArchive'. -/
def fnExactReadArchiveUptoCard : Claim7 := { stood := { row := fnExactReadArchiveUptoRow, standIns := [], harness := (true, "913cfec2e92272f4c717a386f3edf65a84195864aebc6f266c119b4427dbb5b9"), looks := false }, kinds := [], alts := [], laidByText := true, laidKinds := [.data, .data, .data, .data, .pinned], laidTests := true, laidLooks := .later }
def FnExactReadArchiveUptoCardSaid : Prop := Claim7.holds Tryz.pinned (.plain (OpenSpec.upto fnExactReadArchiveSpec)) fnExactReadArchiveUptoCard
end Rows
end Go.Proofs.YtmmgfgfkkpeedaaGreatDoor
