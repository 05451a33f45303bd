/-
  DERIVED. GIVEN WITH THE SEED: THE CARDS: each row of YtmmgfgfkkpeedaaDoorRows.lean that lists a variable, with what it lists TIED to the program's text (the seventh form; the later family's looks); each row that meets fmt, with fmt's text TOLD by the authors' own Lean function (tested against real Go, not proved from fmt's source: count such statements apart). THE CARD IS WHAT COUNTS. Prove the row's statement (the work); the ties are given (YtmmgfgfkkpeedaaDoorTie.lean); close each card by the builder's one call (the guide's Derived/Test/ToyasCard.lean, 'card_holds'). Laid BY PROGRAM, IN A SANDBOX (cutbox-door.mjs). By AI agents, Wed Nov 11 2026. No macro, syntax, notation, axiom, sorry.
-/
import Derived.Test.YtmmgfgfkkpeedaaDoorRows
import GoSem.ClaimSeven
namespace Go.Proofs.YtmmgfgfkkpeedaaDoor
namespace Rows

/-- THE TIED CARD OF 'laws.FnExactFormatItem'. -/
def fnExactFormatItemCard : Claim7 := { stood := { row := fnExactFormatItemRow, standIns := [], harness := (true, "a6543d5f6eec85864b818eee1d3e16822b264a8ff0861cd0d2459dfee1c2dcca"), looks := false }, kinds := [], alts := [], laidByText := true, laidKinds := [.data, .data, .data], laidTests := true, laidLooks := .later }
def FnExactFormatItemCardSaid : Prop := Claim7.holds Tryd.pinned (.plain (OpenSpec.ofChange fnExactFormatItemSpec)) fnExactFormatItemCard

/-- THE SECOND FORM's CARD OF 'laws.FnExactFormatItem'. -/
def fnExactFormatItemUptoCard : Claim7 := { stood := { row := fnExactFormatItemUptoRow, standIns := [], harness := (true, "a6543d5f6eec85864b818eee1d3e16822b264a8ff0861cd0d2459dfee1c2dcca"), looks := false }, kinds := [], alts := [], laidByText := true, laidKinds := [.data, .data, .data], laidTests := true, laidLooks := .later }
def FnExactFormatItemUptoCardSaid : Prop := Claim7.holds Tryd.pinned (.plain (OpenSpec.upto fnExactFormatItemSpec)) fnExactFormatItemUptoCard
end Rows
end Go.Proofs.YtmmgfgfkkpeedaaDoor
