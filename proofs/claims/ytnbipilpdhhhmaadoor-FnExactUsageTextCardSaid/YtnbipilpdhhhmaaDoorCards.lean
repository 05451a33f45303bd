/-
  DERIVED. GIVEN WITH THE SEED: THE CARDS: each row of YtnbipilpdhhhmaaDoorRows.lean that lists a variable, with what it lists TIED to the program's text (the seventh form; the later family's looks); each row that meets fmt, with fmt's text TOLD by the authors' own Lean function (tested against real Go, not proved from fmt's source: count such statements apart). THE CARD IS WHAT COUNTS. Prove the row's statement (the work); the ties are given (YtnbipilpdhhhmaaDoorTie.lean); close each card by the builder's one call (the guide's Derived/Test/ToyasCard.lean, 'card_holds'). Laid BY PROGRAM, IN A SANDBOX (cutbox-door.mjs). By AI agents, Wed Nov 11 2026. No macro, syntax, notation, axiom, sorry.
-/
import Derived.Test.YtnbipilpdhhhmaaDoorRows
import GoSem.ClaimSeven
namespace Go.Proofs.YtnbipilpdhhhmaaDoor
namespace Rows

/-- THE TIED CARD OF 'laws.FnExactFormatItem'. -/
def fnExactFormatItemCard : Claim7 := { stood := { row := fnExactFormatItemRow, standIns := [], harness := (true, "b9e008817a7d31192ca18ad58604f2a9c9e409dc8d4d99bbc81429e7df06ce2d"), looks := false }, kinds := [], alts := [], laidByText := true, laidKinds := [.data, .data, .data], laidTests := true, laidLooks := .later }
def FnExactFormatItemCardSaid : Prop := Claim7.holds Tryd.pinned (.plain (OpenSpec.ofChange fnExactFormatItemSpec)) fnExactFormatItemCard

/-- THE TIED CARD OF 'laws.FnExactUsageText'. -/
def fnExactUsageTextCard : Claim7 := { stood := { row := fnExactUsageTextRow, standIns := [], harness := (true, "b9e008817a7d31192ca18ad58604f2a9c9e409dc8d4d99bbc81429e7df06ce2d"), looks := false }, kinds := [], alts := [], laidByText := true, laidKinds := [.data, .data, .data], laidTests := true, laidLooks := .later }
def FnExactUsageTextCardSaid : Prop := Claim7.holds Tryd.pinned (.plain (OpenSpec.ofChange fnExactUsageTextSpec)) fnExactUsageTextCard

/-- THE SECOND FORM's CARD OF 'laws.FnExactFormatItem'. -/
def fnExactFormatItemUptoCard : Claim7 := { stood := { row := fnExactFormatItemUptoRow, standIns := [], harness := (true, "b9e008817a7d31192ca18ad58604f2a9c9e409dc8d4d99bbc81429e7df06ce2d"), looks := false }, kinds := [], alts := [], laidByText := true, laidKinds := [.data, .data, .data], laidTests := true, laidLooks := .later }
def FnExactFormatItemUptoCardSaid : Prop := Claim7.holds Tryd.pinned (.plain (OpenSpec.upto fnExactFormatItemSpec)) fnExactFormatItemUptoCard

/-- THE SECOND FORM's CARD OF 'laws.FnExactUsageText'. -/
def fnExactUsageTextUptoCard : Claim7 := { stood := { row := fnExactUsageTextUptoRow, standIns := [], harness := (true, "b9e008817a7d31192ca18ad58604f2a9c9e409dc8d4d99bbc81429e7df06ce2d"), looks := false }, kinds := [], alts := [], laidByText := true, laidKinds := [.data, .data, .data], laidTests := true, laidLooks := .later }
def FnExactUsageTextUptoCardSaid : Prop := Claim7.holds Tryd.pinned (.plain (OpenSpec.upto fnExactUsageTextSpec)) fnExactUsageTextUptoCard
end Rows
end Go.Proofs.YtnbipilpdhhhmaaDoor
