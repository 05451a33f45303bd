/-
  DERIVED. GIVEN WITH THE SEED: THE CARDS: each row of YtkdcfeopelbojaaGreatDoorRows.lean that lists a variable, with what it lists TIED to the program's text (the seventh form; the later family's looks); each row that meets fmt, with fmt's text TOLD by the authors' own Lean function (tested against real Go, not proved from fmt's source: count such statements apart). THE CARD IS WHAT COUNTS. Prove the row's statement (the work); the ties are given (YtkdcfeopelbojaaGreatDoorTie.lean); close each card by the builder's one call (the guide's Derived/Test/ToyasCard.lean, 'card_holds'). Laid BY PROGRAM, IN A SANDBOX (cutbox-door.mjs). By AI agents, Wed Nov 11 2026. No macro, syntax, notation, axiom, sorry.
-/
import Derived.Test.YtkdcfeopelbojaaGreatDoorRows
import GoSem.ClaimSeven
namespace Go.Proofs.YtkdcfeopelbojaaGreatDoor
namespace Rows

/-- THE TIED CARD OF 'laws.FnExactViewOf'. -/
def fnExactViewOfCard : Claim7 := { stood := { row := fnExactViewOfRow, standIns := [], harness := (true, "9f70ba96585e83dbb63df35b58dfb5ceff079dd83b4619b22f3ecc9b713c0bb2"), looks := false }, kinds := [], alts := [], laidByText := true, laidKinds := [.data, .data, .data], laidTests := true, laidLooks := .later }
def FnExactViewOfCardSaid : Prop := Claim7.holds Tryz.pinned (.plain (OpenSpec.ofChange fnExactViewOfSpec)) fnExactViewOfCard

/-- THE TIED CARD OF 'laws.FnExactSameView'. -/
def fnExactSameViewCard : Claim7 := { stood := { row := fnExactSameViewRow, standIns := [], harness := (true, "9f70ba96585e83dbb63df35b58dfb5ceff079dd83b4619b22f3ecc9b713c0bb2"), looks := false }, kinds := [], alts := [], laidByText := true, laidKinds := [.data, .data, .data], laidTests := true, laidLooks := .later }
def FnExactSameViewCardSaid : Prop := Claim7.holds Tryz.pinned (.plain (OpenSpec.ofChange fnExactSameViewSpec)) fnExactSameViewCard

/-- THE TIED CARD OF 'laws.FnExactSaveTree'. -/
def fnExactSaveTreeCard : Claim7 := { stood := { row := fnExactSaveTreeRow, standIns := [], harness := (true, "9f70ba96585e83dbb63df35b58dfb5ceff079dd83b4619b22f3ecc9b713c0bb2"), looks := false }, kinds := [], alts := [], laidByText := true, laidKinds := [.data, .data, .data], laidTests := true, laidLooks := .later }
def FnExactSaveTreeCardSaid : Prop := Claim7.holds Tryz.pinned (.plain (OpenSpec.ofChange fnExactSaveTreeSpec)) fnExactSaveTreeCard

/-- THE TIED CARD OF 'laws.FnExactLoadTree'. -/
def fnExactLoadTreeCard : Claim7 := { stood := { row := fnExactLoadTreeRow, standIns := [], harness := (true, "9f70ba96585e83dbb63df35b58dfb5ceff079dd83b4619b22f3ecc9b713c0bb2"), looks := false }, kinds := [], alts := [], laidByText := true, laidKinds := [.data, .data, .data, .data, .pinned], laidTests := true, laidLooks := .later }
def FnExactLoadTreeCardSaid : Prop := Claim7.holds Tryz.pinned (.plain (OpenSpec.ofChange fnExactLoadTreeSpec)) fnExactLoadTreeCard

/-- THE SECOND FORM's CARD OF 'laws.FnExactViewOf'. -/
def fnExactViewOfUptoCard : Claim7 := { stood := { row := fnExactViewOfUptoRow, standIns := [], harness := (true, "9f70ba96585e83dbb63df35b58dfb5ceff079dd83b4619b22f3ecc9b713c0bb2"), looks := false }, kinds := [], alts := [], laidByText := true, laidKinds := [.data, .data, .data], laidTests := true, laidLooks := .later }
def FnExactViewOfUptoCardSaid : Prop := Claim7.holds Tryz.pinned (.plain (OpenSpec.upto fnExactViewOfSpec)) fnExactViewOfUptoCard

/-- THE SECOND FORM's CARD OF 'laws.FnExactSameView'. -/
def fnExactSameViewUptoCard : Claim7 := { stood := { row := fnExactSameViewUptoRow, standIns := [], harness := (true, "9f70ba96585e83dbb63df35b58dfb5ceff079dd83b4619b22f3ecc9b713c0bb2"), looks := false }, kinds := [], alts := [], laidByText := true, laidKinds := [.data, .data, .data], laidTests := true, laidLooks := .later }
def FnExactSameViewUptoCardSaid : Prop := Claim7.holds Tryz.pinned (.plain (OpenSpec.upto fnExactSameViewSpec)) fnExactSameViewUptoCard

/-- THE SECOND FORM's CARD OF 'laws.FnExactSaveTree'. -/
def fnExactSaveTreeUptoCard : Claim7 := { stood := { row := fnExactSaveTreeUptoRow, standIns := [], harness := (true, "9f70ba96585e83dbb63df35b58dfb5ceff079dd83b4619b22f3ecc9b713c0bb2"), looks := false }, kinds := [], alts := [], laidByText := true, laidKinds := [.data, .data, .data], laidTests := true, laidLooks := .later }
def FnExactSaveTreeUptoCardSaid : Prop := Claim7.holds Tryz.pinned (.plain (OpenSpec.upto fnExactSaveTreeSpec)) fnExactSaveTreeUptoCard

/-- THE SECOND FORM's CARD OF 'laws.FnExactLoadTree'. -/
def fnExactLoadTreeUptoCard : Claim7 := { stood := { row := fnExactLoadTreeUptoRow, standIns := [], harness := (true, "9f70ba96585e83dbb63df35b58dfb5ceff079dd83b4619b22f3ecc9b713c0bb2"), looks := false }, kinds := [], alts := [], laidByText := true, laidKinds := [.data, .data, .data, .data, .pinned], laidTests := true, laidLooks := .later }
def FnExactLoadTreeUptoCardSaid : Prop := Claim7.holds Tryz.pinned (.plain (OpenSpec.upto fnExactLoadTreeSpec)) fnExactLoadTreeUptoCard
end Rows
end Go.Proofs.YtkdcfeopelbojaaGreatDoor
