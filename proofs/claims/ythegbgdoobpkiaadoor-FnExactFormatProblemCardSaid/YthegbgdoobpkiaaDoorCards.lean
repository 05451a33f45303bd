/-
  DERIVED. GIVEN WITH THE SEED: THE CARDS: each row of YthegbgdoobpkiaaDoorRows.lean that lists a variable, with what it lists TIED to the program's text (the seventh form; the later family's looks); each row that meets fmt, with fmt's text TOLD by the authors' own Lean function (tested against real Go, not proved from fmt's source: count such statements apart). THE CARD IS WHAT COUNTS. Prove the row's statement (the work); the ties are given (YthegbgdoobpkiaaDoorTie.lean); close each card by the builder's one call (the guide's Derived/Test/ToyasCard.lean, 'card_holds'). Laid BY PROGRAM, IN A SANDBOX (cutbox-door.mjs). By AI agents, Wed Nov 11 2026. No macro, syntax, notation, axiom, sorry.
-/
import Derived.Test.YthegbgdoobpkiaaDoorRows
import GoSem.ClaimSeven
namespace Go.Proofs.YthegbgdoobpkiaaDoor
namespace Rows

/-- THE TIED CARD OF 'laws.FnExactFormatProblem'. -/
def fnExactFormatProblemCard : Claim7 := { stood := { row := fnExactFormatProblemRow, standIns := [], harness := (true, "1e2f926349c0953d1b115ec0000e7ea30ca8acef8fd558f3715aaa5e06e88eb1"), looks := false }, kinds := [], alts := [], laidByText := true, laidKinds := [.data, .data, .data], laidTests := true, laidLooks := .later }
def FnExactFormatProblemCardSaid : Prop := Claim7.holds Tryd.pinned (.plain (OpenSpec.ofChange fnExactFormatProblemSpec)) fnExactFormatProblemCard

/-- THE SECOND FORM's CARD OF 'laws.FnExactFormatProblem'. -/
def fnExactFormatProblemUptoCard : Claim7 := { stood := { row := fnExactFormatProblemUptoRow, standIns := [], harness := (true, "1e2f926349c0953d1b115ec0000e7ea30ca8acef8fd558f3715aaa5e06e88eb1"), looks := false }, kinds := [], alts := [], laidByText := true, laidKinds := [.data, .data, .data], laidTests := true, laidLooks := .later }
def FnExactFormatProblemUptoCardSaid : Prop := Claim7.holds Tryd.pinned (.plain (OpenSpec.upto fnExactFormatProblemSpec)) fnExactFormatProblemUptoCard
end Rows
end Go.Proofs.YthegbgdoobpkiaaDoor
