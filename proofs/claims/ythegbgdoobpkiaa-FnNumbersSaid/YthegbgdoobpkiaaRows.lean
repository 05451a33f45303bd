/-
  No cell of these rows narrows 'for every input' (looked for: loops, veiled, ifaces, maps, wideKeys, modest, calm, conditions, laid).
  DERIVED. THE GIVEN ROWS OF THIS SEAT. 5 by the template 'for every input the law returns true; each argument reads behind the call as it read before'; 0 by the template 'total and deterministic' (their statements: YthegbgdoobpkiaaTotals.lean).
  GIVEN WITH THE SEED: the statements are not yours to turn. If you find one false, say at which input.
  Laid BY PROGRAM, IN A SANDBOX (cutbox-rows.mjs): the forced cells as the released guide's own fill.sh prints them over the translation 0105df5930b42213… (all of the seat's roots in one cut). By AI agents, Wed Nov 11 2026. No macro, syntax, notation, axiom, sorry.
-/
import Derived.Test.YthegbgdoobpkiaaChecked
import GoSem.Claim
import GoSem.ClaimJoined
import GoSem.ClaimMapViews
import Derived.JoinedTies
import Derived.KernelRfl
namespace Go.Proofs.Ythegbgdoobpkiaa
/- THE CELL 'sum', in the pinned program and in every row, IS THE sha256 OF THE DUMP (.gsa) THAT YthegbgdoobpkiaaProg.lean LOADS. Nothing in Lean hashes anything: it is a label: what it is worth is what the hold of that sum in a sandbox is worth. -/
noncomputable def Try.pinned : Pinned := { name := "ythegbgdoobpkiaa", sum := "0105df5930b42213c95489290aeb4cf81665115d76b0f40a100e21e0c2da8755", checked := Try.checked }
namespace Rows
def none {H : Type} : Left H := { results := [], args := [] }

/-- 'laws.FnExactUnhexText': WHATEVER THE INPUT: true; the input reads as it did. -/
def fnExactUnhexTextSpec : ChangeSpec := { name := "fnExactUnhexText", fn := fun _ => fun
  | [d] => { results := [.lit (.bool true)], args := [d] }
  | _ => none }
def fnExactUnhexTextRow : OpenClaim := { program := "ythegbgdoobpkiaa", sum := "0105df5930b42213c95489290aeb4cf81665115d76b0f40a100e21e0c2da8755", func := "loop.example/g00817/laws.FnExactUnhexText", spec := "fnExactUnhexText", inPlace := ["internal/bytealg.IndexByteString"], apart := false }
def FnExactUnhexTextSaid : Prop := fnExactUnhexTextRow.holds Try.pinned (OpenSpec.ofChange fnExactUnhexTextSpec)

/-- ITS FALSE NEIGHBOUR: 'it returns false'. Refute it at one input. -/
def fnExactUnhexTextWrong : ChangeSpec := { name := "fnExactUnhexText", fn := fun _ => fun
  | [d] => { results := [.lit (.bool false)], args := [d] }
  | _ => none }
def FnExactUnhexTextWrongFalsely : Prop := fnExactUnhexTextRow.holds Try.pinned (OpenSpec.ofChange fnExactUnhexTextWrong)

/-- 'laws.FnExactDiffImages': WHATEVER THE INPUT: true; the input reads as it did. -/
def fnExactDiffImagesSpec : ChangeSpec := { name := "fnExactDiffImages", fn := fun _ => fun
  | [d1, d2] => { results := [.lit (.bool true)], args := [d1, d2] }
  | _ => none }
def fnExactDiffImagesRow : OpenClaim := { program := "ythegbgdoobpkiaa", sum := "0105df5930b42213c95489290aeb4cf81665115d76b0f40a100e21e0c2da8755", func := "loop.example/g00817/laws.FnExactDiffImages", spec := "fnExactDiffImages", apart := false }
def FnExactDiffImagesSaid : Prop := fnExactDiffImagesRow.holds Try.pinned (OpenSpec.ofChange fnExactDiffImagesSpec)

/-- ITS FALSE NEIGHBOUR: 'it returns false'. Refute it at one input. -/
def fnExactDiffImagesWrong : ChangeSpec := { name := "fnExactDiffImages", fn := fun _ => fun
  | [d1, d2] => { results := [.lit (.bool false)], args := [d1, d2] }
  | _ => none }
def FnExactDiffImagesWrongFalsely : Prop := fnExactDiffImagesRow.holds Try.pinned (OpenSpec.ofChange fnExactDiffImagesWrong)

/-- 'laws.FnExactCountCrashes': WHATEVER THE INPUT: true; the input reads as it did. -/
def fnExactCountCrashesSpec : ChangeSpec := { name := "fnExactCountCrashes", fn := fun _ => fun
  | [d] => { results := [.lit (.bool true)], args := [d] }
  | _ => none }
def fnExactCountCrashesRow : OpenClaim := { program := "ythegbgdoobpkiaa", sum := "0105df5930b42213c95489290aeb4cf81665115d76b0f40a100e21e0c2da8755", func := "loop.example/g00817/laws.FnExactCountCrashes", spec := "fnExactCountCrashes", apart := false }
def FnExactCountCrashesSaid : Prop := fnExactCountCrashesRow.holds Try.pinned (OpenSpec.ofChange fnExactCountCrashesSpec)

/-- ITS FALSE NEIGHBOUR: 'it returns false'. Refute it at one input. -/
def fnExactCountCrashesWrong : ChangeSpec := { name := "fnExactCountCrashes", fn := fun _ => fun
  | [d] => { results := [.lit (.bool false)], args := [d] }
  | _ => none }
def FnExactCountCrashesWrongFalsely : Prop := fnExactCountCrashesRow.holds Try.pinned (OpenSpec.ofChange fnExactCountCrashesWrong)

/-- 'laws.FnNumbers': WHATEVER THE INPUT: true; the input reads as it did. -/
def fnNumbersSpec : ChangeSpec := { name := "fnNumbers", fn := fun _ => fun
  | [d] => { results := [.lit (.bool true)], args := [d] }
  | _ => none }
def fnNumbersRow : OpenClaim := { program := "ythegbgdoobpkiaa", sum := "0105df5930b42213c95489290aeb4cf81665115d76b0f40a100e21e0c2da8755", func := "loop.example/g00817/laws.FnNumbers", spec := "fnNumbers", inPlace := ["internal/bytealg.IndexByteString", "internal/abi.NoEscape", "internal/bytealg.MakeNoZero"], apart := false }
def FnNumbersSaid : Prop := fnNumbersRow.holds Try.pinned (OpenSpec.ofChange fnNumbersSpec)

/-- ITS FALSE NEIGHBOUR: 'it returns false'. Refute it at one input. -/
def fnNumbersWrong : ChangeSpec := { name := "fnNumbers", fn := fun _ => fun
  | [d] => { results := [.lit (.bool false)], args := [d] }
  | _ => none }
def FnNumbersWrongFalsely : Prop := fnNumbersRow.holds Try.pinned (OpenSpec.ofChange fnNumbersWrong)

/-- 'laws.FnRecover': WHATEVER THE INPUT: true; the input reads as it did. -/
def fnRecoverSpec : ChangeSpec := { name := "fnRecover", fn := fun _ => fun
  | [d] => { results := [.lit (.bool true)], args := [d] }
  | _ => none }
def fnRecoverRow : OpenClaim := { program := "ythegbgdoobpkiaa", sum := "0105df5930b42213c95489290aeb4cf81665115d76b0f40a100e21e0c2da8755", func := "loop.example/g00817/laws.FnRecover", spec := "fnRecover", inPlace := ["internal/abi.NoEscape", "internal/bytealg.MakeNoZero"], unfollowed := true, recurses := true, apart := false }
def FnRecoverSaid : Prop := fnRecoverRow.holds Try.pinned (OpenSpec.ofChange fnRecoverSpec)

/-- ITS FALSE NEIGHBOUR: 'it returns false'. Refute it at one input. -/
def fnRecoverWrong : ChangeSpec := { name := "fnRecover", fn := fun _ => fun
  | [d] => { results := [.lit (.bool false)], args := [d] }
  | _ => none }
def FnRecoverWrongFalsely : Prop := fnRecoverRow.holds Try.pinned (OpenSpec.ofChange fnRecoverWrong)

/- THE SECOND FORM. 'bulk': how many values and letters a reading holds, each counted each time it is reached (what is shared counts as often as it is met; a slice's spare places count too). A statement '..UptoSaid' is the law's where the arguments, and the package variables that the reading takes, are together of bulk at most 1048576: NARROWER than '..Said'. Prove '..Said' where nothing that the law and all that it calls make is longer than what came in: it says more and counts as full. Else prove '..UptoSaid'. A law counts once. -/
mutual
def uptoBulk {H : Type} : DataW H → Nat
  | .lit (.string bytes) => bytes.length + 1
  | .lit _ => 1
  | .nil => 1
  | .ptr d => uptoBulk d + 1
  | .slice elems spare => uptoBulkAll elems + uptoBulkAll spare + 1
  | .agg parts => uptoBulkAll parts + 1
  | .iface _ d => uptoBulk d + 1
  | .map entries => uptoBulkEntries entries + 1
  | .held _ => 1
def uptoBulkAll {H : Type} : List (DataW H) → Nat
  | [] => 0
  | d :: r => uptoBulk d + uptoBulkAll r
def uptoBulkEntries {H : Type} : List (Lit × DataW H) → Nat
  | [] => 0
  | x :: r => uptoBulkEntry x + uptoBulkEntries r
def uptoBulkEntry {H : Type} : Lit × DataW H → Nat
  | (.string bytes, d) => bytes.length + uptoBulk d + 1
  | (_, d) => uptoBulk d + 1
 end
def uptoSmall : (H : Type) → List (DataW H) → Bool := fun _ ds => decide (uptoBulkAll ds ≤ 1048576)
def OpenSpec.upto (s : _root_.Go.ChangeSpec) : _root_.Go.OpenSpec := { _root_.Go.OpenSpec.ofChange s with cond := some uptoSmall }

/-- 'laws.FnExactUnhexText', WHERE WHAT IT READS IS OF BULK AT MOST 1048576: true; the input reads as it did. -/
def fnExactUnhexTextUptoRow : OpenClaim := { program := "ythegbgdoobpkiaa", sum := "0105df5930b42213c95489290aeb4cf81665115d76b0f40a100e21e0c2da8755", func := "loop.example/g00817/laws.FnExactUnhexText", spec := "fnExactUnhexText", inPlace := ["internal/bytealg.IndexByteString"], apart := false, narrowed := true }
def FnExactUnhexTextUptoSaid : Prop := fnExactUnhexTextUptoRow.holds Try.pinned (OpenSpec.upto fnExactUnhexTextSpec)

/-- 'laws.FnExactDiffImages', WHERE WHAT IT READS IS OF BULK AT MOST 1048576: true; the input reads as it did. -/
def fnExactDiffImagesUptoRow : OpenClaim := { program := "ythegbgdoobpkiaa", sum := "0105df5930b42213c95489290aeb4cf81665115d76b0f40a100e21e0c2da8755", func := "loop.example/g00817/laws.FnExactDiffImages", spec := "fnExactDiffImages", apart := false, narrowed := true }
def FnExactDiffImagesUptoSaid : Prop := fnExactDiffImagesUptoRow.holds Try.pinned (OpenSpec.upto fnExactDiffImagesSpec)

/-- 'laws.FnExactCountCrashes', WHERE WHAT IT READS IS OF BULK AT MOST 1048576: true; the input reads as it did. -/
def fnExactCountCrashesUptoRow : OpenClaim := { program := "ythegbgdoobpkiaa", sum := "0105df5930b42213c95489290aeb4cf81665115d76b0f40a100e21e0c2da8755", func := "loop.example/g00817/laws.FnExactCountCrashes", spec := "fnExactCountCrashes", apart := false, narrowed := true }
def FnExactCountCrashesUptoSaid : Prop := fnExactCountCrashesUptoRow.holds Try.pinned (OpenSpec.upto fnExactCountCrashesSpec)

/-- 'laws.FnNumbers', WHERE WHAT IT READS IS OF BULK AT MOST 1048576: true; the input reads as it did. -/
def fnNumbersUptoRow : OpenClaim := { program := "ythegbgdoobpkiaa", sum := "0105df5930b42213c95489290aeb4cf81665115d76b0f40a100e21e0c2da8755", func := "loop.example/g00817/laws.FnNumbers", spec := "fnNumbers", inPlace := ["internal/bytealg.IndexByteString", "internal/abi.NoEscape", "internal/bytealg.MakeNoZero"], apart := false, narrowed := true }
def FnNumbersUptoSaid : Prop := fnNumbersUptoRow.holds Try.pinned (OpenSpec.upto fnNumbersSpec)

/-- 'laws.FnRecover', WHERE WHAT IT READS IS OF BULK AT MOST 1048576: true; the input reads as it did. -/
def fnRecoverUptoRow : OpenClaim := { program := "ythegbgdoobpkiaa", sum := "0105df5930b42213c95489290aeb4cf81665115d76b0f40a100e21e0c2da8755", func := "loop.example/g00817/laws.FnRecover", spec := "fnRecover", inPlace := ["internal/abi.NoEscape", "internal/bytealg.MakeNoZero"], unfollowed := true, recurses := true, apart := false, narrowed := true }
def FnRecoverUptoSaid : Prop := fnRecoverUptoRow.holds Try.pinned (OpenSpec.upto fnRecoverSpec)

end Rows
end Go.Proofs.Ythegbgdoobpkiaa
