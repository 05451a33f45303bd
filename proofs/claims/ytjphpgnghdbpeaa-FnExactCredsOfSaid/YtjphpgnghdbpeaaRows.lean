/-
  No cell of these rows narrows 'for every input' (looked for: loops, veiled, ifaces, maps, wideKeys, modest, calm, conditions, laid).
  DERIVED. THE GIVEN ROWS OF THIS SEAT. 4 by the template 'for every input the law returns true; each argument reads behind the call as it read before'; 0 by the template 'total and deterministic' (their statements: YtjphpgnghdbpeaaTotals.lean).
  GIVEN WITH THE SEED: the statements are not yours to turn. If you find one false, say at which input.
  Laid BY PROGRAM, IN A SANDBOX (cutbox-rows.mjs): the forced cells as the released guide's own fill.sh prints them over the translation 4e67716581461839… (all of the seat's roots in one cut). By AI agents, Wed Nov 11 2026. No macro, syntax, notation, axiom, sorry.
-/
import Derived.Test.YtjphpgnghdbpeaaChecked
import GoSem.Claim
import GoSem.ClaimJoined
import GoSem.ClaimMapViews
import Derived.JoinedTies
import Derived.KernelRfl
namespace Go.Proofs.Ytjphpgnghdbpeaa
/- THE CELL 'sum', in the pinned program and in every row, IS THE sha256 OF THE DUMP (.gsa) THAT YtjphpgnghdbpeaaProg.lean LOADS. Nothing in Lean hashes anything: it is a label: what it is worth is what the hold of that sum in a sandbox is worth. -/
noncomputable def Try.pinned : Pinned := { name := "ytjphpgnghdbpeaa", sum := "4e677165814618395462ce32c293de3dc850a7d5f1db6da5c9a4a4da30179f08", checked := Try.checked }
namespace Rows
def none {H : Type} : Left H := { results := [], args := [] }

/-- 'laws.FnExactCredsOf': WHATEVER THE INPUT: true; the input reads as it did. -/
def fnExactCredsOfSpec : ChangeSpec := { name := "fnExactCredsOf", fn := fun _ => fun
  | [d] => { results := [.lit (.bool true)], args := [d] }
  | _ => none }
def fnExactCredsOfRow : OpenClaim := { program := "ytjphpgnghdbpeaa", sum := "4e677165814618395462ce32c293de3dc850a7d5f1db6da5c9a4a4da30179f08", func := "loop.example/g00817/laws.FnExactCredsOf", spec := "fnExactCredsOf", apart := false }
def FnExactCredsOfSaid : Prop := fnExactCredsOfRow.holds Try.pinned (OpenSpec.ofChange fnExactCredsOfSpec)

/-- ITS FALSE NEIGHBOUR: 'it returns false'. Refute it at one input. -/
def fnExactCredsOfWrong : ChangeSpec := { name := "fnExactCredsOf", fn := fun _ => fun
  | [d] => { results := [.lit (.bool false)], args := [d] }
  | _ => none }
def FnExactCredsOfWrongFalsely : Prop := fnExactCredsOfRow.holds Try.pinned (OpenSpec.ofChange fnExactCredsOfWrong)

/-- 'laws.FnExactPoolOf': WHATEVER THE INPUT: true; the input reads as it did. -/
def fnExactPoolOfSpec : ChangeSpec := { name := "fnExactPoolOf", fn := fun _ => fun
  | [d1, d2] => { results := [.lit (.bool true)], args := [d1, d2] }
  | _ => none }
def fnExactPoolOfRow : OpenClaim := { program := "ytjphpgnghdbpeaa", sum := "4e677165814618395462ce32c293de3dc850a7d5f1db6da5c9a4a4da30179f08", func := "loop.example/g00817/laws.FnExactPoolOf", spec := "fnExactPoolOf", apart := false }
def FnExactPoolOfSaid : Prop := fnExactPoolOfRow.holds Try.pinned (OpenSpec.ofChange fnExactPoolOfSpec)

/-- ITS FALSE NEIGHBOUR: 'it returns false'. Refute it at one input. -/
def fnExactPoolOfWrong : ChangeSpec := { name := "fnExactPoolOf", fn := fun _ => fun
  | [d1, d2] => { results := [.lit (.bool false)], args := [d1, d2] }
  | _ => none }
def FnExactPoolOfWrongFalsely : Prop := fnExactPoolOfRow.holds Try.pinned (OpenSpec.ofChange fnExactPoolOfWrong)

/-- 'laws.FnExactCrashMount': WHATEVER THE INPUT: true; the input reads as it did. -/
def fnExactCrashMountSpec : ChangeSpec := { name := "fnExactCrashMount", fn := fun _ => fun
  | [d1, d2, d3] => { results := [.lit (.bool true)], args := [d1, d2, d3] }
  | _ => none }
def fnExactCrashMountRow : OpenClaim := { program := "ytjphpgnghdbpeaa", sum := "4e677165814618395462ce32c293de3dc850a7d5f1db6da5c9a4a4da30179f08", func := "loop.example/g00817/laws.FnExactCrashMount", spec := "fnExactCrashMount", inPlace := ["internal/abi.NoEscape", "internal/bytealg.MakeNoZero"], unfollowed := true, recurses := true, apart := false }
def FnExactCrashMountSaid : Prop := fnExactCrashMountRow.holds Try.pinned (OpenSpec.ofChange fnExactCrashMountSpec)

/-- ITS FALSE NEIGHBOUR: 'it returns false'. Refute it at one input. -/
def fnExactCrashMountWrong : ChangeSpec := { name := "fnExactCrashMount", fn := fun _ => fun
  | [d1, d2, d3] => { results := [.lit (.bool false)], args := [d1, d2, d3] }
  | _ => none }
def FnExactCrashMountWrongFalsely : Prop := fnExactCrashMountRow.holds Try.pinned (OpenSpec.ofChange fnExactCrashMountWrong)

/-- 'laws.FnExactSuperText': WHATEVER THE INPUT: true; the input reads as it did. -/
def fnExactSuperTextSpec : ChangeSpec := { name := "fnExactSuperText", fn := fun _ => fun
  | [d] => { results := [.lit (.bool true)], args := [d] }
  | _ => none }
def fnExactSuperTextRow : OpenClaim := { program := "ytjphpgnghdbpeaa", sum := "4e677165814618395462ce32c293de3dc850a7d5f1db6da5c9a4a4da30179f08", func := "loop.example/g00817/laws.FnExactSuperText", spec := "fnExactSuperText", inPlace := ["internal/abi.NoEscape", "internal/bytealg.MakeNoZero"], apart := false }
def FnExactSuperTextSaid : Prop := fnExactSuperTextRow.holds Try.pinned (OpenSpec.ofChange fnExactSuperTextSpec)

/-- ITS FALSE NEIGHBOUR: 'it returns false'. Refute it at one input. -/
def fnExactSuperTextWrong : ChangeSpec := { name := "fnExactSuperText", fn := fun _ => fun
  | [d] => { results := [.lit (.bool false)], args := [d] }
  | _ => none }
def FnExactSuperTextWrongFalsely : Prop := fnExactSuperTextRow.holds Try.pinned (OpenSpec.ofChange fnExactSuperTextWrong)

/- THE SECOND FORM. 'bulk': how many values and letters a reading holds, each counted each time it is reached (what is shared counts as often as it is met; a slice's spare places count too). A statement '..UptoSaid' is the law's where the arguments, and the package variables that the reading takes, are together of bulk at most 1048576: NARROWER than '..Said'. Prove '..Said' where nothing that the law and all that it calls make is longer than what came in: it says more and counts as full. Else prove '..UptoSaid'. A law counts once. -/
mutual
def uptoBulk {H : Type} : DataW H → Nat
  | .lit (.string bytes) => bytes.length + 1
  | .lit _ => 1
  | .nil => 1
  | .ptr d => uptoBulk d + 1
  | .slice elems spare => uptoBulkAll elems + uptoBulkAll spare + 1
  | .agg parts => uptoBulkAll parts + 1
  | .iface _ d => uptoBulk d + 1
  | .map entries => uptoBulkEntries entries + 1
  | .held _ => 1
def uptoBulkAll {H : Type} : List (DataW H) → Nat
  | [] => 0
  | d :: r => uptoBulk d + uptoBulkAll r
def uptoBulkEntries {H : Type} : List (Lit × DataW H) → Nat
  | [] => 0
  | x :: r => uptoBulkEntry x + uptoBulkEntries r
def uptoBulkEntry {H : Type} : Lit × DataW H → Nat
  | (.string bytes, d) => bytes.length + uptoBulk d + 1
  | (_, d) => uptoBulk d + 1
 end
def uptoSmall : (H : Type) → List (DataW H) → Bool := fun _ ds => decide (uptoBulkAll ds ≤ 1048576)
def OpenSpec.upto (s : _root_.Go.ChangeSpec) : _root_.Go.OpenSpec := { _root_.Go.OpenSpec.ofChange s with cond := some uptoSmall }

/-- 'laws.FnExactCredsOf', WHERE WHAT IT READS IS OF BULK AT MOST 1048576: true; the input reads as it did. -/
def fnExactCredsOfUptoRow : OpenClaim := { program := "ytjphpgnghdbpeaa", sum := "4e677165814618395462ce32c293de3dc850a7d5f1db6da5c9a4a4da30179f08", func := "loop.example/g00817/laws.FnExactCredsOf", spec := "fnExactCredsOf", apart := false, narrowed := true }
def FnExactCredsOfUptoSaid : Prop := fnExactCredsOfUptoRow.holds Try.pinned (OpenSpec.upto fnExactCredsOfSpec)

/-- 'laws.FnExactPoolOf', WHERE WHAT IT READS IS OF BULK AT MOST 1048576: true; the input reads as it did. -/
def fnExactPoolOfUptoRow : OpenClaim := { program := "ytjphpgnghdbpeaa", sum := "4e677165814618395462ce32c293de3dc850a7d5f1db6da5c9a4a4da30179f08", func := "loop.example/g00817/laws.FnExactPoolOf", spec := "fnExactPoolOf", apart := false, narrowed := true }
def FnExactPoolOfUptoSaid : Prop := fnExactPoolOfUptoRow.holds Try.pinned (OpenSpec.upto fnExactPoolOfSpec)

/-- 'laws.FnExactCrashMount', WHERE WHAT IT READS IS OF BULK AT MOST 1048576: true; the input reads as it did. -/
def fnExactCrashMountUptoRow : OpenClaim := { program := "ytjphpgnghdbpeaa", sum := "4e677165814618395462ce32c293de3dc850a7d5f1db6da5c9a4a4da30179f08", func := "loop.example/g00817/laws.FnExactCrashMount", spec := "fnExactCrashMount", inPlace := ["internal/abi.NoEscape", "internal/bytealg.MakeNoZero"], unfollowed := true, recurses := true, apart := false, narrowed := true }
def FnExactCrashMountUptoSaid : Prop := fnExactCrashMountUptoRow.holds Try.pinned (OpenSpec.upto fnExactCrashMountSpec)

/-- 'laws.FnExactSuperText', WHERE WHAT IT READS IS OF BULK AT MOST 1048576: true; the input reads as it did. -/
def fnExactSuperTextUptoRow : OpenClaim := { program := "ytjphpgnghdbpeaa", sum := "4e677165814618395462ce32c293de3dc850a7d5f1db6da5c9a4a4da30179f08", func := "loop.example/g00817/laws.FnExactSuperText", spec := "fnExactSuperText", inPlace := ["internal/abi.NoEscape", "internal/bytealg.MakeNoZero"], apart := false, narrowed := true }
def FnExactSuperTextUptoSaid : Prop := fnExactSuperTextUptoRow.holds Try.pinned (OpenSpec.upto fnExactSuperTextSpec)

end Rows
end Go.Proofs.Ytjphpgnghdbpeaa
