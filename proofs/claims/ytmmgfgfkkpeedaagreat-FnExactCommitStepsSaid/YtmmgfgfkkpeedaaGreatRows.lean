/-
  No cell of these rows narrows 'for every input' (looked for: loops, veiled, ifaces, maps, wideKeys, modest, calm, conditions, laid).
  DERIVED. THE GIVEN ROWS OF THIS SEAT. 4 by the template 'for every input the law returns true; each argument reads behind the call as it read before'; 0 by the template 'total and deterministic' (their statements: YtmmgfgfkkpeedaaGreatTotals.lean).
  GIVEN WITH THE SEED: the statements are not yours to turn. If you find one false, say at which input.
  Laid BY PROGRAM, IN A SANDBOX (cutbox-rows.mjs): the forced cells as the released guide's own fill.sh prints them over the translation 030326bcea2a1b44… (all of the seat's roots in one cut). By AI agents, Wed Nov 11 2026. No macro, syntax, notation, axiom, sorry.
-/
import Derived.Test.YtmmgfgfkkpeedaaGreatChecked
import GoSem.Claim
import GoSem.ClaimJoined
import GoSem.ClaimMapViews
import Derived.JoinedTies
import Derived.KernelRfl
namespace Go.Proofs.YtmmgfgfkkpeedaaGreat
/- THE CELL 'sum', in the pinned program and in every row, IS THE sha256 OF THE DUMP (.gsa) THAT YtmmgfgfkkpeedaaGreatProg.lean LOADS. Nothing in Lean hashes anything: it is a label: what it is worth is what the hold of that sum in a sandbox is worth. -/
noncomputable def Tryz.pinned : Pinned := { name := "ytmmgfgfkkpeedaagreat", sum := "030326bcea2a1b44128119abdd92c35cbe61056f6574de4d55d459f8775dea61", checked := Tryz.checked }
namespace Rows
def none {H : Type} : Left H := { results := [], args := [] }

/-- 'laws.FnExactNewConsole': WHATEVER THE INPUT: true; the input reads as it did. -/
def fnExactNewConsoleSpec : ChangeSpec := { name := "fnExactNewConsole", fn := fun _ => fun
  | [] => { results := [.lit (.bool true)], args := [] }
  | _ => none }
def fnExactNewConsoleRow : OpenClaim := { program := "ytmmgfgfkkpeedaagreat", sum := "030326bcea2a1b44128119abdd92c35cbe61056f6574de4d55d459f8775dea61", func := "loop.example/g00817/laws.FnExactNewConsole", spec := "fnExactNewConsole", inPlace := ["internal/abi.NoEscape", "internal/bytealg.MakeNoZero"], apart := false }
def FnExactNewConsoleSaid : Prop := fnExactNewConsoleRow.holds Tryz.pinned (OpenSpec.ofChange fnExactNewConsoleSpec)

/-- ITS FALSE NEIGHBOUR: 'it returns false'. Refute it at one input. -/
def fnExactNewConsoleWrong : ChangeSpec := { name := "fnExactNewConsole", fn := fun _ => fun
  | [] => { results := [.lit (.bool false)], args := [] }
  | _ => none }
def FnExactNewConsoleWrongFalsely : Prop := fnExactNewConsoleRow.holds Tryz.pinned (OpenSpec.ofChange fnExactNewConsoleWrong)

/-- 'laws.FnExactStartMachine': WHATEVER THE INPUT: true; the input reads as it did. -/
def fnExactStartMachineSpec : ChangeSpec := { name := "fnExactStartMachine", fn := fun _ => fun
  | [d1, d2] => { results := [.lit (.bool true)], args := [d1, d2] }
  | _ => none }
def fnExactStartMachineRow : OpenClaim := { program := "ytmmgfgfkkpeedaagreat", sum := "030326bcea2a1b44128119abdd92c35cbe61056f6574de4d55d459f8775dea61", func := "loop.example/g00817/laws.FnExactStartMachine", spec := "fnExactStartMachine", inPlace := ["internal/abi.NoEscape", "internal/bytealg.MakeNoZero"], apart := false }
def FnExactStartMachineSaid : Prop := fnExactStartMachineRow.holds Tryz.pinned (OpenSpec.ofChange fnExactStartMachineSpec)

/-- ITS FALSE NEIGHBOUR: 'it returns false'. Refute it at one input. -/
def fnExactStartMachineWrong : ChangeSpec := { name := "fnExactStartMachine", fn := fun _ => fun
  | [d1, d2] => { results := [.lit (.bool false)], args := [d1, d2] }
  | _ => none }
def FnExactStartMachineWrongFalsely : Prop := fnExactStartMachineRow.holds Tryz.pinned (OpenSpec.ofChange fnExactStartMachineWrong)

/-- 'laws.FnExactIsMachine': WHATEVER THE INPUT: true; the input reads as it did. -/
def fnExactIsMachineSpec : ChangeSpec := { name := "fnExactIsMachine", fn := fun _ => fun
  | [d] => { results := [.lit (.bool true)], args := [d] }
  | _ => none }
def fnExactIsMachineRow : OpenClaim := { program := "ytmmgfgfkkpeedaagreat", sum := "030326bcea2a1b44128119abdd92c35cbe61056f6574de4d55d459f8775dea61", func := "loop.example/g00817/laws.FnExactIsMachine", spec := "fnExactIsMachine", inPlace := ["internal/abi.NoEscape", "internal/bytealg.MakeNoZero"], unfollowed := true, recurses := true, apart := false }
def FnExactIsMachineSaid : Prop := fnExactIsMachineRow.holds Tryz.pinned (OpenSpec.ofChange fnExactIsMachineSpec)

/-- ITS FALSE NEIGHBOUR: 'it returns false'. Refute it at one input. -/
def fnExactIsMachineWrong : ChangeSpec := { name := "fnExactIsMachine", fn := fun _ => fun
  | [d] => { results := [.lit (.bool false)], args := [d] }
  | _ => none }
def FnExactIsMachineWrongFalsely : Prop := fnExactIsMachineRow.holds Tryz.pinned (OpenSpec.ofChange fnExactIsMachineWrong)

/-- 'laws.FnExactCommitSteps': WHATEVER THE INPUT: true; the input reads as it did. -/
def fnExactCommitStepsSpec : ChangeSpec := { name := "fnExactCommitSteps", fn := fun _ => fun
  | [d1, d2] => { results := [.lit (.bool true)], args := [d1, d2] }
  | _ => none }
def fnExactCommitStepsRow : OpenClaim := { program := "ytmmgfgfkkpeedaagreat", sum := "030326bcea2a1b44128119abdd92c35cbe61056f6574de4d55d459f8775dea61", func := "loop.example/g00817/laws.FnExactCommitSteps", spec := "fnExactCommitSteps", inPlace := ["internal/abi.NoEscape", "internal/bytealg.MakeNoZero"], unfollowed := true, recurses := true, apart := false }
def FnExactCommitStepsSaid : Prop := fnExactCommitStepsRow.holds Tryz.pinned (OpenSpec.ofChange fnExactCommitStepsSpec)

/-- ITS FALSE NEIGHBOUR: 'it returns false'. Refute it at one input. -/
def fnExactCommitStepsWrong : ChangeSpec := { name := "fnExactCommitSteps", fn := fun _ => fun
  | [d1, d2] => { results := [.lit (.bool false)], args := [d1, d2] }
  | _ => none }
def FnExactCommitStepsWrongFalsely : Prop := fnExactCommitStepsRow.holds Tryz.pinned (OpenSpec.ofChange fnExactCommitStepsWrong)

/- THE SECOND FORM. 'bulk': how many values and letters a reading holds, each counted each time it is reached (what is shared counts as often as it is met; a slice's spare places count too). A statement '..UptoSaid' is the law's where the arguments, and the package variables that the reading takes, are together of bulk at most 1048576: NARROWER than '..Said'. Prove '..Said' where nothing that the law and all that it calls make is longer than what came in: it says more and counts as full. Else prove '..UptoSaid'. A law counts once. -/
mutual
def uptoBulk {H : Type} : DataW H → Nat
  | .lit (.string bytes) => bytes.length + 1
  | .lit _ => 1
  | .nil => 1
  | .ptr d => uptoBulk d + 1
  | .slice elems spare => uptoBulkAll elems + uptoBulkAll spare + 1
  | .agg parts => uptoBulkAll parts + 1
  | .iface _ d => uptoBulk d + 1
  | .map entries => uptoBulkEntries entries + 1
  | .held _ => 1
def uptoBulkAll {H : Type} : List (DataW H) → Nat
  | [] => 0
  | d :: r => uptoBulk d + uptoBulkAll r
def uptoBulkEntries {H : Type} : List (Lit × DataW H) → Nat
  | [] => 0
  | x :: r => uptoBulkEntry x + uptoBulkEntries r
def uptoBulkEntry {H : Type} : Lit × DataW H → Nat
  | (.string bytes, d) => bytes.length + uptoBulk d + 1
  | (_, d) => uptoBulk d + 1
 end
def uptoSmall : (H : Type) → List (DataW H) → Bool := fun _ ds => decide (uptoBulkAll ds ≤ 1048576)
def OpenSpec.upto (s : _root_.Go.ChangeSpec) : _root_.Go.OpenSpec := { _root_.Go.OpenSpec.ofChange s with cond := some uptoSmall }

/-- 'laws.FnExactNewConsole', WHERE WHAT IT READS IS OF BULK AT MOST 1048576: true; the input reads as it did. -/
def fnExactNewConsoleUptoRow : OpenClaim := { program := "ytmmgfgfkkpeedaagreat", sum := "030326bcea2a1b44128119abdd92c35cbe61056f6574de4d55d459f8775dea61", func := "loop.example/g00817/laws.FnExactNewConsole", spec := "fnExactNewConsole", inPlace := ["internal/abi.NoEscape", "internal/bytealg.MakeNoZero"], apart := false, narrowed := true }
def FnExactNewConsoleUptoSaid : Prop := fnExactNewConsoleUptoRow.holds Tryz.pinned (OpenSpec.upto fnExactNewConsoleSpec)

/-- 'laws.FnExactStartMachine', WHERE WHAT IT READS IS OF BULK AT MOST 1048576: true; the input reads as it did. -/
def fnExactStartMachineUptoRow : OpenClaim := { program := "ytmmgfgfkkpeedaagreat", sum := "030326bcea2a1b44128119abdd92c35cbe61056f6574de4d55d459f8775dea61", func := "loop.example/g00817/laws.FnExactStartMachine", spec := "fnExactStartMachine", inPlace := ["internal/abi.NoEscape", "internal/bytealg.MakeNoZero"], apart := false, narrowed := true }
def FnExactStartMachineUptoSaid : Prop := fnExactStartMachineUptoRow.holds Tryz.pinned (OpenSpec.upto fnExactStartMachineSpec)

/-- 'laws.FnExactIsMachine', WHERE WHAT IT READS IS OF BULK AT MOST 1048576: true; the input reads as it did. -/
def fnExactIsMachineUptoRow : OpenClaim := { program := "ytmmgfgfkkpeedaagreat", sum := "030326bcea2a1b44128119abdd92c35cbe61056f6574de4d55d459f8775dea61", func := "loop.example/g00817/laws.FnExactIsMachine", spec := "fnExactIsMachine", inPlace := ["internal/abi.NoEscape", "internal/bytealg.MakeNoZero"], unfollowed := true, recurses := true, apart := false, narrowed := true }
def FnExactIsMachineUptoSaid : Prop := fnExactIsMachineUptoRow.holds Tryz.pinned (OpenSpec.upto fnExactIsMachineSpec)

/-- 'laws.FnExactCommitSteps', WHERE WHAT IT READS IS OF BULK AT MOST 1048576: true; the input reads as it did. -/
def fnExactCommitStepsUptoRow : OpenClaim := { program := "ytmmgfgfkkpeedaagreat", sum := "030326bcea2a1b44128119abdd92c35cbe61056f6574de4d55d459f8775dea61", func := "loop.example/g00817/laws.FnExactCommitSteps", spec := "fnExactCommitSteps", inPlace := ["internal/abi.NoEscape", "internal/bytealg.MakeNoZero"], unfollowed := true, recurses := true, apart := false, narrowed := true }
def FnExactCommitStepsUptoSaid : Prop := fnExactCommitStepsUptoRow.holds Tryz.pinned (OpenSpec.upto fnExactCommitStepsSpec)

end Rows
end Go.Proofs.YtmmgfgfkkpeedaaGreat
