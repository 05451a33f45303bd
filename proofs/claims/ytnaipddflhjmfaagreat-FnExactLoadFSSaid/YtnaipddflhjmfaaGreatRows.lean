/-
  No cell of these rows narrows 'for every input' (looked for: loops, veiled, ifaces, maps, wideKeys, modest, calm, conditions, laid).
  DERIVED. THE GIVEN ROWS OF THIS SEAT. 3 by the template 'for every input the law returns true; each argument reads behind the call as it read before'; 0 by the template 'total and deterministic' (their statements: YtnaipddflhjmfaaGreatTotals.lean).
  GIVEN WITH THE SEED: the statements are not yours to turn. If you find one false, say at which input.
  Laid BY PROGRAM, IN A SANDBOX (cutbox-rows.mjs): the forced cells as the released guide's own fill.sh prints them over the translation cc2d3e62be4f2bbb… (all of the seat's roots in one cut). By AI agents, Wed Nov 11 2026. No macro, syntax, notation, axiom, sorry.
-/
import Derived.Test.YtnaipddflhjmfaaGreatChecked
import GoSem.Claim
import GoSem.ClaimJoined
import GoSem.ClaimMapViews
import Derived.JoinedTies
import Derived.KernelRfl
namespace Go.Proofs.YtnaipddflhjmfaaGreat
/- THE CELL 'sum', in the pinned program and in every row, IS THE sha256 OF THE DUMP (.gsa) THAT YtnaipddflhjmfaaGreatProg.lean LOADS. Nothing in Lean hashes anything: it is a label: what it is worth is what the hold of that sum in a sandbox is worth. -/
noncomputable def Tryz.pinned : Pinned := { name := "ytnaipddflhjmfaagreat", sum := "cc2d3e62be4f2bbbd34b1ec0919d38c9949bfac72f51bbfa1b11050a764093cc", checked := Tryz.checked }
namespace Rows
def none {H : Type} : Left H := { results := [], args := [] }

/-- 'laws.FnExactFormatFS': WHATEVER THE INPUT: true; the input reads as it did. -/
def fnExactFormatFSSpec : ChangeSpec := { name := "fnExactFormatFS", fn := fun _ => fun
  | [d] => { results := [.lit (.bool true)], args := [d] }
  | _ => none }
def fnExactFormatFSRow : OpenClaim := { program := "ytnaipddflhjmfaagreat", sum := "cc2d3e62be4f2bbbd34b1ec0919d38c9949bfac72f51bbfa1b11050a764093cc", func := "loop.example/g00817/laws.FnExactFormatFS", spec := "fnExactFormatFS", inPlace := ["internal/abi.NoEscape", "internal/bytealg.MakeNoZero"], apart := false }
def FnExactFormatFSSaid : Prop := fnExactFormatFSRow.holds Tryz.pinned (OpenSpec.ofChange fnExactFormatFSSpec)

/-- ITS FALSE NEIGHBOUR: 'it returns false'. Refute it at one input. -/
def fnExactFormatFSWrong : ChangeSpec := { name := "fnExactFormatFS", fn := fun _ => fun
  | [d] => { results := [.lit (.bool false)], args := [d] }
  | _ => none }
def FnExactFormatFSWrongFalsely : Prop := fnExactFormatFSRow.holds Tryz.pinned (OpenSpec.ofChange fnExactFormatFSWrong)

/-- 'laws.FnStart': WHATEVER THE INPUT: true; the input reads as it did. -/
def fnStartSpec : ChangeSpec := { name := "fnStart", fn := fun _ => fun
  | [d] => { results := [.lit (.bool true)], args := [d] }
  | _ => none }
def fnStartRow : OpenClaim := { program := "ytnaipddflhjmfaagreat", sum := "cc2d3e62be4f2bbbd34b1ec0919d38c9949bfac72f51bbfa1b11050a764093cc", func := "loop.example/g00817/laws.FnStart", spec := "fnStart", inPlace := ["internal/abi.NoEscape", "internal/bytealg.MakeNoZero"], unfollowed := true, recurses := true, apart := false }
def FnStartSaid : Prop := fnStartRow.holds Tryz.pinned (OpenSpec.ofChange fnStartSpec)

/-- ITS FALSE NEIGHBOUR: 'it returns false'. Refute it at one input. -/
def fnStartWrong : ChangeSpec := { name := "fnStart", fn := fun _ => fun
  | [d] => { results := [.lit (.bool false)], args := [d] }
  | _ => none }
def FnStartWrongFalsely : Prop := fnStartRow.holds Tryz.pinned (OpenSpec.ofChange fnStartWrong)

/-- 'laws.FnExactLoadFS': WHATEVER THE INPUT: true; the input reads as it did. -/
def fnExactLoadFSSpec : ChangeSpec := { name := "fnExactLoadFS", fn := fun _ => fun
  | [d] => { results := [.lit (.bool true)], args := [d] }
  | _ => none }
def fnExactLoadFSRow : OpenClaim := { program := "ytnaipddflhjmfaagreat", sum := "cc2d3e62be4f2bbbd34b1ec0919d38c9949bfac72f51bbfa1b11050a764093cc", func := "loop.example/g00817/laws.FnExactLoadFS", spec := "fnExactLoadFS", inPlace := ["internal/abi.NoEscape", "internal/bytealg.MakeNoZero"], unfollowed := true, recurses := true, apart := false }
def FnExactLoadFSSaid : Prop := fnExactLoadFSRow.holds Tryz.pinned (OpenSpec.ofChange fnExactLoadFSSpec)

/-- ITS FALSE NEIGHBOUR: 'it returns false'. Refute it at one input. -/
def fnExactLoadFSWrong : ChangeSpec := { name := "fnExactLoadFS", fn := fun _ => fun
  | [d] => { results := [.lit (.bool false)], args := [d] }
  | _ => none }
def FnExactLoadFSWrongFalsely : Prop := fnExactLoadFSRow.holds Tryz.pinned (OpenSpec.ofChange fnExactLoadFSWrong)

/- THE SECOND FORM. 'bulk': how many values and letters a reading holds, each counted each time it is reached (what is shared counts as often as it is met; a slice's spare places count too). A statement '..UptoSaid' is the law's where the arguments, and the package variables that the reading takes, are together of bulk at most 1048576: NARROWER than '..Said'. Prove '..Said' where nothing that the law and all that it calls make is longer than what came in: it says more and counts as full. Else prove '..UptoSaid'. A law counts once. -/
mutual
def uptoBulk {H : Type} : DataW H → Nat
  | .lit (.string bytes) => bytes.length + 1
  | .lit _ => 1
  | .nil => 1
  | .ptr d => uptoBulk d + 1
  | .slice elems spare => uptoBulkAll elems + uptoBulkAll spare + 1
  | .agg parts => uptoBulkAll parts + 1
  | .iface _ d => uptoBulk d + 1
  | .map entries => uptoBulkEntries entries + 1
  | .held _ => 1
def uptoBulkAll {H : Type} : List (DataW H) → Nat
  | [] => 0
  | d :: r => uptoBulk d + uptoBulkAll r
def uptoBulkEntries {H : Type} : List (Lit × DataW H) → Nat
  | [] => 0
  | x :: r => uptoBulkEntry x + uptoBulkEntries r
def uptoBulkEntry {H : Type} : Lit × DataW H → Nat
  | (.string bytes, d) => bytes.length + uptoBulk d + 1
  | (_, d) => uptoBulk d + 1
 end
def uptoSmall : (H : Type) → List (DataW H) → Bool := fun _ ds => decide (uptoBulkAll ds ≤ 1048576)
def OpenSpec.upto (s : _root_.Go.ChangeSpec) : _root_.Go.OpenSpec := { _root_.Go.OpenSpec.ofChange s with cond := some uptoSmall }

/-- 'laws.FnExactFormatFS', WHERE WHAT IT READS IS OF BULK AT MOST 1048576: true; the input reads as it did. -/
def fnExactFormatFSUptoRow : OpenClaim := { program := "ytnaipddflhjmfaagreat", sum := "cc2d3e62be4f2bbbd34b1ec0919d38c9949bfac72f51bbfa1b11050a764093cc", func := "loop.example/g00817/laws.FnExactFormatFS", spec := "fnExactFormatFS", inPlace := ["internal/abi.NoEscape", "internal/bytealg.MakeNoZero"], apart := false, narrowed := true }
def FnExactFormatFSUptoSaid : Prop := fnExactFormatFSUptoRow.holds Tryz.pinned (OpenSpec.upto fnExactFormatFSSpec)

/-- 'laws.FnStart', WHERE WHAT IT READS IS OF BULK AT MOST 1048576: true; the input reads as it did. -/
def fnStartUptoRow : OpenClaim := { program := "ytnaipddflhjmfaagreat", sum := "cc2d3e62be4f2bbbd34b1ec0919d38c9949bfac72f51bbfa1b11050a764093cc", func := "loop.example/g00817/laws.FnStart", spec := "fnStart", inPlace := ["internal/abi.NoEscape", "internal/bytealg.MakeNoZero"], unfollowed := true, recurses := true, apart := false, narrowed := true }
def FnStartUptoSaid : Prop := fnStartUptoRow.holds Tryz.pinned (OpenSpec.upto fnStartSpec)

/-- 'laws.FnExactLoadFS', WHERE WHAT IT READS IS OF BULK AT MOST 1048576: true; the input reads as it did. -/
def fnExactLoadFSUptoRow : OpenClaim := { program := "ytnaipddflhjmfaagreat", sum := "cc2d3e62be4f2bbbd34b1ec0919d38c9949bfac72f51bbfa1b11050a764093cc", func := "loop.example/g00817/laws.FnExactLoadFS", spec := "fnExactLoadFS", inPlace := ["internal/abi.NoEscape", "internal/bytealg.MakeNoZero"], unfollowed := true, recurses := true, apart := false, narrowed := true }
def FnExactLoadFSUptoSaid : Prop := fnExactLoadFSUptoRow.holds Tryz.pinned (OpenSpec.upto fnExactLoadFSSpec)

end Rows
end Go.Proofs.YtnaipddflhjmfaaGreat
