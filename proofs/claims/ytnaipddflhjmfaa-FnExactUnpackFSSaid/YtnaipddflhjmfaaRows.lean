/-
  No cell of these rows narrows 'for every input' (looked for: loops, veiled, ifaces, maps, wideKeys, modest, calm, conditions, laid).
  DERIVED. THE GIVEN ROWS OF THIS SEAT. 3 by the template 'for every input the law returns true; each argument reads behind the call as it read before'; 0 by the template 'total and deterministic' (their statements: YtnaipddflhjmfaaTotals.lean).
  GIVEN WITH THE SEED: the statements are not yours to turn. If you find one false, say at which input.
  Laid BY PROGRAM, IN A SANDBOX (cutbox-rows.mjs): the forced cells as the released guide's own fill.sh prints them over the translation 8169ef324ad92935… (all of the seat's roots in one cut). By AI agents, Wed Nov 11 2026. No macro, syntax, notation, axiom, sorry.
-/
import Derived.Test.YtnaipddflhjmfaaChecked
import GoSem.Claim
import GoSem.ClaimJoined
import GoSem.ClaimMapViews
import Derived.JoinedTies
import Derived.KernelRfl
namespace Go.Proofs.Ytnaipddflhjmfaa
/- THE CELL 'sum', in the pinned program and in every row, IS THE sha256 OF THE DUMP (.gsa) THAT YtnaipddflhjmfaaProg.lean LOADS. Nothing in Lean hashes anything: it is a label: what it is worth is what the hold of that sum in a sandbox is worth. -/
noncomputable def Try.pinned : Pinned := { name := "ytnaipddflhjmfaa", sum := "8169ef324ad92935836e4a9a9f9ee5f41c0d9b3e7356c9916a09f761c3582707", checked := Try.checked }
namespace Rows
def none {H : Type} : Left H := { results := [], args := [] }

/-- 'laws.FnPools': WHATEVER THE INPUT: true; the input reads as it did. -/
def fnPoolsSpec : ChangeSpec := { name := "fnPools", fn := fun _ => fun
  | [d] => { results := [.lit (.bool true)], args := [d] }
  | _ => none }
def fnPoolsRow : OpenClaim := { program := "ytnaipddflhjmfaa", sum := "8169ef324ad92935836e4a9a9f9ee5f41c0d9b3e7356c9916a09f761c3582707", func := "loop.example/g00817/laws.FnPools", spec := "fnPools", apart := false }
def FnPoolsSaid : Prop := fnPoolsRow.holds Try.pinned (OpenSpec.ofChange fnPoolsSpec)

/-- ITS FALSE NEIGHBOUR: 'it returns false'. Refute it at one input. -/
def fnPoolsWrong : ChangeSpec := { name := "fnPools", fn := fun _ => fun
  | [d] => { results := [.lit (.bool false)], args := [d] }
  | _ => none }
def FnPoolsWrongFalsely : Prop := fnPoolsRow.holds Try.pinned (OpenSpec.ofChange fnPoolsWrong)

/-- 'laws.FnExactPackFS': WHATEVER THE INPUT: true; the input reads as it did. -/
def fnExactPackFSSpec : ChangeSpec := { name := "fnExactPackFS", fn := fun _ => fun
  | [d] => { results := [.lit (.bool true)], args := [d] }
  | _ => none }
def fnExactPackFSRow : OpenClaim := { program := "ytnaipddflhjmfaa", sum := "8169ef324ad92935836e4a9a9f9ee5f41c0d9b3e7356c9916a09f761c3582707", func := "loop.example/g00817/laws.FnExactPackFS", spec := "fnExactPackFS", inPlace := ["internal/abi.NoEscape", "internal/bytealg.MakeNoZero"], apart := false }
def FnExactPackFSSaid : Prop := fnExactPackFSRow.holds Try.pinned (OpenSpec.ofChange fnExactPackFSSpec)

/-- ITS FALSE NEIGHBOUR: 'it returns false'. Refute it at one input. -/
def fnExactPackFSWrong : ChangeSpec := { name := "fnExactPackFS", fn := fun _ => fun
  | [d] => { results := [.lit (.bool false)], args := [d] }
  | _ => none }
def FnExactPackFSWrongFalsely : Prop := fnExactPackFSRow.holds Try.pinned (OpenSpec.ofChange fnExactPackFSWrong)

/-- 'laws.FnExactUnpackFS': WHATEVER THE INPUT: true; the input reads as it did. -/
def fnExactUnpackFSSpec : ChangeSpec := { name := "fnExactUnpackFS", fn := fun _ => fun
  | [d] => { results := [.lit (.bool true)], args := [d] }
  | _ => none }
def fnExactUnpackFSRow : OpenClaim := { program := "ytnaipddflhjmfaa", sum := "8169ef324ad92935836e4a9a9f9ee5f41c0d9b3e7356c9916a09f761c3582707", func := "loop.example/g00817/laws.FnExactUnpackFS", spec := "fnExactUnpackFS", inPlace := ["internal/abi.NoEscape", "internal/bytealg.MakeNoZero"], unfollowed := true, recurses := true, apart := false }
def FnExactUnpackFSSaid : Prop := fnExactUnpackFSRow.holds Try.pinned (OpenSpec.ofChange fnExactUnpackFSSpec)

/-- ITS FALSE NEIGHBOUR: 'it returns false'. Refute it at one input. -/
def fnExactUnpackFSWrong : ChangeSpec := { name := "fnExactUnpackFS", fn := fun _ => fun
  | [d] => { results := [.lit (.bool false)], args := [d] }
  | _ => none }
def FnExactUnpackFSWrongFalsely : Prop := fnExactUnpackFSRow.holds Try.pinned (OpenSpec.ofChange fnExactUnpackFSWrong)

/- THE SECOND FORM. 'bulk': how many values and letters a reading holds, each counted each time it is reached (what is shared counts as often as it is met; a slice's spare places count too). A statement '..UptoSaid' is the law's where the arguments, and the package variables that the reading takes, are together of bulk at most 1048576: NARROWER than '..Said'. Prove '..Said' where nothing that the law and all that it calls make is longer than what came in: it says more and counts as full. Else prove '..UptoSaid'. A law counts once. -/
mutual
def uptoBulk {H : Type} : DataW H → Nat
  | .lit (.string bytes) => bytes.length + 1
  | .lit _ => 1
  | .nil => 1
  | .ptr d => uptoBulk d + 1
  | .slice elems spare => uptoBulkAll elems + uptoBulkAll spare + 1
  | .agg parts => uptoBulkAll parts + 1
  | .iface _ d => uptoBulk d + 1
  | .map entries => uptoBulkEntries entries + 1
  | .held _ => 1
def uptoBulkAll {H : Type} : List (DataW H) → Nat
  | [] => 0
  | d :: r => uptoBulk d + uptoBulkAll r
def uptoBulkEntries {H : Type} : List (Lit × DataW H) → Nat
  | [] => 0
  | x :: r => uptoBulkEntry x + uptoBulkEntries r
def uptoBulkEntry {H : Type} : Lit × DataW H → Nat
  | (.string bytes, d) => bytes.length + uptoBulk d + 1
  | (_, d) => uptoBulk d + 1
 end
def uptoSmall : (H : Type) → List (DataW H) → Bool := fun _ ds => decide (uptoBulkAll ds ≤ 1048576)
def OpenSpec.upto (s : _root_.Go.ChangeSpec) : _root_.Go.OpenSpec := { _root_.Go.OpenSpec.ofChange s with cond := some uptoSmall }

/-- 'laws.FnPools', WHERE WHAT IT READS IS OF BULK AT MOST 1048576: true; the input reads as it did. -/
def fnPoolsUptoRow : OpenClaim := { program := "ytnaipddflhjmfaa", sum := "8169ef324ad92935836e4a9a9f9ee5f41c0d9b3e7356c9916a09f761c3582707", func := "loop.example/g00817/laws.FnPools", spec := "fnPools", apart := false, narrowed := true }
def FnPoolsUptoSaid : Prop := fnPoolsUptoRow.holds Try.pinned (OpenSpec.upto fnPoolsSpec)

/-- 'laws.FnExactPackFS', WHERE WHAT IT READS IS OF BULK AT MOST 1048576: true; the input reads as it did. -/
def fnExactPackFSUptoRow : OpenClaim := { program := "ytnaipddflhjmfaa", sum := "8169ef324ad92935836e4a9a9f9ee5f41c0d9b3e7356c9916a09f761c3582707", func := "loop.example/g00817/laws.FnExactPackFS", spec := "fnExactPackFS", inPlace := ["internal/abi.NoEscape", "internal/bytealg.MakeNoZero"], apart := false, narrowed := true }
def FnExactPackFSUptoSaid : Prop := fnExactPackFSUptoRow.holds Try.pinned (OpenSpec.upto fnExactPackFSSpec)

/-- 'laws.FnExactUnpackFS', WHERE WHAT IT READS IS OF BULK AT MOST 1048576: true; the input reads as it did. -/
def fnExactUnpackFSUptoRow : OpenClaim := { program := "ytnaipddflhjmfaa", sum := "8169ef324ad92935836e4a9a9f9ee5f41c0d9b3e7356c9916a09f761c3582707", func := "loop.example/g00817/laws.FnExactUnpackFS", spec := "fnExactUnpackFS", inPlace := ["internal/abi.NoEscape", "internal/bytealg.MakeNoZero"], unfollowed := true, recurses := true, apart := false, narrowed := true }
def FnExactUnpackFSUptoSaid : Prop := fnExactUnpackFSUptoRow.holds Try.pinned (OpenSpec.upto fnExactUnpackFSSpec)

end Rows
end Go.Proofs.Ytnaipddflhjmfaa
