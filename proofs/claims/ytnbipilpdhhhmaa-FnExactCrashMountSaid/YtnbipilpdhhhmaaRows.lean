/-
  No cell of these rows narrows 'for every input' (looked for: loops, veiled, ifaces, maps, wideKeys, modest, calm, conditions, laid).
  DERIVED. THE GIVEN ROWS OF THIS SEAT. 4 by the template 'for every input the law returns true; each argument reads behind the call as it read before'; 0 by the template 'total and deterministic' (their statements: YtnbipilpdhhhmaaTotals.lean).
  GIVEN WITH THE SEED: the statements are not yours to turn. If you find one false, say at which input.
  Laid BY PROGRAM, IN A SANDBOX (cutbox-rows.mjs): the forced cells as the released guide's own fill.sh prints them over the translation ecddbd29914bc772… (all of the seat's roots in one cut). By AI agents, Wed Nov 11 2026. No macro, syntax, notation, axiom, sorry.
-/
import Derived.Test.YtnbipilpdhhhmaaChecked
import GoSem.Claim
import GoSem.ClaimJoined
import GoSem.ClaimMapViews
import Derived.JoinedTies
import Derived.KernelRfl
namespace Go.Proofs.Ytnbipilpdhhhmaa
/- THE CELL 'sum', in the pinned program and in every row, IS THE sha256 OF THE DUMP (.gsa) THAT YtnbipilpdhhhmaaProg.lean LOADS. Nothing in Lean hashes anything: it is a label: what it is worth is what the hold of that sum in a sandbox is worth. -/
noncomputable def Try.pinned : Pinned := { name := "ytnbipilpdhhhmaa", sum := "ecddbd29914bc77267121192fcb22b8649b604364dcb8c43a2d3dfc020e76013", checked := Try.checked }
namespace Rows
def none {H : Type} : Left H := { results := [], args := [] }

/-- 'laws.FnPools': WHATEVER THE INPUT: true; the input reads as it did. -/
def fnPoolsSpec : ChangeSpec := { name := "fnPools", fn := fun _ => fun
  | [d] => { results := [.lit (.bool true)], args := [d] }
  | _ => none }
def fnPoolsRow : OpenClaim := { program := "ytnbipilpdhhhmaa", sum := "ecddbd29914bc77267121192fcb22b8649b604364dcb8c43a2d3dfc020e76013", func := "loop.example/g00817/laws.FnPools", spec := "fnPools", apart := false }
def FnPoolsSaid : Prop := fnPoolsRow.holds Try.pinned (OpenSpec.ofChange fnPoolsSpec)

/-- ITS FALSE NEIGHBOUR: 'it returns false'. Refute it at one input. -/
def fnPoolsWrong : ChangeSpec := { name := "fnPools", fn := fun _ => fun
  | [d] => { results := [.lit (.bool false)], args := [d] }
  | _ => none }
def FnPoolsWrongFalsely : Prop := fnPoolsRow.holds Try.pinned (OpenSpec.ofChange fnPoolsWrong)

/-- 'laws.FnExactPoolOf': WHATEVER THE INPUT: true; the input reads as it did. -/
def fnExactPoolOfSpec : ChangeSpec := { name := "fnExactPoolOf", fn := fun _ => fun
  | [d1, d2] => { results := [.lit (.bool true)], args := [d1, d2] }
  | _ => none }
def fnExactPoolOfRow : OpenClaim := { program := "ytnbipilpdhhhmaa", sum := "ecddbd29914bc77267121192fcb22b8649b604364dcb8c43a2d3dfc020e76013", func := "loop.example/g00817/laws.FnExactPoolOf", spec := "fnExactPoolOf", apart := false }
def FnExactPoolOfSaid : Prop := fnExactPoolOfRow.holds Try.pinned (OpenSpec.ofChange fnExactPoolOfSpec)

/-- ITS FALSE NEIGHBOUR: 'it returns false'. Refute it at one input. -/
def fnExactPoolOfWrong : ChangeSpec := { name := "fnExactPoolOf", fn := fun _ => fun
  | [d1, d2] => { results := [.lit (.bool false)], args := [d1, d2] }
  | _ => none }
def FnExactPoolOfWrongFalsely : Prop := fnExactPoolOfRow.holds Try.pinned (OpenSpec.ofChange fnExactPoolOfWrong)

/-- 'laws.FnExactCrashMount': WHATEVER THE INPUT: true; the input reads as it did. -/
def fnExactCrashMountSpec : ChangeSpec := { name := "fnExactCrashMount", fn := fun _ => fun
  | [d1, d2, d3] => { results := [.lit (.bool true)], args := [d1, d2, d3] }
  | _ => none }
def fnExactCrashMountRow : OpenClaim := { program := "ytnbipilpdhhhmaa", sum := "ecddbd29914bc77267121192fcb22b8649b604364dcb8c43a2d3dfc020e76013", func := "loop.example/g00817/laws.FnExactCrashMount", spec := "fnExactCrashMount", inPlace := ["internal/abi.NoEscape", "internal/bytealg.MakeNoZero"], unfollowed := true, recurses := true, apart := false }
def FnExactCrashMountSaid : Prop := fnExactCrashMountRow.holds Try.pinned (OpenSpec.ofChange fnExactCrashMountSpec)

/-- ITS FALSE NEIGHBOUR: 'it returns false'. Refute it at one input. -/
def fnExactCrashMountWrong : ChangeSpec := { name := "fnExactCrashMount", fn := fun _ => fun
  | [d1, d2, d3] => { results := [.lit (.bool false)], args := [d1, d2, d3] }
  | _ => none }
def FnExactCrashMountWrongFalsely : Prop := fnExactCrashMountRow.holds Try.pinned (OpenSpec.ofChange fnExactCrashMountWrong)

/-- 'laws.FnExactSuperText': WHATEVER THE INPUT: true; the input reads as it did. -/
def fnExactSuperTextSpec : ChangeSpec := { name := "fnExactSuperText", fn := fun _ => fun
  | [d] => { results := [.lit (.bool true)], args := [d] }
  | _ => none }
def fnExactSuperTextRow : OpenClaim := { program := "ytnbipilpdhhhmaa", sum := "ecddbd29914bc77267121192fcb22b8649b604364dcb8c43a2d3dfc020e76013", func := "loop.example/g00817/laws.FnExactSuperText", spec := "fnExactSuperText", inPlace := ["internal/abi.NoEscape", "internal/bytealg.MakeNoZero"], apart := false }
def FnExactSuperTextSaid : Prop := fnExactSuperTextRow.holds Try.pinned (OpenSpec.ofChange fnExactSuperTextSpec)

/-- ITS FALSE NEIGHBOUR: 'it returns false'. Refute it at one input. -/
def fnExactSuperTextWrong : ChangeSpec := { name := "fnExactSuperText", fn := fun _ => fun
  | [d] => { results := [.lit (.bool false)], args := [d] }
  | _ => none }
def FnExactSuperTextWrongFalsely : Prop := fnExactSuperTextRow.holds Try.pinned (OpenSpec.ofChange fnExactSuperTextWrong)

/- THE SECOND FORM. 'bulk': how many values and letters a reading holds, each counted each time it is reached (what is shared counts as often as it is met; a slice's spare places count too). A statement '..UptoSaid' is the law's where the arguments, and the package variables that the reading takes, are together of bulk at most 1048576: NARROWER than '..Said'. Prove '..Said' where nothing that the law and all that it calls make is longer than what came in: it says more and counts as full. Else prove '..UptoSaid'. A law counts once. -/
mutual
def uptoBulk {H : Type} : DataW H → Nat
  | .lit (.string bytes) => bytes.length + 1
  | .lit _ => 1
  | .nil => 1
  | .ptr d => uptoBulk d + 1
  | .slice elems spare => uptoBulkAll elems + uptoBulkAll spare + 1
  | .agg parts => uptoBulkAll parts + 1
  | .iface _ d => uptoBulk d + 1
  | .map entries => uptoBulkEntries entries + 1
  | .held _ => 1
def uptoBulkAll {H : Type} : List (DataW H) → Nat
  | [] => 0
  | d :: r => uptoBulk d + uptoBulkAll r
def uptoBulkEntries {H : Type} : List (Lit × DataW H) → Nat
  | [] => 0
  | x :: r => uptoBulkEntry x + uptoBulkEntries r
def uptoBulkEntry {H : Type} : Lit × DataW H → Nat
  | (.string bytes, d) => bytes.length + uptoBulk d + 1
  | (_, d) => uptoBulk d + 1
 end
def uptoSmall : (H : Type) → List (DataW H) → Bool := fun _ ds => decide (uptoBulkAll ds ≤ 1048576)
def OpenSpec.upto (s : _root_.Go.ChangeSpec) : _root_.Go.OpenSpec := { _root_.Go.OpenSpec.ofChange s with cond := some uptoSmall }

/-- 'laws.FnPools', WHERE WHAT IT READS IS OF BULK AT MOST 1048576: true; the input reads as it did. -/
def fnPoolsUptoRow : OpenClaim := { program := "ytnbipilpdhhhmaa", sum := "ecddbd29914bc77267121192fcb22b8649b604364dcb8c43a2d3dfc020e76013", func := "loop.example/g00817/laws.FnPools", spec := "fnPools", apart := false, narrowed := true }
def FnPoolsUptoSaid : Prop := fnPoolsUptoRow.holds Try.pinned (OpenSpec.upto fnPoolsSpec)

/-- 'laws.FnExactPoolOf', WHERE WHAT IT READS IS OF BULK AT MOST 1048576: true; the input reads as it did. -/
def fnExactPoolOfUptoRow : OpenClaim := { program := "ytnbipilpdhhhmaa", sum := "ecddbd29914bc77267121192fcb22b8649b604364dcb8c43a2d3dfc020e76013", func := "loop.example/g00817/laws.FnExactPoolOf", spec := "fnExactPoolOf", apart := false, narrowed := true }
def FnExactPoolOfUptoSaid : Prop := fnExactPoolOfUptoRow.holds Try.pinned (OpenSpec.upto fnExactPoolOfSpec)

/-- 'laws.FnExactCrashMount', WHERE WHAT IT READS IS OF BULK AT MOST 1048576: true; the input reads as it did. -/
def fnExactCrashMountUptoRow : OpenClaim := { program := "ytnbipilpdhhhmaa", sum := "ecddbd29914bc77267121192fcb22b8649b604364dcb8c43a2d3dfc020e76013", func := "loop.example/g00817/laws.FnExactCrashMount", spec := "fnExactCrashMount", inPlace := ["internal/abi.NoEscape", "internal/bytealg.MakeNoZero"], unfollowed := true, recurses := true, apart := false, narrowed := true }
def FnExactCrashMountUptoSaid : Prop := fnExactCrashMountUptoRow.holds Try.pinned (OpenSpec.upto fnExactCrashMountSpec)

/-- 'laws.FnExactSuperText', WHERE WHAT IT READS IS OF BULK AT MOST 1048576: true; the input reads as it did. -/
def fnExactSuperTextUptoRow : OpenClaim := { program := "ytnbipilpdhhhmaa", sum := "ecddbd29914bc77267121192fcb22b8649b604364dcb8c43a2d3dfc020e76013", func := "loop.example/g00817/laws.FnExactSuperText", spec := "fnExactSuperText", inPlace := ["internal/abi.NoEscape", "internal/bytealg.MakeNoZero"], apart := false, narrowed := true }
def FnExactSuperTextUptoSaid : Prop := fnExactSuperTextUptoRow.holds Try.pinned (OpenSpec.upto fnExactSuperTextSpec)

end Rows
end Go.Proofs.Ytnbipilpdhhhmaa
