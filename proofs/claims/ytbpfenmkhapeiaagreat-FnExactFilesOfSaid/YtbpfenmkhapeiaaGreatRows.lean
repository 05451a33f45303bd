/-
  No cell of these rows narrows 'for every input' (looked for: loops, veiled, ifaces, maps, wideKeys, modest, calm, conditions, laid).
  DERIVED. THE GIVEN ROWS OF THIS SEAT. 6 by the template 'for every input the law returns true; each argument reads behind the call as it read before'; 0 by the template 'total and deterministic' (their statements: YtbpfenmkhapeiaaGreatTotals.lean).
  GIVEN WITH THE SEED: the statements are not yours to turn. If you find one false, say at which input.
  Laid BY PROGRAM, IN A SANDBOX (cutbox-rows.mjs): the forced cells as the released guide's own fill.sh prints them over the translation a743f1d7dcf1c187… (all of the seat's roots in one cut). By AI agents, Wed Nov 11 2026. No macro, syntax, notation, axiom, sorry.
-/
import Derived.Test.YtbpfenmkhapeiaaGreatChecked
import GoSem.Claim
import GoSem.ClaimJoined
import GoSem.ClaimMapViews
import Derived.JoinedTies
import Derived.KernelRfl
namespace Go.Proofs.YtbpfenmkhapeiaaGreat
/- THE CELL 'sum', in the pinned program and in every row, IS THE sha256 OF THE DUMP (.gsa) THAT YtbpfenmkhapeiaaGreatProg.lean LOADS. Nothing in Lean hashes anything: it is a label: what it is worth is what the hold of that sum in a sandbox is worth. -/
noncomputable def Tryz.pinned : Pinned := { name := "ytbpfenmkhapeiaagreat", sum := "a743f1d7dcf1c18738d809a92ab97ed01aa4cdd68b74e3224e41441ab3080b2d", checked := Tryz.checked }
namespace Rows
def none {H : Type} : Left H := { results := [], args := [] }

/-- 'laws.FnExactFixLinks': WHATEVER THE INPUT: true; the input reads as it did. -/
def fnExactFixLinksSpec : ChangeSpec := { name := "fnExactFixLinks", fn := fun _ => fun
  | [d] => { results := [.lit (.bool true)], args := [d] }
  | _ => none }
def fnExactFixLinksRow : OpenClaim := { program := "ytbpfenmkhapeiaagreat", sum := "a743f1d7dcf1c18738d809a92ab97ed01aa4cdd68b74e3224e41441ab3080b2d", func := "loop.example/g00817/laws.FnExactFixLinks", spec := "fnExactFixLinks", inPlace := ["internal/bytealg.IndexByteString", "internal/bytealg.IndexString", "internal/abi.NoEscape", "internal/bytealg.MakeNoZero"], named := ["internal/bytealg.MaxLen"], apart := false }
def FnExactFixLinksSaid : Prop := fnExactFixLinksRow.holds Tryz.pinned (OpenSpec.ofChange fnExactFixLinksSpec)

/-- ITS FALSE NEIGHBOUR: 'it returns false'. Refute it at one input. -/
def fnExactFixLinksWrong : ChangeSpec := { name := "fnExactFixLinks", fn := fun _ => fun
  | [d] => { results := [.lit (.bool false)], args := [d] }
  | _ => none }
def FnExactFixLinksWrongFalsely : Prop := fnExactFixLinksRow.holds Tryz.pinned (OpenSpec.ofChange fnExactFixLinksWrong)

/-- 'laws.FnExactVisibleInodes': WHATEVER THE INPUT: true; the input reads as it did. -/
def fnExactVisibleInodesSpec : ChangeSpec := { name := "fnExactVisibleInodes", fn := fun _ => fun
  | [d1, d2] => { results := [.lit (.bool true)], args := [d1, d2] }
  | _ => none }
def fnExactVisibleInodesRow : OpenClaim := { program := "ytbpfenmkhapeiaagreat", sum := "a743f1d7dcf1c18738d809a92ab97ed01aa4cdd68b74e3224e41441ab3080b2d", func := "loop.example/g00817/laws.FnExactVisibleInodes", spec := "fnExactVisibleInodes", inPlace := ["internal/bytealg.IndexByteString", "internal/bytealg.IndexString", "internal/abi.NoEscape", "internal/bytealg.MakeNoZero"], unfollowed := true, recurses := true, named := ["internal/bytealg.MaxLen"], apart := false }
def FnExactVisibleInodesSaid : Prop := fnExactVisibleInodesRow.holds Tryz.pinned (OpenSpec.ofChange fnExactVisibleInodesSpec)

/-- ITS FALSE NEIGHBOUR: 'it returns false'. Refute it at one input. -/
def fnExactVisibleInodesWrong : ChangeSpec := { name := "fnExactVisibleInodes", fn := fun _ => fun
  | [d1, d2] => { results := [.lit (.bool false)], args := [d1, d2] }
  | _ => none }
def FnExactVisibleInodesWrongFalsely : Prop := fnExactVisibleInodesRow.holds Tryz.pinned (OpenSpec.ofChange fnExactVisibleInodesWrong)

/-- 'laws.FnExactIsSound': WHATEVER THE INPUT: true; the input reads as it did. -/
def fnExactIsSoundSpec : ChangeSpec := { name := "fnExactIsSound", fn := fun _ => fun
  | [d] => { results := [.lit (.bool true)], args := [d] }
  | _ => none }
def fnExactIsSoundRow : OpenClaim := { program := "ytbpfenmkhapeiaagreat", sum := "a743f1d7dcf1c18738d809a92ab97ed01aa4cdd68b74e3224e41441ab3080b2d", func := "loop.example/g00817/laws.FnExactIsSound", spec := "fnExactIsSound", inPlace := ["internal/bytealg.IndexByteString", "internal/bytealg.IndexString", "internal/abi.NoEscape", "internal/bytealg.MakeNoZero"], unfollowed := true, recurses := true, named := ["internal/bytealg.MaxLen"], apart := false }
def FnExactIsSoundSaid : Prop := fnExactIsSoundRow.holds Tryz.pinned (OpenSpec.ofChange fnExactIsSoundSpec)

/-- ITS FALSE NEIGHBOUR: 'it returns false'. Refute it at one input. -/
def fnExactIsSoundWrong : ChangeSpec := { name := "fnExactIsSound", fn := fun _ => fun
  | [d] => { results := [.lit (.bool false)], args := [d] }
  | _ => none }
def FnExactIsSoundWrongFalsely : Prop := fnExactIsSoundRow.holds Tryz.pinned (OpenSpec.ofChange fnExactIsSoundWrong)

/-- 'laws.FnExactFixEntries': WHATEVER THE INPUT: true; the input reads as it did. -/
def fnExactFixEntriesSpec : ChangeSpec := { name := "fnExactFixEntries", fn := fun _ => fun
  | [d] => { results := [.lit (.bool true)], args := [d] }
  | _ => none }
def fnExactFixEntriesRow : OpenClaim := { program := "ytbpfenmkhapeiaagreat", sum := "a743f1d7dcf1c18738d809a92ab97ed01aa4cdd68b74e3224e41441ab3080b2d", func := "loop.example/g00817/laws.FnExactFixEntries", spec := "fnExactFixEntries", inPlace := ["internal/bytealg.IndexByteString", "internal/bytealg.IndexString", "internal/abi.NoEscape", "internal/bytealg.MakeNoZero"], named := ["internal/bytealg.MaxLen"], apart := false }
def FnExactFixEntriesSaid : Prop := fnExactFixEntriesRow.holds Tryz.pinned (OpenSpec.ofChange fnExactFixEntriesSpec)

/-- ITS FALSE NEIGHBOUR: 'it returns false'. Refute it at one input. -/
def fnExactFixEntriesWrong : ChangeSpec := { name := "fnExactFixEntries", fn := fun _ => fun
  | [d] => { results := [.lit (.bool false)], args := [d] }
  | _ => none }
def FnExactFixEntriesWrongFalsely : Prop := fnExactFixEntriesRow.holds Tryz.pinned (OpenSpec.ofChange fnExactFixEntriesWrong)

/-- 'laws.FnExactCheckFS': WHATEVER THE INPUT: true; the input reads as it did. -/
def fnExactCheckFSSpec : ChangeSpec := { name := "fnExactCheckFS", fn := fun _ => fun
  | [d] => { results := [.lit (.bool true)], args := [d] }
  | _ => none }
def fnExactCheckFSRow : OpenClaim := { program := "ytbpfenmkhapeiaagreat", sum := "a743f1d7dcf1c18738d809a92ab97ed01aa4cdd68b74e3224e41441ab3080b2d", func := "loop.example/g00817/laws.FnExactCheckFS", spec := "fnExactCheckFS", inPlace := ["internal/bytealg.IndexByteString", "internal/bytealg.IndexString", "internal/abi.NoEscape", "internal/bytealg.MakeNoZero"], unfollowed := true, recurses := true, named := ["internal/bytealg.MaxLen"], apart := false }
def FnExactCheckFSSaid : Prop := fnExactCheckFSRow.holds Tryz.pinned (OpenSpec.ofChange fnExactCheckFSSpec)

/-- ITS FALSE NEIGHBOUR: 'it returns false'. Refute it at one input. -/
def fnExactCheckFSWrong : ChangeSpec := { name := "fnExactCheckFS", fn := fun _ => fun
  | [d] => { results := [.lit (.bool false)], args := [d] }
  | _ => none }
def FnExactCheckFSWrongFalsely : Prop := fnExactCheckFSRow.holds Tryz.pinned (OpenSpec.ofChange fnExactCheckFSWrong)

/-- 'laws.FnExactFilesOf': WHATEVER THE INPUT: true; the input reads as it did. -/
def fnExactFilesOfSpec : ChangeSpec := { name := "fnExactFilesOf", fn := fun _ => fun
  | [d] => { results := [.lit (.bool true)], args := [d] }
  | _ => none }
def fnExactFilesOfRow : OpenClaim := { program := "ytbpfenmkhapeiaagreat", sum := "a743f1d7dcf1c18738d809a92ab97ed01aa4cdd68b74e3224e41441ab3080b2d", func := "loop.example/g00817/laws.FnExactFilesOf", spec := "fnExactFilesOf", inPlace := ["internal/bytealg.IndexByteString", "internal/bytealg.IndexString", "internal/abi.NoEscape", "internal/bytealg.MakeNoZero"], recurses := true, named := ["internal/bytealg.MaxLen"], apart := false }
def FnExactFilesOfSaid : Prop := fnExactFilesOfRow.holds Tryz.pinned (OpenSpec.ofChange fnExactFilesOfSpec)

/-- ITS FALSE NEIGHBOUR: 'it returns false'. Refute it at one input. -/
def fnExactFilesOfWrong : ChangeSpec := { name := "fnExactFilesOf", fn := fun _ => fun
  | [d] => { results := [.lit (.bool false)], args := [d] }
  | _ => none }
def FnExactFilesOfWrongFalsely : Prop := fnExactFilesOfRow.holds Tryz.pinned (OpenSpec.ofChange fnExactFilesOfWrong)

/- THE SECOND FORM. 'bulk': how many values and letters a reading holds, each counted each time it is reached (what is shared counts as often as it is met; a slice's spare places count too). A statement '..UptoSaid' is the law's where the arguments, and the package variables that the reading takes, are together of bulk at most 1048576: NARROWER than '..Said'. Prove '..Said' where nothing that the law and all that it calls make is longer than what came in: it says more and counts as full. Else prove '..UptoSaid'. A law counts once. -/
mutual
def uptoBulk {H : Type} : DataW H → Nat
  | .lit (.string bytes) => bytes.length + 1
  | .lit _ => 1
  | .nil => 1
  | .ptr d => uptoBulk d + 1
  | .slice elems spare => uptoBulkAll elems + uptoBulkAll spare + 1
  | .agg parts => uptoBulkAll parts + 1
  | .iface _ d => uptoBulk d + 1
  | .map entries => uptoBulkEntries entries + 1
  | .held _ => 1
def uptoBulkAll {H : Type} : List (DataW H) → Nat
  | [] => 0
  | d :: r => uptoBulk d + uptoBulkAll r
def uptoBulkEntries {H : Type} : List (Lit × DataW H) → Nat
  | [] => 0
  | x :: r => uptoBulkEntry x + uptoBulkEntries r
def uptoBulkEntry {H : Type} : Lit × DataW H → Nat
  | (.string bytes, d) => bytes.length + uptoBulk d + 1
  | (_, d) => uptoBulk d + 1
 end
def uptoSmall : (H : Type) → List (DataW H) → Bool := fun _ ds => decide (uptoBulkAll ds ≤ 1048576)
def OpenSpec.upto (s : _root_.Go.ChangeSpec) : _root_.Go.OpenSpec := { _root_.Go.OpenSpec.ofChange s with cond := some uptoSmall }

/-- 'laws.FnExactFixLinks', WHERE WHAT IT READS IS OF BULK AT MOST 1048576: true; the input reads as it did. -/
def fnExactFixLinksUptoRow : OpenClaim := { program := "ytbpfenmkhapeiaagreat", sum := "a743f1d7dcf1c18738d809a92ab97ed01aa4cdd68b74e3224e41441ab3080b2d", func := "loop.example/g00817/laws.FnExactFixLinks", spec := "fnExactFixLinks", inPlace := ["internal/bytealg.IndexByteString", "internal/bytealg.IndexString", "internal/abi.NoEscape", "internal/bytealg.MakeNoZero"], named := ["internal/bytealg.MaxLen"], apart := false, narrowed := true }
def FnExactFixLinksUptoSaid : Prop := fnExactFixLinksUptoRow.holds Tryz.pinned (OpenSpec.upto fnExactFixLinksSpec)

/-- 'laws.FnExactVisibleInodes', WHERE WHAT IT READS IS OF BULK AT MOST 1048576: true; the input reads as it did. -/
def fnExactVisibleInodesUptoRow : OpenClaim := { program := "ytbpfenmkhapeiaagreat", sum := "a743f1d7dcf1c18738d809a92ab97ed01aa4cdd68b74e3224e41441ab3080b2d", func := "loop.example/g00817/laws.FnExactVisibleInodes", spec := "fnExactVisibleInodes", inPlace := ["internal/bytealg.IndexByteString", "internal/bytealg.IndexString", "internal/abi.NoEscape", "internal/bytealg.MakeNoZero"], unfollowed := true, recurses := true, named := ["internal/bytealg.MaxLen"], apart := false, narrowed := true }
def FnExactVisibleInodesUptoSaid : Prop := fnExactVisibleInodesUptoRow.holds Tryz.pinned (OpenSpec.upto fnExactVisibleInodesSpec)

/-- 'laws.FnExactIsSound', WHERE WHAT IT READS IS OF BULK AT MOST 1048576: true; the input reads as it did. -/
def fnExactIsSoundUptoRow : OpenClaim := { program := "ytbpfenmkhapeiaagreat", sum := "a743f1d7dcf1c18738d809a92ab97ed01aa4cdd68b74e3224e41441ab3080b2d", func := "loop.example/g00817/laws.FnExactIsSound", spec := "fnExactIsSound", inPlace := ["internal/bytealg.IndexByteString", "internal/bytealg.IndexString", "internal/abi.NoEscape", "internal/bytealg.MakeNoZero"], unfollowed := true, recurses := true, named := ["internal/bytealg.MaxLen"], apart := false, narrowed := true }
def FnExactIsSoundUptoSaid : Prop := fnExactIsSoundUptoRow.holds Tryz.pinned (OpenSpec.upto fnExactIsSoundSpec)

/-- 'laws.FnExactFixEntries', WHERE WHAT IT READS IS OF BULK AT MOST 1048576: true; the input reads as it did. -/
def fnExactFixEntriesUptoRow : OpenClaim := { program := "ytbpfenmkhapeiaagreat", sum := "a743f1d7dcf1c18738d809a92ab97ed01aa4cdd68b74e3224e41441ab3080b2d", func := "loop.example/g00817/laws.FnExactFixEntries", spec := "fnExactFixEntries", inPlace := ["internal/bytealg.IndexByteString", "internal/bytealg.IndexString", "internal/abi.NoEscape", "internal/bytealg.MakeNoZero"], named := ["internal/bytealg.MaxLen"], apart := false, narrowed := true }
def FnExactFixEntriesUptoSaid : Prop := fnExactFixEntriesUptoRow.holds Tryz.pinned (OpenSpec.upto fnExactFixEntriesSpec)

/-- 'laws.FnExactCheckFS', WHERE WHAT IT READS IS OF BULK AT MOST 1048576: true; the input reads as it did. -/
def fnExactCheckFSUptoRow : OpenClaim := { program := "ytbpfenmkhapeiaagreat", sum := "a743f1d7dcf1c18738d809a92ab97ed01aa4cdd68b74e3224e41441ab3080b2d", func := "loop.example/g00817/laws.FnExactCheckFS", spec := "fnExactCheckFS", inPlace := ["internal/bytealg.IndexByteString", "internal/bytealg.IndexString", "internal/abi.NoEscape", "internal/bytealg.MakeNoZero"], unfollowed := true, recurses := true, named := ["internal/bytealg.MaxLen"], apart := false, narrowed := true }
def FnExactCheckFSUptoSaid : Prop := fnExactCheckFSUptoRow.holds Tryz.pinned (OpenSpec.upto fnExactCheckFSSpec)

/-- 'laws.FnExactFilesOf', WHERE WHAT IT READS IS OF BULK AT MOST 1048576: true; the input reads as it did. -/
def fnExactFilesOfUptoRow : OpenClaim := { program := "ytbpfenmkhapeiaagreat", sum := "a743f1d7dcf1c18738d809a92ab97ed01aa4cdd68b74e3224e41441ab3080b2d", func := "loop.example/g00817/laws.FnExactFilesOf", spec := "fnExactFilesOf", inPlace := ["internal/bytealg.IndexByteString", "internal/bytealg.IndexString", "internal/abi.NoEscape", "internal/bytealg.MakeNoZero"], recurses := true, named := ["internal/bytealg.MaxLen"], apart := false, narrowed := true }
def FnExactFilesOfUptoSaid : Prop := fnExactFilesOfUptoRow.holds Tryz.pinned (OpenSpec.upto fnExactFilesOfSpec)

end Rows
end Go.Proofs.YtbpfenmkhapeiaaGreat
