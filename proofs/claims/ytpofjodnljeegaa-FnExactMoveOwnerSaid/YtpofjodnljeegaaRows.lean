/-
  No cell of these rows narrows 'for every input' (looked for: loops, veiled, ifaces, maps, wideKeys, modest, calm, conditions, laid).
  DERIVED. THE GIVEN ROWS OF THIS SEAT. 7 by the template 'for every input the law returns true; each argument reads behind the call as it read before'; 0 by the template 'total and deterministic' (their statements: YtpofjodnljeegaaTotals.lean).
  GIVEN WITH THE SEED: the statements are not yours to turn. If you find one false, say at which input.
  Laid BY PROGRAM, IN A SANDBOX (cutbox-rows.mjs): the forced cells as the released guide's own fill.sh prints them over the translation 43f5453d74d8b10f… (all of the seat's roots in one cut). By AI agents, Wed Nov 11 2026. No macro, syntax, notation, axiom, sorry.
-/
import Derived.Test.YtpofjodnljeegaaChecked
import GoSem.Claim
import GoSem.ClaimJoined
import GoSem.ClaimMapViews
import Derived.JoinedTies
import Derived.KernelRfl
namespace Go.Proofs.Ytpofjodnljeegaa
/- THE CELL 'sum', in the pinned program and in every row, IS THE sha256 OF THE DUMP (.gsa) THAT YtpofjodnljeegaaProg.lean LOADS. Nothing in Lean hashes anything: it is a label: what it is worth is what the hold of that sum in a sandbox is worth. -/
noncomputable def Try.pinned : Pinned := { name := "ytpofjodnljeegaa", sum := "43f5453d74d8b10f189a28596d5ad96c91c2f1e22b830e77e62aa6022b5fcecf", checked := Try.checked }
namespace Rows
def none {H : Type} : Left H := { results := [], args := [] }

/-- 'laws.FnExactFreeObject': WHATEVER THE INPUT: true; the input reads as it did. -/
def fnExactFreeObjectSpec : ChangeSpec := { name := "fnExactFreeObject", fn := fun _ => fun
  | [d1, d2] => { results := [.lit (.bool true)], args := [d1, d2] }
  | _ => none }
def fnExactFreeObjectRow : OpenClaim := { program := "ytpofjodnljeegaa", sum := "43f5453d74d8b10f189a28596d5ad96c91c2f1e22b830e77e62aa6022b5fcecf", func := "loop.example/g00817/laws.FnExactFreeObject", spec := "fnExactFreeObject", unfollowed := true, recurses := true, apart := false }
def FnExactFreeObjectSaid : Prop := fnExactFreeObjectRow.holds Try.pinned (OpenSpec.ofChange fnExactFreeObjectSpec)

/-- ITS FALSE NEIGHBOUR: 'it returns false'. Refute it at one input. -/
def fnExactFreeObjectWrong : ChangeSpec := { name := "fnExactFreeObject", fn := fun _ => fun
  | [d1, d2] => { results := [.lit (.bool false)], args := [d1, d2] }
  | _ => none }
def FnExactFreeObjectWrongFalsely : Prop := fnExactFreeObjectRow.holds Try.pinned (OpenSpec.ofChange fnExactFreeObjectWrong)

/-- 'laws.FnExactNewFS': WHATEVER THE INPUT: true; the input reads as it did. -/
def fnExactNewFSSpec : ChangeSpec := { name := "fnExactNewFS", fn := fun _ => fun
  | [d] => { results := [.lit (.bool true)], args := [d] }
  | _ => none }
def fnExactNewFSRow : OpenClaim := { program := "ytpofjodnljeegaa", sum := "43f5453d74d8b10f189a28596d5ad96c91c2f1e22b830e77e62aa6022b5fcecf", func := "loop.example/g00817/laws.FnExactNewFS", spec := "fnExactNewFS", apart := false }
def FnExactNewFSSaid : Prop := fnExactNewFSRow.holds Try.pinned (OpenSpec.ofChange fnExactNewFSSpec)

/-- ITS FALSE NEIGHBOUR: 'it returns false'. Refute it at one input. -/
def fnExactNewFSWrong : ChangeSpec := { name := "fnExactNewFS", fn := fun _ => fun
  | [d] => { results := [.lit (.bool false)], args := [d] }
  | _ => none }
def FnExactNewFSWrongFalsely : Prop := fnExactNewFSRow.holds Try.pinned (OpenSpec.ofChange fnExactNewFSWrong)

/-- 'laws.FnExactResizeFile': WHATEVER THE INPUT: true; the input reads as it did. -/
def fnExactResizeFileSpec : ChangeSpec := { name := "fnExactResizeFile", fn := fun _ => fun
  | [d1, d2, d3] => { results := [.lit (.bool true)], args := [d1, d2, d3] }
  | _ => none }
def fnExactResizeFileRow : OpenClaim := { program := "ytpofjodnljeegaa", sum := "43f5453d74d8b10f189a28596d5ad96c91c2f1e22b830e77e62aa6022b5fcecf", func := "loop.example/g00817/laws.FnExactResizeFile", spec := "fnExactResizeFile", unfollowed := true, recurses := true, apart := false }
def FnExactResizeFileSaid : Prop := fnExactResizeFileRow.holds Try.pinned (OpenSpec.ofChange fnExactResizeFileSpec)

/-- ITS FALSE NEIGHBOUR: 'it returns false'. Refute it at one input. -/
def fnExactResizeFileWrong : ChangeSpec := { name := "fnExactResizeFile", fn := fun _ => fun
  | [d1, d2, d3] => { results := [.lit (.bool false)], args := [d1, d2, d3] }
  | _ => none }
def FnExactResizeFileWrongFalsely : Prop := fnExactResizeFileRow.holds Try.pinned (OpenSpec.ofChange fnExactResizeFileWrong)

/-- 'laws.FnExactDropOrphans': WHATEVER THE INPUT: true; the input reads as it did. -/
def fnExactDropOrphansSpec : ChangeSpec := { name := "fnExactDropOrphans", fn := fun _ => fun
  | [d1, d2] => { results := [.lit (.bool true)], args := [d1, d2] }
  | _ => none }
def fnExactDropOrphansRow : OpenClaim := { program := "ytpofjodnljeegaa", sum := "43f5453d74d8b10f189a28596d5ad96c91c2f1e22b830e77e62aa6022b5fcecf", func := "loop.example/g00817/laws.FnExactDropOrphans", spec := "fnExactDropOrphans", apart := false }
def FnExactDropOrphansSaid : Prop := fnExactDropOrphansRow.holds Try.pinned (OpenSpec.ofChange fnExactDropOrphansSpec)

/-- ITS FALSE NEIGHBOUR: 'it returns false'. Refute it at one input. -/
def fnExactDropOrphansWrong : ChangeSpec := { name := "fnExactDropOrphans", fn := fun _ => fun
  | [d1, d2] => { results := [.lit (.bool false)], args := [d1, d2] }
  | _ => none }
def FnExactDropOrphansWrongFalsely : Prop := fnExactDropOrphansRow.holds Try.pinned (OpenSpec.ofChange fnExactDropOrphansWrong)

/-- 'laws.FnExactMoveOwner': WHATEVER THE INPUT: true; the input reads as it did. -/
def fnExactMoveOwnerSpec : ChangeSpec := { name := "fnExactMoveOwner", fn := fun _ => fun
  | [d1, d2, d3] => { results := [.lit (.bool true)], args := [d1, d2, d3] }
  | _ => none }
def fnExactMoveOwnerRow : OpenClaim := { program := "ytpofjodnljeegaa", sum := "43f5453d74d8b10f189a28596d5ad96c91c2f1e22b830e77e62aa6022b5fcecf", func := "loop.example/g00817/laws.FnExactMoveOwner", spec := "fnExactMoveOwner", unfollowed := true, recurses := true, apart := false }
def FnExactMoveOwnerSaid : Prop := fnExactMoveOwnerRow.holds Try.pinned (OpenSpec.ofChange fnExactMoveOwnerSpec)

/-- ITS FALSE NEIGHBOUR: 'it returns false'. Refute it at one input. -/
def fnExactMoveOwnerWrong : ChangeSpec := { name := "fnExactMoveOwner", fn := fun _ => fun
  | [d1, d2, d3] => { results := [.lit (.bool false)], args := [d1, d2, d3] }
  | _ => none }
def FnExactMoveOwnerWrongFalsely : Prop := fnExactMoveOwnerRow.holds Try.pinned (OpenSpec.ofChange fnExactMoveOwnerWrong)

/-- 'laws.FnExactBusyInodes': WHATEVER THE INPUT: true; the input reads as it did. -/
def fnExactBusyInodesSpec : ChangeSpec := { name := "fnExactBusyInodes", fn := fun _ => fun
  | [d] => { results := [.lit (.bool true)], args := [d] }
  | _ => none }
def fnExactBusyInodesRow : OpenClaim := { program := "ytpofjodnljeegaa", sum := "43f5453d74d8b10f189a28596d5ad96c91c2f1e22b830e77e62aa6022b5fcecf", func := "loop.example/g00817/laws.FnExactBusyInodes", spec := "fnExactBusyInodes", apart := false }
def FnExactBusyInodesSaid : Prop := fnExactBusyInodesRow.holds Try.pinned (OpenSpec.ofChange fnExactBusyInodesSpec)

/-- ITS FALSE NEIGHBOUR: 'it returns false'. Refute it at one input. -/
def fnExactBusyInodesWrong : ChangeSpec := { name := "fnExactBusyInodes", fn := fun _ => fun
  | [d] => { results := [.lit (.bool false)], args := [d] }
  | _ => none }
def FnExactBusyInodesWrongFalsely : Prop := fnExactBusyInodesRow.holds Try.pinned (OpenSpec.ofChange fnExactBusyInodesWrong)

/-- 'laws.FnExactWriteBytes': WHATEVER THE INPUT: true; the input reads as it did. -/
def fnExactWriteBytesSpec : ChangeSpec := { name := "fnExactWriteBytes", fn := fun _ => fun
  | [d1, d2, d3, d4] => { results := [.lit (.bool true)], args := [d1, d2, d3, d4] }
  | _ => none }
def fnExactWriteBytesRow : OpenClaim := { program := "ytpofjodnljeegaa", sum := "43f5453d74d8b10f189a28596d5ad96c91c2f1e22b830e77e62aa6022b5fcecf", func := "loop.example/g00817/laws.FnExactWriteBytes", spec := "fnExactWriteBytes", unfollowed := true, recurses := true, apart := false }
def FnExactWriteBytesSaid : Prop := fnExactWriteBytesRow.holds Try.pinned (OpenSpec.ofChange fnExactWriteBytesSpec)

/-- ITS FALSE NEIGHBOUR: 'it returns false'. Refute it at one input. -/
def fnExactWriteBytesWrong : ChangeSpec := { name := "fnExactWriteBytes", fn := fun _ => fun
  | [d1, d2, d3, d4] => { results := [.lit (.bool false)], args := [d1, d2, d3, d4] }
  | _ => none }
def FnExactWriteBytesWrongFalsely : Prop := fnExactWriteBytesRow.holds Try.pinned (OpenSpec.ofChange fnExactWriteBytesWrong)

/- THE SECOND FORM. 'bulk': how many values and letters a reading holds, each counted each time it is reached (what is shared counts as often as it is met; a slice's spare places count too). A statement '..UptoSaid' is the law's where the arguments, and the package variables that the reading takes, are together of bulk at most 1048576: NARROWER than '..Said'. Prove '..Said' where nothing that the law and all that it calls make is longer than what came in: it says more and counts as full. Else prove '..UptoSaid'. A law counts once. -/
mutual
def uptoBulk {H : Type} : DataW H → Nat
  | .lit (.string bytes) => bytes.length + 1
  | .lit _ => 1
  | .nil => 1
  | .ptr d => uptoBulk d + 1
  | .slice elems spare => uptoBulkAll elems + uptoBulkAll spare + 1
  | .agg parts => uptoBulkAll parts + 1
  | .iface _ d => uptoBulk d + 1
  | .map entries => uptoBulkEntries entries + 1
  | .held _ => 1
def uptoBulkAll {H : Type} : List (DataW H) → Nat
  | [] => 0
  | d :: r => uptoBulk d + uptoBulkAll r
def uptoBulkEntries {H : Type} : List (Lit × DataW H) → Nat
  | [] => 0
  | x :: r => uptoBulkEntry x + uptoBulkEntries r
def uptoBulkEntry {H : Type} : Lit × DataW H → Nat
  | (.string bytes, d) => bytes.length + uptoBulk d + 1
  | (_, d) => uptoBulk d + 1
 end
def uptoSmall : (H : Type) → List (DataW H) → Bool := fun _ ds => decide (uptoBulkAll ds ≤ 1048576)
def OpenSpec.upto (s : _root_.Go.ChangeSpec) : _root_.Go.OpenSpec := { _root_.Go.OpenSpec.ofChange s with cond := some uptoSmall }

/-- 'laws.FnExactFreeObject', WHERE WHAT IT READS IS OF BULK AT MOST 1048576: true; the input reads as it did. -/
def fnExactFreeObjectUptoRow : OpenClaim := { program := "ytpofjodnljeegaa", sum := "43f5453d74d8b10f189a28596d5ad96c91c2f1e22b830e77e62aa6022b5fcecf", func := "loop.example/g00817/laws.FnExactFreeObject", spec := "fnExactFreeObject", unfollowed := true, recurses := true, apart := false, narrowed := true }
def FnExactFreeObjectUptoSaid : Prop := fnExactFreeObjectUptoRow.holds Try.pinned (OpenSpec.upto fnExactFreeObjectSpec)

/-- 'laws.FnExactNewFS', WHERE WHAT IT READS IS OF BULK AT MOST 1048576: true; the input reads as it did. -/
def fnExactNewFSUptoRow : OpenClaim := { program := "ytpofjodnljeegaa", sum := "43f5453d74d8b10f189a28596d5ad96c91c2f1e22b830e77e62aa6022b5fcecf", func := "loop.example/g00817/laws.FnExactNewFS", spec := "fnExactNewFS", apart := false, narrowed := true }
def FnExactNewFSUptoSaid : Prop := fnExactNewFSUptoRow.holds Try.pinned (OpenSpec.upto fnExactNewFSSpec)

/-- 'laws.FnExactResizeFile', WHERE WHAT IT READS IS OF BULK AT MOST 1048576: true; the input reads as it did. -/
def fnExactResizeFileUptoRow : OpenClaim := { program := "ytpofjodnljeegaa", sum := "43f5453d74d8b10f189a28596d5ad96c91c2f1e22b830e77e62aa6022b5fcecf", func := "loop.example/g00817/laws.FnExactResizeFile", spec := "fnExactResizeFile", unfollowed := true, recurses := true, apart := false, narrowed := true }
def FnExactResizeFileUptoSaid : Prop := fnExactResizeFileUptoRow.holds Try.pinned (OpenSpec.upto fnExactResizeFileSpec)

/-- 'laws.FnExactDropOrphans', WHERE WHAT IT READS IS OF BULK AT MOST 1048576: true; the input reads as it did. -/
def fnExactDropOrphansUptoRow : OpenClaim := { program := "ytpofjodnljeegaa", sum := "43f5453d74d8b10f189a28596d5ad96c91c2f1e22b830e77e62aa6022b5fcecf", func := "loop.example/g00817/laws.FnExactDropOrphans", spec := "fnExactDropOrphans", apart := false, narrowed := true }
def FnExactDropOrphansUptoSaid : Prop := fnExactDropOrphansUptoRow.holds Try.pinned (OpenSpec.upto fnExactDropOrphansSpec)

/-- 'laws.FnExactMoveOwner', WHERE WHAT IT READS IS OF BULK AT MOST 1048576: true; the input reads as it did. -/
def fnExactMoveOwnerUptoRow : OpenClaim := { program := "ytpofjodnljeegaa", sum := "43f5453d74d8b10f189a28596d5ad96c91c2f1e22b830e77e62aa6022b5fcecf", func := "loop.example/g00817/laws.FnExactMoveOwner", spec := "fnExactMoveOwner", unfollowed := true, recurses := true, apart := false, narrowed := true }
def FnExactMoveOwnerUptoSaid : Prop := fnExactMoveOwnerUptoRow.holds Try.pinned (OpenSpec.upto fnExactMoveOwnerSpec)

/-- 'laws.FnExactBusyInodes', WHERE WHAT IT READS IS OF BULK AT MOST 1048576: true; the input reads as it did. -/
def fnExactBusyInodesUptoRow : OpenClaim := { program := "ytpofjodnljeegaa", sum := "43f5453d74d8b10f189a28596d5ad96c91c2f1e22b830e77e62aa6022b5fcecf", func := "loop.example/g00817/laws.FnExactBusyInodes", spec := "fnExactBusyInodes", apart := false, narrowed := true }
def FnExactBusyInodesUptoSaid : Prop := fnExactBusyInodesUptoRow.holds Try.pinned (OpenSpec.upto fnExactBusyInodesSpec)

/-- 'laws.FnExactWriteBytes', WHERE WHAT IT READS IS OF BULK AT MOST 1048576: true; the input reads as it did. -/
def fnExactWriteBytesUptoRow : OpenClaim := { program := "ytpofjodnljeegaa", sum := "43f5453d74d8b10f189a28596d5ad96c91c2f1e22b830e77e62aa6022b5fcecf", func := "loop.example/g00817/laws.FnExactWriteBytes", spec := "fnExactWriteBytes", unfollowed := true, recurses := true, apart := false, narrowed := true }
def FnExactWriteBytesUptoSaid : Prop := fnExactWriteBytesUptoRow.holds Try.pinned (OpenSpec.upto fnExactWriteBytesSpec)

end Rows
end Go.Proofs.Ytpofjodnljeegaa
