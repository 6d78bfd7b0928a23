/-
  No cell of these rows narrows 'for every input' (looked for: loops, veiled, ifaces, maps, wideKeys, modest, calm, conditions, laid).
  DERIVED. THE GIVEN ROWS OF THIS SEAT. 12 by the template 'for every input the law returns true; each argument reads behind the call as it read before'; 0 by the template 'total and deterministic' (their statements: YtgopfdninbknpaaGreatTotals.lean).
  GIVEN WITH THE SEED: the statements are not yours to turn. If you find one false, say at which input.
  Laid BY PROGRAM, IN A SANDBOX (cutbox-rows.mjs): the forced cells as the released guide's own fill.sh prints them over the translation 776aac5bd5713fae… (all of the seat's roots in one cut). By AI agents, Wed Nov 11 2026. No macro, syntax, notation, axiom, sorry.
-/
import Derived.Test.YtgopfdninbknpaaGreatChecked
import GoSem.Claim
import GoSem.ClaimJoined
import GoSem.ClaimMapViews
import Derived.JoinedTies
import Derived.KernelRfl
namespace Go.Proofs.YtgopfdninbknpaaGreat
/- THE CELL 'sum', in the pinned program and in every row, IS THE sha256 OF THE DUMP (.gsa) THAT YtgopfdninbknpaaGreatProg.lean LOADS. Nothing in Lean hashes anything: it is a label: what it is worth is what the hold of that sum in a sandbox is worth. -/
noncomputable def Tryz.pinned : Pinned := { name := "ytgopfdninbknpaagreat", sum := "776aac5bd5713fae50315ca177323e644470d1d03e45a547b95caa3eb459c3e0", checked := Tryz.checked }
namespace Rows
def none {H : Type} : Left H := { results := [], args := [] }

/-- 'laws.FnExactNewObject': WHATEVER THE INPUT: true; the input reads as it did. -/
def fnExactNewObjectSpec : ChangeSpec := { name := "fnExactNewObject", fn := fun _ => fun
  | [d1, d2, d3, d4, d5] => { results := [.lit (.bool true)], args := [d1, d2, d3, d4, d5] }
  | _ => none }
def fnExactNewObjectRow : OpenClaim := { program := "ytgopfdninbknpaagreat", sum := "776aac5bd5713fae50315ca177323e644470d1d03e45a547b95caa3eb459c3e0", func := "loop.example/g00817/laws.FnExactNewObject", spec := "fnExactNewObject", inPlace := ["internal/bytealg.IndexByteString", "internal/bytealg.IndexString", "internal/abi.NoEscape", "internal/bytealg.MakeNoZero"], unfollowed := true, recurses := true, named := ["internal/bytealg.MaxLen"], apart := false }
def FnExactNewObjectSaid : Prop := fnExactNewObjectRow.holds Tryz.pinned (OpenSpec.ofChange fnExactNewObjectSpec)

/-- ITS FALSE NEIGHBOUR: 'it returns false'. Refute it at one input. -/
def fnExactNewObjectWrong : ChangeSpec := { name := "fnExactNewObject", fn := fun _ => fun
  | [d1, d2, d3, d4, d5] => { results := [.lit (.bool false)], args := [d1, d2, d3, d4, d5] }
  | _ => none }
def FnExactNewObjectWrongFalsely : Prop := fnExactNewObjectRow.holds Tryz.pinned (OpenSpec.ofChange fnExactNewObjectWrong)

/-- 'laws.FnExactCreateDir': WHATEVER THE INPUT: true; the input reads as it did. -/
def fnExactCreateDirSpec : ChangeSpec := { name := "fnExactCreateDir", fn := fun _ => fun
  | [d1, d2, d3, d4] => { results := [.lit (.bool true)], args := [d1, d2, d3, d4] }
  | _ => none }
def fnExactCreateDirRow : OpenClaim := { program := "ytgopfdninbknpaagreat", sum := "776aac5bd5713fae50315ca177323e644470d1d03e45a547b95caa3eb459c3e0", func := "loop.example/g00817/laws.FnExactCreateDir", spec := "fnExactCreateDir", inPlace := ["internal/bytealg.IndexByteString", "internal/bytealg.IndexString", "internal/abi.NoEscape", "internal/bytealg.MakeNoZero"], unfollowed := true, recurses := true, named := ["internal/bytealg.MaxLen"], apart := false }
def FnExactCreateDirSaid : Prop := fnExactCreateDirRow.holds Tryz.pinned (OpenSpec.ofChange fnExactCreateDirSpec)

/-- ITS FALSE NEIGHBOUR: 'it returns false'. Refute it at one input. -/
def fnExactCreateDirWrong : ChangeSpec := { name := "fnExactCreateDir", fn := fun _ => fun
  | [d1, d2, d3, d4] => { results := [.lit (.bool false)], args := [d1, d2, d3, d4] }
  | _ => none }
def FnExactCreateDirWrongFalsely : Prop := fnExactCreateDirRow.holds Tryz.pinned (OpenSpec.ofChange fnExactCreateDirWrong)

/-- 'laws.FnExactCreateFile': WHATEVER THE INPUT: true; the input reads as it did. -/
def fnExactCreateFileSpec : ChangeSpec := { name := "fnExactCreateFile", fn := fun _ => fun
  | [d1, d2, d3, d4] => { results := [.lit (.bool true)], args := [d1, d2, d3, d4] }
  | _ => none }
def fnExactCreateFileRow : OpenClaim := { program := "ytgopfdninbknpaagreat", sum := "776aac5bd5713fae50315ca177323e644470d1d03e45a547b95caa3eb459c3e0", func := "loop.example/g00817/laws.FnExactCreateFile", spec := "fnExactCreateFile", inPlace := ["internal/bytealg.IndexByteString", "internal/bytealg.IndexString", "internal/abi.NoEscape", "internal/bytealg.MakeNoZero"], unfollowed := true, recurses := true, named := ["internal/bytealg.MaxLen"], apart := false }
def FnExactCreateFileSaid : Prop := fnExactCreateFileRow.holds Tryz.pinned (OpenSpec.ofChange fnExactCreateFileSpec)

/-- ITS FALSE NEIGHBOUR: 'it returns false'. Refute it at one input. -/
def fnExactCreateFileWrong : ChangeSpec := { name := "fnExactCreateFile", fn := fun _ => fun
  | [d1, d2, d3, d4] => { results := [.lit (.bool false)], args := [d1, d2, d3, d4] }
  | _ => none }
def FnExactCreateFileWrongFalsely : Prop := fnExactCreateFileRow.holds Tryz.pinned (OpenSpec.ofChange fnExactCreateFileWrong)

/-- 'laws.FnExactRemoveDir': WHATEVER THE INPUT: true; the input reads as it did. -/
def fnExactRemoveDirSpec : ChangeSpec := { name := "fnExactRemoveDir", fn := fun _ => fun
  | [d1, d2, d3, d4] => { results := [.lit (.bool true)], args := [d1, d2, d3, d4] }
  | _ => none }
def fnExactRemoveDirRow : OpenClaim := { program := "ytgopfdninbknpaagreat", sum := "776aac5bd5713fae50315ca177323e644470d1d03e45a547b95caa3eb459c3e0", func := "loop.example/g00817/laws.FnExactRemoveDir", spec := "fnExactRemoveDir", inPlace := ["internal/bytealg.IndexByteString", "internal/bytealg.IndexString", "internal/abi.NoEscape", "internal/bytealg.MakeNoZero"], unfollowed := true, recurses := true, named := ["internal/bytealg.MaxLen"], apart := false }
def FnExactRemoveDirSaid : Prop := fnExactRemoveDirRow.holds Tryz.pinned (OpenSpec.ofChange fnExactRemoveDirSpec)

/-- ITS FALSE NEIGHBOUR: 'it returns false'. Refute it at one input. -/
def fnExactRemoveDirWrong : ChangeSpec := { name := "fnExactRemoveDir", fn := fun _ => fun
  | [d1, d2, d3, d4] => { results := [.lit (.bool false)], args := [d1, d2, d3, d4] }
  | _ => none }
def FnExactRemoveDirWrongFalsely : Prop := fnExactRemoveDirRow.holds Tryz.pinned (OpenSpec.ofChange fnExactRemoveDirWrong)

/-- 'laws.FnExactRemoveFile': WHATEVER THE INPUT: true; the input reads as it did. -/
def fnExactRemoveFileSpec : ChangeSpec := { name := "fnExactRemoveFile", fn := fun _ => fun
  | [d1, d2, d3, d4] => { results := [.lit (.bool true)], args := [d1, d2, d3, d4] }
  | _ => none }
def fnExactRemoveFileRow : OpenClaim := { program := "ytgopfdninbknpaagreat", sum := "776aac5bd5713fae50315ca177323e644470d1d03e45a547b95caa3eb459c3e0", func := "loop.example/g00817/laws.FnExactRemoveFile", spec := "fnExactRemoveFile", inPlace := ["internal/bytealg.IndexByteString", "internal/bytealg.IndexString", "internal/abi.NoEscape", "internal/bytealg.MakeNoZero"], unfollowed := true, recurses := true, named := ["internal/bytealg.MaxLen"], apart := false }
def FnExactRemoveFileSaid : Prop := fnExactRemoveFileRow.holds Tryz.pinned (OpenSpec.ofChange fnExactRemoveFileSpec)

/-- ITS FALSE NEIGHBOUR: 'it returns false'. Refute it at one input. -/
def fnExactRemoveFileWrong : ChangeSpec := { name := "fnExactRemoveFile", fn := fun _ => fun
  | [d1, d2, d3, d4] => { results := [.lit (.bool false)], args := [d1, d2, d3, d4] }
  | _ => none }
def FnExactRemoveFileWrongFalsely : Prop := fnExactRemoveFileRow.holds Tryz.pinned (OpenSpec.ofChange fnExactRemoveFileWrong)

/-- 'laws.FnExactRenamePath': WHATEVER THE INPUT: true; the input reads as it did. -/
def fnExactRenamePathSpec : ChangeSpec := { name := "fnExactRenamePath", fn := fun _ => fun
  | [d1, d2, d3, d4, d5] => { results := [.lit (.bool true)], args := [d1, d2, d3, d4, d5] }
  | _ => none }
def fnExactRenamePathRow : OpenClaim := { program := "ytgopfdninbknpaagreat", sum := "776aac5bd5713fae50315ca177323e644470d1d03e45a547b95caa3eb459c3e0", func := "loop.example/g00817/laws.FnExactRenamePath", spec := "fnExactRenamePath", inPlace := ["internal/bytealg.IndexByteString", "internal/bytealg.IndexString", "internal/abi.NoEscape", "internal/bytealg.MakeNoZero"], unfollowed := true, recurses := true, named := ["internal/bytealg.MaxLen"], apart := false }
def FnExactRenamePathSaid : Prop := fnExactRenamePathRow.holds Tryz.pinned (OpenSpec.ofChange fnExactRenamePathSpec)

/-- ITS FALSE NEIGHBOUR: 'it returns false'. Refute it at one input. -/
def fnExactRenamePathWrong : ChangeSpec := { name := "fnExactRenamePath", fn := fun _ => fun
  | [d1, d2, d3, d4, d5] => { results := [.lit (.bool false)], args := [d1, d2, d3, d4, d5] }
  | _ => none }
def FnExactRenamePathWrongFalsely : Prop := fnExactRenamePathRow.holds Tryz.pinned (OpenSpec.ofChange fnExactRenamePathWrong)

/-- 'laws.FnExactChangeOwner': WHATEVER THE INPUT: true; the input reads as it did. -/
def fnExactChangeOwnerSpec : ChangeSpec := { name := "fnExactChangeOwner", fn := fun _ => fun
  | [d1, d2, d3, d4, d5] => { results := [.lit (.bool true)], args := [d1, d2, d3, d4, d5] }
  | _ => none }
def fnExactChangeOwnerRow : OpenClaim := { program := "ytgopfdninbknpaagreat", sum := "776aac5bd5713fae50315ca177323e644470d1d03e45a547b95caa3eb459c3e0", func := "loop.example/g00817/laws.FnExactChangeOwner", spec := "fnExactChangeOwner", inPlace := ["internal/bytealg.IndexByteString", "internal/bytealg.IndexString", "internal/abi.NoEscape", "internal/bytealg.MakeNoZero"], unfollowed := true, recurses := true, named := ["internal/bytealg.MaxLen"], apart := false }
def FnExactChangeOwnerSaid : Prop := fnExactChangeOwnerRow.holds Tryz.pinned (OpenSpec.ofChange fnExactChangeOwnerSpec)

/-- ITS FALSE NEIGHBOUR: 'it returns false'. Refute it at one input. -/
def fnExactChangeOwnerWrong : ChangeSpec := { name := "fnExactChangeOwner", fn := fun _ => fun
  | [d1, d2, d3, d4, d5] => { results := [.lit (.bool false)], args := [d1, d2, d3, d4, d5] }
  | _ => none }
def FnExactChangeOwnerWrongFalsely : Prop := fnExactChangeOwnerRow.holds Tryz.pinned (OpenSpec.ofChange fnExactChangeOwnerWrong)

/-- 'laws.FnExactAdvanceTick': WHATEVER THE INPUT: true; the input reads as it did. -/
def fnExactAdvanceTickSpec : ChangeSpec := { name := "fnExactAdvanceTick", fn := fun _ => fun
  | [d1, d2] => { results := [.lit (.bool true)], args := [d1, d2] }
  | _ => none }
def fnExactAdvanceTickRow : OpenClaim := { program := "ytgopfdninbknpaagreat", sum := "776aac5bd5713fae50315ca177323e644470d1d03e45a547b95caa3eb459c3e0", func := "loop.example/g00817/laws.FnExactAdvanceTick", spec := "fnExactAdvanceTick", apart := false }
def FnExactAdvanceTickSaid : Prop := fnExactAdvanceTickRow.holds Tryz.pinned (OpenSpec.ofChange fnExactAdvanceTickSpec)

/-- ITS FALSE NEIGHBOUR: 'it returns false'. Refute it at one input. -/
def fnExactAdvanceTickWrong : ChangeSpec := { name := "fnExactAdvanceTick", fn := fun _ => fun
  | [d1, d2] => { results := [.lit (.bool false)], args := [d1, d2] }
  | _ => none }
def FnExactAdvanceTickWrongFalsely : Prop := fnExactAdvanceTickRow.holds Tryz.pinned (OpenSpec.ofChange fnExactAdvanceTickWrong)

/-- 'laws.FnExactNewSystem': WHATEVER THE INPUT: true; the input reads as it did. -/
def fnExactNewSystemSpec : ChangeSpec := { name := "fnExactNewSystem", fn := fun _ => fun
  | [d1, d2] => { results := [.lit (.bool true)], args := [d1, d2] }
  | _ => none }
def fnExactNewSystemRow : OpenClaim := { program := "ytgopfdninbknpaagreat", sum := "776aac5bd5713fae50315ca177323e644470d1d03e45a547b95caa3eb459c3e0", func := "loop.example/g00817/laws.FnExactNewSystem", spec := "fnExactNewSystem", apart := false }
def FnExactNewSystemSaid : Prop := fnExactNewSystemRow.holds Tryz.pinned (OpenSpec.ofChange fnExactNewSystemSpec)

/-- ITS FALSE NEIGHBOUR: 'it returns false'. Refute it at one input. -/
def fnExactNewSystemWrong : ChangeSpec := { name := "fnExactNewSystem", fn := fun _ => fun
  | [d1, d2] => { results := [.lit (.bool false)], args := [d1, d2] }
  | _ => none }
def FnExactNewSystemWrongFalsely : Prop := fnExactNewSystemRow.holds Tryz.pinned (OpenSpec.ofChange fnExactNewSystemWrong)

/-- 'laws.FnExactCloseFile': WHATEVER THE INPUT: true; the input reads as it did. -/
def fnExactCloseFileSpec : ChangeSpec := { name := "fnExactCloseFile", fn := fun _ => fun
  | [d1, d2, d3] => { results := [.lit (.bool true)], args := [d1, d2, d3] }
  | _ => none }
def fnExactCloseFileRow : OpenClaim := { program := "ytgopfdninbknpaagreat", sum := "776aac5bd5713fae50315ca177323e644470d1d03e45a547b95caa3eb459c3e0", func := "loop.example/g00817/laws.FnExactCloseFile", spec := "fnExactCloseFile", apart := false }
def FnExactCloseFileSaid : Prop := fnExactCloseFileRow.holds Tryz.pinned (OpenSpec.ofChange fnExactCloseFileSpec)

/-- ITS FALSE NEIGHBOUR: 'it returns false'. Refute it at one input. -/
def fnExactCloseFileWrong : ChangeSpec := { name := "fnExactCloseFile", fn := fun _ => fun
  | [d1, d2, d3] => { results := [.lit (.bool false)], args := [d1, d2, d3] }
  | _ => none }
def FnExactCloseFileWrongFalsely : Prop := fnExactCloseFileRow.holds Tryz.pinned (OpenSpec.ofChange fnExactCloseFileWrong)

/-- 'laws.FnExactCloseAll': WHATEVER THE INPUT: true; the input reads as it did. -/
def fnExactCloseAllSpec : ChangeSpec := { name := "fnExactCloseAll", fn := fun _ => fun
  | [d1, d2] => { results := [.lit (.bool true)], args := [d1, d2] }
  | _ => none }
def fnExactCloseAllRow : OpenClaim := { program := "ytgopfdninbknpaagreat", sum := "776aac5bd5713fae50315ca177323e644470d1d03e45a547b95caa3eb459c3e0", func := "loop.example/g00817/laws.FnExactCloseAll", spec := "fnExactCloseAll", apart := false }
def FnExactCloseAllSaid : Prop := fnExactCloseAllRow.holds Tryz.pinned (OpenSpec.ofChange fnExactCloseAllSpec)

/-- ITS FALSE NEIGHBOUR: 'it returns false'. Refute it at one input. -/
def fnExactCloseAllWrong : ChangeSpec := { name := "fnExactCloseAll", fn := fun _ => fun
  | [d1, d2] => { results := [.lit (.bool false)], args := [d1, d2] }
  | _ => none }
def FnExactCloseAllWrongFalsely : Prop := fnExactCloseAllRow.holds Tryz.pinned (OpenSpec.ofChange fnExactCloseAllWrong)

/-- 'laws.FnExactOpenFile': WHATEVER THE INPUT: true; the input reads as it did. -/
def fnExactOpenFileSpec : ChangeSpec := { name := "fnExactOpenFile", fn := fun _ => fun
  | [d1, d2, d3, d4, d5] => { results := [.lit (.bool true)], args := [d1, d2, d3, d4, d5] }
  | _ => none }
def fnExactOpenFileRow : OpenClaim := { program := "ytgopfdninbknpaagreat", sum := "776aac5bd5713fae50315ca177323e644470d1d03e45a547b95caa3eb459c3e0", func := "loop.example/g00817/laws.FnExactOpenFile", spec := "fnExactOpenFile", inPlace := ["internal/bytealg.IndexByteString", "internal/bytealg.IndexString", "internal/abi.NoEscape", "internal/bytealg.MakeNoZero"], unfollowed := true, recurses := true, named := ["internal/bytealg.MaxLen"], apart := false }
def FnExactOpenFileSaid : Prop := fnExactOpenFileRow.holds Tryz.pinned (OpenSpec.ofChange fnExactOpenFileSpec)

/-- ITS FALSE NEIGHBOUR: 'it returns false'. Refute it at one input. -/
def fnExactOpenFileWrong : ChangeSpec := { name := "fnExactOpenFile", fn := fun _ => fun
  | [d1, d2, d3, d4, d5] => { results := [.lit (.bool false)], args := [d1, d2, d3, d4, d5] }
  | _ => none }
def FnExactOpenFileWrongFalsely : Prop := fnExactOpenFileRow.holds Tryz.pinned (OpenSpec.ofChange fnExactOpenFileWrong)

/- THE SECOND FORM. 'bulk': how many values and letters a reading holds, each counted each time it is reached (what is shared counts as often as it is met; a slice's spare places count too). A statement '..UptoSaid' is the law's where the arguments, and the package variables that the reading takes, are together of bulk at most 1048576: NARROWER than '..Said'. Prove '..Said' where nothing that the law and all that it calls make is longer than what came in: it says more and counts as full. Else prove '..UptoSaid'. A law counts once. -/
mutual
def uptoBulk {H : Type} : DataW H → Nat
  | .lit (.string bytes) => bytes.length + 1
  | .lit _ => 1
  | .nil => 1
  | .ptr d => uptoBulk d + 1
  | .slice elems spare => uptoBulkAll elems + uptoBulkAll spare + 1
  | .agg parts => uptoBulkAll parts + 1
  | .iface _ d => uptoBulk d + 1
  | .map entries => uptoBulkEntries entries + 1
  | .held _ => 1
def uptoBulkAll {H : Type} : List (DataW H) → Nat
  | [] => 0
  | d :: r => uptoBulk d + uptoBulkAll r
def uptoBulkEntries {H : Type} : List (Lit × DataW H) → Nat
  | [] => 0
  | x :: r => uptoBulkEntry x + uptoBulkEntries r
def uptoBulkEntry {H : Type} : Lit × DataW H → Nat
  | (.string bytes, d) => bytes.length + uptoBulk d + 1
  | (_, d) => uptoBulk d + 1
 end
def uptoSmall : (H : Type) → List (DataW H) → Bool := fun _ ds => decide (uptoBulkAll ds ≤ 1048576)
def OpenSpec.upto (s : _root_.Go.ChangeSpec) : _root_.Go.OpenSpec := { _root_.Go.OpenSpec.ofChange s with cond := some uptoSmall }

/-- 'laws.FnExactNewObject', WHERE WHAT IT READS IS OF BULK AT MOST 1048576: true; the input reads as it did. -/
def fnExactNewObjectUptoRow : OpenClaim := { program := "ytgopfdninbknpaagreat", sum := "776aac5bd5713fae50315ca177323e644470d1d03e45a547b95caa3eb459c3e0", func := "loop.example/g00817/laws.FnExactNewObject", spec := "fnExactNewObject", inPlace := ["internal/bytealg.IndexByteString", "internal/bytealg.IndexString", "internal/abi.NoEscape", "internal/bytealg.MakeNoZero"], unfollowed := true, recurses := true, named := ["internal/bytealg.MaxLen"], apart := false, narrowed := true }
def FnExactNewObjectUptoSaid : Prop := fnExactNewObjectUptoRow.holds Tryz.pinned (OpenSpec.upto fnExactNewObjectSpec)

/-- 'laws.FnExactCreateDir', WHERE WHAT IT READS IS OF BULK AT MOST 1048576: true; the input reads as it did. -/
def fnExactCreateDirUptoRow : OpenClaim := { program := "ytgopfdninbknpaagreat", sum := "776aac5bd5713fae50315ca177323e644470d1d03e45a547b95caa3eb459c3e0", func := "loop.example/g00817/laws.FnExactCreateDir", spec := "fnExactCreateDir", inPlace := ["internal/bytealg.IndexByteString", "internal/bytealg.IndexString", "internal/abi.NoEscape", "internal/bytealg.MakeNoZero"], unfollowed := true, recurses := true, named := ["internal/bytealg.MaxLen"], apart := false, narrowed := true }
def FnExactCreateDirUptoSaid : Prop := fnExactCreateDirUptoRow.holds Tryz.pinned (OpenSpec.upto fnExactCreateDirSpec)

/-- 'laws.FnExactCreateFile', WHERE WHAT IT READS IS OF BULK AT MOST 1048576: true; the input reads as it did. -/
def fnExactCreateFileUptoRow : OpenClaim := { program := "ytgopfdninbknpaagreat", sum := "776aac5bd5713fae50315ca177323e644470d1d03e45a547b95caa3eb459c3e0", func := "loop.example/g00817/laws.FnExactCreateFile", spec := "fnExactCreateFile", inPlace := ["internal/bytealg.IndexByteString", "internal/bytealg.IndexString", "internal/abi.NoEscape", "internal/bytealg.MakeNoZero"], unfollowed := true, recurses := true, named := ["internal/bytealg.MaxLen"], apart := false, narrowed := true }
def FnExactCreateFileUptoSaid : Prop := fnExactCreateFileUptoRow.holds Tryz.pinned (OpenSpec.upto fnExactCreateFileSpec)

/-- 'laws.FnExactRemoveDir', WHERE WHAT IT READS IS OF BULK AT MOST 1048576: true; the input reads as it did. -/
def fnExactRemoveDirUptoRow : OpenClaim := { program := "ytgopfdninbknpaagreat", sum := "776aac5bd5713fae50315ca177323e644470d1d03e45a547b95caa3eb459c3e0", func := "loop.example/g00817/laws.FnExactRemoveDir", spec := "fnExactRemoveDir", inPlace := ["internal/bytealg.IndexByteString", "internal/bytealg.IndexString", "internal/abi.NoEscape", "internal/bytealg.MakeNoZero"], unfollowed := true, recurses := true, named := ["internal/bytealg.MaxLen"], apart := false, narrowed := true }
def FnExactRemoveDirUptoSaid : Prop := fnExactRemoveDirUptoRow.holds Tryz.pinned (OpenSpec.upto fnExactRemoveDirSpec)

/-- 'laws.FnExactRemoveFile', WHERE WHAT IT READS IS OF BULK AT MOST 1048576: true; the input reads as it did. -/
def fnExactRemoveFileUptoRow : OpenClaim := { program := "ytgopfdninbknpaagreat", sum := "776aac5bd5713fae50315ca177323e644470d1d03e45a547b95caa3eb459c3e0", func := "loop.example/g00817/laws.FnExactRemoveFile", spec := "fnExactRemoveFile", inPlace := ["internal/bytealg.IndexByteString", "internal/bytealg.IndexString", "internal/abi.NoEscape", "internal/bytealg.MakeNoZero"], unfollowed := true, recurses := true, named := ["internal/bytealg.MaxLen"], apart := false, narrowed := true }
def FnExactRemoveFileUptoSaid : Prop := fnExactRemoveFileUptoRow.holds Tryz.pinned (OpenSpec.upto fnExactRemoveFileSpec)

/-- 'laws.FnExactRenamePath', WHERE WHAT IT READS IS OF BULK AT MOST 1048576: true; the input reads as it did. -/
def fnExactRenamePathUptoRow : OpenClaim := { program := "ytgopfdninbknpaagreat", sum := "776aac5bd5713fae50315ca177323e644470d1d03e45a547b95caa3eb459c3e0", func := "loop.example/g00817/laws.FnExactRenamePath", spec := "fnExactRenamePath", inPlace := ["internal/bytealg.IndexByteString", "internal/bytealg.IndexString", "internal/abi.NoEscape", "internal/bytealg.MakeNoZero"], unfollowed := true, recurses := true, named := ["internal/bytealg.MaxLen"], apart := false, narrowed := true }
def FnExactRenamePathUptoSaid : Prop := fnExactRenamePathUptoRow.holds Tryz.pinned (OpenSpec.upto fnExactRenamePathSpec)

/-- 'laws.FnExactChangeOwner', WHERE WHAT IT READS IS OF BULK AT MOST 1048576: true; the input reads as it did. -/
def fnExactChangeOwnerUptoRow : OpenClaim := { program := "ytgopfdninbknpaagreat", sum := "776aac5bd5713fae50315ca177323e644470d1d03e45a547b95caa3eb459c3e0", func := "loop.example/g00817/laws.FnExactChangeOwner", spec := "fnExactChangeOwner", inPlace := ["internal/bytealg.IndexByteString", "internal/bytealg.IndexString", "internal/abi.NoEscape", "internal/bytealg.MakeNoZero"], unfollowed := true, recurses := true, named := ["internal/bytealg.MaxLen"], apart := false, narrowed := true }
def FnExactChangeOwnerUptoSaid : Prop := fnExactChangeOwnerUptoRow.holds Tryz.pinned (OpenSpec.upto fnExactChangeOwnerSpec)

/-- 'laws.FnExactAdvanceTick', WHERE WHAT IT READS IS OF BULK AT MOST 1048576: true; the input reads as it did. -/
def fnExactAdvanceTickUptoRow : OpenClaim := { program := "ytgopfdninbknpaagreat", sum := "776aac5bd5713fae50315ca177323e644470d1d03e45a547b95caa3eb459c3e0", func := "loop.example/g00817/laws.FnExactAdvanceTick", spec := "fnExactAdvanceTick", apart := false, narrowed := true }
def FnExactAdvanceTickUptoSaid : Prop := fnExactAdvanceTickUptoRow.holds Tryz.pinned (OpenSpec.upto fnExactAdvanceTickSpec)

/-- 'laws.FnExactNewSystem', WHERE WHAT IT READS IS OF BULK AT MOST 1048576: true; the input reads as it did. -/
def fnExactNewSystemUptoRow : OpenClaim := { program := "ytgopfdninbknpaagreat", sum := "776aac5bd5713fae50315ca177323e644470d1d03e45a547b95caa3eb459c3e0", func := "loop.example/g00817/laws.FnExactNewSystem", spec := "fnExactNewSystem", apart := false, narrowed := true }
def FnExactNewSystemUptoSaid : Prop := fnExactNewSystemUptoRow.holds Tryz.pinned (OpenSpec.upto fnExactNewSystemSpec)

/-- 'laws.FnExactCloseFile', WHERE WHAT IT READS IS OF BULK AT MOST 1048576: true; the input reads as it did. -/
def fnExactCloseFileUptoRow : OpenClaim := { program := "ytgopfdninbknpaagreat", sum := "776aac5bd5713fae50315ca177323e644470d1d03e45a547b95caa3eb459c3e0", func := "loop.example/g00817/laws.FnExactCloseFile", spec := "fnExactCloseFile", apart := false, narrowed := true }
def FnExactCloseFileUptoSaid : Prop := fnExactCloseFileUptoRow.holds Tryz.pinned (OpenSpec.upto fnExactCloseFileSpec)

/-- 'laws.FnExactCloseAll', WHERE WHAT IT READS IS OF BULK AT MOST 1048576: true; the input reads as it did. -/
def fnExactCloseAllUptoRow : OpenClaim := { program := "ytgopfdninbknpaagreat", sum := "776aac5bd5713fae50315ca177323e644470d1d03e45a547b95caa3eb459c3e0", func := "loop.example/g00817/laws.FnExactCloseAll", spec := "fnExactCloseAll", apart := false, narrowed := true }
def FnExactCloseAllUptoSaid : Prop := fnExactCloseAllUptoRow.holds Tryz.pinned (OpenSpec.upto fnExactCloseAllSpec)

/-- 'laws.FnExactOpenFile', WHERE WHAT IT READS IS OF BULK AT MOST 1048576: true; the input reads as it did. -/
def fnExactOpenFileUptoRow : OpenClaim := { program := "ytgopfdninbknpaagreat", sum := "776aac5bd5713fae50315ca177323e644470d1d03e45a547b95caa3eb459c3e0", func := "loop.example/g00817/laws.FnExactOpenFile", spec := "fnExactOpenFile", inPlace := ["internal/bytealg.IndexByteString", "internal/bytealg.IndexString", "internal/abi.NoEscape", "internal/bytealg.MakeNoZero"], unfollowed := true, recurses := true, named := ["internal/bytealg.MaxLen"], apart := false, narrowed := true }
def FnExactOpenFileUptoSaid : Prop := fnExactOpenFileUptoRow.holds Tryz.pinned (OpenSpec.upto fnExactOpenFileSpec)

end Rows
end Go.Proofs.YtgopfdninbknpaaGreat
