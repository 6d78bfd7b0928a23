/-
  No cell of these rows narrows 'for every input' (looked for: loops, veiled, ifaces, maps, wideKeys, modest, calm, conditions, laid).
  DERIVED. THE GIVEN ROWS OF THIS SEAT. 10 by the template 'for every input the law returns true; each argument reads behind the call as it read before'; 0 by the template 'total and deterministic' (their statements: YtiafmpcmmohdkaaGreatTotals.lean).
  GIVEN WITH THE SEED: the statements are not yours to turn. If you find one false, say at which input.
  Laid BY PROGRAM, IN A SANDBOX (cutbox-rows.mjs): the forced cells as the released guide's own fill.sh prints them over the translation ed66479eeac525f1… (all of the seat's roots in one cut). By AI agents, Wed Nov 11 2026. No macro, syntax, notation, axiom, sorry.
-/
import Derived.Test.YtiafmpcmmohdkaaGreatChecked
import GoSem.Claim
import GoSem.ClaimJoined
import GoSem.ClaimMapViews
import Derived.JoinedTies
import Derived.KernelRfl
namespace Go.Proofs.YtiafmpcmmohdkaaGreat
/- THE CELL 'sum', in the pinned program and in every row, IS THE sha256 OF THE DUMP (.gsa) THAT YtiafmpcmmohdkaaGreatProg.lean LOADS. Nothing in Lean hashes anything: it is a label: what it is worth is what the hold of that sum in a sandbox is worth. -/
noncomputable def Tryz.pinned : Pinned := { name := "ytiafmpcmmohdkaagreat", sum := "ed66479eeac525f11c4e11035ebf43d83e6bca20c728340fc58a43ab6c42ad03", checked := Tryz.checked }
namespace Rows
def none {H : Type} : Left H := { results := [], args := [] }

/-- 'laws.FnExactWithinDir': WHATEVER THE INPUT: true; the input reads as it did. -/
def fnExactWithinDirSpec : ChangeSpec := { name := "fnExactWithinDir", fn := fun _ => fun
  | [d1, d2, d3] => { results := [.lit (.bool true)], args := [d1, d2, d3] }
  | _ => none }
def fnExactWithinDirRow : OpenClaim := { program := "ytiafmpcmmohdkaagreat", sum := "ed66479eeac525f11c4e11035ebf43d83e6bca20c728340fc58a43ab6c42ad03", func := "loop.example/g00817/laws.FnExactWithinDir", spec := "fnExactWithinDir", inPlace := ["internal/bytealg.IndexByteString", "internal/bytealg.IndexString", "internal/abi.NoEscape", "internal/bytealg.MakeNoZero"], named := ["internal/bytealg.MaxLen"], apart := false }
def FnExactWithinDirSaid : Prop := fnExactWithinDirRow.holds Tryz.pinned (OpenSpec.ofChange fnExactWithinDirSpec)

/-- ITS FALSE NEIGHBOUR: 'it returns false'. Refute it at one input. -/
def fnExactWithinDirWrong : ChangeSpec := { name := "fnExactWithinDir", fn := fun _ => fun
  | [d1, d2, d3] => { results := [.lit (.bool false)], args := [d1, d2, d3] }
  | _ => none }
def FnExactWithinDirWrongFalsely : Prop := fnExactWithinDirRow.holds Tryz.pinned (OpenSpec.ofChange fnExactWithinDirWrong)

/-- 'laws.FnExactPathOf': WHATEVER THE INPUT: true; the input reads as it did. -/
def fnExactPathOfSpec : ChangeSpec := { name := "fnExactPathOf", fn := fun _ => fun
  | [d1, d2] => { results := [.lit (.bool true)], args := [d1, d2] }
  | _ => none }
def fnExactPathOfRow : OpenClaim := { program := "ytiafmpcmmohdkaagreat", sum := "ed66479eeac525f11c4e11035ebf43d83e6bca20c728340fc58a43ab6c42ad03", func := "loop.example/g00817/laws.FnExactPathOf", spec := "fnExactPathOf", inPlace := ["internal/bytealg.IndexByteString", "internal/bytealg.IndexString", "internal/abi.NoEscape", "internal/bytealg.MakeNoZero"], named := ["internal/bytealg.MaxLen"], apart := false }
def FnExactPathOfSaid : Prop := fnExactPathOfRow.holds Tryz.pinned (OpenSpec.ofChange fnExactPathOfSpec)

/-- ITS FALSE NEIGHBOUR: 'it returns false'. Refute it at one input. -/
def fnExactPathOfWrong : ChangeSpec := { name := "fnExactPathOf", fn := fun _ => fun
  | [d1, d2] => { results := [.lit (.bool false)], args := [d1, d2] }
  | _ => none }
def FnExactPathOfWrongFalsely : Prop := fnExactPathOfRow.holds Tryz.pinned (OpenSpec.ofChange fnExactPathOfWrong)

/-- 'laws.FnExactResolvePath': WHATEVER THE INPUT: true; the input reads as it did. -/
def fnExactResolvePathSpec : ChangeSpec := { name := "fnExactResolvePath", fn := fun _ => fun
  | [d1, d2, d3] => { results := [.lit (.bool true)], args := [d1, d2, d3] }
  | _ => none }
def fnExactResolvePathRow : OpenClaim := { program := "ytiafmpcmmohdkaagreat", sum := "ed66479eeac525f11c4e11035ebf43d83e6bca20c728340fc58a43ab6c42ad03", func := "loop.example/g00817/laws.FnExactResolvePath", spec := "fnExactResolvePath", inPlace := ["internal/bytealg.IndexByteString", "internal/bytealg.IndexString", "internal/abi.NoEscape", "internal/bytealg.MakeNoZero"], unfollowed := true, recurses := true, named := ["internal/bytealg.MaxLen"], apart := false }
def FnExactResolvePathSaid : Prop := fnExactResolvePathRow.holds Tryz.pinned (OpenSpec.ofChange fnExactResolvePathSpec)

/-- ITS FALSE NEIGHBOUR: 'it returns false'. Refute it at one input. -/
def fnExactResolvePathWrong : ChangeSpec := { name := "fnExactResolvePath", fn := fun _ => fun
  | [d1, d2, d3] => { results := [.lit (.bool false)], args := [d1, d2, d3] }
  | _ => none }
def FnExactResolvePathWrongFalsely : Prop := fnExactResolvePathRow.holds Tryz.pinned (OpenSpec.ofChange fnExactResolvePathWrong)

/-- 'laws.FnExactResolveParent': WHATEVER THE INPUT: true; the input reads as it did. -/
def fnExactResolveParentSpec : ChangeSpec := { name := "fnExactResolveParent", fn := fun _ => fun
  | [d1, d2, d3] => { results := [.lit (.bool true)], args := [d1, d2, d3] }
  | _ => none }
def fnExactResolveParentRow : OpenClaim := { program := "ytiafmpcmmohdkaagreat", sum := "ed66479eeac525f11c4e11035ebf43d83e6bca20c728340fc58a43ab6c42ad03", func := "loop.example/g00817/laws.FnExactResolveParent", spec := "fnExactResolveParent", inPlace := ["internal/bytealg.IndexByteString", "internal/bytealg.IndexString", "internal/abi.NoEscape", "internal/bytealg.MakeNoZero"], unfollowed := true, recurses := true, named := ["internal/bytealg.MaxLen"], apart := false }
def FnExactResolveParentSaid : Prop := fnExactResolveParentRow.holds Tryz.pinned (OpenSpec.ofChange fnExactResolveParentSpec)

/-- ITS FALSE NEIGHBOUR: 'it returns false'. Refute it at one input. -/
def fnExactResolveParentWrong : ChangeSpec := { name := "fnExactResolveParent", fn := fun _ => fun
  | [d1, d2, d3] => { results := [.lit (.bool false)], args := [d1, d2, d3] }
  | _ => none }
def FnExactResolveParentWrongFalsely : Prop := fnExactResolveParentRow.holds Tryz.pinned (OpenSpec.ofChange fnExactResolveParentWrong)

/-- 'laws.FnExactRemovableBy': WHATEVER THE INPUT: true; the input reads as it did. -/
def fnExactRemovableBySpec : ChangeSpec := { name := "fnExactRemovableBy", fn := fun _ => fun
  | [d1, d2, d3, d4] => { results := [.lit (.bool true)], args := [d1, d2, d3, d4] }
  | _ => none }
def fnExactRemovableByRow : OpenClaim := { program := "ytiafmpcmmohdkaagreat", sum := "ed66479eeac525f11c4e11035ebf43d83e6bca20c728340fc58a43ab6c42ad03", func := "loop.example/g00817/laws.FnExactRemovableBy", spec := "fnExactRemovableBy", inPlace := ["internal/bytealg.IndexByteString", "internal/bytealg.IndexString", "internal/abi.NoEscape", "internal/bytealg.MakeNoZero"], unfollowed := true, recurses := true, named := ["internal/bytealg.MaxLen"], apart := false }
def FnExactRemovableBySaid : Prop := fnExactRemovableByRow.holds Tryz.pinned (OpenSpec.ofChange fnExactRemovableBySpec)

/-- ITS FALSE NEIGHBOUR: 'it returns false'. Refute it at one input. -/
def fnExactRemovableByWrong : ChangeSpec := { name := "fnExactRemovableBy", fn := fun _ => fun
  | [d1, d2, d3, d4] => { results := [.lit (.bool false)], args := [d1, d2, d3, d4] }
  | _ => none }
def FnExactRemovableByWrongFalsely : Prop := fnExactRemovableByRow.holds Tryz.pinned (OpenSpec.ofChange fnExactRemovableByWrong)

/-- 'laws.FnExactAddEntry': WHATEVER THE INPUT: true; the input reads as it did. -/
def fnExactAddEntrySpec : ChangeSpec := { name := "fnExactAddEntry", fn := fun _ => fun
  | [d1, d2, d3, d4] => { results := [.lit (.bool true)], args := [d1, d2, d3, d4] }
  | _ => none }
def fnExactAddEntryRow : OpenClaim := { program := "ytiafmpcmmohdkaagreat", sum := "ed66479eeac525f11c4e11035ebf43d83e6bca20c728340fc58a43ab6c42ad03", func := "loop.example/g00817/laws.FnExactAddEntry", spec := "fnExactAddEntry", inPlace := ["internal/bytealg.IndexByteString", "internal/bytealg.IndexString", "internal/abi.NoEscape", "internal/bytealg.MakeNoZero"], unfollowed := true, recurses := true, named := ["internal/bytealg.MaxLen"], apart := false }
def FnExactAddEntrySaid : Prop := fnExactAddEntryRow.holds Tryz.pinned (OpenSpec.ofChange fnExactAddEntrySpec)

/-- ITS FALSE NEIGHBOUR: 'it returns false'. Refute it at one input. -/
def fnExactAddEntryWrong : ChangeSpec := { name := "fnExactAddEntry", fn := fun _ => fun
  | [d1, d2, d3, d4] => { results := [.lit (.bool false)], args := [d1, d2, d3, d4] }
  | _ => none }
def FnExactAddEntryWrongFalsely : Prop := fnExactAddEntryRow.holds Tryz.pinned (OpenSpec.ofChange fnExactAddEntryWrong)

/-- 'laws.FnExactRemoveEntry': WHATEVER THE INPUT: true; the input reads as it did. -/
def fnExactRemoveEntrySpec : ChangeSpec := { name := "fnExactRemoveEntry", fn := fun _ => fun
  | [d1, d2, d3] => { results := [.lit (.bool true)], args := [d1, d2, d3] }
  | _ => none }
def fnExactRemoveEntryRow : OpenClaim := { program := "ytiafmpcmmohdkaagreat", sum := "ed66479eeac525f11c4e11035ebf43d83e6bca20c728340fc58a43ab6c42ad03", func := "loop.example/g00817/laws.FnExactRemoveEntry", spec := "fnExactRemoveEntry", inPlace := ["internal/bytealg.IndexByteString", "internal/bytealg.IndexString", "internal/abi.NoEscape", "internal/bytealg.MakeNoZero"], unfollowed := true, recurses := true, named := ["internal/bytealg.MaxLen"], apart := false }
def FnExactRemoveEntrySaid : Prop := fnExactRemoveEntryRow.holds Tryz.pinned (OpenSpec.ofChange fnExactRemoveEntrySpec)

/-- ITS FALSE NEIGHBOUR: 'it returns false'. Refute it at one input. -/
def fnExactRemoveEntryWrong : ChangeSpec := { name := "fnExactRemoveEntry", fn := fun _ => fun
  | [d1, d2, d3] => { results := [.lit (.bool false)], args := [d1, d2, d3] }
  | _ => none }
def FnExactRemoveEntryWrongFalsely : Prop := fnExactRemoveEntryRow.holds Tryz.pinned (OpenSpec.ofChange fnExactRemoveEntryWrong)

/-- 'laws.FnExactChangeAcl': WHATEVER THE INPUT: true; the input reads as it did. -/
def fnExactChangeAclSpec : ChangeSpec := { name := "fnExactChangeAcl", fn := fun _ => fun
  | [d1, d2, d3, d4, d5] => { results := [.lit (.bool true)], args := [d1, d2, d3, d4, d5] }
  | _ => none }
def fnExactChangeAclRow : OpenClaim := { program := "ytiafmpcmmohdkaagreat", sum := "ed66479eeac525f11c4e11035ebf43d83e6bca20c728340fc58a43ab6c42ad03", func := "loop.example/g00817/laws.FnExactChangeAcl", spec := "fnExactChangeAcl", inPlace := ["internal/bytealg.IndexByteString", "internal/bytealg.IndexString", "internal/abi.NoEscape", "internal/bytealg.MakeNoZero"], unfollowed := true, recurses := true, named := ["internal/bytealg.MaxLen"], apart := false }
def FnExactChangeAclSaid : Prop := fnExactChangeAclRow.holds Tryz.pinned (OpenSpec.ofChange fnExactChangeAclSpec)

/-- ITS FALSE NEIGHBOUR: 'it returns false'. Refute it at one input. -/
def fnExactChangeAclWrong : ChangeSpec := { name := "fnExactChangeAcl", fn := fun _ => fun
  | [d1, d2, d3, d4, d5] => { results := [.lit (.bool false)], args := [d1, d2, d3, d4, d5] }
  | _ => none }
def FnExactChangeAclWrongFalsely : Prop := fnExactChangeAclRow.holds Tryz.pinned (OpenSpec.ofChange fnExactChangeAclWrong)

/-- 'laws.FnExactChangeMode': WHATEVER THE INPUT: true; the input reads as it did. -/
def fnExactChangeModeSpec : ChangeSpec := { name := "fnExactChangeMode", fn := fun _ => fun
  | [d1, d2, d3, d4] => { results := [.lit (.bool true)], args := [d1, d2, d3, d4] }
  | _ => none }
def fnExactChangeModeRow : OpenClaim := { program := "ytiafmpcmmohdkaagreat", sum := "ed66479eeac525f11c4e11035ebf43d83e6bca20c728340fc58a43ab6c42ad03", func := "loop.example/g00817/laws.FnExactChangeMode", spec := "fnExactChangeMode", inPlace := ["internal/bytealg.IndexByteString", "internal/bytealg.IndexString", "internal/abi.NoEscape", "internal/bytealg.MakeNoZero"], unfollowed := true, recurses := true, named := ["internal/bytealg.MaxLen"], apart := false }
def FnExactChangeModeSaid : Prop := fnExactChangeModeRow.holds Tryz.pinned (OpenSpec.ofChange fnExactChangeModeSpec)

/-- ITS FALSE NEIGHBOUR: 'it returns false'. Refute it at one input. -/
def fnExactChangeModeWrong : ChangeSpec := { name := "fnExactChangeMode", fn := fun _ => fun
  | [d1, d2, d3, d4] => { results := [.lit (.bool false)], args := [d1, d2, d3, d4] }
  | _ => none }
def FnExactChangeModeWrongFalsely : Prop := fnExactChangeModeRow.holds Tryz.pinned (OpenSpec.ofChange fnExactChangeModeWrong)

/-- 'laws.FnExactLinkFile': WHATEVER THE INPUT: true; the input reads as it did. -/
def fnExactLinkFileSpec : ChangeSpec := { name := "fnExactLinkFile", fn := fun _ => fun
  | [d1, d2, d3, d4] => { results := [.lit (.bool true)], args := [d1, d2, d3, d4] }
  | _ => none }
def fnExactLinkFileRow : OpenClaim := { program := "ytiafmpcmmohdkaagreat", sum := "ed66479eeac525f11c4e11035ebf43d83e6bca20c728340fc58a43ab6c42ad03", func := "loop.example/g00817/laws.FnExactLinkFile", spec := "fnExactLinkFile", inPlace := ["internal/bytealg.IndexByteString", "internal/bytealg.IndexString", "internal/abi.NoEscape", "internal/bytealg.MakeNoZero"], unfollowed := true, recurses := true, named := ["internal/bytealg.MaxLen"], apart := false }
def FnExactLinkFileSaid : Prop := fnExactLinkFileRow.holds Tryz.pinned (OpenSpec.ofChange fnExactLinkFileSpec)

/-- ITS FALSE NEIGHBOUR: 'it returns false'. Refute it at one input. -/
def fnExactLinkFileWrong : ChangeSpec := { name := "fnExactLinkFile", fn := fun _ => fun
  | [d1, d2, d3, d4] => { results := [.lit (.bool false)], args := [d1, d2, d3, d4] }
  | _ => none }
def FnExactLinkFileWrongFalsely : Prop := fnExactLinkFileRow.holds Tryz.pinned (OpenSpec.ofChange fnExactLinkFileWrong)

/- THE SECOND FORM. 'bulk': how many values and letters a reading holds, each counted each time it is reached (what is shared counts as often as it is met; a slice's spare places count too). A statement '..UptoSaid' is the law's where the arguments, and the package variables that the reading takes, are together of bulk at most 1048576: NARROWER than '..Said'. Prove '..Said' where nothing that the law and all that it calls make is longer than what came in: it says more and counts as full. Else prove '..UptoSaid'. A law counts once. -/
mutual
def uptoBulk {H : Type} : DataW H → Nat
  | .lit (.string bytes) => bytes.length + 1
  | .lit _ => 1
  | .nil => 1
  | .ptr d => uptoBulk d + 1
  | .slice elems spare => uptoBulkAll elems + uptoBulkAll spare + 1
  | .agg parts => uptoBulkAll parts + 1
  | .iface _ d => uptoBulk d + 1
  | .map entries => uptoBulkEntries entries + 1
  | .held _ => 1
def uptoBulkAll {H : Type} : List (DataW H) → Nat
  | [] => 0
  | d :: r => uptoBulk d + uptoBulkAll r
def uptoBulkEntries {H : Type} : List (Lit × DataW H) → Nat
  | [] => 0
  | x :: r => uptoBulkEntry x + uptoBulkEntries r
def uptoBulkEntry {H : Type} : Lit × DataW H → Nat
  | (.string bytes, d) => bytes.length + uptoBulk d + 1
  | (_, d) => uptoBulk d + 1
 end
def uptoSmall : (H : Type) → List (DataW H) → Bool := fun _ ds => decide (uptoBulkAll ds ≤ 1048576)
def OpenSpec.upto (s : _root_.Go.ChangeSpec) : _root_.Go.OpenSpec := { _root_.Go.OpenSpec.ofChange s with cond := some uptoSmall }

/-- 'laws.FnExactWithinDir', WHERE WHAT IT READS IS OF BULK AT MOST 1048576: true; the input reads as it did. -/
def fnExactWithinDirUptoRow : OpenClaim := { program := "ytiafmpcmmohdkaagreat", sum := "ed66479eeac525f11c4e11035ebf43d83e6bca20c728340fc58a43ab6c42ad03", func := "loop.example/g00817/laws.FnExactWithinDir", spec := "fnExactWithinDir", inPlace := ["internal/bytealg.IndexByteString", "internal/bytealg.IndexString", "internal/abi.NoEscape", "internal/bytealg.MakeNoZero"], named := ["internal/bytealg.MaxLen"], apart := false, narrowed := true }
def FnExactWithinDirUptoSaid : Prop := fnExactWithinDirUptoRow.holds Tryz.pinned (OpenSpec.upto fnExactWithinDirSpec)

/-- 'laws.FnExactPathOf', WHERE WHAT IT READS IS OF BULK AT MOST 1048576: true; the input reads as it did. -/
def fnExactPathOfUptoRow : OpenClaim := { program := "ytiafmpcmmohdkaagreat", sum := "ed66479eeac525f11c4e11035ebf43d83e6bca20c728340fc58a43ab6c42ad03", func := "loop.example/g00817/laws.FnExactPathOf", spec := "fnExactPathOf", inPlace := ["internal/bytealg.IndexByteString", "internal/bytealg.IndexString", "internal/abi.NoEscape", "internal/bytealg.MakeNoZero"], named := ["internal/bytealg.MaxLen"], apart := false, narrowed := true }
def FnExactPathOfUptoSaid : Prop := fnExactPathOfUptoRow.holds Tryz.pinned (OpenSpec.upto fnExactPathOfSpec)

/-- 'laws.FnExactResolvePath', WHERE WHAT IT READS IS OF BULK AT MOST 1048576: true; the input reads as it did. -/
def fnExactResolvePathUptoRow : OpenClaim := { program := "ytiafmpcmmohdkaagreat", sum := "ed66479eeac525f11c4e11035ebf43d83e6bca20c728340fc58a43ab6c42ad03", func := "loop.example/g00817/laws.FnExactResolvePath", spec := "fnExactResolvePath", inPlace := ["internal/bytealg.IndexByteString", "internal/bytealg.IndexString", "internal/abi.NoEscape", "internal/bytealg.MakeNoZero"], unfollowed := true, recurses := true, named := ["internal/bytealg.MaxLen"], apart := false, narrowed := true }
def FnExactResolvePathUptoSaid : Prop := fnExactResolvePathUptoRow.holds Tryz.pinned (OpenSpec.upto fnExactResolvePathSpec)

/-- 'laws.FnExactResolveParent', WHERE WHAT IT READS IS OF BULK AT MOST 1048576: true; the input reads as it did. -/
def fnExactResolveParentUptoRow : OpenClaim := { program := "ytiafmpcmmohdkaagreat", sum := "ed66479eeac525f11c4e11035ebf43d83e6bca20c728340fc58a43ab6c42ad03", func := "loop.example/g00817/laws.FnExactResolveParent", spec := "fnExactResolveParent", inPlace := ["internal/bytealg.IndexByteString", "internal/bytealg.IndexString", "internal/abi.NoEscape", "internal/bytealg.MakeNoZero"], unfollowed := true, recurses := true, named := ["internal/bytealg.MaxLen"], apart := false, narrowed := true }
def FnExactResolveParentUptoSaid : Prop := fnExactResolveParentUptoRow.holds Tryz.pinned (OpenSpec.upto fnExactResolveParentSpec)

/-- 'laws.FnExactRemovableBy', WHERE WHAT IT READS IS OF BULK AT MOST 1048576: true; the input reads as it did. -/
def fnExactRemovableByUptoRow : OpenClaim := { program := "ytiafmpcmmohdkaagreat", sum := "ed66479eeac525f11c4e11035ebf43d83e6bca20c728340fc58a43ab6c42ad03", func := "loop.example/g00817/laws.FnExactRemovableBy", spec := "fnExactRemovableBy", inPlace := ["internal/bytealg.IndexByteString", "internal/bytealg.IndexString", "internal/abi.NoEscape", "internal/bytealg.MakeNoZero"], unfollowed := true, recurses := true, named := ["internal/bytealg.MaxLen"], apart := false, narrowed := true }
def FnExactRemovableByUptoSaid : Prop := fnExactRemovableByUptoRow.holds Tryz.pinned (OpenSpec.upto fnExactRemovableBySpec)

/-- 'laws.FnExactAddEntry', WHERE WHAT IT READS IS OF BULK AT MOST 1048576: true; the input reads as it did. -/
def fnExactAddEntryUptoRow : OpenClaim := { program := "ytiafmpcmmohdkaagreat", sum := "ed66479eeac525f11c4e11035ebf43d83e6bca20c728340fc58a43ab6c42ad03", func := "loop.example/g00817/laws.FnExactAddEntry", spec := "fnExactAddEntry", inPlace := ["internal/bytealg.IndexByteString", "internal/bytealg.IndexString", "internal/abi.NoEscape", "internal/bytealg.MakeNoZero"], unfollowed := true, recurses := true, named := ["internal/bytealg.MaxLen"], apart := false, narrowed := true }
def FnExactAddEntryUptoSaid : Prop := fnExactAddEntryUptoRow.holds Tryz.pinned (OpenSpec.upto fnExactAddEntrySpec)

/-- 'laws.FnExactRemoveEntry', WHERE WHAT IT READS IS OF BULK AT MOST 1048576: true; the input reads as it did. -/
def fnExactRemoveEntryUptoRow : OpenClaim := { program := "ytiafmpcmmohdkaagreat", sum := "ed66479eeac525f11c4e11035ebf43d83e6bca20c728340fc58a43ab6c42ad03", func := "loop.example/g00817/laws.FnExactRemoveEntry", spec := "fnExactRemoveEntry", inPlace := ["internal/bytealg.IndexByteString", "internal/bytealg.IndexString", "internal/abi.NoEscape", "internal/bytealg.MakeNoZero"], unfollowed := true, recurses := true, named := ["internal/bytealg.MaxLen"], apart := false, narrowed := true }
def FnExactRemoveEntryUptoSaid : Prop := fnExactRemoveEntryUptoRow.holds Tryz.pinned (OpenSpec.upto fnExactRemoveEntrySpec)

/-- 'laws.FnExactChangeAcl', WHERE WHAT IT READS IS OF BULK AT MOST 1048576: true; the input reads as it did. -/
def fnExactChangeAclUptoRow : OpenClaim := { program := "ytiafmpcmmohdkaagreat", sum := "ed66479eeac525f11c4e11035ebf43d83e6bca20c728340fc58a43ab6c42ad03", func := "loop.example/g00817/laws.FnExactChangeAcl", spec := "fnExactChangeAcl", inPlace := ["internal/bytealg.IndexByteString", "internal/bytealg.IndexString", "internal/abi.NoEscape", "internal/bytealg.MakeNoZero"], unfollowed := true, recurses := true, named := ["internal/bytealg.MaxLen"], apart := false, narrowed := true }
def FnExactChangeAclUptoSaid : Prop := fnExactChangeAclUptoRow.holds Tryz.pinned (OpenSpec.upto fnExactChangeAclSpec)

/-- 'laws.FnExactChangeMode', WHERE WHAT IT READS IS OF BULK AT MOST 1048576: true; the input reads as it did. -/
def fnExactChangeModeUptoRow : OpenClaim := { program := "ytiafmpcmmohdkaagreat", sum := "ed66479eeac525f11c4e11035ebf43d83e6bca20c728340fc58a43ab6c42ad03", func := "loop.example/g00817/laws.FnExactChangeMode", spec := "fnExactChangeMode", inPlace := ["internal/bytealg.IndexByteString", "internal/bytealg.IndexString", "internal/abi.NoEscape", "internal/bytealg.MakeNoZero"], unfollowed := true, recurses := true, named := ["internal/bytealg.MaxLen"], apart := false, narrowed := true }
def FnExactChangeModeUptoSaid : Prop := fnExactChangeModeUptoRow.holds Tryz.pinned (OpenSpec.upto fnExactChangeModeSpec)

/-- 'laws.FnExactLinkFile', WHERE WHAT IT READS IS OF BULK AT MOST 1048576: true; the input reads as it did. -/
def fnExactLinkFileUptoRow : OpenClaim := { program := "ytiafmpcmmohdkaagreat", sum := "ed66479eeac525f11c4e11035ebf43d83e6bca20c728340fc58a43ab6c42ad03", func := "loop.example/g00817/laws.FnExactLinkFile", spec := "fnExactLinkFile", inPlace := ["internal/bytealg.IndexByteString", "internal/bytealg.IndexString", "internal/abi.NoEscape", "internal/bytealg.MakeNoZero"], unfollowed := true, recurses := true, named := ["internal/bytealg.MaxLen"], apart := false, narrowed := true }
def FnExactLinkFileUptoSaid : Prop := fnExactLinkFileUptoRow.holds Tryz.pinned (OpenSpec.upto fnExactLinkFileSpec)

end Rows
end Go.Proofs.YtiafmpcmmohdkaaGreat
