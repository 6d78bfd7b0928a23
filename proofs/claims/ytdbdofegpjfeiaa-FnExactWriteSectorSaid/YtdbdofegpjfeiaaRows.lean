/-
  No cell of these rows narrows 'for every input' (looked for: loops, veiled, ifaces, maps, wideKeys, modest, calm, conditions, laid).
  DERIVED. THE GIVEN ROWS OF THIS SEAT. 6 by the template 'for every input the law returns true; each argument reads behind the call as it read before'; 0 by the template 'total and deterministic' (their statements: YtdbdofegpjfeiaaTotals.lean).
  GIVEN WITH THE SEED: the statements are not yours to turn. If you find one false, say at which input.
  Laid BY PROGRAM, IN A SANDBOX (cutbox-rows.mjs): the forced cells as the released guide's own fill.sh prints them over the translation 3df7241e537efcb3… (all of the seat's roots in one cut). By AI agents, Wed Nov 11 2026. No macro, syntax, notation, axiom, sorry.
-/
import Derived.Test.YtdbdofegpjfeiaaChecked
import GoSem.Claim
import GoSem.ClaimJoined
import GoSem.ClaimMapViews
import Derived.JoinedTies
import Derived.KernelRfl
namespace Go.Proofs.Ytdbdofegpjfeiaa
/- THE CELL 'sum', in the pinned program and in every row, IS THE sha256 OF THE DUMP (.gsa) THAT YtdbdofegpjfeiaaProg.lean LOADS. Nothing in Lean hashes anything: it is a label: what it is worth is what the hold of that sum in a sandbox is worth. -/
noncomputable def Try.pinned : Pinned := { name := "ytdbdofegpjfeiaa", sum := "3df7241e537efcb3399fdb78857a8630c577581412e366aeebf17772d5893c9f", checked := Try.checked }
namespace Rows
def none {H : Type} : Left H := { results := [], args := [] }

/-- 'laws.FnExactJoinPath': WHATEVER THE INPUT: true; the input reads as it did. -/
def fnExactJoinPathSpec : ChangeSpec := { name := "fnExactJoinPath", fn := fun _ => fun
  | [d] => { results := [.lit (.bool true)], args := [d] }
  | _ => none }
def fnExactJoinPathRow : OpenClaim := { program := "ytdbdofegpjfeiaa", sum := "3df7241e537efcb3399fdb78857a8630c577581412e366aeebf17772d5893c9f", func := "loop.example/g00817/laws.FnExactJoinPath", spec := "fnExactJoinPath", inPlace := ["internal/abi.NoEscape", "internal/bytealg.MakeNoZero"], apart := false }
def FnExactJoinPathSaid : Prop := fnExactJoinPathRow.holds Try.pinned (OpenSpec.ofChange fnExactJoinPathSpec)

/-- ITS FALSE NEIGHBOUR: 'it returns false'. Refute it at one input. -/
def fnExactJoinPathWrong : ChangeSpec := { name := "fnExactJoinPath", fn := fun _ => fun
  | [d] => { results := [.lit (.bool false)], args := [d] }
  | _ => none }
def FnExactJoinPathWrongFalsely : Prop := fnExactJoinPathRow.holds Try.pinned (OpenSpec.ofChange fnExactJoinPathWrong)

/-- 'laws.FnExactIsChange': WHATEVER THE INPUT: true; the input reads as it did. -/
def fnExactIsChangeSpec : ChangeSpec := { name := "fnExactIsChange", fn := fun _ => fun
  | [d] => { results := [.lit (.bool true)], args := [d] }
  | _ => none }
def fnExactIsChangeRow : OpenClaim := { program := "ytdbdofegpjfeiaa", sum := "3df7241e537efcb3399fdb78857a8630c577581412e366aeebf17772d5893c9f", func := "loop.example/g00817/laws.FnExactIsChange", spec := "fnExactIsChange", apart := false }
def FnExactIsChangeSaid : Prop := fnExactIsChangeRow.holds Try.pinned (OpenSpec.ofChange fnExactIsChangeSpec)

/-- ITS FALSE NEIGHBOUR: 'it returns false'. Refute it at one input. -/
def fnExactIsChangeWrong : ChangeSpec := { name := "fnExactIsChange", fn := fun _ => fun
  | [d] => { results := [.lit (.bool false)], args := [d] }
  | _ => none }
def FnExactIsChangeWrongFalsely : Prop := fnExactIsChangeRow.holds Try.pinned (OpenSpec.ofChange fnExactIsChangeWrong)

/-- 'laws.FnExactIsEntryName': WHATEVER THE INPUT: true; the input reads as it did. -/
def fnExactIsEntryNameSpec : ChangeSpec := { name := "fnExactIsEntryName", fn := fun _ => fun
  | [d] => { results := [.lit (.bool true)], args := [d] }
  | _ => none }
def fnExactIsEntryNameRow : OpenClaim := { program := "ytdbdofegpjfeiaa", sum := "3df7241e537efcb3399fdb78857a8630c577581412e366aeebf17772d5893c9f", func := "loop.example/g00817/laws.FnExactIsEntryName", spec := "fnExactIsEntryName", inPlace := ["internal/bytealg.IndexByteString", "internal/bytealg.IndexString"], named := ["internal/bytealg.MaxLen"], apart := false }
def FnExactIsEntryNameSaid : Prop := fnExactIsEntryNameRow.holds Try.pinned (OpenSpec.ofChange fnExactIsEntryNameSpec)

/-- ITS FALSE NEIGHBOUR: 'it returns false'. Refute it at one input. -/
def fnExactIsEntryNameWrong : ChangeSpec := { name := "fnExactIsEntryName", fn := fun _ => fun
  | [d] => { results := [.lit (.bool false)], args := [d] }
  | _ => none }
def FnExactIsEntryNameWrongFalsely : Prop := fnExactIsEntryNameRow.holds Try.pinned (OpenSpec.ofChange fnExactIsEntryNameWrong)

/-- 'laws.FnDisk': WHATEVER THE INPUT: true; the input reads as it did. -/
def fnDiskSpec : ChangeSpec := { name := "fnDisk", fn := fun _ => fun
  | [d] => { results := [.lit (.bool true)], args := [d] }
  | _ => none }
def fnDiskRow : OpenClaim := { program := "ytdbdofegpjfeiaa", sum := "3df7241e537efcb3399fdb78857a8630c577581412e366aeebf17772d5893c9f", func := "loop.example/g00817/laws.FnDisk", spec := "fnDisk", unfollowed := true, recurses := true, apart := false }
def FnDiskSaid : Prop := fnDiskRow.holds Try.pinned (OpenSpec.ofChange fnDiskSpec)

/-- ITS FALSE NEIGHBOUR: 'it returns false'. Refute it at one input. -/
def fnDiskWrong : ChangeSpec := { name := "fnDisk", fn := fun _ => fun
  | [d] => { results := [.lit (.bool false)], args := [d] }
  | _ => none }
def FnDiskWrongFalsely : Prop := fnDiskRow.holds Try.pinned (OpenSpec.ofChange fnDiskWrong)

/-- 'laws.FnExactWriteSector': WHATEVER THE INPUT: true; the input reads as it did. -/
def fnExactWriteSectorSpec : ChangeSpec := { name := "fnExactWriteSector", fn := fun _ => fun
  | [d1, d2, d3] => { results := [.lit (.bool true)], args := [d1, d2, d3] }
  | _ => none }
def fnExactWriteSectorRow : OpenClaim := { program := "ytdbdofegpjfeiaa", sum := "3df7241e537efcb3399fdb78857a8630c577581412e366aeebf17772d5893c9f", func := "loop.example/g00817/laws.FnExactWriteSector", spec := "fnExactWriteSector", apart := false }
def FnExactWriteSectorSaid : Prop := fnExactWriteSectorRow.holds Try.pinned (OpenSpec.ofChange fnExactWriteSectorSpec)

/-- ITS FALSE NEIGHBOUR: 'it returns false'. Refute it at one input. -/
def fnExactWriteSectorWrong : ChangeSpec := { name := "fnExactWriteSector", fn := fun _ => fun
  | [d1, d2, d3] => { results := [.lit (.bool false)], args := [d1, d2, d3] }
  | _ => none }
def FnExactWriteSectorWrongFalsely : Prop := fnExactWriteSectorRow.holds Try.pinned (OpenSpec.ofChange fnExactWriteSectorWrong)

/-- 'laws.FnExactSplitPath': WHATEVER THE INPUT: true; the input reads as it did. -/
def fnExactSplitPathSpec : ChangeSpec := { name := "fnExactSplitPath", fn := fun _ => fun
  | [d] => { results := [.lit (.bool true)], args := [d] }
  | _ => none }
def fnExactSplitPathRow : OpenClaim := { program := "ytdbdofegpjfeiaa", sum := "3df7241e537efcb3399fdb78857a8630c577581412e366aeebf17772d5893c9f", func := "loop.example/g00817/laws.FnExactSplitPath", spec := "fnExactSplitPath", inPlace := ["internal/bytealg.IndexByteString", "internal/bytealg.IndexString"], named := ["internal/bytealg.MaxLen"], apart := false }
def FnExactSplitPathSaid : Prop := fnExactSplitPathRow.holds Try.pinned (OpenSpec.ofChange fnExactSplitPathSpec)

/-- ITS FALSE NEIGHBOUR: 'it returns false'. Refute it at one input. -/
def fnExactSplitPathWrong : ChangeSpec := { name := "fnExactSplitPath", fn := fun _ => fun
  | [d] => { results := [.lit (.bool false)], args := [d] }
  | _ => none }
def FnExactSplitPathWrongFalsely : Prop := fnExactSplitPathRow.holds Try.pinned (OpenSpec.ofChange fnExactSplitPathWrong)

/- THE SECOND FORM. 'bulk': how many values and letters a reading holds, each counted each time it is reached (what is shared counts as often as it is met; a slice's spare places count too). A statement '..UptoSaid' is the law's where the arguments, and the package variables that the reading takes, are together of bulk at most 1048576: NARROWER than '..Said'. Prove '..Said' where nothing that the law and all that it calls make is longer than what came in: it says more and counts as full. Else prove '..UptoSaid'. A law counts once. -/
mutual
def uptoBulk {H : Type} : DataW H → Nat
  | .lit (.string bytes) => bytes.length + 1
  | .lit _ => 1
  | .nil => 1
  | .ptr d => uptoBulk d + 1
  | .slice elems spare => uptoBulkAll elems + uptoBulkAll spare + 1
  | .agg parts => uptoBulkAll parts + 1
  | .iface _ d => uptoBulk d + 1
  | .map entries => uptoBulkEntries entries + 1
  | .held _ => 1
def uptoBulkAll {H : Type} : List (DataW H) → Nat
  | [] => 0
  | d :: r => uptoBulk d + uptoBulkAll r
def uptoBulkEntries {H : Type} : List (Lit × DataW H) → Nat
  | [] => 0
  | x :: r => uptoBulkEntry x + uptoBulkEntries r
def uptoBulkEntry {H : Type} : Lit × DataW H → Nat
  | (.string bytes, d) => bytes.length + uptoBulk d + 1
  | (_, d) => uptoBulk d + 1
 end
def uptoSmall : (H : Type) → List (DataW H) → Bool := fun _ ds => decide (uptoBulkAll ds ≤ 1048576)
def OpenSpec.upto (s : _root_.Go.ChangeSpec) : _root_.Go.OpenSpec := { _root_.Go.OpenSpec.ofChange s with cond := some uptoSmall }

/-- 'laws.FnExactJoinPath', WHERE WHAT IT READS IS OF BULK AT MOST 1048576: true; the input reads as it did. -/
def fnExactJoinPathUptoRow : OpenClaim := { program := "ytdbdofegpjfeiaa", sum := "3df7241e537efcb3399fdb78857a8630c577581412e366aeebf17772d5893c9f", func := "loop.example/g00817/laws.FnExactJoinPath", spec := "fnExactJoinPath", inPlace := ["internal/abi.NoEscape", "internal/bytealg.MakeNoZero"], apart := false, narrowed := true }
def FnExactJoinPathUptoSaid : Prop := fnExactJoinPathUptoRow.holds Try.pinned (OpenSpec.upto fnExactJoinPathSpec)

/-- 'laws.FnExactIsChange', WHERE WHAT IT READS IS OF BULK AT MOST 1048576: true; the input reads as it did. -/
def fnExactIsChangeUptoRow : OpenClaim := { program := "ytdbdofegpjfeiaa", sum := "3df7241e537efcb3399fdb78857a8630c577581412e366aeebf17772d5893c9f", func := "loop.example/g00817/laws.FnExactIsChange", spec := "fnExactIsChange", apart := false, narrowed := true }
def FnExactIsChangeUptoSaid : Prop := fnExactIsChangeUptoRow.holds Try.pinned (OpenSpec.upto fnExactIsChangeSpec)

/-- 'laws.FnExactIsEntryName', WHERE WHAT IT READS IS OF BULK AT MOST 1048576: true; the input reads as it did. -/
def fnExactIsEntryNameUptoRow : OpenClaim := { program := "ytdbdofegpjfeiaa", sum := "3df7241e537efcb3399fdb78857a8630c577581412e366aeebf17772d5893c9f", func := "loop.example/g00817/laws.FnExactIsEntryName", spec := "fnExactIsEntryName", inPlace := ["internal/bytealg.IndexByteString", "internal/bytealg.IndexString"], named := ["internal/bytealg.MaxLen"], apart := false, narrowed := true }
def FnExactIsEntryNameUptoSaid : Prop := fnExactIsEntryNameUptoRow.holds Try.pinned (OpenSpec.upto fnExactIsEntryNameSpec)

/-- 'laws.FnDisk', WHERE WHAT IT READS IS OF BULK AT MOST 1048576: true; the input reads as it did. -/
def fnDiskUptoRow : OpenClaim := { program := "ytdbdofegpjfeiaa", sum := "3df7241e537efcb3399fdb78857a8630c577581412e366aeebf17772d5893c9f", func := "loop.example/g00817/laws.FnDisk", spec := "fnDisk", unfollowed := true, recurses := true, apart := false, narrowed := true }
def FnDiskUptoSaid : Prop := fnDiskUptoRow.holds Try.pinned (OpenSpec.upto fnDiskSpec)

/-- 'laws.FnExactWriteSector', WHERE WHAT IT READS IS OF BULK AT MOST 1048576: true; the input reads as it did. -/
def fnExactWriteSectorUptoRow : OpenClaim := { program := "ytdbdofegpjfeiaa", sum := "3df7241e537efcb3399fdb78857a8630c577581412e366aeebf17772d5893c9f", func := "loop.example/g00817/laws.FnExactWriteSector", spec := "fnExactWriteSector", apart := false, narrowed := true }
def FnExactWriteSectorUptoSaid : Prop := fnExactWriteSectorUptoRow.holds Try.pinned (OpenSpec.upto fnExactWriteSectorSpec)

/-- 'laws.FnExactSplitPath', WHERE WHAT IT READS IS OF BULK AT MOST 1048576: true; the input reads as it did. -/
def fnExactSplitPathUptoRow : OpenClaim := { program := "ytdbdofegpjfeiaa", sum := "3df7241e537efcb3399fdb78857a8630c577581412e366aeebf17772d5893c9f", func := "loop.example/g00817/laws.FnExactSplitPath", spec := "fnExactSplitPath", inPlace := ["internal/bytealg.IndexByteString", "internal/bytealg.IndexString"], named := ["internal/bytealg.MaxLen"], apart := false, narrowed := true }
def FnExactSplitPathUptoSaid : Prop := fnExactSplitPathUptoRow.holds Try.pinned (OpenSpec.upto fnExactSplitPathSpec)

end Rows
end Go.Proofs.Ytdbdofegpjfeiaa
