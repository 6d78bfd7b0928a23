/-
  No cell of these rows narrows 'for every input' (looked for: loops, veiled, ifaces, maps, wideKeys, modest, calm, conditions, laid).
  DERIVED. THE GIVEN ROWS OF THIS SEAT. 12 by the template 'for every input the law returns true; each argument reads behind the call as it read before'; 0 by the template 'total and deterministic' (their statements: YtnidlanekanlbaaTotals.lean).
  GIVEN WITH THE SEED: the statements are not yours to turn. If you find one false, say at which input.
  Laid BY PROGRAM, IN A SANDBOX (cutbox-rows.mjs): the forced cells as the released guide's own fill.sh prints them over the translation e256c93677648d05… (all of the seat's roots in one cut). By AI agents, Wed Nov 11 2026. No macro, syntax, notation, axiom, sorry.
-/
import Derived.Test.YtnidlanekanlbaaChecked
import GoSem.Claim
import GoSem.ClaimJoined
import GoSem.ClaimMapViews
import Derived.JoinedTies
import Derived.KernelRfl
namespace Go.Proofs.Ytnidlanekanlbaa
/- THE CELL 'sum', in the pinned program and in every row, IS THE sha256 OF THE DUMP (.gsa) THAT YtnidlanekanlbaaProg.lean LOADS. Nothing in Lean hashes anything: it is a label: what it is worth is what the hold of that sum in a sandbox is worth. -/
noncomputable def Try.pinned : Pinned := { name := "ytnidlanekanlbaa", sum := "e256c93677648d055c5bf3048bab1f13d7e38ad034712b6239727106c837b5ae", checked := Try.checked }
namespace Rows
def none {H : Type} : Left H := { results := [], args := [] }

/-- 'laws.FnExactRunSteps': WHATEVER THE INPUT: true; the input reads as it did. -/
def fnExactRunStepsSpec : ChangeSpec := { name := "fnExactRunSteps", fn := fun _ => fun
  | [d1, d2, d3] => { results := [.lit (.bool true)], args := [d1, d2, d3] }
  | _ => none }
def fnExactRunStepsRow : OpenClaim := { program := "ytnidlanekanlbaa", sum := "e256c93677648d055c5bf3048bab1f13d7e38ad034712b6239727106c837b5ae", func := "loop.example/g00817/laws.FnExactRunSteps", spec := "fnExactRunSteps", unfollowed := true, recurses := true, apart := false }
def FnExactRunStepsSaid : Prop := fnExactRunStepsRow.holds Try.pinned (OpenSpec.ofChange fnExactRunStepsSpec)

/-- ITS FALSE NEIGHBOUR: 'it returns false'. Refute it at one input. -/
def fnExactRunStepsWrong : ChangeSpec := { name := "fnExactRunSteps", fn := fun _ => fun
  | [d1, d2, d3] => { results := [.lit (.bool false)], args := [d1, d2, d3] }
  | _ => none }
def FnExactRunStepsWrongFalsely : Prop := fnExactRunStepsRow.holds Try.pinned (OpenSpec.ofChange fnExactRunStepsWrong)

/-- 'laws.FnExactSameSystem': WHATEVER THE INPUT: true; the input reads as it did. -/
def fnExactSameSystemSpec : ChangeSpec := { name := "fnExactSameSystem", fn := fun _ => fun
  | [d1, d2] => { results := [.lit (.bool true)], args := [d1, d2] }
  | _ => none }
def fnExactSameSystemRow : OpenClaim := { program := "ytnidlanekanlbaa", sum := "e256c93677648d055c5bf3048bab1f13d7e38ad034712b6239727106c837b5ae", func := "loop.example/g00817/laws.FnExactSameSystem", spec := "fnExactSameSystem", unfollowed := true, recurses := true, apart := false }
def FnExactSameSystemSaid : Prop := fnExactSameSystemRow.holds Try.pinned (OpenSpec.ofChange fnExactSameSystemSpec)

/-- ITS FALSE NEIGHBOUR: 'it returns false'. Refute it at one input. -/
def fnExactSameSystemWrong : ChangeSpec := { name := "fnExactSameSystem", fn := fun _ => fun
  | [d1, d2] => { results := [.lit (.bool false)], args := [d1, d2] }
  | _ => none }
def FnExactSameSystemWrongFalsely : Prop := fnExactSameSystemRow.holds Try.pinned (OpenSpec.ofChange fnExactSameSystemWrong)

/-- 'laws.FnExactReadBytes': WHATEVER THE INPUT: true; the input reads as it did. -/
def fnExactReadBytesSpec : ChangeSpec := { name := "fnExactReadBytes", fn := fun _ => fun
  | [d1, d2, d3, d4] => { results := [.lit (.bool true)], args := [d1, d2, d3, d4] }
  | _ => none }
def fnExactReadBytesRow : OpenClaim := { program := "ytnidlanekanlbaa", sum := "e256c93677648d055c5bf3048bab1f13d7e38ad034712b6239727106c837b5ae", func := "loop.example/g00817/laws.FnExactReadBytes", spec := "fnExactReadBytes", apart := false }
def FnExactReadBytesSaid : Prop := fnExactReadBytesRow.holds Try.pinned (OpenSpec.ofChange fnExactReadBytesSpec)

/-- ITS FALSE NEIGHBOUR: 'it returns false'. Refute it at one input. -/
def fnExactReadBytesWrong : ChangeSpec := { name := "fnExactReadBytes", fn := fun _ => fun
  | [d1, d2, d3, d4] => { results := [.lit (.bool false)], args := [d1, d2, d3, d4] }
  | _ => none }
def FnExactReadBytesWrongFalsely : Prop := fnExactReadBytesRow.holds Try.pinned (OpenSpec.ofChange fnExactReadBytesWrong)

/-- 'laws.FnExactRecoverDisk': WHATEVER THE INPUT: true; the input reads as it did. -/
def fnExactRecoverDiskSpec : ChangeSpec := { name := "fnExactRecoverDisk", fn := fun _ => fun
  | [d] => { results := [.lit (.bool true)], args := [d] }
  | _ => none }
def fnExactRecoverDiskRow : OpenClaim := { program := "ytnidlanekanlbaa", sum := "e256c93677648d055c5bf3048bab1f13d7e38ad034712b6239727106c837b5ae", func := "loop.example/g00817/laws.FnExactRecoverDisk", spec := "fnExactRecoverDisk", inPlace := ["internal/abi.NoEscape", "internal/bytealg.MakeNoZero"], unfollowed := true, recurses := true, apart := false }
def FnExactRecoverDiskSaid : Prop := fnExactRecoverDiskRow.holds Try.pinned (OpenSpec.ofChange fnExactRecoverDiskSpec)

/-- ITS FALSE NEIGHBOUR: 'it returns false'. Refute it at one input. -/
def fnExactRecoverDiskWrong : ChangeSpec := { name := "fnExactRecoverDisk", fn := fun _ => fun
  | [d] => { results := [.lit (.bool false)], args := [d] }
  | _ => none }
def FnExactRecoverDiskWrongFalsely : Prop := fnExactRecoverDiskRow.holds Try.pinned (OpenSpec.ofChange fnExactRecoverDiskWrong)

/-- 'laws.FnExactNewOwner': WHATEVER THE INPUT: true; the input reads as it did. -/
def fnExactNewOwnerSpec : ChangeSpec := { name := "fnExactNewOwner", fn := fun _ => fun
  | [d1, d2, d3] => { results := [.lit (.bool true)], args := [d1, d2, d3] }
  | _ => none }
def fnExactNewOwnerRow : OpenClaim := { program := "ytnidlanekanlbaa", sum := "e256c93677648d055c5bf3048bab1f13d7e38ad034712b6239727106c837b5ae", func := "loop.example/g00817/laws.FnExactNewOwner", spec := "fnExactNewOwner", apart := false }
def FnExactNewOwnerSaid : Prop := fnExactNewOwnerRow.holds Try.pinned (OpenSpec.ofChange fnExactNewOwnerSpec)

/-- ITS FALSE NEIGHBOUR: 'it returns false'. Refute it at one input. -/
def fnExactNewOwnerWrong : ChangeSpec := { name := "fnExactNewOwner", fn := fun _ => fun
  | [d1, d2, d3] => { results := [.lit (.bool false)], args := [d1, d2, d3] }
  | _ => none }
def FnExactNewOwnerWrongFalsely : Prop := fnExactNewOwnerRow.holds Try.pinned (OpenSpec.ofChange fnExactNewOwnerWrong)

/-- 'laws.FnExactOrphansOf': WHATEVER THE INPUT: true; the input reads as it did. -/
def fnExactOrphansOfSpec : ChangeSpec := { name := "fnExactOrphansOf", fn := fun _ => fun
  | [d] => { results := [.lit (.bool true)], args := [d] }
  | _ => none }
def fnExactOrphansOfRow : OpenClaim := { program := "ytnidlanekanlbaa", sum := "e256c93677648d055c5bf3048bab1f13d7e38ad034712b6239727106c837b5ae", func := "loop.example/g00817/laws.FnExactOrphansOf", spec := "fnExactOrphansOf", apart := false }
def FnExactOrphansOfSaid : Prop := fnExactOrphansOfRow.holds Try.pinned (OpenSpec.ofChange fnExactOrphansOfSpec)

/-- ITS FALSE NEIGHBOUR: 'it returns false'. Refute it at one input. -/
def fnExactOrphansOfWrong : ChangeSpec := { name := "fnExactOrphansOf", fn := fun _ => fun
  | [d] => { results := [.lit (.bool false)], args := [d] }
  | _ => none }
def FnExactOrphansOfWrongFalsely : Prop := fnExactOrphansOfRow.holds Try.pinned (OpenSpec.ofChange fnExactOrphansOfWrong)

/-- 'laws.FnExactInheritedAcl': WHATEVER THE INPUT: true; the input reads as it did. -/
def fnExactInheritedAclSpec : ChangeSpec := { name := "fnExactInheritedAcl", fn := fun _ => fun
  | [d1, d2] => { results := [.lit (.bool true)], args := [d1, d2] }
  | _ => none }
def fnExactInheritedAclRow : OpenClaim := { program := "ytnidlanekanlbaa", sum := "e256c93677648d055c5bf3048bab1f13d7e38ad034712b6239727106c837b5ae", func := "loop.example/g00817/laws.FnExactInheritedAcl", spec := "fnExactInheritedAcl", apart := false }
def FnExactInheritedAclSaid : Prop := fnExactInheritedAclRow.holds Try.pinned (OpenSpec.ofChange fnExactInheritedAclSpec)

/-- ITS FALSE NEIGHBOUR: 'it returns false'. Refute it at one input. -/
def fnExactInheritedAclWrong : ChangeSpec := { name := "fnExactInheritedAcl", fn := fun _ => fun
  | [d1, d2] => { results := [.lit (.bool false)], args := [d1, d2] }
  | _ => none }
def FnExactInheritedAclWrongFalsely : Prop := fnExactInheritedAclRow.holds Try.pinned (OpenSpec.ofChange fnExactInheritedAclWrong)

/-- 'laws.FnExactNewFS': WHATEVER THE INPUT: true; the input reads as it did. -/
def fnExactNewFSSpec : ChangeSpec := { name := "fnExactNewFS", fn := fun _ => fun
  | [d] => { results := [.lit (.bool true)], args := [d] }
  | _ => none }
def fnExactNewFSRow : OpenClaim := { program := "ytnidlanekanlbaa", sum := "e256c93677648d055c5bf3048bab1f13d7e38ad034712b6239727106c837b5ae", func := "loop.example/g00817/laws.FnExactNewFS", spec := "fnExactNewFS", apart := false }
def FnExactNewFSSaid : Prop := fnExactNewFSRow.holds Try.pinned (OpenSpec.ofChange fnExactNewFSSpec)

/-- ITS FALSE NEIGHBOUR: 'it returns false'. Refute it at one input. -/
def fnExactNewFSWrong : ChangeSpec := { name := "fnExactNewFS", fn := fun _ => fun
  | [d] => { results := [.lit (.bool false)], args := [d] }
  | _ => none }
def FnExactNewFSWrongFalsely : Prop := fnExactNewFSRow.holds Try.pinned (OpenSpec.ofChange fnExactNewFSWrong)

/-- 'laws.FnExactMayAccess': WHATEVER THE INPUT: true; the input reads as it did. -/
def fnExactMayAccessSpec : ChangeSpec := { name := "fnExactMayAccess", fn := fun _ => fun
  | [d1, d2, d3, d4] => { results := [.lit (.bool true)], args := [d1, d2, d3, d4] }
  | _ => none }
def fnExactMayAccessRow : OpenClaim := { program := "ytnidlanekanlbaa", sum := "e256c93677648d055c5bf3048bab1f13d7e38ad034712b6239727106c837b5ae", func := "loop.example/g00817/laws.FnExactMayAccess", spec := "fnExactMayAccess", unfollowed := true, recurses := true, apart := false }
def FnExactMayAccessSaid : Prop := fnExactMayAccessRow.holds Try.pinned (OpenSpec.ofChange fnExactMayAccessSpec)

/-- ITS FALSE NEIGHBOUR: 'it returns false'. Refute it at one input. -/
def fnExactMayAccessWrong : ChangeSpec := { name := "fnExactMayAccess", fn := fun _ => fun
  | [d1, d2, d3, d4] => { results := [.lit (.bool false)], args := [d1, d2, d3, d4] }
  | _ => none }
def FnExactMayAccessWrongFalsely : Prop := fnExactMayAccessRow.holds Try.pinned (OpenSpec.ofChange fnExactMayAccessWrong)

/-- 'laws.FnExactIsSystem': WHATEVER THE INPUT: true; the input reads as it did. -/
def fnExactIsSystemSpec : ChangeSpec := { name := "fnExactIsSystem", fn := fun _ => fun
  | [d] => { results := [.lit (.bool true)], args := [d] }
  | _ => none }
def fnExactIsSystemRow : OpenClaim := { program := "ytnidlanekanlbaa", sum := "e256c93677648d055c5bf3048bab1f13d7e38ad034712b6239727106c837b5ae", func := "loop.example/g00817/laws.FnExactIsSystem", spec := "fnExactIsSystem", apart := false }
def FnExactIsSystemSaid : Prop := fnExactIsSystemRow.holds Try.pinned (OpenSpec.ofChange fnExactIsSystemSpec)

/-- ITS FALSE NEIGHBOUR: 'it returns false'. Refute it at one input. -/
def fnExactIsSystemWrong : ChangeSpec := { name := "fnExactIsSystem", fn := fun _ => fun
  | [d] => { results := [.lit (.bool false)], args := [d] }
  | _ => none }
def FnExactIsSystemWrongFalsely : Prop := fnExactIsSystemRow.holds Try.pinned (OpenSpec.ofChange fnExactIsSystemWrong)

/-- 'laws.FnExactSetQuota': WHATEVER THE INPUT: true; the input reads as it did. -/
def fnExactSetQuotaSpec : ChangeSpec := { name := "fnExactSetQuota", fn := fun _ => fun
  | [d1, d2, d3, d4] => { results := [.lit (.bool true)], args := [d1, d2, d3, d4] }
  | _ => none }
def fnExactSetQuotaRow : OpenClaim := { program := "ytnidlanekanlbaa", sum := "e256c93677648d055c5bf3048bab1f13d7e38ad034712b6239727106c837b5ae", func := "loop.example/g00817/laws.FnExactSetQuota", spec := "fnExactSetQuota", unfollowed := true, recurses := true, apart := false }
def FnExactSetQuotaSaid : Prop := fnExactSetQuotaRow.holds Try.pinned (OpenSpec.ofChange fnExactSetQuotaSpec)

/-- ITS FALSE NEIGHBOUR: 'it returns false'. Refute it at one input. -/
def fnExactSetQuotaWrong : ChangeSpec := { name := "fnExactSetQuota", fn := fun _ => fun
  | [d1, d2, d3, d4] => { results := [.lit (.bool false)], args := [d1, d2, d3, d4] }
  | _ => none }
def FnExactSetQuotaWrongFalsely : Prop := fnExactSetQuotaRow.holds Try.pinned (OpenSpec.ofChange fnExactSetQuotaWrong)

/-- 'laws.FnExactFreeObject': WHATEVER THE INPUT: true; the input reads as it did. -/
def fnExactFreeObjectSpec : ChangeSpec := { name := "fnExactFreeObject", fn := fun _ => fun
  | [d1, d2] => { results := [.lit (.bool true)], args := [d1, d2] }
  | _ => none }
def fnExactFreeObjectRow : OpenClaim := { program := "ytnidlanekanlbaa", sum := "e256c93677648d055c5bf3048bab1f13d7e38ad034712b6239727106c837b5ae", func := "loop.example/g00817/laws.FnExactFreeObject", spec := "fnExactFreeObject", unfollowed := true, recurses := true, apart := false }
def FnExactFreeObjectSaid : Prop := fnExactFreeObjectRow.holds Try.pinned (OpenSpec.ofChange fnExactFreeObjectSpec)

/-- ITS FALSE NEIGHBOUR: 'it returns false'. Refute it at one input. -/
def fnExactFreeObjectWrong : ChangeSpec := { name := "fnExactFreeObject", fn := fun _ => fun
  | [d1, d2] => { results := [.lit (.bool false)], args := [d1, d2] }
  | _ => none }
def FnExactFreeObjectWrongFalsely : Prop := fnExactFreeObjectRow.holds Try.pinned (OpenSpec.ofChange fnExactFreeObjectWrong)

/- THE SECOND FORM. 'bulk': how many values and letters a reading holds, each counted each time it is reached (what is shared counts as often as it is met; a slice's spare places count too). A statement '..UptoSaid' is the law's where the arguments, and the package variables that the reading takes, are together of bulk at most 1048576: NARROWER than '..Said'. Prove '..Said' where nothing that the law and all that it calls make is longer than what came in: it says more and counts as full. Else prove '..UptoSaid'. A law counts once. -/
mutual
def uptoBulk {H : Type} : DataW H → Nat
  | .lit (.string bytes) => bytes.length + 1
  | .lit _ => 1
  | .nil => 1
  | .ptr d => uptoBulk d + 1
  | .slice elems spare => uptoBulkAll elems + uptoBulkAll spare + 1
  | .agg parts => uptoBulkAll parts + 1
  | .iface _ d => uptoBulk d + 1
  | .map entries => uptoBulkEntries entries + 1
  | .held _ => 1
def uptoBulkAll {H : Type} : List (DataW H) → Nat
  | [] => 0
  | d :: r => uptoBulk d + uptoBulkAll r
def uptoBulkEntries {H : Type} : List (Lit × DataW H) → Nat
  | [] => 0
  | x :: r => uptoBulkEntry x + uptoBulkEntries r
def uptoBulkEntry {H : Type} : Lit × DataW H → Nat
  | (.string bytes, d) => bytes.length + uptoBulk d + 1
  | (_, d) => uptoBulk d + 1
 end
def uptoSmall : (H : Type) → List (DataW H) → Bool := fun _ ds => decide (uptoBulkAll ds ≤ 1048576)
def OpenSpec.upto (s : _root_.Go.ChangeSpec) : _root_.Go.OpenSpec := { _root_.Go.OpenSpec.ofChange s with cond := some uptoSmall }

/-- 'laws.FnExactRunSteps', WHERE WHAT IT READS IS OF BULK AT MOST 1048576: true; the input reads as it did. -/
def fnExactRunStepsUptoRow : OpenClaim := { program := "ytnidlanekanlbaa", sum := "e256c93677648d055c5bf3048bab1f13d7e38ad034712b6239727106c837b5ae", func := "loop.example/g00817/laws.FnExactRunSteps", spec := "fnExactRunSteps", unfollowed := true, recurses := true, apart := false, narrowed := true }
def FnExactRunStepsUptoSaid : Prop := fnExactRunStepsUptoRow.holds Try.pinned (OpenSpec.upto fnExactRunStepsSpec)

/-- 'laws.FnExactSameSystem', WHERE WHAT IT READS IS OF BULK AT MOST 1048576: true; the input reads as it did. -/
def fnExactSameSystemUptoRow : OpenClaim := { program := "ytnidlanekanlbaa", sum := "e256c93677648d055c5bf3048bab1f13d7e38ad034712b6239727106c837b5ae", func := "loop.example/g00817/laws.FnExactSameSystem", spec := "fnExactSameSystem", unfollowed := true, recurses := true, apart := false, narrowed := true }
def FnExactSameSystemUptoSaid : Prop := fnExactSameSystemUptoRow.holds Try.pinned (OpenSpec.upto fnExactSameSystemSpec)

/-- 'laws.FnExactReadBytes', WHERE WHAT IT READS IS OF BULK AT MOST 1048576: true; the input reads as it did. -/
def fnExactReadBytesUptoRow : OpenClaim := { program := "ytnidlanekanlbaa", sum := "e256c93677648d055c5bf3048bab1f13d7e38ad034712b6239727106c837b5ae", func := "loop.example/g00817/laws.FnExactReadBytes", spec := "fnExactReadBytes", apart := false, narrowed := true }
def FnExactReadBytesUptoSaid : Prop := fnExactReadBytesUptoRow.holds Try.pinned (OpenSpec.upto fnExactReadBytesSpec)

/-- 'laws.FnExactRecoverDisk', WHERE WHAT IT READS IS OF BULK AT MOST 1048576: true; the input reads as it did. -/
def fnExactRecoverDiskUptoRow : OpenClaim := { program := "ytnidlanekanlbaa", sum := "e256c93677648d055c5bf3048bab1f13d7e38ad034712b6239727106c837b5ae", func := "loop.example/g00817/laws.FnExactRecoverDisk", spec := "fnExactRecoverDisk", inPlace := ["internal/abi.NoEscape", "internal/bytealg.MakeNoZero"], unfollowed := true, recurses := true, apart := false, narrowed := true }
def FnExactRecoverDiskUptoSaid : Prop := fnExactRecoverDiskUptoRow.holds Try.pinned (OpenSpec.upto fnExactRecoverDiskSpec)

/-- 'laws.FnExactNewOwner', WHERE WHAT IT READS IS OF BULK AT MOST 1048576: true; the input reads as it did. -/
def fnExactNewOwnerUptoRow : OpenClaim := { program := "ytnidlanekanlbaa", sum := "e256c93677648d055c5bf3048bab1f13d7e38ad034712b6239727106c837b5ae", func := "loop.example/g00817/laws.FnExactNewOwner", spec := "fnExactNewOwner", apart := false, narrowed := true }
def FnExactNewOwnerUptoSaid : Prop := fnExactNewOwnerUptoRow.holds Try.pinned (OpenSpec.upto fnExactNewOwnerSpec)

/-- 'laws.FnExactOrphansOf', WHERE WHAT IT READS IS OF BULK AT MOST 1048576: true; the input reads as it did. -/
def fnExactOrphansOfUptoRow : OpenClaim := { program := "ytnidlanekanlbaa", sum := "e256c93677648d055c5bf3048bab1f13d7e38ad034712b6239727106c837b5ae", func := "loop.example/g00817/laws.FnExactOrphansOf", spec := "fnExactOrphansOf", apart := false, narrowed := true }
def FnExactOrphansOfUptoSaid : Prop := fnExactOrphansOfUptoRow.holds Try.pinned (OpenSpec.upto fnExactOrphansOfSpec)

/-- 'laws.FnExactInheritedAcl', WHERE WHAT IT READS IS OF BULK AT MOST 1048576: true; the input reads as it did. -/
def fnExactInheritedAclUptoRow : OpenClaim := { program := "ytnidlanekanlbaa", sum := "e256c93677648d055c5bf3048bab1f13d7e38ad034712b6239727106c837b5ae", func := "loop.example/g00817/laws.FnExactInheritedAcl", spec := "fnExactInheritedAcl", apart := false, narrowed := true }
def FnExactInheritedAclUptoSaid : Prop := fnExactInheritedAclUptoRow.holds Try.pinned (OpenSpec.upto fnExactInheritedAclSpec)

/-- 'laws.FnExactNewFS', WHERE WHAT IT READS IS OF BULK AT MOST 1048576: true; the input reads as it did. -/
def fnExactNewFSUptoRow : OpenClaim := { program := "ytnidlanekanlbaa", sum := "e256c93677648d055c5bf3048bab1f13d7e38ad034712b6239727106c837b5ae", func := "loop.example/g00817/laws.FnExactNewFS", spec := "fnExactNewFS", apart := false, narrowed := true }
def FnExactNewFSUptoSaid : Prop := fnExactNewFSUptoRow.holds Try.pinned (OpenSpec.upto fnExactNewFSSpec)

/-- 'laws.FnExactMayAccess', WHERE WHAT IT READS IS OF BULK AT MOST 1048576: true; the input reads as it did. -/
def fnExactMayAccessUptoRow : OpenClaim := { program := "ytnidlanekanlbaa", sum := "e256c93677648d055c5bf3048bab1f13d7e38ad034712b6239727106c837b5ae", func := "loop.example/g00817/laws.FnExactMayAccess", spec := "fnExactMayAccess", unfollowed := true, recurses := true, apart := false, narrowed := true }
def FnExactMayAccessUptoSaid : Prop := fnExactMayAccessUptoRow.holds Try.pinned (OpenSpec.upto fnExactMayAccessSpec)

/-- 'laws.FnExactIsSystem', WHERE WHAT IT READS IS OF BULK AT MOST 1048576: true; the input reads as it did. -/
def fnExactIsSystemUptoRow : OpenClaim := { program := "ytnidlanekanlbaa", sum := "e256c93677648d055c5bf3048bab1f13d7e38ad034712b6239727106c837b5ae", func := "loop.example/g00817/laws.FnExactIsSystem", spec := "fnExactIsSystem", apart := false, narrowed := true }
def FnExactIsSystemUptoSaid : Prop := fnExactIsSystemUptoRow.holds Try.pinned (OpenSpec.upto fnExactIsSystemSpec)

/-- 'laws.FnExactSetQuota', WHERE WHAT IT READS IS OF BULK AT MOST 1048576: true; the input reads as it did. -/
def fnExactSetQuotaUptoRow : OpenClaim := { program := "ytnidlanekanlbaa", sum := "e256c93677648d055c5bf3048bab1f13d7e38ad034712b6239727106c837b5ae", func := "loop.example/g00817/laws.FnExactSetQuota", spec := "fnExactSetQuota", unfollowed := true, recurses := true, apart := false, narrowed := true }
def FnExactSetQuotaUptoSaid : Prop := fnExactSetQuotaUptoRow.holds Try.pinned (OpenSpec.upto fnExactSetQuotaSpec)

/-- 'laws.FnExactFreeObject', WHERE WHAT IT READS IS OF BULK AT MOST 1048576: true; the input reads as it did. -/
def fnExactFreeObjectUptoRow : OpenClaim := { program := "ytnidlanekanlbaa", sum := "e256c93677648d055c5bf3048bab1f13d7e38ad034712b6239727106c837b5ae", func := "loop.example/g00817/laws.FnExactFreeObject", spec := "fnExactFreeObject", unfollowed := true, recurses := true, apart := false, narrowed := true }
def FnExactFreeObjectUptoSaid : Prop := fnExactFreeObjectUptoRow.holds Try.pinned (OpenSpec.upto fnExactFreeObjectSpec)

end Rows
end Go.Proofs.Ytnidlanekanlbaa
