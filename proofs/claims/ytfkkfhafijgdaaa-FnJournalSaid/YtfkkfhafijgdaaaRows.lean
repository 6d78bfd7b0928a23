/-
  No cell of these rows narrows 'for every input' (looked for: loops, veiled, ifaces, maps, wideKeys, modest, calm, conditions, laid).
  DERIVED. THE GIVEN ROWS OF THIS SEAT. 7 by the template 'for every input the law returns true; each argument reads behind the call as it read before'; 0 by the template 'total and deterministic' (their statements: YtfkkfhafijgdaaaTotals.lean).
  GIVEN WITH THE SEED: the statements are not yours to turn. If you find one false, say at which input.
  Laid BY PROGRAM, IN A SANDBOX (cutbox-rows.mjs): the forced cells as the released guide's own fill.sh prints them over the translation b725af241fef90c5… (all of the seat's roots in one cut). By AI agents, Wed Nov 11 2026. No macro, syntax, notation, axiom, sorry.
-/
import Derived.Test.YtfkkfhafijgdaaaChecked
import GoSem.Claim
import GoSem.ClaimJoined
import GoSem.ClaimMapViews
import Derived.JoinedTies
import Derived.KernelRfl
namespace Go.Proofs.Ytfkkfhafijgdaaa
/- THE CELL 'sum', in the pinned program and in every row, IS THE sha256 OF THE DUMP (.gsa) THAT YtfkkfhafijgdaaaProg.lean LOADS. Nothing in Lean hashes anything: it is a label: what it is worth is what the hold of that sum in a sandbox is worth. -/
noncomputable def Try.pinned : Pinned := { name := "ytfkkfhafijgdaaa", sum := "b725af241fef90c5d53811ba85fe1e544753a82f6e60ef46944e527952645b62", checked := Try.checked }
namespace Rows
def none {H : Type} : Left H := { results := [], args := [] }

/-- 'laws.FnSystems': WHATEVER THE INPUT: true; the input reads as it did. -/
def fnSystemsSpec : ChangeSpec := { name := "fnSystems", fn := fun _ => fun
  | [d] => { results := [.lit (.bool true)], args := [d] }
  | _ => none }
def fnSystemsRow : OpenClaim := { program := "ytfkkfhafijgdaaa", sum := "b725af241fef90c5d53811ba85fe1e544753a82f6e60ef46944e527952645b62", func := "loop.example/g00817/laws.FnSystems", spec := "fnSystems", unfollowed := true, recurses := true, apart := false }
def FnSystemsSaid : Prop := fnSystemsRow.holds Try.pinned (OpenSpec.ofChange fnSystemsSpec)

/-- ITS FALSE NEIGHBOUR: 'it returns false'. Refute it at one input. -/
def fnSystemsWrong : ChangeSpec := { name := "fnSystems", fn := fun _ => fun
  | [d] => { results := [.lit (.bool false)], args := [d] }
  | _ => none }
def FnSystemsWrongFalsely : Prop := fnSystemsRow.holds Try.pinned (OpenSpec.ofChange fnSystemsWrong)

/-- 'laws.FnMoveOwner': WHATEVER THE INPUT: true; the input reads as it did. -/
def fnMoveOwnerSpec : ChangeSpec := { name := "fnMoveOwner", fn := fun _ => fun
  | [d] => { results := [.lit (.bool true)], args := [d] }
  | _ => none }
def fnMoveOwnerRow : OpenClaim := { program := "ytfkkfhafijgdaaa", sum := "b725af241fef90c5d53811ba85fe1e544753a82f6e60ef46944e527952645b62", func := "loop.example/g00817/laws.FnMoveOwner", spec := "fnMoveOwner", unfollowed := true, recurses := true, apart := false }
def FnMoveOwnerSaid : Prop := fnMoveOwnerRow.holds Try.pinned (OpenSpec.ofChange fnMoveOwnerSpec)

/-- ITS FALSE NEIGHBOUR: 'it returns false'. Refute it at one input. -/
def fnMoveOwnerWrong : ChangeSpec := { name := "fnMoveOwner", fn := fun _ => fun
  | [d] => { results := [.lit (.bool false)], args := [d] }
  | _ => none }
def FnMoveOwnerWrongFalsely : Prop := fnMoveOwnerRow.holds Try.pinned (OpenSpec.ofChange fnMoveOwnerWrong)

/-- 'laws.FnResize': WHATEVER THE INPUT: true; the input reads as it did. -/
def fnResizeSpec : ChangeSpec := { name := "fnResize", fn := fun _ => fun
  | [d] => { results := [.lit (.bool true)], args := [d] }
  | _ => none }
def fnResizeRow : OpenClaim := { program := "ytfkkfhafijgdaaa", sum := "b725af241fef90c5d53811ba85fe1e544753a82f6e60ef46944e527952645b62", func := "loop.example/g00817/laws.FnResize", spec := "fnResize", inPlace := ["internal/abi.NoEscape", "internal/bytealg.MakeNoZero"], unfollowed := true, recurses := true, apart := false }
def FnResizeSaid : Prop := fnResizeRow.holds Try.pinned (OpenSpec.ofChange fnResizeSpec)

/-- ITS FALSE NEIGHBOUR: 'it returns false'. Refute it at one input. -/
def fnResizeWrong : ChangeSpec := { name := "fnResize", fn := fun _ => fun
  | [d] => { results := [.lit (.bool false)], args := [d] }
  | _ => none }
def FnResizeWrongFalsely : Prop := fnResizeRow.holds Try.pinned (OpenSpec.ofChange fnResizeWrong)

/-- 'laws.FnContent': WHATEVER THE INPUT: true; the input reads as it did. -/
def fnContentSpec : ChangeSpec := { name := "fnContent", fn := fun _ => fun
  | [d] => { results := [.lit (.bool true)], args := [d] }
  | _ => none }
def fnContentRow : OpenClaim := { program := "ytfkkfhafijgdaaa", sum := "b725af241fef90c5d53811ba85fe1e544753a82f6e60ef46944e527952645b62", func := "loop.example/g00817/laws.FnContent", spec := "fnContent", inPlace := ["internal/abi.NoEscape", "internal/bytealg.MakeNoZero"], unfollowed := true, recurses := true, apart := false }
def FnContentSaid : Prop := fnContentRow.holds Try.pinned (OpenSpec.ofChange fnContentSpec)

/-- ITS FALSE NEIGHBOUR: 'it returns false'. Refute it at one input. -/
def fnContentWrong : ChangeSpec := { name := "fnContent", fn := fun _ => fun
  | [d] => { results := [.lit (.bool false)], args := [d] }
  | _ => none }
def FnContentWrongFalsely : Prop := fnContentRow.holds Try.pinned (OpenSpec.ofChange fnContentWrong)

/-- 'laws.FnExactRecoverDisk': WHATEVER THE INPUT: true; the input reads as it did. -/
def fnExactRecoverDiskSpec : ChangeSpec := { name := "fnExactRecoverDisk", fn := fun _ => fun
  | [d] => { results := [.lit (.bool true)], args := [d] }
  | _ => none }
def fnExactRecoverDiskRow : OpenClaim := { program := "ytfkkfhafijgdaaa", sum := "b725af241fef90c5d53811ba85fe1e544753a82f6e60ef46944e527952645b62", func := "loop.example/g00817/laws.FnExactRecoverDisk", spec := "fnExactRecoverDisk", inPlace := ["internal/abi.NoEscape", "internal/bytealg.MakeNoZero"], unfollowed := true, recurses := true, apart := false }
def FnExactRecoverDiskSaid : Prop := fnExactRecoverDiskRow.holds Try.pinned (OpenSpec.ofChange fnExactRecoverDiskSpec)

/-- ITS FALSE NEIGHBOUR: 'it returns false'. Refute it at one input. -/
def fnExactRecoverDiskWrong : ChangeSpec := { name := "fnExactRecoverDisk", fn := fun _ => fun
  | [d] => { results := [.lit (.bool false)], args := [d] }
  | _ => none }
def FnExactRecoverDiskWrongFalsely : Prop := fnExactRecoverDiskRow.holds Try.pinned (OpenSpec.ofChange fnExactRecoverDiskWrong)

/-- 'laws.FnCommit': WHATEVER THE INPUT: true; the input reads as it did. -/
def fnCommitSpec : ChangeSpec := { name := "fnCommit", fn := fun _ => fun
  | [d] => { results := [.lit (.bool true)], args := [d] }
  | _ => none }
def fnCommitRow : OpenClaim := { program := "ytfkkfhafijgdaaa", sum := "b725af241fef90c5d53811ba85fe1e544753a82f6e60ef46944e527952645b62", func := "loop.example/g00817/laws.FnCommit", spec := "fnCommit", inPlace := ["internal/abi.NoEscape", "internal/bytealg.MakeNoZero"], apart := false }
def FnCommitSaid : Prop := fnCommitRow.holds Try.pinned (OpenSpec.ofChange fnCommitSpec)

/-- ITS FALSE NEIGHBOUR: 'it returns false'. Refute it at one input. -/
def fnCommitWrong : ChangeSpec := { name := "fnCommit", fn := fun _ => fun
  | [d] => { results := [.lit (.bool false)], args := [d] }
  | _ => none }
def FnCommitWrongFalsely : Prop := fnCommitRow.holds Try.pinned (OpenSpec.ofChange fnCommitWrong)

/-- 'laws.FnJournal': WHATEVER THE INPUT: true; the input reads as it did. -/
def fnJournalSpec : ChangeSpec := { name := "fnJournal", fn := fun _ => fun
  | [d] => { results := [.lit (.bool true)], args := [d] }
  | _ => none }
def fnJournalRow : OpenClaim := { program := "ytfkkfhafijgdaaa", sum := "b725af241fef90c5d53811ba85fe1e544753a82f6e60ef46944e527952645b62", func := "loop.example/g00817/laws.FnJournal", spec := "fnJournal", inPlace := ["internal/abi.NoEscape", "internal/bytealg.MakeNoZero"], unfollowed := true, recurses := true, apart := false }
def FnJournalSaid : Prop := fnJournalRow.holds Try.pinned (OpenSpec.ofChange fnJournalSpec)

/-- ITS FALSE NEIGHBOUR: 'it returns false'. Refute it at one input. -/
def fnJournalWrong : ChangeSpec := { name := "fnJournal", fn := fun _ => fun
  | [d] => { results := [.lit (.bool false)], args := [d] }
  | _ => none }
def FnJournalWrongFalsely : Prop := fnJournalRow.holds Try.pinned (OpenSpec.ofChange fnJournalWrong)

/- THE SECOND FORM. 'bulk': how many values and letters a reading holds, each counted each time it is reached (what is shared counts as often as it is met; a slice's spare places count too). A statement '..UptoSaid' is the law's where the arguments, and the package variables that the reading takes, are together of bulk at most 1048576: NARROWER than '..Said'. Prove '..Said' where nothing that the law and all that it calls make is longer than what came in: it says more and counts as full. Else prove '..UptoSaid'. A law counts once. -/
mutual
def uptoBulk {H : Type} : DataW H → Nat
  | .lit (.string bytes) => bytes.length + 1
  | .lit _ => 1
  | .nil => 1
  | .ptr d => uptoBulk d + 1
  | .slice elems spare => uptoBulkAll elems + uptoBulkAll spare + 1
  | .agg parts => uptoBulkAll parts + 1
  | .iface _ d => uptoBulk d + 1
  | .map entries => uptoBulkEntries entries + 1
  | .held _ => 1
def uptoBulkAll {H : Type} : List (DataW H) → Nat
  | [] => 0
  | d :: r => uptoBulk d + uptoBulkAll r
def uptoBulkEntries {H : Type} : List (Lit × DataW H) → Nat
  | [] => 0
  | x :: r => uptoBulkEntry x + uptoBulkEntries r
def uptoBulkEntry {H : Type} : Lit × DataW H → Nat
  | (.string bytes, d) => bytes.length + uptoBulk d + 1
  | (_, d) => uptoBulk d + 1
 end
def uptoSmall : (H : Type) → List (DataW H) → Bool := fun _ ds => decide (uptoBulkAll ds ≤ 1048576)
def OpenSpec.upto (s : _root_.Go.ChangeSpec) : _root_.Go.OpenSpec := { _root_.Go.OpenSpec.ofChange s with cond := some uptoSmall }

/-- 'laws.FnSystems', WHERE WHAT IT READS IS OF BULK AT MOST 1048576: true; the input reads as it did. -/
def fnSystemsUptoRow : OpenClaim := { program := "ytfkkfhafijgdaaa", sum := "b725af241fef90c5d53811ba85fe1e544753a82f6e60ef46944e527952645b62", func := "loop.example/g00817/laws.FnSystems", spec := "fnSystems", unfollowed := true, recurses := true, apart := false, narrowed := true }
def FnSystemsUptoSaid : Prop := fnSystemsUptoRow.holds Try.pinned (OpenSpec.upto fnSystemsSpec)

/-- 'laws.FnMoveOwner', WHERE WHAT IT READS IS OF BULK AT MOST 1048576: true; the input reads as it did. -/
def fnMoveOwnerUptoRow : OpenClaim := { program := "ytfkkfhafijgdaaa", sum := "b725af241fef90c5d53811ba85fe1e544753a82f6e60ef46944e527952645b62", func := "loop.example/g00817/laws.FnMoveOwner", spec := "fnMoveOwner", unfollowed := true, recurses := true, apart := false, narrowed := true }
def FnMoveOwnerUptoSaid : Prop := fnMoveOwnerUptoRow.holds Try.pinned (OpenSpec.upto fnMoveOwnerSpec)

/-- 'laws.FnResize', WHERE WHAT IT READS IS OF BULK AT MOST 1048576: true; the input reads as it did. -/
def fnResizeUptoRow : OpenClaim := { program := "ytfkkfhafijgdaaa", sum := "b725af241fef90c5d53811ba85fe1e544753a82f6e60ef46944e527952645b62", func := "loop.example/g00817/laws.FnResize", spec := "fnResize", inPlace := ["internal/abi.NoEscape", "internal/bytealg.MakeNoZero"], unfollowed := true, recurses := true, apart := false, narrowed := true }
def FnResizeUptoSaid : Prop := fnResizeUptoRow.holds Try.pinned (OpenSpec.upto fnResizeSpec)

/-- 'laws.FnContent', WHERE WHAT IT READS IS OF BULK AT MOST 1048576: true; the input reads as it did. -/
def fnContentUptoRow : OpenClaim := { program := "ytfkkfhafijgdaaa", sum := "b725af241fef90c5d53811ba85fe1e544753a82f6e60ef46944e527952645b62", func := "loop.example/g00817/laws.FnContent", spec := "fnContent", inPlace := ["internal/abi.NoEscape", "internal/bytealg.MakeNoZero"], unfollowed := true, recurses := true, apart := false, narrowed := true }
def FnContentUptoSaid : Prop := fnContentUptoRow.holds Try.pinned (OpenSpec.upto fnContentSpec)

/-- 'laws.FnExactRecoverDisk', WHERE WHAT IT READS IS OF BULK AT MOST 1048576: true; the input reads as it did. -/
def fnExactRecoverDiskUptoRow : OpenClaim := { program := "ytfkkfhafijgdaaa", sum := "b725af241fef90c5d53811ba85fe1e544753a82f6e60ef46944e527952645b62", func := "loop.example/g00817/laws.FnExactRecoverDisk", spec := "fnExactRecoverDisk", inPlace := ["internal/abi.NoEscape", "internal/bytealg.MakeNoZero"], unfollowed := true, recurses := true, apart := false, narrowed := true }
def FnExactRecoverDiskUptoSaid : Prop := fnExactRecoverDiskUptoRow.holds Try.pinned (OpenSpec.upto fnExactRecoverDiskSpec)

/-- 'laws.FnCommit', WHERE WHAT IT READS IS OF BULK AT MOST 1048576: true; the input reads as it did. -/
def fnCommitUptoRow : OpenClaim := { program := "ytfkkfhafijgdaaa", sum := "b725af241fef90c5d53811ba85fe1e544753a82f6e60ef46944e527952645b62", func := "loop.example/g00817/laws.FnCommit", spec := "fnCommit", inPlace := ["internal/abi.NoEscape", "internal/bytealg.MakeNoZero"], apart := false, narrowed := true }
def FnCommitUptoSaid : Prop := fnCommitUptoRow.holds Try.pinned (OpenSpec.upto fnCommitSpec)

/-- 'laws.FnJournal', WHERE WHAT IT READS IS OF BULK AT MOST 1048576: true; the input reads as it did. -/
def fnJournalUptoRow : OpenClaim := { program := "ytfkkfhafijgdaaa", sum := "b725af241fef90c5d53811ba85fe1e544753a82f6e60ef46944e527952645b62", func := "loop.example/g00817/laws.FnJournal", spec := "fnJournal", inPlace := ["internal/abi.NoEscape", "internal/bytealg.MakeNoZero"], unfollowed := true, recurses := true, apart := false, narrowed := true }
def FnJournalUptoSaid : Prop := fnJournalUptoRow.holds Try.pinned (OpenSpec.upto fnJournalSpec)

end Rows
end Go.Proofs.Ytfkkfhafijgdaaa
