import Derived.Test.YtiafmpcmmohdkaaLA
import Derived.Test.YtiafmpcmmohdkaaDat
import Derived.Test.YtiafmpcmmohdkaaBase
import Derived.Test.YtiafmpcmmohdkaaLFS
namespace Go.Proofs.Ytiafmpcmmohdkaa
open Go.Fw
set_option linter.unusedVariables false
set_option linter.unusedSimpArgs false
structure WfCred (x : DCred) : Prop where
 hl_groups : x.groups.length ≤ maxLen
structure SmCred (x : DCred) : Prop where
 hl_groups : x.groups.length ≤ 1048576
def wCred (x : DCred) : Nat := x.groups.length
theorem smCred_of {x : DCred} (h : wCred x ≤ 1048576) : SmCred x := by
 simp only [wCred] at h
 exact ⟨by omega⟩
def wLCred (xs : List DCred) : Nat := xs.length + wList wCred xs
def mkCred (x : DCred) (k : Int) : DCred := { uid := k, gid := (k + 1), groups := mLInt x.groups ((k + 1) + 1) }
def nmCred (x : DCred) : Nat := 2 + nLInt x.groups
abbrev mLCred (xs : List DCred) (k : Int) : List DCred := mkL mkCred nmCred xs k
abbrev nLCred (xs : List DCred) : Nat := wList nmCred xs
abbrev mtCred (x : DCred) (k : Int) : DCred := { x with groups := mLInt x.groups k }
abbrev ntCred (x : DCred) : Nat := nLInt x.groups
def mkOpen (x : DOpen) (k : Int) : DOpen := { inode := k, pos := (k + 1), flags := ((k + 1) + 1) }
def nmOpen (x : DOpen) : Nat := 3
abbrev mLOpen (xs : List DOpen) (k : Int) : List DOpen := mkL mkOpen nmOpen xs k
abbrev nLOpen (xs : List DOpen) : Nat := wList nmOpen xs
structure WfProc (x : DProc) : Prop where
 hs_cred : WfCred x.cred
 hl_files : x.files.length ≤ maxLen
structure SmProc (x : DProc) : Prop where
 hs_cred : SmCred x.cred
 hl_files : x.files.length ≤ 1048576
def wProc (x : DProc) : Nat := wCred x.cred + x.files.length
theorem smProc_of {x : DProc} (h : wProc x ≤ 1048576) : SmProc x := by
 simp only [wProc] at h
 exact ⟨smCred_of (by omega), by omega⟩
def wLProc (xs : List DProc) : Nat := xs.length + wList wProc xs
def mkProc (x : DProc) (k : Int) : DProc := { cred := { x.cred with uid := k, gid := (k + 1), groups := mLInt x.cred.groups ((k + 1) + 1) }, files := mLOpen x.files (((k + 1) + 1) + ((nLInt x.cred.groups : Nat) : Int)) }
def nmProc (x : DProc) : Nat := 2 + nLInt x.cred.groups + nLOpen x.files
abbrev mLProc (xs : List DProc) (k : Int) : List DProc := mkL mkProc nmProc xs k
abbrev nLProc (xs : List DProc) : Nat := wList nmProc xs
structure WfSystem (x : DSystem) : Prop where
 hs_fs : WfFS x.fs
 hl_procs : x.procs.length ≤ maxLen
 hx_procs : ∀ y ∈ x.procs, WfProc y
structure SmSystem (x : DSystem) : Prop where
 hs_fs : SmFS x.fs
 hl_procs : x.procs.length ≤ 1048576
 hx_procs : ∀ y ∈ x.procs, SmProc y
def wSystem (x : DSystem) : Nat := wFS x.fs + wLProc x.procs
theorem smSystem_of {x : DSystem} (h : wSystem x ≤ 1048576) : SmSystem x := by
 simp only [wSystem, wLProc] at h
 exact ⟨smFS_of (by omega), by omega, fun y hy => smProc_of (by have := wList_mem (f := wProc) hy; omega)⟩
abbrev mtSystem (x : DSystem) (k : Int) : DSystem := { x with fs := mtFS x.fs k, procs := mLProc x.procs (k + ((ntFS x.fs : Nat) : Int)) }
abbrev ntSystem (x : DSystem) : Nat := ntFS x.fs + nLProc x.procs
end Go.Proofs.Ytiafmpcmmohdkaa
