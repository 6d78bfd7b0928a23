import Derived.Test.YtiafmpcmmohdkaaGreatLA
import Derived.Test.YtiafmpcmmohdkaaGreatDat
import Derived.Test.YtiafmpcmmohdkaaGreatBase
import Derived.Test.YtiafmpcmmohdkaaGreatLFS
namespace Go.Proofs.YtiafmpcmmohdkaaGreat
open Go.Fw
set_option linter.unusedVariables false
set_option linter.unusedSimpArgs false
structure WfCred (x : DCred) : Prop where
 hl_groups : x.groups.length ≤ maxLen
structure SmCred (x : DCred) : Prop where
 hl_groups : x.groups.length ≤ 1048576
def wCred (x : DCred) : Nat := x.groups.length
theorem smCred_of {x : DCred} (h : wCred x ≤ 1048576) : SmCred x := by
 simp only [wCred] at h
 exact ⟨by omega⟩
set_option maxHeartbeats 8000000 in
set_option maxRecDepth 4000 in
theorem laws_szCred (n0 : Option Bool) (x : DCred) (n : Int) (h0 : 0 ≤ n) (h1 : n ≤ 1048576) (hw : WfCred x) :
  Snd Tryz.prog 20 [.agg [.int .i64 x.uid, .int .i64 x.gid, .frz 1 n0 (x.groups.map ci)], .int .i64 n] (.int .i64 (szR (wCred x) n)) [.unk, .unk] := Runs.snd (M := M) (c := ⟨2, [2, 4, 10], [], []⟩) tok ks mixed Tryz.func20 (p := []) (by kernel_rfl) (by rfl) (by rfl) <| by
 have w1 : szR (wCred x) n = _ := (rfl : _ = szR (x.groups.length) n)
 simp -implicitDefEqProofs (disch := first | exact dd | fail) [Tryz.f20, ABr, AGd]
 refine AC_snd (laws_szIntS _ _ _ (by omega) (by omega) hw.hl_groups) ?_
 simp -implicitDefEqProofs (disch := first | exact dd | fail) [Tryz.f20, w1, ABr, AGd]
 exact fun h => szR_m1 (by omega) h
set_option maxHeartbeats 8000000 in
set_option maxRecDepth 4000 in
theorem laws_toCred (n0 : Option Bool) (x : DCred) (hs : SmCred x) :
  Snd Tryz.prog 22 [.agg [.int .i64 x.uid, .int .i64 x.gid, .frz 1 n0 (x.groups.map ci)]] (.agg [.int .i64 x.uid, .int .i64 x.gid, .row 1 (x.groups.map ci)]) [.unk] := Runs.snd (M := M) (c := ⟨1, [1, 2, 3], [], []⟩) tok ks mixed Tryz.func22 (p := []) (by kernel_rfl) (by rfl) (by rfl) <| by
 simp -implicitDefEqProofs (disch := first | exact dd | fail) [Tryz.f22, ABr, AGd]
 refine AC_snd (laws_toIntS _ _ hs.hl_groups) ?_
 simp -implicitDefEqProofs (disch := first | exact dd | fail) [Tryz.f22, ABr, AGd]
set_option maxHeartbeats 8000000 in
set_option maxRecDepth 4000 in
theorem laws_eqCred (n0 : Option Bool) (n1 : Option Bool) (x y : DCred) (hs : SmCred x) :
  Snd Tryz.prog 24 [.agg [.int .i64 x.uid, .int .i64 x.gid, .frz 1 n0 (x.groups.map ci)], .agg [.int .i64 y.uid, .int .i64 y.gid, .frz 1 n1 (y.groups.map ci)]] (.bool (decide (x = y))) [.unk, .unk] := Runs.snd (M := M) (c := ⟨2, [2, 3, 4, 9, 14, 20], [], []⟩) tok ks mixed Tryz.func24 (p := []) (by kernel_rfl) (by rfl) (by rfl) <| by
 simp -implicitDefEqProofs (disch := first | exact dd | fail) [Tryz.f24, ABr, AGd]
 refine ⟨fun h => by (rintro rfl; first | exact h rfl | simp at h), fun _ => ?_⟩
 refine ⟨fun h => by (rintro rfl; first | exact h rfl | simp at h), fun _ => ?_⟩
 refine AC_snd (laws_eqIntS _ _ _ _ hs.hl_groups) ?_
 simp -implicitDefEqProofs (disch := first | exact dd | fail) [Tryz.f24, ABr, AGd]
 refine ⟨fun h => by (rintro rfl; first | exact h rfl | simp at h), fun _ => ?_⟩
 cases x
 cases y
 simp_all
def wLCred (xs : List DCred) : Nat := xs.length + wList wCred xs
def mkCred (x : DCred) (k : Int) : DCred := { uid := k, gid := (k + 1), groups := mLInt x.groups ((k + 1) + 1) }
def nmCred (x : DCred) : Nat := 2 + nLInt x.groups
abbrev mLCred (xs : List DCred) (k : Int) : List DCred := mkL mkCred nmCred xs k
abbrev nLCred (xs : List DCred) : Nat := wList nmCred xs
abbrev mtCred (x : DCred) (k : Int) : DCred := { x with groups := mLInt x.groups k }
abbrev ntCred (x : DCred) : Nat := nLInt x.groups
set_option maxHeartbeats 8000000 in
set_option maxRecDepth 4000 in
theorem laws_markCred (x : DCred) (k : Int) (hs : SmCred x) (hk : 0 ≤ k) (hn : k + ntCred x ≤ 16777216) :
  Snd Tryz.prog 40 [.agg [.int .i64 x.uid, .int .i64 x.gid, .row 1 (x.groups.map ci)], .int .i64 k] (.int .i64 (k + ntCred x)) [.agg [.unk, .unk, .row 1 ((mtCred x k).groups.map ci)], .unk] := Runs.snd (M := M) (c := ⟨2, [2, 4], [], []⟩) tok ks mixed Tryz.func40 (p := [0]) (by kernel_rfl) (by rfl) (by rfl) <| by
 simp only [ntCred] at hn
 simp -implicitDefEqProofs (disch := first | exact dd | fail) [Tryz.f40, ABr, AGd]
 refine AC_snd (laws_markIntS _ _ hs.hl_groups (by omega) (by omega)) ?_
 simp -implicitDefEqProofs (disch := first | exact dd | fail) [Tryz.f40, mkL_len, ABr, AGd]
 all_goals omega
def mkOpen (x : DOpen) (k : Int) : DOpen := { inode := k, pos := (k + 1), flags := ((k + 1) + 1) }
def nmOpen (x : DOpen) : Nat := 3
abbrev mLOpen (xs : List DOpen) (k : Int) : List DOpen := mkL mkOpen nmOpen xs k
abbrev nLOpen (xs : List DOpen) : Nat := wList nmOpen xs
structure WfProc (x : DProc) : Prop where
 hs_cred : WfCred x.cred
 hl_files : x.files.length ≤ maxLen
structure SmProc (x : DProc) : Prop where
 hs_cred : SmCred x.cred
 hl_files : x.files.length ≤ 1048576
def wProc (x : DProc) : Nat := wCred x.cred + x.files.length
theorem smProc_of {x : DProc} (h : wProc x ≤ 1048576) : SmProc x := by
 simp only [wProc] at h
 exact ⟨smCred_of (by omega), by omega⟩
def wLProc (xs : List DProc) : Nat := xs.length + wList wProc xs
def mkProc (x : DProc) (k : Int) : DProc := { cred := { x.cred with uid := k, gid := (k + 1), groups := mLInt x.cred.groups ((k + 1) + 1) }, files := mLOpen x.files (((k + 1) + 1) + ((nLInt x.cred.groups : Nat) : Int)) }
def nmProc (x : DProc) : Nat := 2 + nLInt x.cred.groups + nLOpen x.files
abbrev mLProc (xs : List DProc) (k : Int) : List DProc := mkL mkProc nmProc xs k
abbrev nLProc (xs : List DProc) : Nat := wList nmProc xs
structure WfSystem (x : DSystem) : Prop where
 hs_fs : WfFS x.fs
 hl_procs : x.procs.length ≤ maxLen
 hx_procs : ∀ y ∈ x.procs, WfProc y
structure SmSystem (x : DSystem) : Prop where
 hs_fs : SmFS x.fs
 hl_procs : x.procs.length ≤ 1048576
 hx_procs : ∀ y ∈ x.procs, SmProc y
def wSystem (x : DSystem) : Nat := wFS x.fs + wLProc x.procs
theorem smSystem_of {x : DSystem} (h : wSystem x ≤ 1048576) : SmSystem x := by
 simp only [wSystem, wLProc] at h
 exact ⟨smFS_of (by omega), by omega, fun y hy => smProc_of (by have := wList_mem (f := wProc) hy; omega)⟩
abbrev mtSystem (x : DSystem) (k : Int) : DSystem := { x with fs := mtFS x.fs k, procs := mLProc x.procs (k + ((ntFS x.fs : Nat) : Int)) }
abbrev ntSystem (x : DSystem) : Nat := ntFS x.fs + nLProc x.procs
end Go.Proofs.YtiafmpcmmohdkaaGreat
