import Derived.Test.YtpofjodnljeegaaLFS
import Derived.Test.YtpofjodnljeegaaLProc
namespace Go.Proofs.Ytpofjodnljeegaa
open Go.Fw
set_option linter.unusedVariables false
set_option linter.unusedSimpArgs false
structure WfSystem (x : DSystem) : Prop where
 hs_fs : WfFS x.fs
 hl_procs : x.procs.length ≤ maxLen
 hx_procs : ∀ y ∈ x.procs, WfProc y
structure SmSystem (x : DSystem) : Prop where
 hs_fs : SmFS x.fs
 hl_procs : x.procs.length ≤ 1048576
 hx_procs : ∀ y ∈ x.procs, SmProc y
def wSystem (x : DSystem) : Nat := wFS x.fs + wLProc x.procs
theorem smSystem_of {x : DSystem} (h : wSystem x ≤ 1048576) : SmSystem x := by
 simp only [wSystem, wLProc] at h
 exact ⟨smFS_of (by omega), by omega, fun y hy => smProc_of (by have := wList_mem (f := wProc) hy; omega)⟩
set_option maxHeartbeats 8000000 in
set_option maxRecDepth 4000 in
theorem laws_szSystem (n0 n1 n2 n3 : Option Bool) (x : DSystem) (n : Int) (h0 : 0 ≤ n) (h1 : n ≤ 1048576) (hw : WfSystem x) :
  Snd Try.prog 32 [.agg [.int .i64 x.fs.tick, .frz 2 n0 (x.fs.quotas.map cQuota), .frz 10 n1 (x.fs.inodes.map cInode), .frz 1 n2 (x.fs.data.map cs), .frz 4 n3 (x.procs.map cProc)], .int .i64 n] (.int .i64 (szR (wSystem x) n)) [.unk, .unk] := Runs.snd (M := M) (c := ⟨2, [2, 4, 10, 16], [], []⟩) tok ks mixed Try.func32 (p := []) (by kernel_rfl) (by rfl) (by rfl) <| by
 have w1 : szR (wSystem x) n = _ := szR_step _ _ _
 simp -implicitDefEqProofs (disch := first | exact dd | fail) [Try.f32, ABr, AGd]
 refine AC_snd (laws_szFS _ _ _  _ _ (by omega) (by omega) hw.hs_fs) ?_
 simp -implicitDefEqProofs (disch := first | exact dd | fail) [Try.f32, ABr, AGd]
 refine ⟨fun h => by rw [w1, if_pos (szR_lt (by omega) h)], fun h => ?_⟩
 obtain ⟨e1, h'⟩ := szR_ge h
 rw [if_neg (by omega)] at w1
 rw [e1]
 refine AC_snd (laws_szProcS _ _ _ (by omega) (by omega) hw.hl_procs hw.hx_procs) ?_
 simp -implicitDefEqProofs (disch := first | exact dd | fail) [Try.f32, w1, ABr, AGd]
 exact fun h => szR_m1 (by omega) h
set_option maxHeartbeats 8000000 in
set_option maxRecDepth 4000 in
theorem laws_toSystem (n0 n1 n2 n3 : Option Bool) (x : DSystem) (hs : SmSystem x) :
  Snd Try.prog 34 [.agg [.int .i64 x.fs.tick, .frz 2 n0 (x.fs.quotas.map cQuota), .frz 10 n1 (x.fs.inodes.map cInode), .frz 1 n2 (x.fs.data.map cs), .frz 4 n3 (x.procs.map cProc)]] (.agg [.int .i64 x.fs.tick, .row 2 (x.fs.quotas.map cQuota), .row 10 (x.fs.inodes.map cInode), .row 1 (x.fs.data.map cs), .row 4 (x.procs.map cProc)]) [.unk] := Runs.snd (M := M) (c := ⟨1, [1, 2, 3], [], []⟩) tok ks mixed Try.func34 (p := []) (by kernel_rfl) (by rfl) (by rfl) <| by
 simp -implicitDefEqProofs (disch := first | exact dd | fail) [Try.f34, ABr, AGd]
 refine AC_snd (laws_toFS _ _ _  _ hs.hs_fs) ?_
 simp -implicitDefEqProofs (disch := first | exact dd | fail) [Try.f34, ABr, AGd]
 refine AC_snd (laws_toProcS _ _ hs.hl_procs hs.hx_procs) ?_
 simp -implicitDefEqProofs (disch := first | exact dd | fail) [Try.f34, ABr, AGd]
set_option maxHeartbeats 8000000 in
set_option maxRecDepth 4000 in
theorem laws_eqSystem (n0 n1 n2 n3 : Option Bool) (n4 n5 n6 n7 : Option Bool) (x y : DSystem) (hs : SmSystem x) :
  Snd Try.prog 36 [.agg [.int .i64 x.fs.tick, .frz 2 n0 (x.fs.quotas.map cQuota), .frz 10 n1 (x.fs.inodes.map cInode), .frz 1 n2 (x.fs.data.map cs), .frz 4 n3 (x.procs.map cProc)], .agg [.int .i64 y.fs.tick, .frz 2 n4 (y.fs.quotas.map cQuota), .frz 10 n5 (y.fs.inodes.map cInode), .frz 1 n6 (y.fs.data.map cs), .frz 4 n7 (y.procs.map cProc)]] (.bool (decide (x = y))) [.unk, .unk] := Runs.snd (M := M) (c := ⟨2, [2, 3, 4, 10, 16], [], []⟩) tok ks mixed Try.func36 (p := []) (by kernel_rfl) (by rfl) (by rfl) <| by
 simp -implicitDefEqProofs (disch := first | exact dd | fail) [Try.f36, ABr, AGd]
 refine AC_snd (laws_eqFS _ _ _  _ _ _  _ _ hs.hs_fs) ?_
 simp -implicitDefEqProofs (disch := first | exact dd | fail) [Try.f36, ABr, AGd]
 refine ⟨fun h => by (rintro rfl; first | exact h rfl | simp at h), fun _ => ?_⟩
 refine AC_snd (laws_eqProcS _ _ _ _ hs.hl_procs hs.hx_procs) ?_
 simp -implicitDefEqProofs (disch := first | exact dd | fail) [Try.f36, ABr, AGd]
 refine ⟨fun h => by (rintro rfl; first | exact h rfl | simp at h), fun _ => ?_⟩
 cases x
 cases y
 simp_all
abbrev mtSystem (x : DSystem) (k : Int) : DSystem := { x with fs := mtFS x.fs k, procs := mLProc x.procs (k + ((ntFS x.fs : Nat) : Int)) }
abbrev ntSystem (x : DSystem) : Nat := ntFS x.fs + nLProc x.procs
set_option maxHeartbeats 8000000 in
set_option maxRecDepth 4000 in
theorem laws_markSystem (x : DSystem) (k : Int) (hs : SmSystem x) (hk : 0 ≤ k) (hn : k + ntSystem x ≤ 16777216) :
  Snd Try.prog 37 [.agg [.int .i64 x.fs.tick, .row 2 (x.fs.quotas.map cQuota), .row 10 (x.fs.inodes.map cInode), .row 1 (x.fs.data.map cs), .row 4 (x.procs.map cProc)], .int .i64 k] (.int .i64 (k + ntSystem x)) [.agg [.unk, .row 2 ((mtSystem x k).fs.quotas.map cQuota), .row 10 ((mtSystem x k).fs.inodes.map cInode), .row 1 ((mtSystem x k).fs.data.map cs), .row 4 ((mtSystem x k).procs.map cProc)], .unk] := Runs.snd (M := M) (c := ⟨2, [2, 4], [], []⟩) tok ks mixed Try.func37 (p := [0]) (by kernel_rfl) (by rfl) (by rfl) <| by
 simp only [ntSystem, ntFS] at hn
 simp -implicitDefEqProofs (disch := first | exact dd | fail) [Try.f37, ABr, AGd]
 refine AC_snd (laws_markFS _ _ hs.hs_fs (by omega) (by first | omega | (simp only [ntFS]; omega))) ?_
 simp -implicitDefEqProofs (disch := first | exact dd | fail) [Try.f37, mkL_len, ABr, AGd]
 refine AC_snd (laws_markProcS _ _ hs.hl_procs (by omega) (by omega) hs.hx_procs) ?_
 simp -implicitDefEqProofs (disch := first | exact dd | fail) [Try.f37, mkL_len, ABr, AGd]
 all_goals omega
end Go.Proofs.Ytpofjodnljeegaa
