import Derived.Test.YtnidlanekanlbaaLFS
import Derived.Test.YtnidlanekanlbaaLProc
namespace Go.Proofs.Ytnidlanekanlbaa
open Go.Fw
set_option linter.unusedVariables false
set_option linter.unusedSimpArgs false
structure WfSystem (x : DSystem) : Prop where
  hs_fs : WfFS x.fs
  hl_procs : x.procs.length ≤ maxLen
  hx_procs : ∀ y ∈ x.procs, WfProc y
structure SmSystem (x : DSystem) : Prop where
  hs_fs : SmFS x.fs
  hl_procs : x.procs.length ≤ 1048576
  hx_procs : ∀ y ∈ x.procs, SmProc y
def wSystem (x : DSystem) : Nat := wFS x.fs + wLProc x.procs
theorem smSystem_of {x : DSystem} (h : wSystem x ≤ 1048576) : SmSystem x := by
  simp only [wSystem, wLProc] at h
  exact ⟨smFS_of (by omega), by omega, fun y hy => smProc_of (by have := wList_mem (f := wProc) hy; omega)⟩
set_option maxHeartbeats 8000000 in
set_option maxRecDepth 4000 in
theorem laws_szSystem (n0 n1 n2 n3 : Option Bool) (x : DSystem) (n : Int) (h0 : 0 ≤ n) (h1 : n ≤ 1048576) (hw : WfSystem x) :
   Snd Try.prog 26 [.agg [.int .i64 x.fs.tick, .frz 2 n0 (x.fs.quotas.map cQuota), .frz 10 n1 (x.fs.inodes.map cInode), .frz 1 n2 (x.fs.data.map cs), .frz 4 n3 (x.procs.map cProc)], .int .i64 n] (.int .i64 (szR (wSystem x) n)) [.unk, .unk] := Runs.snd (M := M) (c := ⟨2, [2, 4, 10, 16], [], []⟩) tok ks mixed Try.func26 (p := []) (by kernel_rfl) (by rfl) (by rfl) <| by
  have w1 : szR (wSystem x) n = _ := szR_step _ _ _
  simp -implicitDefEqProofs (disch := first | assumption | omega | (refine of_indep ?_; kernel_rfl) | (simp; done) | fail) [Try.f26, ABr, AGd]
  refine AC_snd (laws_szFS _ _ _  _ _ (by omega) (by omega) hw.hs_fs) ?_
  simp -implicitDefEqProofs (disch := first | assumption | omega | (refine of_indep ?_; kernel_rfl) | (simp; done) | fail) [Try.f26, ABr, AGd]
  refine ⟨fun h => by rw [w1, if_pos (szR_lt (by omega) h)], fun h => ?_⟩
  obtain ⟨e1, h'⟩ := szR_ge h
  rw [if_neg (by omega)] at w1
  rw [e1]
  refine AC_snd (laws_szProcS _ _ _ (by omega) (by omega) hw.hl_procs hw.hx_procs) ?_
  simp -implicitDefEqProofs (disch := first | assumption | omega | (refine of_indep ?_; kernel_rfl) | (simp; done) | fail) [Try.f26, w1, ABr, AGd]
  exact fun h => szR_m1 (by omega) h
set_option maxHeartbeats 8000000 in
set_option maxRecDepth 4000 in
theorem laws_toSystem (n0 n1 n2 n3 : Option Bool) (x : DSystem) (hs : SmSystem x) :
   Snd Try.prog 28 [.agg [.int .i64 x.fs.tick, .frz 2 n0 (x.fs.quotas.map cQuota), .frz 10 n1 (x.fs.inodes.map cInode), .frz 1 n2 (x.fs.data.map cs), .frz 4 n3 (x.procs.map cProc)]] (.agg [.int .i64 x.fs.tick, .row 2 (x.fs.quotas.map cQuota), .row 10 (x.fs.inodes.map cInode), .row 1 (x.fs.data.map cs), .row 4 (x.procs.map cProc)]) [.unk] := Runs.snd (M := M) (c := ⟨1, [1, 2, 3], [], []⟩) tok ks mixed Try.func28 (p := []) (by kernel_rfl) (by rfl) (by rfl) <| by
  simp -implicitDefEqProofs (disch := first | assumption | omega | (refine of_indep ?_; kernel_rfl) | (simp; done) | fail) [Try.f28, ABr, AGd]
  refine AC_snd (laws_toFS _ _ _  _ hs.hs_fs) ?_
  simp -implicitDefEqProofs (disch := first | assumption | omega | (refine of_indep ?_; kernel_rfl) | (simp; done) | fail) [Try.f28, ABr, AGd]
  refine AC_snd (laws_toProcS _ _ hs.hl_procs hs.hx_procs) ?_
  simp -implicitDefEqProofs (disch := first | assumption | omega | (refine of_indep ?_; kernel_rfl) | (simp; done) | fail) [Try.f28, ABr, AGd]
set_option maxHeartbeats 8000000 in
set_option maxRecDepth 4000 in
theorem laws_eqSystem (n0 n1 n2 n3 : Option Bool) (n4 n5 n6 n7 : Option Bool) (x y : DSystem) (hs : SmSystem x) :
   Snd Try.prog 30 [.agg [.int .i64 x.fs.tick, .frz 2 n0 (x.fs.quotas.map cQuota), .frz 10 n1 (x.fs.inodes.map cInode), .frz 1 n2 (x.fs.data.map cs), .frz 4 n3 (x.procs.map cProc)], .agg [.int .i64 y.fs.tick, .frz 2 n4 (y.fs.quotas.map cQuota), .frz 10 n5 (y.fs.inodes.map cInode), .frz 1 n6 (y.fs.data.map cs), .frz 4 n7 (y.procs.map cProc)]] (.bool (decide (x = y))) [.unk, .unk] := Runs.snd (M := M) (c := ⟨2, [2, 3, 4, 10, 16], [], []⟩) tok ks mixed Try.func30 (p := []) (by kernel_rfl) (by rfl) (by rfl) <| by
  simp -implicitDefEqProofs (disch := first | assumption | omega | (refine of_indep ?_; kernel_rfl) | (simp; done) | fail) [Try.f30, ABr, AGd]
  refine AC_snd (laws_eqFS _ _ _  _ _ _  _ _ hs.hs_fs) ?_
  simp -implicitDefEqProofs (disch := first | assumption | omega | (refine of_indep ?_; kernel_rfl) | (simp; done) | fail) [Try.f30, ABr, AGd]
  refine ⟨fun h => by (rintro rfl; first | exact h rfl | simp at h), fun _ => ?_⟩
  refine AC_snd (laws_eqProcS _ _ _ _ hs.hl_procs hs.hx_procs) ?_
  simp -implicitDefEqProofs (disch := first | assumption | omega | (refine of_indep ?_; kernel_rfl) | (simp; done) | fail) [Try.f30, ABr, AGd]
  refine ⟨fun h => by (rintro rfl; first | exact h rfl | simp at h), fun _ => ?_⟩
  cases x
  cases y
  simp_all
abbrev mtSystem (x : DSystem) (k : Int) : DSystem := { x with fs := mtFS x.fs k, procs := mLProc x.procs (k + ((ntFS x.fs : Nat) : Int)) }
abbrev ntSystem (x : DSystem) : Nat := ntFS x.fs + nLProc x.procs
end Go.Proofs.Ytnidlanekanlbaa
