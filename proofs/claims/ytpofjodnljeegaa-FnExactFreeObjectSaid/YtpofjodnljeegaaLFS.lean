import Derived.Test.YtpofjodnljeegaaLInode
import Derived.Test.YtpofjodnljeegaaLQuota
import Derived.Test.YtpofjodnljeegaaLString
namespace Go.Proofs.Ytpofjodnljeegaa
open Go.Fw
set_option linter.unusedVariables false
set_option linter.unusedSimpArgs false
structure WfFS (x : DFS) : Prop where
 hl_quotas : x.quotas.length ≤ maxLen
 hl_inodes : x.inodes.length ≤ maxLen
 hx_inodes : ∀ y ∈ x.inodes, WfInode y
 hl_data : x.data.length ≤ maxLen
 hx_data : ∀ y ∈ x.data, y.length ≤ maxLen
structure SmFS (x : DFS) : Prop where
 hl_quotas : x.quotas.length ≤ 1048576
 hl_inodes : x.inodes.length ≤ 1048576
 hx_inodes : ∀ y ∈ x.inodes, SmInode y
 hl_data : x.data.length ≤ 1048576
def wFS (x : DFS) : Nat := x.quotas.length + (wLInode x.inodes + wLString x.data)
theorem smFS_of {x : DFS} (h : wFS x ≤ 1048576) : SmFS x := by
 simp only [wFS, wLInode, wLString] at h
 exact ⟨by omega, by omega, fun y hy => smInode_of (by have := wList_mem (f := wInode) hy; omega), by omega⟩
set_option maxHeartbeats 8000000 in
set_option maxRecDepth 4000 in
theorem laws_szFS (n0 n1 n2 : Option Bool) (x : DFS) (n : Int) (h0 : 0 ≤ n) (h1 : n ≤ 1048576) (hw : WfFS x) :
  Snd Try.prog 10 [.agg [.int .i64 x.tick, .frz 2 n0 (x.quotas.map cQuota), .frz 10 n1 (x.inodes.map cInode), .frz 1 n2 (x.data.map cs)], .int .i64 n] (.int .i64 (szR (wFS x) n)) [.unk, .unk] := Runs.snd (M := M) (c := ⟨2, [2, 4, 10, 16, 22], [], []⟩) tok ks mixed Try.func10 (p := []) (by kernel_rfl) (by rfl) (by rfl) <| by
 have w1 : szR (wFS x) n = _ := szR_step _ _ _
 simp -implicitDefEqProofs (disch := first | exact dd | fail) [Try.f10, ABr, AGd]
 refine AC_snd (laws_szQuotaS _ _ _ (by omega) (by omega) hw.hl_quotas) ?_
 simp -implicitDefEqProofs (disch := first | exact dd | fail) [Try.f10, ABr, AGd]
 refine ⟨fun h => by rw [w1, if_pos (szR_lt (by omega) h)], fun h => ?_⟩
 obtain ⟨e1, h'⟩ := szR_ge h
 rw [if_neg (by omega), szR_step] at w1
 rw [e1]
 refine AC_snd (laws_szInodeS _ _ _ (by omega) (by omega) hw.hl_inodes hw.hx_inodes) ?_
 simp -implicitDefEqProofs (disch := first | exact dd | fail) [Try.f10, ABr, AGd]
 refine ⟨fun h => by rw [w1, if_pos (szR_lt (by omega) h)], fun h => ?_⟩
 obtain ⟨e1, h'⟩ := szR_ge h
 rw [if_neg (by omega)] at w1
 rw [e1]
 refine AC_snd (laws_szStringS _ _ _ (by omega) (by omega) hw.hl_data hw.hx_data) ?_
 simp -implicitDefEqProofs (disch := first | exact dd | fail) [Try.f10, w1, ABr, AGd]
 exact fun h => szR_m1 (by omega) h
set_option maxHeartbeats 8000000 in
set_option maxRecDepth 4000 in
theorem laws_toFS (n0 n1 n2 : Option Bool) (x : DFS) (hs : SmFS x) :
  Snd Try.prog 12 [.agg [.int .i64 x.tick, .frz 2 n0 (x.quotas.map cQuota), .frz 10 n1 (x.inodes.map cInode), .frz 1 n2 (x.data.map cs)]] (.agg [.int .i64 x.tick, .row 2 (x.quotas.map cQuota), .row 10 (x.inodes.map cInode), .row 1 (x.data.map cs)]) [.unk] := Runs.snd (M := M) (c := ⟨1, [1, 2, 3], [], []⟩) tok ks mixed Try.func12 (p := []) (by kernel_rfl) (by rfl) (by rfl) <| by
 simp -implicitDefEqProofs (disch := first | exact dd | fail) [Try.f12, ABr, AGd]
 refine AC_snd (laws_toQuotaS _ _ hs.hl_quotas) ?_
 simp -implicitDefEqProofs (disch := first | exact dd | fail) [Try.f12, ABr, AGd]
 refine AC_snd (laws_toInodeS _ _ hs.hl_inodes hs.hx_inodes) ?_
 simp -implicitDefEqProofs (disch := first | exact dd | fail) [Try.f12, ABr, AGd]
 refine AC_snd (laws_toStringS _ _ hs.hl_data) ?_
 simp -implicitDefEqProofs (disch := first | exact dd | fail) [Try.f12, ABr, AGd]
set_option maxHeartbeats 8000000 in
set_option maxRecDepth 4000 in
theorem laws_eqFS (n0 n1 n2 : Option Bool) (n3 n4 n5 : Option Bool) (x y : DFS) (hs : SmFS x) :
  Snd Try.prog 14 [.agg [.int .i64 x.tick, .frz 2 n0 (x.quotas.map cQuota), .frz 10 n1 (x.inodes.map cInode), .frz 1 n2 (x.data.map cs)], .agg [.int .i64 y.tick, .frz 2 n3 (y.quotas.map cQuota), .frz 10 n4 (y.inodes.map cInode), .frz 1 n5 (y.data.map cs)]] (.bool (decide (x = y))) [.unk, .unk] := Runs.snd (M := M) (c := ⟨2, [2, 3, 4, 9, 15, 21, 27], [], []⟩) tok ks mixed Try.func14 (p := []) (by kernel_rfl) (by rfl) (by rfl) <| by
 simp -implicitDefEqProofs (disch := first | exact dd | fail) [Try.f14, ABr, AGd]
 refine ⟨fun h => by (rintro rfl; first | exact h rfl | simp at h), fun _ => ?_⟩
 refine AC_snd (laws_eqQuotaS _ _ _ _ hs.hl_quotas) ?_
 simp -implicitDefEqProofs (disch := first | exact dd | fail) [Try.f14, ABr, AGd]
 refine ⟨fun h => by (rintro rfl; first | exact h rfl | simp at h), fun _ => ?_⟩
 refine AC_snd (laws_eqInodeS _ _ _ _ hs.hl_inodes hs.hx_inodes) ?_
 simp -implicitDefEqProofs (disch := first | exact dd | fail) [Try.f14, ABr, AGd]
 refine ⟨fun h => by (rintro rfl; first | exact h rfl | simp at h), fun _ => ?_⟩
 refine AC_snd (laws_eqStringS _ _ _ _ hs.hl_data) ?_
 simp -implicitDefEqProofs (disch := first | exact dd | fail) [Try.f14, ABr, AGd]
 refine ⟨fun h => by (rintro rfl; first | exact h rfl | simp at h), fun _ => ?_⟩
 cases x
 cases y
 simp_all
abbrev mtFS (x : DFS) (k : Int) : DFS := { x with quotas := mLQuota x.quotas k, inodes := mLInode x.inodes (k + ((nLQuota x.quotas : Nat) : Int)), data := mLString x.data ((k + ((nLQuota x.quotas : Nat) : Int)) + ((nLInode x.inodes : Nat) : Int)) }
abbrev ntFS (x : DFS) : Nat := nLQuota x.quotas + nLInode x.inodes + nLString x.data
set_option maxHeartbeats 8000000 in
set_option maxRecDepth 4000 in
theorem laws_markFS (x : DFS) (k : Int) (hs : SmFS x) (hk : 0 ≤ k) (hn : k + ntFS x ≤ 16777216) :
  Snd Try.prog 15 [.agg [.int .i64 x.tick, .row 2 (x.quotas.map cQuota), .row 10 (x.inodes.map cInode), .row 1 (x.data.map cs)], .int .i64 k] (.int .i64 (k + ntFS x)) [.agg [.unk, .row 2 ((mtFS x k).quotas.map cQuota), .row 10 ((mtFS x k).inodes.map cInode), .row 1 ((mtFS x k).data.map cs)], .unk] := Runs.snd (M := M) (c := ⟨2, [2, 4], [], []⟩) tok ks mixed Try.func15 (p := [0]) (by kernel_rfl) (by rfl) (by rfl) <| by
 simp only [ntFS] at hn
 simp -implicitDefEqProofs (disch := first | exact dd | fail) [Try.f15, ABr, AGd]
 refine AC_snd (laws_markQuotaS _ _ hs.hl_quotas (by omega) (by omega)) ?_
 simp -implicitDefEqProofs (disch := first | exact dd | fail) [Try.f15, mkL_len, ABr, AGd]
 refine AC_snd (laws_markInodeS _ _ hs.hl_inodes (by omega) (by omega) hs.hx_inodes) ?_
 simp -implicitDefEqProofs (disch := first | exact dd | fail) [Try.f15, mkL_len, ABr, AGd]
 refine AC_snd (laws_markStringS _ _ hs.hl_data (by omega) (by omega)) ?_
 simp -implicitDefEqProofs (disch := first | exact dd | fail) [Try.f15, mkL_len, ABr, AGd]
 all_goals omega
set_option maxHeartbeats 8000000 in
set_option maxRecDepth 4000 in
theorem laws_heldFS (n0 n1 n2 : Option Bool) (x : DFS) (k : Int) (hs : SmFS x) (hk : 0 ≤ k) (hn : k + ntFS x ≤ 16777216) :
  Snd Try.prog 16 [.agg [.int .i64 (mtFS x k).tick, .frz 2 n0 ((mtFS x k).quotas.map cQuota), .frz 10 n1 ((mtFS x k).inodes.map cInode), .frz 1 n2 ((mtFS x k).data.map cs)], .int .i64 k] (.int .i64 (k + ntFS x)) [.unk, .unk] := Runs.snd (M := M) (c := ⟨2, [2, 4, 10, 16, 22], [], []⟩) tok ks mixed Try.func16 (p := []) (by kernel_rfl) (by rfl) (by rfl) <| by
 simp only [ntFS] at hn
 simp -implicitDefEqProofs (disch := first | exact dd | fail) [Try.f16, ABr, AGd]
 refine AC_snd (laws_heldQuotaS _ _ _ hs.hl_quotas (by omega) (by omega)) ?_
 simp -implicitDefEqProofs (disch := first | exact dd | fail) [Try.f16, ABr, AGd]
 refine ⟨fun h => by omega, fun h => ?_⟩
 refine AC_snd (laws_heldInodeS _ _ _ hs.hl_inodes (by omega) (by omega) hs.hx_inodes) ?_
 simp -implicitDefEqProofs (disch := first | exact dd | fail) [Try.f16, ABr, AGd]
 refine ⟨fun h => by omega, fun h => ?_⟩
 refine AC_snd (laws_heldStringS _ _ _ hs.hl_data (by omega) (by omega)) ?_
 simp -implicitDefEqProofs (disch := first | exact dd | fail) [Try.f16, ABr, AGd]
 first | omega | exact ⟨fun h => by omega, fun h => by omega⟩ | exact fun h => by omega
end Go.Proofs.Ytpofjodnljeegaa
