import Derived.Test.YtgopfdninbknpaaGreatLA
import Derived.Test.YtgopfdninbknpaaGreatDat
import Derived.Test.YtgopfdninbknpaaGreatBase
import Derived.Test.YtgopfdninbknpaaGreatLFS
namespace Go.Proofs.YtgopfdninbknpaaGreat
open Go.Fw
set_option linter.unusedVariables false
set_option linter.unusedSimpArgs false
structure WfCred (x:DCred):Prop where
 hl_groups:x.groups.length≤maxLen
structure SmCred (x:DCred):Prop where
 hl_groups:x.groups.length≤1048576
def wCred (x:DCred):Nat:=x.groups.length
theorem smCred_of {x:DCred} (h:wCred x≤1048576):SmCred x:=by
 simp only [wCred] at h
 exact ⟨by omega⟩
set_option maxHeartbeats 8000000 in
set_option maxRecDepth 4000 in
theorem laws_szCred (n0:Option Bool) (x:DCred) (n:Int) (h0:0≤n) (h1:n≤1048576) (hw:WfCred x) :
  Snd Tryz.prog 16 [.agg [.int .i64 x.uid, .int .i64 x.gid, .frz 1 n0 (x.groups.map ci)], .int .i64 n] (.int .i64 (szR (wCred x) n)) [.unk, .unk]:=Runs.snd (M:=M) (c:=⟨2,[2,4,10],[],[]⟩) tok ks mixed Tryz.func16 (p := []) (by kernel_rfl) (by rfl) (by rfl) <| by
 have w1:szR (wCred x) n=_:=(rfl:_=szR (x.groups.length) n)
 simp -implicitDefEqProofs (disch:=first|exact dd|fail)[Tryz.f16,ABr,AGd]
 refine AC_snd (laws_szIntS _ _ _ (by omega) (by omega) hw.hl_groups) ?_
 simp -implicitDefEqProofs (disch:=first|exact dd|fail)[Tryz.f16,w1,ABr,AGd]
 exact fun h=>szR_m1 (by omega) h
set_option maxHeartbeats 8000000 in
set_option maxRecDepth 4000 in
theorem laws_toCred (n0:Option Bool) (x:DCred) (hs:SmCred x) :
  Snd Tryz.prog 19 [.agg [.int .i64 x.uid, .int .i64 x.gid, .frz 1 n0 (x.groups.map ci)]] (.agg [.int .i64 x.uid, .int .i64 x.gid, .row 1 (x.groups.map ci)]) [.unk]:=Runs.snd (M:=M) (c:=⟨1,[1,2,3],[],[]⟩) tok ks mixed Tryz.func19 (p := []) (by kernel_rfl) (by rfl) (by rfl) <| by
 simp -implicitDefEqProofs (disch:=first|exact dd|fail)[Tryz.f19,ABr,AGd]
 refine AC_snd (laws_toIntS _ _ hs.hl_groups) ?_
 simp -implicitDefEqProofs (disch:=first|exact dd|fail)[Tryz.f19,ABr,AGd]
set_option maxHeartbeats 8000000 in
set_option maxRecDepth 4000 in
theorem laws_eqCred (n0:Option Bool) (n1:Option Bool) (x y:DCred) (hs:SmCred x) :
  Snd Tryz.prog 22 [.agg [.int .i64 x.uid, .int .i64 x.gid, .frz 1 n0 (x.groups.map ci)], .agg [.int .i64 y.uid, .int .i64 y.gid, .frz 1 n1 (y.groups.map ci)]] (.bool (decide (x=y))) [.unk, .unk]:=Runs.snd (M:=M) (c:=⟨2,[2,3,4,9,14,20],[],[]⟩) tok ks mixed Tryz.func22 (p := []) (by kernel_rfl) (by rfl) (by rfl) <| by
 simp -implicitDefEqProofs (disch:=first|exact dd|fail)[Tryz.f22,ABr,AGd]
 refine ⟨fun h=>by (rintro rfl;first | exact h rfl | simp at h),fun _ => ?_⟩
 refine ⟨fun h=>by (rintro rfl;first | exact h rfl | simp at h),fun _ => ?_⟩
 refine AC_snd (laws_eqIntS _ _ _ _ hs.hl_groups) ?_
 simp -implicitDefEqProofs (disch:=first|exact dd|fail)[Tryz.f22,ABr,AGd]
 refine ⟨fun h=>by (rintro rfl;first | exact h rfl | simp at h),fun _ => ?_⟩
 cases x
 cases y
 simp_all
abbrev mtCred (x:DCred) (k:Int):DCred:={ x with groups:=mLInt x.groups k }
abbrev ntCred (x:DCred):Nat:=nLInt x.groups
set_option maxHeartbeats 8000000 in
set_option maxRecDepth 4000 in
theorem laws_markCred (x:DCred) (k:Int) (hs:SmCred x) (hk:0≤k) (hn:k + ntCred x≤16777216) :
  Snd Tryz.prog 24 [.agg [.int .i64 x.uid, .int .i64 x.gid, .row 1 (x.groups.map ci)], .int .i64 k] (.int .i64 (k + ntCred x)) [.agg [.unk, .unk, .row 1 ((mtCred x k).groups.map ci)], .unk]:=Runs.snd (M:=M) (c:=⟨2,[2,4],[],[]⟩) tok ks mixed Tryz.func24 (p := [0]) (by kernel_rfl) (by rfl) (by rfl) <| by
 simp only [ntCred] at hn
 simp -implicitDefEqProofs (disch:=first|exact dd|fail)[Tryz.f24,ABr,AGd]
 refine AC_snd (laws_markIntS _ _ hs.hl_groups (by omega) (by omega)) ?_
 simp -implicitDefEqProofs (disch:=first|exact dd|fail)[Tryz.f24,mkL_len,ABr,AGd]
 all_goals omega
end Go.Proofs.YtgopfdninbknpaaGreat
