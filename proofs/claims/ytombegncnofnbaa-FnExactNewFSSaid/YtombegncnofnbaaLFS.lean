import Derived.Test.YtombegncnofnbaaLA
namespace Go.Proofs.Ytombegncnofnbaa
open Go.Fw
set_option linter.unusedVariables false
set_option linter.unusedSimpArgs false
structure WfInode (x:DInode):Prop where
 hl_blocks:x.blocks.length≤maxLen
 hl_acl:x.acl.length≤maxLen
 hl_dflt:x.dflt.length≤maxLen
structure SmInode (x:DInode):Prop where
 hl_blocks:x.blocks.length≤1048576
 hl_acl:x.acl.length≤1048576
 hl_dflt:x.dflt.length≤1048576
def wInode (x:DInode):Nat:=x.blocks.length + (x.acl.length + x.dflt.length)
theorem smInode_of {x:DInode} (h:wInode x≤1048576):SmInode x:=by
 simp only [wInode] at h
 exact ⟨by omega,by omega,by omega⟩
set_option maxHeartbeats 8000000 in
set_option maxRecDepth 4000 in
theorem laws_eqInode (n0 n1 n2:Option Bool) (n3 n4 n5:Option Bool) (x y:DInode) (hs:SmInode x) :
  Snd Try.prog 36 [.agg [.int .i64 x.kind, .int .i64 x.mode, .int .i64 x.uid, .int .i64 x.gid, .int .i64 x.links, .int .i64 x.size, .int .i64 x.tick, .frz 1 n0 (x.blocks.map ci), .frz 3 n1 (x.acl.map cAcl), .frz 3 n2 (x.dflt.map cAcl)], .agg [.int .i64 y.kind, .int .i64 y.mode, .int .i64 y.uid, .int .i64 y.gid, .int .i64 y.links, .int .i64 y.size, .int .i64 y.tick, .frz 1 n3 (y.blocks.map ci), .frz 3 n4 (y.acl.map cAcl), .frz 3 n5 (y.dflt.map cAcl)]] (.bool (decide (x=y))) [.unk, .unk]:=Runs.snd (M:=M) (c:=⟨2,[2,3,4,9,14,19,24,29,34,39,45,51,57],[],[]⟩) tok ks mixed Try.func36 (p := []) (by kernel_rfl) (by rfl) (by rfl) <| by
 simp -implicitDefEqProofs (disch:=first|exact dd|fail)[Try.f36,ABr,AGd]
 refine ⟨fun h=>by (rintro rfl;first | exact h rfl | simp at h),fun _ => ?_⟩
 refine ⟨fun h=>by (rintro rfl;first | exact h rfl | simp at h),fun _ => ?_⟩
 refine ⟨fun h=>by (rintro rfl;first | exact h rfl | simp at h),fun _ => ?_⟩
 refine ⟨fun h=>by (rintro rfl;first | exact h rfl | simp at h),fun _ => ?_⟩
 refine ⟨fun h=>by (rintro rfl;first | exact h rfl | simp at h),fun _ => ?_⟩
 refine ⟨fun h=>by (rintro rfl;first | exact h rfl | simp at h),fun _ => ?_⟩
 refine ⟨fun h=>by (rintro rfl;first | exact h rfl | simp at h),fun _ => ?_⟩
 refine AC_snd (laws_eqIntS _ _ _ _ hs.hl_blocks) ?_
 simp -implicitDefEqProofs (disch:=first|exact dd|fail)[Try.f36,ABr,AGd]
 refine ⟨fun h=>by (rintro rfl;first | exact h rfl | simp at h),fun _ => ?_⟩
 refine AC_snd (laws_eqAclEntryS _ _ _ _ hs.hl_acl) ?_
 simp -implicitDefEqProofs (disch:=first|exact dd|fail)[Try.f36,ABr,AGd]
 refine ⟨fun h=>by (rintro rfl;first | exact h rfl | simp at h),fun _ => ?_⟩
 refine AC_snd (laws_eqAclEntryS _ _ _ _ hs.hl_dflt) ?_
 simp -implicitDefEqProofs (disch:=first|exact dd|fail)[Try.f36,ABr,AGd]
 refine ⟨fun h=>by (rintro rfl;first | exact h rfl | simp at h),fun _ => ?_⟩
 cases x
 cases y
 simp_all
def wLInode (xs:List DInode):Nat:=xs.length + wList wInode xs
set_option maxHeartbeats 8000000 in
set_option maxRecDepth 4000 in
theorem laws_eqInodeS (n1 n2:Option Bool) (xs ys:List DInode) (hl:xs.length≤1048576) (hx:∀ x ∈ xs,SmInode x) :
  Snd Try.prog 20 [.frz 10 n1 (xs.map cInode), .frz 10 n2 (ys.map cInode)] (.bool (decide (xs=ys))) [.unk, .unk]:=Runs.snd (M:=M) (c:=⟨2,[4,5,10,14,26],[],[]⟩) tok ks mixed Try.func20 (p := []) (by kernel_rfl) (by rfl) (by rfl) <| by
 simp -implicitDefEqProofs (disch:=first|exact dd|fail)[Try.f20,ABr,AGd]
 refine ⟨fun h=>by rintro rfl;exact h rfl,fun h => ?_⟩
 refine AL_ind (fun i=>xs.length - i) (fun i=>⟨[(0, .frz 10 n1 (xs.map cInode)),(1, .frz 10 n2 (ys.map cInode)),(4, .bool false),(5, .int .i64 i)],[],false⟩)
  (fun i=>i≤xs.length∧xs.take i=ys.take i) 0 rfl ⟨by omega,rfl⟩ ?_
 rintro i n ⟨hi,he⟩ ih
 rcases Nat.lt_or_ge i xs.length with hlt | hge
 ·have hlt':i < ys.length:=by omega
  simp -implicitDefEqProofs (disch:=first|exact dd|fail)[Try.f20,hlt,hlt',cInode,ABr,AGd]
  refine AC_snd (laws_eqInode _ _ _  _ _ _  _ _ (hx xs[i] (List.getElem_mem hlt))) ?_
  simp -implicitDefEqProofs (disch:=first|exact dd|fail)[Try.f20,hlt,hlt',cInode,ABr,AGd]
  refine ⟨fun h1=>by rintro rfl;exact h1 rfl,fun h1 => ?_⟩
  exact ih (i + 1) ⟨by omega,take_step hlt hlt' he h1⟩ (by omega)
 ·obtain rfl:i=xs.length:=by omega
  simp -implicitDefEqProofs (disch:=first|exact dd|fail)[Try.f20,ABr,AGd]
  exact take_all (by omega) he
def mkInode (x:DInode) (k:Int):DInode:={ kind:=k,mode:=(k + 1),uid:=((k + 1) + 1),gid:=(((k + 1) + 1) + 1),links:=((((k + 1) + 1) + 1) + 1),size:=(((((k + 1) + 1) + 1) + 1) + 1),tick:=((((((k + 1) + 1) + 1) + 1) + 1) + 1),blocks:=mLInt x.blocks (((((((k + 1) + 1) + 1) + 1) + 1) + 1) + 1),acl:=mLAclEntry x.acl ((((((((k + 1) + 1) + 1) + 1) + 1) + 1) + 1) + ((nLInt x.blocks:Nat):Int)),dflt:=mLAclEntry x.dflt (((((((((k + 1) + 1) + 1) + 1) + 1) + 1) + 1) + ((nLInt x.blocks:Nat):Int)) + ((nLAclEntry x.acl:Nat):Int)) }
def nmInode (x:DInode):Nat:=7 + nLInt x.blocks + nLAclEntry x.acl + nLAclEntry x.dflt
abbrev mLInode (xs:List DInode) (k:Int):List DInode:=mkL mkInode nmInode xs k
abbrev nLInode (xs:List DInode):Nat:=wList nmInode xs
set_option maxHeartbeats 8000000 in
set_option maxRecDepth 4000 in
theorem laws_markInodeS (xs:List DInode) (k:Int) (hl:xs.length≤1048576) (hk:0≤k) (hn:k + nLInode xs≤16777216) (hx:∀ x ∈ xs,SmInode x) :
  Snd Try.prog 23 [.row 10 (xs.map cInode), .int .i64 k] (.int .i64 (k + nLInode xs)) [.row 10 ((mLInode xs k).map cInode), .unk]:=Runs.snd (M:=M) (c:=⟨2,[4,5,9],[],[]⟩) tok ks mixed Try.func23 (p := [0]) (by kernel_rfl) (by rfl) (by rfl) <| by
 have hml:(mLInode xs k).length=xs.length:=mkL_len
 simp -implicitDefEqProofs (disch:=first|exact dd|fail)[Try.f23,ABr,AGd]
 rw [patch_zero (c:=cInode) (ms:=mLInode xs k) (xs:=xs)]
 refine AL_ind (ι:=Nat × Int) (fun x=>xs.length - x.1) (fun x=>⟨[(0, .ref 0 none 10 0 xs.length none),(1, .int .i64 x.2),(4, .int .i64 0),(5, .int .i64 x.1)],[(0, .row 10 (patch cInode (mLInode xs k) xs x.1) [])],false⟩)
  (fun x=>x.1≤xs.length∧x.2=k + wList nmInode (xs.take x.1)) (0,k) rfl ⟨by simp,by simp [wList]⟩ ?_
 rintro ⟨i,a⟩ n ⟨hi,ha⟩ ih
 simp only at hi ha ⊢
 rcases Nat.lt_or_ge i xs.length with hlt | hge
 ·have hw:=wList_take (n:=nmInode) hlt
  have hle:=wList_take_le (n:=nmInode) (xs:=xs) (i:=i + 1)
  have hpl:=patch_len (c:=cInode) hml hi
  have hg:=patch_get (c:=cInode) hml hlt
  have hpi:=Nat.lt_of_lt_of_eq hlt hpl.symm
  rw [List.getElem?_eq_getElem hpi] at hg
  have hg:=Option.some.inj hg
  have hs:=patch_put (c:=cInode) hml hlt (mkL_get (f:=mkInode) hlt)
  rw [←ha] at hs
  simp only [cInode,mkInode,nmInode] at hg hs hw
  simp only [nLInode] at hn
  simp -implicitDefEqProofs (disch:=first|exact dd|fail)[Try.f23,hlt,hg,hs,patch_len hml,List.set_set,cInode,ABr,AGd]
  refine AC_snd (laws_markIntS _ _ (hx xs[i] (List.getElem_mem hlt)).hl_blocks (by omega) (by first | omega | (simp only [nLInt];omega))) ?_
  simp -implicitDefEqProofs (disch:=first|exact dd|fail)[Try.f23,hlt,hg,hs,patch_len hml,List.set_set,cInode,ABr,AGd]
  refine AC_snd (laws_markAclEntryS _ _ (hx xs[i] (List.getElem_mem hlt)).hl_acl (by omega) (by first | omega | (simp only [nLAclEntry];omega))) ?_
  simp -implicitDefEqProofs (disch:=first|exact dd|fail)[Try.f23,hlt,hg,hs,patch_len hml,List.set_set,cInode,ABr,AGd]
  refine AC_snd (laws_markAclEntryS _ _ (hx xs[i] (List.getElem_mem hlt)).hl_dflt (by omega) (by first | omega | (simp only [nLAclEntry];omega))) ?_
  simp -implicitDefEqProofs (disch:=first|exact dd|fail)[Try.f23,hlt,hg,hs,patch_len hml,List.set_set,cInode,ABr,AGd]
  refine ih (i + 1,_) ⟨by simp only;omega,?_⟩ (by simp only;omega)
  simp only
  omega
 ·obtain rfl:i=xs.length:=by omega
  simp -implicitDefEqProofs (disch:=first|exact dd|fail)[Try.f23,patch_len hml,patch_end hml,hml,ABr,AGd]
  rw [ha,List.take_length]
set_option maxHeartbeats 8000000 in
set_option maxRecDepth 4000 in
theorem laws_heldInodeS (nl:Option Bool) (xs:List DInode) (k:Int) (hl:xs.length≤1048576) (hk:0≤k) (hn:k + nLInode xs≤16777216) (hx:∀ x ∈ xs,SmInode x) :
  Snd Try.prog 26 [.frz 10 nl ((mLInode xs k).map cInode), .int .i64 k] (.int .i64 (k + nLInode xs)) [.unk, .unk]:=Runs.snd (M:=M) (c:=⟨2,[4,5,9,18,27,36,45,54,63,72,83,92,101],[],[]⟩) tok ks mixed Try.func26 (p := []) (by kernel_rfl) (by rfl) (by rfl) <| by
 have hml:(mLInode xs k).length=xs.length:=mkL_len
 simp -implicitDefEqProofs (disch:=first|exact dd|fail)[Try.f26,hml,ABr,AGd]
 refine AL_ind (ι:=Nat × Int) (fun x=>xs.length - x.1) (fun x=>⟨[(0, .frz 10 nl ((mLInode xs k).map cInode)),(1, .int .i64 x.2),(4, .int .i64 0),(5, .int .i64 x.1)],[],false⟩)
  (fun x=>x.1≤xs.length∧x.2=k + wList nmInode (xs.take x.1)) (0,k) rfl ⟨by simp,by simp [wList]⟩ ?_
 rintro ⟨i,a⟩ n ⟨hi,ha⟩ ih
 simp only at hi ha ⊢
 rcases Nat.lt_or_ge i xs.length with hlt | hge
 ·have hw:=wList_take (n:=nmInode) hlt
  have hle:=wList_take_le (n:=nmInode) (xs:=xs) (i:=i + 1)
  have hg:=mkL_get (f:=mkInode) (n:=nmInode) (k:=k) hlt
  rw [←ha] at hg
  have hlt':i < (mLInode xs k).length:=by omega
  rw [List.getElem?_eq_getElem hlt'] at hg
  have hg:=Option.some.inj hg
  simp only [mkInode,nmInode] at hg hw
  simp only [nLInode] at hn
  (try simp -implicitDefEqProofs (disch:=first|exact dd|fail)[Try.f26,hlt,hlt',hg,hml,cInode]);(repeat'((with_reducible first|(refine Br.out ?_ ?_<;>intro h<;>(try(have h0:=h;simp only[bH]at h)))|refine AC_snd (laws_heldIntS _ _ _ (hx xs[i] (List.getElem_mem hlt)).hl_blocks (by omega) (by first | omega | (simp only [nLInt];omega))) ?_|refine AC_snd (laws_heldAclEntryS _ _ _ (hx xs[i] (List.getElem_mem hlt)).hl_acl (by omega) (by first | omega | (simp only [nLAclEntry];omega))) ?_|refine AC_snd (laws_heldAclEntryS _ _ _ (hx xs[i] (List.getElem_mem hlt)).hl_dflt (by omega) (by first | omega | (simp only [nLAclEntry];omega))) ?_|fail)<;>(try simp -implicitDefEqProofs (disch:=first|exact dd|fail)[Try.f26,hlt,hlt',hg,hml,cInode])))
  all_goals try omega
  refine ih (i + 1,_) ⟨by simp only;omega,?_⟩ (by simp only;omega)
  simp only
  omega
 ·obtain rfl:i=xs.length:=by omega
  simp -implicitDefEqProofs (disch:=first|exact dd|fail)[Try.f26,hml,ABr,AGd]
  rw [ha,List.take_length]
structure WfFS (x:DFS):Prop where
 hl_quotas:x.quotas.length≤maxLen
 hl_inodes:x.inodes.length≤maxLen
 hx_inodes:∀ y ∈ x.inodes,WfInode y
 hl_data:x.data.length≤maxLen
 hx_data:∀ y ∈ x.data,y.length≤maxLen
structure SmFS (x:DFS):Prop where
 hl_quotas:x.quotas.length≤1048576
 hl_inodes:x.inodes.length≤1048576
 hx_inodes:∀ y ∈ x.inodes,SmInode y
 hl_data:x.data.length≤1048576
def wFS (x:DFS):Nat:=x.quotas.length + (wLInode x.inodes + wLString x.data)
theorem smFS_of {x:DFS} (h:wFS x≤1048576):SmFS x:=by
 simp only [wFS,wLInode,wLString] at h
 exact ⟨by omega,by omega,fun y hy=>smInode_of (by have:=wList_mem (f:=wInode) hy;omega),by omega⟩
set_option maxHeartbeats 8000000 in
set_option maxRecDepth 4000 in
theorem laws_eqFS (n0 n1 n2:Option Bool) (n3 n4 n5:Option Bool) (x y:DFS) (hs:SmFS x) :
  Snd Try.prog 8 [.agg [.int .i64 x.tick, .frz 2 n0 (x.quotas.map cQuota), .frz 10 n1 (x.inodes.map cInode), .frz 1 n2 (x.data.map cs)], .agg [.int .i64 y.tick, .frz 2 n3 (y.quotas.map cQuota), .frz 10 n4 (y.inodes.map cInode), .frz 1 n5 (y.data.map cs)]] (.bool (decide (x=y))) [.unk, .unk]:=Runs.snd (M:=M) (c:=⟨2,[2,3,4,9,15,21,27],[],[]⟩) tok ks mixed Try.func8 (p := []) (by kernel_rfl) (by rfl) (by rfl) <| by
 simp -implicitDefEqProofs (disch:=first|exact dd|fail)[Try.f8,ABr,AGd]
 refine ⟨fun h=>by (rintro rfl;first | exact h rfl | simp at h),fun _ => ?_⟩
 refine AC_snd (laws_eqQuotaS _ _ _ _ hs.hl_quotas) ?_
 simp -implicitDefEqProofs (disch:=first|exact dd|fail)[Try.f8,ABr,AGd]
 refine ⟨fun h=>by (rintro rfl;first | exact h rfl | simp at h),fun _ => ?_⟩
 refine AC_snd (laws_eqInodeS _ _ _ _ hs.hl_inodes hs.hx_inodes) ?_
 simp -implicitDefEqProofs (disch:=first|exact dd|fail)[Try.f8,ABr,AGd]
 refine ⟨fun h=>by (rintro rfl;first | exact h rfl | simp at h),fun _ => ?_⟩
 refine AC_snd (laws_eqStringS _ _ _ _ hs.hl_data) ?_
 simp -implicitDefEqProofs (disch:=first|exact dd|fail)[Try.f8,ABr,AGd]
 refine ⟨fun h=>by (rintro rfl;first | exact h rfl | simp at h),fun _ => ?_⟩
 cases x
 cases y
 simp_all
abbrev mtFS (x:DFS) (k:Int):DFS:={ x with quotas:=mLQuota x.quotas k,inodes:=mLInode x.inodes (k + ((nLQuota x.quotas:Nat):Int)),data:=mLString x.data ((k + ((nLQuota x.quotas:Nat):Int)) + ((nLInode x.inodes:Nat):Int)) }
abbrev ntFS (x:DFS):Nat:=nLQuota x.quotas + nLInode x.inodes + nLString x.data
set_option maxHeartbeats 8000000 in
set_option maxRecDepth 4000 in
theorem laws_markFS (x:DFS) (k:Int) (hs:SmFS x) (hk:0≤k) (hn:k + ntFS x≤16777216) :
  Snd Try.prog 11 [.agg [.int .i64 x.tick, .row 2 (x.quotas.map cQuota), .row 10 (x.inodes.map cInode), .row 1 (x.data.map cs)], .int .i64 k] (.int .i64 (k + ntFS x)) [.agg [.unk, .row 2 ((mtFS x k).quotas.map cQuota), .row 10 ((mtFS x k).inodes.map cInode), .row 1 ((mtFS x k).data.map cs)], .unk]:=Runs.snd (M:=M) (c:=⟨2,[2,4],[],[]⟩) tok ks mixed Try.func11 (p := [0]) (by kernel_rfl) (by rfl) (by rfl) <| by
 simp only [ntFS] at hn
 simp -implicitDefEqProofs (disch:=first|exact dd|fail)[Try.f11,ABr,AGd]
 refine AC_snd (laws_markQuotaS _ _ hs.hl_quotas (by omega) (by omega)) ?_
 simp -implicitDefEqProofs (disch:=first|exact dd|fail)[Try.f11,mkL_len,ABr,AGd]
 refine AC_snd (laws_markInodeS _ _ hs.hl_inodes (by omega) (by omega) hs.hx_inodes) ?_
 simp -implicitDefEqProofs (disch:=first|exact dd|fail)[Try.f11,mkL_len,ABr,AGd]
 refine AC_snd (laws_markStringS _ _ hs.hl_data (by omega) (by omega)) ?_
 simp -implicitDefEqProofs (disch:=first|exact dd|fail)[Try.f11,mkL_len,ABr,AGd]
 all_goals omega
set_option maxHeartbeats 8000000 in
set_option maxRecDepth 4000 in
theorem laws_heldFS (n0 n1 n2:Option Bool) (x:DFS) (k:Int) (hs:SmFS x) (hk:0≤k) (hn:k + ntFS x≤16777216) :
  Snd Try.prog 12 [.agg [.int .i64 (mtFS x k).tick, .frz 2 n0 ((mtFS x k).quotas.map cQuota), .frz 10 n1 ((mtFS x k).inodes.map cInode), .frz 1 n2 ((mtFS x k).data.map cs)], .int .i64 k] (.int .i64 (k + ntFS x)) [.unk, .unk]:=Runs.snd (M:=M) (c:=⟨2,[2,4,10,16,22],[],[]⟩) tok ks mixed Try.func12 (p := []) (by kernel_rfl) (by rfl) (by rfl) <| by
 simp only [ntFS] at hn
 simp -implicitDefEqProofs (disch:=first|exact dd|fail)[Try.f12,ABr,AGd]
 refine AC_snd (laws_heldQuotaS _ _ _ hs.hl_quotas (by omega) (by omega)) ?_
 simp -implicitDefEqProofs (disch:=first|exact dd|fail)[Try.f12,ABr,AGd]
 refine ⟨fun h=>by omega,fun h => ?_⟩
 refine AC_snd (laws_heldInodeS _ _ _ hs.hl_inodes (by omega) (by omega) hs.hx_inodes) ?_
 simp -implicitDefEqProofs (disch:=first|exact dd|fail)[Try.f12,ABr,AGd]
 refine ⟨fun h=>by omega,fun h => ?_⟩
 refine AC_snd (laws_heldStringS _ _ _ hs.hl_data (by omega) (by omega)) ?_
 simp -implicitDefEqProofs (disch:=first|exact dd|fail)[Try.f12,ABr,AGd]
 first | omega | exact ⟨fun h=>by omega,fun h=>by omega⟩ | exact fun h=>by omega
end Go.Proofs.Ytombegncnofnbaa
