import Derived.Test.YtgopfdninbknpaaGreatM11
import Derived.Test.YtgopfdninbknpaaGreatP12
namespace Go.Proofs.YtgopfdninbknpaaGreat
open Go.Fw
set_option linter.unusedVariables false
set_option linter.unusedSimpArgs false
theorem free_row {f:DFS} {k:Nat}:(f.inodes.map cInode).set k [.int .i64 0, .int .i64 0, .int .i64 0, .int .i64 0, .int .i64 0, .int .i64 0, .int .i64 0, .row 1 [], .row 3 [], .row 3 []]=(f.inodes.set k zeroInode).map cInode:=by
 rw [List.map_set]
 rfl
set_option maxHeartbeats 4000000 in
set_option maxRecDepth 8000 in
theorem impl_free (f:DFS) (i:Int) (hs:SmF f) (hi:0≤i∧i < 20) (hn:f.inodes.length=20) (h0:¬ i=0) (hd:f.data.length=56) (hb:∀ b ∈ (inodeAt f i).blocks,b ≠ -1→0≤b∧b < 56):Snd Tryz.prog 188 [wFS f, .int .i64 i] (.int .i64 0) [wFS (freeF f i), .unk]:=Runs.snd (M:=M) (c:=⟨2,[4,6,8,16,17,18,19],[],[(1,[0,1,4,8,16,17,18,19])]⟩) tok ks mixed Tryz.func188 (p := [0]) (by kernel_rfl) (by rfl) (by rfl) <| by
 obtain ⟨k,rfl⟩:=Int.eq_ofNat_of_zero_le hi.1
 have hlt:k < f.inodes.length:=by omega
 have he:=inodeAt_nat hlt
 have hk0:¬ k=0:=by omega
 have hr:=free_row (f:=f) (k:=k)
 rw [he] at hb
 have hsn:=hs.inode _ (List.getElem_mem hlt)
 have hsb:=hsn.blocks
 have hrl:=real_len (l:=f.inodes[k].blocks)
 have hbr:∀ b ∈ real f.inodes[k].blocks,0≤b∧b < 56:=fun b hm=>hb b (mem_real.1 hm).1 (mem_real.1 hm).2
 unfold freeF
 rw [he]
 (try simp -implicitDefEqProofs (disch:=first|exact dd|fail)[Tryz.f188,hlt,hk0,cInode]);(repeat'((with_reducible first|(refine Br.out ?_ ?_<;>intro h<;>(try(have h0:=h;simp only[bH]at h)))|refine AC_snd (impl_UsedBlocks _ _ _ f.inodes[k] hsn) ?_|fail)<;>(try simp -implicitDefEqProofs (disch:=first|exact dd|fail)[Tryz.f188,hlt,hk0,cInode])))
 obtain ⟨B,hB⟩:∃ B,B=real f.inodes[k].blocks:=⟨_,rfl⟩
 rw [←hB] at hbr hrl ⊢
 refine AL_fors (σ:=Unit) 18 B.length (fun _ _ => []) (fun j _ => [(8, .row 1 ((zeroR f.data (B.take j)).map cs) [])]) (fun _ _=>True) () rfl trivial (fun j _ n hjt _ jh => ?_) (fun _ n _ => ?_)
 ·have hbj:=hbr _ (List.getElem_mem hjt)
  have hz:=zeroR_take (data:=f.data) hjt
  have hzl:=zeroR_len (data:=f.data) (bs:=B.take j)
  have hj:=jh () trivial
  obtain ⟨m,hm⟩:=Int.eq_ofNat_of_zero_le hbj.1
  rw [hm] at hz
  have hset:(List.map cs (zeroR f.data (B.take j))).set m [.str zero32]=List.map cs (zeroR f.data (B.take (j + 1))):=by
   rw [hz,List.map_set]
   rfl
  rw [←hset] at hj
  have hget:∃ s,(List.map cs (zeroR f.data (B.take j)))[m]? = some [.str s]:=⟨_,by rw [List.getElem?_map,List.getElem?_eq_getElem (by omega)];rfl⟩
  obtain ⟨s0,hget⟩:=hget
  generalize List.map cs (zeroR f.data (B.take j))=Z at *
  (try simp -implicitDefEqProofs (disch:=first|exact dd|fail)[Tryz.f188,hjt,hm,hget]);(repeat'((with_reducible first|(refine Br.out ?_ ?_<;>intro h<;>(try(have h0:=h;simp only[bH]at h)))|refine AC_snd (impl_zeros32) ?_|fail)<;>(try simp -implicitDefEqProofs (disch:=first|exact dd|fail)[Tryz.f188,hjt,hm,hget])))
  exact hj
 ·rw [List.take_length]
  have hzl:=zeroR_len (data:=f.data) (bs:=B)
  (try simp -implicitDefEqProofs (disch:=first|exact dd|fail)[Tryz.f188,hlt,hr,hzl,cInode]);(repeat'((with_reducible first|(refine Br.out ?_ ?_<;>intro h<;>(try(have h0:=h;simp only[bH]at h)))|fail)<;>(try simp -implicitDefEqProofs (disch:=first|exact dd|fail)[Tryz.f188,hlt,hr,hzl,cInode])))
theorem free_pre {f:DFS} {i:Int} (hf:IsFS f) (hi:hasI f i=true):(0≤i∧i < 20)∧∀ b ∈ (inodeAt f i).blocks,b ≠ -1→0≤b∧b < 56:=by
 have h:=hasI_lt hi
 refine ⟨⟨h.1,h.2.1⟩,?_⟩
 obtain ⟨k,rfl⟩:=Int.eq_ofNat_of_zero_le h.1
 have hlt:k < f.inodes.length:=by rw [hf.ni];omega
 rw [inodeAt_nat hlt]
 exact (hf.blks (List.getElem_mem hlt)).2.2
theorem impl_free0 (f:DFS):Snd Tryz.prog 188 [wFS f, .int .i64 0] (.int .i64 1) [wFS f, .unk]:=Runs.snd (M:=M) (c:=⟨2,[4,6,8,16,17,18,19],[],[(1,[0,1,4,8,16,17,18,19])]⟩) tok ks mixed Tryz.func188 (p := [0]) (by kernel_rfl) (by rfl) (by rfl) <| by
 (try simp -implicitDefEqProofs (disch:=first|exact dd|fail)[Tryz.f188]);(repeat'((with_reducible first|(refine Br.out ?_ ?_<;>intro h<;>(try(have h0:=h;simp only[bH]at h)))|fail)<;>(try simp -implicitDefEqProofs (disch:=first|exact dd|fail)[Tryz.f188])))
def freeO (f:DFS) (i:Int):DFS × Int:=if i=0 then (f,1) else (freeF f i,0)
noncomputable def freeObj (f:DFS) (i:Int):DFS × Int:=if isFS f && hasI f i then freeO f i else (f,1)
set_option maxHeartbeats 4000000 in
set_option maxRecDepth 8000 in
theorem spec_l09Resize0 (n1 n2 n3:Option Bool) (f:DFS) (i:Int) (hs:SmF f) (hi:0≤i∧i < 20) (hn:f.inodes.length=20) (hd:f.data.length=56) (hb:∀ b ∈ (inodeAt f i).blocks,b ≠ -1→0≤b∧b < 56):Snd Tryz.prog 138 [fFS n1 n2 n3 f, .int .i64 i, .int .i64 0] (rFS ⟨f.tick,f.quotas,f.inodes.set i.toNat { inodeAt f i with blocks := [],size:=0 },zeroR f.data (real (inodeAt f i).blocks)⟩) [.unk, .unk, .unk]:=Runs.snd (M:=M) (c:=⟨3,[3,6,7,8,9,10,11,26,36,67,91],[],[(1,[0,1,2,3,6,7,8,9,11,26,36,67,91])]⟩) tok ks mixed Tryz.func138 (p := []) (by kernel_rfl) (by rfl) (by rfl) <| by
 obtain ⟨k,rfl⟩:=Int.eq_ofNat_of_zero_le hi.1
 have hlt:k < f.inodes.length:=by omega
 have he:=inodeAt_nat hlt
 have hsn:=hs.inode _ (List.getElem_mem hlt)
 have hsb:=hsn.blocks
 rw [he] at hb ⊢
 (try simp -implicitDefEqProofs (disch:=first|exact dd|fail)[Tryz.f138,hlt,cInode]);(repeat'((with_reducible first|(refine Br.out ?_ ?_<;>intro h<;>(try(have h0:=h;simp only[bH]at h)))|refine AC_snd (spec_l08Copy _ _ _ f hs) ?_|refine AC_snd (spec_l07Copy _ _ _ f.inodes[k] hsn) ?_|refine AC_snd (spec_BlocksNeeded _ (by omega)) ?_|fail)<;>(try simp -implicitDefEqProofs (disch:=first|exact dd|fail)[Tryz.f138,hlt,cInode])))
 have hbn:blocksNeeded 0=0:=rfl
 rw [hbn]
 have hr:(f.inodes.map cInode).set k [.int .i64 f.inodes[k].kind, .int .i64 f.inodes[k].mode, .int .i64 f.inodes[k].uid, .int .i64 f.inodes[k].gid, .int .i64 f.inodes[k].links, .int .i64 0, .int .i64 f.inodes[k].tick, .row 1 [], .row 3 (f.inodes[k].acl.map cAcl), .row 3 (f.inodes[k].dflt.map cAcl)]=(f.inodes.set k { f.inodes[k] with blocks := [],size:=0 }).map cInode:=by
  rw [List.map_set]
  rfl
 generalize hG:f.inodes.set k ({ f.inodes[k] with blocks := [],size:=0 }:DInode)=G at hr ⊢
 have hGl:G.length=f.inodes.length:=by rw [←hG,List.length_set]
 clear hG
 generalize hx:f.inodes[k]=x at *
 refine AL_up (fun m=>m) (fun _ => []) (fun m => [(904, .row 1 ((zeroR f.data (real (x.blocks.drop m))).map cs) []),(1024, .box [.int .i64 x.kind, .int .i64 x.mode, .int .i64 x.uid, .int .i64 x.gid, .int .i64 x.links, .int .i64 x.size, .int .i64 x.tick, .ref 1040 none 1 0 m none, .ref 1042 none 3 0 x.acl.length none, .ref 1044 none 3 0 x.dflt.length none])]) (fun m=>m≤x.blocks.length) x.blocks.length (by simp [real,zeroR]) (Nat.le_refl _) ?_
 intro m n hm ih
 have hzl:=fun b=>zeroR_len (data:=f.data) (bs:=b)
 rcases m with _ | m
 ·(try simp -implicitDefEqProofs (disch:=first|exact dd|fail)[Tryz.f138,hlt,hx,cInode]);(repeat'((with_reducible first|(refine Br.out ?_ ?_<;>intro h<;>(try(have h0:=h;simp only[bH]at h)))|fail)<;>(try simp -implicitDefEqProofs (disch:=first|exact dd|fail)[Tryz.f138,hlt,hx,cInode])))
  all_goals
   refine AL_up (ι:=Unit) (fun _=>0) (fun _ => []) (fun _ => []) (fun _=>True) () rfl trivial (fun _ n _ _ => ?_)
   by_cases hbe:x.blocks = []
   ·(try simp -implicitDefEqProofs (disch:=first|exact dd|fail)[Tryz.f138,hlt,hx,hr,hzl,hGl,hbe,cInode]);(repeat'((with_reducible first|(refine Br.out ?_ ?_<;>intro h<;>(try(have h0:=h;simp only[bH]at h)))|fail)<;>(try simp -implicitDefEqProofs (disch:=first|exact dd|fail)[Tryz.f138,hlt,hx,hr,hzl,hGl,hbe,cInode])))
   ·(try simp -implicitDefEqProofs (disch:=first|exact dd|fail)[Tryz.f138,hlt,hx,hr,hzl,hGl,hbe,cInode]);(repeat'((with_reducible first|(refine Br.out ?_ ?_<;>intro h<;>(try(have h0:=h;simp only[bH]at h)))|fail)<;>(try simp -implicitDefEqProofs (disch:=first|exact dd|fail)[Tryz.f138,hlt,hx,hr,hzl,hGl,hbe,cInode])))
 ·have hj:=ih m (by omega) (by omega)
  have hz:=zeroR_drop (data:=f.data) (bs:=x.blocks) (m:=m) (by omega)
  rw [hz] at hj
  have hmt:m < x.blocks.length:=by omega
  have hzm:=hzl (real (x.blocks.drop (m + 1)))
  by_cases hbm:x.blocks[m] = -1
  ·rw [if_pos hbm] at hj
   (try simp -implicitDefEqProofs (disch:=first|exact dd|fail)[Tryz.f138,hmt,hbm,cInode]);(repeat'((with_reducible first|(refine Br.out ?_ ?_<;>intro h<;>(try(have h0:=h;simp only[bH]at h)))|fail)<;>(try simp -implicitDefEqProofs (disch:=first|exact dd|fail)[Tryz.f138,hmt,hbm,cInode])))
   all_goals first | exact hj
  ·rw [if_neg hbm] at hj
   have hbr:=hb _ (List.getElem_mem hmt) hbm
   obtain ⟨j,hj2⟩:=Int.eq_ofNat_of_zero_le hbr.1
   have hb':¬ (j:Int) = -1:=by omega
   have hset:(List.map cs (zeroR f.data (real (x.blocks.drop (m + 1))))).set j [.str zero32]=List.map cs ((zeroR f.data (real (x.blocks.drop (m + 1)))).set j zero32):=by
    rw [List.map_set]
    rfl
   rw [hj2,Int.toNat_natCast,←hset] at hj
   have hget:∃ s,(List.map cs (zeroR f.data (real (x.blocks.drop (m + 1)))))[j]? = some [.str s]:=⟨_,by rw [List.getElem?_map,List.getElem?_eq_getElem (by omega)];rfl⟩
   obtain ⟨s0,hget⟩:=hget
   generalize List.map cs (zeroR f.data (real (x.blocks.drop (m + 1))))=Z at *
   (try simp -implicitDefEqProofs (disch:=first|exact dd|fail)[Tryz.f138,hmt,hj2,hb',hget,cInode]);(repeat'((with_reducible first|(refine Br.out ?_ ?_<;>intro h<;>(try(have h0:=h;simp only[bH]at h)))|refine AC_snd (spec_PadTo0) ?_|fail)<;>(try simp -implicitDefEqProofs (disch:=first|exact dd|fail)[Tryz.f138,hmt,hj2,hb',hget,cInode])))
   all_goals first | exact hj
set_option maxHeartbeats 4000000 in
set_option maxRecDepth 8000 in
theorem spec_l09Free (n1 n2 n3:Option Bool) (f:DFS) (i:Int) (hs:SmF f) (hi:0≤i∧i < 20) (hn:f.inodes.length=20) (hd:f.data.length=56) (hb:∀ b ∈ (inodeAt f i).blocks,b ≠ -1→0≤b∧b < 56):Snd Tryz.prog 207 [fFS n1 n2 n3 f, .int .i64 i] (rFS (freeF f i)) [.unk, .unk]:=Runs.snd (M:=M) (c:=⟨2,[2,4,5],[],[]⟩) tok ks mixed Tryz.func207 (p := []) (by kernel_rfl) (by rfl) (by rfl) <| by
 have hc:=spec_l09Resize0 n1 n2 n3 f i hs hi hn hd hb
 obtain ⟨k,rfl⟩:=Int.eq_ofNat_of_zero_le hi.1
 have hk:k < f.inodes.length:=by omega
 have hr:=free_row (f:=⟨f.tick,f.quotas,f.inodes.set k { inodeAt f k with blocks := [],size:=0 },f.data⟩) (k:=k)
 simp only [List.set_set] at hr
 simp only [Int.toNat_natCast] at hc
 unfold freeF
 simp only [Int.toNat_natCast]
 have hzl:=zeroR_len (data:=f.data) (bs:=real (inodeAt f k).blocks)
 have hl1:(f.inodes.set k ({ inodeAt f k with blocks := [],size:=0 }:DInode)).length=f.inodes.length:=by rw [List.length_set]
 have hl2:(f.inodes.set k zeroInode).length=f.inodes.length:=by rw [List.length_set]
 generalize f.inodes.set k ({ inodeAt f k with blocks := [],size:=0 }:DInode)=G at *
 generalize f.inodes.set k zeroInode=G2 at *
 generalize zeroR f.data (real (inodeAt f k).blocks)=D at *
 have hkg:k < G.length:=by omega
 have hl3:G2.length=G.length:=by omega
 (try simp -implicitDefEqProofs (disch:=first|exact dd|fail)[Tryz.f207,hkg,hr,hl3,cInode]);(repeat'((with_reducible first|(refine Br.out ?_ ?_<;>intro h<;>(try(have h0:=h;simp only[bH]at h)))|refine AC_snd (hc) ?_|fail)<;>(try simp -implicitDefEqProofs (disch:=first|exact dd|fail)[Tryz.f207,hkg,hr,hl3,cInode])))
end Go.Proofs.YtgopfdninbknpaaGreat
