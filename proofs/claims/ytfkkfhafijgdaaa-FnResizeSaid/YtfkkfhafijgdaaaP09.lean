import Derived.Test.YtfkkfhafijgdaaaM11
import Derived.Test.YtfkkfhafijgdaaaP12
namespace Go.Proofs.Ytfkkfhafijgdaaa
open Go.Fw
set_option linter.unusedVariables false
set_option linter.unusedSimpArgs false
theorem free_row {f:DFS} {k:Nat}:(f.inodes.map cInode).set k [.int .i64 0, .int .i64 0, .int .i64 0, .int .i64 0, .int .i64 0, .int .i64 0, .int .i64 0, .row 1 [], .row 3 [], .row 3 []]=(f.inodes.set k zeroInode).map cInode:=by
 rw [List.map_set]
 rfl
set_option maxHeartbeats 4000000 in
set_option maxRecDepth 8000 in
theorem impl_free (f:DFS) (i:Int) (hs:SmF f) (hi:0≤i∧i < 20) (hn:f.inodes.length=20) (h0:¬ i=0) (hd:f.data.length=56) (hb:∀ b ∈ (inodeAt f i).blocks,b ≠ -1→0≤b∧b < 56):Snd Try.prog 72 [wFS f, .int .i64 i] (.int .i64 0) [wFS (freeF f i), .unk]:=Runs.snd (M:=M) (c:=⟨2,[4,6,8,16,17,18,19],[],[(1,[0,1,4,8,16,17,18,19])]⟩) tok ks mixed Try.func72 (p := [0]) (by kernel_rfl) (by rfl) (by rfl) <| by
 obtain ⟨k,rfl⟩:=Int.eq_ofNat_of_zero_le hi.1
 have hlt:k < f.inodes.length:=by omega
 have he:=inodeAt_nat hlt
 have hk0:¬ k=0:=by omega
 have hr:=free_row (f:=f) (k:=k)
 rw [he] at hb
 have hsn:=hs.inode _ (List.getElem_mem hlt)
 have hsb:=hsn.blocks
 have hrl:=real_len (l:=f.inodes[k].blocks)
 have hbr:∀ b ∈ real f.inodes[k].blocks,0≤b∧b < 56:=fun b hm=>hb b (mem_real.1 hm).1 (mem_real.1 hm).2
 unfold freeF
 rw [he]
 (try simp -implicitDefEqProofs (disch:=first|exact dd|fail)[Try.f72,hlt,hk0,cInode]);(repeat'((with_reducible first|(refine Br.out ?_ ?_<;>intro h<;>(try(have h0:=h;simp only[bH]at h)))|refine AC_snd (impl_UsedBlocks _ _ _ f.inodes[k] hsn) ?_|fail)<;>(try simp -implicitDefEqProofs (disch:=first|exact dd|fail)[Try.f72,hlt,hk0,cInode])))
 obtain ⟨B,hB⟩:∃ B,B=real f.inodes[k].blocks:=⟨_,rfl⟩
 rw [←hB] at hbr hrl ⊢
 refine AL_fors (σ:=Unit) 18 B.length (fun _ _ => []) (fun j _ => [(8, .row 1 ((zeroR f.data (B.take j)).map cs) [])]) (fun _ _=>True) () rfl trivial (fun j _ n hjt _ jh => ?_) (fun _ n _ => ?_)
 ·have hbj:=hbr _ (List.getElem_mem hjt)
  have hz:=zeroR_take (data:=f.data) hjt
  have hzl:=zeroR_len (data:=f.data) (bs:=B.take j)
  have hj:=jh () trivial
  obtain ⟨m,hm⟩:=Int.eq_ofNat_of_zero_le hbj.1
  rw [hm] at hz
  have hset:(List.map cs (zeroR f.data (B.take j))).set m [.str zero32]=List.map cs (zeroR f.data (B.take (j + 1))):=by
   rw [hz,List.map_set]
   rfl
  rw [←hset] at hj
  have hget:∃ s,(List.map cs (zeroR f.data (B.take j)))[m]? = some [.str s]:=⟨_,by rw [List.getElem?_map,List.getElem?_eq_getElem (by omega)];rfl⟩
  obtain ⟨s0,hget⟩:=hget
  generalize List.map cs (zeroR f.data (B.take j))=Z at *
  (try simp -implicitDefEqProofs (disch:=first|exact dd|fail)[Try.f72,hjt,hm,hget]);(repeat'((with_reducible first|(refine Br.out ?_ ?_<;>intro h<;>(try(have h0:=h;simp only[bH]at h)))|refine AC_snd (impl_zeros32) ?_|fail)<;>(try simp -implicitDefEqProofs (disch:=first|exact dd|fail)[Try.f72,hjt,hm,hget])))
  exact hj
 ·rw [List.take_length]
  have hzl:=zeroR_len (data:=f.data) (bs:=B)
  (try simp -implicitDefEqProofs (disch:=first|exact dd|fail)[Try.f72,hlt,hr,hzl,cInode]);(repeat'((with_reducible first|(refine Br.out ?_ ?_<;>intro h<;>(try(have h0:=h;simp only[bH]at h)))|fail)<;>(try simp -implicitDefEqProofs (disch:=first|exact dd|fail)[Try.f72,hlt,hr,hzl,cInode])))
theorem free_pre {f:DFS} {i:Int} (hf:IsFS f) (hi:hasI f i=true):(0≤i∧i < 20)∧∀ b ∈ (inodeAt f i).blocks,b ≠ -1→0≤b∧b < 56:=by
 have h:=hasI_lt hi
 refine ⟨⟨h.1,h.2.1⟩,?_⟩
 obtain ⟨k,rfl⟩:=Int.eq_ofNat_of_zero_le h.1
 have hlt:k < f.inodes.length:=by rw [hf.ni];omega
 rw [inodeAt_nat hlt]
 exact (hf.blks (List.getElem_mem hlt)).2.2
theorem impl_free0 (f:DFS):Snd Try.prog 72 [wFS f, .int .i64 0] (.int .i64 1) [wFS f, .unk]:=Runs.snd (M:=M) (c:=⟨2,[4,6,8,16,17,18,19],[],[(1,[0,1,4,8,16,17,18,19])]⟩) tok ks mixed Try.func72 (p := [0]) (by kernel_rfl) (by rfl) (by rfl) <| by
 (try simp -implicitDefEqProofs (disch:=first|exact dd|fail)[Try.f72]);(repeat'((with_reducible first|(refine Br.out ?_ ?_<;>intro h<;>(try(have h0:=h;simp only[bH]at h)))|fail)<;>(try simp -implicitDefEqProofs (disch:=first|exact dd|fail)[Try.f72])))
def freeO (f:DFS) (i:Int):DFS × Int:=if i=0 then (f,1) else (freeF f i,0)
set_option maxHeartbeats 4000000 in
set_option maxRecDepth 8000 in
theorem impl_FreeObject1 (f:DFS) (i:Int) (hs:SmF f) (hf:IsFS f) (hi:hasI f i=true):Snd Try.prog 71 [wFS f, .fptr [.int .i64 i]] (.int .i64 (freeO f i).2) [wFS (freeO f i).1, .unk]:=Runs.snd (M:=M) (c:=⟨1,[1,3],[],[]⟩) tok ks mixed Try.func71 (p := [0]) (by kernel_rfl) (by rfl) (by rfl) <| by
 have hp:=free_pre hf hi
 by_cases h0:i=0
 ·subst h0
  rw [freeO,if_pos rfl]
  (try simp -implicitDefEqProofs (disch:=first|exact dd|fail)[Try.f71]);(repeat'((with_reducible first|(refine Br.out ?_ ?_<;>intro h<;>(try(have h0:=h;simp only[bH]at h)))|refine AC_snd (impl_free0 f) ?_|fail)<;>(try simp -implicitDefEqProofs (disch:=first|exact dd|fail)[Try.f71])))
 ·rw [freeO,if_neg h0]
  obtain ⟨g,hg⟩:∃ g,g=freeF f i:=⟨_,rfl⟩
  have hc:=impl_free f i hs hp.1 hf.ni h0 hf.nd hp.2
  rw [←hg] at hc ⊢
  (try simp -implicitDefEqProofs (disch:=first|exact dd|fail)[Try.f71]);(repeat'((with_reducible first|(refine Br.out ?_ ?_<;>intro h<;>(try(have h0:=h;simp only[bH]at h)))|refine AC_snd (hc) ?_|fail)<;>(try simp -implicitDefEqProofs (disch:=first|exact dd|fail)[Try.f71])))
set_option maxHeartbeats 4000000 in
set_option maxRecDepth 8000 in
theorem impl_changed_FreeObject (n1 n2 n3:Option Bool) (f:DFS) (i:Int) (hs:SmF f) (hf:IsFS f) (hi:hasI f i=true):Snd Try.prog 62 [fFS n1 n2 n3 f, .fn 71 [.fptr [.int .i64 i]]] (.tup [rFS (freeO f i).1, .int .i64 (freeO f i).2]) [.unk, .unk]:=Runs.snd (M:=M) (c:=⟨2,[2,4,5,6,7,13],[],[]⟩) tok ks mixed Try.func62 (p := []) (by kernel_rfl) (by rfl) (by rfl) <| by
 have hc:=impl_FreeObject1 f i hs hf hi
 have h1:¬ (freeO f i).2=0→(freeO f i).1=f∧(freeO f i).2=1:=by
  unfold freeO
  split<;>simp
 generalize freeO f i=r at *
 obtain ⟨g,e⟩:=r
 by_cases he:e=0
 ·subst he
  (try simp -implicitDefEqProofs (disch:=first|exact dd|fail)[Try.f62]);(repeat'((with_reducible first|(refine Br.out ?_ ?_<;>intro h<;>(try(have h0:=h;simp only[bH]at h)))|refine AC_snd (impl_copyFS _ _ _ f hs) ?_|refine AC_snd (hc) ?_|fail)<;>(try simp -implicitDefEqProofs (disch:=first|exact dd|fail)[Try.f62])))
 ·obtain ⟨rfl,rfl⟩:=h1 he
  (try simp -implicitDefEqProofs (disch:=first|exact dd|fail)[Try.f62]);(repeat'((with_reducible first|(refine Br.out ?_ ?_<;>intro h<;>(try(have h0:=h;simp only[bH]at h)))|refine AC_snd (impl_copyFS _ _ _ _ hs) ?_|refine AC_snd (hc) ?_|fail)<;>(try simp -implicitDefEqProofs (disch:=first|exact dd|fail)[Try.f62])))
noncomputable def freeObj (f:DFS) (i:Int):DFS × Int:=if isFS f && hasI f i then freeO f i else (f,1)
set_option maxHeartbeats 4000000 in
set_option maxRecDepth 8000 in
theorem impl_FreeObject (n1 n2 n3:Option Bool) (f:DFS) (i:Int) (hs:SmF f):Snd Try.prog 24 [fFS n1 n2 n3 f, .int .i64 i] (.tup [rFS (freeObj f i).1, .int .i64 (freeObj f i).2]) [.unk, .unk]:=Runs.snd (M:=M) (c:=⟨2,[2,3,4,5,9],[],[]⟩) tok ks mixed Try.func24 (p := []) (by kernel_rfl) (by rfl) (by rfl) <| by
 by_cases hu:(isFS f && hasI f i)=true
 ·have hu2:=Bool.and_eq_true_iff.1 hu
  rw [freeObj,if_pos hu]
  (try simp -implicitDefEqProofs (disch:=first|exact dd|fail)[Try.f24,hu]);(repeat'((with_reducible first|(refine Br.out ?_ ?_<;>intro h<;>(try(have h0:=h;simp only[bH]at h)))|refine AC_snd (impl_inUse _ _ _ f _ hs) ?_|refine AC_snd (impl_changed_FreeObject _ _ _ f i hs (tr_iff.1 hu2.1) hu2.2) ?_|fail)<;>(try simp -implicitDefEqProofs (disch:=first|exact dd|fail)[Try.f24,hu])))
 ·have hu':(isFS f && hasI f i)=false:=by simpa using hu
  rw [freeObj,if_neg hu]
  (try simp -implicitDefEqProofs (disch:=first|exact dd|fail)[Try.f24,hu']);(repeat'((with_reducible first|(refine Br.out ?_ ?_<;>intro h<;>(try(have h0:=h;simp only[bH]at h)))|refine AC_snd (impl_inUse _ _ _ f _ hs) ?_|refine AC_snd (impl_copyFS _ _ _ f hs) ?_|fail)<;>(try simp -implicitDefEqProofs (disch:=first|exact dd|fail)[Try.f24,hu'])))
end Go.Proofs.Ytfkkfhafijgdaaa
