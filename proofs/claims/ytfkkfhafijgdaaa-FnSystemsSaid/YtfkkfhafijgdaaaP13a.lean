import Derived.Test.YtfkkfhafijgdaaaP12
import Derived.Test.YtfkkfhafijgdaaaP09
import Derived.Test.YtfkkfhafijgdaaaMA
namespace Go.Proofs.Ytfkkfhafijgdaaa
open Go.Fw
set_option linter.unusedVariables false
set_option linter.unusedSimpArgs false
set_option maxHeartbeats 4000000
set_option maxRecDepth 8000
def dropStep (busy:List Int) (g:DFS) (i:Int):DFS:=if decide (i ∈ busy)=false∧i≠0 then freeF g i else g
noncomputable def dropO (f:DFS) (busy:List Int):DFS:=(if isFS f then orph f.inodes else []).foldl (dropStep busy) f
structure DI (f g:DFS):Prop where
 sm:SmF g
 ni:g.inodes.length=f.inodes.length
 nd:g.data.length=f.data.length
 nq:g.quotas.length=f.quotas.length
 rng:(∀ b ∈ f.inodes,∀ c ∈ b.blocks,c ≠ -1→0≤c∧c < 56)→InR g.inodes
theorem DI.free {f g:DFS} {i:Int} (h:DI f g):DI f (freeF g i):=by
 refine ⟨⟨h.sm.quotas,by simpa [freeF] using h.sm.inodes,fun n hn => ?_,by simp only [freeF];rw [zeroR_len];exact h.sm.data⟩,by simpa [freeF] using h.ni,by simp only [freeF];rw [zeroR_len];exact h.nd,h.nq,fun hr => ?_⟩
 ·rcases List.mem_or_eq_of_mem_set hn with h1 | rfl
  ·exact h.sm.inode n h1
  ·exact ⟨by simp [zeroInode],by simp [zeroInode],by simp [zeroInode]⟩
 ·intro n hn
  rcases List.mem_or_eq_of_mem_set hn with h1 | rfl
  ·exact h.rng hr n h1
  ·simp [zeroInode]
theorem DI.step {f g:DFS} {busy:List Int} {i:Int} (h:DI f g):DI f (dropStep busy g i):=by
 unfold dropStep
 split
 ·exact h.free
 ·exact h
theorem DI.all {f g:DFS} {busy:List Int}:∀ {l:List Int},DI f g→DI f (l.foldl (dropStep busy) g):=by
 intro l
 induction l generalizing g with
 | nil=>exact id
 | cons i l ih=>exact fun h=>ih h.step
theorem orph_mem:∀ {l:List DInode} {k i:Int},i ∈ orphF k l→k≤i∧i < k + l.length
 | [],k,i,h=>by simp [orphF] at h
 | n :: l,k,i,h=>by
  rw [orphF] at h
  rw [List.length_cons]
  split at h
  ·rcases List.mem_cons.1 h with rfl | h
   ·omega
   ·have:=orph_mem h;omega
  ·have:=orph_mem h;omega
theorem impl_DropOrphans (n1 n2 n3 n4:Option Bool) (f:DFS) (busy:List Int) (hs:SmF f) (hb:busy.length≤1048576):Snd Try.prog 48 [fFS n1 n2 n3 f, .frz 1 n4 (busy.map ci)] (rFS (dropO f busy)) [.unk, .unk]:=Runs.snd (M:=M) (c:=⟨2,[2,4,5,7,11,12,13,14,20],[],[(1,[0,1,2,4,5,11,12,13,14,20])]⟩) tok ks mixed Try.func48 (p := []) (by kernel_rfl) (by rfl) (by rfl) <| by
 have hoc:=fun a b d=>impl_OrphansOf a b d f hs
 have hol:(if isFS f=true then orph f.inodes else []).length≤1048576:=by
  have:=orph_len (k:=0) (l:=f.inodes)
  have:=hs.inodes
  split
  ·unfold orph;omega
  ·simp
 have hom:∀ i ∈ (if isFS f=true then orph f.inodes else []),isFS f=true∧0≤i∧i < 20:=by
  intro i hi
  split at hi
  ·rename_i h
   have h1:=orph_mem hi
   have h2:=(tr_iff.1 h).ni
   exact ⟨h,by omega,by omega⟩
  ·cases hi
 unfold dropO
 generalize (if isFS f=true then orph f.inodes else [])=L at *
 (try simp -implicitDefEqProofs (disch:=first|exact dd|fail)[Try.f48]);(repeat'((with_reducible first|(refine Br.out ?_ ?_<;>intro h<;>(try(have h0:=h;simp only[bH]at h)))|refine AC_snd (impl_copyFS _ _ _ f hs) ?_|refine AC_snd (hoc _ _ _) ?_|fail)<;>(try simp -implicitDefEqProofs (disch:=first|exact dd|fail)[Try.f48])))
 have hd0:DI f f:=⟨hs,rfl,rfl,rfl,fun h=>h⟩
 refine AL_fors (σ:=Unit) 13 L.length (fun _ _ => []) (fun j _ => [(640, .box [.int .i64 (((L.take j).foldl (dropStep busy) f).tick), .ref 644 none 2 0 f.quotas.length none, .ref 646 none 10 0 f.inodes.length none, .ref 648 none 1 0 f.data.length none]),(644, .row 2 (((L.take j).foldl (dropStep busy) f).quotas.map cQuota) []),(646, .row 10 (((L.take j).foldl (dropStep busy) f).inodes.map cInode) []),(648, .row 1 (((L.take j).foldl (dropStep busy) f).data.map cs) [])]) (fun _ _=>True) () (by simp) trivial (fun j _ n hlt _ ih => ?_) (fun _ n _ => ?_)
 ·have hm:=hom _ (List.getElem_mem hlt)
  have hf:=tr_iff.1 hm.1
  have hd:=hd0.all (busy:=busy) (l:=L.take j)
  have hj:=ih () trivial
  rw [foldl_take hlt] at hj
  generalize (L.take j).foldl (dropStep busy) f=g at *
  have hni:=hd.ni
  have hnd:=hd.nd
  have hnq:=hd.nq
  have tQ:=takeM (f:=cQuota) hnq
  have tI:=takeM (f:=cInode) hni
  have tD:=takeM (f:=cs) hnd
  have hfn:=hf.ni
  have hfd:=hf.nd
  by_cases hbz:L[j] ∈ busy
  ·rw [dropStep,if_neg (by simp [hbz])] at hj
   (try simp -implicitDefEqProofs (disch:=first|exact dd|fail)[Try.f48,hlt,hbz]);(repeat'((with_reducible first|(refine Br.out ?_ ?_<;>intro h<;>(try(have h0:=h;simp only[bH]at h)))|refine AC_snd (slices_Contains _ busy _ hb) ?_|fail)<;>(try simp -implicitDefEqProofs (disch:=first|exact dd|fail)[Try.f48,hlt,hbz])))
   all_goals first | exact hj
  by_cases h0:L[j]=0
  ·rw [dropStep,if_neg (by simp [h0])] at hj
   have hc:=impl_free0 g
   rw [h0] at hbz
   (try simp -implicitDefEqProofs (disch:=first|exact dd|fail)[Try.f48,hlt,hbz,h0,hni,hnd,hnq,tQ,tI,tD]);(repeat'((with_reducible first|(refine Br.out ?_ ?_<;>intro h<;>(try(have h0:=h;simp only[bH]at h)))|refine AC_snd (slices_Contains _ busy _ hb) ?_|refine AC_snd (hc) ?_|fail)<;>(try simp -implicitDefEqProofs (disch:=first|exact dd|fail)[Try.f48,hlt,hbz,h0,hni,hnd,hnq,tQ,tI,tD])))
   all_goals first | exact hj
  ·rw [dropStep,if_pos ⟨by simp [hbz],h0⟩] at hj
   have hr:∀ b ∈ (inodeAt g L[j]).blocks,b ≠ -1→0≤b∧b < 56:=by
    obtain ⟨k,hk⟩:=Int.eq_ofNat_of_zero_le hm.2.1
    have hkl:k < g.inodes.length:=by omega
    rw [hk,inodeAt_nat hkl]
    exact hd.rng (fun n hn=>(hf.blks hn).2.2) _ (List.getElem_mem hkl)
   have hc:=impl_free g L[j] hd.sm hm.2 (by omega) h0 (by omega) hr
   have hd2:=hd.free (i:=L[j])
   have hni2:=hd2.ni
   have hnd2:=hd2.nd
   have hnq2:=hd2.nq
   generalize freeF g L[j]=g2 at *
   (try simp -implicitDefEqProofs (disch:=first|exact dd|fail)[Try.f48,hlt,hbz,hni,hnd,hnq,hni2,hnd2,hnq2,tQ,tI,tD]);(repeat'((with_reducible first|(refine Br.out ?_ ?_<;>intro h<;>(try(have h0:=h;simp only[bH]at h)))|refine AC_snd (slices_Contains _ busy _ hb) ?_|refine AC_snd (hc) ?_|fail)<;>(try simp -implicitDefEqProofs (disch:=first|exact dd|fail)[Try.f48,hlt,hbz,hni,hnd,hnq,hni2,hnd2,hnq2,tQ,tI,tD])))
   all_goals first | exact hj
 ·rw [List.take_length]
  have hd:=hd0.all (busy:=busy) (l:=L)
  generalize L.foldl (dropStep busy) f=g at *
  have hni:=hd.ni
  have hnd:=hd.nd
  have hnq:=hd.nq
  (try simp -implicitDefEqProofs (disch:=first|exact dd|fail)[Try.f48,hni,hnd,hnq]);(repeat'((with_reducible first|(refine Br.out ?_ ?_<;>intro h<;>(try(have h0:=h;simp only[bH]at h)))|fail)<;>(try simp -implicitDefEqProofs (disch:=first|exact dd|fail)[Try.f48,hni,hnd,hnq])))
end Go.Proofs.Ytfkkfhafijgdaaa
