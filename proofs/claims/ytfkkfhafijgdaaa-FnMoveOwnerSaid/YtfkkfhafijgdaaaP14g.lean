import Derived.Test.YtfkkfhafijgdaaaMA
import Derived.Test.YtfkkfhafijgdaaaP14
import Derived.Test.YtfkkfhafijgdaaaP12
namespace Go.Proofs.Ytfkkfhafijgdaaa
open Go.Fw
set_option linter.unusedVariables false
set_option linter.unusedSimpArgs false
set_option maxHeartbeats 1000000
set_option maxRecDepth 8000
theorem impl_moveOwner (f:DFS) (i u:Int) (hs:SmF f) (hf:IsFS f) (hi:hasI f i=true):Snd Try.prog 64 [wFS f, .int .i64 i, .int .i64 u] (.int .i64 (moveP f i u).2) [wFS (moveP f i u).1, .unk, .unk]:=Runs.snd (M:=M) (c:=⟨3,[6,7,8,9,10,11,18,22,32,33,34,35,40,48],[],[(2,[0,1,2,6,7,18,22,32,33,34,35,40,48])]⟩) tok ks mixed Try.func64 (p := [0]) (by kernel_rfl) (by rfl) (by rfl) <| by
 have hi':=hasI_lt hi
 obtain ⟨I,rfl⟩:=Int.eq_ofNat_of_zero_le hi'.1
 have hI:I < 20:=by omega
 have hlt:I < f.inodes.length:=by rw [hf.ni];omega
 have he:=inodeAt_nat hlt
 have hok:=(isInode_ok hi'.2.2).1 (hf.sm _ ⟨hi'.1,hi'.2.1⟩)
 rw [he] at hok
 unfold moveP
 rw [he]
 by_cases hu:IsUser u
 rotate_left
 ·rw [if_pos hu]
  (try simp -implicitDefEqProofs (disch:=first|exact dd|fail)[Try.f64,hlt,hu,cInode]);(repeat'((with_reducible first|(refine Br.out ?_ ?_<;>intro h<;>(try(have h0:=h;simp only[bH]at h)))|refine AC_snd (impl_isUser u) ?_|fail)<;>(try simp -implicitDefEqProofs (disch:=first|exact dd|fail)[Try.f64,hlt,hu,cInode])))
 rw [if_neg (Classical.not_not.2 hu)]
 by_cases hux:u=f.inodes[I].uid
 ·rw [if_pos hux]
  have hu2:=hu
  rw [hux] at hu2
  (try simp -implicitDefEqProofs (disch:=first|exact dd|fail)[Try.f64,hlt,hu2,hux,cInode]);(repeat'((with_reducible first|(refine Br.out ?_ ?_<;>intro h<;>(try(have h0:=h;simp only[bH]at h)))|refine AC_snd (impl_isUser _) ?_|fail)<;>(try simp -implicitDefEqProofs (disch:=first|exact dd|fail)[Try.f64,hlt,hu2,hux,cInode])))
 rw [if_neg hux]
 have hmi:=MI.start (u:=u) hs hf.nq hf.ni hI (used_inR hf.inode hf.own) (List.getElem?_eq_getElem hlt) hok hf.nd hf.secs
 have hx8:=(hf.inode _ (List.getElem_mem hlt)).len.1
 have hxs:f.inodes.set I f.inodes[I]=f.inodes:=List.set_getElem_self hlt
 simp only [Int.toNat_natCast]
 obtain ⟨W,hW⟩:∃ W,W=moveL f I u:=⟨_,rfl⟩
 rw [←hW]
 unfold moveL at hW
 rw [he] at hW
 (try simp -implicitDefEqProofs (disch:=first|exact dd|fail)[Try.f64,hlt,hu,hux,cInode]);(repeat'((with_reducible first|(refine Br.out ?_ ?_<;>intro h<;>(try(have h0:=h;simp only[bH]at h)))|refine AC_snd (impl_isUser u) ?_|fail)<;>(try simp -implicitDefEqProofs (disch:=first|exact dd|fail)[Try.f64,hlt,hu,hux,cInode])))
 generalize hx:f.inodes[I]=x at *
 refine AL_fors (σ:=DInode × List Str) 34 x.blocks.length (fun _ _ => []) (fun k y => [(6, .row 10 ((f.inodes.set I y.1).map cInode) []),(8, .row 1 (y.2.map cs) [])]) (fun k y=>MI f I x u k y.1 y.2∧mvLoop f I u (x.blocks.length - k) k y.1 y.2=W) (x,f.data) (by simp [hxs]) ⟨hmi,hW.symm⟩ ?_ ?_
 ·rintro k ⟨N,D⟩ n hk ⟨hm,hwl⟩ ih
  simp only at hm hwl ⊢
  have hw:=hm.w
  have hbl:=hw.len
  have hkl:k < N.blocks.length:=by omega
  have hgd:N.blocks.getD k 0=N.blocks[k]:=by simp [hkl]
  have hsk:x.blocks.length - k=(x.blocks.length - (k + 1)) + 1:=by omega
  rw [hsk,mvLoop,hgd] at hwl
  have hGget:((f.inodes.set I N).map cInode)[I]? = some (cInode N):=by simp [hlt]
  have hGset:∀ c,((f.inodes.set I N).map cInode).set I (cInode c)=(f.inodes.set I c).map cInode:=fun c=>by simp [List.map_set]
  have hGl:(f.inodes.set I N).length=f.inodes.length:=by rw [List.length_set]
  have hDl:D.length=f.data.length:=by rw [hw.nd,hf.nd]
  have htG:=takeM (f:=cInode) hGl
  have htD:=takeM (f:=cs) hDl
  have hnd:=hw.nd
  have hsm:=hw.smF
  have hnx:=impl_nextBlock none none none ⟨f.tick,f.quotas,f.inodes.set I N,D⟩ u hsm hw.inR hu hw.nq
  have hnb:nextB (setI f I N) u=nextB ⟨f.tick,f.quotas,f.inodes.set I N,D⟩ u:=rfl
  rw [hnb] at hwl
  have hfree:=nextB_ok (f:=⟨f.tick,f.quotas,f.inodes.set I N,D⟩) hu
  have hxk:x.blocks[k]? = some N.blocks[k]:=by rw [←hm.same k (Nat.le_refl _),List.getElem?_eq_getElem hkl]
  by_cases hb:N.blocks[k] = -1
  ·rw [if_pos hb] at hwl
   have hj:=ih (N,D) ⟨hm.skip hk (by rw [hgd];exact hb),hwl⟩
   generalize f.inodes.set I N=G at *
   (try simp -implicitDefEqProofs (disch:=first|exact dd|fail)[Try.f64,hlt,hk,hkl,hbl,hGget,hb,cInode]);(repeat'((with_reducible first|(refine Br.out ?_ ?_<;>intro h<;>(try(have h0:=h;simp only[bH]at h)))|fail)<;>(try simp -implicitDefEqProofs (disch:=first|exact dd|fail)[Try.f64,hlt,hk,hkl,hbl,hGget,hb,cInode])))
   all_goals first | exact hj
  rw [if_neg hb] at hwl
  have hbr:=hw.blk _ (List.getElem_mem hkl) hb
  generalize nextB ⟨f.tick,f.quotas,f.inodes.set I N,D⟩ u=r at *
  obtain ⟨B,e⟩:=r
  simp only at hwl hnx hfree
  by_cases he0:e=0
  ·subst he0
   obtain ⟨c,rfl,hc56,hco,hcf⟩:=hfree rfl
   rw [if_pos rfl] at hwl
   have hj:=ih (wN N k c,mvD D c N.blocks[k]) ⟨hm.step hok hlt hxk hb hc56 hco hcf,hwl⟩
   obtain ⟨b,hbk⟩:=Int.eq_ofNat_of_zero_le hbr.1
   rw [hbk] at hj hb hbr
   have hbD:b < D.length:=by omega
   obtain ⟨X,hX⟩:∃ X,D[b]=X:=⟨_,rfl⟩
   have hmd:(mvD D c b).map cs=((D.map cs).set c [.str X]).set b [.str zero32]:=by
    have hg2:D.getD b []=X:=by simp [hbD,hX]
    rw [mvD,Int.toNat_natCast,Int.toNat_natCast,hg2,List.map_set,List.map_set]
    rfl
   have h6:(f.inodes.set I (wN N k c)).map cInode=(List.map cInode (f.inodes.set I N)).set I [.int .i64 N.kind, .int .i64 N.mode, .int .i64 N.uid, .int .i64 N.gid, .int .i64 N.links, .int .i64 N.size, .int .i64 N.tick, .row 1 ((List.map ci N.blocks).set k [.int .i64 c]), .row 3 (N.acl.map cAcl), .row 3 (N.dflt.map cAcl)]:=by
    rw [←hGset (wN N k c)]
    simp only [cInode,wN,List.map_set,ci]
   simp only at hj
   rw [hmd,h6] at hj
   have hcb:c≠b:=by
    rintro rfl
    refine hcf ?_
    rw [allB_set hlt]
    exact List.mem_append_right _ (List.mem_append_left _ (mem_real.2 ⟨by rw [←hbk];exact List.getElem_mem hkl,hb⟩))
   have hsb:((D.map cs).set c [.str X])[b]? = some [.str X]:=by
    rw [List.getElem?_set_ne hcb,List.getElem?_map,List.getElem?_eq_getElem hbD,hX]
    rfl
   generalize f.inodes.set I N=G at *
   have hcD:c < D.length:=by omega
   (try simp -implicitDefEqProofs (disch:=first|exact dd|fail)[Try.f64,hlt,hk,hkl,hbl,hGget,htG,htD,hGl,hDl,hnd,hb,hbk,hX,hsb,hbD,hcD,hc56,cInode]);(repeat'((with_reducible first|(refine Br.out ?_ ?_<;>intro h<;>(try(have h0:=h;simp only[bH]at h)))|refine AC_snd (hnx) ?_|refine AC_snd (impl_zeros32) ?_|fail)<;>(try simp -implicitDefEqProofs (disch:=first|exact dd|fail)[Try.f64,hlt,hk,hkl,hbl,hGget,htG,htD,hGl,hDl,hnd,hb,hbk,hX,hsb,hbD,hcD,hc56,cInode])))
   all_goals first | exact hj
  ·rw [if_neg he0] at hwl
   subst hwl
   simp only [he0,if_false]
   generalize f.inodes.set I N=G at *
   (try simp -implicitDefEqProofs (disch:=first|exact dd|fail)[Try.f64,hlt,hk,hkl,hbl,hGget,htG,htD,hGl,hDl,hnd,hb,he0,cInode]);(repeat'((with_reducible first|(refine Br.out ?_ ?_<;>intro h<;>(try(have h0:=h;simp only[bH]at h)))|refine AC_snd (hnx) ?_|fail)<;>(try simp -implicitDefEqProofs (disch:=first|exact dd|fail)[Try.f64,hlt,hk,hkl,hbl,hGget,htG,htD,hGl,hDl,hnd,hb,he0,cInode])))
 ·rintro ⟨N,D⟩ n ⟨hm,hwl⟩
  simp only at hm hwl ⊢
  rw [Nat.sub_self,mvLoop] at hwl
  subst hwl
  have hw:=hm.w
  have hGget:((f.inodes.set I N).map cInode)[I]? = some (cInode N):=by simp [hlt]
  have hGset:∀ c,((f.inodes.set I N).map cInode).set I (cInode c)=(f.inodes.set I c).map cInode:=fun c=>by simp [List.map_set]
  have hGN:=hGset { N with uid:=u }
  have hGl:(f.inodes.set I N).length=f.inodes.length:=by rw [List.length_set]
  have hGl2:(f.inodes.set I { N with uid:=u }).length=f.inodes.length:=by rw [List.length_set]
  have hDl:D.length=f.data.length:=by rw [hw.nd,hf.nd]
  simp only [cInode] at hGN
  simp only [if_true]
  generalize f.inodes.set I N=G at *
  generalize f.inodes.set I { N with uid:=u }=G2 at *
  (try simp -implicitDefEqProofs (disch:=first|exact dd|fail)[Try.f64,hlt,hGget,hGN,hGl,hGl2,hDl,cInode]);(repeat'((with_reducible first|(refine Br.out ?_ ?_<;>intro h<;>(try(have h0:=h;simp only[bH]at h)))|fail)<;>(try simp -implicitDefEqProofs (disch:=first|exact dd|fail)[Try.f64,hlt,hGget,hGN,hGl,hGl2,hDl,cInode])))
end Go.Proofs.Ytfkkfhafijgdaaa
