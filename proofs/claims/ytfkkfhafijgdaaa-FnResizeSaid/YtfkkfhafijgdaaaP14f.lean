import Derived.Test.YtfkkfhafijgdaaaMA
import Derived.Test.YtfkkfhafijgdaaaP14
import Derived.Test.YtfkkfhafijgdaaaP12
namespace Go.Proofs.Ytfkkfhafijgdaaa
open Go.Fw
set_option linter.unusedVariables false
set_option linter.unusedSimpArgs false
set_option maxHeartbeats 1000000
set_option maxRecDepth 8000
theorem impl_resize (f:DFS) (i size:Int) (hs:SmF f) (hf:IsFS f) (hi:hasI f i=true) (hz:size≤9223372036854775807):Snd Try.prog 69 [wFS f, .int .i64 i, .int .i64 size] (.int .i64 (resizeF f i size).2) [wFS (resizeF f i size).1, .unk, .unk]:=Runs.snd (M:=M) (c:=⟨3,[6,7,8,10,11,12,13,16,33,48,49,50,51,55,74,100],[],[(4,[0,1,2,6,7,8,11,12,13,16,33,48,49,50,51,55,74,100])]⟩) tok ks mixed Try.func69 (p := [0]) (by kernel_rfl) (by rfl) (by rfl) <| by
 have hi':=hasI_lt hi
 obtain ⟨I,rfl⟩:=Int.eq_ofNat_of_zero_le hi'.1
 have hI:I < 20:=by omega
 have hlt:I < f.inodes.length:=by rw [hf.ni];omega
 have he:=inodeAt_nat hlt
 have hok:=(isInode_ok hi'.2.2).1 (hf.sm _ ⟨hi'.1,hi'.2.1⟩)
 rw [he] at hok
 by_cases h1:size < 0
 ·rw [resizeF,if_pos h1]
  (try simp -implicitDefEqProofs (disch:=first|exact dd|fail)[Try.f69,h1]);(repeat'((with_reducible first|(refine Br.out ?_ ?_<;>intro h<;>(try(have h0:=h;simp only[bH]at h)))|fail)<;>(try simp -implicitDefEqProofs (disch:=first|exact dd|fail)[Try.f69,h1])))
 by_cases h2:256 < size
 ·rw [resizeF,if_neg h1,if_pos h2]
  (try simp -implicitDefEqProofs (disch:=first|exact dd|fail)[Try.f69,h1,h2]);(repeat'((with_reducible first|(refine Br.out ?_ ?_<;>intro h<;>(try(have h0:=h;simp only[bH]at h)))|fail)<;>(try simp -implicitDefEqProofs (disch:=first|exact dd|fail)[Try.f69,h1,h2])))
 rw [resizeF,if_neg h1,if_neg h2]
 obtain ⟨Z,rfl⟩:=Int.eq_ofNat_of_zero_le (show 0≤size by omega)
 have hbn:=blocksNeeded_le (s:=(Z:Int)) (by omega)
 have hbn0:=blocksNeeded_nn (s:=(Z:Int))
 have hxb:=hok.blocks
 have hmono:(Z:Int)≤f.inodes[I].size→blocksNeeded Z≤f.inodes[I].blocks.length:=fun h=>by rw [hxb];exact needed_mono h
 have hneed:=needed_pos (a:=(Z:Int))
 have hblk:=(hf.blks (List.getElem_mem hlt)).2.2
 have hx8:=(hf.inode _ (List.getElem_mem hlt)).len.1
 obtain ⟨R,hR⟩:∃ R,R=resizeS f I Z:=⟨_,rfl⟩
 simp only [Int.toNat_natCast]
 rw [←hR]
 unfold resizeS rN rD cutD rB at hR
 rw [he] at hR
 simp only [Int.toNat_natCast] at hR
 have hbc:=impl_BlocksNeeded (Z:Int) (by omega)
 obtain ⟨Q,hQ⟩:=Int.eq_ofNat_of_zero_le hbn0
 rw [hQ] at hbn hbc hmono hneed hR
 simp only [Int.toNat_natCast] at hR
 have hgs:∀ c,((f.inodes.map cInode).set I c)[I]? = some c:=fun c=>by simp [hlt]
 have hxs:f.inodes.set I f.inodes[I]=f.inodes:=List.set_getElem_self hlt
 (try simp -implicitDefEqProofs (disch:=first|exact dd|fail)[Try.f69,h1,h2,hlt,cInode]);(repeat'((with_reducible first|(refine Br.out ?_ ?_<;>intro h<;>(try(have h0:=h;simp only[bH]at h)))|refine AC_snd (hbc) ?_|fail)<;>(try simp -implicitDefEqProofs (disch:=first|exact dd|fail)[Try.f69,h1,h2,hlt,cInode])))
 generalize hx:f.inodes[I]=x at *
 have hst:f.inodes.map cInode=(f.inodes.map cInode).set I (cInode { x with blocks:=growB x.blocks x.blocks.length }):=by
  rw [growB_zero (Nat.le_refl _)]
  have:(f.inodes.map cInode).set I (cInode x)=f.inodes.map cInode:=by rw [←List.map_set,hxs]
  exact this.symm
 refine AL_up (fun (m:Nat)=>Q - m) (fun _ => []) (fun (m:Nat) => [(6, .row 10 ((f.inodes.map cInode).set I (cInode { x with blocks:=growB x.blocks m })) [])]) (fun m=>x.blocks.length≤m∧(m≤Q∨m=x.blocks.length)) x.blocks.length (by rw [←hst];rfl) ⟨Nat.le_refl _, .inr rfl⟩ ?_
 rintro m n ⟨hm0,hm1⟩ ih
 have hgl:(growB x.blocks m).length=m:=by rw [growB_len];omega
 rcases Nat.lt_or_ge m Q with hmq | hmq
 ·have hj:=ih (m + 1) ⟨by omega,by omega⟩ (by omega)
  rw [growB_step hm0] at hj
  generalize growB x.blocks m=B at *
  have htk:List.take m (List.map ci B)=List.map ci B:=List.take_of_length_le (by simp [hgl])
  simp only [cInode,List.map_append,List.map_cons,List.map_nil,ci] at hj
  (try simp -implicitDefEqProofs (disch:=first|exact dd|fail)[Try.f69,hlt,hgs,hmq,hgl,htk,cInode]);(repeat'((with_reducible first|(refine Br.out ?_ ?_<;>intro h<;>(try(have h0:=h;simp only[bH]at h)))|fail)<;>(try simp -implicitDefEqProofs (disch:=first|exact dd|fail)[Try.f69,hlt,hgs,hmq,hgl,htk,cInode])))
  all_goals first | exact hj
 have hmQ:growB x.blocks m=growB x.blocks Q:=by
  rcases hm1 with h | h
  ·rw [show m=Q by omega]
  ·rw [h,growB_zero (Nat.le_refl _),growB_zero (by omega)]
 have hBl:(growB x.blocks Q).length=m:=by rw [←hmQ];exact hgl
 have hBr:∀ b ∈ growB x.blocks Q,b ≠ -1→0≤b∧b < 56:=fun b hb hb1=>hblk b (mem_growB hb hb1) hb1
 rw [hmQ]
 generalize hB:growB x.blocks Q=B at *
 have hm8:m≤8:=by omega
 (try simp -implicitDefEqProofs (disch:=first|exact dd|fail)[Try.f69,hlt,hgs,hBl,cInode]);(repeat'((with_reducible first|(refine Br.out ?_ ?_<;>intro h<;>(try(have h0:=h;simp only[bH]at h)))|fail)<;>(try simp -implicitDefEqProofs (disch:=first|exact dd|fail)[Try.f69,hlt,hgs,hBl,cInode])))
 obtain ⟨G,hG⟩:∃ G,G=(List.map cInode f.inodes).set I [.int .i64 x.kind, .int .i64 x.mode, .int .i64 x.uid, .int .i64 x.gid, .int .i64 x.links, .int .i64 x.size, .int .i64 x.tick, .row 1 (List.map ci B), .row 3 (x.acl.map cAcl), .row 3 (x.dflt.map cAcl)]:=⟨_,rfl⟩
 rw [←hG]
 have hGg:G[I]? = some [.int .i64 x.kind, .int .i64 x.mode, .int .i64 x.uid, .int .i64 x.gid, .int .i64 x.links, .int .i64 x.size, .int .i64 x.tick, .row 1 (List.map ci B), .row 3 (x.acl.map cAcl), .row 3 (x.dflt.map cAcl)]:=by rw [hG];exact hgs _
 have hdl:(B.drop Q).length=m - Q:=by rw [List.length_drop,hBl]
 refine AL_fors (σ:=Unit) 50 (m - Q) (fun _ _ => []) (fun j _ => [(8, .row 1 ((zeroR f.data (real ((B.drop Q).take j))).map cs) [])]) (fun _ _=>True) () rfl trivial (fun j _ n hjt _ jh => ?_) (fun _ n _ => ?_)
 ·have hj:=jh () trivial
  have hQj:Q + j < B.length:=by omega
  have hjl:j < (B.drop Q).length:=by omega
  have hrt:=real_take hjl
  have hgj:(B.drop Q)[j]=B[Q + j]:=List.getElem_drop ..
  have hbr:=hBr _ (List.getElem_mem hQj)
  have hzl:=zeroR_len (data:=f.data) (bs:=real ((B.drop Q).take j))
  rw [hgj] at hrt
  by_cases hb:B[Q + j] = -1
  ·rw [if_pos hb] at hrt
   rw [hrt] at hj
   (try simp -implicitDefEqProofs (disch:=first|exact dd|fail)[Try.f69,hlt,hGg,hBl,hQj,hjt,hb,cInode]);(repeat'((with_reducible first|(refine Br.out ?_ ?_<;>intro h<;>(try(have h0:=h;simp only[bH]at h)))|fail)<;>(try simp -implicitDefEqProofs (disch:=first|exact dd|fail)[Try.f69,hlt,hGg,hBl,hQj,hjt,hb,cInode])))
   all_goals first | exact hj
  ·rw [if_neg hb] at hrt
   have hbr:=hbr hb
   obtain ⟨b,hbk⟩:=Int.eq_ofNat_of_zero_le hbr.1
   rw [hbk] at hb hrt hbr
   have hz:zeroR f.data (real ((B.drop Q).take j) ++ [(b:Int)])=(zeroR f.data (real ((B.drop Q).take j))).set b zero32:=by
    unfold zeroR
    rw [List.foldl_append]
    rfl
   rw [hrt,hz,List.map_set] at hj
   generalize zeroR f.data (real ((B.drop Q).take j))=Z2 at *
   have hbl:b < Z2.length:=by rw [hzl,hf.nd];omega
   (try simp -implicitDefEqProofs (disch:=first|exact dd|fail)[Try.f69,hlt,hGg,hBl,hQj,hjt,hbk,hb,hbl,cInode]);(repeat'((with_reducible first|(refine Br.out ?_ ?_<;>intro h<;>(try(have h0:=h;simp only[bH]at h)))|refine AC_snd (impl_zeros32) ?_|fail)<;>(try simp -implicitDefEqProofs (disch:=first|exact dd|fail)[Try.f69,hlt,hGg,hBl,hQj,hjt,hbk,hb,hbl,cInode])))
   all_goals first | exact hj
 rw [List.take_of_length_le (by omega)]
 have hzl:=zeroR_len (data:=f.data) (bs:=real (B.drop Q))
 have hzs:=zeroR_secs (bs:=real (B.drop Q)) hf.secs
 generalize zeroR f.data (real (B.drop Q))=D at *
 have hDl:D.length=56:=by rw [hzl,hf.nd]
 have hQm:Q≤m:=hmq
 have hzz:=impl_zeros
 have hGs:∀ c,(G.set I c)[I]? = some c:=fun c=>by rw [hG];simp [hlt]
 have hGl:G.length=f.inodes.length:=by rw [hG];simp
 have htQ:List.take Q (List.map ci B)=(List.take Q B).map ci:=List.map_take.symm
 have hGR:∀ n:DInode,G.set I (cInode n)=(f.inodes.set I n).map cInode:=fun n=>by rw [hG,List.set_set,List.map_set]
 have hGRn:=hGR { x with size:=(Z:Int),blocks:=List.take Q B }
 simp only [cInode] at hGRn
 rw [←htQ] at hGRn
 have hil:(f.inodes.set I { x with size:=(Z:Int),blocks:=List.take Q B }).length=f.inodes.length:=by rw [List.length_set]
 generalize f.inodes.set I { x with size:=(Z:Int),blocks:=List.take Q B }=G2 at *
 have hDl2:D.length=f.data.length:=hzl
 have hGgv:=(List.getElem?_eq_some_iff.1 hGg).2
 by_cases hq0:Q=0
 ·subst hq0
  have hZ0:Z=0:=by
   rcases Nat.eq_zero_or_pos Z with h | h
   ·exact h
   ·have:=hneed (by omega)
    omega
  subst hZ0
  rw [if_neg (by rintro ⟨-,h,-⟩;simp at h)] at hR
  rw [hR]
  simp only [List.take_zero] at hGRn
  (try simp -implicitDefEqProofs (disch:=first|exact dd|fail)[Try.f69,hlt,hGg,hGgv,hGs,hBl,hQm,hGRn,hGl,hil,hDl2,cInode]);(repeat'((with_reducible first|(refine Br.out ?_ ?_<;>intro h<;>(try(have h0:=h;simp only[bH]at h)))|fail)<;>(try simp -implicitDefEqProofs (disch:=first|exact dd|fail)[Try.f69,hlt,hGg,hGgv,hGs,hBl,hQm,hGRn,hGl,hil,hDl2,cInode])))
  all_goals exact hGRn
 have hQ0:¬ (Q:Int)=0:=by omega
 have hq0':0 < Q:=by omega
 have hzt:((Z:Int) % 32).toNat=Z % 32:=by omega
 have hQl:Q - 1 < (List.take Q B).length:=by rw [List.length_take];omega
 have hQB:Q - 1 < B.length:=by omega
 have hgB:B.getD (Q - 1) 0=B[Q - 1]:=by simp [hQB]
 have hQn:((Q:Int) - 1).toNat=Q - 1:=by omega
 have htl:(List.take Q B).length=Q:=by rw [List.length_take];omega
 have hgt:(List.take Q B)[Q - 1]=B[Q - 1]:=List.getElem_take ..
 have hbr:=hBr _ (List.getElem_mem hQB)
 rw [hgB] at hR
 by_cases hc1:0 < Z % 32
 rotate_left
 ·rw [if_neg (fun h=>hc1 h.2.1)] at hR
  rw [hR]
  have hc1':¬ 0 < (Z:Int) % 32:=by omega
  (try simp -implicitDefEqProofs (disch:=first|exact dd|fail)[Try.f69,hlt,hGg,hGgv,hGs,hBl,hQm,hGRn,hGl,hil,hDl2,hQ0,hc1',cInode]);(repeat'((with_reducible first|(refine Br.out ?_ ?_<;>intro h<;>(try(have h0:=h;simp only[bH]at h)))|fail)<;>(try simp -implicitDefEqProofs (disch:=first|exact dd|fail)[Try.f69,hlt,hGg,hGgv,hGs,hBl,hQm,hGRn,hGl,hil,hDl2,hQ0,hc1',cInode])))
 have hc1':0 < (Z:Int) % 32:=by omega
 by_cases hc2:(Z:Int) < x.size
 rotate_left
 ·rw [if_neg (fun h=>hc2 h.1)] at hR
  rw [hR]
  (try simp -implicitDefEqProofs (disch:=first|exact dd|fail)[Try.f69,hlt,hGg,hGgv,hGs,hBl,hQm,hGRn,hGl,hil,hDl2,hQ0,hzt,hc1',hc2,cInode]);(repeat'((with_reducible first|(refine Br.out ?_ ?_<;>intro h<;>(try(have h0:=h;simp only[bH]at h)))|fail)<;>(try simp -implicitDefEqProofs (disch:=first|exact dd|fail)[Try.f69,hlt,hGg,hGgv,hGs,hBl,hQm,hGRn,hGl,hil,hDl2,hQ0,hzt,hc1',hc2,cInode])))
 by_cases hc3:B[Q - 1] = -1
 ·rw [if_neg (fun h=>h.2.2 hc3)] at hR
  rw [hR]
  (try simp -implicitDefEqProofs (disch:=first|exact dd|fail)[Try.f69,hlt,hGg,hGgv,hGs,hBl,hQm,hGRn,hGl,hil,hDl2,hQ0,hzt,hc1',hc2,hc3,hQn,hQB,cInode]);(repeat'((with_reducible first|(refine Br.out ?_ ?_<;>intro h<;>(try(have h0:=h;simp only[bH]at h)))|fail)<;>(try simp -implicitDefEqProofs (disch:=first|exact dd|fail)[Try.f69,hlt,hGg,hGgv,hGs,hBl,hQm,hGRn,hGl,hil,hDl2,hQ0,hzt,hc1',hc2,hc3,hQn,hQB,cInode])))
 rw [if_pos ⟨hc2,hc1,hc3⟩] at hR
 obtain ⟨b,hbk⟩:=Int.eq_ofNat_of_zero_le (hbr hc3).1
 have hb56:=(hbr hc3).2
 rw [hbk] at hR hc3 hb56
 have hbD:b < D.length:=by omega
 obtain ⟨X,hX⟩:∃ X,D[b]=X:=⟨_,rfl⟩
 have hXl:=hzs _ (List.getElem_mem hbD)
 rw [hX] at hXl
 have hgd:D.getD (b:Int).toNat []=X:=by simp [hbD,hX]
 rw [hgd,Int.toNat_natCast] at hR
 have hz32:=impl_zeros (32 - Z % 32) (by omega)
 rw [show ((32 - Z % 32:Nat):Int)=32 - (Z:Int) % 32 by omega] at hz32
 have hbk':B[Q - 1]=(b:Int):=hbk
 (try simp -implicitDefEqProofs (disch:=first|exact dd|fail)[Try.f69,hlt,hGg,hGgv,hGs,hBl,hQm,hGRn,hGl,hil,hDl2,hQ0,hzt,hc1',hc2,hc3,hbk',hQn,hQB,hX,hXl,hbD,cInode]);(repeat'((with_reducible first|(refine Br.out ?_ ?_<;>intro h<;>(try(have h0:=h;simp only[bH]at h)))|refine AC_snd (hz32) ?_|fail)<;>(try simp -implicitDefEqProofs (disch:=first|exact dd|fail)[Try.f69,hlt,hGg,hGgv,hGs,hBl,hQm,hGRn,hGl,hil,hDl2,hQ0,hzt,hc1',hc2,hc3,hbk',hQn,hQB,hX,hXl,hbD,cInode])))
 rw [hR]
 exact ⟨rfl,rfl,rfl,by rw [List.map_set];rfl⟩
end Go.Proofs.Ytfkkfhafijgdaaa
