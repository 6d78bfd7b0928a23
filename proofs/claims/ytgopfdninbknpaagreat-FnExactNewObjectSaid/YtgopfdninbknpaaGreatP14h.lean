import Derived.Test.YtgopfdninbknpaaGreatMA
import Derived.Test.YtgopfdninbknpaaGreatP02
import Derived.Test.YtgopfdninbknpaaGreatP14
import Derived.Test.YtgopfdninbknpaaGreatP12
namespace Go.Proofs.YtgopfdninbknpaaGreat
open Go.Fw
set_option linter.unusedVariables false
set_option linter.unusedSimpArgs false
set_option maxHeartbeats 1000000
set_option maxRecDepth 8000
noncomputable def resizeO (f:DFS) (i size:Int):DFS × Int:=if isFS f && hasI f i then resizeF f i size else (f,1)
theorem spec_l09Resize (n1 n2 n3:Option Bool) (f:DFS) (i:Int) (Z:Nat) (hs:SmF f) (hf:IsFS f) (hi:hasI f i=true) (hZ:Z≤256):Snd Tryz.prog 138 [fFS n1 n2 n3 f, .int .i64 i, .int .i64 Z] (rFS (resizeS f i Z)) [.unk, .unk, .unk]:=Runs.snd (M:=M) (c:=⟨3,[3,6,7,8,9,10,11,26,36,67,91],[],[(1,[0,1,2,3,6,7,8,9,11,26,36,67,91])]⟩) tok ks mixed Tryz.func138 (p := []) (by kernel_rfl) (by rfl) (by rfl) <| by
 have hi':=hasI_lt hi
 obtain ⟨I,rfl⟩:=Int.eq_ofNat_of_zero_le hi'.1
 have hI:I < 20:=by omega
 have hlt:I < f.inodes.length:=by rw [hf.ni];omega
 have he:=inodeAt_nat hlt
 have hok:=(isInode_ok hi'.2.2).1 (hf.sm _ ⟨hi'.1,hi'.2.1⟩)
 rw [he] at hok
 have hbn:=blocksNeeded_le (s:=(Z:Int)) (by omega)
 have hbn0:=blocksNeeded_nn (s:=(Z:Int))
 have hxb:=hok.blocks
 have hmono:(Z:Int) < f.inodes[I].size→blocksNeeded Z≤f.inodes[I].blocks.length:=fun h=>by rw [hxb];exact needed_mono (by omega)
 have hneed:=needed_pos (a:=(Z:Int))
 have hblk:=(hf.blks (List.getElem_mem hlt)).2.2
 have hx8:=(hf.inode _ (List.getElem_mem hlt)).len.1
 have hsn:=hs.inode _ (List.getElem_mem hlt)
 obtain ⟨R,hR⟩:∃ R,R=resizeS f I Z:=⟨_,rfl⟩
 rw [←hR]
 unfold resizeS rN rD cutD rB at hR
 rw [he] at hR
 simp only [Int.toNat_natCast] at hR
 have hbc:=spec_BlocksNeeded (Z:Int) (by omega)
 obtain ⟨Q,hQ⟩:=Int.eq_ofNat_of_zero_le hbn0
 rw [hQ] at hbn hbc hmono hneed hR
 simp only [Int.toNat_natCast] at hR
 (try simp -implicitDefEqProofs (disch:=first|exact dd|fail)[Tryz.f138,hlt,cInode]);(repeat'((with_reducible first|(refine Br.out ?_ ?_<;>intro h<;>(try(have h0:=h;simp only[bH]at h)))|refine AC_snd (spec_l08Copy _ _ _ f hs) ?_|refine AC_snd (spec_l07Copy _ _ _ f.inodes[I] hsn) ?_|refine AC_snd (hbc) ?_|fail)<;>(try simp -implicitDefEqProofs (disch:=first|exact dd|fail)[Tryz.f138,hlt,cInode])))
 have hGRn:∀ n:DInode,(f.inodes.map cInode).set I (cInode n)=(f.inodes.set I n).map cInode:=fun n=>by rw [List.map_set]
 generalize hx:f.inodes[I]=x at *
 have hzl:=fun b=>zeroR_len (data:=f.data) (bs:=b)
 refine AL_up (fun m=>m) (fun _ => []) (fun m => [(904, .row 1 ((zeroR f.data (real (x.blocks.drop m))).map cs) []),(1024, .box [.int .i64 x.kind, .int .i64 x.mode, .int .i64 x.uid, .int .i64 x.gid, .int .i64 x.links, .int .i64 x.size, .int .i64 x.tick, .ref 1040 none 1 0 m none, .ref 1042 none 3 0 x.acl.length none, .ref 1044 none 3 0 x.dflt.length none])]) (fun m=>m≤x.blocks.length∧(Q≤m∨m=x.blocks.length)) x.blocks.length (by simp [real,zeroR]) ⟨Nat.le_refl _, .inr rfl⟩ ?_
 rintro m n ⟨hm,hmQ⟩ ih
 rcases Nat.lt_or_ge Q m with hQm | hQm
 ·obtain ⟨m,rfl⟩:∃ k,m=k + 1:=⟨m - 1,by omega⟩
  have hj:=ih m ⟨by omega, .inl (by omega)⟩ (by omega)
  have hz:=zeroR_drop (data:=f.data) (bs:=x.blocks) (m:=m) (by omega)
  rw [hz] at hj
  have hmt:m < x.blocks.length:=by omega
  have hzm:=hzl (real (x.blocks.drop (m + 1)))
  have hQm':Q < m + 1:=hQm
  by_cases hbm:x.blocks[m] = -1
  ·rw [if_pos hbm] at hj
   (try simp -implicitDefEqProofs (disch:=first|exact dd|fail)[Tryz.f138,hmt,hbm,hQm',cInode]);(repeat'((with_reducible first|(refine Br.out ?_ ?_<;>intro h<;>(try(have h0:=h;simp only[bH]at h)))|fail)<;>(try simp -implicitDefEqProofs (disch:=first|exact dd|fail)[Tryz.f138,hmt,hbm,hQm',cInode])))
   all_goals first | exact hj
  ·rw [if_neg hbm] at hj
   have hbr:=hblk _ (List.getElem_mem hmt) hbm
   obtain ⟨j,hj2⟩:=Int.eq_ofNat_of_zero_le hbr.1
   have hb':¬ (j:Int) = -1:=by omega
   have hset:(List.map cs (zeroR f.data (real (x.blocks.drop (m + 1))))).set j [.str zero32]=List.map cs ((zeroR f.data (real (x.blocks.drop (m + 1)))).set j zero32):=by
    rw [List.map_set]
    rfl
   rw [hj2,Int.toNat_natCast,←hset] at hj
   have hfd:=hf.nd
   have hget:∃ s,(List.map cs (zeroR f.data (real (x.blocks.drop (m + 1)))))[j]? = some [.str s]:=⟨_,by rw [List.getElem?_map,List.getElem?_eq_getElem (by omega)];rfl⟩
   obtain ⟨s0,hget⟩:=hget
   generalize List.map cs (zeroR f.data (real (x.blocks.drop (m + 1))))=Y at *
   (try simp -implicitDefEqProofs (disch:=first|exact dd|fail)[Tryz.f138,hmt,hj2,hb',hget,hQm',cInode]);(repeat'((with_reducible first|(refine Br.out ?_ ?_<;>intro h<;>(try(have h0:=h;simp only[bH]at h)))|refine AC_snd (spec_PadTo0) ?_|fail)<;>(try simp -implicitDefEqProofs (disch:=first|exact dd|fail)[Tryz.f138,hmt,hj2,hb',hget,hQm',cInode])))
   all_goals first | exact hj
 have hmm:m=Q∧Q≤x.blocks.length∨m=x.blocks.length∧x.blocks.length < Q:=by omega
 -- the data behind what is cut off
 have hD0:zeroR f.data (real (x.blocks.drop m))=zeroR f.data (real ((growB x.blocks Q).drop Q)):=by
  rcases hmm with ⟨rfl,h⟩ | ⟨rfl,h⟩
  ·rw [growB_zero h]
  ·rw [List.drop_of_length_le (Nat.le_refl _),List.drop_of_length_le (by rw [growB_len];omega)]
 have hzs:=zeroR_secs (bs:=real (x.blocks.drop m)) hf.secs
 have hzm:=hzl (real (x.blocks.drop m))
 rw [←hD0] at hR
 generalize zeroR f.data (real (x.blocks.drop m))=D at *
 have hDl:D.length=56:=by rw [hzm,hf.nd]
 have hnQ:¬ Q < m:=by omega
 have hDl2:D.length=f.data.length:=by rw [hDl,hf.nd]
 rcases hmm with ⟨hmq,hQx⟩ | ⟨hml,hQx⟩
 ·subst hmq
  rw [growB_zero hQx] at hR
  have hGR:=hGRn { x with size:=(Z:Int),blocks:=List.take m x.blocks }
  simp only [cInode,List.map_take] at hGR
  have hite:(if x.blocks.length=m then some (AV.row 1 (List.map ci x.blocks),[1040]) else some (AV.row 1 (List.take m (List.map ci x.blocks)),[1040]))=some (AV.row 1 (List.take m (List.map ci x.blocks)),([1040]:List Rid)):=by
   split
   ·rename_i h
    rw [List.take_of_length_le (by simp;omega)]
   ·rfl
  have hil:(f.inodes.set I { x with size:=(Z:Int),blocks:=List.take m x.blocks }).length=f.inodes.length:=by rw [List.length_set]
  generalize f.inodes.set I { x with size:=(Z:Int),blocks:=List.take m x.blocks }=G2 at *
  by_cases hc2:(Z:Int) < x.size
  rotate_left
  ·rw [if_neg (fun h=>hc2 h.1)] at hR
   rw [hR]
   (try simp -implicitDefEqProofs (disch:=first|exact dd|fail)[Tryz.f138,hlt,hnQ,hc2,cInode]);(repeat'((with_reducible first|(refine Br.out ?_ ?_<;>intro h<;>(try(have h0:=h;simp only[bH]at h)))|fail)<;>(try simp -implicitDefEqProofs (disch:=first|exact dd|fail)[Tryz.f138,hlt,hnQ,hc2,cInode])))
   refine AL_up (ι:=Unit) (fun _=>0) (fun _ => []) (fun _ => []) (fun _=>True) () rfl trivial (fun _ n _ _ => ?_)
   (try simp -implicitDefEqProofs (disch:=first|exact dd|fail)[Tryz.f138,hlt,hQx,hite,hGR,hil,hDl2,cInode]);(repeat'((with_reducible first|(refine Br.out ?_ ?_<;>intro h<;>(try(have h0:=h;simp only[bH]at h)))|fail)<;>(try simp -implicitDefEqProofs (disch:=first|exact dd|fail)[Tryz.f138,hlt,hQx,hite,hGR,hil,hDl2,cInode])))
  by_cases hc1:0 < Z % 32
  rotate_left
  ·rw [if_neg (fun h=>hc1 h.2.1)] at hR
   rw [hR]
   have hc1':¬ 0 < (Z:Int) % 32:=by omega
   (try simp -implicitDefEqProofs (disch:=first|exact dd|fail)[Tryz.f138,hlt,hnQ,hc2,hc1',cInode]);(repeat'((with_reducible first|(refine Br.out ?_ ?_<;>intro h<;>(try(have h0:=h;simp only[bH]at h)))|fail)<;>(try simp -implicitDefEqProofs (disch:=first|exact dd|fail)[Tryz.f138,hlt,hnQ,hc2,hc1',cInode])))
   refine AL_up (ι:=Unit) (fun _=>0) (fun _ => []) (fun _ => []) (fun _=>True) () rfl trivial (fun _ n _ _ => ?_)
   (try simp -implicitDefEqProofs (disch:=first|exact dd|fail)[Tryz.f138,hlt,hQx,hite,hGR,hil,hDl2,cInode]);(repeat'((with_reducible first|(refine Br.out ?_ ?_<;>intro h<;>(try(have h0:=h;simp only[bH]at h)))|fail)<;>(try simp -implicitDefEqProofs (disch:=first|exact dd|fail)[Tryz.f138,hlt,hQx,hite,hGR,hil,hDl2,cInode])))
  have hc1':0 < (Z:Int) % 32:=by omega
  have hq0:=hneed (by omega)
  have hQB:m - 1 < x.blocks.length:=by omega
  have hgB:x.blocks.getD (m - 1) 0=x.blocks[m - 1]:=by simp [hQB]
  have hQn:((m:Int) - 1).toNat=m - 1:=by omega
  have hbr:=hblk _ (List.getElem_mem hQB)
  rw [hgB] at hR
  by_cases hc3:x.blocks[m - 1] = -1
  ·rw [if_neg (fun h=>h.2.2 hc3)] at hR
   rw [hR]
   (try simp -implicitDefEqProofs (disch:=first|exact dd|fail)[Tryz.f138,hlt,hnQ,hc2,hc1',hc3,hQn,hQB,cInode]);(repeat'((with_reducible first|(refine Br.out ?_ ?_<;>intro h<;>(try(have h0:=h;simp only[bH]at h)))|fail)<;>(try simp -implicitDefEqProofs (disch:=first|exact dd|fail)[Tryz.f138,hlt,hnQ,hc2,hc1',hc3,hQn,hQB,cInode])))
   refine AL_up (ι:=Unit) (fun _=>0) (fun _ => []) (fun _ => []) (fun _=>True) () rfl trivial (fun _ n _ _ => ?_)
   (try simp -implicitDefEqProofs (disch:=first|exact dd|fail)[Tryz.f138,hlt,hQx,hite,hGR,hil,hDl2,cInode]);(repeat'((with_reducible first|(refine Br.out ?_ ?_<;>intro h<;>(try(have h0:=h;simp only[bH]at h)))|fail)<;>(try simp -implicitDefEqProofs (disch:=first|exact dd|fail)[Tryz.f138,hlt,hQx,hite,hGR,hil,hDl2,cInode])))
  rw [if_pos ⟨hc2,hc1,hc3⟩] at hR
  obtain ⟨b,hbk⟩:=Int.eq_ofNat_of_zero_le (hbr hc3).1
  have hb56:=(hbr hc3).2
  rw [hbk] at hR hc3 hb56
  have hbD:b < D.length:=by omega
  obtain ⟨X,hX⟩:∃ X,D[b]=X:=⟨_,rfl⟩
  have hXl:=hzs _ (List.getElem_mem hbD)
  rw [hX] at hXl
  have hgd:D.getD (b:Int).toNat []=X:=by simp [hbD,hX]
  rw [hgd,Int.toNat_natCast] at hR
  have hzt:((Z:Int) % 32).toNat=Z % 32:=by omega
  have hpad:=spec_PadTo (List.take (Z % 32) X) 32 (by omega) (by rw [List.length_take];omega)
  have hpd:padTo (List.take (Z % 32) X) 32=List.take (Z % 32) X++List.replicate (32 - Z % 32) 0:=by
   rw [padTo,List.length_take,Nat.min_eq_left (by omega)]
  rw [hpd] at hpad
  generalize List.take (Z % 32) X++List.replicate (32 - Z % 32) 0=Y at *
  have hDs:(D.map cs).set b [.str Y]=(D.set b Y).map cs:=by rw [List.map_set];rfl
  have hDsl:(D.set b Y).length=f.data.length:=by rw [List.length_set];exact hDl2
  have hbk':x.blocks[m - 1]=(b:Int):=hbk
  rw [hR]
  (try simp -implicitDefEqProofs (disch:=first|exact dd|fail)[Tryz.f138,hlt,hnQ,hc2,hc1',hc3,hbk',hQn,hQB,hX,hXl,hbD,hzt,cInode]);(repeat'((with_reducible first|(refine Br.out ?_ ?_<;>intro h<;>(try(have h0:=h;simp only[bH]at h)))|refine AC_snd (hpad) ?_|fail)<;>(try simp -implicitDefEqProofs (disch:=first|exact dd|fail)[Tryz.f138,hlt,hnQ,hc2,hc1',hc3,hbk',hQn,hQB,hX,hXl,hbD,hzt,cInode])))
  rw [hDs]
  generalize D.set b Y=D2 at *
  refine AL_up (ι:=Unit) (fun _=>0) (fun _ => []) (fun _ => []) (fun _=>True) () rfl trivial (fun _ n _ _ => ?_)
  (try simp -implicitDefEqProofs (disch:=first|exact dd|fail)[Tryz.f138,hlt,hQx,hite,hGR,hil,hDsl,cInode]);(repeat'((with_reducible first|(refine Br.out ?_ ?_<;>intro h<;>(try(have h0:=h;simp only[bH]at h)))|fail)<;>(try simp -implicitDefEqProofs (disch:=first|exact dd|fail)[Tryz.f138,hlt,hQx,hite,hGR,hil,hDsl,cInode])))
 ·subst hml
  have hc2:¬ (Z:Int) < x.size:=fun h=>by have:=hmono h;omega
  rw [if_neg (fun h=>hc2 h.1)] at hR
  have hgl:(growB x.blocks Q).length=Q:=by rw [growB_len];omega
  rw [List.take_of_length_le (by omega)] at hR
  have hGR:=hGRn { x with size:=(Z:Int),blocks:=growB x.blocks Q }
  simp only [cInode] at hGR
  have hil:(f.inodes.set I { x with size:=(Z:Int),blocks:=growB x.blocks Q }).length=f.inodes.length:=by rw [List.length_set]
  generalize f.inodes.set I { x with size:=(Z:Int),blocks:=growB x.blocks Q }=G2 at *
  rw [hR]
  (try simp -implicitDefEqProofs (disch:=first|exact dd|fail)[Tryz.f138,hlt,hnQ,hc2,cInode]);(repeat'((with_reducible first|(refine Br.out ?_ ?_<;>intro h<;>(try(have h0:=h;simp only[bH]at h)))|fail)<;>(try simp -implicitDefEqProofs (disch:=first|exact dd|fail)[Tryz.f138,hlt,hnQ,hc2,cInode])))
  refine AL_up (fun (p:Nat)=>Q - p) (fun _ => []) (fun (p:Nat) => [(1024, .box [.int .i64 x.kind, .int .i64 x.mode, .int .i64 x.uid, .int .i64 x.gid, .int .i64 x.links, .int .i64 x.size, .int .i64 x.tick, .ref 1040 none 1 0 p none, .ref 1042 none 3 0 x.acl.length none, .ref 1044 none 3 0 x.dflt.length none]),(1040, .row 1 ((growB x.blocks p).map ci) [])]) (fun p=>x.blocks.length≤p∧p≤Q) x.blocks.length (by simp [growB_zero (Nat.le_refl _)]) ⟨Nat.le_refl _,by omega⟩ ?_
  rintro p n ⟨hp0,hp1⟩ ih2
  have hpl:(growB x.blocks p).length=p:=by rw [growB_len];omega
  rcases Nat.lt_or_ge p Q with hpq | hpq
  ·have hj:=ih2 (p + 1) ⟨by omega,by omega⟩ (by omega)
   rw [growB_step hp0] at hj
   generalize growB x.blocks p=E at *
   have htk:List.take p (List.map ci E)=List.map ci E:=List.take_of_length_le (by simp [hpl])
   simp only [List.map_append,List.map_cons,List.map_nil,ci] at hj
   (try simp -implicitDefEqProofs (disch:=first|exact dd|fail)[Tryz.f138,hlt,hpq,hpl,htk,cInode]);(repeat'((with_reducible first|(refine Br.out ?_ ?_<;>intro h<;>(try(have h0:=h;simp only[bH]at h)))|fail)<;>(try simp -implicitDefEqProofs (disch:=first|exact dd|fail)[Tryz.f138,hlt,hpq,hpl,htk,cInode])))
   all_goals first | exact hj
  obtain rfl:p=Q:=by omega
  generalize growB x.blocks p=E at *
  (try simp -implicitDefEqProofs (disch:=first|exact dd|fail)[Tryz.f138,hlt,hpl,hGR,hil,hDl2,cInode]);(repeat'((with_reducible first|(refine Br.out ?_ ?_<;>intro h<;>(try(have h0:=h;simp only[bH]at h)))|fail)<;>(try simp -implicitDefEqProofs (disch:=first|exact dd|fail)[Tryz.f138,hlt,hpl,hGR,hil,hDl2,cInode])))
end Go.Proofs.YtgopfdninbknpaaGreat
