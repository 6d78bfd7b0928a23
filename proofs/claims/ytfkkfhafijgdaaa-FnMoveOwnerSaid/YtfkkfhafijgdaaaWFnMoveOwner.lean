import Derived.Test.YtfkkfhafijgdaaaP01i
import Derived.Test.YtfkkfhafijgdaaaP14k
import Derived.Test.YtfkkfhafijgdaaaP09b
import Derived.Test.YtfkkfhafijgdaaaMV
namespace Go.Proofs.Ytfkkfhafijgdaaa
open Go.Fw
set_option linter.unusedVariables false
set_option linter.unusedSimpArgs false
set_option maxHeartbeats 4000000
set_option maxRecDepth 8000
theorem laws_FnMoveOwner (n1:Option Bool) (code:Str) (hlen:code.length≤maxLen):Snd Try.prog 4 [.frz 1 n1 (code.map cu)] (.bool true) [.unk]:=Runs.snd (M:=M) (c:=⟨1,[2,3,4,5,6,7,8,10,13,20,21,22,23,29,38,42,64,70,71,72,73,79],[],[(1,[0,2,3,4,13,20,21,22,23,29,38,42,64,73,79]),(2,[0,2,3,4,5,6,7,8,13,20,21,22,23,29,38,42,64,70,71,72,73,79]),(3,[0,2,3,4,5,6,7,8,13,20,21,22,23,29,38,42,64,70,71,72,73,79])]⟩) tok ks mixed Try.func4 (p := []) (by kernel_rfl) (by rfl) (by rfl) <| by
 by_cases hl:code.length≤1048576
 ·have hgt:¬ (1048576:Int) < code.length:=by omega
  have cF:=spec_MakeFS n1 code hl
  have cN:=spec_MakeNum n1 code 3 (by decide) hl
  have hd:=fsC_ok code
  have hN:=numC_val code 3
  generalize fsC code=f at *
  generalize numC code 3=N at *
  have hf:=hd.fs
  have hs:=SmF.of hf
  have hif:isFS f=true:=tr_iff.2 hf
  have q4:=hf.nq
  have q20:=hf.ni
  have q56:=hf.nd
  have hu:N.tmod 4=N % 4:=Int.tmod_eq_emod_of_nonneg hN.1
  have htq:=takeM (f:=cQuota) q4
  have hti:=takeM (f:=cInode) q20
  have htd:=takeM (f:=cs) q56
  have cI:=fun a b c=>impl_IsFS a b c f hs
  rw [hif] at cI
  (try simp -implicitDefEqProofs (maxSteps:=2000000) (disch:=first|exact dd|fail)[Try.f4,hgt,hu,q4,q20,q56,htq,hti,htd]);(repeat'((with_reducible first|(refine Br.out ?_ ?_<;>intro h<;>(try(have h0:=h;simp only[bH]at h)))|refine AC_snd (cF) ?_|refine AC_snd (cN) ?_|fail)<;>(try simp -implicitDefEqProofs (maxSteps:=2000000) (disch:=first|exact dd|fail)[Try.f4,hgt,hu,q4,q20,q56,htq,hti,htd])))
  refine AL_for 22 20 (fun _=>True) rfl trivial (fun i n hlt _ ih => ?_) (fun n _ => ?_)
  ·have hjj:=ih trivial
   have hil:i < f.inodes.length:=by omega
   have cM:=fun a b c=>impl_MoveOwner a b c f i (N % 4) hs
   have hie:=inodeAt_nat hil
   have hx:f.inodes[i]? = some f.inodes[i]:=List.getElem?_eq_getElem hil
   have hi20:i < 20:=by omega
   by_cases hk:f.inodes[i].kind=0
   ·(try simp -implicitDefEqProofs (maxSteps:=2000000) (disch:=first|exact dd|fail)[Try.f4,hi20,hil,hk,q4,q20,q56,htq,hti,htd,cInode]);(repeat'((with_reducible first|(refine Br.out ?_ ?_<;>intro h<;>(try(have h0:=h;simp only[bH]at h)))|fail)<;>(try simp -implicitDefEqProofs (maxSteps:=2000000) (disch:=first|exact dd|fail)[Try.f4,hi20,hil,hk,q4,q20,q56,htq,hti,htd,cInode])))
    all_goals first | exact hjj
   ·have hi:hasI f (i:Int)=true:=by
     unfold hasI
     rw [hie]
     simp [hk]
     omega
    have hmo:moveO f i (N % 4)=(if (moveP f i (N % 4)).2=0 then (moveP f i (N % 4)).1 else f,(moveP f i (N % 4)).2):=by
     unfold moveO
     rw [hif,hi]
     rfl
    rw [hmo] at cM
    by_cases h0:(moveP f i (N % 4)).2=0
    ·have hg:=IsFS.move hs hf hi h0
     have hr:=move_read (a:=0) (n:=1000) hs hf hi h0
     obtain ⟨-,hgu,-⟩:=move_keeps hs hf hi h0
     simp only [h0,if_true] at cM
     have cR1:=fun a b c=>impl_ReadBytes a b c f i 0 1000 hs (by decide)
     generalize (moveP f i (N % 4)).1=g at *
     have hsg:=SmF.of hg
     have hig:isFS g=true:=tr_iff.2 hg
     have cR2:=fun a b c=>impl_ReadBytes a b c g i 0 1000 hsg (by decide)
     rw [hr] at cR2
     have cI2:=fun a b c=>impl_IsFS a b c g hsg
     rw [hig] at cI2
     have p4:=hg.nq
     have p20:=hg.ni
     have p56:=hg.nd
     have gtq:=takeM (f:=cQuota) p4
     have gti:=takeM (f:=cInode) p20
     have gtd:=takeM (f:=cs) p56
     have hgl:i < g.inodes.length:=by omega
     have hge:=inodeAt_nat hgl
     rw [hge] at hgu
     have hmem:=List.getElem_mem hgl
     have hown:=hg.own _ hmem
     have hsx:=hsg.inode _ hmem
     have cB:=fun a b c=>impl_UsedBlocks a b c g.inodes[i] hsx
     simp only [fInode,hgu] at cB
     have hB:∀ b ∈ real g.inodes[i].blocks,ownerOf b=N % 4:=fun b hb=>by
      rw [hown b (mem_real.1 hb).1 (mem_real.1 hb).2,hgu]
     have tb:=takeM (f:=ci) (rfl:g.inodes[i].blocks.length=g.inodes[i].blocks.length)
     have tc:=takeM (f:=cAcl) (rfl:g.inodes[i].acl.length=g.inodes[i].acl.length)
     have td:=takeM (f:=cAcl) (rfl:g.inodes[i].dflt.length=g.inodes[i].dflt.length)
     have hRl:=real_len (l:=g.inodes[i].blocks)
     have hRs:=hsx.blocks
     generalize real g.inodes[i].blocks=RB at *
     generalize readB f i 0 1000=RD at *
     (try simp -implicitDefEqProofs (maxSteps:=2000000) (disch:=first|exact dd|fail)[Try.f4,hi20,hil,hk,hgl,hgu,q4,q20,q56,htq,hti,htd,p4,p20,p56,gtq,gti,gtd,tb,tc,td,cInode]);(repeat'((with_reducible first|(refine Br.out ?_ ?_<;>intro h<;>(try(have h0:=h;simp only[bH]at h)))|refine AC_snd (cM _ _ _) ?_|refine AC_snd (cI2 _ _ _) ?_|refine AC_snd (cR2 _ _ _) ?_|refine AC_snd (cR1 _ _ _) ?_|refine AC_snd (cB _ _ _) ?_|fail)<;>(try simp -implicitDefEqProofs (maxSteps:=2000000) (disch:=first|exact dd|fail)[Try.f4,hi20,hil,hk,hgl,hgu,q4,q20,q56,htq,hti,htd,p4,p20,p56,gtq,gti,gtd,tb,tc,td,cInode])))
     refine AL_for 72 RB.length (fun _=>True) rfl trivial (fun k n7 hk7 _ jh => ?_) (fun n7 _ => ?_)
     ·have hb:=hB _ (List.getElem_mem hk7)
      have cO:=impl_BlockOwner RB[k]
      rw [hb] at cO
      have hkk:=jh trivial
      (try simp -implicitDefEqProofs (maxSteps:=2000000) (disch:=first|exact dd|fail)[Try.f4,hk7]);(repeat'((with_reducible first|(refine Br.out ?_ ?_<;>intro h<;>(try(have h0:=h;simp only[bH]at h)))|refine AC_snd (cO) ?_|fail)<;>(try simp -implicitDefEqProofs (maxSteps:=2000000) (disch:=first|exact dd|fail)[Try.f4,hk7])))
      all_goals first | exact hkk
     ·(try simp -implicitDefEqProofs (maxSteps:=2000000) (disch:=first|exact dd|fail)[Try.f4]);(repeat'((with_reducible first|(refine Br.out ?_ ?_<;>intro h<;>(try(have h0:=h;simp only[bH]at h)))|fail)<;>(try simp -implicitDefEqProofs (maxSteps:=2000000) (disch:=first|exact dd|fail)[Try.f4])))
      all_goals first | exact hjj
    ·simp only [h0,if_false] at cM
     have cS:=fun a b c a1 b1 c1=>impl_SameFS f f a b c a1 b1 c1 hs
     simp only [decide_true] at cS
     generalize (moveP f i (N % 4)).2=E at *
     (try simp -implicitDefEqProofs (maxSteps:=2000000) (disch:=first|exact dd|fail)[Try.f4,hi20,hil,hk,h0,q4,q20,q56,htq,hti,htd,cInode]);(repeat'((with_reducible first|(refine Br.out ?_ ?_<;>intro h<;>(try(have h0:=h;simp only[bH]at h)))|refine AC_snd (cM _ _ _) ?_|refine AC_snd (cS _ _ _ _ _ _) ?_|fail)<;>(try simp -implicitDefEqProofs (maxSteps:=2000000) (disch:=first|exact dd|fail)[Try.f4,hi20,hil,hk,h0,q4,q20,q56,htq,hti,htd,cInode])))
     all_goals first | exact hjj
  ·(try simp -implicitDefEqProofs (maxSteps:=2000000) (disch:=first|exact dd|fail)[Try.f4,q4,q20,q56,htq,hti,htd]);(repeat'((with_reducible first|(refine Br.out ?_ ?_<;>intro h<;>(try(have h0:=h;simp only[bH]at h)))|refine AC_snd (cI _ _ _) ?_|fail)<;>(try simp -implicitDefEqProofs (maxSteps:=2000000) (disch:=first|exact dd|fail)[Try.f4,q4,q20,q56,htq,hti,htd])))
 ·have hgt:(1048576:Int) < code.length:=by omega
  (try simp -implicitDefEqProofs (maxSteps:=2000000) (disch:=first|exact dd|fail)[Try.f4,hgt]);(repeat'((with_reducible first|(refine Br.out ?_ ?_<;>intro h<;>(try(have h0:=h;simp only[bH]at h)))|fail)<;>(try simp -implicitDefEqProofs (maxSteps:=2000000) (disch:=first|exact dd|fail)[Try.f4,hgt])))
end Go.Proofs.Ytfkkfhafijgdaaa
