import Derived.Test.YtfkkfhafijgdaaaP01i
import Derived.Test.YtfkkfhafijgdaaaP14i
import Derived.Test.YtfkkfhafijgdaaaP09b
import Derived.Test.YtfkkfhafijgdaaaP09
import Derived.Test.YtfkkfhafijgdaaaMW
namespace Go.Proofs.Ytfkkfhafijgdaaa
open Go.Fw
set_option linter.unusedVariables false
set_option linter.unusedSimpArgs false
set_option maxHeartbeats 4000000
set_option maxRecDepth 8000
theorem laws_FnResize (n1:Option Bool) (code:Str) (hlen:code.length≤maxLen):Snd Try.prog 5 [.frz 1 n1 (code.map cu)] (.bool true) [.unk]:=Runs.snd (M:=M) (c:=⟨1,[2,3,4,5,6,7,8,9,10,11,12,13,15,18,25,26,27,28,34,63,82,104],[],[(1,[0,2,3,4,15,18,25,26,27,28,34,63,82,104])]⟩) tok ks mixed Try.func5 (p := []) (by kernel_rfl) (by rfl) (by rfl) <| by
 by_cases hl:code.length≤1048576
 ·have hgt:¬ (1048576:Int) < code.length:=by omega
  have cF:=spec_MakeFS n1 code hl
  have cN:=spec_MakeNum n1 code 3 (by decide) hl
  have hd:=fsC_ok code
  have hN:=numC_val code 3
  generalize fsC code=f at *
  generalize numC code 3=N at *
  have hf:=hd.fs
  have hs:=SmF.of hf
  have hif:isFS f=true:=tr_iff.2 hf
  have q4:=hf.nq
  have q20:=hf.ni
  have q56:=hf.nd
  obtain ⟨Z,hZ⟩:=Int.eq_ofNat_of_zero_le (show 0≤N % 40 by omega)
  have hZ40:Z < 40:=by omega
  have hu:N.tmod 40=N % 40:=Int.tmod_eq_emod_of_nonneg hN.1
  have htq:=takeM (f:=cQuota) q4
  have hti:=takeM (f:=cInode) q20
  have htd:=takeM (f:=cs) q56
  have cI:=fun a b c=>impl_IsFS a b c f hs
  rw [hif] at cI
  have cF0:=fun a b c=>impl_FreeObject a b c f 0 hs
  (try simp -implicitDefEqProofs (maxSteps:=2000000) (disch:=first|exact dd|fail)[Try.f5,hgt,hu,hZ,q4,q20,q56,htq,hti,htd]);(repeat'((with_reducible first|(refine Br.out ?_ ?_<;>intro h<;>(try(have h0:=h;simp only[bH]at h)))|refine AC_snd (cF) ?_|refine AC_snd (cN) ?_|fail)<;>(try simp -implicitDefEqProofs (maxSteps:=2000000) (disch:=first|exact dd|fail)[Try.f5,hgt,hu,hZ,q4,q20,q56,htq,hti,htd])))
  refine AL_for 27 20 (fun _=>True) rfl trivial (fun i n hlt _ ih => ?_) (fun n _ => ?_)
  ·have hjj:=ih trivial
   have hil:i < f.inodes.length:=by omega
   have hie:=inodeAt_nat hil
   have hi20:i < 20:=by omega
   by_cases hk:f.inodes[i].kind=1
   ·have hi:hasI f (i:Int)=true:=by
     unfold hasI
     rw [hie]
     simp [hk]
     omega
    have hne:¬ i=0:=by
     rintro rfl
     have h1:=hf.root f.inodes[0] (List.getElem?_eq_getElem hil)
     omega
    have hne2:¬ (i:Int)=0:=by omega
    have hr1:resizeO f i Z=(resizeS f i Z,0):=by
     unfold resizeO
     rw [hif,hi]
     unfold resizeF
     rw [if_pos (by rfl),if_neg (by omega),if_neg (by omega),Int.toNat_natCast]
    have hg:=IsFS.resize hf hi (show Z≤256 by omega)
    have hgi:=resize_has (Z:=Z) hf hi
    have e1:=resize_read (Z:=Z) hf hi (by omega)
    have e2:=resize_read2 (Z:=Z) hf hi (by omega)
    have hr2:resizeO (resizeS f i Z) i 100=(resizeS (resizeS f i Z) i 100,0):=by
     unfold resizeO
     rw [show isFS (resizeS f i Z)=true from tr_iff.2 hg,hgi]
     unfold resizeF
     rw [if_pos (by rfl),if_neg (by omega),if_neg (by omega)]
     rfl
    have hh:=IsFS.resize hg hgi (show 100≤256 by omega)
    have c1:=fun a b c=>impl_ResizeFile a b c f i Z hs (by omega)
    rw [hr1] at c1
    generalize resizeS f i Z=g at *
    have hsg:=SmF.of hg
    have c2:=fun a b c=>impl_ResizeFile a b c g i 100 hsg (by omega)
    rw [hr2] at c2
    generalize resizeS g i 100=h9 at *
    have hsh:=SmF.of hh
    have cIg:=fun a b c=>impl_IsFS a b c g hsg
    rw [show isFS g=true from tr_iff.2 hg] at cIg
    have cIh:=fun a b c=>impl_IsFS a b c h9 hsh
    rw [show isFS h9=true from tr_iff.2 hh] at cIh
    have hkl:(readB f i 0 Z).length≤Z:=by
     rw [read_all hf hi (by omega),List.length_take]
     omega
    have cR:=fun a b c=>impl_ReadBytes a b c f i 0 Z hs (by omega)
    have cRg:=fun a b c=>impl_ReadBytes a b c g i 0 1000 hsg (by decide)
    rw [e1] at cRg
    have cRh:=fun a b c=>impl_ReadBytes a b c h9 i 0 1000 hsh (by decide)
    rw [e2] at cRh
    generalize readB f i 0 Z=K at *
    have cP1:=impl_PadTo K 100 (by decide) (by omega)
    have cP2:=impl_PadTo K Z (by omega) (by omega)
    simp only [show ((100:Nat):Int)=100 from rfl] at cP1
    have hfo:freeObj f i=(freeF f i,0):=by
     unfold freeObj freeO
     rw [hif,hi]
     simp [hne]
    have cX:=fun a b c=>impl_FreeObject a b c f i hs
    rw [hfo] at cX
    have hx:IsFS (freeF f (i:Int)):=IsFS.free hf ⟨by omega,by omega⟩ (by omega)
    have hxk:(inodeAt (freeF f (i:Int)) i).kind=0:=by
     have e:freeF f (i:Int)=⟨f.tick,f.quotas,f.inodes.set i zeroInode,zeroR f.data (real (inodeAt f i).blocks)⟩:=rfl
     rw [e,inodeAt_set hil,if_pos (by simp)]
     rfl
    generalize freeF f (i:Int)=x9 at *
    have hsx:=SmF.of hx
    have cIx:=fun a b c=>impl_IsFS a b c x9 hsx
    rw [show isFS x9=true from tr_iff.2 hx] at cIx
    have x20:=hx.ni
    have hxl:i < x9.inodes.length:=by omega
    rw [inodeAt_nat hxl] at hxk
    have g4:=hg.nq
    have g20:=hg.ni
    have g56:=hg.nd
    have gtq:=takeM (f:=cQuota) g4
    have gti:=takeM (f:=cInode) g20
    have gtd:=takeM (f:=cs) g56
    have h4:=hh.nq
    have h20:=hh.ni
    have h56:=hh.nd
    have hhtq:=takeM (f:=cQuota) h4
    have hhti:=takeM (f:=cInode) h20
    have hhtd:=takeM (f:=cs) h56
    have x4:=hx.nq
    have x56:=hx.nd
    have xtq:=takeM (f:=cQuota) x4
    have xti:=takeM (f:=cInode) x20
    have xtd:=takeM (f:=cs) x56
    (try simp -implicitDefEqProofs (maxSteps:=2000000) (disch:=first|exact dd|fail)[Try.f5,hi20,hil,hk,hxl,hxk,q4,q20,q56,htq,hti,htd,g4,g20,g56,gtq,gti,gtd,h4,h20,h56,hhtq,hhti,hhtd,x4,x20,x56,xtq,xti,xtd,cInode]);(repeat'((with_reducible first|(refine Br.out ?_ ?_<;>intro h<;>(try(have h0:=h;simp only[bH]at h)))|refine AC_snd (c1 _ _ _) ?_|refine AC_snd (c2 _ _ _) ?_|refine AC_snd (cIg _ _ _) ?_|refine AC_snd (cIh _ _ _) ?_|refine AC_snd (cR _ _ _) ?_|refine AC_snd (cRh _ _ _) ?_|refine AC_snd (cP1) ?_|refine AC_snd (cRg _ _ _) ?_|refine AC_snd (cP2) ?_|refine AC_snd (cX _ _ _) ?_|refine AC_snd (cIx _ _ _) ?_|fail)<;>(try simp -implicitDefEqProofs (maxSteps:=2000000) (disch:=first|exact dd|fail)[Try.f5,hi20,hil,hk,hxl,hxk,q4,q20,q56,htq,hti,htd,g4,g20,g56,gtq,gti,gtd,h4,h20,h56,hhtq,hhti,hhtd,x4,x20,x56,xtq,xti,xtd,cInode])))
    all_goals first | exact hjj
   ·(try simp -implicitDefEqProofs (maxSteps:=2000000) (disch:=first|exact dd|fail)[Try.f5,hi20,hil,hk,q4,q20,q56,htq,hti,htd,cInode]);(repeat'((with_reducible first|(refine Br.out ?_ ?_<;>intro h<;>(try(have h0:=h;simp only[bH]at h)))|fail)<;>(try simp -implicitDefEqProofs (maxSteps:=2000000) (disch:=first|exact dd|fail)[Try.f5,hi20,hil,hk,q4,q20,q56,htq,hti,htd,cInode])))
    all_goals first | exact hjj
  ·have hfo:freeObj f 0=(f,1):=by
    unfold freeObj freeO
    split<;>simp
   rw [hfo] at cF0
   (try simp -implicitDefEqProofs (maxSteps:=2000000) (disch:=first|exact dd|fail)[Try.f5,q4,q20,q56,htq,hti,htd]);(repeat'((with_reducible first|(refine Br.out ?_ ?_<;>intro h<;>(try(have h0:=h;simp only[bH]at h)))|refine AC_snd (cF0 _ _ _) ?_|refine AC_snd (cI _ _ _) ?_|fail)<;>(try simp -implicitDefEqProofs (maxSteps:=2000000) (disch:=first|exact dd|fail)[Try.f5,q4,q20,q56,htq,hti,htd])))
 ·have hgt:(1048576:Int) < code.length:=by omega
  (try simp -implicitDefEqProofs (maxSteps:=2000000) (disch:=first|exact dd|fail)[Try.f5,hgt]);(repeat'((with_reducible first|(refine Br.out ?_ ?_<;>intro h<;>(try(have h0:=h;simp only[bH]at h)))|fail)<;>(try simp -implicitDefEqProofs (maxSteps:=2000000) (disch:=first|exact dd|fail)[Try.f5,hgt])))
end Go.Proofs.Ytfkkfhafijgdaaa
