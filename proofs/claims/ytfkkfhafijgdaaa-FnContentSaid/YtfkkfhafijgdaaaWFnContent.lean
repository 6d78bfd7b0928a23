import Derived.Test.YtfkkfhafijgdaaaP01i
import Derived.Test.YtfkkfhafijgdaaaP14
import Derived.Test.YtfkkfhafijgdaaaP09b
import Derived.Test.YtfkkfhafijgdaaaMX
namespace Go.Proofs.Ytfkkfhafijgdaaa
open Go.Fw
set_option linter.unusedVariables false
set_option linter.unusedSimpArgs false
set_option maxHeartbeats 4000000
set_option maxRecDepth 8000
theorem laws_FnContent (n1:Option Bool) (code:Str) (hlen:code.length≤maxLen):Snd Try.prog 6 [.frz 1 n1 (code.map cu)] (.bool true) [.unk]:=Runs.snd (M:=M) (c:=⟨1,[2,3,4,5,6,7,8,9,10,11,14,23,24,25,26,32,42,46,77,90],[],[(1,[0,2,3,4,5,14,23,24,25,26,32,42,46,77,90])]⟩) tok ks mixed Try.func6 (p := []) (by kernel_rfl) (by rfl) (by rfl) <| by
 by_cases hl:code.length≤1048576
 ·have hgt:¬ (1048576:Int) < code.length:=by omega
  have cF:=spec_MakeFS n1 code hl
  have cN:=spec_MakeNum n1 code 3 (by decide) hl
  have cB:=spec_MakeBytes n1 code 40 (by decide) hl
  have hsl:=strC_len code 40
  have hd:=fsC_ok code
  have hN:=numC_val code 3
  generalize fsC code=f at *
  generalize numC code 3=N at *
  generalize strC code 40=s at *
  have hf:=hd.fs
  have hs:=SmF.of hf
  have hif:isFS f=true:=tr_iff.2 hf
  have q4:=hf.nq
  have q20:=hf.ni
  have q56:=hf.nd
  obtain ⟨A,hA⟩:=Int.eq_ofNat_of_zero_le (show 0≤N % 70 by omega)
  have hA70:A < 70:=by omega
  have hu:N.tmod 70=N % 70:=Int.tmod_eq_emod_of_nonneg hN.1
  have htq:=takeM (f:=cQuota) q4
  have hti:=takeM (f:=cInode) q20
  have htd:=takeM (f:=cs) q56
  have cI:=fun a b c=>impl_IsFS a b c f hs
  rw [hif] at cI
  (try simp -implicitDefEqProofs (maxSteps:=2000000) (disch:=first|exact dd|fail)[Try.f6,hgt,hu,hA,q4,q20,q56,htq,hti,htd]);(repeat'((with_reducible first|(refine Br.out ?_ ?_<;>intro h<;>(try(have h0:=h;simp only[bH]at h)))|refine AC_snd (cF) ?_|refine AC_snd (cB) ?_|refine AC_snd (cN) ?_|fail)<;>(try simp -implicitDefEqProofs (maxSteps:=2000000) (disch:=first|exact dd|fail)[Try.f6,hgt,hu,hA,q4,q20,q56,htq,hti,htd])))
  refine AL_for 25 20 (fun _=>True) rfl trivial (fun i n hlt _ ih => ?_) (fun n _ => ?_)
  ·have hjj:=ih trivial
   have hil:i < f.inodes.length:=by omega
   have hie:=inodeAt_nat hil
   have hi20:i < 20:=by omega
   by_cases hk:f.inodes[i].kind=1
   ·have hi:hasI f (i:Int)=true:=by
     unfold hasI
     rw [hie]
     simp [hk]
     omega
    have hw:writeB f i A s=(if (writeF f i A s).2=0 then (writeF f i A s).1 else f,(writeF f i A s).2):=by
     unfold writeB
     rw [hif,hi]
     rfl
    have cW:=fun a b c=>impl_WriteBytes a b c f i A s hs (by omega) (by omega)
    rw [hw] at cW
    have hwl:IntKind.i64.wrap ((A:Int) + s.length)=((A + s.length:Nat):Int):=by rw [wrap64_in (by omega) (by omega)];omega
    by_cases h0:(writeF f i A s).2=0
    ·have hg:=IsFS.write hs hf hi h0
     obtain ⟨r1,r2,r3⟩:=write_read hs hf hi h0
     simp only [h0,if_true] at cW
     generalize (writeF f i A s).1=g at *
     have hsg:=SmF.of hg
     have cIg:=fun a b c=>impl_IsFS a b c g hsg
     rw [show isFS g=true from tr_iff.2 hg] at cIg
     have g4:=hg.nq
     have g20:=hg.ni
     have g56:=hg.nd
     have gtq:=takeM (f:=cQuota) g4
     have gti:=takeM (f:=cInode) g20
     have gtd:=takeM (f:=cs) g56
     have hkl:(readB f i 0 A).length≤A:=by
      rw [read_all hf hi (by omega),List.length_take]
      omega
     have c1:=fun a b c=>impl_ReadBytes a b c f i 0 A hs (by omega)
     have c2:=fun a b c=>impl_ReadBytes a b c g i A s.length hsg (by omega)
     rw [r1] at c2
     have c3:=fun a b c=>impl_ReadBytes a b c g i 0 A hsg (by omega)
     have c4:=fun a b c=>impl_ReadBytes a b c g i (A + s.length:Nat) 1000 hsg (by decide)
     rw [r3] at c4
     have c5:=fun a b c=>impl_ReadBytes a b c f i (A + s.length:Nat) 1000 hs (by decide)
     generalize readB f i (A + s.length:Nat) 1000=T at *
     generalize readB f i 0 A=K at *
     have cP:=impl_PadTo K A (by omega) (by omega)
     simp only [Int.natCast_add] at hwl c4 c5
     by_cases hse:s = []
     ·subst hse
      simp only [List.length_nil,Int.natCast_zero,Int.add_zero,show ((0:Nat):Int)=0 from rfl] at hwl c2 c4 c5 cW
      (try simp -implicitDefEqProofs (maxSteps:=2000000) (disch:=first|exact dd|fail)[Try.f6,hi20,hil,hk,hwl,q4,q20,q56,htq,hti,htd,g4,g20,g56,gtq,gti,gtd,cInode]);(repeat'((with_reducible first|(refine Br.out ?_ ?_<;>intro h<;>(try(have h0:=h;simp only[bH]at h)))|refine AC_snd (cW _ _ _) ?_|refine AC_snd (c1 _ _ _) ?_|refine AC_snd (cP) ?_|refine AC_snd (c2 _ _ _) ?_|refine AC_snd (cIg _ _ _) ?_|refine AC_snd (c4 _ _ _) ?_|refine AC_snd (c5 _ _ _) ?_|fail)<;>(try simp -implicitDefEqProofs (maxSteps:=2000000) (disch:=first|exact dd|fail)[Try.f6,hi20,hil,hk,hwl,q4,q20,q56,htq,hti,htd,g4,g20,g56,gtq,gti,gtd,cInode])))
      all_goals first | exact hjj
     ·rw [r2 hse] at c3
      (try simp -implicitDefEqProofs (maxSteps:=2000000) (disch:=first|exact dd|fail)[Try.f6,hi20,hil,hk,hse,hwl,q4,q20,q56,htq,hti,htd,g4,g20,g56,gtq,gti,gtd,cInode]);(repeat'((with_reducible first|(refine Br.out ?_ ?_<;>intro h<;>(try(have h0:=h;simp only[bH]at h)))|refine AC_snd (cW _ _ _) ?_|refine AC_snd (c1 _ _ _) ?_|refine AC_snd (cP) ?_|refine AC_snd (c2 _ _ _) ?_|refine AC_snd (cIg _ _ _) ?_|refine AC_snd (c3 _ _ _) ?_|refine AC_snd (c4 _ _ _) ?_|refine AC_snd (c5 _ _ _) ?_|fail)<;>(try simp -implicitDefEqProofs (maxSteps:=2000000) (disch:=first|exact dd|fail)[Try.f6,hi20,hil,hk,hse,hwl,q4,q20,q56,htq,hti,htd,g4,g20,g56,gtq,gti,gtd,cInode])))
      all_goals first | exact hjj
    ·simp only [h0,if_false] at cW
     have cS:=fun a b c a1 b1 c1=>impl_SameFS f f a b c a1 b1 c1 hs
     simp only [decide_true] at cS
     generalize (writeF f i A s).2=E at *
     (try simp -implicitDefEqProofs (maxSteps:=2000000) (disch:=first|exact dd|fail)[Try.f6,hi20,hil,hk,h0,q4,q20,q56,htq,hti,htd,cInode]);(repeat'((with_reducible first|(refine Br.out ?_ ?_<;>intro h<;>(try(have h0:=h;simp only[bH]at h)))|refine AC_snd (cW _ _ _) ?_|refine AC_snd (cS _ _ _ _ _ _) ?_|fail)<;>(try simp -implicitDefEqProofs (maxSteps:=2000000) (disch:=first|exact dd|fail)[Try.f6,hi20,hil,hk,h0,q4,q20,q56,htq,hti,htd,cInode])))
     all_goals first | exact hjj
   ·(try simp -implicitDefEqProofs (maxSteps:=2000000) (disch:=first|exact dd|fail)[Try.f6,hi20,hil,hk,q4,q20,q56,htq,hti,htd,cInode]);(repeat'((with_reducible first|(refine Br.out ?_ ?_<;>intro h<;>(try(have h0:=h;simp only[bH]at h)))|fail)<;>(try simp -implicitDefEqProofs (maxSteps:=2000000) (disch:=first|exact dd|fail)[Try.f6,hi20,hil,hk,q4,q20,q56,htq,hti,htd,cInode])))
    all_goals first | exact hjj
  ·have hr:readB f 0 (-1) 5 = []:=by
    unfold readB
    rw [if_neg (by simp)]
   have cR:=fun a b c=>impl_ReadBytes a b c f 0 (-1) 5 hs (by decide)
   rw [hr] at cR
   (try simp -implicitDefEqProofs (maxSteps:=2000000) (disch:=first|exact dd|fail)[Try.f6,q4,q20,q56,htq,hti,htd]);(repeat'((with_reducible first|(refine Br.out ?_ ?_<;>intro h<;>(try(have h0:=h;simp only[bH]at h)))|refine AC_snd (cI _ _ _) ?_|refine AC_snd (cR _ _ _) ?_|fail)<;>(try simp -implicitDefEqProofs (maxSteps:=2000000) (disch:=first|exact dd|fail)[Try.f6,q4,q20,q56,htq,hti,htd])))
 ·have hgt:(1048576:Int) < code.length:=by omega
  (try simp -implicitDefEqProofs (maxSteps:=2000000) (disch:=first|exact dd|fail)[Try.f6,hgt]);(repeat'((with_reducible first|(refine Br.out ?_ ?_<;>intro h<;>(try(have h0:=h;simp only[bH]at h)))|fail)<;>(try simp -implicitDefEqProofs (maxSteps:=2000000) (disch:=first|exact dd|fail)[Try.f6,hgt])))
end Go.Proofs.Ytfkkfhafijgdaaa
