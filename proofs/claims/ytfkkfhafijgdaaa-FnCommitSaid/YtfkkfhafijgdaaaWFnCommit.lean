import Derived.Test.YtfkkfhafijgdaaaP04l
namespace Go.Proofs.Ytfkkfhafijgdaaa
open Go.Fw
set_option linter.unusedVariables false
set_option linter.unusedSimpArgs false
set_option maxHeartbeats 4000000
set_option maxRecDepth 8000
theorem write_ok {D:List Str} {P:List DWrite} {w:DWrite} (h:DOk ⟨D,P⟩) (hw:WOk w) (hl:P.length≤50):writeD ⟨D,P⟩ w.sec w.data=(⟨D,P ++ [w]⟩,true):=by
 unfold writeD
 have hok:writeOK ⟨D,P⟩ w.sec w.data=true:=by
  unfold writeOK
  have h73:=h.len
  simp only at h73
  simp only [Bool.and_eq_true,decide_eq_true_eq,h73]
  exact ⟨⟨⟨hw.1,hw.2.1⟩,hw.2.2⟩,by omega⟩
 rw [h.disk,hok]
 rfl
theorem laws_FnCommit (n1:Option Bool) (code:Str) (hlen:code.length≤maxLen):Snd Try.prog 8 [.frz 1 n1 (code.map cu)] (.bool true) [.unk]:=Runs.snd (M:=M) (c:=⟨1,[2,3,4,6,7,8,9,10,11,12,13,14,15,18,24,25,26,27,40,72,73,74,75,76,85],[],[(1,[0,2,3,4,9,10,11,12,13,14,15,18,24,25,26,27,40,72,73,74,75,76,85]),(3,[0,2,3,4,6,7,8,9,10,11,12,13,18,24,25,26,27,40,72,73,74,75,76,85])]⟩) tok ks mixed Try.func8 (p := []) (by kernel_rfl) (by rfl) (by rfl) <| by
 by_cases hl:code.length≤1048576
 ·have hgt:¬ (1048576:Int) < code.length:=by omega
  have cD:=spec_MakeJournalDisk n1 code hl
  have cT:=spec_MakeTxn n1 code hl
  obtain ⟨d1,d2,d3⟩:=jdC_ok code
  have ht:=txC_ok code
  generalize jdC code=D at *
  generalize txC code=l at *
  have h4:=ht.len
  have hjl:=jW_len (l:=l)
  have hcw:=commit_len (q:=9) (by decide) ht
  have hjw:∀ w ∈ jW l,WOk w:=fun w hw=>by
   have:=jW_sec ht hw
   exact ⟨by omega,by omega,this.2⟩
  have cJ:=fun a=>impl_JournalWrites a l ht
  have x0:∀ k,DOk ⟨D,(jW l).take k⟩:=fun k=>⟨d1,d2,fun w hw=>hjw w (List.mem_of_mem_take hw),by simp only [List.length_take];omega⟩
  have cC:=fun a=>impl_CommitSector a 9 l (by omega) (fun w hw=>by rw [ht.data w hw];exact Nat.le_refl _)
  have htl:=takeM (f:=cWrite) (rfl:l.length=l.length)
  have htd:=takeM (f:=cs) d1
  have hmain:=commit_main (q:=9) d1 d2 (by decide) ht
  simp only [rDisk,List.map_nil] at cD
  (try simp -implicitDefEqProofs (disch:=first|exact dd|fail)[Try.f8,hgt,d1,htl,htd]);(repeat'((with_reducible first|(refine Br.out ?_ ?_<;>intro h<;>(try(have h0:=h;simp only[bH]at h)))|refine AC_snd (cD) ?_|refine AC_snd (cT) ?_|refine AC_snd (cJ _) ?_|fail)<;>(try simp -implicitDefEqProofs (disch:=first|exact dd|fail)[Try.f8,hgt,d1,htl,htd])))
  refine AL_fors (σ:=Unit) 26 (l.length + 1) (fun _ _ => []) (fun j _ => [(384, .box [.ref 386 none 1 0 73 none, .ref 388 none 2 0 j none]),(388, .row 2 (((jW l).take j).map cWrite) [])]) (fun _ _=>True) () (by simp [hjl]) trivial (fun i _ n hlt _ ih => ?_) (fun _ n _ => ?_)
  ·have hj:=ih () trivial
   have hil:i < (jW l).length:=by omega
   have hw:=hjw _ (List.getElem_mem hil)
   have hwo:=write_ok (x0 i) hw (by simp only [List.length_take];omega)
   rw [←List.take_succ_eq_append_getElem hil] at hwo
   have cW:=fun a b=>impl_WriteSector a b ⟨D,(jW l).take i⟩ (jW l)[i].sec (jW l)[i].data (by simp only;omega) (by simp only [List.length_take];omega)
   rw [hwo] at cW
   simp only [fDisk,rDisk] at cW
   have hl1:((jW l).take i).length=i:=by rw [List.length_take];omega
   have hl2:((jW l).take (i + 1)).length=i + 1:=by rw [List.length_take];omega
   have ht1:=takeM (f:=cWrite) hl1
   have ht2:=takeM (f:=cWrite) hl2
   generalize (jW l).take i=A at *
   generalize (jW l).take (i + 1)=B at *
   (try simp -implicitDefEqProofs (disch:=first|exact dd|fail)[Try.f8,hil,d1,htd,hl1,hl2,ht1,ht2,cWrite]);(repeat'((with_reducible first|(refine Br.out ?_ ?_<;>intro h<;>(try(have h0:=h;simp only[bH]at h)))|refine AC_snd (cW _ _) ?_|fail)<;>(try simp -implicitDefEqProofs (disch:=first|exact dd|fail)[Try.f8,hil,d1,htd,hl1,hl2,ht1,ht2,cWrite])))
   all_goals first | exact hj
  ·rw [List.take_of_length_le (by omega)]
   have hwo:=write_ok (w:=⟨1,commitS 9 l⟩) (x0 (l.length + 1)) ⟨show (0:Int)≤1 by decide,show (1:Int) < 73 by decide,hcw⟩ (by simp only [List.length_take];omega)
   rw [List.take_of_length_le (by omega)] at hwo
   have cW:=fun a b=>impl_WriteSector a b ⟨D,jW l⟩ 1 (commitS 9 l) (by simp only;omega) (by simp only;omega)
   simp only at hwo
   rw [hwo] at cW
   have cR:=fun a b=>impl_ReadJournal a b ⟨D,jW l ++ [⟨1,commitS 9 l⟩]⟩ (by simp only;omega) (by simp only [List.length_append,List.length_singleton];omega)
   obtain ⟨r1,r2,r3⟩:=j_some hmain
   rw [r1,r2,r3] at cR
   have hl2:(jW l ++ [(⟨1,commitS 9 l⟩:DWrite)]).length=l.length + 2:=by simp [hjl]
   have ht1:=takeM (f:=cWrite) hjl
   have ht2:=takeM (f:=cWrite) hl2
   simp only [fDisk,rDisk] at cW cR
   generalize jW l ++ [(⟨1,commitS 9 l⟩:DWrite)]=E at *
   generalize jW l=J at *
   generalize commitS 9 l=C at *
   (try simp -implicitDefEqProofs (disch:=first|exact dd|fail)[Try.f8,d1,htd,hjl,hl2,ht1,ht2,htl]);(repeat'((with_reducible first|(refine Br.out ?_ ?_<;>intro h<;>(try(have h0:=h;simp only[bH]at h)))|refine AC_snd (cC _) ?_|refine AC_snd (cW _ _) ?_|refine AC_snd (cR _ _) ?_|fail)<;>(try simp -implicitDefEqProofs (disch:=first|exact dd|fail)[Try.f8,d1,htd,hjl,hl2,ht1,ht2,htl])))
   refine AL_for 75 l.length (fun _=>True) rfl trivial (fun k n7 hk7 _ jh => ?_) (fun n7 _ => ?_)
   ·have hkk:=jh trivial
    (try simp -implicitDefEqProofs (disch:=first|exact dd|fail)[Try.f8,hk7,cWrite]);(repeat'((with_reducible first|(refine Br.out ?_ ?_<;>intro h<;>(try(have h0:=h;simp only[bH]at h)))|fail)<;>(try simp -implicitDefEqProofs (disch:=first|exact dd|fail)[Try.f8,hk7,cWrite])))
    all_goals first | exact hkk
   ·(try simp -implicitDefEqProofs (disch:=first|exact dd|fail)[Try.f8]);(repeat'((with_reducible first|(refine Br.out ?_ ?_<;>intro h<;>(try(have h0:=h;simp only[bH]at h)))|fail)<;>(try simp -implicitDefEqProofs (disch:=first|exact dd|fail)[Try.f8])))
 ·have hgt:(1048576:Int) < code.length:=by omega
  (try simp -implicitDefEqProofs (disch:=first|exact dd|fail)[Try.f8,hgt]);(repeat'((with_reducible first|(refine Br.out ?_ ?_<;>intro h<;>(try(have h0:=h;simp only[bH]at h)))|fail)<;>(try simp -implicitDefEqProofs (disch:=first|exact dd|fail)[Try.f8,hgt])))
end Go.Proofs.Ytfkkfhafijgdaaa
