import Derived.Test.YtdbjdpndledcaaaP01b
import Derived.Test.YtdbjdpndledcaaaP04a
import Derived.Test.YtdbjdpndledcaaaP04d
import Derived.Test.YtdbjdpndledcaaaPZ
import Derived.Test.YtdbjdpndledcaaaM07
namespace Go.Proofs.Ytdbjdpndledcaaa
open Go.Fw
set_option linter.unusedVariables false
set_option linter.unusedSimpArgs false
set_option maxHeartbeats 1000000
set_option maxRecDepth 8000
def secC (c:DCur):Str × DCur:=(padTo (drawS c 3).1 32,(drawS c 3).2)
theorem secC_ok {c:DCur} (h:CurOK c):(secC c).1.length=32∧CurOK (secC c).2∧(secC c).2.code=c.code:=by
 have h1:=drawS_len (c:=c) (n:=3) (by decide)
 have h2:=drawS_ok 3 h
 refine ⟨?_,h2.1,h2.2⟩
 unfold secC
 simp only [padTo_len]
 omega
theorem spec_l03Sector (nl:Option Bool) (c:DCur) (hc:CurOK c) (hl:c.code.length≤1048576):Snd Try.prog 26 [wCur nl c] (.str (secC c).1) [wCur nl (secC c).2]:=Runs.snd (M:=M) (c:=⟨1,[2],[],[]⟩) tok ks mixed Try.func26 (p := [0]) (by kernel_rfl) (by rfl) (by rfl) <| by
 have c1:=spec_l02Bytes nl c 3 (by decide) hc hl
 have h1:=drawS_len (c:=c) (n:=3) (by decide)
 have c2:=spec_PadTo (drawS c 3).1 32 (by decide) (by omega)
 unfold secC
 simp only [show ((3:Nat):Int)=3 from rfl,show ((32:Nat):Int)=32 from rfl] at c1 c2
 generalize drawS c 3=x at *
 generalize padTo x.1 32=W at *
 (try simp -implicitDefEqProofs (disch:=first|exact dd|fail)[Try.f26]);(repeat'((with_reducible first|(refine Br.out ?_ ?_<;>intro h<;>(try(have h0:=h;simp only[bH]at h)))|refine AC_snd (c1) ?_|refine AC_snd (c2) ?_|fail)<;>(try simp -implicitDefEqProofs (disch:=first|exact dd|fail)[Try.f26])))
theorem impl_ReadSector (n1 n2:Option Bool) (d:DDisk) (i:Nat) (hd:isDisk d=true) (hi:i < d.secs.length):Snd Try.prog 9 [fDisk n1 n2 d, .int .i64 i] (.str (readD d i)) [.unk, .unk]:=Runs.snd (M:=M) (c:=⟨2,[2,4,18],[],[]⟩) tok ks mixed Try.func9 (p := []) (by kernel_rfl) (by rfl) (by rfl) <| by
 have h:=isDisk_iff.1 hd
 have cI:=impl_IsDisk n1 n2 d (by omega) (by omega)
 rw [hd] at cI
 have cR:=impl_read n1 n2 d i hi (by omega)
 have g1:¬ (d.secs.length:Int)≤i:=by omega
 have g2:¬ d.secs.length≤i:=by omega
 generalize readD d i=R at *
 (try simp -implicitDefEqProofs (disch:=first|exact dd|fail)[Try.f9,g1,g2]);(repeat'((with_reducible first|(refine Br.out ?_ ?_<;>intro h<;>(try(have h0:=h;simp only[bH]at h)))|refine AC_snd (cI) ?_|refine AC_snd (cR) ?_|fail)<;>(try simp -implicitDefEqProofs (disch:=first|exact dd|fail)[Try.f9,g1,g2])))
theorem impl_CrashDisk1 (n1:Option Bool) (K:List Bool) (k:Nat) (hk:k≤1048576) (hK:K.length≤1048576):Snd Try.prog 20 [.int .i64 k, .fptr [.frz 1 n1 (K.map cb)]] (.bool (K.getD k false)) [.unk, .unk]:=Runs.snd (M:=M) (c:=⟨1,[1,3],[],[]⟩) tok ks mixed Try.func20 (p := []) (by kernel_rfl) (by rfl) (by rfl) <| by
 by_cases h:k < K.length
 ·have e:K.getD k false=K[k]:=by simp [h]
  rw [e]
  (try simp -implicitDefEqProofs (disch:=first|exact dd|fail)[Try.f20,h]);(repeat'((with_reducible first|(refine Br.out ?_ ?_<;>intro h<;>(try(have h0:=h;simp only[bH]at h)))|fail)<;>(try simp -implicitDefEqProofs (disch:=first|exact dd|fail)[Try.f20,h])))
 ·have e:K.getD k false=false:=by
   rw [List.getD_eq_getElem?_getD,List.getElem?_eq_none (by omega)]
   rfl
  rw [e]
  (try simp -implicitDefEqProofs (disch:=first|exact dd|fail)[Try.f20,h]);(repeat'((with_reducible first|(refine Br.out ?_ ?_<;>intro h<;>(try(have h0:=h;simp only[bH]at h)))|fail)<;>(try simp -implicitDefEqProofs (disch:=first|exact dd|fail)[Try.f20,h])))
theorem keptN_succ {ws:List DWrite} {K:List Bool} {i:Nat} (h:i < ws.length):keptN ws K (i + 1)=if K.getD i false=true then keptN ws K i ++ [ws[i]] else keptN ws K i:=by
 rw [keptN,show ws.getD i ⟨0,[]⟩=ws[i] by simp [h]]
theorem impl_keepC (n1:Option Bool) (d:DDisk) (K:List Bool) (hd:isDisk d=true) (hK:K.length≤1048576) :
  Snd Try.prog 18 [.wptr [.row 1 (d.secs.map cs), .row 2 (d.pend.map cWrite)], .fn 20 [.fptr [.frz 1 n1 (K.map cb)]]] (.tup []) [.wptr [.row 1 ((storeAll d.secs (keptN d.pend K d.pend.length)).map cs), .row 2 []], .unk]:=Runs.snd (M:=M) (c:=⟨2,[4,5,9,10,11,12,18],[],[(1,[0,1,9,10,11,12,18])]⟩) tok ks mixed Try.func18 (p := [0]) (by kernel_rfl) (by rfl) (by rfl) <| by
 have h1:=isDisk_secs hd
 have h2:=isDisk_pend hd
 have h3:=isDisk_iff.1 hd
 obtain ⟨R,hR⟩:∃ R,R=(storeAll d.secs (keptN d.pend K d.pend.length)).map cs:=⟨_,rfl⟩
 have hRl:R.length=d.secs.length:=by rw [hR,List.length_map,storeAll_len]
 rw [←hR]
 (try simp -implicitDefEqProofs (disch:=first|exact dd|fail)[Try.f18]);(repeat'((with_reducible first|(refine Br.out ?_ ?_<;>intro h<;>(try(have h0:=h;simp only[bH]at h)))|fail)<;>(try simp -implicitDefEqProofs (disch:=first|exact dd|fail)[Try.f18])))
 refine AL_up (fun (i:Nat)=>d.pend.length - i) (fun (i:Nat) => [(11, .int .i64 i)]) (fun (i:Nat) => [(2, .row 1 ((storeAll d.secs (keptN d.pend K i)).map cs) [])]) (fun i=>i≤d.pend.length) 0 (by simp [storeAll,keptN]) (by omega) ?_
 intro i n hi ih
 rcases Nat.lt_or_ge i d.pend.length with hlt | hge
 ·have h4:=h3.2.2.2 d.pend[i] (List.getElem_mem hlt)
  have hj:=ih (i + 1) (by omega) (by omega)
  rw [keptN_succ hlt] at hj
  have h6:=storeAll_len (secs:=d.secs) (ws:=keptN d.pend K i)
  have cF:=impl_CrashDisk1 n1 K i (by omega) hK
  have h7:(storeAll d.secs (keptN d.pend K i ++ [d.pend[i]])).map cs=((storeAll d.secs (keptN d.pend K i)).map cs).set d.pend[i].sec.toNat [.str d.pend[i].data]:=by
   rw [store_snoc,List.map_set]
   rfl
  generalize K.getD i false=b at *
  cases b with
  | true=>
   rw [if_pos rfl,h7] at hj
   generalize storeAll d.secs (keptN d.pend K i)=S at *
   have htk:=takeM (f:=cs) h6
   (try simp -implicitDefEqProofs (disch:=first|exact dd|fail)[Try.f18,hlt,h6,htk,cWrite]);(repeat'((with_reducible first|(refine Br.out ?_ ?_<;>intro h<;>(try(have h0:=h;simp only[bH]at h)))|refine AC_snd (cF) ?_|fail)<;>(try simp -implicitDefEqProofs (disch:=first|exact dd|fail)[Try.f18,hlt,h6,htk,cWrite])))
   all_goals first | exact hj
  | false=>
   rw [if_neg (by decide)] at hj
   generalize storeAll d.secs (keptN d.pend K i)=S at *
   have htk:=takeM (f:=cs) h6
   (try simp -implicitDefEqProofs (disch:=first|exact dd|fail)[Try.f18,hlt,h6,htk,cWrite]);(repeat'((with_reducible first|(refine Br.out ?_ ?_<;>intro h<;>(try(have h0:=h;simp only[bH]at h)))|refine AC_snd (cF) ?_|fail)<;>(try simp -implicitDefEqProofs (disch:=first|exact dd|fail)[Try.f18,hlt,h6,htk,cWrite])))
   all_goals first | exact hj
 ·have he:i=d.pend.length:=by omega
  rw [he,←hR]
  have htk:List.take d.secs.length R=R:=List.take_of_length_le (by omega)
  (try simp -implicitDefEqProofs (disch:=first|exact dd|fail)[Try.f18,hRl,htk]);(repeat'((with_reducible first|(refine Br.out ?_ ?_<;>intro h<;>(try(have h0:=h;simp only[bH]at h)))|fail)<;>(try simp -implicitDefEqProofs (disch:=first|exact dd|fail)[Try.f18,hRl,htk])))
theorem impl_CrashDisk (n1 n2 n3:Option Bool) (d:DDisk) (K:List Bool) (hd:isDisk d=true) (hK:K.length≤1048576):Snd Try.prog 8 [fDisk n1 n2 d, .frz 1 n3 (K.map cb)] (rDisk (crashD d K)) [.unk, .unk]:=Runs.snd (M:=M) (c:=⟨2,[2,3,4,5,9],[],[]⟩) tok ks mixed Try.func8 (p := []) (by kernel_rfl) (by rfl) (by rfl) <| by
 have h:=isDisk_iff.1 hd
 have cI:=impl_IsDisk n1 n2 d (by omega) (by omega)
 rw [hd] at cI
 have cD:=impl_copyDisk n1 n2 d (by omega) (by omega)
 have cK:=fun a=>impl_keepC a d K hd hK
 rw [crashD,if_pos hd]
 have hSl:=storeAll_len (secs:=d.secs) (ws:=keptN d.pend K d.pend.length)
 generalize storeAll d.secs (keptN d.pend K d.pend.length)=S at *
 have t1:=takeM (f:=cs) hSl
 have t2:=takeM (f:=cs) (rfl:d.secs.length=d.secs.length)
 have t3:=takeM (f:=cWrite) (rfl:d.pend.length=d.pend.length)
 simp only [rDisk,List.map_nil] at cD ⊢
 (try simp -implicitDefEqProofs (disch:=first|exact dd|fail)[Try.f8,t1,t2,t3,hSl]);(repeat'((with_reducible first|(refine Br.out ?_ ?_<;>intro h<;>(try(have h0:=h;simp only[bH]at h)))|refine AC_snd (cI) ?_|refine AC_snd (cD) ?_|refine AC_snd (cK _) ?_|fail)<;>(try simp -implicitDefEqProofs (disch:=first|exact dd|fail)[Try.f8,t1,t2,t3,hSl])))
end Go.Proofs.Ytdbjdpndledcaaa
