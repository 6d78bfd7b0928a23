import Derived.Test.YtdbjdpndledcaaaP03f
import Derived.Test.YtdbjdpndledcaaaPN
namespace Go.Proofs.Ytdbjdpndledcaaa
open Go.Fw
set_option linter.unusedVariables false
set_option linter.unusedSimpArgs false
set_option maxHeartbeats 4000000
set_option maxRecDepth 8000
theorem kept_none {ws:List DWrite}:∀ i,keptN ws [] i = []
 | 0=>rfl
 | i + 1=>by rw [keptN,if_neg (by simp),kept_none i]
theorem kept_all {ws:List DWrite} {n:Nat}:∀ i,i≤ws.length→i≤n→keptN ws (List.replicate n true) i=ws.take i
 | 0,_,_=>by simp [keptN]
 | i + 1,h,hn=>by
  have hl:i < ws.length:=by omega
  have hb:(List.replicate n true).getD i false=true:=by
   rw [List.getD_eq_getElem?_getD,List.getElem?_replicate,if_pos (by omega)]
   rfl
  rw [keptN_succ hl,if_pos hb,kept_all i (by omega) (by omega),List.take_succ_eq_append_getElem hl]
theorem raw_row {s:Str}:List.take 32 (s.map cu)++List.drop (min s.length 32) (List.replicate 32 [AV.int .u8 0])=(padTo (s.take 32) 32).map cu:=by
 rw [padTo,List.map_append,List.map_take,List.drop_replicate,List.map_replicate,List.length_take,Nat.min_comm]
 rfl
theorem gS_at {S:List Str} {i:Nat} (h:i < S.length):gS S i=S[i]:=by unfold gS;simp [h]
theorem laws_FnDisk (n1:Option Bool) (code:Str) (hlen:code.length≤maxLen):Snd Try.prog 3 [.frz 1 n1 (code.map cu)] (.bool true) [.unk]:=Runs.snd (M:=M) (c:=⟨1,[2,3,4,5,6,7,8,9,10,11,14,37,38,39,46,47,48,67],[],[(3,[0,2,3,4,5,6,7,8,9,10,14,37,38,39,46,47,48,67])]⟩) tok ks mixed Try.func3 (p := []) (by kernel_rfl) (by rfl) (by rfl) <| by
 by_cases hl:code.length≤1048576
 ·have hgt:¬ (1048576:Int) < code.length:=by omega
  have cD:=spec_MakeDisk n1 code hl
  have cB:=spec_MakeBytes n1 code 3 (by decide) hl
  obtain ⟨hd,hm,hp⟩:=mkD_ok code
  have hsl:=strC_len code 3
  generalize strC code 3=s at *
  generalize mkD code=d at *
  obtain ⟨S,P⟩:=d
  simp only at hm hp
  have hdk:=isDisk_iff.1 hd
  simp only at hdk
  obtain ⟨m,hmS⟩:∃ m,m=S.length:=⟨_,rfl⟩
  have r73:S.length=m:=hmS.symm
  obtain ⟨data,hdata⟩:∃ data,data=padTo (s.take 32) 32:=⟨_,rfl⟩
  have hdl:data.length=32:=by rw [hdata,padTo_len,List.length_take];omega
  have hrow:=raw_row (s:=s)
  rw [←hdata,show List.replicate 32 [AV.int .u8 0] = [[AV.int .u8 0],[AV.int .u8 0],[AV.int .u8 0],[AV.int .u8 0],[AV.int .u8 0],[AV.int .u8 0],[AV.int .u8 0],[AV.int .u8 0],[AV.int .u8 0],[AV.int .u8 0],[AV.int .u8 0],[AV.int .u8 0],[AV.int .u8 0],[AV.int .u8 0],[AV.int .u8 0],[AV.int .u8 0],[AV.int .u8 0],[AV.int .u8 0],[AV.int .u8 0],[AV.int .u8 0],[AV.int .u8 0],[AV.int .u8 0],[AV.int .u8 0],[AV.int .u8 0],[AV.int .u8 0],[AV.int .u8 0],[AV.int .u8 0],[AV.int .u8 0],[AV.int .u8 0],[AV.int .u8 0],[AV.int .u8 0],[AV.int .u8 0]] from rfl] at hrow
  have hflat:Flat (s.map cu):=by
   intro x hx a ha
   obtain ⟨b,-,rfl⟩:=List.mem_map.1 hx
   simp only [cu,List.mem_singleton] at ha
   rw [ha]
   rfl
  have htdat:=takeM (f:=cu) hdl
  have hb2:=b2l data
  have hl2:=l2b s
  -- the write
  have hw:writeD ⟨S,P⟩ 0 data=(⟨S,P ++ [⟨0,data⟩]⟩,true):=by
   unfold writeD
   have hok:writeOK ⟨S,P⟩ 0 data=true:=by
    unfold writeOK
    simp only [Bool.and_eq_true,decide_eq_true_eq]
    exact ⟨⟨⟨by decide,by omega⟩,hdl⟩,by omega⟩
   rw [hd,hok]
   rfl
  have cW:=fun a b=>impl_WriteSector a b ⟨S,P⟩ 0 data (by simp only;omega) (by simp only;omega)
  rw [hw] at cW
  have hx:isDisk ⟨S,P ++ [⟨0,data⟩]⟩=true:=by
   have h1:=writeD_disk (i:=0) (s:=data) hd
   rw [hw] at h1
   exact h1
  obtain ⟨X,hX⟩:∃ X,X=P ++ [(⟨0,data⟩:DWrite)]:=⟨_,rfl⟩
  rw [←hX] at hx cW
  have hxk:=isDisk_iff.1 hx
  simp only at hxk
  have hXl:X.length=P.length + 1:=by rw [hX];simp
  obtain ⟨k,hk⟩:∃ k,k=P.length + 1:=⟨_,rfl⟩
  rw [←hk] at hXl
  have cF:=fun a b=>impl_FlushDisk a b ⟨S,X⟩ hx
  have cC:=fun a b c=>impl_CrashDisk a b c ⟨S,X⟩ [] hx (by simp)
  have cC2:=fun a b c=>impl_CrashDisk a b c ⟨S,X⟩ (List.replicate k true) hx (by simp;omega)
  unfold crashD at cC cC2
  rw [if_pos hx] at cC cC2
  simp only [kept_none] at cC
  rw [kept_all _ (by simp only;omega) (by simp only;omega)] at cC2
  simp only [List.take_length] at cC2
  have hst:storeAll S []=S:=rfl
  rw [hst] at cC
  have hget:=fun i (hi:i < S.length)=>store_get (ws:=X) (S:=S) hi fun w hw=>(hxk.2.2.2 w hw).1
  have hFl:=storeAll_len (secs:=S) (ws:=X)
  have hF2:=storeAll_secs (secs:=S) (ws:=X) hxk.2.2.1 fun w hw=>(hxk.2.2.2 w hw).2.2
  simp only at cF
  generalize storeAll S X=F at *
  have hfd:isDisk ⟨F,[]⟩=true:=isDisk_iff.2 ⟨by simp only;omega,by simp,hF2,by simp⟩
  have hcd:isDisk ⟨S,[]⟩=true:=isDisk_iff.2 ⟨by simp only;omega,by simp,hdk.2.2.1,by simp⟩
  have cI:=fun a b=>impl_IsDisk a b ⟨S,P⟩ (by simp only;omega) (by simp only;omega)
  rw [hd] at cI
  have cE:=fun a b c e=>impl_SameDisk a b c e ⟨F,[]⟩ ⟨F,[]⟩ (by simp only;omega) (by simp)
  simp only [decide_true] at cE
  have cRf:=fun (i:Nat) (hi:i < S.length)=>fun a b=>impl_ReadSector a b ⟨F,[]⟩ i hfd (by simp only;omega)
  have cRx:=fun (i:Nat) (hi:i < S.length)=>fun a b=>impl_ReadSector a b ⟨S,X⟩ i hx hi
  have cRc:=fun (i:Nat) (hi:i < S.length)=>fun a b=>impl_ReadSector a b ⟨S,[]⟩ i hcd hi
  have hrf:∀ i,i < S.length→readD ⟨F,[]⟩ i=readD ⟨S,X⟩ i:=fun i hi=>by
   rw [readD_gS rfl,hget i hi]
   rfl
  have hrc:∀ i,(hi:i < S.length)→readD ⟨S,[]⟩ i=S[i]:=fun i hi=>by rw [readD_gS rfl,gS_at hi]
  have hx0:readD ⟨S,X⟩ 0=data:=by
   unfold readD
   simp only
   rw [hX,lastW_snoc,if_pos (show (0:Int)=((0:Nat):Int) from rfl)]
   rfl
  have cR0:=cRx 0 (by omega)
  rw [hx0] at cR0
  rw [r73] at hFl
  have htS:=takeM (f:=cs) r73
  have htF:=takeM (f:=cs) hFl
  have htX:=takeM (f:=cWrite) hXl
  have htP:=takeM (f:=cWrite) (rfl:P.length=P.length)
  have htK:=takeM (f:=cb) (xs:=List.replicate k true) (n:=k) (by simp)
  simp only [fDisk,rDisk,List.map_nil,show ((3:Nat):Int)=3 from rfl,show ((0:Nat):Int)=0 from rfl,List.map_replicate,cb] at cD cW cF cC cC2 cI cE cRf cRx cRc cR0 cB htK
  have cC0:∀ a b,Snd Try.prog 8 [.agg [.frz 1 a (S.map cs), .frz 2 b (X.map cWrite)], .frz 0 (some true) []] (.agg [.row 1 (S.map cs), .row 2 []]) [.unk, .unk]:=fun a b=>Snd.nil_arg (pre := [_]) (post := []) (sz:=1) (nl:=none) (by simp) (cC a b none)
  have hkr:(List.replicate k [AV.bool true]).length=k:=by simp
  have hmp:(0:Int) < m:=by omega
  have hm0:¬ m=0:=by omega
  (try simp -implicitDefEqProofs (maxSteps:=2000000) (disch:=first|exact dd|fail)[Try.f3,hgt,r73,hl2,hrow,hb2,hflat,htdat,hXl,hFl,htS,htF,htX,htP]);(repeat'((with_reducible first|(refine Br.out ?_ ?_<;>intro h<;>(try(have h0:=h;simp only[bH]at h)))|refine AC_snd (cD) ?_|refine AC_snd (cB) ?_|refine AC_snd (cW _ _) ?_|refine AC_snd (cF _ _) ?_|refine AC_snd (cC0 _ _) ?_|fail)<;>(try simp -implicitDefEqProofs (maxSteps:=2000000) (disch:=first|exact dd|fail)[Try.f3,hgt,r73,hl2,hrow,hb2,hflat,htdat,hXl,hFl,htS,htF,htX,htP])))
  refine AL_fors (σ:=Unit) 38 k (fun i _ => [(10, .ref 1280 none 1 0 i (some false))]) (fun i _ => [(1280, .row 1 (List.replicate i [AV.bool true]) [])]) (fun _ _=>True) () (by simp) trivial (fun i _ n hlt _ ih => ?_) (fun _ n _ => ?_)
  ·have hj:=ih () trivial
   rw [List.replicate_succ'] at hj
   have hrl:(List.replicate i [AV.bool true]).length=i:=by simp
   have hrt:List.take i (List.replicate i [AV.bool true])=List.replicate i [AV.bool true]:=List.take_of_length_le (by omega)
   generalize List.replicate i [AV.bool true]=L at *
   have h30:i≤1073741823:=by omega
   (try simp -implicitDefEqProofs (maxSteps:=2000000) (disch:=first|exact dd|fail)[Try.f3,hlt,hrl,hrt,h30]);(repeat'((with_reducible first|(refine Br.out ?_ ?_<;>intro h<;>(try(have h0:=h;simp only[bH]at h)))|fail)<;>(try simp -implicitDefEqProofs (maxSteps:=2000000) (disch:=first|exact dd|fail)[Try.f3,hlt,hrl,hrt,h30])))
   all_goals first | exact hj
  ·generalize List.replicate k [AV.bool true]=L at *
   (try simp -implicitDefEqProofs (maxSteps:=2000000) (disch:=first|exact dd|fail)[Try.f3,r73,hkr]);(repeat'((with_reducible first|(refine Br.out ?_ ?_<;>intro h<;>(try(have h0:=h;simp only[bH]at h)))|fail)<;>(try simp -implicitDefEqProofs (maxSteps:=2000000) (disch:=first|exact dd|fail)[Try.f3,r73,hkr])))
   refine AL_for 47 m (fun _=>True) rfl trivial (fun i n7 hlt _ jh => ?_) (fun n7 _ => ?_)
   ·have hjj:=jh trivial
    have hiS:i < S.length:=by omega
    have a1:=cRf i hiS
    have a2:=cRx i hiS
    have a3:=cRc i hiS
    rw [hrf i hiS] at a1
    rw [hrc i hiS] at a3
    generalize readD ⟨S,X⟩ i=RX at *
    (try simp -implicitDefEqProofs (maxSteps:=2000000) (disch:=first|exact dd|fail)[Try.f3,hlt,hiS,r73,hXl,hFl,htS,htF,htX,htP]);(repeat'((with_reducible first|(refine Br.out ?_ ?_<;>intro h<;>(try(have h0:=h;simp only[bH]at h)))|refine AC_snd (a1 _ _) ?_|refine AC_snd (a2 _ _) ?_|refine AC_snd (a3 _ _) ?_|fail)<;>(try simp -implicitDefEqProofs (maxSteps:=2000000) (disch:=first|exact dd|fail)[Try.f3,hlt,hiS,r73,hXl,hFl,htS,htF,htX,htP])))
    all_goals first | exact hjj
   ·(try simp -implicitDefEqProofs (maxSteps:=2000000) (disch:=first|exact dd|fail)[Try.f3,r73,hXl,hFl,htS,htF,htX,htP,hkr,htK,hmp,hm0]);(repeat'((with_reducible first|(refine Br.out ?_ ?_<;>intro h<;>(try(have h0:=h;simp only[bH]at h)))|refine AC_snd (cI _ _) ?_|refine AC_snd (cR0 _ _) ?_|refine AC_snd (cC2 _ _ _) ?_|refine AC_snd (cE _ _ _ _) ?_|fail)<;>(try simp -implicitDefEqProofs (maxSteps:=2000000) (disch:=first|exact dd|fail)[Try.f3,r73,hXl,hFl,htS,htF,htX,htP,hkr,htK,hmp,hm0])))
    all_goals first | omega
 ·have hgt:(1048576:Int) < code.length:=by omega
  (try simp -implicitDefEqProofs (maxSteps:=2000000) (disch:=first|exact dd|fail)[Try.f3,hgt]);(repeat'((with_reducible first|(refine Br.out ?_ ?_<;>intro h<;>(try(have h0:=h;simp only[bH]at h)))|fail)<;>(try simp -implicitDefEqProofs (maxSteps:=2000000) (disch:=first|exact dd|fail)[Try.f3,hgt])))
end Go.Proofs.Ytdbjdpndledcaaa
