import Derived.Test.YtfkkfhafijgdaaaP04a
namespace Go.Proofs.Ytfkkfhafijgdaaa
open Go.Fw
set_option linter.unusedVariables false
set_option linter.unusedSimpArgs false
set_option maxHeartbeats 4000000 in
theorem spec_l03Store_all (n1 n2:Option Bool) (d:DDisk) (hd:isDisk d=true):Snd Try.prog 169 [fDisk n1 n2 d, .frz 0 (some true) [], .bool true] (rDisk ⟨storeAll d.secs d.pend,[]⟩) [.unk, .unk, .unk]:=Runs.snd (M:=M) (c:=⟨3,[3,6,7,8,9,16,17,18,19,35],[],[(1,[0,1,2,3,6,7,16,17,18,19,35])]⟩) tok ks mixed Try.func169 (p := []) (by kernel_rfl) (by rfl) (by rfl) <| by
 have h1:=isDisk_secs hd
 have h2:=isDisk_pend hd
 have h3:=isDisk_iff.1 hd
 (try simp -implicitDefEqProofs (disch:=first|exact dd|fail)[Try.f169]);(repeat'((with_reducible first|(refine Br.out ?_ ?_<;>intro h<;>(try(have h0:=h;simp only[bH]at h)))|fail)<;>(try simp -implicitDefEqProofs (disch:=first|exact dd|fail)[Try.f169])))
 refine AL_ind (fun i=>d.pend.length - i) (fun i=>⟨[(0,fDisk n1 n2 d),(1, .frz 0 (some true) []),(2, .bool true),(3, .ptr 384 none 0 0),(6, .ptr 768 none 0 0),(7, .ptr 896 none 0 0),(16, .frz 2 n2 (d.pend.map cWrite)),(17, .int .i64 d.pend.length),(18, .int .i64 i)],
   [(384, .box [.frz 1 n1 (d.secs.map cs), .frz 2 n2 (d.pend.map cWrite)]),(768, .box [.frz 1 (some true) [], .frz 2 (some true) []]),(896, .box [.ref 898 none 1 0 d.secs.length (some false), .frz 2 (some true) []]),(898, .row 1 ((storeAll d.secs (d.pend.take i)).map cs) [])],false⟩)
  (fun i=>i≤d.pend.length) 0 (by simp [storeAll]) (by omega) ?_
 intro i n hi ih
 rcases Nat.lt_or_ge i d.pend.length with hlt | hge
 ·have h4:=h3.2.2.2 d.pend[i] (List.getElem_mem hlt)
  have h5:((storeAll d.secs (d.pend.take i)).map cs).set d.pend[i].sec.toNat [.str d.pend[i].data]=(storeAll d.secs (d.pend.take (i + 1))).map cs:=by
   rw [storeAll_take hlt,List.map_set]
   rfl
  have h6:=storeAll_len (secs:=d.secs) (ws:=d.pend.take i)
  (try simp -implicitDefEqProofs (disch:=first|exact dd|fail)[Try.f169,hlt,h5]);(repeat'((with_reducible first|(refine Br.out ?_ ?_<;>intro h<;>(try(have h0:=h;simp only[bH]at h)))|fail)<;>(try simp -implicitDefEqProofs (disch:=first|exact dd|fail)[Try.f169,hlt,h5])))
  exact ih (i + 1) (by omega) (by omega)
 ·obtain rfl:i=d.pend.length:=by omega
  (try simp -implicitDefEqProofs (disch:=first|exact dd|fail)[Try.f169,storeAll_len]);(repeat'((with_reducible first|(refine Br.out ?_ ?_<;>intro h<;>(try(have h0:=h;simp only[bH]at h)))|fail)<;>(try simp -implicitDefEqProofs (disch:=first|exact dd|fail)[Try.f169,storeAll_len])))
set_option maxHeartbeats 4000000 in
theorem spec_FlushDisk (n1 n2:Option Bool) (d:DDisk) (h1:d.secs.length≤1048576) (h2:d.pend.length≤1048576):Snd Try.prog 136 [fDisk n1 n2 d] (rDisk (flushD d)) [.unk]:=Runs.snd (M:=M) (c:=⟨1,[1,2,5],[],[]⟩) tok ks mixed Try.func136 (p := []) (by kernel_rfl) (by rfl) (by rfl) <| by
 (try simp -implicitDefEqProofs (disch:=first|exact dd|fail)[Try.f136]);(repeat'((with_reducible first|(refine Br.out ?_ ?_<;>intro h<;>(try(have h0:=h;simp only[bH]at h)))|refine AC_snd (spec_IsDisk _ _ d h1 h2) ?_|refine AC_snd (spec_l03Copy _ _ d h1 h2) ?_|refine AC_snd (spec_l03Store_all _ _ d (by assumption)) ?_|fail)<;>(try simp -implicitDefEqProofs (disch:=first|exact dd|fail)[Try.f136])))
 all_goals simp [flushD, *]
set_option maxHeartbeats 4000000 in
theorem impl_RunSteps (n1 n2 n3:Option Bool) (d:DDisk) (l:List DStep) (n:Int) (h1:d.secs.length≤1048576) (h2:d.pend.length≤1048576) (h3:l.length≤1048576):Snd Try.prog 43 [fDisk n1 n2 d, .frz 3 n3 (l.map cStep), .int .i64 n] (rDisk (runSt d l n)) [.unk, .unk, .unk]:=Runs.snd (M:=M) (c:=⟨3,[3,6,7,9,14,22,23,24,25,29],[],[(1,[0,1,2,3,6,7,14,22,23,24,25,29])]⟩) tok ks mixed Try.func43 (p := []) (by kernel_rfl) (by rfl) (by rfl) <| by
 obtain ⟨m,hm⟩:∃ m:Nat,m=min n.toNat l.length:=⟨_,rfl⟩
 have hm1:(if 0 < if (l.length:Int) < n then (l.length:Int) else n then if (l.length:Int) < n then (l.length:Int) else n else 0)=(m:Int):=by
  split<;>split<;>omega
 have hm2:m≤l.length:=by omega
 obtain ⟨L,hL⟩:∃ L,L=l.take m:=⟨_,rfl⟩
 have hm3:List.take m (List.map cStep l)=L.map cStep:=by rw [hL,List.map_take]
 have hlen:L.length=m:=by rw [hL];simp;omega
 have hr:runSt d l n=L.foldl stepD d:=by
  rw [runSt,hL,hm]
  congr 1
  rcases Nat.le_total n.toNat l.length with h | h
  ·rw [Nat.min_eq_left h]
  ·rw [Nat.min_eq_right h,List.take_of_length_le h,List.take_of_length_le (Nat.le_refl _)]
 (try simp -implicitDefEqProofs (disch:=first|exact dd|fail)[Try.f43,hm1,hm2,hm3]);(repeat'((with_reducible first|(refine Br.out ?_ ?_<;>intro h<;>(try(have h0:=h;simp only[bH]at h)))|refine AC_snd (impl_copyDisk _ _ d h1 h2) ?_|refine AC_snd (impl_IsDisk _ _ d h1 h2) ?_|fail)<;>(try simp -implicitDefEqProofs (disch:=first|exact dd|fail)[Try.f43,hm1,hm2,hm3])))
 ·have hd:isDisk d=true:=by assumption
  refine AL_ind (fun i=>L.length - i) (fun i=>⟨[(0,fDisk n1 n2 d),(1, .frz 3 n3 (l.map cStep)),(2, .int .i64 n),(3, .ptr 384 none 0 0),(6, .ptr 768 none 0 0),(7, .ptr 896 none 0 0),(22, .frz 3 n3 (L.map cStep)),(23, .int .i64 L.length),(24, .int .i64 i)],
    [(384, .box [.frz 1 n1 (d.secs.map cs), .frz 2 n2 (d.pend.map cWrite)]),(768, .box [.frz 1 (some true) [], .frz 2 (some true) []]),(896, .box [.ref 898 none 1 0 ((L.take i).foldl stepD d).secs.length none, .ref 900 none 2 0 ((L.take i).foldl stepD d).pend.length none]),(898, .row 1 (((L.take i).foldl stepD d).secs.map cs) []),(900, .row 2 (((L.take i).foldl stepD d).pend.map cWrite) [])],false⟩)
   (fun i=>i≤L.length) 0 rfl (by omega) ?_
  intro i n hi ih
  rcases Nat.lt_or_ge i L.length with hlt | hge
  ·have hst:=foldl_take (f:=stepD) (a:=d) hlt
   generalize he:(L.take i).foldl stepD d=e at *
   have hde:isDisk e=true:=by rw [←he];exact runSt_disk hd
   have e1:=isDisk_secs hde
   have e2:=isDisk_pend hde
   (try simp -implicitDefEqProofs (disch:=first|exact dd|fail)[Try.f43,hlt]);(repeat'((with_reducible first|(refine Br.out ?_ ?_<;>intro h<;>(try(have h0:=h;simp only[bH]at h)))|refine AC_snd (impl_keepAll e hde) ?_|refine AC_snd (impl_write e _ _ (by omega) (by omega)) ?_|fail)<;>(try simp -implicitDefEqProofs (disch:=first|exact dd|fail)[Try.f43,hlt])))
   ·have:=ih (i + 1) (by omega) (by omega)
    rw [hst,stepD_flush hde (by assumption)] at this
    exact this
   ·have:=ih (i + 1) (by omega) (by omega)
    rw [hst,stepD_write hde (by assumption)] at this
    exact this
  ·obtain rfl:i=L.length:=by omega
   (try simp -implicitDefEqProofs (disch:=first|exact dd|fail)[Try.f43,hr]);(repeat'((with_reducible first|(refine Br.out ?_ ?_<;>intro h<;>(try(have h0:=h;simp only[bH]at h)))|fail)<;>(try simp -implicitDefEqProofs (disch:=first|exact dd|fail)[Try.f43,hr])))
 ·rw [hr,runSt_not (by assumption)]
  simp
end Go.Proofs.Ytfkkfhafijgdaaa
