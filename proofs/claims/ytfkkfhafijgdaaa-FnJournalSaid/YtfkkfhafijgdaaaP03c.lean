import Derived.Test.YtfkkfhafijgdaaaP03b
import Derived.Test.YtfkkfhafijgdaaaP05a
namespace Go.Proofs.Ytfkkfhafijgdaaa
open Go.Fw
set_option linter.unusedVariables false
set_option linter.unusedSimpArgs false
set_option maxHeartbeats 4000000 in
theorem impl_copyDisk (n1 n2:Option Bool) (d:DDisk) (h1:d.secs.length≤1048576) (h2:d.pend.length≤1048576):Snd Try.prog 94 [fDisk n1 n2 d] (rDisk d) [.unk]:=Runs.snd (M:=M) (c:=⟨1,[1,2],[],[]⟩) tok ks mixed Try.func94 (p := []) (by kernel_rfl) (by rfl) (by rfl) <| by
 (try simp -implicitDefEqProofs (disch:=first|exact dd|fail)[Try.f94]);(repeat'((with_reducible first|(refine Br.out ?_ ?_<;>intro h<;>(try(have h0:=h;simp only[bH]at h)))|refine AC_snd (slices_CloneStr _ _ h1) ?_|refine AC_snd (slices_CloneWrite _ _ h2) ?_|fail)<;>(try simp -implicitDefEqProofs (disch:=first|exact dd|fail)[Try.f94])))
set_option maxHeartbeats 4000000 in
theorem impl_write (d:DDisk) (i:Int) (data:Str) (h1:d.secs.length≤1048576) (h2:d.pend.length≤1048576) :
  Snd Try.prog 96 [.wptr [.row 1 (d.secs.map cs), .row 2 (d.pend.map cWrite)], .int .i64 i, .str data] (.bool (writeOK d i data)) [.wptr [.row 1 (d.secs.map cs), .row 2 ((if writeOK d i data then d.pend ++ [⟨i,data⟩] else d.pend).map cWrite)], .unk, .unk]:=Runs.snd (M:=M) (c:=⟨3,[6,30],[],[]⟩) tok ks mixed Try.func96 (p := [0]) (by kernel_rfl) (by rfl) (by rfl) <| by
 (try simp -implicitDefEqProofs (disch:=first|exact dd|fail)[Try.f96]);(repeat'((with_reducible first|(refine Br.out ?_ ?_<;>intro h<;>(try(have h0:=h;simp only[bH]at h)))|fail)<;>(try simp -implicitDefEqProofs (disch:=first|exact dd|fail)[Try.f96])))
 ·simp [writeOK,show ¬ 0≤i by omega]
 ·simp [writeOK,show ¬ i < d.secs.length by omega]
 ·simp [writeOK,show ¬ List.length data=32 by omega]
 ·simp [writeOK,show ¬ d.pend.length < 400 by omega]
 ·simp [writeOK,show 0≤i by omega,show i < d.secs.length by omega,show List.length data=32 by omega,show d.pend.length < 400 by omega]
set_option maxHeartbeats 4000000 in
theorem spec_IsDisk (n1 n2:Option Bool) (d:DDisk) (h1:d.secs.length≤1048576) (h2:d.pend.length≤1048576):Snd Try.prog 163 [fDisk n1 n2 d] (.bool (isDisk d)) [.unk]:=Runs.snd (M:=M) (c:=⟨1,[1,2,4,6,8,9,10,11,16,19,20,21,22,38],[],[(1,[0,1,2,6,8,9,10,11,16,19,20,21,22,38]),(3,[0,1,2,4,8,9,10,11,16,19,20,21,22,38])]⟩) tok ks mixed Try.func163 (p := []) (by kernel_rfl) (by rfl) (by rfl) <| by
 (try simp -implicitDefEqProofs (disch:=first|exact dd|fail)[Try.f163]);(repeat'((with_reducible first|(refine Br.out ?_ ?_<;>intro h<;>(try(have h0:=h;simp only[bH]at h)))|fail)<;>(try simp -implicitDefEqProofs (disch:=first|exact dd|fail)[Try.f163])))
 refine AL_ind (fun i=>d.secs.length - i) (fun i=>⟨[(0,fDisk n1 n2 d),(1, .ptr 128 none 0 0),(2, .bool false),(8, .frz 1 n1 (d.secs.map cs)),(9, .int .i64 d.secs.length),(10, .int .i64 i)],[(128, .box [.frz 1 n1 (d.secs.map cs), .frz 2 n2 (d.pend.map cWrite)])],false⟩)
  (fun i=>i≤d.secs.length∧(d.secs.drop i).all isSec=d.secs.all isSec) 0 rfl ⟨by omega,rfl⟩ ?_
 rintro i n ⟨hi,he⟩ ih
 rcases Nat.lt_or_ge i d.secs.length with hlt | hge
 ·rw [all_drop hlt] at he
  (try simp -implicitDefEqProofs (disch:=first|exact dd|fail)[Try.f163,hlt]);(repeat'((with_reducible first|(refine Br.out ?_ ?_<;>intro h<;>(try(have h0:=h;simp only[bH]at h)))|fail)<;>(try simp -implicitDefEqProofs (disch:=first|exact dd|fail)[Try.f163,hlt])))
  ·have h':List.length d.secs[i]=32:=by omega
   exact ih (i + 1) ⟨by omega,by simpa [isSec,h'] using he⟩ (by omega)
  ·have h':¬ List.length d.secs[i]=32:=by omega
   simp [isDisk,←he,isSec,h']
 ·obtain rfl:i=d.secs.length:=by omega
  simp only [List.drop_length,List.all_nil] at he
  (try simp -implicitDefEqProofs (disch:=first|exact dd|fail)[Try.f163]);(repeat'((with_reducible first|(refine Br.out ?_ ?_<;>intro h<;>(try(have h0:=h;simp only[bH]at h)))|fail)<;>(try simp -implicitDefEqProofs (disch:=first|exact dd|fail)[Try.f163])))
  refine AL_ind (fun i=>d.pend.length - i) (fun i=>⟨[(0,fDisk n1 n2 d),(1, .ptr 128 none 0 0),(2, .bool false),(8, .frz 1 n1 (d.secs.map cs)),(9, .int .i64 d.secs.length),(10, .int .i64 d.secs.length),(19, .frz 2 n2 (d.pend.map cWrite)),(20, .int .i64 d.pend.length),(21, .int .i64 i)],[(128, .box [.frz 1 n1 (d.secs.map cs), .frz 2 n2 (d.pend.map cWrite)])],false⟩)
   (fun i=>i≤d.pend.length∧(d.pend.drop i).all (isPend d.secs.length)=d.pend.all (isPend d.secs.length)) 0 rfl ⟨by omega,rfl⟩ ?_
  rintro i n ⟨hi,hp⟩ ih
  rcases Nat.lt_or_ge i d.pend.length with hlt | hge
  ·rw [all_drop hlt] at hp
   (try simp -implicitDefEqProofs (disch:=first|exact dd|fail)[Try.f163,hlt]);(repeat'((with_reducible first|(refine Br.out ?_ ?_<;>intro h<;>(try(have h0:=h;simp only[bH]at h)))|refine AC_snd (spec_l01In _ _ _) ?_|fail)<;>(try simp -implicitDefEqProofs (disch:=first|exact dd|fail)[Try.f163,hlt])))
   ·have hx:isPend d.secs.length d.pend[i]=false:=by simp only [isPend,Bool.and_eq_false_iff,decide_eq_false_iff_not];omega
    simp [isDisk,←hp,hx]
   ·have hx:isPend d.secs.length d.pend[i]=true:=by simp only [isPend,Bool.and_eq_true,decide_eq_true_eq];omega
    rw [hx,Bool.true_and] at hp
    exact ih (i + 1) ⟨by omega,hp⟩ (by omega)
   ·have hx:isPend d.secs.length d.pend[i]=false:=by simp only [isPend,Bool.and_eq_false_iff,decide_eq_false_iff_not];omega
    simp [isDisk,←hp,hx]
  ·obtain rfl:i=d.pend.length:=by omega
   simp only [List.drop_length,List.all_nil] at hp
   (try simp -implicitDefEqProofs (disch:=first|exact dd|fail)[Try.f163]);(repeat'((with_reducible first|(refine Br.out ?_ ?_<;>intro h<;>(try(have h0:=h;simp only[bH]at h)))|fail)<;>(try simp -implicitDefEqProofs (disch:=first|exact dd|fail)[Try.f163])))
   ·simp [isDisk,←hp,←he,show d.secs.length≤400 by omega]
    omega
   ·simp [isDisk,show ¬ d.secs.length≤400 by omega]
set_option maxHeartbeats 4000000 in
theorem spec_l03Copy (n1 n2:Option Bool) (d:DDisk) (h1:d.secs.length≤1048576) (h2:d.pend.length≤1048576):Snd Try.prog 135 [fDisk n1 n2 d] (rDisk d) [.unk]:=Runs.snd (M:=M) (c:=⟨1,[1,2],[],[]⟩) tok ks mixed Try.func135 (p := []) (by kernel_rfl) (by rfl) (by rfl) <| by
 (try simp -implicitDefEqProofs (disch:=first|exact dd|fail)[Try.f135]);(repeat'((with_reducible first|(refine Br.out ?_ ?_<;>intro h<;>(try(have h0:=h;simp only[bH]at h)))|fail)<;>(try simp -implicitDefEqProofs (disch:=first|exact dd|fail)[Try.f135])))
set_option maxHeartbeats 4000000 in
theorem impl_WriteSector (n1 n2:Option Bool) (d:DDisk) (i:Int) (data:Str) (h1:d.secs.length≤1048576) (h2:d.pend.length≤1048576):Snd Try.prog 37 [fDisk n1 n2 d, .int .i64 i, .str data] (.tup [rDisk (writeD d i data).1, .bool (writeD d i data).2]) [.unk, .unk, .unk]:=Runs.snd (M:=M) (c:=⟨3,[3,6,7,8,19],[],[]⟩) tok ks mixed Try.func37 (p := []) (by kernel_rfl) (by rfl) (by rfl) <| by
 (try simp -implicitDefEqProofs (disch:=first|exact dd|fail)[Try.f37]);(repeat'((with_reducible first|(refine Br.out ?_ ?_<;>intro h<;>(try(have h0:=h;simp only[bH]at h)))|refine AC_snd (impl_copyDisk _ _ d h1 h2) ?_|refine AC_snd (impl_IsDisk _ _ d h1 h2) ?_|refine AC_snd (impl_write d i data h1 h2) ?_|fail)<;>(try simp -implicitDefEqProofs (disch:=first|exact dd|fail)[Try.f37])))
 all_goals simp [writeD, *]
set_option maxHeartbeats 4000000 in
theorem spec_WriteSector (n1 n2:Option Bool) (d:DDisk) (i:Int) (data:Str) (h1:d.secs.length≤1048576) (h2:d.pend.length≤1048576):Snd Try.prog 137 [fDisk n1 n2 d, .int .i64 i, .str data] (.tup [rDisk (writeD d i data).1, .bool (writeD d i data).2]) [.unk, .unk, .unk]:=Runs.snd (M:=M) (c:=⟨3,[3,6,7,8,33],[],[]⟩) tok ks mixed Try.func137 (p := []) (by kernel_rfl) (by rfl) (by rfl) <| by
 (try simp -implicitDefEqProofs (disch:=first|exact dd|fail)[Try.f137]);(repeat'((with_reducible first|(refine Br.out ?_ ?_<;>intro h<;>(try(have h0:=h;simp only[bH]at h)))|refine AC_snd (spec_l03Copy _ _ d h1 h2) ?_|refine AC_snd (spec_IsDisk _ _ d h1 h2) ?_|refine AC_snd (spec_l01In _ _ _) ?_|fail)<;>(try simp -implicitDefEqProofs (disch:=first|exact dd|fail)[Try.f137])))
 ·simp [writeD, *]
 ·have hw:writeOK d i data=false:=by simp only [writeOK,Bool.and_eq_false_iff,decide_eq_false_iff_not];omega
  simp [writeD,hw]
 ·have hw:writeOK d i data=false:=by simp only [writeOK,Bool.and_eq_false_iff,decide_eq_false_iff_not];omega
  simp [writeD,hw]
 ·have hw:writeOK d i data=false:=by simp only [writeOK,Bool.and_eq_false_iff,decide_eq_false_iff_not];omega
  simp [writeD,hw]
 ·have hd:isDisk d=true:=by assumption
  have hp:=isDisk_pend hd
  have hw:writeOK d i data=true:=by simp only [writeOK,Bool.and_eq_true,decide_eq_true_eq];omega
  simp [writeD,hw,hd]
end Go.Proofs.Ytfkkfhafijgdaaa
