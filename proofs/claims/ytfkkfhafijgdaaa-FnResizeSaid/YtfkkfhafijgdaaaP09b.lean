import Derived.Test.YtfkkfhafijgdaaaP12
namespace Go.Proofs.Ytfkkfhafijgdaaa
open Go.Fw
set_option linter.unusedVariables false
set_option linter.unusedSimpArgs false
set_option maxHeartbeats 4000000 in
set_option maxRecDepth 8000 in
theorem impl_ReadBytes (n1 n2 n3:Option Bool) (f:DFS) (i a n:Int) (hs:SmF f) (hn:n≤9223372036854775807):Snd Try.prog 19 [fFS n1 n2 n3 f, .int .i64 i, .int .i64 a, .int .i64 n] (.str (readB f i a n)) [.unk, .unk, .unk, .unk]:=Runs.snd (M:=M) (c:=⟨4,[4,8,9,21,27],[],[]⟩) tok ks mixed Try.func19 (p := []) (by kernel_rfl) (by rfl) (by rfl) <| by
 by_cases hu:(isFS f && hasI f i)=true
 ·have hu2:=Bool.and_eq_true_iff.1 hu
  have hf:IsFS f:=tr_iff.1 hu2.1
  have hi:=hasI_lt hu2.2
  have hcl:((contentN f.data (inodeAt f i)).length:Int)≤256:=by
   obtain ⟨k,hk⟩:=Int.eq_ofNat_of_zero_le hi.1
   have hlt:k < f.inodes.length:=by rw [hf.ni];omega
   rw [hk,inodeAt_nat hlt,contentN_len hf (List.getElem_mem hlt)]
   exact (contentN_size hf (List.getElem_mem hlt)).2.1
  have hc:=impl_content n1 n2 n3 f i hf ⟨hi.1,hi.2.1⟩
  have hr:0≤a→0≤n→readB f i a n=((contentN f.data (inodeAt f i)).drop a.toNat).take n.toNat:=fun h1 h2=>by
   rw [readB,if_pos (by simp [hu2.1,hu2.2,h1,h2])]
  have hr0:¬ (0≤a∧0≤n)→readB f i a n = []:=fun h1=>by
   rw [readB,if_neg (by simp [hu2.1,hu2.2];omega)]
  generalize contentN f.data (inodeAt f i)=t at *
  (try simp -implicitDefEqProofs (disch:=first|exact dd|fail)[Try.f19,hu]);(repeat'((with_reducible first|(refine Br.out ?_ ?_<;>intro h<;>(try(have h0:=h;simp only[bH]at h)))|refine AC_snd (impl_inUse _ _ _ f _ hs) ?_|refine AC_snd (hc) ?_|fail)<;>(try simp -implicitDefEqProofs (disch:=first|exact dd|fail)[Try.f19,hu])))
  ·exact (hr0 (by omega)).symm ▸ rfl
  ·exact (hr0 (by omega)).symm ▸ rfl
  ·rw [hr (by omega) (by omega),List.drop_of_length_le (by omega)]
   simp
  ·rw [hr (by omega) (by omega)]
   split
   ·rw [List.take_of_length_le (by rw [List.length_drop];omega),List.take_of_length_le (by rw [List.length_drop];omega)]
   ·congr 1
    omega
 ·have hu':(isFS f && hasI f i)=false:=by simpa using hu
  (try simp -implicitDefEqProofs (disch:=first|exact dd|fail)[Try.f19,hu']);(repeat'((with_reducible first|(refine Br.out ?_ ?_<;>intro h<;>(try(have h0:=h;simp only[bH]at h)))|refine AC_snd (impl_inUse _ _ _ f _ hs) ?_|fail)<;>(try simp -implicitDefEqProofs (disch:=first|exact dd|fail)[Try.f19,hu'])))
  rw [readB,if_neg (by simp only [hu'];simp)]
end Go.Proofs.Ytfkkfhafijgdaaa
