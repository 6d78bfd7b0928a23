import Derived.Test.YtfkkfhafijgdaaaP04d
namespace Go.Proofs.Ytfkkfhafijgdaaa
open Go.Fw
set_option linter.unusedVariables false
set_option linter.unusedSimpArgs false
set_option maxHeartbeats 1000000
set_option maxRecDepth 8000
theorem impl_CommitSector (n1:Option Bool) (q:Int) (l:List DWrite) (hl:l.length≤1048576) (hd:∀ w ∈ l,w.data.length≤32):Snd Try.prog 38 [.int .i64 q, .frz 2 n1 (l.map cWrite)] (.str (commitS q l)) [.unk, .unk]:=Runs.snd (M:=M) (c:=⟨2,[4,5,7,18,19,20,21,22],[],[(1,[0,1,4,5,18,19,20,21,22])]⟩) tok ks mixed Try.func38 (p := []) (by kernel_rfl) (by rfl) (by rfl) <| by
 have cL:=impl_listed n1 l hl
 by_cases hc:(0≤q∧q≤1000000000)∧listedB l=true
 ·have hR:commitS q l=padTo ([74,82,78,76]++putN q 4++putN l.length 2++putN (checkSum (commitT l)) 4) 32:=by rw [commitS,if_pos hc]
  rw [hR]
  obtain ⟨⟨h1,h2⟩,h3⟩:=hc
  rw [h3] at cL
  have hll:l.length≤64:=by
   unfold listedB at h3
   simp only [Bool.and_eq_true,decide_eq_true_eq] at h3
   exact h3.2
  have g1:¬ q < 0:=by omega
  have g2:¬ (1000000000:Int) < q:=by omega
  have hct:=fun i=>commitT_len (l:=l.take i) (n:=32) (fun w hw=>hd w (List.mem_of_mem_take hw))
  have p1:=putN_len q 4
  have p2:=putN_len (l.length:Int) 2
  have p3:=putN_len (checkSum (commitT l)) 4
  have cP:=impl_PadTo ([74,82,78,76]++putN q 4++putN l.length 2++putN (checkSum (commitT l)) 4) 32 (by decide) (by simp only [List.length_append,List.length_cons,List.length_nil];omega)
  simp only [List.cons_append,List.nil_append,List.append_assoc,show ((32:Nat):Int)=32 from rfl] at cP ⊢
  have c1:=impl_PutNumber q 4 (by decide) (by decide)
  have c2:=impl_PutNumber l.length 2 (by decide) (by decide)
  have c3:=impl_PutNumber (checkSum (commitT l)) 4 (by decide) (by decide)
  have cC:=impl_ChecksumOf (commitT l) (by have:=hct l.length;rw [List.take_length] at this;omega)
  simp only [show ((4:Nat):Int)=4 from rfl,show ((2:Nat):Int)=2 from rfl] at c1 c2 c3
  (try simp -implicitDefEqProofs (disch:=first|exact dd|fail)[Try.f38,g1,g2]);(repeat'((with_reducible first|(refine Br.out ?_ ?_<;>intro h<;>(try(have h0:=h;simp only[bH]at h)))|refine AC_snd (cL) ?_|fail)<;>(try simp -implicitDefEqProofs (disch:=first|exact dd|fail)[Try.f38,g1,g2])))
  refine AL_fors (σ:=Unit) 21 l.length (fun i _ => [(5, .str (commitT (l.take i)))]) (fun _ _ => []) (fun _ _=>True) () (by simp [commitT]) trivial (fun i _ n hlt _ ih => ?_) (fun _ n _ => ?_)
  ·have hj:=ih () trivial
   rw [commitT_take hlt] at hj
   have hlen:=hct i
   have hdi:=hd _ (List.getElem_mem hlt)
   have pi:=putN_len l[i].sec 2
   have cS:=impl_PutNumber l[i].sec 2 (by decide) (by decide)
   simp only [show ((2:Nat):Int)=2 from rfl] at cS
   rw [List.length_take] at hlen
   generalize commitT (l.take i)=C at *
   have b1:(putN l[i].sec 2).length + l[i].data.length≤1073741824:=by omega
   have b2:C.length + ((putN l[i].sec 2).length + l[i].data.length)≤1073741824:=by omega
   (try simp -implicitDefEqProofs (disch:=first|exact dd|fail)[Try.f38,hlt,b1,b2,cWrite]);(repeat'((with_reducible first|(refine Br.out ?_ ?_<;>intro h<;>(try(have h0:=h;simp only[bH]at h)))|refine AC_snd (cS) ?_|fail)<;>(try simp -implicitDefEqProofs (disch:=first|exact dd|fail)[Try.f38,hlt,b1,b2,cWrite])))
   all_goals first | exact hj
  ·rw [List.take_length]
   generalize commitT l=C at *
   have b1:(putN q 4).length + 1 + 1 + 1 + 1≤1073741824:=by omega
   have b2:(putN q 4).length + (putN l.length 2).length + 1 + 1 + 1 + 1≤1073741824:=by omega
   have b3:(putN q 4).length + ((putN l.length 2).length + (putN (checkSum C) 4).length) + 1 + 1 + 1 + 1≤1073741824:=by omega
   (try simp -implicitDefEqProofs (disch:=first|exact dd|fail)[Try.f38,b1,b2,b3]);(repeat'((with_reducible first|(refine Br.out ?_ ?_<;>intro h<;>(try(have h0:=h;simp only[bH]at h)))|refine AC_snd (c1) ?_|refine AC_snd (c2) ?_|refine AC_snd (cC) ?_|refine AC_snd (c3) ?_|refine AC_snd (cP) ?_|fail)<;>(try simp -implicitDefEqProofs (disch:=first|exact dd|fail)[Try.f38,b1,b2,b3])))
 ·have hR:commitS q l = []:=by rw [commitS,if_neg hc]
  rw [hR]
  cases hb:listedB l with
  | true=>
   rw [hb] at cL hc
   have g:q < 0∨1000000000 < q:=by
    rcases Int.lt_or_le q 0 with h | h
    ·exact .inl h
    ·exact .inr (by
      rcases Int.lt_or_le 1000000000 q with h2 | h2
      ·exact h2
      ·exact absurd ⟨⟨h,h2⟩,rfl⟩ hc)
   (try simp -implicitDefEqProofs (disch:=first|exact dd|fail)[Try.f38]);(repeat'((with_reducible first|(refine Br.out ?_ ?_<;>intro h<;>(try(have h0:=h;simp only[bH]at h)))|refine AC_snd (cL) ?_|fail)<;>(try simp -implicitDefEqProofs (disch:=first|exact dd|fail)[Try.f38])))
   all_goals first | (exfalso;omega)
  | false=>
   rw [hb] at cL
   (try simp -implicitDefEqProofs (disch:=first|exact dd|fail)[Try.f38]);(repeat'((with_reducible first|(refine Br.out ?_ ?_<;>intro h<;>(try(have h0:=h;simp only[bH]at h)))|refine AC_snd (cL) ?_|fail)<;>(try simp -implicitDefEqProofs (disch:=first|exact dd|fail)[Try.f38])))
theorem spec_CommitSector (n1:Option Bool) (q:Int) (l:List DWrite) (hl:l.length≤1048576) (hd:∀ w ∈ l,w.data.length≤32):Snd Try.prog 168 [.int .i64 q, .frz 2 n1 (l.map cWrite)] (.str (commitS q l)) [.unk, .unk]:=Runs.snd (M:=M) (c:=⟨2,[4,5,7,15,16,17,18,19],[],[(1,[0,1,4,5,15,16,17,18,19])]⟩) tok ks mixed Try.func168 (p := []) (by kernel_rfl) (by rfl) (by rfl) <| by
 have cL:=spec_l04Ok n1 l hl
 by_cases hc:(0≤q∧q≤1000000000)∧listedB l=true
 ·have hR:commitS q l=padTo ([74,82,78,76]++putN q 4++putN l.length 2++putN (checkSum (commitT l)) 4) 32:=by rw [commitS,if_pos hc]
  rw [hR]
  obtain ⟨⟨h1,h2⟩,h3⟩:=hc
  rw [h3] at cL
  have hll:l.length≤64:=by
   unfold listedB at h3
   simp only [Bool.and_eq_true,decide_eq_true_eq] at h3
   exact h3.2
  have hct:=fun i=>commitT_len (l:=l.take i) (n:=32) (fun w hw=>hd w (List.mem_of_mem_take hw))
  have p1:=putN_len q 4
  have p2:=putN_len (l.length:Int) 2
  have p3:=putN_len (checkSum (commitT l)) 4
  have cP:=spec_PadTo ([74,82,78,76]++putN q 4++putN l.length 2++putN (checkSum (commitT l)) 4) 32 (by decide) (by simp only [List.length_append,List.length_cons,List.length_nil];omega)
  simp only [List.cons_append,List.nil_append,List.append_assoc,show ((32:Nat):Int)=32 from rfl] at cP ⊢
  have c1:=spec_PutNumber q 4 (by decide) (by decide)
  have c2:=spec_PutNumber l.length 2 (by decide) (by decide)
  have c3:=spec_PutNumber (checkSum (commitT l)) 4 (by decide) (by decide)
  have cC:=spec_ChecksumOf (commitT l) (by have:=hct l.length;rw [List.take_length] at this;omega)
  simp only [show ((4:Nat):Int)=4 from rfl,show ((2:Nat):Int)=2 from rfl] at c1 c2 c3
  (try simp -implicitDefEqProofs (disch:=first|exact dd|fail)[Try.f168,h1,h2]);(repeat'((with_reducible first|(refine Br.out ?_ ?_<;>intro h<;>(try(have h0:=h;simp only[bH]at h)))|refine AC_snd (cL) ?_|refine AC_snd (spec_l01In _ _ _) ?_|fail)<;>(try simp -implicitDefEqProofs (disch:=first|exact dd|fail)[Try.f168,h1,h2])))
  refine AL_fors (σ:=Unit) 18 l.length (fun i _ => [(5, .str (commitT (l.take i)))]) (fun _ _ => []) (fun _ _=>True) () (by simp [commitT]) trivial (fun i _ n hlt _ ih => ?_) (fun _ n _ => ?_)
  ·have hj:=ih () trivial
   rw [commitT_take hlt] at hj
   have hlen:=hct i
   have hdi:=hd _ (List.getElem_mem hlt)
   have pi:=putN_len l[i].sec 2
   have cS:=spec_PutNumber l[i].sec 2 (by decide) (by decide)
   simp only [show ((2:Nat):Int)=2 from rfl] at cS
   rw [List.length_take] at hlen
   generalize commitT (l.take i)=C at *
   have b1:C.length + (putN l[i].sec 2).length≤1073741824:=by omega
   have b2:C.length + ((putN l[i].sec 2).length + l[i].data.length)≤1073741824:=by omega
   have b3:C.length + (putN l[i].sec 2).length + l[i].data.length≤1073741824:=by omega
   (try simp -implicitDefEqProofs (disch:=first|exact dd|fail)[Try.f168,hlt,b1,b2,b3,cWrite]);(repeat'((with_reducible first|(refine Br.out ?_ ?_<;>intro h<;>(try(have h0:=h;simp only[bH]at h)))|refine AC_snd (cS) ?_|fail)<;>(try simp -implicitDefEqProofs (disch:=first|exact dd|fail)[Try.f168,hlt,b1,b2,b3,cWrite])))
   all_goals first | exact hj
  ·rw [List.take_length]
   generalize commitT l=C at *
   have b1:(putN q 4).length + 1 + 1 + 1 + 1≤1073741824:=by omega
   have b2:(putN q 4).length + (putN l.length 2).length + 1 + 1 + 1 + 1≤1073741824:=by omega
   have b3:(putN q 4).length + ((putN l.length 2).length + (putN (checkSum C) 4).length) + 1 + 1 + 1 + 1≤1073741824:=by omega
   (try simp -implicitDefEqProofs (disch:=first|exact dd|fail)[Try.f168,b1,b2,b3]);(repeat'((with_reducible first|(refine Br.out ?_ ?_<;>intro h<;>(try(have h0:=h;simp only[bH]at h)))|refine AC_snd (c1) ?_|refine AC_snd (c2) ?_|refine AC_snd (cC) ?_|refine AC_snd (c3) ?_|refine AC_snd (cP) ?_|fail)<;>(try simp -implicitDefEqProofs (disch:=first|exact dd|fail)[Try.f168,b1,b2,b3])))
 ·have hR:commitS q l = []:=by rw [commitS,if_neg hc]
  rw [hR]
  cases hb:listedB l with
  | true=>
   rw [hb] at cL hc
   have g:q < 0∨1000000000 < q:=by
    rcases Int.lt_or_le q 0 with h | h
    ·exact .inl h
    ·exact .inr (by
      rcases Int.lt_or_le 1000000000 q with h2 | h2
      ·exact h2
      ·exact absurd ⟨⟨h,h2⟩,rfl⟩ hc)
   (try simp -implicitDefEqProofs (disch:=first|exact dd|fail)[Try.f168]);(repeat'((with_reducible first|(refine Br.out ?_ ?_<;>intro h<;>(try(have h0:=h;simp only[bH]at h)))|refine AC_snd (cL) ?_|refine AC_snd (spec_l01In _ _ _) ?_|fail)<;>(try simp -implicitDefEqProofs (disch:=first|exact dd|fail)[Try.f168])))
   all_goals first | (exfalso;omega)
  | false=>
   rw [hb] at cL
   (try simp -implicitDefEqProofs (disch:=first|exact dd|fail)[Try.f168]);(repeat'((with_reducible first|(refine Br.out ?_ ?_<;>intro h<;>(try(have h0:=h;simp only[bH]at h)))|refine AC_snd (cL) ?_|refine AC_snd (spec_l01In _ _ _) ?_|fail)<;>(try simp -implicitDefEqProofs (disch:=first|exact dd|fail)[Try.f168])))
end Go.Proofs.Ytfkkfhafijgdaaa
