import Derived.Test.YtfkkfhafijgdaaaP12
import Derived.Test.YtfkkfhafijgdaaaM16
namespace Go.Proofs.Ytfkkfhafijgdaaa
open Go.Fw
set_option linter.unusedVariables false
set_option linter.unusedSimpArgs false
set_option maxHeartbeats 4000000 in
set_option maxRecDepth 8000 in
theorem impl_isOpen (n1 n2 n3 n4:Option Bool) (s:DSystem) (i:Int) (hs:SmS s):Snd Try.prog 53 [.fptr [.int .i64 s.fs.tick, .frz 2 n1 (s.fs.quotas.map cQuota), .frz 10 n2 (s.fs.inodes.map cInode), .frz 1 n3 (s.fs.data.map cs), .frz 4 n4 (s.procs.map cProc)], .int .i64 i] (.bool (openB s.procs i)) [.unk, .unk]:=Runs.snd (M:=M) (c:=⟨2,[4,6,8,12,13,14,15,19,20,21,22,33],[],[(1,[0,1,4,12,13,14,15,22,33]),(2,[0,1,4,6,12,13,14,15,19,20,21,22,33]),(3,[0,1,4,6,12,13,14,15,19,20,21,22,33])]⟩) tok ks mixed Try.func53 (p := []) (by kernel_rfl) (by rfl) (by rfl) <| by
 have k1:=hs.procs
 (try simp -implicitDefEqProofs (disch:=first|exact dd|fail)[Try.f53]);(repeat'((with_reducible first|(refine Br.out ?_ ?_<;>intro h<;>(try(have h0:=h;simp only[bH]at h)))|fail)<;>(try simp -implicitDefEqProofs (disch:=first|exact dd|fail)[Try.f53])))
 refine AL_for 14 s.procs.length (fun k=>(s.procs.drop k).any (openP i)=openB s.procs i) rfl rfl (fun k n hlt he ih => ?_) (fun n he => ?_)
 ·rw [any_drop hlt] at he
  have k2:=(hs.proc _ (List.getElem_mem hlt)).files
  (try simp -implicitDefEqProofs (disch:=first|exact dd|fail)[Try.f53,hlt,cProc]);(repeat'((with_reducible first|(refine Br.out ?_ ?_<;>intro h<;>(try(have h0:=h;simp only[bH]at h)))|fail)<;>(try simp -implicitDefEqProofs (disch:=first|exact dd|fail)[Try.f53,hlt,cProc])))
  refine AL_for 21 s.procs[k].files.length (fun j=>((s.procs[k].files.drop j).any (openO i) || (s.procs.drop (k + 1)).any (openP i))=openB s.procs i) rfl he (fun j n hjt hj jh => ?_) (fun n hj => ?_)
  ·rw [any_drop hjt] at hj
   (try simp -implicitDefEqProofs (disch:=first|exact dd|fail)[Try.f53,hlt,hjt,cProc]);(repeat'((with_reducible first|(refine Br.out ?_ ?_<;>intro h<;>(try(have h0:=h;simp only[bH]at h)))|fail)<;>(try simp -implicitDefEqProofs (disch:=first|exact dd|fail)[Try.f53,hlt,hjt,cProc])))
   all_goals first
    |(rw [←hj];simp [openO, *];done)
    |(refine jh ?_;rw [←hj];simp [openO, *];done)
  ·rw [List.drop_length] at hj
   (try simp -implicitDefEqProofs (disch:=first|exact dd|fail)[Try.f53]);(repeat'((with_reducible first|(refine Br.out ?_ ?_<;>intro h<;>(try(have h0:=h;simp only[bH]at h)))|fail)<;>(try simp -implicitDefEqProofs (disch:=first|exact dd|fail)[Try.f53])))
   exact ih (by rw [←hj];simp)
 ·rw [List.drop_length] at he
  (try simp -implicitDefEqProofs (disch:=first|exact dd|fail)[Try.f53]);(repeat'((with_reducible first|(refine Br.out ?_ ?_<;>intro h<;>(try(have h0:=h;simp only[bH]at h)))|fail)<;>(try simp -implicitDefEqProofs (disch:=first|exact dd|fail)[Try.f53])))
  simpa using he
set_option maxHeartbeats 8000000 in
set_option maxRecDepth 8000 in
theorem impl_IsSystem (n1 n2 n3 n4:Option Bool) (s:DSystem) (hs:SmS s):Snd Try.prog 12 [fSystem n1 n2 n3 n4 s] (.bool (isSystem s)) [.unk]:=Runs.snd (M:=M) (c:=⟨1,[1,2,4,6,7,8,18,20,21,22,23,35,37,38,39,40,45,82,87,88,89,90,106],[],[(1,[0,1,2,7,8,18,20,21,22,23,35,40,45,82,87,88,89,90,106]),(2,[0,1,2,4,7,8,18,20,21,22,23,35,37,38,39,40,45,82,87,88,89,90,106]),(3,[0,1,2,4,7,8,18,20,21,22,23,35,37,38,39,40,45,82,87,88,89,90,106]),(5,[0,1,2,4,6,18,20,21,22,23,35,37,38,39,40,45,82,87,88,89,90,106])]⟩) tok ks mixed Try.func12 (p := []) (by kernel_rfl) (by rfl) (by rfl) <| by
 have k1:=hs.procs
 (try simp -implicitDefEqProofs (disch:=first|exact dd|fail)[Try.f12]);(repeat'((with_reducible first|(refine Br.out ?_ ?_<;>intro h<;>(try(have h0:=h;simp only[bH]at h)))|refine AC_snd (impl_IsFS _ _ _ s.fs hs.fs) ?_|fail)<;>(try simp -implicitDefEqProofs (disch:=first|exact dd|fail)[Try.f12])))
 all_goals try exact tr_no (fun H:IsSystem s=>tr_not.1 (by assumption) H.fs)
 all_goals try exact tr_no (fun H:IsSystem s=>by have:=H.np;omega)
 have hfs:IsFS s.fs:=tr_iff.1 (by assumption)
 have hni:=hfs.ni
 refine AL_for 22 s.procs.length (fun k=>∀ p ∈ s.procs.take k,ProcOK s.fs p) rfl (by simp) (fun k n hlt he ih => ?_) (fun n he => ?_)
 ·have hmem:=List.getElem_mem hlt
  have hsp:=hs.proc _ hmem
  have hg:=hsp.groups
  have hpk:ProcOK s.fs s.procs[k]→_:=fun H=>ih (all_take_succ hlt he H)
  generalize hx:s.procs[k]=p at *
  (try simp -implicitDefEqProofs (disch:=first|exact dd|fail)[Try.f12,hlt,hx,cProc]);(repeat'((with_reducible first|(refine Br.out ?_ ?_<;>intro h<;>(try(have h0:=h;simp only[bH]at h)))|refine AC_snd (impl_IsCred _ p.cred hg) ?_|fail)<;>(try simp -implicitDefEqProofs (disch:=first|exact dd|fail)[Try.f12,hlt,hx,cProc])))
  all_goals try exact tr_no (fun H:IsSystem s=>tr_not.1 (by assumption) (H.proc _ hmem).1)
  all_goals try exact tr_no (fun H:IsSystem s=>by have:=(H.proc _ hmem).2.1;omega)
  have hcr:IsCred p.cred:=tr_iff.1 (by assumption)
  refine AL_for 39 p.files.length (fun j=>∀ o ∈ p.files.take j,OpenOK s.fs o) rfl (by simp) (fun j n hjt hj jh => ?_) (fun n hj => ?_)
  ·have homem:=List.getElem_mem hjt
   have hok:OpenOK s.fs p.files[j]→_:=fun H=>jh (all_take_succ hjt hj H)
   generalize hox:p.files[j]=o at *
   (try simp -implicitDefEqProofs (disch:=first|exact dd|fail)[Try.f12,hlt,hjt,hx,hox,cProc]);(repeat'((with_reducible first|(refine Br.out ?_ ?_<;>intro h<;>(try(have h0:=h;simp only[bH]at h)))|refine AC_snd (impl_has _ _ _ s.fs _ hni) ?_|refine AC_snd (impl_isDir _ _ _ s.fs _ hni) ?_|fail)<;>(try simp -implicitDefEqProofs (disch:=first|exact dd|fail)[Try.f12,hlt,hjt,hx,hox,cProc])))
   all_goals first
    | exact hok (.inl (open_eq.2 (by assumption)))
    | exact tr_no (fun H:IsSystem s=>by
      rcases (H.proc _ hmem).2.2 _ homem with e | ⟨⟨a1,a2⟩,a3,⟨a4,a5⟩,a6,a7,a8⟩
      ·have:=open_eq.1 e
       omega
      ·first
        | omega
        |(have e1:isDirI s.fs o.inode=true:=by assumption
          simp [isDirI,a6] at e1)
        |(have e1:hasI s.fs o.inode=false:=by assumption
          simp [hasI,a4,a5,a6] at e1))
    |(have hu1:hasI s.fs o.inode=true:=by assumption
      have hu:=hasI_lt hu1
      have h2:¬ (inodeAt s.fs o.inode).kind=2:=by
       intro e
       have h3:isDirI s.fs o.inode=true:=by simp [isDirI,e,hu1]
       exact absurd h3 (by simp [*])
      exact hok (.inr ⟨⟨by omega,by omega⟩,by assumption,⟨hu.1,hu.2.1⟩,kind_file (hfs.sm _ ⟨hu.1,hu.2.1⟩) hu.2.2 h2,by omega,by omega⟩))
  ·have hfo:=all_take_len hj
   (try simp -implicitDefEqProofs (disch:=first|exact dd|fail)[Try.f12]);(repeat'((with_reducible first|(refine Br.out ?_ ?_<;>intro h<;>(try(have h0:=h;simp only[bH]at h)))|fail)<;>(try simp -implicitDefEqProofs (disch:=first|exact dd|fail)[Try.f12])))
   exact hpk ⟨hcr,by omega,hfo⟩
 have hpo:=all_take_len he
 (try simp -implicitDefEqProofs (disch:=first|exact dd|fail)[Try.f12]);(repeat'((with_reducible first|(refine Br.out ?_ ?_<;>intro h<;>(try(have h0:=h;simp only[bH]at h)))|fail)<;>(try simp -implicitDefEqProofs (disch:=first|exact dd|fail)[Try.f12])))
 refine AL_for 89 s.fs.inodes.length (fun k=>∀ j < k,∀ n:DInode,s.fs.inodes[j]? = some n→n.kind=1→n.links=0→openB s.procs j=true) rfl (fun k hk=>absurd hk (Nat.not_lt_zero k)) (fun k n hlt hk ih => ?_) (fun n hk => ?_)
 ·(try simp -implicitDefEqProofs (disch:=first|exact dd|fail)[Try.f12,hlt,cInode]);(repeat'((with_reducible first|(refine Br.out ?_ ?_<;>intro h<;>(try(have h0:=h;simp only[bH]at h)))|refine AC_snd (impl_isOpen _ _ _ _ s _ hs) ?_|fail)<;>(try simp -implicitDefEqProofs (disch:=first|exact dd|fail)[Try.f12,hlt,cInode])))
  all_goals first
   | exact tr_no (fun H:IsSystem s=>absurd (H.links k _ (List.getElem?_eq_getElem hlt) (by assumption) (by assumption)) (by simp [*]))
   | exact ih (lt_succ_all hk (fun n hn e1 e2=>by assumption))
   | exact ih (lt_succ_all hk (fun n hn e1 e2=>by rw [List.getElem?_eq_getElem hlt] at hn;cases hn;first | exact absurd e1 (by assumption) | exact absurd e2 (by assumption)))
 ·(try simp -implicitDefEqProofs (disch:=first|exact dd|fail)[Try.f12]);(repeat'((with_reducible first|(refine Br.out ?_ ?_<;>intro h<;>(try(have h0:=h;simp only[bH]at h)))|fail)<;>(try simp -implicitDefEqProofs (disch:=first|exact dd|fail)[Try.f12])))
  exact tr_yes ⟨hfs,by omega,hpo,fun k n hn=>hk k (List.getElem?_eq_some_iff.1 hn).1 n hn⟩
end Go.Proofs.Ytfkkfhafijgdaaa
