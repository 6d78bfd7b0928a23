import Derived.Test.YtgopfdninbknpaaGreatP12
import Derived.Test.YtgopfdninbknpaaGreatM16
namespace Go.Proofs.YtgopfdninbknpaaGreat
open Go.Fw
set_option linter.unusedVariables false
set_option linter.unusedSimpArgs false
set_option maxHeartbeats 4000000 in
set_option maxRecDepth 8000 in
theorem spec_l16Open (n1 n2 n3:Option Bool) (f:DFS) (o:DOpen) (hf:IsFS f):Snd Tryz.prog 198 [fFS n1 n2 n3 f, .agg [.int .i64 o.inode, .int .i64 o.pos, .int .i64 o.flags]] (.bool (tr (OpenOK f o))) [.unk, .unk]:=Runs.snd (M:=M) (c:=⟨2,[2,3,4,7],[],[]⟩) tok ks mixed Tryz.func198 (p := []) (by kernel_rfl) (by rfl) (by rfl) <| by
 have hn:=hf.ni
 by_cases hi:0≤o.inode∧o.inode < 20
 ·obtain ⟨k,hk⟩:=Int.eq_ofNat_of_zero_le hi.1
  have hlt:k < f.inodes.length:=by omega
  have he:=inodeAt_nat hlt
  rw [←hk] at he
  (try simp -implicitDefEqProofs (disch:=first|exact dd|fail)[Tryz.f198,hlt,hk,cInode]);(repeat'((with_reducible first|(refine Br.out ?_ ?_<;>intro h<;>(try(have h0:=h;simp only[bH]at h)))|refine AC_snd (spec_l01In _ _ _) ?_|fail)<;>(try simp -implicitDefEqProofs (disch:=first|exact dd|fail)[Tryz.f198,hlt,hk,cInode])))
  all_goals first
   | exact tr_no (by simp only [OpenOK,open_eq,he];omega)
   |(rw [Bool.eq_iff_iff];simp only [tr_iff,OpenOK,open_eq,he,Bool.and_eq_true,decide_eq_true_eq];omega)
 ·(try simp -implicitDefEqProofs (disch:=first|exact dd|fail)[Tryz.f198]);(repeat'((with_reducible first|(refine Br.out ?_ ?_<;>intro h<;>(try(have h0:=h;simp only[bH]at h)))|refine AC_snd (spec_l01In _ _ _) ?_|fail)<;>(try simp -implicitDefEqProofs (disch:=first|exact dd|fail)[Tryz.f198])))
  all_goals first
   | omega
   | exact tr_no (by simp only [OpenOK,open_eq];omega)
   |(rw [Bool.eq_iff_iff];simp only [tr_iff,OpenOK,open_eq,Bool.and_eq_true,decide_eq_true_eq];omega)
set_option maxHeartbeats 4000000 in
set_option maxRecDepth 8000 in
theorem spec_l16Busy (n1 n2 n3 n4:Option Bool) (s:DSystem) (hs:SmS s):Snd Tryz.prog 199 [fSystem n1 n2 n3 n4 s] (.row 1 ((busyT s.procs 20).map ci)) [.unk]:=Runs.snd (M:=M) (c:=⟨1,[1,2,3,4,5,7,9,12,16,17,18,19,23,24,25,26,43],[],[(1,[0,1,2,3,4,12,19,26,43]),(2,[0,1,2,3,4,5,12,16,17,18,19,26,43]),(3,[0,1,2,3,4,5,12,16,17,18,19,26,43]),(4,[0,1,2,3,4,5,7,12,16,17,18,19,23,24,25,26,43]),(5,[0,1,2,3,4,5,7,12,16,17,18,19,23,24,25,26,43])]⟩) tok ks mixed Tryz.func199 (p := []) (by kernel_rfl) (by rfl) (by rfl) <| by
 have k1:=hs.procs
 (try simp -implicitDefEqProofs (disch:=first|exact dd|fail)[Tryz.f199]);(repeat'((with_reducible first|(refine Br.out ?_ ?_<;>intro h<;>(try(have h0:=h;simp only[bH]at h)))|fail)<;>(try simp -implicitDefEqProofs (disch:=first|exact dd|fail)[Tryz.f199])))
 refine AL_fors (σ:=Unit) 4 20 (fun i _ => [(3, .ref 384 none 1 0 (busyT s.procs i).length (some false))]) (fun i _ => [(384, .row 1 ((busyT s.procs i).map ci) [])]) (fun _ _=>True) () rfl trivial (fun i _ n hlt _ ih => ?_) (fun _ n _ => ?_)
 ·have hr:busyT s.procs (i + 1)=if openB s.procs i then busyT s.procs i ++ [(i:Int)] else busyT s.procs i:=rfl
  have hrl:=busyT_len (ps:=s.procs) (k:=i)
  have hi:=ih () trivial
  (try simp -implicitDefEqProofs (disch:=first|exact dd|fail)[Tryz.f199]);(repeat'((with_reducible first|(refine Br.out ?_ ?_<;>intro h<;>(try(have h0:=h;simp only[bH]at h)))|fail)<;>(try simp -implicitDefEqProofs (disch:=first|exact dd|fail)[Tryz.f199])))
  refine AL_fors (σ:=Bool) 18 s.procs.length (fun _ b => [(5, .bool b)]) (fun _ _ => []) (fun k b=>(b || (s.procs.drop k).any (openP i))=openB s.procs i) false rfl (by simp [openB]) (fun k b n hkt he kh => ?_) (fun b n he => ?_)
  ·rw [any_drop hkt] at he
   have k2:=(hs.proc _ (List.getElem_mem hkt)).files
   (try simp -implicitDefEqProofs (disch:=first|exact dd|fail)[Tryz.f199,hkt,cProc]);(repeat'((with_reducible first|(refine Br.out ?_ ?_<;>intro h<;>(try(have h0:=h;simp only[bH]at h)))|fail)<;>(try simp -implicitDefEqProofs (disch:=first|exact dd|fail)[Tryz.f199,hkt,cProc])))
   refine AL_fors (σ:=Bool) 25 s.procs[k].files.length (fun _ b => [(5, .bool b)]) (fun _ _ => []) (fun j b=>(b || ((s.procs[k].files.drop j).any (openO i) || (s.procs.drop (k + 1)).any (openP i)))=openB s.procs i) b rfl he (fun j b n hjt hj jh => ?_) (fun b n hj => ?_)
   ·rw [any_drop hjt] at hj
    (try simp -implicitDefEqProofs (disch:=first|exact dd|fail)[Tryz.f199,hkt,hjt,cProc]);(repeat'((with_reducible first|(refine Br.out ?_ ?_<;>intro h<;>(try(have h0:=h;simp only[bH]at h)))|fail)<;>(try simp -implicitDefEqProofs (disch:=first|exact dd|fail)[Tryz.f199,hkt,hjt,cProc])))
    all_goals (refine jh _ ?_;rw [←hj];simp [openO,Bool.or_assoc, *])
   ·rw [List.drop_length] at hj
    (try simp -implicitDefEqProofs (disch:=first|exact dd|fail)[Tryz.f199]);(repeat'((with_reducible first|(refine Br.out ?_ ?_<;>intro h<;>(try(have h0:=h;simp only[bH]at h)))|fail)<;>(try simp -implicitDefEqProofs (disch:=first|exact dd|fail)[Tryz.f199])))
    exact kh b (by rw [←hj];simp)
  ·rw [List.drop_length] at he
   have hb:openB s.procs i=b:=by rw [←he];simp
   rw [hb] at hr
   (try simp -implicitDefEqProofs (disch:=first|exact dd|fail)[Tryz.f199]);(repeat'((with_reducible first|(refine Br.out ?_ ?_<;>intro h<;>(try(have h0:=h;simp only[bH]at h)))|fail)<;>(try simp -implicitDefEqProofs (disch:=first|exact dd|fail)[Tryz.f199])))
   all_goals first
    |(rw [if_pos (by assumption)] at hr;simp [hr,ci] at hi;exact hi)
    |(rw [if_neg (by simp [*])] at hr;simp [hr,ci] at hi;exact hi)
 ·(try simp -implicitDefEqProofs (disch:=first|exact dd|fail)[Tryz.f199]);(repeat'((with_reducible first|(refine Br.out ?_ ?_<;>intro h<;>(try(have h0:=h;simp only[bH]at h)))|fail)<;>(try simp -implicitDefEqProofs (disch:=first|exact dd|fail)[Tryz.f199])))
set_option maxHeartbeats 8000000 in
set_option maxRecDepth 8000 in
theorem spec_IsSystem (n1 n2 n3 n4:Option Bool) (s:DSystem) (hs:SmS s):Snd Tryz.prog 120 [fSystem n1 n2 n3 n4 s] (.bool (isSystem s)) [.unk]:=Runs.snd (M:=M) (c:=⟨1,[1,2,4,6,7,8,9,19,21,22,23,24,36,38,39,40,41,48,55,56,57,58,75],[],[(1,[0,1,2,7,8,9,19,21,22,23,24,36,41,48,55,56,57,58,75]),(2,[0,1,2,4,7,8,9,19,21,22,23,24,36,38,39,40,41,48,55,56,57,58,75]),(3,[0,1,2,4,7,8,9,19,21,22,23,24,36,38,39,40,41,48,55,56,57,58,75]),(5,[0,1,2,4,6,7,19,21,22,23,24,36,38,39,40,41,48,55,56,57,58,75])]⟩) tok ks mixed Tryz.func120 (p := []) (by kernel_rfl) (by rfl) (by rfl) <| by
 have k1:=hs.procs
 (try simp -implicitDefEqProofs (disch:=first|exact dd|fail)[Tryz.f120]);(repeat'((with_reducible first|(refine Br.out ?_ ?_<;>intro h<;>(try(have h0:=h;simp only[bH]at h)))|refine AC_snd (spec_IsFS _ _ _ s.fs hs.fs) ?_|fail)<;>(try simp -implicitDefEqProofs (disch:=first|exact dd|fail)[Tryz.f120])))
 all_goals try exact tr_no (fun H:IsSystem s=>tr_not.1 (by assumption) H.fs)
 all_goals try exact tr_no (fun H:IsSystem s=>by have:=H.np;omega)
 have hfs:IsFS s.fs:=tr_iff.1 (by assumption)
 have hni:=hfs.ni
 refine AL_for 23 s.procs.length (fun k=>∀ p ∈ s.procs.take k,ProcOK s.fs p) rfl (by simp) (fun k n hlt he ih => ?_) (fun n he => ?_)
 ·have hmem:=List.getElem_mem hlt
  have hsp:=hs.proc _ hmem
  have hg:=hsp.groups
  have hpk:ProcOK s.fs s.procs[k]→_:=fun H=>ih (all_take_succ hlt he H)
  generalize hx:s.procs[k]=p at *
  (try simp -implicitDefEqProofs (disch:=first|exact dd|fail)[Tryz.f120,hlt,hx,cProc]);(repeat'((with_reducible first|(refine Br.out ?_ ?_<;>intro h<;>(try(have h0:=h;simp only[bH]at h)))|refine AC_snd (spec_IsCred _ p.cred hg) ?_|fail)<;>(try simp -implicitDefEqProofs (disch:=first|exact dd|fail)[Tryz.f120,hlt,hx,cProc])))
  all_goals try exact tr_no (fun H:IsSystem s=>tr_not.1 (by assumption) (H.proc _ hmem).1)
  all_goals try exact tr_no (fun H:IsSystem s=>by have:=(H.proc _ hmem).2.1;omega)
  have hcr:IsCred p.cred:=tr_iff.1 (by assumption)
  refine AL_for 40 p.files.length (fun j=>∀ o ∈ p.files.take j,OpenOK s.fs o) rfl (by simp) (fun j n hjt hj jh => ?_) (fun n hj => ?_)
  ·have homem:=List.getElem_mem hjt
   have hok:OpenOK s.fs p.files[j]→_:=fun H=>jh (all_take_succ hjt hj H)
   generalize hox:p.files[j]=o at *
   (try simp -implicitDefEqProofs (disch:=first|exact dd|fail)[Tryz.f120,hlt,hjt,hx,hox,cProc]);(repeat'((with_reducible first|(refine Br.out ?_ ?_<;>intro h<;>(try(have h0:=h;simp only[bH]at h)))|refine AC_snd (spec_l16Open _ _ _ s.fs o hfs) ?_|fail)<;>(try simp -implicitDefEqProofs (disch:=first|exact dd|fail)[Tryz.f120,hlt,hjt,hx,hox,cProc])))
   all_goals first
    | exact tr_no (fun H:IsSystem s=>tr_not.1 (by assumption) ((H.proc _ hmem).2.2 _ homem))
    | exact hok (tr_iff.1 (by assumption))
  ·have hfo:=all_take_len hj
   (try simp -implicitDefEqProofs (disch:=first|exact dd|fail)[Tryz.f120]);(repeat'((with_reducible first|(refine Br.out ?_ ?_<;>intro h<;>(try(have h0:=h;simp only[bH]at h)))|fail)<;>(try simp -implicitDefEqProofs (disch:=first|exact dd|fail)[Tryz.f120])))
   exact hpk ⟨hcr,by omega,hfo⟩
 have hpo:=all_take_len he
 have hbl:=busyT_len (ps:=s.procs) (k:=20)
 (try simp -implicitDefEqProofs (disch:=first|exact dd|fail)[Tryz.f120]);(repeat'((with_reducible first|(refine Br.out ?_ ?_<;>intro h<;>(try(have h0:=h;simp only[bH]at h)))|refine AC_snd (spec_l16Busy _ _ _ _ s hs) ?_|fail)<;>(try simp -implicitDefEqProofs (disch:=first|exact dd|fail)[Tryz.f120])))
 obtain ⟨B,hB⟩:∃ B,B=busyT s.procs 20:=⟨_,rfl⟩
 rw [←hB] at hbl ⊢
 have hbl':B.length≤1048576:=by omega
 refine AL_for 57 s.fs.inodes.length (fun k=>∀ j < k,∀ n:DInode,s.fs.inodes[j]? = some n→n.kind=1→n.links=0→openB s.procs j=true) rfl (fun k hk=>absurd hk (Nat.not_lt_zero k)) (fun k n hlt hk ih => ?_) (fun n hk => ?_)
 ·have hmb:(k:Int) ∈ B↔openB s.procs k=true:=by
   rw [hB,mem_busy]
   exact ⟨fun H=>H.2.2,fun H=>⟨by omega,by omega,H⟩⟩
  (try simp -implicitDefEqProofs (disch:=first|exact dd|fail)[Tryz.f120,hlt,cInode]);(repeat'((with_reducible first|(refine Br.out ?_ ?_<;>intro h<;>(try(have h0:=h;simp only[bH]at h)))|refine AC_snd (spec_l02Has _ B _ hbl') ?_|fail)<;>(try simp -implicitDefEqProofs (disch:=first|exact dd|fail)[Tryz.f120,hlt,cInode])))
  all_goals first
   | exact tr_no (fun H:IsSystem s=>absurd (hmb.2 (H.links k _ (List.getElem?_eq_getElem hlt) (by assumption) (by assumption))) (by assumption))
   | exact ih (lt_succ_all hk (fun n hn e1 e2=>hmb.1 (by assumption)))
   | exact ih (lt_succ_all hk (fun n hn e1 e2=>by rw [List.getElem?_eq_getElem hlt] at hn;cases hn;first | exact absurd e1 (by assumption) | exact absurd e2 (by assumption)))
 ·(try simp -implicitDefEqProofs (disch:=first|exact dd|fail)[Tryz.f120]);(repeat'((with_reducible first|(refine Br.out ?_ ?_<;>intro h<;>(try(have h0:=h;simp only[bH]at h)))|fail)<;>(try simp -implicitDefEqProofs (disch:=first|exact dd|fail)[Tryz.f120])))
  exact tr_yes ⟨hfs,by omega,hpo,fun k n hn=>hk k (List.getElem?_eq_some_iff.1 hn).1 n hn⟩
end Go.Proofs.YtgopfdninbknpaaGreat
