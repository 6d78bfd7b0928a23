import Derived.Test.YtgopfdninbknpaaGreatP16e
import Derived.Test.YtgopfdninbknpaaGreatP09
namespace Go.Proofs.YtgopfdninbknpaaGreat
open Go.Fw
set_option linter.unusedVariables false
set_option linter.unusedSimpArgs false
set_option maxHeartbeats 1000000
set_option maxRecDepth 8000
abbrev wSys (s:DSystem):AV := .wptr [.int .i64 s.fs.tick, .row 2 (s.fs.quotas.map cQuota), .row 10 (s.fs.inodes.map cInode), .row 1 (s.fs.data.map cs), .row 4 (s.procs.map cProc)]
theorem impl_isProc (k:Int):Snd Tryz.prog 132 [.int .i64 k] (.bool (decide (0≤k∧k < 4))) [.unk]:=Runs.snd (M:=M) (c:=⟨1,[2],[],[]⟩) tok ks mixed Tryz.func132 (p := []) (by kernel_rfl) (by rfl) (by rfl) <| by
 (try simp -implicitDefEqProofs (disch:=first|exact dd|fail)[Tryz.f132]);(repeat'((with_reducible first|(refine Br.out ?_ ?_<;>intro h<;>(try(have h0:=h;simp only[bH]at h)))|fail)<;>(try simp -implicitDefEqProofs (disch:=first|exact dd|fail)[Tryz.f132])))
 all_goals first | omega | (simp;omega)
theorem mid_sm {s:DSystem} (h:Mid s):SmS s:=by
 refine ⟨SmF.of h.fs,by rw [h.np];decide,fun p hp => ?_⟩
 obtain ⟨h1,h2,h3⟩:=h.proc p hp
 exact ⟨cred_len h1,by rw [h2];decide⟩
theorem impl_file (s:DSystem) (k fd:Nat) (p:DProc) (o:DOpen) (hp:s.procs[k]? = some p) (ho:p.files[fd]? = some o) (hf:p.files.length=3) (h0:¬ o.flags=0):Snd Tryz.prog 210 [wSys s, .int .i64 k, .int .i64 fd] (.pp 0 4 (some (k,3)) fd 0) [wSys s, .unk, .unk]:=Runs.snd (M:=M) (c:=⟨3,[6,27],[],[]⟩) tok ks mixed Tryz.func210 (p := [0]) (by kernel_rfl) (by rfl) (by rfl) <| by
 obtain ⟨hk,rfl⟩:=List.getElem?_eq_some_iff.1 hp
 obtain ⟨hfd,rfl⟩:=List.getElem?_eq_some_iff.1 ho
 have h3:fd < 3:=by omega
 (try simp -implicitDefEqProofs (disch:=first|exact dd|fail)[Tryz.f210,hk,hfd,h3,h0,cProc,cOpen]);(repeat'((with_reducible first|(refine Br.out ?_ ?_<;>intro h<;>(try(have h0:=h;simp only[bH]at h)))|fail)<;>(try simp -implicitDefEqProofs (disch:=first|exact dd|fail)[Tryz.f210,hk,hfd,h3,h0,cProc,cOpen])))
theorem impl_file_no (s:DSystem) (k fd:Int) (h:Mid s) (hk:0≤k∧k < 4) (hb:fileB s k fd=false):Snd Tryz.prog 210 [wSys s, .int .i64 k, .int .i64 fd] .nilp [wSys s, .unk, .unk]:=Runs.snd (M:=M) (c:=⟨3,[6,27],[],[]⟩) tok ks mixed Tryz.func210 (p := [0]) (by kernel_rfl) (by rfl) (by rfl) <| by
 obtain ⟨a,rfl⟩:=Int.eq_ofNat_of_zero_le hk.1
 have hal:a < s.procs.length:=by rw [h.np];omega
 by_cases hfd:0≤fd∧fd < 3
 ·obtain ⟨b,rfl⟩:=Int.eq_ofNat_of_zero_le hfd.1
  obtain ⟨h2,h3,h4⟩:=h.proc _ (List.getElem_mem hal)
  have hbl:b < s.procs[a].files.length:=by rw [h3];omega
  have e:fileAt s a b=s.procs[a].files[b]:=by simp [fileAt,procAt,hal,hbl]
  have h0:s.procs[a].files[b].flags=0:=by
   unfold fileB at hb
   rw [e] at hb
   simpa [hfd.1,hfd.2] using hb
  have hb3:b < 3:=by omega
  (try simp -implicitDefEqProofs (disch:=first|exact dd|fail)[Tryz.f210,hal,hbl,hb3,h0,cProc,cOpen]);(repeat'((with_reducible first|(refine Br.out ?_ ?_<;>intro h<;>(try(have h0:=h;simp only[bH]at h)))|fail)<;>(try simp -implicitDefEqProofs (disch:=first|exact dd|fail)[Tryz.f210,hal,hbl,hb3,h0,cProc,cOpen])))
 ·(try simp -implicitDefEqProofs (disch:=first|exact dd|fail)[Tryz.f210]);(repeat'((with_reducible first|(refine Br.out ?_ ?_<;>intro h<;>(try(have h0:=h;simp only[bH]at h)))|fail)<;>(try simp -implicitDefEqProofs (disch:=first|exact dd|fail)[Tryz.f210])))
  all_goals first | (exfalso;omega)
end Go.Proofs.YtgopfdninbknpaaGreat
