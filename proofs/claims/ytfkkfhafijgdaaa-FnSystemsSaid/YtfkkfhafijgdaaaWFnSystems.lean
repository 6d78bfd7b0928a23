import Derived.Test.YtfkkfhafijgdaaaP01i
import Derived.Test.YtfkkfhafijgdaaaP16d
import Derived.Test.YtfkkfhafijgdaaaP16f
import Derived.Test.YtfkkfhafijgdaaaMS
namespace Go.Proofs.Ytfkkfhafijgdaaa
open Go.Fw
set_option linter.unusedVariables false
set_option linter.unusedSimpArgs false
set_option maxHeartbeats 4000000
set_option maxRecDepth 8000
theorem orph_none {f:DFS} (h:Drawn f):orph f.inodes = []:=by
 have key:∀ i,i≤f.inodes.length→orph (f.inodes.take i) = []:=by
  intro i
  induction i with
  | zero=>intro _;rfl
  | succ i ih=>
   intro hi
   have hlt:i < f.inodes.length:=by omega
   rw [orph_take hlt,ih (by omega)]
   have h1:=h.linked i (by have:=h.fs.ni;omega)
   rw [inodeAt_nat hlt] at h1
   have:orphP f.inodes[i]=false:=by
    unfold orphP
    by_cases hk:f.inodes[i].kind=0
    ·simp [hk]
    ·have:=h1 hk
     simp [hk]
     omega
   rw [this]
   rfl
 have:=key f.inodes.length (Nat.le_refl _)
 rwa [List.take_length] at this
theorem laws_FnSystems (n1:Option Bool) (code:Str) (hlen:code.length≤maxLen):Snd Try.prog 3 [.frz 1 n1 (code.map cu)] (.bool true) [.unk]:=Runs.snd (M:=M) (c:=⟨1,[2,3,4,7],[],[]⟩) tok ks mixed Try.func3 (p := []) (by kernel_rfl) (by rfl) (by rfl) <| by
 by_cases hl:code.length≤1048576
 ·have hgt:¬ (1048576:Int) < code.length:=by omega
  have cF:=spec_MakeFS n1 code hl
  have hd:=fsC_ok code
  generalize fsC code=f at *
  have hf:=hd.fs
  have hs:=SmF.of hf
  have hif:isFS f=true:=tr_iff.2 hf
  have q4:=hf.nq
  have q20:=hf.ni
  have q56:=hf.nd
  have htq:=takeM (f:=cQuota) q4
  have hti:=takeM (f:=cInode) q20
  have htd:=takeM (f:=cs) q56
  have ho:=orph_none hd
  have hdr:dropO f []=f:=by
   unfold dropO
   rw [ho]
   simp
  have cN:=fun a b c d=>impl_NewSystem a b c d f four hs (by decide) (by decide)
  rw [hdr,new_four hd] at cN
  have hsy:=sys_four hd
  have hss:SmS ⟨f,fourP⟩:=procs_sm (cs:=four) hs (by decide) (by decide)
  have cI:=fun a b c d=>impl_IsSystem a b c d ⟨f,fourP⟩ hss
  rw [show isSystem ⟨f,fourP⟩=true from tr_iff.2 hsy] at cI
  have cB:=fun a b c d=>impl_BusyInodes a b c d ⟨f,fourP⟩ hss
  have hb0:busyI ⟨f,fourP⟩ = []:=by
   unfold busyI
   rw [busyT_four]
   split<;>rfl
  rw [hb0] at cB
  have cS:=fun a b c d e g=>impl_SameFS f f a b c d e g hs
  simp only [decide_true] at cS
  have cO:=fun a b c=>impl_OrphansOf a b c f hs
  rw [ho] at cO
  simp only [hif,if_true,List.map_nil] at cO cB
  simp only [fSystem,rSystem,four,fourP,List.map_cons,List.map_nil,cCred,cProc,ci,cOpen,zOpen] at cN cI cB
  (try simp -implicitDefEqProofs (maxSteps:=2000000) (disch:=first|exact dd|fail)[Try.f3,hgt,q4,q20,q56,htq,hti,htd]);(repeat'((with_reducible first|(refine Br.out ?_ ?_<;>intro h<;>(try(have h0:=h;simp only[bH]at h)))|refine AC_snd (cF) ?_|refine AC_snd (cN _ _ _ _) ?_|refine AC_snd (cI _ _ _ _) ?_|refine AC_snd (cB _ _ _ _) ?_|refine AC_snd (cS _ _ _ _ _ _) ?_|refine AC_snd (cO _ _ _) ?_|fail)<;>(try simp -implicitDefEqProofs (maxSteps:=2000000) (disch:=first|exact dd|fail)[Try.f3,hgt,q4,q20,q56,htq,hti,htd])))
 ·have hgt:(1048576:Int) < code.length:=by omega
  (try simp -implicitDefEqProofs (maxSteps:=2000000) (disch:=first|exact dd|fail)[Try.f3,hgt]);(repeat'((with_reducible first|(refine Br.out ?_ ?_<;>intro h<;>(try(have h0:=h;simp only[bH]at h)))|fail)<;>(try simp -implicitDefEqProofs (maxSteps:=2000000) (disch:=first|exact dd|fail)[Try.f3,hgt])))
end Go.Proofs.Ytfkkfhafijgdaaa
