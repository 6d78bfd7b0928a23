import Derived.Test.YtgopfdninbknpaaGreatP10
import Derived.Test.YtgopfdninbknpaaGreatP12
import Derived.Test.YtgopfdninbknpaaGreatMC
namespace Go.Proofs.YtgopfdninbknpaaGreat
open Go.Fw
set_option linter.unusedVariables false
set_option linter.unusedSimpArgs false
set_option maxHeartbeats 4000000
set_option maxRecDepth 8000
noncomputable def mayRemove (c:DCred) (u m w:Int):Bool:=isCred c && (decide (IsMode m) && (decide (iAnd m 512=0) || (decide (c.uid=0) || (decide (c.uid=u) || decide (c.uid=w)))))
theorem hasI_kk {f:DFS} {k:Nat} (h:k < 20):hasI f k = !decide ((inodeAt f k).kind=0):=by
 unfold hasI
 by_cases hk:(inodeAt f k).kind=0
 ·simp [hk]
 ·simp [hk];omega
theorem impl_MayRemove (n1:Option Bool) (c:DCred) (u m w:Int) (hl:c.groups.length≤1048576):Snd Tryz.prog 185 [fCred n1 c, .int .i64 u, .int .i64 m, .int .i64 w] (.bool (mayRemove c u m w)) [.unk, .unk, .unk, .unk]:=Runs.snd (M:=M) (c:=⟨4,[4,8,16],[],[]⟩) tok ks mixed Tryz.func185 (p := []) (by kernel_rfl) (by rfl) (by rfl) <| by
 unfold mayRemove
 (try simp -implicitDefEqProofs (disch:=first|exact dd|fail)[Tryz.f185]);(repeat'((with_reducible first|(refine Br.out ?_ ?_<;>intro h<;>(try(have h0:=h;simp only[bH]at h)))|refine AC_snd (impl_IsCred _ c hl) ?_|refine AC_snd (impl_isMode _) ?_|fail)<;>(try simp -implicitDefEqProofs (disch:=first|exact dd|fail)[Tryz.f185])))
 all_goals (simp [*];try grind)
theorem spec_MayRemove (n1:Option Bool) (c:DCred) (u m w:Int) (hl:c.groups.length≤1048576):Snd Tryz.prog 100 [fCred n1 c, .int .i64 u, .int .i64 m, .int .i64 w] (.bool (mayRemove c u m w)) [.unk, .unk, .unk, .unk]:=Runs.snd (M:=M) (c:=⟨4,[4,8,16],[],[]⟩) tok ks mixed Tryz.func100 (p := []) (by kernel_rfl) (by rfl) (by rfl) <| by
 unfold mayRemove
 (try simp -implicitDefEqProofs (disch:=first|exact dd|fail)[Tryz.f100]);(repeat'((with_reducible first|(refine Br.out ?_ ?_<;>intro h<;>(try(have h0:=h;simp only[bH]at h)))|refine AC_snd (spec_IsCred _ c hl) ?_|refine AC_snd (spec_l06Mode _) ?_|fail)<;>(try simp -implicitDefEqProofs (disch:=first|exact dd|fail)[Tryz.f100])))
 all_goals (simp [*];try grind)
noncomputable def checkP (f:DFS) (c:DCred) (d i:Int):Int:=if mayI f c d 3=false then 2 else if mayRemove c (inodeAt f d).uid (inodeAt f d).mode (inodeAt f i).uid=false then 12 else 0
noncomputable def removalP (f:DFS) (c:DCred) (d:Int) (s:Str) (e:DInode→Int):Int × Int:=
 if (findE (entriesI f d) s).2=false∨hasI f (findE (entriesI f d) s).1=false then (0,3) else if e (inodeAt f (findE (entriesI f d) s).1)≠0 then (0,e (inodeAt f (findE (entriesI f d) s).1)) else if checkP f c d (findE (entriesI f d) s).1≠0 then (0,checkP f c d (findE (entriesI f d) s).1) else ((findE (entriesI f d) s).1,0)
theorem spec_l13Check (n1 n2 n3 n4:Option Bool) (f:DFS) (c:DCred) (d i:Int) (hf:IsFS f) (hc:c.groups.length≤1048576) (hd:hasI f d=true) (hi:0≤i∧i < 20):Snd Tryz.prog 175 [fFS n1 n2 n3 f,fCred n4 c, .int .i64 d, .int .i64 i] (.int .i64 (checkP f c d i)) [.unk, .unk, .unk, .unk]:=Runs.snd (M:=M) (c:=⟨4,[4,5,8,9,15,21],[],[]⟩) tok ks mixed Tryz.func175 (p := []) (by kernel_rfl) (by rfl) (by rfl) <| by
 have hn:=hf.ni
 have hs:=SmF.of hf
 have hdl:=hasI_lt hd
 have c3:=fun a b e g=>spec_l11May a b e g f c d 3 hn hd hs hc
 have c4:=fun a u m w=>spec_MayRemove a c u m w hc
 unfold checkP
 obtain ⟨k,rfl⟩:=Int.eq_ofNat_of_zero_le hdl.1
 have hkl:k < f.inodes.length:=by omega
 obtain ⟨j,rfl⟩:=Int.eq_ofNat_of_zero_le hi.1
 have hjl:j < f.inodes.length:=by omega
 rw [inodeAt_nat hkl,inodeAt_nat hjl]
 by_cases h2:mayI f c k 3=true
 ·rw [if_neg (by simp [h2])]
  (try simp -implicitDefEqProofs (disch:=first|exact dd|fail)[Tryz.f175,h2,hkl,hjl,cInode]);(repeat'((with_reducible first|(refine Br.out ?_ ?_<;>intro h<;>(try(have h0:=h;simp only[bH]at h)))|refine AC_snd (c3 _ _ _ _) ?_|refine AC_snd (c4 _ f.inodes[k].uid f.inodes[k].mode f.inodes[j].uid) ?_|fail)<;>(try simp -implicitDefEqProofs (disch:=first|exact dd|fail)[Tryz.f175,h2,hkl,hjl,cInode])))
  all_goals simp [*]
 ·have h2':mayI f c k 3=false:=by simpa using h2
  rw [if_pos h2']
  (try simp -implicitDefEqProofs (disch:=first|exact dd|fail)[Tryz.f175,h2',hkl,hjl,cInode]);(repeat'((with_reducible first|(refine Br.out ?_ ?_<;>intro h<;>(try(have h0:=h;simp only[bH]at h)))|refine AC_snd (c3 _ _ _ _) ?_|fail)<;>(try simp -implicitDefEqProofs (disch:=first|exact dd|fail)[Tryz.f175,h2',hkl,hjl,cInode])))
noncomputable def removableO (f:DFS) (c:DCred) (d:Int) (s:Str):Int:=if (isCred c && (isFS f && isDirI f d))=false then 1 else (removalP f c d s (fun _=>0)).2
end Go.Proofs.YtgopfdninbknpaaGreat
