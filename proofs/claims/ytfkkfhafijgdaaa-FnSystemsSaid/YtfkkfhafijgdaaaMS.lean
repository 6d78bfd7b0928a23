/- Plain law: a new system over a drawn file system has no open files and no orphans. -/
import Derived.Test.YtfkkfhafijgdaaaME
import Derived.Test.YtfkkfhafijgdaaaM32
namespace Go.Fw
set_option linter.unusedVariables false
set_option linter.unusedSimpArgs false
def four:List DCred := [⟨0,0,[]⟩,⟨1,0,[]⟩,⟨2,0,[]⟩,⟨3,0,[]⟩]
def fourP:List DProc:=four.map fun c=>⟨c,[zOpen,zOpen,zOpen]⟩
theorem openB_four (i:Int):openB fourP i=false:=by
 simp [openB,fourP,four,openP,openO,zOpen]
theorem busyT_four:∀ n,busyT fourP n = []
 | 0=>rfl
 | n + 1=>by rw [busyT,openB_four,if_neg (by decide),busyT_four n]
theorem sys_four {f:DFS} (hf:Drawn f):IsSystem ⟨f,fourP⟩:=by
 refine ⟨hf.fs,rfl,fun p hp => ?_,fun k n hn hk hl => ?_⟩
 ·simp only [fourP,four,List.map_cons,List.map_nil,List.mem_cons,List.mem_nil_iff,or_false] at hp
  have hc:∀ u:Int,IsUser u→IsCred ⟨u,0,[]⟩:=fun u hu=>⟨fun i hi=>by simp at hi,hu,(show IsUser 0 from ⟨by decide,by decide⟩)⟩
  rcases hp with rfl | rfl | rfl | rfl
  all_goals exact ⟨hc _ ⟨by decide,by decide⟩,rfl,fun o ho=>by
   simp only [zOpen,List.mem_cons,List.mem_nil_iff,or_false,or_self] at ho
   exact .inl ho⟩
 ·exfalso
  have hkl:k < f.inodes.length:=by
   rw [List.getElem?_eq_some_iff] at hn
   exact hn.1
  have h20:k < 20:=by rw [←hf.fs.ni];exact hkl
  have e:inodeAt f (k:Int)=n:=by
   rw [inodeAt_nat hkl]
   exact (List.getElem?_eq_some_iff.1 hn).2
  have h1:=hf.linked k h20 (by rw [e,hk];decide)
  rw [e] at h1
  omega
theorem new_four {f:DFS} (hf:Drawn f):newSys f four=⟨f,fourP⟩:=by
 unfold newSys
 exact if_pos (tr_iff.2 (sys_four hf))
end Go.Fw
