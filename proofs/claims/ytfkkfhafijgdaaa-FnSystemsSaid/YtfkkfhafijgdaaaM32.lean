/- Plain models: systems that change. -/
import Derived.Test.YtfkkfhafijgdaaaM16
import Derived.Test.YtfkkfhafijgdaaaM30
namespace Go.Fw
set_option linter.unusedVariables false
def zOpen:DOpen:=⟨0,0,0⟩
def zSys:DSystem:=⟨⟨0,[],[],[]⟩,[]⟩
noncomputable def tickO (s:DSystem) (n:Int):DSystem × Bool:=if isSystem s=true∧0≤n∧n≤1000000000∧s.fs.tick + n≤1000000000 then (⟨⟨s.fs.tick + n,s.fs.quotas,s.fs.inodes,s.fs.data⟩,s.procs⟩,true) else (s,false)
theorem tick_fs {f:DFS} {t:Int} (h:IsFS f) (h0:0≤t∧t≤1000000000):IsFS ⟨t,f.quotas,f.inodes,f.data⟩:=
 ⟨h0,h.nq,h.ni,h.nd,h.quota,h.secs,h.inode,h.own,h.once,h.tail,h.rest,h.root⟩
theorem tick_sys {s:DSystem} {t:Int} (h:IsSystem s):IsSystem ⟨⟨t,s.fs.quotas,s.fs.inodes,s.fs.data⟩,s.procs⟩↔0≤t∧t≤1000000000:=by
 constructor
 ·intro H
  exact H.fs.tick
 ·intro h0
  exact ⟨tick_fs h.fs h0,h.np,h.proc,h.links⟩
noncomputable def newSys (f:DFS) (cs:List DCred):DSystem:=if isSystem ⟨f,cs.map fun c=>⟨c,[zOpen,zOpen,zOpen]⟩⟩=true then ⟨f,cs.map fun c=>⟨c,[zOpen,zOpen,zOpen]⟩⟩ else zSys
theorem newSys_len {f:DFS} {cs:List DCred} (h:¬ cs.length=4):newSys f cs=zSys:=by
 unfold newSys
 rw [if_neg]
 intro H
 have:=(tr_iff.1 H).np
 simp only [List.length_map] at this
 exact h this
def flagsB (n:Int):Bool:=decide (1≤n∧n≤63) && (!decide (iAnd n 6=0) && (decide (iAnd n 1=0) && (decide (iAnd n 48=0) || !decide (iAnd n 2=0))))
def freeFd:Nat→List DOpen→Int
 | _,[] => -1
 | j,o :: l=>if o.flags=0 then j else freeFd (j + 1) l
theorem freeFd_range:∀ {l:List DOpen} {j:Nat},freeFd j l = -1∨((j:Int)≤freeFd j l∧freeFd j l < j + l.length)
 | [],j => .inl rfl
 | o :: l,j=>by
  rw [freeFd]
  split
  ·right
   simp only [List.length_cons]
   omega
  ·rcases freeFd_range (l:=l) (j:=j + 1) with h | h
   ·exact .inl h
   ·right
    simp only [List.length_cons]
    omega
def procAt (s:DSystem) (k:Int):DProc:=s.procs.getD k.toNat ⟨⟨0,0,[]⟩,[]⟩
def setOpen (ps:List DProc) (k fd:Nat) (o:DOpen):List DProc:=match ps[k]? with
 | some p=>ps.set k ⟨p.cred,p.files.set fd o⟩
 | none=>ps
theorem setOpen_at {ps:List DProc} {k fd:Nat} {o:DOpen} (h:k < ps.length):setOpen ps k fd o=ps.set k ⟨ps[k].cred,ps[k].files.set fd o⟩:=by
 unfold setOpen
 rw [List.getElem?_eq_getElem h]
noncomputable def closeG (s:DSystem) (k fd:Nat) (i:Int):DSystem:=
 ⟨if (inodeAt s.fs i).links=0∧openB (setOpen s.procs k fd zOpen) i=false∧i≠0 then freeF s.fs i else s.fs,setOpen s.procs k fd zOpen⟩
def fileAt (s:DSystem) (k fd:Int):DOpen:=(procAt s k).files.getD fd.toNat zOpen
def fileB (s:DSystem) (k fd:Int):Bool:=decide (0≤fd∧fd < 3) && !decide ((fileAt s k fd).flags=0)
noncomputable def closeD (s:DSystem) (k fd:Int):DSystem × Int:=if fileB s k fd=true then (closeG s k.toNat fd.toNat (fileAt s k fd).inode,0) else (s,13)
noncomputable def closeO (s:DSystem) (k fd:Int):DSystem × Int:=if isSystem s=true∧0≤k∧k < 4 then closeD s k fd else (s,1)
noncomputable def closeA (s:DSystem) (k:Int):DSystem:=if isSystem s=true∧0≤k∧k < 4 then (closeD (closeD (closeD s k 0).1 k 1).1 k 2).1 else s
noncomputable def openT (s:DSystem) (k fd:Nat) (f:DFS) (i flags:Int):DSystem:=
 ⟨if iAnd flags 16=0 then f else touchF (resizeS f i 0) i,setOpen s.procs k fd ⟨i,0,flags⟩⟩
theorem cred_len {c:DCred} (h:IsCred c):c.groups.length≤1048576:=by
 have key:∀ (i:Nat) (hi:i < c.groups.length),(i:Int)≤c.groups[i]:=by
  intro i
  induction i with
  | zero=>intro hi;exact ((h.1 0 hi) _ (List.getElem?_eq_getElem hi)).1.1
  | succ j ih=>
   intro hi
   have h1:=((h.1 (j + 1) hi) _ (List.getElem?_eq_getElem hi)).2 _ j rfl (List.getElem?_eq_getElem (by omega))
   have h2:=ih (by omega)
   omega
 rcases Nat.eq_zero_or_pos c.groups.length with h0 | h0
 ·omega
 ·have h3:c.groups.length - 1 < c.groups.length:=by omega
  have h1:=key (c.groups.length - 1) h3
  have h2:=((h.1 (c.groups.length - 1) h3) _ (List.getElem?_eq_getElem h3)).1.2
  omega
structure Mid (s:DSystem):Prop where
 fs:IsFS s.fs
 np:s.procs.length=4
 proc:∀ p ∈ s.procs,IsCred p.cred∧p.files.length=3∧∀ o ∈ p.files,o.flags≠0→0≤o.inode∧o.inode < 20
theorem IsSystem.mid {s:DSystem} (h:IsSystem s):Mid s:=by
 refine ⟨h.fs,h.np,fun p hp => ?_⟩
 obtain ⟨h1,h2,h3⟩:=h.proc p hp
 refine ⟨h1,h2,fun o ho h0 => ?_⟩
 rcases h3 o ho with rfl | h4
 ·exact absurd rfl h0
 ·exact h4.2.2.1
theorem setOpen_mem {ps:List DProc} {k fd:Nat} {o:DOpen} {p:DProc} (h:p ∈ setOpen ps k fd o):p ∈ ps∨∃ q ∈ ps,p=⟨q.cred,q.files.set fd o⟩:=by
 unfold setOpen at h
 split at h
 ·rename_i q hq
  rcases List.mem_or_eq_of_mem_set h with h1 | h1
  ·exact .inl h1
  ·exact .inr ⟨q,List.mem_of_getElem? hq,h1⟩
 ·exact .inl h
theorem setOpen_len {ps:List DProc} {k fd:Nat} {o:DOpen}:(setOpen ps k fd o).length=ps.length:=by
 unfold setOpen
 split<;>simp
theorem Mid.closeG {s:DSystem} {k fd:Nat} {i:Int} (h:Mid s) (hi:0≤i∧i < 20):Mid (closeG s k fd i):=by
 refine ⟨?_,by show (setOpen s.procs k fd zOpen).length=4;rw [setOpen_len];exact h.np,fun p hp => ?_⟩
 ·show IsFS (if _ then freeF s.fs i else s.fs)
  split
  ·rename_i hc
   exact h.fs.free hi hc.2.2
  ·exact h.fs
 ·rcases setOpen_mem hp with h1 | ⟨q,h1,rfl⟩
  ·exact h.proc p h1
  ·obtain ⟨h2,h3,h4⟩:=h.proc q h1
   refine ⟨h2,by simpa using h3,fun o ho h0 => ?_⟩
   rcases List.mem_or_eq_of_mem_set ho with h5 | rfl
   ·exact h4 o h5 h0
   ·exact absurd rfl h0
theorem Mid.file {s:DSystem} {k fd:Int} (h:Mid s) (hk:0≤k∧k < 4) (hb:fileB s k fd=true):∃ a b:Nat,k=a∧fd=b∧b < 3∧∃ p,s.procs[a]? = some p∧p.files.length=3∧p.files[b]? = some (fileAt s k fd)∧(fileAt s k fd).flags≠0∧0≤(fileAt s k fd).inode∧(fileAt s k fd).inode < 20:=by
 obtain ⟨a,rfl⟩:=Int.eq_ofNat_of_zero_le hk.1
 unfold fileB at hb
 simp only [Bool.and_eq_true,decide_eq_true_eq,Bool.not_eq_true',decide_eq_false_iff_not] at hb
 obtain ⟨b,rfl⟩:=Int.eq_ofNat_of_zero_le hb.1.1
 have hal:a < s.procs.length:=by rw [h.np];omega
 obtain ⟨h2,h3,h4⟩:=h.proc _ (List.getElem_mem hal)
 have hbl:b < s.procs[a].files.length:=by rw [h3];omega
 have e:fileAt s a b=s.procs[a].files[b]:=by simp [fileAt,procAt,hal,hbl]
 refine ⟨a,b,rfl,rfl,by omega,_,List.getElem?_eq_getElem hal,h3,?_,hb.2,h4 _ ?_ hb.2⟩
 ·rw [List.getElem?_eq_getElem hbl,e]
 ·rw [e];exact List.getElem_mem hbl
theorem Mid.closeD {s:DSystem} {k fd:Int} (h:Mid s) (hk:0≤k∧k < 4):Mid (closeD s k fd).1:=by
 unfold Go.Fw.closeD
 split
 ·rename_i hb
  obtain ⟨a,b,-,-,-,p,-,-,-,-,h1⟩:=h.file hk hb
  exact h.closeG h1
 ·exact h
end Go.Fw
