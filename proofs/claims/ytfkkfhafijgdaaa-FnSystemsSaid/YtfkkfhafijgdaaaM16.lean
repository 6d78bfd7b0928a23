/- Plain models: quotas set, systems. -/
import Derived.Test.YtfkkfhafijgdaaaM11
namespace Go.Fw
set_option linter.unusedVariables false
def setQ (f:DFS) (u:Int) (q:DQuota):DFS:={ f with quotas:=f.quotas.set u.toNat q }
noncomputable def setQuota (f:DFS) (c:DCred) (u:Int) (q:DQuota):DFS × Int:=
 if isFS f && isCred c then if c.uid=0 then if IsUser u then if isFS (setQ f u q) then (setQ f u q,0) else (f,1) else (f,1) else (f,12) else (f,1)
theorem SmF.setQ {f:DFS} (h:SmF f) (u:Int) (q:DQuota):SmF (setQ f u q):=⟨by simpa [Go.Fw.setQ] using h.quotas,h.inodes,h.inode,h.data⟩
def OpenOK (f:DFS) (o:DOpen):Prop:=o=⟨0,0,0⟩∨((1≤o.flags∧o.flags≤63)∧iAnd o.flags 6≠0∧(0≤o.inode∧o.inode < 20)∧(inodeAt f o.inode).kind=1∧0≤o.pos∧o.pos≤1000000)
theorem open_eq {o:DOpen}:o=⟨0,0,0⟩↔o.inode=0∧o.pos=0∧o.flags=0:=by
 obtain ⟨a,b,c⟩:=o
 simp
def ProcOK (f:DFS) (p:DProc):Prop:=IsCred p.cred∧p.files.length=3∧∀ o ∈ p.files,OpenOK f o
def openO (i:Int) (o:DOpen):Bool := !decide (o.flags=0) && decide (o.inode=i)
def openP (i:Int) (p:DProc):Bool:=p.files.any (openO i)
def openB (ps:List DProc) (i:Int):Bool:=ps.any (openP i)
structure IsSystem (s:DSystem):Prop where
 fs:IsFS s.fs
 np:s.procs.length=4
 proc:∀ p ∈ s.procs,ProcOK s.fs p
 links:∀ (k:Nat) (n:DInode),s.fs.inodes[k]? = some n→n.kind=1→n.links=0→openB s.procs k=true
noncomputable abbrev isSystem (s:DSystem):Bool:=tr (IsSystem s)
theorem kind_file {n:DInode} (h:IsInode n) (h0:¬ n.kind=0) (h2:¬ n.kind=2):n.kind=1:=by
 have:=((isInode_ok h0).1 h).kind
 omega
def busyT (ps:List DProc):Nat→List Int
 | 0 => []
 | k + 1=>if openB ps k then busyT ps k ++ [(k:Int)] else busyT ps k
theorem busyT_len {ps:List DProc}:∀ {k:Nat},(busyT ps k).length≤k
 | 0=>by simp [busyT]
 | k + 1=>by
  have:=busyT_len (ps:=ps) (k:=k)
  rw [busyT]
  split<;>simp<;>omega
theorem mem_busy {ps:List DProc}:∀ {k:Nat} {i:Int},i ∈ busyT ps k↔(0≤i∧i < k∧openB ps i=true)
 | 0,i=>by simp [busyT];omega
 | k + 1,i=>by
  have ih:=mem_busy (ps:=ps) (k:=k) (i:=i)
  rw [busyT]
  split
  ·rename_i hk
   rw [List.mem_append,ih,List.mem_singleton]
   constructor
   ·rintro (⟨a,b,c⟩ | rfl)
    ·exact ⟨a,by omega,c⟩
    ·exact ⟨by omega,by omega,hk⟩
   ·rintro ⟨a,b,c⟩
    by_cases e:i=k
    ·exact .inr e
    ·exact .inl ⟨a,by omega,c⟩
  ·rename_i hk
   rw [ih]
   constructor
   ·rintro ⟨a,b,c⟩
    exact ⟨a,by omega,c⟩
   ·rintro ⟨a,b,c⟩
    refine ⟨a,?_,c⟩
    by_cases e:i=k
    ·subst e;exact absurd c hk
    ·omega
end Go.Fw
