import Derived.Test.YtgopfdninbknpaaGreatP11p
import Derived.Test.YtgopfdninbknpaaGreatP06
namespace Go.Proofs.YtgopfdninbknpaaGreat
open Go.Fw
set_option linter.unusedVariables false
set_option linter.unusedSimpArgs false
set_option maxHeartbeats 4000000
set_option maxRecDepth 8000
theorem resolveF_ok {f:DFS} {c:DCred} {p:Str} (h:(resolveF f c p).2=0):isFS f=true∧isCred c=true∧hasI f (resolveF f c p).1=true:=by
 unfold resolveF at h ⊢
 split
 ·rename_i h1;rw [if_pos h1] at h;cases h
 rename_i h1
 rw [if_neg h1] at h
 have h2:isFS f=true∧isCred c=true:=by simpa using h1
 split
 ·rename_i h3;rw [if_pos h3] at h;cases h
 rename_i h3
 rw [if_neg h3] at h
 exact ⟨h2.1,h2.2,walkE_has h⟩
noncomputable def find15 (f:DFS) (c:DCred) (p:Str):Int × Int:=if (resolveF f c p).2≠0 then (0,(resolveF f c p).2) else if c.uid≠0∧c.uid≠(inodeAt f (resolveF f c p).1).uid then (0,12) else ((resolveF f c p).1,0)
noncomputable def attrO (f:DFS) (c:DCred) (p:Str) (v:DInode→DInode):DFS × Int:=
 if (find15 f c p).2≠0 then (f,(find15 f c p).2) else if isInode (v (inodeAt f (find15 f c p).1))=true then (setN f (find15 f c p).1 (v (inodeAt f (find15 f c p).1)),0) else (f,1)
def aclV (a d:List DAcl) (t:Int) (n:DInode):DInode:={ n with acl:=a,dflt:=d,tick:=t }
def aclW (a d:List DAcl) (n:DInode):DInode:={ n with acl:=a,dflt:=d }
theorem SmF.setN {f:DFS} {i:Int} {n:DInode} (hs:SmF f) (hn:SmI n):SmF (setN f i n):=by
 refine ⟨hs.quotas,by simpa [Go.Fw.setN] using hs.inodes,fun m hm => ?_,hs.data⟩
 rcases List.mem_or_eq_of_mem_set hm with h | rfl
 ·exact hs.inode m h
 ·exact hn
end Go.Proofs.YtgopfdninbknpaaGreat
