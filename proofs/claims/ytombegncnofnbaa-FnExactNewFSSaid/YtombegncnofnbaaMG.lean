/- Plain law: an object that is put into a file system by hand, with its entry, keeps it in order. -/
import Derived.Test.YtombegncnofnbaaMF
namespace Go.Fw
set_option linter.unusedVariables false
set_option linter.unusedSimpArgs false
def drawB (i:Nat):DFS→DInode→List Str→DFS × DInode
 | f,n,[]=>(f,n)
 | f,n,s :: l=>if (nextB f n.uid).2=0 then drawB i (blkF f i n s (nextB f n.uid).1) (blkN n s (nextB f n.uid).1) l else (f,n)
structure DrawB (f g:DFS) (i:Nat) (n m:DInode):Prop where
 fs:IsFS g
 ok:InodeOK m
 rest:m={ n with blocks:=m.blocks,size:=m.size }
 at_:m=inodeAt g i∨(inodeAt g i).kind=0∧m.blocks = []
 other:∀ j:Int,j.toNat≠i→inodeAt g j=inodeAt f j
 quotas:g.quotas=f.quotas
 tick:g.tick=f.tick
theorem inodeAt_blkF {f:DFS} {i:Nat} {n:DInode} {s:Str} {b:Int} (h:i < f.inodes.length) (j:Int):inodeAt (blkF f i n s b) j=if j.toNat=i then blkN n s b else inodeAt f j:=inodeAt_set h j
theorem drawB_ok {i:Nat} (hi:i < 20):∀ {l:List Str} {f:DFS} {n:DInode},IsFS f→InodeOK n→(n=inodeAt f i∨(inodeAt f i).kind=0∧n.blocks = [])→(l ≠ []→n.size=32 * n.blocks.length)→l.length + n.blocks.length≤8→
  (∀ s ∈ l,0 < s.length∧s.length≤32)→(∀ s ∈ l.dropLast,s.length=32)→DrawB f (drawB i f n l).1 i n (drawB i f n l).2
 | [],f,n,hf,hn,ha,_,_,_,_=>⟨hf,hn,rfl,ha,fun _ _=>rfl,rfl,rfl⟩
 | s :: l,f,n,hf,hn,ha,hz,h8,hs,hl=>by
  have hil:i < f.inodes.length:=by rw [hf.ni];exact hi
  rw [drawB]
  split
  ·rename_i h0
   have hz1:=hz (by simp)
   have hs1:=hs s (List.mem_cons_self ..)
   simp only [List.length_cons] at h8
   obtain ⟨k,hk,_⟩:=nextB_ok hn.uid h0
   rw [hk]
   obtain ⟨a1,a2,a3⟩:=IsFS.blk (s:=s) ⟨hf,hi,hn,hz1,by omega,ha⟩ hs1 hk h0
   have hbl:(blkN n s (k:Int)).blocks.length=n.blocks.length + 1:=by simp [blkN]
   have key:=drawB_ok hi (l:=l) a1 a2 (.inl (by rw [inodeAt_blkF hil];simp)) (fun hne=>by
    have h1:=hl s (by cases l with | nil=>exact absurd rfl hne | cons t l=>simp)
    simp only [blkN,List.length_append,List.length_cons,List.length_nil]
    omega) (by omega) (fun t ht=>hs t (List.mem_cons_of_mem _ ht)) (fun t ht=>hl t (by
     cases l with
     | nil=>simp at ht
     | cons u l=>exact List.mem_cons_of_mem _ ht))
   generalize drawB i (blkF f i n s (k:Int)) (blkN n s (k:Int)) l=R at *
   refine ⟨key.fs,key.ok,?_,key.at_,fun j hj => ?_,key.quotas,key.tick⟩
   ·have h1:=key.rest
    simp only [blkN] at h1
    exact h1
   ·rw [key.other j hj,inodeAt_blkF hil,if_neg hj]
  ·exact ⟨hf,hn,rfl,ha,fun _ _=>rfl,rfl,rfl⟩
def linkN (n:DInode):DInode:={ n with links:=1 }
theorem linkN_ok {n:DInode} (h:InodeOK n):InodeOK (linkN n):=⟨h.kind,h.mode,h.uid,h.gid,by simp [linkN],h.size,h.tick,h.blocks,h.blk,h.acl,h.dflt,h.file⟩
theorem IsFS.link {f:DFS} {i:Nat} {m:DInode} (hf:IsFS f) (hi:i < 20) (hm:InodeOK m) (ha:m=inodeAt f i∨(inodeAt f i).kind=0∧m.blocks = []):IsFS (Go.Fw.setN f i (linkN m)):=by
 rcases ha with h | ⟨h1,h2⟩
 ·have h3:=IsFS.setN (f:=f) (i:=(i:Int)) (v:=linkN) hf ⟨by omega,by omega⟩ ⟨fun j n=>by unfold modAt;split<;>rfl,fun j n=>by unfold modAt;split<;>rfl,fun j n=>by unfold modAt;split<;>rfl,fun j n=>by unfold modAt;split<;>rfl,fun j n s b=>by unfold modAt;split<;>rfl⟩ (fun _ => .inr (linkN_ok (h ▸ hm)))
  rw [←h] at h3
  exact h3
 ·exact IsFS.fresh hf ⟨by omega,by omega⟩ h1 (linkN_ok hm) h2
structure DirK (f:DFS) (d k:Nat):Prop where
 kind:(inodeAt f d).kind=2
 zero:k=0→(inodeAt f d).blocks = []∧(inodeAt f d).size=0
 one:k=1→∃ b:Nat,(inodeAt f d).blocks = [(b:Int)]∧(inodeAt f d).size=16
def dirAdd (f:DFS) (d i:Nat) (r:Str):DFS:=
 if (inodeAt f d).size=0 then
  if (nextB f (inodeAt f d).uid).2=0 then blkF f d (inodeAt f d) r (nextB f (inodeAt f d).uid).1 else freeF f i
 else recF f d ((inodeAt f d).blocks.headD 0).toNat r
structure Added (f g:DFS) (d i k:Nat):Prop where
 fs:IsFS g
 other:∀ j:Int,j.toNat≠i→j.toNat≠d→inodeAt g j=inodeAt f j
 quotas:g.quotas=f.quotas
 tick:g.tick=f.tick
 res:(inodeAt g i=inodeAt f i∧DirK g d (k + 1)∧(∃ b s,inodeAt g d={ inodeAt f d with blocks:=b,size:=s }))∨
  (inodeAt g i=zeroInode∧inodeAt g d=inodeAt f d)
theorem dirAdd_ok {f:DFS} {d i k:Nat} {r:Str} (hf:IsFS f) (hd:d < 20) (hi:i < 20) (hne:i≠d) (hi0:i≠0) (hk:DirK f d k) (hk1:k≤1) (hr:r.length=16):Added f (dirAdd f d i r) d i k:=by
 have hdl:d < f.inodes.length:=by rw [hf.ni];exact hd
 have hil:i < f.inodes.length:=by rw [hf.ni];exact hi
 have hkd:=hk.kind
 have hok:InodeOK (inodeAt f d):=(isInode_ok (by rw [hkd];decide)).1 (hf.sm d ⟨by omega,by omega⟩)
 unfold dirAdd
 by_cases h0:k=0
 ·obtain ⟨hb,hz⟩:=hk.zero h0
  rw [if_pos hz]
  split
  ·rename_i hn
   obtain ⟨b,e,_⟩:=nextB_ok hok.uid hn
   rw [e]
   obtain ⟨a1,a2,a3⟩:=IsFS.blk (s:=r) ⟨hf,hd,hok,by rw [hz,hb];rfl,by rw [hb];decide, .inl rfl⟩ (by omega) e hn
   have hat:=fun j=>inodeAt_blkF (n:=inodeAt f d) (s:=r) (b:=(b:Int)) hdl j
   refine ⟨a1,fun j h1 h2=>by rw [hat,if_neg h2],rfl,rfl, .inl ⟨by rw [hat,if_neg (by simpa using hne)],⟨?_,fun h=>by omega,fun _=>⟨b,?_,?_⟩⟩,?_⟩⟩
   ·rw [hat,if_pos (by simp)];exact hkd
   ·rw [hat,if_pos (by simp)];simp [blkN,hb]
   ·rw [hat,if_pos (by simp)];simp [blkN,hz,hr]
   ·rw [hat,if_pos (by simp)];exact ⟨_,_,rfl⟩
  ·have hat:=fun j:Int=>inodeAt_set (f:=f) (n:=zeroInode) (D:=zeroR f.data (real (inodeAt f i).blocks)) hil j
   have e:freeF f i=⟨f.tick,f.quotas,f.inodes.set i zeroInode,zeroR f.data (real (inodeAt f i).blocks)⟩:=rfl
   refine ⟨IsFS.free hf ⟨by omega,by omega⟩ (by omega),fun j h1 h2=>by rw [e,hat,if_neg h1],rfl,rfl, .inr ⟨by rw [e,hat,if_pos (by simp)],by rw [e,hat,if_neg (by simp;omega)]⟩⟩
 ·have h1:k=1:=by omega
  obtain ⟨b,hb,hz⟩:=hk.one h1
  rw [if_neg (by omega),hb]
  have a1:=IsFS.record (r:=r) hf hd hb hz hr
  have e:recF f d ((([(b:Int)]:List Int).headD 0).toNat) r=⟨f.tick,f.quotas,f.inodes.set d { inodeAt f d with size:=32 },f.data.set b ((f.data.getD b []).take 16++r)⟩:=rfl
  have hat:=fun j:Int=>inodeAt_set (f:=f) (n:={ inodeAt f d with size:=32 }) (D:=f.data.set b ((f.data.getD b []).take 16++r)) hdl j
  refine ⟨a1,fun j h2 h3=>by rw [e,hat,if_neg h3],rfl,rfl, .inl ⟨by rw [e,hat,if_neg (by simpa using hne)],⟨?_,fun h=>by omega,fun h=>by omega⟩,?_⟩⟩
  ·rw [e,hat,if_pos (by simp)];exact hkd
  ·rw [e,hat,if_pos (by simp)];exact ⟨_,_,rfl⟩
def addL (f:DFS) (d i:Nat) (n:DInode) (l:List Str) (r:Str):DFS:=dirAdd (setN (drawB i f n l).1 i (linkN (drawB i f n l).2)) d i r
structure PutIn (f g:DFS) (d i k:Nat) (n:DInode) (l:List Str):Prop where
 fs:IsFS g
 other:∀ j:Int,j.toNat≠i→j.toNat≠d→inodeAt g j=inodeAt f j
 quotas:g.quotas=f.quotas
 tick:g.tick=f.tick
 res:(DirK g d (k + 1)∧(∃ b s,inodeAt g i={ n with links:=1,blocks:=b,size:=s }∧(l = []→b = []∧s=0))∧(∃ b s,inodeAt g d={ inodeAt f d with blocks:=b,size:=s }))∨
  (inodeAt g i=zeroInode∧inodeAt g d=inodeAt f d)
theorem addL_ok {f:DFS} {d i k:Nat} {n:DInode} {l:List Str} {r:Str} (hf:IsFS f) (hd:d < 20) (hi:i < 20) (hne:i≠d) (hi0:i≠0) (hk:DirK f d k) (hk1:k≤1) (hr:r.length=16) (hfree:(inodeAt f i).kind=0)
  (hn:InodeOK n) (hb:n.blocks = []) (hz:n.size=0) (h8:l.length≤8) (hs:∀ s ∈ l,0 < s.length∧s.length≤32) (hl:∀ s ∈ l.dropLast,s.length=32):PutIn f (addL f d i n l r) d i k n l:=by
 have hnil:l = []→(drawB i f n l).2=n:=by rintro rfl;rfl
 have h1:=drawB_ok hi (l:=l) hf hn (.inr ⟨hfree,hb⟩) (fun _=>by rw [hz,hb];rfl) (by rw [hb];simpa using h8) hs hl
 unfold addL
 generalize drawB i f n l=p at *
 obtain ⟨g,m⟩:=p
 simp only at h1 hnil ⊢
 have hgl:((i:Int)).toNat < g.inodes.length:=by rw [h1.fs.ni];simpa using hi
 have hat:=fun j=>setN_at (n:=linkN m) hgl j
 have h2:=h1.fs.link hi h1.ok h1.at_
 have hdi:inodeAt (setN g i (linkN m)) d=inodeAt f d:=by
  rw [hat,if_neg (by simp;omega),h1.other d (by simp;omega)]
 have h3:=dirAdd_ok (r:=r) h2 hd hi hne hi0 (k:=k) ⟨by rw [hdi];exact hk.kind,fun h=>by rw [hdi];exact hk.zero h,fun h=>by rw [hdi];exact hk.one h⟩ hk1 hr
 refine ⟨h3.fs,fun j a b => ?_,h3.quotas.trans h1.quotas,h3.tick.trans h1.tick,?_⟩
 ·rw [h3.other j a b,hat,if_neg (by simpa using a),h1.other j a]
 ·rcases h3.res with ⟨e1,e2,e3⟩ | ⟨e1,e2⟩
  ·refine .inl ⟨e2,⟨m.blocks,m.size,?_,fun e=>by rw [hnil e];exact ⟨hb,hz⟩⟩,?_⟩
   ·rw [e1,hat,if_pos rfl]
    have:=h1.rest
    unfold linkN
    conv=>lhs;rw [this]
   ·rw [hdi] at e3
    exact e3
  ·exact .inr ⟨e1,by rw [e2,hdi]⟩
end Go.Fw
