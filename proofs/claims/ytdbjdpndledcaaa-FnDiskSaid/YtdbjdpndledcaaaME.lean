/- Plain law: every file system that the draws make is in order, and what is in use is linked. -/
import Derived.Test.YtdbjdpndledcaaaMD
namespace Go.Fw
set_option linter.unusedVariables false
set_option linter.unusedSimpArgs false
theorem PutIn.dir {f g:DFS} {d i k:Nat} {n:DInode} {l:List Str} (h:PutIn f g d i k n l) (hk:DirK f d k) (h0:k=0):∃ k',k'≤1∧DirK g d k':=by
 rcases h.res with ⟨e,_,_⟩ | ⟨_,e⟩
 ·exact ⟨k + 1,by omega,e⟩
 ·exact ⟨k,by omega,⟨by rw [e];exact hk.kind,fun h=>by rw [e];exact hk.zero h,fun h=>by rw [e];exact hk.one h⟩⟩
theorem PutIn.new {f g:DFS} {d i k:Nat} {n:DInode} {l:List Str} (h:PutIn f g d i k n l) (hl:l = []) (hn:n.kind=2) (hg:(inodeAt g i).kind=2):DirK g i 0:=by
 rcases h.res with ⟨_,⟨b,s,e,e2⟩,_⟩ | ⟨e,_⟩
 ·obtain ⟨e3,e4⟩:=e2 hl
  refine ⟨hg,fun _ => ?_,fun h=>by omega⟩
  rw [e,e3,e4]
  exact ⟨rfl,rfl⟩
 ·rw [e] at hg
  cases hg
theorem DirK.keep {f g:DFS} {d k:Nat} (h:DirK f d k) (e:inodeAt g d=inodeAt f d):DirK g d k:=⟨by rw [e];exact h.kind,fun h1=>by rw [e];exact h.zero h1,fun h1=>by rw [e];exact h.one h1⟩
theorem zeroI_kind:zeroInode.kind=0:=rfl
def drawD (f:DFS) (u:Nat) (c:DCur):DFS × DCur:=
 if (onceC c 2).1=true then (addL f (u * 5) (u * 5 + 3) (freshN 2 493 u (belowC (onceC c 2).2 4).1 [] []) [] (recD (u * 5 + 3) [100]),(belowC (onceC c 2).2 4).2) else (f,(onceC c 2).2)
def drawG (f:DFS) (u:Nat) (c:DCur):DFS × DCur:=
 let w:=belowC c 4
 let m:=pickC (0:Int) w.2 [420,438,384]
 let g:=belowC m.2 4
 let s:=drawS g.2 9
 drawD (addL f (u * 5) (w.1.toNat * 5 + 2) (freshN 1 m.1 w.1 g.1 [] []) (cut32 s.1) (recD (w.1.toNat * 5 + 2) [103])) u s.2
def drawF (f:DFS) (u:Nat) (c:DCur):DFS × DCur:=
 let v:=belowC c 4
 let m:=pickC (0:Int) v.2 [420,438,384,416,511]
 let g:=belowC m.2 4
 let a:=drawAcl g.2
 let s:=drawS a.2 40
 let h:=addL f 0 (v.1.toNat * 5 + 1) (freshN 1 m.1 v.1 g.1 a.1 []) (cut32 s.1) (recD (v.1.toNat * 5 + 1) [102])
 if (onceC s.2 3).1=true∨(inodeAt h ((u * 5:Nat):Int)).kind≠2 then (h,(onceC s.2 3).2) else drawG h u (onceC s.2 3).2
def drawA (f:DFS) (c:DCur):DFS × DCur:=
 let u:=belowC c 3
 let m:=pickC (0:Int) u.2 [493,511,448,504,1535]
 let g:=belowC m.2 4
 let a:=drawAcl g.2
 let b:=drawAcl a.2
 let h:=addL f 0 ((1 + u.1.toNat) * 5) (freshN 2 m.1 (1 + u.1) g.1 a.1 b.1) [] (recD ((1 + u.1.toNat) * 5) [97])
 if (onceC b.2 3).1=true then (h,(onceC b.2 3).2) else drawF h (1 + u.1.toNat) (onceC b.2 3).2
def drawFS (c:DCur):DFS × DCur:=
 let q:=drawQ c
 let t:=belowC q.2 9
 if (onceC t.2 8).1=true then (rootF t.1 q.1 493,(onceC t.2 8).2) else
  let m:=pickC (0:Int) (onceC t.2 8).2 [493,511,511,1023]
  drawA (rootF t.1 q.1 m.1) m.2
theorem drawD_ok {f:DFS} {u k:Nat} {c:DCur} (hu:1≤u∧u < 4) (hf:Drawn f) (hk1:k≤1) (hk:DirK f (u * 5) k) (hz:(inodeAt f ((u * 5 + 3:Nat):Int)).kind=0):Drawn (drawD f u c).1:=by
 unfold drawD
 split
 ·have h:=addL_ok (i:=u * 5 + 3) (r:=recD (u * 5 + 3) [100]) (l := []) hf.fs (by omega) (by omega) (by omega) (by omega) hk hk1 recD_len hz
   (freshN_ok (gid:=(belowC (onceC c 2).2 4).1) (.inr rfl) (show IsMode 493 from ⟨by decide,by decide⟩) (show IsUser (u:Int) from ⟨by omega,by omega⟩) user4 (tr_iff.1 (isAcl_nil (l := []) rfl)) (tr_iff.1 (isAcl_nil (l := []) rfl)) (.inl rfl)) rfl rfl (by simp) (by simp) (by simp)
  exact Drawn.put h (by omega) hf
 ·exact hf
theorem drawG_ok {f:DFS} {u:Nat} {c:DCur} (hu:1≤u∧u < 4) (hf:Drawn f) (hk:DirK f (u * 5) 0) (hz:∀ w:Nat,(inodeAt f ((w * 5 + 2:Nat):Int)).kind=0) (hz3:(inodeAt f ((u * 5 + 3:Nat):Int)).kind=0):Drawn (drawG f u c).1:=by
 unfold drawG
 have hw:=user4 (c:=c)
 generalize belowC c 4=w at *
 have hm:(pickC (0:Int) w.2 [420,438,384]).1 ∈ ([420,438,384]:List Int):=pickC_mem (by decide)
 simp only
 generalize pickC (0:Int) w.2 [420,438,384]=m at *
 have hg:=user4 (c:=m.2)
 generalize belowC m.2 4=g at *
 have hs:=drawS_len (c:=g.2) (n:=9) (by decide)
 generalize drawS g.2 9=s at *
 have hcut:=cut32_ok (s:=s.1) (by omega)
 have hwu:0≤w.1∧w.1 < 4:=hw
 have h:=addL_ok (i:=w.1.toNat * 5 + 2) (r:=recD (w.1.toNat * 5 + 2) [103]) (l:=cut32 s.1) hf.fs (show u * 5 < 20 by omega) (by omega) (by omega) (by omega) hk (by omega) recD_len (hz _)
  (freshN_ok (gid:=g.1) (.inl rfl) (show IsMode m.1 by
   simp only [List.mem_cons,List.mem_nil_iff,or_false] at hm
   exact ⟨by omega,by omega⟩) hw hg (tr_iff.1 (isAcl_nil (l := []) rfl)) (tr_iff.1 (isAcl_nil (l := []) rfl)) (.inr ⟨rfl,by
   simp only [List.mem_cons,List.mem_nil_iff,or_false] at hm
   rcases hm with h | h | h<;>rw [h]<;>decide⟩)) rfl rfl hcut.1 hcut.2.1 hcut.2.2
 obtain ⟨k',hk',hd⟩:=h.dir hk rfl
 refine drawD_ok hu (Drawn.put h (by omega) hf) hk' hd ?_
 rw [h.other _ (by omega) (by omega)]
 exact hz3
theorem drawF_ok {f:DFS} {u k:Nat} {c:DCur} (hu:1≤u∧u < 4) (hf:Drawn f) (hk1:k≤1) (hk:DirK f 0 k) (hd:(inodeAt f ((u * 5:Nat):Int)).kind=2→DirK f (u * 5) 0) (hz:∀ j:Nat,j≠0→j≠u * 5→(inodeAt f (j:Int)).kind=0):Drawn (drawF f u c).1:=by
 unfold drawF
 have hw:=user4 (c:=c)
 generalize belowC c 4=v at *
 have hm:(pickC (0:Int) v.2 [420,438,384,416,511]).1 ∈ ([420,438,384,416,511]:List Int):=pickC_mem (by decide)
 simp only
 generalize pickC (0:Int) v.2 [420,438,384,416,511]=m at *
 have hg:=user4 (c:=m.2)
 generalize belowC m.2 4=g at *
 have ha:=drawAcl_ok g.2
 generalize drawAcl g.2=a at *
 have hs:=drawS_len (c:=a.2) (n:=40) (by decide)
 generalize drawS a.2 40=s at *
 have hcut:=cut32_ok (s:=s.1) (by omega)
 have hwu:0≤v.1∧v.1 < 4:=hw
 have h:=addL_ok (i:=v.1.toNat * 5 + 1) (r:=recD (v.1.toNat * 5 + 1) [102]) (l:=cut32 s.1) hf.fs (show 0 < 20 by omega) (by omega) (by omega) (by omega) hk hk1 recD_len (hz _ (by omega) (by omega))
  (freshN_ok (gid:=g.1) (.inl rfl) (show IsMode m.1 by
   simp only [List.mem_cons,List.mem_nil_iff,or_false] at hm
   exact ⟨by omega,by omega⟩) hw hg ha.1 (tr_iff.1 (isAcl_nil (l := []) rfl)) (.inr ⟨rfl,by
   simp only [List.mem_cons,List.mem_nil_iff,or_false] at hm
   rcases hm with h | h | h | h | h<;>rw [h]<;>decide⟩)) rfl rfl hcut.1 hcut.2.1 hcut.2.2
 have hdr:=Drawn.put h (by omega) hf
 split
 ·exact hdr
 ·rename_i hc
  have hk2:=Classical.not_not.1 (not_or.1 hc).2
  have e:inodeAt (addL f 0 (v.1.toNat * 5 + 1) (freshN 1 m.1 v.1 g.1 a.1 []) (cut32 s.1) (recD (v.1.toNat * 5 + 1) [102])) ((u * 5:Nat):Int)=inodeAt f ((u * 5:Nat):Int):=h.other _ (by omega) (by omega)
  refine drawG_ok hu hdr ((hd (by rw [←e];exact hk2)).keep e) (fun w => ?_) ?_
  ·rw [h.other _ (by omega) (by omega)]
   exact hz _ (by omega) (by omega)
  ·rw [h.other _ (by omega) (by omega)]
   exact hz _ (by omega) (by omega)
theorem drawA_ok {f:DFS} {c:DCur} (hf:Drawn f) (hk:DirK f 0 0) (hz:∀ j:Nat,j≠0→(inodeAt f (j:Int)).kind=0):Drawn (drawA f c).1:=by
 unfold drawA
 have hu:=belowC_val c (n:=3) (by decide)
 generalize belowC c 3=u at *
 have hm:(pickC (0:Int) u.2 [493,511,448,504,1535]).1 ∈ ([493,511,448,504,1535]:List Int):=pickC_mem (by decide)
 simp only
 generalize pickC (0:Int) u.2 [493,511,448,504,1535]=m at *
 have hg:=user4 (c:=m.2)
 generalize belowC m.2 4=g at *
 have ha:=drawAcl_ok g.2
 generalize drawAcl g.2=a at *
 have hb:=drawAcl_ok a.2
 generalize drawAcl a.2=b at *
 have h:=addL_ok (i:=(1 + u.1.toNat) * 5) (r:=recD ((1 + u.1.toNat) * 5) [97]) (l := []) hf.fs (show 0 < 20 by omega) (by omega) (by omega) (by omega) hk (by omega) recD_len (hz _ (by omega))
  (freshN_ok (uid:=1 + u.1) (gid:=g.1) (.inr rfl) (show IsMode m.1 by
   simp only [List.mem_cons,List.mem_nil_iff,or_false] at hm
   exact ⟨by omega,by omega⟩) (show IsUser (1 + u.1) from ⟨by omega,by omega⟩) hg ha.1 hb.1 (.inl rfl)) rfl rfl (by simp) (by simp) (by simp)
 have hdr:=Drawn.put h (by omega) hf
 split
 ·exact hdr
 ·obtain ⟨k',hk',hd⟩:=h.dir hk rfl
  refine drawF_ok (by omega) hdr hk' hd (fun h2=>h.new rfl rfl h2) (fun j h1 h2 => ?_)
  rw [h.other _ (by simpa using h2) (by simpa using h1)]
  exact hz j h1
theorem drawFS_ok (c:DCur):Drawn (drawFS c).1:=by
 unfold drawFS
 have hq:=drawQ_ok c
 generalize drawQ c=q at *
 have ht:=belowC_val q.2 (n:=9) (by decide)
 simp only
 generalize belowC q.2 9=t at *
 split
 ·exact rootF_ok (by omega) hq.1 hq.2 ⟨by decide,by decide⟩
 ·generalize (onceC t.2 8).2=o at *
  have hm:(pickC (0:Int) o [493,511,511,1023]).1 ∈ ([493,511,511,1023]:List Int):=pickC_mem (by decide)
  generalize pickC (0:Int) o [493,511,511,1023]=m at *
  have hmode:IsMode m.1:=by
   simp only [List.mem_cons,List.mem_nil_iff,or_false] at hm
   exact ⟨by omega,by omega⟩
  refine drawA_ok (rootF_ok (by omega) hq.1 hq.2 hmode) ?_ (fun j hj => ?_)
  ·have e:inodeAt (rootF t.1 q.1 m.1) ((0:Nat):Int)=rootN m.1:=by rw [rootF_at,if_pos rfl]
   exact ⟨by rw [e];rfl,fun _=>by rw [e];exact ⟨rfl,rfl⟩,fun h=>by omega⟩
  ·rw [rootF_at,if_neg hj]
   rfl
end Go.Fw
