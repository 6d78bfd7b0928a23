import Derived.Test.YtgopfdninbknpaaGreatP16l
namespace Go.Proofs.YtgopfdninbknpaaGreat
open Go.Fw
set_option linter.unusedVariables false
set_option linter.unusedSimpArgs false
set_option maxHeartbeats 1000000
set_option maxRecDepth 8000
theorem makeF_has {f:DFS} {c:DCred} {d kind mode:Int} {s:Str} (hok:MakeOk f c kind mode) (hd:hasI f d=true) (h0:(makeF f c d s kind mode).2.2=0):IsFS (makeF f c d s kind mode).1∧hasI (makeF f c d s kind mode).1 (makeF f c d s kind mode).2.1=true:=by
 unfold makeF at h0 ⊢
 split
 ·rename_i h;rw [if_pos h] at h0;cases h0
 rename_i h1
 rw [if_neg h1] at h0
 split
 ·rename_i h;rw [if_pos h] at h0;cases h0
 rename_i h2
 rw [if_neg h2] at h0
 split
 ·rename_i h;rw [if_pos h] at h0;exact absurd h0 h
 rename_i h3
 rw [if_neg h3] at h0
 obtain ⟨k,h4,h5,h6⟩:=nextI_ok hok.cr.2.1 (Classical.not_not.1 h3)
 split
 ·rename_i h7
  rw [h4] at h7 ⊢
  have hir:(0:Int)≤(k:Int)∧(k:Int) < 20:=by omega
  have hne:=free_ne hd hir h6
  have hg:=hok.fs.fresh hir h6 (newN_ok hok.fs hok.cr hd hok.kd hok.md hok.m2) rfl
  have hgd:hasI (setN f k (newN f c d kind mode)) d=true:=by rw [fresh_has hok.fs hir hne];exact hd
  have hdl:=hasI_lt hd
  have hkp:=addF_keeps (f:=setN f k (newN f c d kind mode)) (d:=d) (s:=s) (i:=k) ⟨hdl.1,by rw [hg.ni];omega⟩
  have hy:=hg.add (SmF.of hg) hgd h7
  refine ⟨hy.touch (by rw [hkp.has];exact hgd),?_⟩
  simp only
  rw [touch_has (by rw [hy.ni];omega),hkp.has]
  unfold hasI
  rw [setN_at (by rw [hok.fs.ni];omega),if_pos rfl]
  have hk0:kind≠0:=by rcases hok.kd with h | h<;>omega
  simp [newN,hk0]
  omega
 ·rename_i h7
  rw [if_neg h7] at h0
  exact absurd h0 h7
theorem makeO_has {f:DFS} {c:DCred} {p:Str} {kind mode:Int} (h0:(makeO f c p kind mode).2.2=0):IsFS (makeO f c p kind mode).1∧hasI (makeO f c p kind mode).1 (makeO f c p kind mode).2.1=true:=by
 unfold makeO at h0 ⊢
 split
 ·rename_i h;rw [if_pos h] at h0;cases h0
 rename_i h1
 rw [if_neg h1] at h0
 have hok:=tr_iff.1 (by simpa using h1:tr (MakeOk f c kind mode)=true)
 split
 ·rename_i h;rw [if_pos h] at h0;exact absurd h0 h
 rename_i h2
 rw [if_neg h2] at h0
 have hq:=resolveQ_ok (Classical.not_not.1 h2)
 exact makeF_has hok (isDir_use hq.2.2.1) h0
theorem makeO_fail {f:DFS} {c:DCred} {p:Str} {kind mode:Int} (h0:(makeO f c p kind mode).2.2≠0):(makeO f c p kind mode).1=f:=by
 unfold makeO makeF at h0 ⊢
 split
 ·rfl
 rename_i h1
 rw [if_neg h1] at h0
 split
 ·rfl
 rename_i h2
 rw [if_neg h2] at h0
 split
 ·rfl
 rename_i h3
 rw [if_neg h3] at h0
 split
 ·rfl
 rename_i h4
 rw [if_neg h4] at h0
 split
 ·rfl
 rename_i h5
 rw [if_neg h5] at h0
 split
 ·rename_i h6
  rw [if_pos h6] at h0
  exact absurd rfl h0
 ·rfl
noncomputable def openD (s:DSystem) (k:Int) (p:Str) (flags mode:Int):DSystem × Int × Int:=
 if flagsB flags=false then (s,0,1) else if freeFd 0 (procAt s k).files < 0 then (s,0,13)
 else if (resolveF s.fs (procAt s k).cred p).2=3∧¬ iAnd flags 8=0 then
  (if (makeO s.fs (procAt s k).cred p 1 mode).2.2=0 then (openT s k.toNat (freeFd 0 (procAt s k).files).toNat (makeO s.fs (procAt s k).cred p 1 mode).1 (makeO s.fs (procAt s k).cred p 1 mode).2.1 flags,freeFd 0 (procAt s k).files,0) else (s,0,(makeO s.fs (procAt s k).cred p 1 mode).2.2))
 else if (resolveF s.fs (procAt s k).cred p).2≠0 then (s,0,(resolveF s.fs (procAt s k).cred p).2)
 else if isDirI s.fs (resolveF s.fs (procAt s k).cred p).1=true then (s,0,6)
 else if mayI s.fs (procAt s k).cred (resolveF s.fs (procAt s k).cred p).1 (iAnd flags 6)=false then (s,0,2)
 else (openT s k.toNat (freeFd 0 (procAt s k).files).toNat s.fs (resolveF s.fs (procAt s k).cred p).1 flags,freeFd 0 (procAt s k).files,0)
theorem files_zero {s:DSystem} {p:DProc} (h:IsSystem s) (hp:p ∈ s.procs):∀ o ∈ p.files,o.flags=0→o=zOpen:=by
 intro o ho h0
 rcases (h.proc p hp).2.2 o ho with h1 | h1
 ·exact h1
 ·have:=h1.1;omega
theorem impl_open (s:DSystem) (k flags mode:Int) (p:Str) (hS:IsSystem s) (hk:0≤k∧k < 4) (hp:p.length≤1048576):Snd Tryz.prog 139 [wSys s, .int .i64 k, .str p, .int .i64 flags, .int .i64 mode] (.tup [.int .i64 (openD s k p flags mode).2.1, .int .i64 (openD s k p flags mode).2.2]) [wSys (openD s k p flags mode).1, .unk, .unk, .unk, .unk]:=Runs.snd (M:=M) (c:=⟨5,[10,11,12,13,14,15,18,38,49,73,75,79,85,97],[],[]⟩) tok ks mixed Tryz.func139 (p := [0]) (by kernel_rfl) (by rfl) (by rfl) <| by
 have hm:=hS.mid
 have hf:=hS.fs
 have hsf:=SmF.of hf
 have hn:=hf.ni
 obtain ⟨a,rfl⟩:=Int.eq_ofNat_of_zero_le hk.1
 have hal:a < s.procs.length:=by rw [hS.np];omega
 have hpa:procAt s a=s.procs[a]:=by simp [procAt,hal]
 obtain ⟨hcr,hfl,-⟩:=hm.proc _ (List.getElem_mem hal)
 have hcl:=cred_len hcr
 have cf:=impl_flagsOk flags
 have hz:=idxZ_free (j:=0) (files_zero hS (List.getElem_mem hal))
 have ci:=fun x=>slices_IndexOpen x s.procs[a].files (by rw [hfl];decide)
 rw [hz] at ci
 have hfr:=freeFd_range (l:=s.procs[a].files) (j:=0)
 obtain ⟨A,hA⟩:∃ A,A=openD s a p flags mode:=⟨_,rfl⟩
 rw [←hA]
 unfold openD at hA
 rw [hpa] at hA
 by_cases hfb:flagsB flags=true
 rotate_left
 ·have hfb':flagsB flags=false:=by simpa using hfb
  rw [if_pos hfb'] at hA
  subst hA
  (try simp -implicitDefEqProofs (disch:=first|exact dd|fail)[Tryz.f139,hfb']);(repeat'((with_reducible first|(refine Br.out ?_ ?_<;>intro h<;>(try(have h0:=h;simp only[bH]at h)))|refine AC_snd (cf) ?_|fail)<;>(try simp -implicitDefEqProofs (disch:=first|exact dd|fail)[Tryz.f139,hfb'])))
 rw [if_neg (by simp [hfb])] at hA
 generalize freeFd 0 s.procs[a].files=fd at *
 by_cases hfd:fd < 0
 ·rw [if_pos hfd] at hA
  subst hA
  (try simp -implicitDefEqProofs (disch:=first|exact dd|fail)[Tryz.f139,hfb,hal,hfd,cProc]);(repeat'((with_reducible first|(refine Br.out ?_ ?_<;>intro h<;>(try(have h0:=h;simp only[bH]at h)))|refine AC_snd (cf) ?_|refine AC_snd (ci _) ?_|fail)<;>(try simp -implicitDefEqProofs (disch:=first|exact dd|fail)[Tryz.f139,hfb,hal,hfd,cProc])))
 rw [if_neg hfd] at hA
 obtain ⟨b,rfl⟩:=Int.eq_ofNat_of_zero_le (Int.not_lt.1 hfd)
 have hbl:b < s.procs[a].files.length:=by
  rcases hfr with h1 | h1
  ·omega
  ·omega
 have cres:=fun x y z w=>impl_ResolvePath x y z w s.fs s.procs[a].cred p hsf hcl hp
 have hok:=resolveF_ok (f:=s.fs) (c:=s.procs[a].cred) (p:=p)
 have cmk:=fun x y z w=>impl_NewObject x y z w s.fs s.procs[a].cred p 1 mode hsf hcl hp
 have hmk:=makeO_has (f:=s.fs) (c:=s.procs[a].cred) (p:=p) (kind:=1) (mode:=mode)
 have hmf:=makeO_fail (f:=s.fs) (c:=s.procs[a].cred) (p:=p) (kind:=1) (mode:=mode)
 have cdir:=fun x y z i=>impl_isDir x y z s.fs i hn
 have cmay:=fun x y z w i v=>impl_may x y z w s.fs s.procs[a].cred i v hn hsf hcl
 simp only [Int.toNat_natCast] at hA
 generalize resolveF s.fs s.procs[a].cred p=r at *
 generalize makeO s.fs s.procs[a].cred p 1 mode=m at *
 obtain ⟨i,e⟩:=r
 obtain ⟨mf,mi,me⟩:=m
 have hrow:=fun (o:DOpen)=>(show (s.procs.map cProc).set a (cProc ⟨s.procs[a].cred,s.procs[a].files.set b o⟩)=(setOpen s.procs a b o).map cProc by rw [setOpen_at hal];exact List.map_set.symm)
 have hbl3:b < 3:=by omega
 have hpl:=fun (o:DOpen)=>setOpen_len (ps:=s.procs) (k:=a) (fd:=b) (o:=o)
 -- the last steps,on a valid file system with an inode in use
 have fin:∀ (g:DFS) (i:Int),IsFS g→hasI g i=true→∃ x:Nat,i=x∧x < g.inodes.length∧∃ g2 L:_,Snd Tryz.prog 189 [wFS g, .int .i64 i, .int .i64 0] (.int .i64 0) [wFS g2, .unk, .unk]∧∃ hx:x < g2.inodes.length,g2.inodes.length=g.inodes.length∧
   (g2.inodes.map cInode).set x (cInode { g2.inodes[x] with tick:=g2.tick })=List.map cInode L∧L.length=g2.inodes.length∧touchF (resizeS g i 0) i=⟨g2.tick,g2.quotas,L,g2.data⟩:=by
  intro g i hg hi
  have hl:=hasI_lt hi
  have c1:=impl_resize g i 0 (SmF.of hg) hg hi (by decide)
  rw [resizeF,if_neg (by decide),if_neg (by decide)] at c1
  have hk:=resizeS_keeps (f:=g) (i:=i) (Z:=0) ⟨hl.1,by rw [hg.ni];omega⟩
  obtain ⟨x,rfl⟩:=Int.eq_ofNat_of_zero_le hl.1
  have hx:x < g.inodes.length:=by rw [hg.ni];omega
  refine ⟨x,rfl,hx,resizeS g x 0,(resizeS g x 0).inodes.set x { (resizeS g x 0).inodes[x]'(by rw [hk.nl];exact hx) with tick:=(resizeS g x 0).tick },c1,by rw [hk.nl];exact hx,hk.nl,List.map_set.symm,List.length_set,?_⟩
  unfold touchF setN
  rw [inodeAt_nat (by rw [hk.nl];exact hx)]
  simp
 by_cases h3:e=3∧¬ iAnd flags 8=0
 ·rw [if_pos h3] at hA
  obtain ⟨rfl,h8⟩:=h3
  by_cases hme:me=0
  rotate_left
  ·simp [hme] at hA
   subst hA
   have:=hmf hme
   simp only at this
   subst this
   (try simp -implicitDefEqProofs (disch:=first|exact dd|fail)[Tryz.f139,hfb,hal,h8,hme,cProc]);(repeat'((with_reducible first|(refine Br.out ?_ ?_<;>intro h<;>(try(have h0:=h;simp only[bH]at h)))|refine AC_snd (cf) ?_|refine AC_snd (ci _) ?_|refine AC_snd (cres _ _ _ _) ?_|refine AC_snd (cmk _ _ _ _) ?_|fail)<;>(try simp -implicitDefEqProofs (disch:=first|exact dd|fail)[Tryz.f139,hfb,hal,h8,hme,cProc])))
  subst hme
  have hmk:=hmk rfl
  simp only at hmk hA
  rw [if_pos trivial] at hA
  obtain ⟨x,rfl,hx,g2,L,cz,hx2,hl2,hr2,hL,ht⟩:=fin mf mi hmk.1 hmk.2
  unfold openT at hA
  rw [ht] at hA
  have hrow:=hrow ⟨x,0,flags⟩
  have hpl:=hpl ⟨x,0,flags⟩
  have hLm:=hL.trans hl2
  generalize setOpen s.procs a b ⟨x,0,flags⟩=Q at *
  simp only [cProc,cOpen,cInode,List.map_set] at hrow hr2
  by_cases h16:iAnd flags 16=0
  ·simp [h16] at hA
   subst hA
   (try simp -implicitDefEqProofs (disch:=first|exact dd|fail)[Tryz.f139,hfb,hal,hbl,h8,h16,hrow,hpl,hLm,cProc,cOpen,cInode]);(repeat'((with_reducible first|(refine Br.out ?_ ?_<;>intro h<;>(try(have h0:=h;simp only[bH]at h)))|refine AC_snd (cf) ?_|refine AC_snd (ci _) ?_|refine AC_snd (cres _ _ _ _) ?_|refine AC_snd (cmk _ _ _ _) ?_|fail)<;>(try simp -implicitDefEqProofs (disch:=first|exact dd|fail)[Tryz.f139,hfb,hal,hbl,h8,h16,hrow,hpl,hLm,cProc,cOpen,cInode])))
  ·simp [h16] at hA
   subst hA
   (try simp -implicitDefEqProofs (disch:=first|exact dd|fail)[Tryz.f139,hfb,hal,hbl,h8,h16,hrow,hpl,hLm,hx,hx2,hl2,hr2,hL,cProc,cOpen,cInode]);(repeat'((with_reducible first|(refine Br.out ?_ ?_<;>intro h<;>(try(have h0:=h;simp only[bH]at h)))|refine AC_snd (cf) ?_|refine AC_snd (ci _) ?_|refine AC_snd (cres _ _ _ _) ?_|refine AC_snd (cmk _ _ _ _) ?_|refine AC_snd (cz) ?_|fail)<;>(try simp -implicitDefEqProofs (disch:=first|exact dd|fail)[Tryz.f139,hfb,hal,hbl,h8,h16,hrow,hpl,hLm,hx,hx2,hl2,hr2,hL,cProc,cOpen,cInode])))
 rw [if_neg h3] at hA
 have h38:¬ e=3∨iAnd flags 8=0:=by
  by_cases q:e=3
  ·right
   exact Classical.not_not.1 fun q2=>h3 ⟨q,q2⟩
  ·exact .inl q
 by_cases he:e=0
 rotate_left
 ·simp [he] at hA
  subst hA
  rcases h38 with h38 | h38
  ·(try simp -implicitDefEqProofs (disch:=first|exact dd|fail)[Tryz.f139,hfb,hal,h38,he,cProc]);(repeat'((with_reducible first|(refine Br.out ?_ ?_<;>intro h<;>(try(have h0:=h;simp only[bH]at h)))|refine AC_snd (cf) ?_|refine AC_snd (ci _) ?_|refine AC_snd (cres _ _ _ _) ?_|fail)<;>(try simp -implicitDefEqProofs (disch:=first|exact dd|fail)[Tryz.f139,hfb,hal,h38,he,cProc])))
  ·(try simp -implicitDefEqProofs (disch:=first|exact dd|fail)[Tryz.f139,hfb,hal,h38,he,cProc]);(repeat'((with_reducible first|(refine Br.out ?_ ?_<;>intro h<;>(try(have h0:=h;simp only[bH]at h)))|refine AC_snd (cf) ?_|refine AC_snd (ci _) ?_|refine AC_snd (cres _ _ _ _) ?_|fail)<;>(try simp -implicitDefEqProofs (disch:=first|exact dd|fail)[Tryz.f139,hfb,hal,h38,he,cProc])))
 subst he
 have h1:=hok rfl
 simp only [ne_eq,not_true_eq_false,if_false] at hA h1
 by_cases hd:isDirI s.fs i=true
 ·rw [if_pos hd] at hA
  subst hA
  (try simp -implicitDefEqProofs (disch:=first|exact dd|fail)[Tryz.f139,hfb,hal,hd,cProc]);(repeat'((with_reducible first|(refine Br.out ?_ ?_<;>intro h<;>(try(have h0:=h;simp only[bH]at h)))|refine AC_snd (cf) ?_|refine AC_snd (ci _) ?_|refine AC_snd (cres _ _ _ _) ?_|refine AC_snd (cdir _ _ _ _) ?_|fail)<;>(try simp -implicitDefEqProofs (disch:=first|exact dd|fail)[Tryz.f139,hfb,hal,hd,cProc])))
 have hd':isDirI s.fs i=false:=by simpa using hd
 rw [if_neg hd] at hA
 by_cases hmy:mayI s.fs s.procs[a].cred i (iAnd flags 6)=true
 rotate_left
 ·have hmy':mayI s.fs s.procs[a].cred i (iAnd flags 6)=false:=by simpa using hmy
  rw [if_pos hmy'] at hA
  subst hA
  (try simp -implicitDefEqProofs (disch:=first|exact dd|fail)[Tryz.f139,hfb,hal,hd',hmy',cProc]);(repeat'((with_reducible first|(refine Br.out ?_ ?_<;>intro h<;>(try(have h0:=h;simp only[bH]at h)))|refine AC_snd (cf) ?_|refine AC_snd (ci _) ?_|refine AC_snd (cres _ _ _ _) ?_|refine AC_snd (cdir _ _ _ _) ?_|refine AC_snd (cmay _ _ _ _ _ _) ?_|fail)<;>(try simp -implicitDefEqProofs (disch:=first|exact dd|fail)[Tryz.f139,hfb,hal,hd',hmy',cProc])))
 rw [if_neg (by simp [hmy])] at hA
 obtain ⟨x,rfl,hx,g2,L,cz,hx2,hl2,hr2,hL,ht⟩:=fin s.fs i hf h1.2.2
 unfold openT at hA
 rw [ht] at hA
 have hrow:=hrow ⟨x,0,flags⟩
 have hpl:=hpl ⟨x,0,flags⟩
 have hLm:=hL.trans hl2
 generalize setOpen s.procs a b ⟨x,0,flags⟩=Q at *
 simp only [cProc,cOpen,cInode,List.map_set] at hrow hr2
 by_cases h16:iAnd flags 16=0
 ·simp [h16] at hA
  subst hA
  (try simp -implicitDefEqProofs (disch:=first|exact dd|fail)[Tryz.f139,hfb,hal,hbl,hd',hmy,h16,hrow,hpl,hLm,cProc,cOpen,cInode]);(repeat'((with_reducible first|(refine Br.out ?_ ?_<;>intro h<;>(try(have h0:=h;simp only[bH]at h)))|refine AC_snd (cf) ?_|refine AC_snd (ci _) ?_|refine AC_snd (cres _ _ _ _) ?_|refine AC_snd (cdir _ _ _ _) ?_|refine AC_snd (cmay _ _ _ _ _ _) ?_|fail)<;>(try simp -implicitDefEqProofs (disch:=first|exact dd|fail)[Tryz.f139,hfb,hal,hbl,hd',hmy,h16,hrow,hpl,hLm,cProc,cOpen,cInode])))
 ·simp [h16] at hA
  subst hA
  (try simp -implicitDefEqProofs (disch:=first|exact dd|fail)[Tryz.f139,hfb,hal,hbl,hd',hmy,h16,hrow,hpl,hLm,hx,hx2,hl2,hr2,hL,cProc,cOpen,cInode]);(repeat'((with_reducible first|(refine Br.out ?_ ?_<;>intro h<;>(try(have h0:=h;simp only[bH]at h)))|refine AC_snd (cf) ?_|refine AC_snd (ci _) ?_|refine AC_snd (cres _ _ _ _) ?_|refine AC_snd (cdir _ _ _ _) ?_|refine AC_snd (cmay _ _ _ _ _ _) ?_|refine AC_snd (cz) ?_|fail)<;>(try simp -implicitDefEqProofs (disch:=first|exact dd|fail)[Tryz.f139,hfb,hal,hbl,hd',hmy,h16,hrow,hpl,hLm,hx,hx2,hl2,hr2,hL,cProc,cOpen,cInode])))
noncomputable def openS (s:DSystem) (k:Int) (p:Str) (flags mode:Int):DSystem × Int × Int:=if isSystem s=true∧0≤k∧k < 4 then openD s k p flags mode else (s,0,1)
end Go.Proofs.YtgopfdninbknpaaGreat
