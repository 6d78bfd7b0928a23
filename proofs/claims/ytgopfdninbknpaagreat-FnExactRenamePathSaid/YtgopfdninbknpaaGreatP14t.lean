import Derived.Test.YtgopfdninbknpaaGreatP14s
import Derived.Test.YtgopfdninbknpaaGreatP13y
namespace Go.Proofs.YtgopfdninbknpaaGreat
open Go.Fw
set_option linter.unusedVariables false
set_option linter.unusedSimpArgs false
set_option maxHeartbeats 1000000
set_option maxRecDepth 8000
noncomputable def renK (f:DFS) (c:DCred) (d2 i j:Int):Int:=
 if hasI f j=false then 3 else if isDirI f i=true∧isDirI f j=false then 5 else if isDirI f i=false∧isDirI f j=true then 6
 else if mayRemove c (inodeAt f d2).uid (inodeAt f d2).mode (inodeAt f j).uid=false then 12 else if isDirI f j=true∧(entriesI f j).length≠0 then 10 else 0
theorem isDirI_kk {f:DFS} {k:Nat} (h:k < 20):isDirI f k=decide ((inodeAt f k).kind=2):=by
 unfold isDirI
 rw [hasI_kk h]
 by_cases e:(inodeAt f k).kind=2
 ·simp [e]
 ·simp [e]
theorem spec_l14Check (n1 n2 n3 n4:Option Bool) (f:DFS) (c:DCred) (d i j:Nat) (hf:IsFS f) (hc:c.groups.length≤1048576) (hd:d < 20) (hi:i < 20) (hj:j < 20):Snd Tryz.prog 102 [fFS n1 n2 n3 f,fCred n4 c, .int .i64 d, .int .i64 i, .int .i64 j] (.int .i64 (renK f c d i j)) [.unk, .unk, .unk, .unk, .unk]:=Runs.snd (M:=M) (c:=⟨5,[5,6,10,11,12,13,31,34,41,48,62],[],[]⟩) tok ks mixed Tryz.func102 (p := []) (by kernel_rfl) (by rfl) (by rfl) <| by
 have hn:=hf.ni
 have hd1:d < f.inodes.length:=by omega
 have hi1:i < f.inodes.length:=by omega
 have hj1:j < f.inodes.length:=by omega
 have c1:=fun a=>spec_MayRemove a c f.inodes[d].uid f.inodes[d].mode f.inodes[j].uid hc
 have ce:=fun a b e=>spec_l10Entries a b e f j hf ⟨by omega,by omega⟩
 unfold renK
 rw [hasI_kk hj,isDirI_kk hi,isDirI_kk hj,inodeAt_nat hd1,inodeAt_nat hi1,inodeAt_nat hj1]
 generalize mayRemove c f.inodes[d].uid f.inodes[d].mode f.inodes[j].uid=m at *
 generalize entriesI f j=E at *
 generalize hki:f.inodes[i].kind=ki at *
 generalize hkj:f.inodes[j].kind=kj at *
 (try simp -implicitDefEqProofs (disch:=first|exact dd|fail)[Tryz.f102,hd1,hi1,hj1,hki,hkj,cInode]);(repeat'((with_reducible first|(refine Br.out ?_ ?_<;>intro h<;>(try(have h0:=h;simp only[bH]at h)))|refine AC_snd (c1 _) ?_|refine AC_snd (ce _ _ _) ?_|fail)<;>(try simp -implicitDefEqProofs (disch:=first|exact dd|fail)[Tryz.f102,hd1,hi1,hj1,hki,hkj,cInode])))
 all_goals first | (simp [*];done) | grind
noncomputable def renMg (g:DFS) (d1:Int) (s1:Str) (d2:Int) (s2:Str) (i:Int):DFS × Int:=
 if (removeF g d1 s1).2=0 then (if (addF (removeF g d1 s1).1 d2 s2 i).2=0 then (touchF (touchF (addF (removeF g d1 s1).1 d2 s2 i).1 d1) d2,0) else ((removeF g d1 s1).1,(addF (removeF g d1 s1).1 d2 s2 i).2)) else (g,(removeF g d1 s1).2)
noncomputable def renM (f:DFS) (d1:Int) (s1:Str) (d2:Int) (s2:Str) (i j:Int) (is:Bool) (busy:List Int):DFS × Int:=
 if is=true then (if (removeF f d2 s2).2=0 then renMg (unlinkF (removeF f d2 s2).1 j busy) d1 s1 d2 s2 i else (f,(removeF f d2 s2).2)) else renMg f d1 s1 d2 s2 i
theorem renMg_H {g:DFS} {d1 d2 i:Int} {s1 s2:Str}:(renMg g d1 s1 d2 s2 i).2=(renH g d1 s1 d2 s2 i).2∧((renH g d1 s1 d2 s2 i).2=0→(renMg g d1 s1 d2 s2 i).1=(renH g d1 s1 d2 s2 i).1):=by
 unfold renMg renH
 by_cases e:(removeF g d1 s1).2=0
 ·rw [if_pos e,if_pos e]
  by_cases e2:(addF (removeF g d1 s1).1 d2 s2 i).2=0
  ·rw [if_pos e2,if_pos e2]
   exact ⟨rfl,fun _=>rfl⟩
  ·rw [if_neg e2,if_neg e2]
   exact ⟨rfl,fun h=>absurd h e2⟩
 ·rw [if_neg e,if_neg e]
  exact ⟨rfl,fun h=>absurd h e⟩
theorem renM_J {f:DFS} {d1 d2 i j:Int} {s1 s2:Str} {is:Bool} {busy:List Int}:(renM f d1 s1 d2 s2 i j is busy).2=(renJ f d1 s1 d2 s2 i j is busy).2∧((renJ f d1 s1 d2 s2 i j is busy).2=0→(renM f d1 s1 d2 s2 i j is busy).1=(renJ f d1 s1 d2 s2 i j is busy).1):=by
 unfold renM renJ
 cases is with
 | false=>exact renMg_H
 | true=>
  simp only [if_true]
  by_cases e:(removeF f d2 s2).2=0
  ·rw [if_pos e,if_pos e]
   exact renMg_H
  ·rw [if_neg e,if_neg e]
   exact ⟨rfl,fun h=>absurd h e⟩
theorem spec_l14Move (n1 n2 n3 n4:Option Bool) (f:DFS) (d1 d2 i:Nat) (j:Int) (s1 s2:Str) (is:Bool) (busy:List Int) (hf:IsFS f) (h1:hasI f d1=true) (h2:hasI f d2=true) (hi:i < 20) (hj:if is=true then hasI f j=true∧j≠d1∧j≠d2 else j = -1) (hl:s2.length≤1048576) (hb:busy.length≤1048576) :
  Snd Tryz.prog 103 [fFS n1 n2 n3 f, .int .i64 d1, .str s1, .int .i64 d2, .str s2, .int .i64 i, .int .i64 j, .frz 1 n4 (busy.map ci)] (.tup [rFS (renM f d1 s1 d2 s2 i j is busy).1, .int .i64 (renM f d1 s1 d2 s2 i j is busy).2]) [.unk, .unk, .unk, .unk, .unk, .unk, .unk, .unk]:=Runs.snd (M:=M) (c:=⟨8,[8,16,17,18,19,23,32,47,59],[],[]⟩) tok ks mixed Tryz.func103 (p := []) (by kernel_rfl) (by rfl) (by rfl) <| by
 have hs:=SmF.of hf
 have cp:=fun a b d=>spec_l08Copy a b d f hs
 have cont:∀ g:DFS,IsFS g→hasI g d1=true→hasI g d2=true→∃ x v1 y v2 z,(∀ a b d,Snd Tryz.prog 177 [fFS a b d g, .int .i64 d1, .str s1] (.tup [rFS x, .int .i64 v1]) [.unk, .unk, .unk])∧
   ((v1≠0∧renMg g d1 s1 d2 s2 i=(x,v1))∨(v1=0∧(∀ a b d,Snd Tryz.prog 150 [fFS a b d x, .int .i64 d2, .str s2, .int .i64 i] (.tup [rFS y, .int .i64 v2]) [.unk, .unk, .unk, .unk])∧
    ((v2≠0∧renMg g d1 s1 d2 s2 i=(y,v2))∨(v2=0∧renMg g d1 s1 d2 s2 i=(touchF z d2,0)∧Snd Tryz.prog 137 [rFS y, .int .i64 d1] (rFS z) [.unk, .unk]∧Snd Tryz.prog 137 [rFS z, .int .i64 d2] (rFS (touchF z d2)) [.unk, .unk])))):=by
  intro g hg g1 g2
  have k1:=hasI_lt g1
  have k2:=hasI_lt g2
  have hn:=hg.ni
  have hk:=removeF_keeps (f:=g) (d:=d1) (s:=s1) ⟨k1.1,by omega⟩
  have cr:=fun a b d=>spec_l10Remove a b d g d1 s1 (SmF.of hg) hg g1
  by_cases he:(removeF g d1 s1).2=0
  rotate_left
  ·refine ⟨g,(removeF g d1 s1).2,g,0,g,?_, .inl ⟨he,?_⟩⟩
   ·rw [if_neg he] at cr;exact cr
   ·unfold renMg;rw [if_neg he]
  have hx:=hg.remove g1 he
  have x2:hasI (removeF g d1 s1).1 d2=true:=by rw [hk.has];exact g2
  have ca:=fun a b d=>spec_l10Add a b d (removeF g d1 s1).1 d2 i s2 (SmF.of hx) hx x2 hl
  have hk2:=addF_keeps (f:=(removeF g d1 s1).1) (d:=d2) (s:=s2) (i:=i) ⟨k2.1,by rw [hx.ni];omega⟩
  rw [if_pos he] at cr
  by_cases he2:(addF (removeF g d1 s1).1 d2 s2 i).2=0
  ·rw [if_pos he2] at ca
   refine ⟨_,_,_,_,touchF (addF (removeF g d1 s1).1 d2 s2 i).1 d1,cr, .inr ⟨he,ca, .inr ⟨he2,?_,spec_l12Touch _ d1 (by rw [hk2.nl,hx.ni];omega),spec_l12Touch _ d2 (by rw [touch_len,hk2.nl,hx.ni];omega)⟩⟩⟩
   unfold renMg
   rw [if_pos he,if_pos he2]
  ·rw [if_neg he2] at ca
   refine ⟨_,_,_,_,g,cr, .inr ⟨he,ca, .inl ⟨he2,?_⟩⟩⟩
   unfold renMg
   rw [if_pos he,if_neg he2]
 cases is with
 | false=>
  simp only [Bool.false_eq_true,if_false] at hj
  subst hj
  have hM:renM f d1 s1 d2 s2 i (-1) false busy=renMg f d1 s1 d2 s2 i:=by unfold renM;rw [if_neg (by simp)]
  rw [hM]
  obtain ⟨x,v1,y,v2,z,q1,q2⟩:=cont f hf h1 h2
  rcases q2 with ⟨a1,a2⟩ | ⟨a1,q3,⟨a2,a3⟩ | ⟨a2,a3,q4,q5⟩⟩
  ·rw [a2]
   (try simp -implicitDefEqProofs (disch:=first|exact dd|fail)[Tryz.f103,a1]);(repeat'((with_reducible first|(refine Br.out ?_ ?_<;>intro h<;>(try(have h0:=h;simp only[bH]at h)))|refine AC_snd (cp _ _ _) ?_|refine AC_snd (q1 _ _ _) ?_|fail)<;>(try simp -implicitDefEqProofs (disch:=first|exact dd|fail)[Tryz.f103,a1])))
  ·rw [a3]
   subst a1
   (try simp -implicitDefEqProofs (disch:=first|exact dd|fail)[Tryz.f103,a2]);(repeat'((with_reducible first|(refine Br.out ?_ ?_<;>intro h<;>(try(have h0:=h;simp only[bH]at h)))|refine AC_snd (cp _ _ _) ?_|refine AC_snd (q1 _ _ _) ?_|refine AC_snd (q3 _ _ _) ?_|fail)<;>(try simp -implicitDefEqProofs (disch:=first|exact dd|fail)[Tryz.f103,a2])))
  ·rw [a3]
   subst a1 a2
   generalize touchF z d2=z2 at *
   (try simp -implicitDefEqProofs (disch:=first|exact dd|fail)[Tryz.f103]);(repeat'((with_reducible first|(refine Br.out ?_ ?_<;>intro h<;>(try(have h0:=h;simp only[bH]at h)))|refine AC_snd (cp _ _ _) ?_|refine AC_snd (q1 _ _ _) ?_|refine AC_snd (q3 _ _ _) ?_|refine AC_snd (q4) ?_|refine AC_snd (q5) ?_|fail)<;>(try simp -implicitDefEqProofs (disch:=first|exact dd|fail)[Tryz.f103])))
 | true=>
  simp only [if_true] at hj
  have k1:=hasI_lt h1
  have k2:=hasI_lt h2
  have kj:=hasI_lt hj.1
  have hn:=hf.ni
  obtain ⟨J,rfl⟩:=Int.eq_ofNat_of_zero_le kj.1
  have hk:=removeF_keeps (f:=f) (d:=d2) (s:=s2) ⟨k2.1,by omega⟩
  have c0:=fun a b d=>spec_l10Remove a b d f d2 s2 hs hf h2
  by_cases he:(removeF f d2 s2).2=0
  rotate_left
  ·rw [if_neg he] at c0
   have hM:renM f d1 s1 d2 s2 i J true busy=(f,(removeF f d2 s2).2):=by unfold renM;rw [if_pos rfl,if_neg he]
   rw [hM]
   generalize (removeF f d2 s2).2=v at *
   (try simp -implicitDefEqProofs (disch:=first|exact dd|fail)[Tryz.f103,he]);(repeat'((with_reducible first|(refine Br.out ?_ ?_<;>intro h<;>(try(have h0:=h;simp only[bH]at h)))|refine AC_snd (cp _ _ _) ?_|refine AC_snd (c0 _ _ _) ?_|fail)<;>(try simp -implicitDefEqProofs (disch:=first|exact dd|fail)[Tryz.f103,he])))
  rw [if_pos he,he] at c0
  have hx:=hf.remove h2 he
  have xj:hasI (removeF f d2 s2).1 J=true:=by rw [hk.has];exact hj.1
  have hM:renM f d1 s1 d2 s2 i J true busy=renMg (unlinkF (removeF f d2 s2).1 J busy) d1 s1 d2 s2 i:=by unfold renM;rw [if_pos rfl,if_pos he]
  rw [hM]
  have cu:=fun a=>spec_l13Unlink a (removeF f d2 s2).1 J busy hx xj hb
  have hg:=hx.unlink (busy:=busy) xj
  have g1:hasI (unlinkF (removeF f d2 s2).1 J busy) d1=true:=by rw [unlink_has (by rw [hx.ni];omega) (by omega),hk.has];exact h1
  have g2:hasI (unlinkF (removeF f d2 s2).1 J busy) d2=true:=by rw [unlink_has (by rw [hx.ni];omega) (by omega),hk.has];exact h2
  obtain ⟨x,v1,y,v2,z,q1,q2⟩:=cont _ hg g1 g2
  generalize unlinkF (removeF f d2 s2).1 J busy=u at *
  generalize (removeF f d2 s2).1=r at *
  rcases q2 with ⟨a1,a2⟩ | ⟨a1,q3,⟨a2,a3⟩ | ⟨a2,a3,q4,q5⟩⟩
  ·rw [a2]
   (try simp -implicitDefEqProofs (disch:=first|exact dd|fail)[Tryz.f103,a1]);(repeat'((with_reducible first|(refine Br.out ?_ ?_<;>intro h<;>(try(have h0:=h;simp only[bH]at h)))|refine AC_snd (cp _ _ _) ?_|refine AC_snd (c0 _ _ _) ?_|refine AC_snd (cu _) ?_|refine AC_snd (q1 _ _ _) ?_|fail)<;>(try simp -implicitDefEqProofs (disch:=first|exact dd|fail)[Tryz.f103,a1])))
  ·rw [a3]
   subst a1
   (try simp -implicitDefEqProofs (disch:=first|exact dd|fail)[Tryz.f103,a2]);(repeat'((with_reducible first|(refine Br.out ?_ ?_<;>intro h<;>(try(have h0:=h;simp only[bH]at h)))|refine AC_snd (cp _ _ _) ?_|refine AC_snd (c0 _ _ _) ?_|refine AC_snd (cu _) ?_|refine AC_snd (q1 _ _ _) ?_|refine AC_snd (q3 _ _ _) ?_|fail)<;>(try simp -implicitDefEqProofs (disch:=first|exact dd|fail)[Tryz.f103,a2])))
  ·rw [a3]
   subst a1 a2
   generalize touchF z d2=z2 at *
   (try simp -implicitDefEqProofs (disch:=first|exact dd|fail)[Tryz.f103]);(repeat'((with_reducible first|(refine Br.out ?_ ?_<;>intro h<;>(try(have h0:=h;simp only[bH]at h)))|refine AC_snd (cp _ _ _) ?_|refine AC_snd (c0 _ _ _) ?_|refine AC_snd (cu _) ?_|refine AC_snd (q1 _ _ _) ?_|refine AC_snd (q3 _ _ _) ?_|refine AC_snd (q4) ?_|refine AC_snd (q5) ?_|fail)<;>(try simp -implicitDefEqProofs (disch:=first|exact dd|fail)[Tryz.f103])))
end Go.Proofs.YtgopfdninbknpaaGreat
