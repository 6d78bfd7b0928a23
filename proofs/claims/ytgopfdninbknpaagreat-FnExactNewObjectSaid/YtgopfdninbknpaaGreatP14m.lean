import Derived.Test.YtgopfdninbknpaaGreatP11p
import Derived.Test.YtgopfdninbknpaaGreatP15b
import Derived.Test.YtgopfdninbknpaaGreatP13c
namespace Go.Proofs.YtgopfdninbknpaaGreat
open Go.Fw
set_option linter.unusedVariables false
set_option linter.unusedSimpArgs false
set_option maxHeartbeats 4000000
set_option maxRecDepth 8000
theorem splitP_ok {p:Str} (h:(splitP p).2=true):∀ x ∈ (splitP p).1,nameOK x=true:=by
 unfold splitP at h ⊢
 split
 ·simp
 rename_i h1
 rw [if_neg h1] at h
 split
 ·rename_i h2
  rw [if_pos h2] at h
  split
  ·rename_i h3
   exact List.all_eq_true.1 h3.1
  ·simp
 ·simp
theorem resolveQ_ok {f:DFS} {c:DCred} {p:Str} (h:(resolveQ f c p).2.2=0):isFS f=true∧isCred c=true∧isDirI f (resolveQ f c p).1=true∧nameOK (resolveQ f c p).2.1=true:=by
 unfold resolveQ at h ⊢
 split
 ·rename_i h1;rw [if_pos h1] at h;cases h
 rename_i h1
 rw [if_neg h1] at h
 have h2:isFS f=true∧isCred c=true:=by simpa using h1
 split
 ·rename_i h3;rw [if_pos h3] at h;cases h
 rename_i h3
 rw [if_neg h3] at h
 refine ⟨h2.1,h2.2,?_⟩
 unfold resolveW at h ⊢
 split
 ·rename_i h4;rw [if_pos h4] at h;exact absurd h h4
 rename_i h4
 rw [if_neg h4] at h
 split
 ·rename_i h5;rw [if_pos h5] at h;cases h
 rename_i h5
 rw [if_neg h5] at h
 split
 ·rename_i h6;rw [if_pos h6] at h;cases h
 have h7:(splitP p).2=true∧¬ (splitP p).1.length=0:=by simpa using h3
 have h8:(splitP p).1.length - 1 < (splitP p).1.length:=by omega
 refine ⟨by simpa using h5,splitP_ok h7.1 _ ?_⟩
 have h9:(splitP p).1.getD ((splitP p).1.length - 1) []=(splitP p).1[(splitP p).1.length - 1]:=by simp [h8]
 simp only
 rw [h9]
 exact List.getElem_mem h8
def incF (f:DFS) (i:Int):DFS:=setN f i { inodeAt f i with links:=(inodeAt f i).links + 1 }
theorem touch_modI {f:DFS} {i:Int} (hi:i.toNat < f.inodes.length):touchF f i=modI (modAt i.toNat (fun n=>{ n with tick:=f.tick })) f:=setN_mod (v:=fun n=>{ n with tick:=f.tick }) hi
theorem modI_len {u:Nat→DInode→DInode} {f:DFS}:(modI u f).inodes.length=f.inodes.length:=by simp [modI]
theorem spec_l12Touch (f:DFS) (i:Nat) (hi:i < f.inodes.length):Snd Tryz.prog 137 [rFS f, .int .i64 i] (rFS (touchF f i)) [.unk, .unk]:=Runs.snd (M:=M) (c:=⟨2,[2,4,5],[],[]⟩) tok ks mixed Tryz.func137 (p := [0]) (by kernel_rfl) (by rfl) (by rfl) <| by
 have hr:(f.inodes.map cInode).set i (cInode { f.inodes[i] with tick:=f.tick })=(f.inodes.set i { f.inodes[i] with tick:=f.tick }).map cInode:=List.map_set.symm
 unfold touchF setN
 rw [inodeAt_nat hi]
 have hi2:i < (f.inodes.map cInode).length:=by simpa using hi
 simp only [cInode] at hr
 simp only [Int.toNat_natCast]
 obtain ⟨L2,hL2⟩:∃ L2,L2=f.inodes.set i { f.inodes[i] with tick:=f.tick }:=⟨_,rfl⟩
 have hLl2:L2.length=f.inodes.length:=by rw [hL2];exact List.length_set
 rw [←hL2] at hr ⊢
 (try simp -implicitDefEqProofs (disch:=first|exact dd|fail)[Tryz.f137,hi,hr,hLl2,cInode]);(repeat'((with_reducible first|(refine Br.out ?_ ?_<;>intro h<;>(try(have h0:=h;simp only[bH]at h)))|fail)<;>(try simp -implicitDefEqProofs (disch:=first|exact dd|fail)[Tryz.f137,hi,hr,hLl2,cInode])))
noncomputable def linkO (f:DFS) (c:DCred) (p q:Str):DFS × Int:=
 if (resolveF f c p).2≠0 then (f,(resolveF f c p).2) else if (resolveQ f c q).2.2≠0 then (f,(resolveQ f c q).2.2) else if isDirI f (resolveF f c p).1=true then (f,6)
 else if (findE (entriesI f (resolveQ f c q).1) (resolveQ f c q).2.1).2=true then (f,4) else if mayI f c (resolveQ f c q).1 3=false then (f,2) else if (inodeAt f (resolveF f c p).1).links=1000 then (f,15)
 else if (addF f (resolveQ f c q).1 (resolveQ f c q).2.1 (resolveF f c p).1).2=0 then (touchF (incF (addF f (resolveQ f c q).1 (resolveQ f c q).2.1 (resolveF f c p).1).1 (resolveF f c p).1) (resolveQ f c q).1,0) else (f,(addF f (resolveQ f c q).1 (resolveQ f c q).2.1 (resolveF f c p).1).2)
end Go.Proofs.YtgopfdninbknpaaGreat
