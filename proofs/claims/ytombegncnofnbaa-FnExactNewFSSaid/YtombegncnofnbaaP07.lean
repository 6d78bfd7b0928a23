import Derived.Test.YtombegncnofnbaaP03a
import Derived.Test.YtombegncnofnbaaP05b
import Derived.Test.YtombegncnofnbaaP06
namespace Go.Proofs.Ytombegncnofnbaa
open Go.Fw
set_option linter.unusedVariables false
set_option linter.unusedSimpArgs false
set_option maxHeartbeats 4000000 in
theorem slices_EqualInt (n1 n2:Option Bool) (xs ys:List Int) (hl:xs.length≤1048576) :
  Snd Try.prog 62 [.frz 1 n1 (xs.map ci), .frz 1 n2 (ys.map ci)] (.bool (decide (xs=ys))) [.unk, .unk]:=Runs.snd (M:=M) (c:=⟨2,[4,5,10,12,13,14,24],[],[(1,[0,1,4,10,12,13,14,24])]⟩) tok ks mixed Try.func62 (p := []) (by kernel_rfl) (by rfl) (by rfl) <| by
 (try simp -implicitDefEqProofs (disch:=first|exact dd|fail)[Try.f62]);(repeat'((with_reducible first|(refine Br.out ?_ ?_<;>intro h<;>(try(have h0:=h;simp only[bH]at h)))|fail)<;>(try simp -implicitDefEqProofs (disch:=first|exact dd|fail)[Try.f62])))
 rotate_left
 ·rintro rfl;omega
 refine AL_ind (fun i=>xs.length - i) (fun i=>⟨[(0, .frz 1 n1 (xs.map ci)),(1, .frz 1 n2 (ys.map ci)),(4, .bool false),(12, .int .i64 xs.length),(13, .int .i64 i)],[],false⟩)
  (fun i=>i≤xs.length∧xs.take i=ys.take i) 0 rfl ⟨by omega,rfl⟩ ?_
 rintro i n ⟨hi,he⟩ ih
 rcases Nat.lt_or_ge i xs.length with hlt | hge
 ·have hlt':i < ys.length:=by omega
  (try simp -implicitDefEqProofs (disch:=first|exact dd|fail)[Try.f62,hlt,hlt']);(repeat'((with_reducible first|(refine Br.out ?_ ?_<;>intro h<;>(try(have h0:=h;simp only[bH]at h)))|fail)<;>(try simp -implicitDefEqProofs (disch:=first|exact dd|fail)[Try.f62,hlt,hlt'])))
  all_goals first
   |(refine ih (i + 1) ⟨by omega,take_step hlt hlt' he ?_⟩ (by omega);revert h;generalize xs[i]=x;generalize ys[i]=y;cases x<;>cases y<;>simp)
   |(rintro rfl;simp at h)
 ·obtain rfl:i=xs.length:=by omega
  (try simp -implicitDefEqProofs (disch:=first|exact dd|fail)[Try.f62]);(repeat'((with_reducible first|(refine Br.out ?_ ?_<;>intro h<;>(try(have h0:=h;simp only[bH]at h)))|fail)<;>(try simp -implicitDefEqProofs (disch:=first|exact dd|fail)[Try.f62])))
  exact take_all (by omega) he
set_option maxHeartbeats 4000000 in
theorem slices_EqualAcl (n1 n2:Option Bool) (xs ys:List DAcl) (hl:xs.length≤1048576) :
  Snd Try.prog 63 [.frz 3 n1 (xs.map cAcl), .frz 3 n2 (ys.map cAcl)] (.bool (decide (xs=ys))) [.unk, .unk]:=Runs.snd (M:=M) (c:=⟨2,[4,5,10,12,13,14,24],[],[(1,[0,1,4,10,12,13,14,24])]⟩) tok ks mixed Try.func63 (p := []) (by kernel_rfl) (by rfl) (by rfl) <| by
 (try simp -implicitDefEqProofs (disch:=first|exact dd|fail)[Try.f63]);(repeat'((with_reducible first|(refine Br.out ?_ ?_<;>intro h<;>(try(have h0:=h;simp only[bH]at h)))|fail)<;>(try simp -implicitDefEqProofs (disch:=first|exact dd|fail)[Try.f63])))
 rotate_left
 ·rintro rfl;omega
 refine AL_ind (fun i=>xs.length - i) (fun i=>⟨[(0, .frz 3 n1 (xs.map cAcl)),(1, .frz 3 n2 (ys.map cAcl)),(4, .bool false),(12, .int .i64 xs.length),(13, .int .i64 i)],[],false⟩)
  (fun i=>i≤xs.length∧xs.take i=ys.take i) 0 rfl ⟨by omega,rfl⟩ ?_
 rintro i n ⟨hi,he⟩ ih
 rcases Nat.lt_or_ge i xs.length with hlt | hge
 ·have hlt':i < ys.length:=by omega
  (try simp -implicitDefEqProofs (disch:=first|exact dd|fail)[Try.f63,hlt,hlt']);(repeat'((with_reducible first|(refine Br.out ?_ ?_<;>intro h<;>(try(have h0:=h;simp only[bH]at h)))|fail)<;>(try simp -implicitDefEqProofs (disch:=first|exact dd|fail)[Try.f63,hlt,hlt'])))
  all_goals first
   |(refine ih (i + 1) ⟨by omega,take_step hlt hlt' he ?_⟩ (by omega);revert h;generalize xs[i]=x;generalize ys[i]=y;cases x<;>cases y<;>simp)
   |(rintro rfl;simp at h)
 ·obtain rfl:i=xs.length:=by omega
  (try simp -implicitDefEqProofs (disch:=first|exact dd|fail)[Try.f63]);(repeat'((with_reducible first|(refine Br.out ?_ ?_<;>intro h<;>(try(have h0:=h;simp only[bH]at h)))|fail)<;>(try simp -implicitDefEqProofs (disch:=first|exact dd|fail)[Try.f63])))
  exact take_all (by omega) he
set_option maxHeartbeats 4000000 in
theorem slices_CloneQuota (n:Option Bool) (xs:List DQuota) (hl:xs.length≤1048576):Snd Try.prog 16 [.frz 2 n (xs.map cQuota)] (.row 2 (xs.map cQuota)) [.unk]:=by
 have hl':xs.length≤LIM:=by unfold LIM;omega
 refine Snd.frz_cases (pre := []) (post := []) (fun e => ?_) (?_)
 ·obtain rfl:xs = []:=by simpa using e
  exact Runs.snd (M:=M) (c:=⟨1,[2,4],[],[]⟩) tok ks mixed Try.func16 (p := []) (by kernel_rfl) (by rfl) (by rfl) <| by
   simp -implicitDefEqProofs (disch:=first|exact dd|fail)[Try.f16,ABr,AGd]
 ·exact Runs.snd (M:=M) (c:=⟨1,[2,4],[],[]⟩) tok ks mixed Try.func16 (p := []) (by kernel_rfl) (by rfl) (by rfl) <| by
   simp -implicitDefEqProofs (disch:=first|exact dd|fail)[Try.f16,hl',ABr,AGd]
set_option maxHeartbeats 4000000 in
theorem spec_l02Same (n1 n2:Option Bool) (xs ys:List Int) (hl:xs.length≤1048576):Snd Try.prog 59 [.frz 1 n1 (xs.map ci), .frz 1 n2 (ys.map ci)] (.bool (decide (xs=ys))) [.unk, .unk]:=Runs.snd (M:=M) (c:=⟨2,[4,5,6,11,12,13,14,15,24],[],[(1,[0,1,4,11,12,13,14,15,24])]⟩) tok ks mixed Try.func59 (p := []) (by kernel_rfl) (by rfl) (by rfl) <| by
 (try simp -implicitDefEqProofs (disch:=first|exact dd|fail)[Try.f59]);(repeat'((with_reducible first|(refine Br.out ?_ ?_<;>intro h<;>(try(have h0:=h;simp only[bH]at h)))|fail)<;>(try simp -implicitDefEqProofs (disch:=first|exact dd|fail)[Try.f59])))
 ·refine AL_for 14 xs.length (fun i=>xs.take i=ys.take i) rfl rfl (fun i n hlt he ih => ?_) (fun n he => ?_)
  ·have hlt':i < ys.length:=by omega
   (try simp -implicitDefEqProofs (disch:=first|exact dd|fail)[Try.f59,hlt,hlt']);(repeat'((with_reducible first|(refine Br.out ?_ ?_<;>intro h<;>(try(have h0:=h;simp only[bH]at h)))|fail)<;>(try simp -implicitDefEqProofs (disch:=first|exact dd|fail)[Try.f59,hlt,hlt'])))
   all_goals first
    |(refine ih (take_step hlt hlt' he ?_);first | assumption | (revert h;generalize xs[i]=x;generalize ys[i]=y;cases x<;>cases y<;>simp))
    |(rintro rfl;simp at h)
  ·(try simp -implicitDefEqProofs (disch:=first|exact dd|fail)[Try.f59]);(repeat'((with_reducible first|(refine Br.out ?_ ?_<;>intro h<;>(try(have h0:=h;simp only[bH]at h)))|fail)<;>(try simp -implicitDefEqProofs (disch:=first|exact dd|fail)[Try.f59])))
   exact take_all (by omega) he
 ·rintro rfl;omega
set_option maxHeartbeats 4000000 in
theorem spec_l05Same (n1 n2:Option Bool) (xs ys:List DAcl) (hl:xs.length≤1048576):Snd Try.prog 60 [.frz 3 n1 (xs.map cAcl), .frz 3 n2 (ys.map cAcl)] (.bool (decide (xs=ys))) [.unk, .unk]:=Runs.snd (M:=M) (c:=⟨2,[4,5,6,11,12,13,14,15,24],[],[(1,[0,1,4,11,12,13,14,15,24])]⟩) tok ks mixed Try.func60 (p := []) (by kernel_rfl) (by rfl) (by rfl) <| by
 (try simp -implicitDefEqProofs (disch:=first|exact dd|fail)[Try.f60]);(repeat'((with_reducible first|(refine Br.out ?_ ?_<;>intro h<;>(try(have h0:=h;simp only[bH]at h)))|fail)<;>(try simp -implicitDefEqProofs (disch:=first|exact dd|fail)[Try.f60])))
 ·refine AL_for 14 xs.length (fun i=>xs.take i=ys.take i) rfl rfl (fun i n hlt he ih => ?_) (fun n he => ?_)
  ·have hlt':i < ys.length:=by omega
   (try simp -implicitDefEqProofs (disch:=first|exact dd|fail)[Try.f60,hlt,hlt']);(repeat'((with_reducible first|(refine Br.out ?_ ?_<;>intro h<;>(try(have h0:=h;simp only[bH]at h)))|fail)<;>(try simp -implicitDefEqProofs (disch:=first|exact dd|fail)[Try.f60,hlt,hlt'])))
   all_goals first
    |(refine ih (take_step hlt hlt' he ?_);first | assumption | (revert h;generalize xs[i]=x;generalize ys[i]=y;cases x<;>cases y<;>simp))
    |(rintro rfl;simp at h)
  ·(try simp -implicitDefEqProofs (disch:=first|exact dd|fail)[Try.f60]);(repeat'((with_reducible first|(refine Br.out ?_ ?_<;>intro h<;>(try(have h0:=h;simp only[bH]at h)))|fail)<;>(try simp -implicitDefEqProofs (disch:=first|exact dd|fail)[Try.f60])))
   exact take_all (by omega) he
 ·rintro rfl;omega
set_option maxHeartbeats 8000000 in
set_option maxRecDepth 8000 in
theorem impl_SameInode (a b:DInode) (n1 n2 n3 n4 n5 n6:Option Bool) (h:SmI a):Snd Try.prog 51 [fInode n1 n2 n3 a,fInode n4 n5 n6 b] (.bool (decide (a=b))) [.unk, .unk]:=Runs.snd (M:=M) (c:=⟨2,[2,3,4],[],[]⟩) tok ks mixed Try.func51 (p := []) (by kernel_rfl) (by rfl) (by rfl) <| by
 have h1:=h.blocks
 have h2:=h.acl
 have h3:=h.dflt
 (try simp -implicitDefEqProofs (disch:=first|exact dd|fail)[Try.f51]);(repeat'((with_reducible first|(refine Br.out ?_ ?_<;>intro h<;>(try(have h0:=h;simp only[bH]at h)))|refine AC_snd (slices_EqualInt _ _ a.blocks b.blocks h1) ?_|refine AC_snd (slices_EqualAcl _ _ a.acl b.acl h2) ?_|refine AC_snd (slices_EqualAcl _ _ a.dflt b.dflt h3) ?_|fail)<;>(try simp -implicitDefEqProofs (disch:=first|exact dd|fail)[Try.f51])))
 all_goals (cases a;cases b;simp_all)
set_option maxHeartbeats 8000000 in
set_option maxRecDepth 8000 in
theorem spec_SameInode (a b:DInode) (n1 n2 n3 n4 n5 n6:Option Bool) (h:SmI a):Snd Try.prog 42 [fInode n1 n2 n3 a,fInode n4 n5 n6 b] (.bool (decide (a=b))) [.unk, .unk]:=Runs.snd (M:=M) (c:=⟨2,[2,3,4,51],[],[]⟩) tok ks mixed Try.func42 (p := []) (by kernel_rfl) (by rfl) (by rfl) <| by
 have h1:=h.blocks
 have h2:=h.acl
 have h3:=h.dflt
 (try simp -implicitDefEqProofs (disch:=first|exact dd|fail)[Try.f42]);(repeat'((with_reducible first|(refine Br.out ?_ ?_<;>intro h<;>(try(have h0:=h;simp only[bH]at h)))|refine AC_snd (spec_l02Same _ _ a.blocks b.blocks h1) ?_|refine AC_snd (spec_l05Same _ _ a.acl b.acl h2) ?_|refine AC_snd (spec_l05Same _ _ a.dflt b.dflt h3) ?_|fail)<;>(try simp -implicitDefEqProofs (disch:=first|exact dd|fail)[Try.f42])))
 all_goals (cases a;cases b;simp_all)
theorem fs_eq {a b:DFS}:a=b↔a.tick=b.tick∧a.quotas=b.quotas∧a.inodes=b.inodes∧a.data=b.data:=by
 obtain ⟨a1,a2,a3,a4⟩:=a
 obtain ⟨b1,b2,b3,b4⟩:=b
 simp
theorem list_ne {α:Type} {xs ys:List α} {i:Nat} (h1:i < xs.length) (h2:i < ys.length) (h:¬ xs[i]=ys[i]):¬ xs=ys:=by
 rintro rfl
 exact h rfl
theorem impl_IsZeroes (s:Str) (hl:s.length≤1073741824):Snd Try.prog 35 [.str s] (.bool (zeroStr s)) [.unk]:=Runs.snd (M:=M) (c:=⟨1,[2,3,5,6,7,12],[],[(1,[0,2,5,6,7,12])]⟩) tok ks mixed Try.func35 (p := []) (by kernel_rfl) (by rfl) (by rfl) <| by
 (try simp -implicitDefEqProofs (disch:=first|exact dd|fail)[Try.f35]);(repeat'((with_reducible first|(refine Br.out ?_ ?_<;>intro h<;>(try(have h0:=h;simp only[bH]at h)))|fail)<;>(try simp -implicitDefEqProofs (disch:=first|exact dd|fail)[Try.f35])))
 refine AL_for 6 s.length (fun i=>zeroStr (s.drop i)=zeroStr s) rfl rfl (fun i n hlt he ih => ?_) (fun n he => ?_)
 ·rw [zeroStr,all_drop hlt,←zeroStr] at he
  (try simp -implicitDefEqProofs (disch:=first|exact dd|fail)[Try.f35,hlt]);(repeat'((with_reducible first|(refine Br.out ?_ ?_<;>intro h<;>(try(have h0:=h;simp only[bH]at h)))|fail)<;>(try simp -implicitDefEqProofs (disch:=first|exact dd|fail)[Try.f35,hlt])))
  all_goals first
   |(refine ih ?_;rw [←he];simp [zeroStr, *];done)
   |(rw [←he];simp [*];done)
 ·rw [List.drop_length] at he
  (try simp -implicitDefEqProofs (disch:=first|exact dd|fail)[Try.f35]);(repeat'((with_reducible first|(refine Br.out ?_ ?_<;>intro h<;>(try(have h0:=h;simp only[bH]at h)))|fail)<;>(try simp -implicitDefEqProofs (disch:=first|exact dd|fail)[Try.f35])))
  rw [←he];rfl
theorem spec_IsZeroes (s:Str) (hl:s.length≤1073741824):Snd Try.prog 31 [.str s] (.bool (zeroStr s)) [.unk]:=Runs.snd (M:=M) (c:=⟨1,[2,3,7,13],[],[]⟩) tok ks mixed Try.func31 (p := []) (by kernel_rfl) (by rfl) (by rfl) <| by
 (try simp -implicitDefEqProofs (disch:=first|exact dd|fail)[Try.f31]);(repeat'((with_reducible first|(refine Br.out ?_ ?_<;>intro h<;>(try(have h0:=h;simp only[bH]at h)))|fail)<;>(try simp -implicitDefEqProofs (disch:=first|exact dd|fail)[Try.f31])))
 refine AL_for 3 s.length (fun i=>zeroStr (s.drop i)=zeroStr s) rfl rfl (fun i n hlt he ih => ?_) (fun n he => ?_)
 ·rw [zeroStr,all_drop hlt,←zeroStr] at he
  (try simp -implicitDefEqProofs (disch:=first|exact dd|fail)[Try.f31,hlt]);(repeat'((with_reducible first|(refine Br.out ?_ ?_<;>intro h<;>(try(have h0:=h;simp only[bH]at h)))|fail)<;>(try simp -implicitDefEqProofs (disch:=first|exact dd|fail)[Try.f31,hlt])))
  all_goals first
   |(refine ih ?_;rw [←he];simp [zeroStr, *];done)
   |(rw [←he];simp [*];done)
 ·rw [List.drop_length] at he
  (try simp -implicitDefEqProofs (disch:=first|exact dd|fail)[Try.f31]);(repeat'((with_reducible first|(refine Br.out ?_ ?_<;>intro h<;>(try(have h0:=h;simp only[bH]at h)))|fail)<;>(try simp -implicitDefEqProofs (disch:=first|exact dd|fail)[Try.f31])))
  rw [←he];rfl
theorem impl_SameInode0 (a:DInode) (n1 n2 n3 n4 n5 n6:Option Bool) (h:SmI a):Snd Try.prog 51 [fInode n1 n2 n3 a, .agg [.int .i64 0, .int .i64 0, .int .i64 0, .int .i64 0, .int .i64 0, .int .i64 0, .int .i64 0, .frz 1 n4 [], .frz 3 n5 [], .frz 3 n6 []]] (.bool (decide (a=zeroInode))) [.unk, .unk]:=
 impl_SameInode a zeroInode n1 n2 n3 n4 n5 n6 h
set_option maxHeartbeats 20000000 in
set_option maxRecDepth 8000 in
theorem impl_IsInode (n1 n2 n3:Option Bool) (x:DInode) (hs:SmI x):Snd Try.prog 33 [fInode n1 n2 n3 x] (.bool (isInode x)) [.unk]:=Runs.snd (M:=M) (c:=⟨1,[1,2,3,4,6,7,12,81,83,84,85,86,107],[12],[(2,[0,1,2,6,7,12,81,83,84,85,86,107])]⟩) tok ks mixed Try.func33 (p := []) (by kernel_rfl) (by rfl) (by rfl) <| by
 have k1:=hs.blocks
 have k2:=hs.acl
 have k3:=hs.dflt
 have hfin:∀ (hk:¬ x.kind=0),(x.kind=1∨x.kind=2)→(0≤x.mode∧x.mode≤2047)→(0≤x.uid∧x.uid < 4)→(0≤x.gid∧x.gid < 4)→(0≤x.links∧x.links≤1000)→(0≤x.size∧x.size≤256)→(0≤x.tick∧x.tick≤1000000000)→(x.blocks.length:Int)=blocksNeeded x.size→(∀ i < x.blocks.length,BlkAt x.blocks i)→isAcl x.acl=true→isAcl x.dflt=true→isInode x=(decide (x.kind=2) || (decide ((x.dflt.length:Int)=0) && decide (iAnd x.mode 512=0))):=by
  intro hk h1 h2 h3 h4 h5 h6 h7 h8 h9 h10 h11
  rw [tr_iff] at h10 h11
  rw [Bool.eq_iff_iff,isInode_iff hk]
  simp only [Bool.or_eq_true,Bool.and_eq_true,decide_eq_true_eq,Int.natCast_eq_zero,List.length_eq_zero_iff]
  exact ⟨fun H=>H.2.2.2.2.2.2.2.2.2.2.2,fun H=>⟨h1,h2,h3,h4,h5,h6,h7,h8,h9,h10,h11,H⟩⟩
 (try simp -implicitDefEqProofs (disch:=first|exact dd|fail)[Try.f33]);(repeat'((with_reducible first|(refine Br.out ?_ ?_<;>intro h<;>(try(have h0:=h;simp only[bH]at h)))|refine AC_snd (impl_SameInode0 x _ _ _ _ _ _ hs) ?_|refine AC_snd (impl_isMode _) ?_|refine AC_snd (impl_isUser _) ?_|refine AC_snd (impl_BlocksNeeded _ (by omega)) ?_|refine AC_snd (impl_IsAcl _ _ k2) ?_|refine AC_snd (impl_IsAcl _ _ k3) ?_|fail)<;>(try simp -implicitDefEqProofs (disch:=first|exact dd|fail)[Try.f33])))
 all_goals try exact isInode_no (by assumption) (fun H=>by
  first
   | exact tr_not.1 (by assumption) H.acl
   | exact tr_not.1 (by assumption) H.dflt
   |(obtain ⟨h1,h2,h3,h4,h5,h6,h7,h8,-,-,-,-⟩:=H;omega))
 all_goals try (rw [Bool.eq_iff_iff,tr_iff,isInode_free (by assumption),decide_eq_true_eq];done)
 all_goals try exact tr_no (fun H=>by rcases H with rfl | H;exact absurd rfl (by assumption);have:=H.kind;omega)
 all_goals
  have hk:¬ x.kind=0:=by assumption
  refine AL_for 85 x.blocks.length (fun i=>∀ k < i,BlkAt x.blocks k) rfl (fun k hk=>absurd hk (Nat.not_lt_zero k)) (fun i n hlt he ih => ?_) (fun n he => ?_)
  ·have hz:=blkAt_iff hlt
   obtain ⟨L,hL⟩:∃ L,L=x.blocks.take i:=⟨_,rfl⟩
   have hL':List.take i (x.blocks.map ci)=L.map ci:=by rw [hL,List.map_take]
   have hLl:L.length≤1048576:=by rw [hL,List.length_take];omega
   rw [←hL] at hz
   (try simp -implicitDefEqProofs (disch:=first|exact dd|fail)[Try.f33,hlt,hL']);(repeat'((with_reducible first|(refine Br.out ?_ ?_<;>intro h<;>(try(have h0:=h;simp only[bH]at h)))|refine AC_snd (slices_Contains _ L _ hLl) ?_|fail)<;>(try simp -implicitDefEqProofs (disch:=first|exact dd|fail)[Try.f33,hlt,hL'])))
   all_goals first
    | exact isInode_blk hk hlt (by rw [hz];rintro (h1 | ⟨h1,h2⟩)<;>first | omega | contradiction)
    | exact ih (lt_succ_all he (by rw [hz];first | exact .inl (by assumption) | exact .inr ⟨by omega,by assumption⟩))
  ·(try simp -implicitDefEqProofs (disch:=first|exact dd|fail)[Try.f33]);(repeat'((with_reducible first|(refine Br.out ?_ ?_<;>intro h<;>(try(have h0:=h;simp only[bH]at h)))|fail)<;>(try simp -implicitDefEqProofs (disch:=first|exact dd|fail)[Try.f33])))
   all_goals (rw [hfin hk (by omega) (by omega) (by omega) (by omega) (by omega) (by omega) (by omega) (by assumption) he (by assumption) (by assumption)];first | omega | (simp [*];done) | (simp [*];omega) | (rw [Bool.eq_iff_iff];simp [*];done) | (rw [Bool.eq_iff_iff];simp [*];omega))
theorem spec_SameInode0 (a:DInode) (n1 n2 n3 n4 n5 n6:Option Bool) (h:SmI a):Snd Try.prog 42 [fInode n1 n2 n3 a, .agg [.int .i64 0, .int .i64 0, .int .i64 0, .int .i64 0, .int .i64 0, .int .i64 0, .int .i64 0, .frz 1 n4 [], .frz 3 n5 [], .frz 3 n6 []]] (.bool (decide (a=zeroInode))) [.unk, .unk]:=
 spec_SameInode a zeroInode n1 n2 n3 n4 n5 n6 h
set_option maxHeartbeats 20000000 in
set_option maxRecDepth 8000 in
theorem spec_IsInode (n1 n2 n3:Option Bool) (x:DInode) (hs:SmI x):Snd Try.prog 29 [fInode n1 n2 n3 x] (.bool (isInode x)) [.unk]:=Runs.snd (M:=M) (c:=⟨1,[1,2,3,4,7,63,65,66,67,68,86,102],[],[(1,[0,1,2,7,63,65,66,67,68,86,102])]⟩) tok ks mixed Try.func29 (p := []) (by kernel_rfl) (by rfl) (by rfl) <| by
 have k1:=hs.blocks
 have k2:=hs.acl
 have k3:=hs.dflt
 have hfin:∀ (hk:¬ x.kind=0),(x.kind=1∨x.kind=2)→(0≤x.mode∧x.mode≤2047)→(0≤x.uid∧x.uid < 4)→(0≤x.gid∧x.gid < 4)→(0≤x.links∧x.links≤1000)→(0≤x.size∧x.size≤256)→(0≤x.tick∧x.tick≤1000000000)→(x.blocks.length:Int)=blocksNeeded x.size→(∀ i < x.blocks.length,BlkAt x.blocks i)→isInode x=((decide (x.kind=2) || (decide (x.dflt = []) && decide (iAnd x.mode 512=0))) && (isAcl x.acl && isAcl x.dflt)):=by
  intro hk h1 h2 h3 h4 h5 h6 h7 h8 h9
  rw [Bool.eq_iff_iff,isInode_iff hk]
  simp only [Bool.or_eq_true,Bool.and_eq_true,decide_eq_true_eq,tr_iff]
  exact ⟨fun H=>⟨H.2.2.2.2.2.2.2.2.2.2.2,H.2.2.2.2.2.2.2.2.2.1,H.2.2.2.2.2.2.2.2.2.2.1⟩,fun H=>⟨h1,h2,h3,h4,h5,h6,h7,h8,h9,H.2.1,H.2.2,H.1⟩⟩
 (try simp -implicitDefEqProofs (disch:=first|exact dd|fail)[Try.f29]);(repeat'((with_reducible first|(refine Br.out ?_ ?_<;>intro h<;>(try(have h0:=h;simp only[bH]at h)))|refine AC_snd (spec_SameInode0 x _ _ _ _ _ _ hs) ?_|refine AC_snd (spec_l06Mode _) ?_|refine AC_snd (spec_l06User _) ?_|refine AC_snd (spec_BlocksNeeded _ (by omega)) ?_|refine AC_snd (spec_l01In _ _ _) ?_|fail)<;>(try simp -implicitDefEqProofs (disch:=first|exact dd|fail)[Try.f29])))
 all_goals try exact isInode_no (by assumption) (fun H=>by
  obtain ⟨h1,h2,h3,h4,h5,h6,h7,h8,-,-,-,-⟩:=H
  omega)
 all_goals try (rw [Bool.eq_iff_iff,tr_iff,isInode_free (by assumption),decide_eq_true_eq];done)
 all_goals
  have hk:¬ x.kind=0:=by assumption
  refine AL_for 67 x.blocks.length (fun i=>∀ k < i,BlkAt x.blocks k) rfl (fun k hk=>absurd hk (Nat.not_lt_zero k)) (fun i n hlt he ih => ?_) (fun n he => ?_)
  ·have hz:=blkAt_iff hlt
   obtain ⟨L,hL⟩:∃ L,L=x.blocks.take i:=⟨_,rfl⟩
   have hL':List.take i (x.blocks.map ci)=L.map ci:=by rw [hL,List.map_take]
   have hLl:L.length≤1048576:=by rw [hL,List.length_take];omega
   rw [←hL] at hz
   (try simp -implicitDefEqProofs (disch:=first|exact dd|fail)[Try.f29,hlt,hL']);(repeat'((with_reducible first|(refine Br.out ?_ ?_<;>intro h<;>(try(have h0:=h;simp only[bH]at h)))|refine AC_snd (spec_l02Has _ L _ hLl) ?_|refine AC_snd (spec_l01In _ _ _) ?_|fail)<;>(try simp -implicitDefEqProofs (disch:=first|exact dd|fail)[Try.f29,hlt,hL'])))
   all_goals first
    | exact isInode_blk hk hlt (by rw [hz];rintro (h1 | ⟨h1,h2⟩)<;>first | omega | contradiction)
    | exact ih (lt_succ_all he (by rw [hz];first | exact .inl (by assumption) | exact .inr ⟨by omega,by assumption⟩))
  ·(try simp -implicitDefEqProofs (disch:=first|exact dd|fail)[Try.f29]);(repeat'((with_reducible first|(refine Br.out ?_ ?_<;>intro h<;>(try(have h0:=h;simp only[bH]at h)))|refine AC_snd (spec_IsAcl _ _ k2) ?_|refine AC_snd (spec_IsAcl _ _ k3) ?_|fail)<;>(try simp -implicitDefEqProofs (disch:=first|exact dd|fail)[Try.f29])))
   all_goals (rw [hfin hk (by omega) (by omega) (by omega) (by omega) (by omega) (by omega) (by omega) (by assumption) he];first
    | first | omega | (simp [*];done) | (simp [*];omega) | (rw [Bool.eq_iff_iff];simp [*];done) | (rw [Bool.eq_iff_iff];simp [*];omega)
    |(have hd:=List.ne_nil_of_length_pos (show 0 < x.dflt.length by omega);simp [hd, *];done)
    |(have hd:=List.ne_nil_of_length_pos (show 0 < x.dflt.length by omega);simp [hd, *];omega)
    |(have hd:=List.length_eq_zero_iff.1 (show x.dflt.length=0 by omega);simp [hd, *];done)
    |(have hd:=List.length_eq_zero_iff.1 (show x.dflt.length=0 by omega);simp [hd, *];omega)
    )
end Go.Proofs.Ytombegncnofnbaa
