import Derived.Test.YtgopfdninbknpaaGreatP14h
import Derived.Test.YtgopfdninbknpaaGreatP14f
import Derived.Test.YtgopfdninbknpaaGreatP10
import Derived.Test.YtgopfdninbknpaaGreatP14
import Derived.Test.YtgopfdninbknpaaGreatMC
import Derived.Test.YtgopfdninbknpaaGreatP12
namespace Go.Proofs.YtgopfdninbknpaaGreat
open Go.Fw
set_option linter.unusedVariables false
set_option linter.unusedSimpArgs false
set_option maxHeartbeats 4000000
set_option maxRecDepth 8000
theorem impl_add (f:DFS) (d i:Int) (s:Str) (hs:SmF f) (hf:IsFS f) (hd:hasI f d=true) (hl:s.length≤1048576):Snd Tryz.prog 86 [wFS f, .int .i64 d, .str s, .int .i64 i] (.int .i64 (addF f d s i).2) [wFS (addF f d s i).1, .unk, .unk, .unk]:=Runs.snd (M:=M) (c:=⟨4,[8,10,13,19,27],[],[]⟩) tok ks mixed Tryz.func86 (p := [0]) (by kernel_rfl) (by rfl) (by rfl) <| by
 have hdl:=hasI_lt hd
 have c1:=impl_IsEntryName s hl
 rw [nameOk_eq] at c1
 unfold addF
 by_cases h1:nameOK s=true
 ·rw [if_neg (by simp [h1])]
  by_cases h2:0≤i∧i < 20
  ·rw [if_pos h2]
   have hn12:=nameOK_len h1
   have c2:=fun a b c=>impl_find a b c f d s hf ⟨hdl.1,hdl.2.1⟩
   have c3:=impl_record ⟨s,i⟩ (by simp only;omega) (by simp only;omega)
   simp only [cEntry] at c3
   have hrl:(recordOf ⟨s,i⟩).length=16:=recordOf_len hn12
   have hsz:=(hasI_ok hf hd).size
   have c4:=impl_write f d (inodeAt f d).size (recordOf ⟨s,i⟩) hs hf hd (by omega) (by omega)
   generalize writeF f d (inodeAt f d).size (recordOf ⟨s,i⟩)=w at *
   generalize recordOf ⟨s,i⟩=r at *
   generalize findE (entriesI f d) s=e at *
   obtain ⟨g,v⟩:=w
   obtain ⟨x,y⟩:=e
   obtain ⟨k,rfl⟩:=Int.eq_ofNat_of_zero_le hdl.1
   have hkl:k < f.inodes.length:=by rw [hf.ni];omega
   rw [inodeAt_nat hkl] at c4
   cases y with
   | true=>
    (try simp -implicitDefEqProofs (disch:=first|exact dd|fail)[Tryz.f86,h1,h2.1,h2.2]);(repeat'((with_reducible first|(refine Br.out ?_ ?_<;>intro h<;>(try(have h0:=h;simp only[bH]at h)))|refine AC_snd (c1) ?_|refine AC_snd (c2 _ _ _) ?_|fail)<;>(try simp -implicitDefEqProofs (disch:=first|exact dd|fail)[Tryz.f86,h1,h2.1,h2.2])))
   | false=>
    (try simp -implicitDefEqProofs (disch:=first|exact dd|fail)[Tryz.f86,h1,h2.1,h2.2,hkl,cInode]);(repeat'((with_reducible first|(refine Br.out ?_ ?_<;>intro h<;>(try(have h0:=h;simp only[bH]at h)))|refine AC_snd (c1) ?_|refine AC_snd (c2 _ _ _) ?_|refine AC_snd (c3) ?_|refine AC_snd (c4) ?_|fail)<;>(try simp -implicitDefEqProofs (disch:=first|exact dd|fail)[Tryz.f86,h1,h2.1,h2.2,hkl,cInode])))
  ·rw [if_neg h2]
   (try simp -implicitDefEqProofs (disch:=first|exact dd|fail)[Tryz.f86,h1]);(repeat'((with_reducible first|(refine Br.out ?_ ?_<;>intro h<;>(try(have h0:=h;simp only[bH]at h)))|refine AC_snd (c1) ?_|fail)<;>(try simp -implicitDefEqProofs (disch:=first|exact dd|fail)[Tryz.f86,h1])))
   all_goals first | (exfalso;omega)
 ·have h1':nameOK s=false:=by simpa using h1
  rw [if_pos h1']
  (try simp -implicitDefEqProofs (disch:=first|exact dd|fail)[Tryz.f86,h1']);(repeat'((with_reducible first|(refine Br.out ?_ ?_<;>intro h<;>(try(have h0:=h;simp only[bH]at h)))|refine AC_snd (c1) ?_|fail)<;>(try simp -implicitDefEqProofs (disch:=first|exact dd|fail)[Tryz.f86,h1'])))
theorem spec_l10Add (n1 n2 n3:Option Bool) (f:DFS) (d i:Int) (s:Str) (hs:SmF f) (hf:IsFS f) (hd:hasI f d=true) (hl:s.length≤1048576):Snd Tryz.prog 150 [fFS n1 n2 n3 f, .int .i64 d, .str s, .int .i64 i] (.tup [rFS (if (addF f d s i).2=0 then (addF f d s i).1 else f), .int .i64 (addF f d s i).2]) [.unk, .unk, .unk, .unk]:=Runs.snd (M:=M) (c:=⟨4,[4,8,9,11,19,25,31],[],[]⟩) tok ks mixed Tryz.func150 (p := []) (by kernel_rfl) (by rfl) (by rfl) <| by
 have hdl:=hasI_lt hd
 have c1:=spec_IsEntryName s hl
 rw [nameOk_eq] at c1
 have c2:=fun a b c=>spec_l10Find a b c f d s hf ⟨hdl.1,hdl.2.1⟩
 have c5:=fun a b c=>spec_l08Copy a b c f hs
 obtain ⟨A,hA⟩:∃ A,A=addF f d s i:=⟨_,rfl⟩
 rw [←hA]
 unfold addF at hA
 by_cases h1:nameOK s=true
 ·rw [if_neg (by simp [h1])] at hA
  by_cases h2:0≤i∧i < 20
  ·rw [if_pos h2] at hA
   have hn12:=nameOK_len h1
   have c3:=spec_l10Record ⟨s,i⟩ (by simp only;omega) (by simp only;omega)
   simp only [cEntry] at c3
   have hrl:(recordOf ⟨s,i⟩).length=16:=recordOf_len hn12
   have hsz:=(hasI_ok hf hd).size
   have c4:=fun a b c=>spec_l09Write a b c f d (inodeAt f d).size (recordOf ⟨s,i⟩) hs hf hd (by omega) (by omega)
   generalize writeF f d (inodeAt f d).size (recordOf ⟨s,i⟩)=w at *
   generalize recordOf ⟨s,i⟩=r at *
   generalize findE (entriesI f d) s=e at *
   obtain ⟨g,v⟩:=w
   obtain ⟨x,y⟩:=e
   have h3:(0:Int)≤i:=h2.1
   have h4:i≤19:=by omega
   obtain ⟨k,rfl⟩:=Int.eq_ofNat_of_zero_le hdl.1
   have hkl:k < f.inodes.length:=by rw [hf.ni];omega
   rw [inodeAt_nat hkl] at c4
   cases y with
   | true=>
    rw [if_pos rfl] at hA
    subst hA
    (try simp -implicitDefEqProofs (disch:=first|exact dd|fail)[Tryz.f150,h1,h3,h4]);(repeat'((with_reducible first|(refine Br.out ?_ ?_<;>intro h<;>(try(have h0:=h;simp only[bH]at h)))|refine AC_snd (c1) ?_|refine AC_snd (c2 _ _ _) ?_|refine AC_snd (spec_l01In _ _ _) ?_|refine AC_snd (c5 _ _ _) ?_|fail)<;>(try simp -implicitDefEqProofs (disch:=first|exact dd|fail)[Tryz.f150,h1,h3,h4])))
   | false=>
    rw [if_neg (by simp)] at hA
    subst hA
    simp only at c4 ⊢
    generalize (if v=0 then g else f)=g2 at *
    (try simp -implicitDefEqProofs (disch:=first|exact dd|fail)[Tryz.f150,h1,h3,h4,hkl,cInode]);(repeat'((with_reducible first|(refine Br.out ?_ ?_<;>intro h<;>(try(have h0:=h;simp only[bH]at h)))|refine AC_snd (c1) ?_|refine AC_snd (c2 _ _ _) ?_|refine AC_snd (spec_l01In _ _ _) ?_|refine AC_snd (c3) ?_|refine AC_snd (c4 _ _ _) ?_|fail)<;>(try simp -implicitDefEqProofs (disch:=first|exact dd|fail)[Tryz.f150,h1,h3,h4,hkl,cInode])))
  ·rw [if_neg h2] at hA
   subst hA
   (try simp -implicitDefEqProofs (disch:=first|exact dd|fail)[Tryz.f150,h1]);(repeat'((with_reducible first|(refine Br.out ?_ ?_<;>intro h<;>(try(have h0:=h;simp only[bH]at h)))|refine AC_snd (c1) ?_|refine AC_snd (c2 _ _ _) ?_|refine AC_snd (spec_l01In _ _ _) ?_|refine AC_snd (c5 _ _ _) ?_|fail)<;>(try simp -implicitDefEqProofs (disch:=first|exact dd|fail)[Tryz.f150,h1])))
   all_goals first | (exfalso;omega)
 ·have h1':nameOK s=false:=by simpa using h1
  rw [if_pos h1'] at hA
  subst hA
  (try simp -implicitDefEqProofs (disch:=first|exact dd|fail)[Tryz.f150,h1']);(repeat'((with_reducible first|(refine Br.out ?_ ?_<;>intro h<;>(try(have h0:=h;simp only[bH]at h)))|refine AC_snd (c1) ?_|refine AC_snd (c2 _ _ _) ?_|refine AC_snd (c5 _ _ _) ?_|fail)<;>(try simp -implicitDefEqProofs (disch:=first|exact dd|fail)[Tryz.f150,h1'])))
structure RI (f:DFS) (d:Int) (s:Str) (j:Nat) (t:Str) (b:Bool):Prop where
 txt:rmT f d s=t++recT (if b=true then (entriesI f d).drop j else rmE ((entriesI f d).drop j) s)
 fnd:(findE (entriesI f d) s).2=(b || (findE ((entriesI f d).drop j) s).2)
theorem RI.start {f:DFS} {d:Int} {s:Str}:RI f d s 0 [] false:=⟨by simp [rmT],by simp⟩
theorem RI.hit {f:DFS} {d:Int} {s:Str} {j:Nat} {t:Str} (h:RI f d s j t false) (hj:j < (entriesI f d).length) (he:(entriesI f d)[j].name=s):RI f d s (j + 1) t true:=by
 have h1:=h.txt
 have h2:=h.fnd
 rw [List.drop_eq_getElem_cons hj] at h1 h2
 rw [findE,if_pos he] at h2
 refine ⟨?_,by rw [h2];rfl⟩
 rw [h1]
 simp [rmE,he]
theorem RI.keep {f:DFS} {d:Int} {s:Str} {j:Nat} {t:Str} {b:Bool} (h:RI f d s j t b) (hj:j < (entriesI f d).length) (he:b=false→¬ (entriesI f d)[j].name=s):RI f d s (j + 1) (t++recordOf (entriesI f d)[j]) b:=by
 have h1:=h.txt
 have h2:=h.fnd
 rw [List.drop_eq_getElem_cons hj] at h1 h2
 cases b with
 | true=>
  refine ⟨?_,by rw [h2];rfl⟩
  rw [h1,if_pos rfl,if_pos rfl,recT_cons,List.append_assoc]
 | false=>
  have he:=he rfl
  rw [findE,if_neg he] at h2
  refine ⟨?_,h2⟩
  rw [h1]
  simp only [Bool.false_eq_true,if_false,rmE,he,recT_cons,List.append_assoc]
theorem impl_remove (f:DFS) (d:Int) (s:Str) (hs:SmF f) (hf:IsFS f) (hd:hasI f d=true):Snd Tryz.prog 108 [wFS f, .int .i64 d, .str s] (.int .i64 (removeF f d s).2) [wFS (removeF f d s).1, .unk, .unk]:=Runs.snd (M:=M) (c:=⟨3,[6,7,8,10,11,14,15,16,17,27,34,40],[],[(1,[0,1,2,6,7,8,11,14,15,16,17,27,34,40])]⟩) tok ks mixed Tryz.func108 (p := [0]) (by kernel_rfl) (by rfl) (by rfl) <| by
 have hdl:=hasI_lt hd
 have hec:=fun a b c=>impl_entries a b c f d hf ⟨hdl.1,hdl.2.1⟩
 have hel:=entriesI_le (i:=d) hf ⟨hdl.1,hdl.2.1⟩
 have hin:∀ e ∈ entriesI f d,_:=fun e he=>entriesI_in he
 have hrl:=rmT_len (s:=s) hf ⟨hdl.1,hdl.2.1⟩
 obtain ⟨A,hA⟩:∃ A,A=removeF f d s:=⟨_,rfl⟩
 rw [←hA]
 unfold removeF at hA
 have hr0:=RI.start (f:=f) (d:=d) (s:=s)
 have hrh:=@RI.hit f d s
 have hrk:=@RI.keep f d s
 have hre:∀ t b,RI f d s (entriesI f d).length t b→rmT f d s=t∧(findE (entriesI f d) s).2=b:=fun t b h=>by
  have h1:=h.txt
  have h2:=h.fnd
  rw [List.drop_length] at h1 h2
  cases b with
  | true=>exact ⟨by simpa [recT] using h1,by simpa using h2⟩
  | false=>exact ⟨by simpa [recT,rmE] using h1,by simpa [findE] using h2⟩
 have hrb:∀ j t b,RI f d s j t b→t.length≤256:=fun j t b h=>by
  have h1:=congrArg List.length h.txt
  rw [List.length_append] at h1
  omega
 (try simp -implicitDefEqProofs (disch:=first|exact dd|fail)[Tryz.f108]);(repeat'((with_reducible first|(refine Br.out ?_ ?_<;>intro h<;>(try(have h0:=h;simp only[bH]at h)))|refine AC_snd (hec _ _ _) ?_|fail)<;>(try simp -implicitDefEqProofs (disch:=first|exact dd|fail)[Tryz.f108])))
 refine AL_fors (σ:=Str × Bool) 16 (entriesI f d).length (fun _ y => [(7, .str y.1),(8, .bool y.2)]) (fun _ _ => []) (fun j y=>RI f d s j y.1 y.2) ([],false) rfl hr0 (fun j y n hlt hI ih => ?_) (fun y n hI => ?_)
 ·obtain ⟨t,b⟩:=y
  simp only at hI ⊢
  have hm:=hin _ (List.getElem_mem hlt)
  have hn12:=nameOK_len hm.2.2
  have hc:=impl_record (entriesI f d)[j] (by omega) (by omega)
  have hrl2:(recordOf (entriesI f d)[j]).length=16:=recordOf_len hn12
  have htl:=hrb j t b hI
  have hcat:t.length + (recordOf (entriesI f d)[j]).length≤1073741824:=by omega
  simp only [cEntry] at hc
  have hk:=fun h=>ih (t++recordOf (entriesI f d)[j],b) (hrk hI hlt h)
  have hh:∀ (e:b=false) (h:(entriesI f d)[j].name=s),_:=fun e h=>ih (t,true) (hrh (e ▸ hI) hlt h)
  generalize entriesI f d=E at *
  by_cases he:E[j].name=s
  ·cases b with
   | true=>
    have hj:=hk (by simp)
    rw [he] at hc
    (try simp -implicitDefEqProofs (disch:=first|exact dd|fail)[Tryz.f108,hlt,he,hcat,cEntry]);(repeat'((with_reducible first|(refine Br.out ?_ ?_<;>intro h<;>(try(have h0:=h;simp only[bH]at h)))|refine AC_snd (hc) ?_|fail)<;>(try simp -implicitDefEqProofs (disch:=first|exact dd|fail)[Tryz.f108,hlt,he,hcat,cEntry])))
    all_goals first | exact hj
   | false=>
    have hj:=hh rfl he
    (try simp -implicitDefEqProofs (disch:=first|exact dd|fail)[Tryz.f108,hlt,he,cEntry]);(repeat'((with_reducible first|(refine Br.out ?_ ?_<;>intro h<;>(try(have h0:=h;simp only[bH]at h)))|fail)<;>(try simp -implicitDefEqProofs (disch:=first|exact dd|fail)[Tryz.f108,hlt,he,cEntry])))
    all_goals first | exact hj
  ·have hj:=hk (fun _=>he)
   (try simp -implicitDefEqProofs (disch:=first|exact dd|fail)[Tryz.f108,hlt,he,hcat,cEntry]);(repeat'((with_reducible first|(refine Br.out ?_ ?_<;>intro h<;>(try(have h0:=h;simp only[bH]at h)))|refine AC_snd (hc) ?_|fail)<;>(try simp -implicitDefEqProofs (disch:=first|exact dd|fail)[Tryz.f108,hlt,he,hcat,cEntry])))
   all_goals first | exact hj
 ·obtain ⟨t,b⟩:=y
  simp only at hI ⊢
  obtain ⟨h1,h2⟩:=hre t b hI
  rw [h1,h2] at hA
  rw [h1] at hrl
  cases b with
  | false=>
   rw [if_pos rfl] at hA
   subst hA
   (try simp -implicitDefEqProofs (disch:=first|exact dd|fail)[Tryz.f108]);(repeat'((with_reducible first|(refine Br.out ?_ ?_<;>intro h<;>(try(have h0:=h;simp only[bH]at h)))|fail)<;>(try simp -implicitDefEqProofs (disch:=first|exact dd|fail)[Tryz.f108])))
  | true=>
   rw [if_neg (by simp)] at hA
   have c1:=impl_write f d 0 t hs hf hd (by omega) (by decide)
   have hkp:=writeF_keeps (f:=f) (i:=d) (a:=0) (s:=t) ⟨hdl.1,by rw [hf.ni];omega⟩
   by_cases hw:(writeF f d 0 t).2=0
   ·rw [if_pos hw] at hA
    have hg:=hf.write hs hd hw
    have c2:=impl_resize (writeF f d 0 t).1 d t.length (SmF.of hg) hg (by rw [hkp.has];exact hd) (by omega)
    rw [resizeF,if_neg (by omega),if_neg (by omega),Int.toNat_natCast] at c2
    rw [hw] at c1
    generalize (writeF f d 0 t).1=g at *
    subst hA
    (try simp -implicitDefEqProofs (disch:=first|exact dd|fail)[Tryz.f108]);(repeat'((with_reducible first|(refine Br.out ?_ ?_<;>intro h<;>(try(have h0:=h;simp only[bH]at h)))|refine AC_snd (c1) ?_|refine AC_snd (c2) ?_|fail)<;>(try simp -implicitDefEqProofs (disch:=first|exact dd|fail)[Tryz.f108])))
   ·rw [if_neg hw] at hA
    subst hA
    (try simp -implicitDefEqProofs (disch:=first|exact dd|fail)[Tryz.f108,hw]);(repeat'((with_reducible first|(refine Br.out ?_ ?_<;>intro h<;>(try(have h0:=h;simp only[bH]at h)))|refine AC_snd (c1) ?_|fail)<;>(try simp -implicitDefEqProofs (disch:=first|exact dd|fail)[Tryz.f108,hw])))
theorem spec_l10Remove (n1 n2 n3:Option Bool) (f:DFS) (d:Int) (s:Str) (hs:SmF f) (hf:IsFS f) (hd:hasI f d=true):Snd Tryz.prog 177 [fFS n1 n2 n3 f, .int .i64 d, .str s] (.tup [rFS (if (removeF f d s).2=0 then (removeF f d s).1 else f), .int .i64 (removeF f d s).2]) [.unk, .unk, .unk]:=Runs.snd (M:=M) (c:=⟨3,[3,6,7,8,9,11,12,13,16,17,18,19,29,36,47],[],[(1,[0,1,2,3,6,7,8,9,12,13,16,17,18,19,29,36,47])]⟩) tok ks mixed Tryz.func177 (p := []) (by kernel_rfl) (by rfl) (by rfl) <| by
 have hdl:=hasI_lt hd
 have hec:=fun a b c=>spec_l10Entries a b c f d hf ⟨hdl.1,hdl.2.1⟩
 have hel:=entriesI_le (i:=d) hf ⟨hdl.1,hdl.2.1⟩
 have hin:∀ e ∈ entriesI f d,_:=fun e he=>entriesI_in he
 have hrl:=rmT_len (s:=s) hf ⟨hdl.1,hdl.2.1⟩
 obtain ⟨A,hA⟩:∃ A,A=removeF f d s:=⟨_,rfl⟩
 rw [←hA]
 unfold removeF at hA
 have hr0:=RI.start (f:=f) (d:=d) (s:=s)
 have hrh:=@RI.hit f d s
 have hrk:=@RI.keep f d s
 have hre:∀ t b,RI f d s (entriesI f d).length t b→rmT f d s=t∧(findE (entriesI f d) s).2=b:=fun t b h=>by
  have h1:=h.txt
  have h2:=h.fnd
  rw [List.drop_length] at h1 h2
  cases b with
  | true=>exact ⟨by simpa [recT] using h1,by simpa using h2⟩
  | false=>exact ⟨by simpa [recT,rmE] using h1,by simpa [findE] using h2⟩
 have hrb:∀ j t b,RI f d s j t b→t.length≤256:=fun j t b h=>by
  have h1:=congrArg List.length h.txt
  rw [List.length_append] at h1
  omega
 (try simp -implicitDefEqProofs (disch:=first|exact dd|fail)[Tryz.f177]);(repeat'((with_reducible first|(refine Br.out ?_ ?_<;>intro h<;>(try(have h0:=h;simp only[bH]at h)))|refine AC_snd (hec _ _ _) ?_|fail)<;>(try simp -implicitDefEqProofs (disch:=first|exact dd|fail)[Tryz.f177])))
 refine AL_fors (σ:=Str × Bool) 18 (entriesI f d).length (fun _ y => [(8, .str y.1),(9, .bool y.2)]) (fun _ _ => []) (fun j y=>RI f d s j y.1 y.2) ([],false) rfl hr0 (fun j y n hlt hI ih => ?_) (fun y n hI => ?_)
 ·obtain ⟨t,b⟩:=y
  simp only at hI ⊢
  have hm:=hin _ (List.getElem_mem hlt)
  have hn12:=nameOK_len hm.2.2
  have hc:=spec_l10Record (entriesI f d)[j] (by omega) (by omega)
  have hrl2:(recordOf (entriesI f d)[j]).length=16:=recordOf_len hn12
  have htl:=hrb j t b hI
  have hcat:t.length + (recordOf (entriesI f d)[j]).length≤1073741824:=by omega
  simp only [cEntry] at hc
  have hk:=fun h=>ih (t++recordOf (entriesI f d)[j],b) (hrk hI hlt h)
  have hh:∀ (e:b=false) (h:(entriesI f d)[j].name=s),_:=fun e h=>ih (t,true) (hrh (e ▸ hI) hlt h)
  generalize entriesI f d=E at *
  by_cases he:E[j].name=s
  ·cases b with
   | true=>
    have hj:=hk (by simp)
    rw [he] at hc
    (try simp -implicitDefEqProofs (disch:=first|exact dd|fail)[Tryz.f177,hlt,he,hcat,cEntry]);(repeat'((with_reducible first|(refine Br.out ?_ ?_<;>intro h<;>(try(have h0:=h;simp only[bH]at h)))|refine AC_snd (hc) ?_|fail)<;>(try simp -implicitDefEqProofs (disch:=first|exact dd|fail)[Tryz.f177,hlt,he,hcat,cEntry])))
    all_goals first | exact hj
   | false=>
    have hj:=hh rfl he
    (try simp -implicitDefEqProofs (disch:=first|exact dd|fail)[Tryz.f177,hlt,he,cEntry]);(repeat'((with_reducible first|(refine Br.out ?_ ?_<;>intro h<;>(try(have h0:=h;simp only[bH]at h)))|fail)<;>(try simp -implicitDefEqProofs (disch:=first|exact dd|fail)[Tryz.f177,hlt,he,cEntry])))
    all_goals first | exact hj
  ·have hj:=hk (fun _=>he)
   (try simp -implicitDefEqProofs (disch:=first|exact dd|fail)[Tryz.f177,hlt,he,hcat,cEntry]);(repeat'((with_reducible first|(refine Br.out ?_ ?_<;>intro h<;>(try(have h0:=h;simp only[bH]at h)))|refine AC_snd (hc) ?_|fail)<;>(try simp -implicitDefEqProofs (disch:=first|exact dd|fail)[Tryz.f177,hlt,he,hcat,cEntry])))
   all_goals first | exact hj
 ·obtain ⟨t,b⟩:=y
  simp only at hI ⊢
  obtain ⟨h1,h2⟩:=hre t b hI
  rw [h1,h2] at hA
  rw [h1] at hrl
  cases b with
  | false=>
   rw [if_pos rfl] at hA
   subst hA
   (try simp -implicitDefEqProofs (disch:=first|exact dd|fail)[Tryz.f177]);(repeat'((with_reducible first|(refine Br.out ?_ ?_<;>intro h<;>(try(have h0:=h;simp only[bH]at h)))|refine AC_snd (spec_l08Copy _ _ _ f hs) ?_|fail)<;>(try simp -implicitDefEqProofs (disch:=first|exact dd|fail)[Tryz.f177])))
  | true=>
   rw [if_neg (by simp)] at hA
   have c1:=fun a b c=>spec_l09Write a b c f d 0 t hs hf hd (by omega) (by decide)
   have hkp:=writeF_keeps (f:=f) (i:=d) (a:=0) (s:=t) ⟨hdl.1,by rw [hf.ni];omega⟩
   by_cases hw:(writeF f d 0 t).2=0
   ·rw [if_pos hw] at hA
    have hg:=hf.write hs hd hw
    have c2:=fun a b c=>spec_l09Resize a b c (writeF f d 0 t).1 d t.length (SmF.of hg) hg (by rw [hkp.has];exact hd) hrl
    rw [if_pos hw,hw] at c1
    generalize (writeF f d 0 t).1=g at *
    subst hA
    (try simp -implicitDefEqProofs (disch:=first|exact dd|fail)[Tryz.f177]);(repeat'((with_reducible first|(refine Br.out ?_ ?_<;>intro h<;>(try(have h0:=h;simp only[bH]at h)))|refine AC_snd (c1 _ _ _) ?_|refine AC_snd (c2 _ _ _) ?_|fail)<;>(try simp -implicitDefEqProofs (disch:=first|exact dd|fail)[Tryz.f177])))
   ·rw [if_neg hw] at hA c1
    subst hA
    rw [if_neg hw]
    (try simp -implicitDefEqProofs (disch:=first|exact dd|fail)[Tryz.f177,hw]);(repeat'((with_reducible first|(refine Br.out ?_ ?_<;>intro h<;>(try(have h0:=h;simp only[bH]at h)))|refine AC_snd (c1 _ _ _) ?_|refine AC_snd (spec_l08Copy _ _ _ f hs) ?_|fail)<;>(try simp -implicitDefEqProofs (disch:=first|exact dd|fail)[Tryz.f177,hw])))
set_option maxHeartbeats 4000000
set_option maxRecDepth 8000
noncomputable def addO (f:DFS) (d:Int) (s:Str) (i:Int):DFS × Int:=if dirCode f d=0 then (if (addF f d s i).2=0 then (addF f d s i).1 else f,(addF f d s i).2) else (f,dirCode f d)
noncomputable def removeO (f:DFS) (d:Int) (s:Str):DFS × Int:=if dirCode f d=0 then (if (removeF f d s).2=0 then (removeF f d s).1 else f,(removeF f d s).2) else (f,dirCode f d)
end Go.Proofs.YtgopfdninbknpaaGreat
