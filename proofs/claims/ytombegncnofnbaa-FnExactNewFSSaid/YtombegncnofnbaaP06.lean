import Derived.Test.YtombegncnofnbaaP05b
namespace Go.Proofs.Ytombegncnofnbaa
open Go.Fw
set_option linter.unusedVariables false
set_option linter.unusedSimpArgs false
theorem spec_l02Has (n1:Option Bool) (xs:List Int) (x:Int) (hl:xs.length≤1048576):Snd Try.prog 46 [.frz 1 n1 (xs.map ci), .int .i64 x] (.bool (decide (x ∈ xs))) [.unk, .unk]:=Runs.snd (M:=M) (c:=⟨2,[4,6,7,8,9,10,15],[],[(1,[0,1,4,7,8,9,10,15])]⟩) tok ks mixed Try.func46 (p := []) (by kernel_rfl) (by rfl) (by rfl) <| by
 (try simp -implicitDefEqProofs (disch:=first|exact dd|fail)[Try.f46]);(repeat'((with_reducible first|(refine Br.out ?_ ?_<;>intro h<;>(try(have h0:=h;simp only[bH]at h)))|fail)<;>(try simp -implicitDefEqProofs (disch:=first|exact dd|fail)[Try.f46])))
 refine AL_for 9 xs.length (fun i=>x ∈ xs↔x ∈ xs.drop i) rfl (by simp) (fun i n hlt he ih => ?_) (fun n he => ?_)
 ·rw [List.drop_eq_getElem_cons hlt,List.mem_cons] at he
  (try simp -implicitDefEqProofs (disch:=first|exact dd|fail)[Try.f46,hlt]);(repeat'((with_reducible first|(refine Br.out ?_ ?_<;>intro h<;>(try(have h0:=h;simp only[bH]at h)))|fail)<;>(try simp -implicitDefEqProofs (disch:=first|exact dd|fail)[Try.f46,hlt])))
  ·rw [he];exact .inl h.symm
  ·refine ih (he.trans ⟨fun h1=>h1.resolve_left fun h2=>h h2.symm, .inr⟩)
 ·rw [List.drop_length] at he
  (try simp -implicitDefEqProofs (disch:=first|exact dd|fail)[Try.f46]);(repeat'((with_reducible first|(refine Br.out ?_ ?_<;>intro h<;>(try(have h0:=h;simp only[bH]at h)))|fail)<;>(try simp -implicitDefEqProofs (disch:=first|exact dd|fail)[Try.f46])))
  simpa using he
def idx (x:Int):List Int→Int
 | [] => -1
 | y :: l=>if y=x then 0 else if idx x l < 0 then -1 else idx x l + 1
theorem idx_mem {x:Int} {l:List Int}:0≤idx x l↔x ∈ l:=by
 induction l with
 | nil=>simp [idx]
 | cons y l ih=>
  rw [idx,List.mem_cons,←ih]
  by_cases h1:y=x
  ·simp [h1]
  ·have:¬ x=y:=fun e=>h1 e.symm
   simp only [h1,this,if_false,false_or]
   split<;>omega
theorem slices_Index (n1:Option Bool) (xs:List Int) (x:Int) (hl:xs.length≤1048576):Snd Try.prog 66 [.frz 1 n1 (xs.map ci), .int .i64 x] (.int .i64 (idx x xs)) [.unk, .unk]:=Runs.snd (M:=M) (c:=⟨2,[4,5,7,8,9,16],[],[(1,[0,1,4,7,8,9,16])]⟩) tok ks mixed Try.func66 (p := []) (by kernel_rfl) (by rfl) (by rfl) <| by
 (try simp -implicitDefEqProofs (disch:=first|exact dd|fail)[Try.f66]);(repeat'((with_reducible first|(refine Br.out ?_ ?_<;>intro h<;>(try(have h0:=h;simp only[bH]at h)))|fail)<;>(try simp -implicitDefEqProofs (disch:=first|exact dd|fail)[Try.f66])))
 refine AL_for 8 xs.length (fun i=>idx x xs=if idx x (xs.drop i) < 0 then -1 else i + idx x (xs.drop i)) rfl ?_ (fun i n hlt he ih => ?_) (fun n he => ?_)
 ·have : -1≤idx x xs:=by
   induction xs with
   | nil=>simp [idx]
   | cons y l _=>rw [idx];split;omega;split<;>omega
  simp only [List.drop_zero]
  split<;>omega
 ·rw [List.drop_eq_getElem_cons hlt,idx] at he
  (try simp -implicitDefEqProofs (disch:=first|exact dd|fail)[Try.f66,hlt]);(repeat'((with_reducible first|(refine Br.out ?_ ?_<;>intro h<;>(try(have h0:=h;simp only[bH]at h)))|fail)<;>(try simp -implicitDefEqProofs (disch:=first|exact dd|fail)[Try.f66,hlt])))
  ·rw [he,if_pos (show xs[i]=x from h.symm)];simp
  ·refine ih ?_
   rw [he,if_neg (fun e:xs[i]=x=>h e.symm)]
   repeat' split
   all_goals omega
 ·rw [List.drop_length] at he
  (try simp -implicitDefEqProofs (disch:=first|exact dd|fail)[Try.f66]);(repeat'((with_reducible first|(refine Br.out ?_ ?_<;>intro h<;>(try(have h0:=h;simp only[bH]at h)))|fail)<;>(try simp -implicitDefEqProofs (disch:=first|exact dd|fail)[Try.f66])))
  simp [he,idx]
theorem slices_Contains (n1:Option Bool) (xs:List Int) (x:Int) (hl:xs.length≤1048576):Snd Try.prog 56 [.frz 1 n1 (xs.map ci), .int .i64 x] (.bool (decide (x ∈ xs))) [.unk, .unk]:=Runs.snd (M:=M) (c:=⟨2,[4],[],[]⟩) tok ks mixed Try.func56 (p := []) (by kernel_rfl) (by rfl) (by rfl) <| by
 (try simp -implicitDefEqProofs (disch:=first|exact dd|fail)[Try.f56]);(repeat'((with_reducible first|(refine Br.out ?_ ?_<;>intro h<;>(try(have h0:=h;simp only[bH]at h)))|refine AC_snd (slices_Index _ xs x hl) ?_|fail)<;>(try simp -implicitDefEqProofs (disch:=first|exact dd|fail)[Try.f56])))
 exact idx_mem
theorem low3 {x:Int} (h0:0≤x) (h1:x < 9223372036854775808):iAnd x 7=x % 8:=iAnd_low (k:=3) h0 h1 (by decide)
def idxP (w:Int):List Int→Int
 | [] => -1
 | y :: l=>if hasP y w=true then 0 else if idxP w l < 0 then -1 else idxP w l + 1
theorem idxP_any {w:Int} {l:List Int}:decide (0≤idxP w l)=l.any (fun p=>hasP p w):=by
 induction l with
 | nil=>simp [idxP]
 | cons y l ih=>
  rw [idxP,List.any_cons,←ih]
  by_cases h1:hasP y w=true
  ·simp [h1]
  ·rw [if_neg h1,eq_false_of_ne_true h1,Bool.false_or,Bool.eq_iff_iff]
   simp only [decide_eq_true_eq]
   split<;>omega
theorem allowed_no {c:DCred} {uid gid mode:Int} {acl:List DAcl} {w:Int} (h:¬ (isCred c=true∧isAcl acl=true∧(0≤uid∧uid < 4)∧(0≤gid∧gid < 4)∧(0≤mode∧mode≤2047)∧0≤w∧w≤7)):allowed c uid gid mode acl w=false:=by
 unfold allowed
 rw [if_neg (by simpa only [Bool.and_eq_true,decide_eq_true_eq,and_assoc] using h)]
theorem allowed_yes {c:DCred} {uid gid mode:Int} {acl:List DAcl} {w:Int} (h:isCred c=true∧isAcl acl=true∧(0≤uid∧uid < 4)∧(0≤gid∧gid < 4)∧(0≤mode∧mode≤2047)∧0≤w∧w≤7):allowed c uid gid mode acl w =
  if c.uid=0 then true else if c.uid=uid then hasP (permOf mode 0) w
  else if (aclPerm acl 1 c.uid).2 then hasP (iAnd (aclPerm acl 1 c.uid).1 (maskOf acl)) w
  else if 0 < (perms0 c gid mode++permsL c acl).length then hasP (maskOf acl) w && (perms0 c gid mode++permsL c acl).any (fun p=>hasP p w)
  else hasP (permOf mode 2) w:=by
 unfold allowed
 rw [if_pos (by simpa only [Bool.and_eq_true,decide_eq_true_eq,and_assoc] using h)]
theorem permsL_take {c:DCred} {acl:List DAcl} {i:Nat} (h:i < acl.length):permsL c (acl.take (i + 1))=if acl[i].tag=2∧inGroup c acl[i].id=true then permsL c (acl.take i) ++ [acl[i].perm] else permsL c (acl.take i):=by
 rw [List.take_succ_eq_append_getElem h,permsL,List.filter_append,List.map_append]
 by_cases h1:acl[i].tag=2<;>by_cases h2:inGroup c acl[i].id=true<;>simp [permsL,h1,h2]
theorem permsL_len {c:DCred} {acl:List DAcl}:(permsL c acl).length≤acl.length:=by
 rw [permsL,List.length_map]
 exact List.length_filter_le _ _
theorem perms0_len {c:DCred} {g m:Int}:(perms0 c g m).length≤1:=by
 unfold perms0
 split<;>simp
theorem permsL_any {c:DCred} {acl:List DAcl} {w:Int} {i:Nat} (h:i < acl.length):(permsL c (acl.take (i + 1))).any (fun p=>hasP p w)=((permsL c (acl.take i)).any (fun p=>hasP p w) || (decide (acl[i].tag=2) && inGroup c acl[i].id && hasP acl[i].perm w)):=by
 rw [permsL_take h]
 by_cases h1:acl[i].tag=2<;>by_cases h2:inGroup c acl[i].id=true<;>simp [h1,h2]
theorem permsL_pos {c:DCred} {acl:List DAcl} {i:Nat} (h:i < acl.length):decide (0 < (permsL c (acl.take (i + 1))).length)=(decide (0 < (permsL c (acl.take i)).length) || (decide (acl[i].tag=2) && inGroup c acl[i].id)):=by
 rw [permsL_take h]
 by_cases h1:acl[i].tag=2<;>by_cases h2:inGroup c acl[i].id=true<;>simp [h1,h2]
theorem dec_add {a b:Nat}:decide (0 < a + b)=(decide (0 < a) || decide (0 < b)):=by
 rw [Bool.eq_iff_iff]
 simp
 omega
end Go.Proofs.Ytombegncnofnbaa
