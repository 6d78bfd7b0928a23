import Derived.Test.YtgopfdninbknpaaGreatP05b
namespace Go.Proofs.YtgopfdninbknpaaGreat
open Go.Fw
set_option linter.unusedVariables false
set_option linter.unusedSimpArgs false
theorem spec_l02Has (n1:Option Bool) (xs:List Int) (x:Int) (hl:xs.length≤1048576):Snd Tryz.prog 190 [.frz 1 n1 (xs.map ci), .int .i64 x] (.bool (decide (x ∈ xs))) [.unk, .unk]:=Runs.snd (M:=M) (c:=⟨2,[4,6,7,8,9,10,15],[],[(1,[0,1,4,7,8,9,10,15])]⟩) tok ks mixed Tryz.func190 (p := []) (by kernel_rfl) (by rfl) (by rfl) <| by
 (try simp -implicitDefEqProofs (disch:=first|exact dd|fail)[Tryz.f190]);(repeat'((with_reducible first|(refine Br.out ?_ ?_<;>intro h<;>(try(have h0:=h;simp only[bH]at h)))|fail)<;>(try simp -implicitDefEqProofs (disch:=first|exact dd|fail)[Tryz.f190])))
 refine AL_for 9 xs.length (fun i=>x ∈ xs↔x ∈ xs.drop i) rfl (by simp) (fun i n hlt he ih => ?_) (fun n he => ?_)
 ·rw [List.drop_eq_getElem_cons hlt,List.mem_cons] at he
  (try simp -implicitDefEqProofs (disch:=first|exact dd|fail)[Tryz.f190,hlt]);(repeat'((with_reducible first|(refine Br.out ?_ ?_<;>intro h<;>(try(have h0:=h;simp only[bH]at h)))|fail)<;>(try simp -implicitDefEqProofs (disch:=first|exact dd|fail)[Tryz.f190,hlt])))
  ·rw [he];exact .inl h.symm
  ·refine ih (he.trans ⟨fun h1=>h1.resolve_left fun h2=>h h2.symm, .inr⟩)
 ·rw [List.drop_length] at he
  (try simp -implicitDefEqProofs (disch:=first|exact dd|fail)[Tryz.f190]);(repeat'((with_reducible first|(refine Br.out ?_ ?_<;>intro h<;>(try(have h0:=h;simp only[bH]at h)))|fail)<;>(try simp -implicitDefEqProofs (disch:=first|exact dd|fail)[Tryz.f190])))
  simpa using he
def idx (x:Int):List Int→Int
 | [] => -1
 | y :: l=>if y=x then 0 else if idx x l < 0 then -1 else idx x l + 1
theorem idx_mem {x:Int} {l:List Int}:0≤idx x l↔x ∈ l:=by
 induction l with
 | nil=>simp [idx]
 | cons y l ih=>
  rw [idx,List.mem_cons,←ih]
  by_cases h1:y=x
  ·simp [h1]
  ·have:¬ x=y:=fun e=>h1 e.symm
   simp only [h1,this,if_false,false_or]
   split<;>omega
theorem slices_Index (n1:Option Bool) (xs:List Int) (x:Int) (hl:xs.length≤1048576):Snd Tryz.prog 248 [.frz 1 n1 (xs.map ci), .int .i64 x] (.int .i64 (idx x xs)) [.unk, .unk]:=Runs.snd (M:=M) (c:=⟨2,[4,5,7,8,9,16],[],[(1,[0,1,4,7,8,9,16])]⟩) tok ks mixed Tryz.func248 (p := []) (by kernel_rfl) (by rfl) (by rfl) <| by
 (try simp -implicitDefEqProofs (disch:=first|exact dd|fail)[Tryz.f248]);(repeat'((with_reducible first|(refine Br.out ?_ ?_<;>intro h<;>(try(have h0:=h;simp only[bH]at h)))|fail)<;>(try simp -implicitDefEqProofs (disch:=first|exact dd|fail)[Tryz.f248])))
 refine AL_for 8 xs.length (fun i=>idx x xs=if idx x (xs.drop i) < 0 then -1 else i + idx x (xs.drop i)) rfl ?_ (fun i n hlt he ih => ?_) (fun n he => ?_)
 ·have : -1≤idx x xs:=by
   induction xs with
   | nil=>simp [idx]
   | cons y l _=>rw [idx];split;omega;split<;>omega
  simp only [List.drop_zero]
  split<;>omega
 ·rw [List.drop_eq_getElem_cons hlt,idx] at he
  (try simp -implicitDefEqProofs (disch:=first|exact dd|fail)[Tryz.f248,hlt]);(repeat'((with_reducible first|(refine Br.out ?_ ?_<;>intro h<;>(try(have h0:=h;simp only[bH]at h)))|fail)<;>(try simp -implicitDefEqProofs (disch:=first|exact dd|fail)[Tryz.f248,hlt])))
  ·rw [he,if_pos (show xs[i]=x from h.symm)];simp
  ·refine ih ?_
   rw [he,if_neg (fun e:xs[i]=x=>h e.symm)]
   repeat' split
   all_goals omega
 ·rw [List.drop_length] at he
  (try simp -implicitDefEqProofs (disch:=first|exact dd|fail)[Tryz.f248]);(repeat'((with_reducible first|(refine Br.out ?_ ?_<;>intro h<;>(try(have h0:=h;simp only[bH]at h)))|fail)<;>(try simp -implicitDefEqProofs (disch:=first|exact dd|fail)[Tryz.f248])))
  simp [he,idx]
theorem slices_Contains (n1:Option Bool) (xs:List Int) (x:Int) (hl:xs.length≤1048576):Snd Tryz.prog 187 [.frz 1 n1 (xs.map ci), .int .i64 x] (.bool (decide (x ∈ xs))) [.unk, .unk]:=Runs.snd (M:=M) (c:=⟨2,[4],[],[]⟩) tok ks mixed Tryz.func187 (p := []) (by kernel_rfl) (by rfl) (by rfl) <| by
 (try simp -implicitDefEqProofs (disch:=first|exact dd|fail)[Tryz.f187]);(repeat'((with_reducible first|(refine Br.out ?_ ?_<;>intro h<;>(try(have h0:=h;simp only[bH]at h)))|refine AC_snd (slices_Index _ xs x hl) ?_|fail)<;>(try simp -implicitDefEqProofs (disch:=first|exact dd|fail)[Tryz.f187])))
 exact idx_mem
theorem impl_InGroup (n1:Option Bool) (c:DCred) (g:Int) (hl:c.groups.length≤1048576):Snd Tryz.prog 115 [fCred n1 c, .int .i64 g] (.bool (inGroup c g)) [.unk, .unk]:=Runs.snd (M:=M) (c:=⟨2,[2,4],[],[]⟩) tok ks mixed Tryz.func115 (p := []) (by kernel_rfl) (by rfl) (by rfl) <| by
 (try simp -implicitDefEqProofs (disch:=first|exact dd|fail)[Tryz.f115]);(repeat'((with_reducible first|(refine Br.out ?_ ?_<;>intro h<;>(try(have h0:=h;simp only[bH]at h)))|refine AC_snd (slices_Contains _ c.groups g hl) ?_|fail)<;>(try simp -implicitDefEqProofs (disch:=first|exact dd|fail)[Tryz.f115])))
 all_goals simp [inGroup, *]
theorem spec_InGroup (n1:Option Bool) (c:DCred) (g:Int) (hl:c.groups.length≤1048576):Snd Tryz.prog 110 [fCred n1 c, .int .i64 g] (.bool (inGroup c g)) [.unk, .unk]:=Runs.snd (M:=M) (c:=⟨2,[2,4],[],[]⟩) tok ks mixed Tryz.func110 (p := []) (by kernel_rfl) (by rfl) (by rfl) <| by
 (try simp -implicitDefEqProofs (disch:=first|exact dd|fail)[Tryz.f110]);(repeat'((with_reducible first|(refine Br.out ?_ ?_<;>intro h<;>(try(have h0:=h;simp only[bH]at h)))|refine AC_snd (spec_l02Has _ c.groups g hl) ?_|fail)<;>(try simp -implicitDefEqProofs (disch:=first|exact dd|fail)[Tryz.f110])))
 all_goals (have hsym:(g=c.gid)=(c.gid=g):=propext eq_comm;simp [inGroup,hsym, *])
set_option maxHeartbeats 4000000 in
theorem impl_IsCred (n1:Option Bool) (c:DCred) (hl:c.groups.length≤1048576):Snd Tryz.prog 75 [fCred n1 c] (.bool (isCred c)) [.unk]:=Runs.snd (M:=M) (c:=⟨1,[1,2,3,4,6,7,8,9,29],[],[(1,[0,1,2,6,7,8,9,29])]⟩) tok ks mixed Tryz.func75 (p := []) (by kernel_rfl) (by rfl) (by rfl) <| by
 (try simp -implicitDefEqProofs (disch:=first|exact dd|fail)[Tryz.f75]);(repeat'((with_reducible first|(refine Br.out ?_ ?_<;>intro h<;>(try(have h0:=h;simp only[bH]at h)))|fail)<;>(try simp -implicitDefEqProofs (disch:=first|exact dd|fail)[Tryz.f75])))
 refine AL_for 8 c.groups.length (fun i=>∀ k < i,CredAt c.groups k) rfl (fun k hk=>absurd hk (Nat.not_lt_zero k)) (fun i n hlt he ih => ?_) (fun n he => ?_)
 ·rcases Nat.eq_zero_or_pos i with rfl | hi
  ·have hz:=credAt_zero hlt
   (try simp -implicitDefEqProofs (disch:=first|exact dd|fail)[Tryz.f75,hlt]);(repeat'((with_reducible first|(refine Br.out ?_ ?_<;>intro h<;>(try(have h0:=h;simp only[bH]at h)))|refine AC_snd (impl_isUser _) ?_|fail)<;>(try simp -implicitDefEqProofs (disch:=first|exact dd|fail)[Tryz.f75,hlt])))
   all_goals first
    | exact isCred_at hlt (by rw [hz];omega)
    | exact ih (lt_succ_all he (by rw [hz];omega))
  ·obtain ⟨j,rfl⟩:∃ j,i=j + 1:=⟨i - 1,by omega⟩
   have hz:=credAt_succ hlt
   (try simp -implicitDefEqProofs (disch:=first|exact dd|fail)[Tryz.f75,hlt]);(repeat'((with_reducible first|(refine Br.out ?_ ?_<;>intro h<;>(try(have h0:=h;simp only[bH]at h)))|refine AC_snd (impl_isUser _) ?_|fail)<;>(try simp -implicitDefEqProofs (disch:=first|exact dd|fail)[Tryz.f75,hlt])))
   all_goals first
    | exact isCred_at hlt (by rw [hz];omega)
    | exact ih (lt_succ_all he (by rw [hz];omega))
 ·(try simp -implicitDefEqProofs (disch:=first|exact dd|fail)[Tryz.f75]);(repeat'((with_reducible first|(refine Br.out ?_ ?_<;>intro h<;>(try(have h0:=h;simp only[bH]at h)))|refine AC_snd (impl_isUser _) ?_|fail)<;>(try simp -implicitDefEqProofs (disch:=first|exact dd|fail)[Tryz.f75])))
  all_goals (rw [isCred_end he];first | omega | (simp [*];done) | (simp [*];omega) | (rw [Bool.eq_iff_iff];simp [*];done) | (rw [Bool.eq_iff_iff];simp [*];omega))
set_option maxHeartbeats 4000000 in
theorem spec_IsCred (n1:Option Bool) (c:DCred) (hl:c.groups.length≤1048576):Snd Tryz.prog 65 [fCred n1 c] (.bool (isCred c)) [.unk]:=Runs.snd (M:=M) (c:=⟨1,[1,2,3,4,6,7,8,9,29],[],[(1,[0,1,2,6,7,8,9,29])]⟩) tok ks mixed Tryz.func65 (p := []) (by kernel_rfl) (by rfl) (by rfl) <| by
 (try simp -implicitDefEqProofs (disch:=first|exact dd|fail)[Tryz.f65]);(repeat'((with_reducible first|(refine Br.out ?_ ?_<;>intro h<;>(try(have h0:=h;simp only[bH]at h)))|fail)<;>(try simp -implicitDefEqProofs (disch:=first|exact dd|fail)[Tryz.f65])))
 refine AL_for 8 c.groups.length (fun i=>∀ k < i,CredAt c.groups k) rfl (fun k hk=>absurd hk (Nat.not_lt_zero k)) (fun i n hlt he ih => ?_) (fun n he => ?_)
 ·rcases Nat.eq_zero_or_pos i with rfl | hi
  ·have hz:=credAt_zero hlt
   (try simp -implicitDefEqProofs (disch:=first|exact dd|fail)[Tryz.f65,hlt]);(repeat'((with_reducible first|(refine Br.out ?_ ?_<;>intro h<;>(try(have h0:=h;simp only[bH]at h)))|refine AC_snd (spec_l06User _) ?_|fail)<;>(try simp -implicitDefEqProofs (disch:=first|exact dd|fail)[Tryz.f65,hlt])))
   all_goals first
    | exact isCred_at hlt (by rw [hz];omega)
    | exact ih (lt_succ_all he (by rw [hz];omega))
  ·obtain ⟨j,rfl⟩:∃ j,i=j + 1:=⟨i - 1,by omega⟩
   have hz:=credAt_succ hlt
   (try simp -implicitDefEqProofs (disch:=first|exact dd|fail)[Tryz.f65,hlt]);(repeat'((with_reducible first|(refine Br.out ?_ ?_<;>intro h<;>(try(have h0:=h;simp only[bH]at h)))|refine AC_snd (spec_l06User _) ?_|fail)<;>(try simp -implicitDefEqProofs (disch:=first|exact dd|fail)[Tryz.f65,hlt])))
   all_goals first
    | exact isCred_at hlt (by rw [hz];omega)
    | exact ih (lt_succ_all he (by rw [hz];omega))
 ·(try simp -implicitDefEqProofs (disch:=first|exact dd|fail)[Tryz.f65]);(repeat'((with_reducible first|(refine Br.out ?_ ?_<;>intro h<;>(try(have h0:=h;simp only[bH]at h)))|refine AC_snd (spec_l06User _) ?_|fail)<;>(try simp -implicitDefEqProofs (disch:=first|exact dd|fail)[Tryz.f65])))
  all_goals (rw [isCred_end he];first | omega | (simp [*];done) | (simp [*];omega) | (rw [Bool.eq_iff_iff];simp [*];done) | (rw [Bool.eq_iff_iff];simp [*];omega))
theorem low3 {x:Int} (h0:0≤x) (h1:x < 9223372036854775808):iAnd x 7=x % 8:=iAnd_low (k:=3) h0 h1 (by decide)
theorem impl_PermOf (m k:Int) (hk:k=0∨k=1∨k=2):Snd Tryz.prog 232 [.int .i64 m, .int .i64 k] (.int .i64 (permOf m k.toNat)) [.unk, .unk]:=by
 obtain rfl | rfl | rfl:=hk
 all_goals
  exact Runs.snd (M:=M) (c:=⟨2,[4,15],[],[]⟩) tok ks mixed Tryz.func232 (p := []) (by kernel_rfl) (by rfl) (by rfl) <| by
   (try simp -implicitDefEqProofs (disch:=first|exact dd|fail)[Tryz.f232]);(repeat'((with_reducible first|(refine Br.out ?_ ?_<;>intro h<;>(try(have h0:=h;simp only[bH]at h)))|refine AC_snd (impl_isMode _) ?_|fail)<;>(try simp -implicitDefEqProofs (disch:=first|exact dd|fail)[Tryz.f232])))
   ·simp only [permOf];rw [if_neg (by omega)]
   ·refine (low3 ?_ ?_).trans ?_
    all_goals (try simp only [Int.fdiv_eq_ediv_of_nonneg m (show (0:Int)≤64 by decide),Int.fdiv_eq_ediv_of_nonneg m (show (0:Int)≤8 by decide)])
    all_goals (try rw [Int.fdiv_eq_ediv_of_nonneg m (by decide)])
    all_goals first | omega | (show m / 64 < _;omega) | (show m / 8 < _;omega) | (show 0≤m / 64;omega) | (show 0≤m / 8;omega) | (rw [permOf,if_pos (by omega)];simp;done) | (rw [permOf,if_pos (by omega)];rfl)
theorem spec_PermOf (m k:Int) (hk:k=0∨k=1∨k=2):Snd Tryz.prog 244 [.int .i64 m, .int .i64 k] (.int .i64 (permOf m k.toNat)) [.unk, .unk]:=by
 obtain rfl | rfl | rfl:=hk
 all_goals
  refine Runs.snd (M:=M) (c:=⟨2,[4,5,13,16],[],[]⟩) tok ks mixed Tryz.func244 (p := []) (by kernel_rfl) (by rfl) (by rfl) ?_
  (try simp -implicitDefEqProofs (disch:=first|exact dd|fail)[Tryz.f244]);(repeat'((with_reducible first|(refine Br.out ?_ ?_<;>intro h<;>(try(have h0:=h;simp only[bH]at h)))|refine AC_snd (spec_l06Mode _) ?_|refine AC_snd (spec_l01In _ _ _) ?_|fail)<;>(try simp -implicitDefEqProofs (disch:=first|exact dd|fail)[Tryz.f244])))
  ·simp only [permOf];rw [if_neg (by omega)]
 ·refine AL_up (fun j=>3 - j) (fun j => [(0, .int .i64 (m / 8 ^ j)),(5, .int .i64 (j:Nat))]) (fun _ => []) (fun j=>j≤2) 0 (by simp) (by omega) ?_
  intro j n hj ih
  obtain rfl | rfl | rfl:j=0∨j=1∨j=2:=by omega
  ·(try simp -implicitDefEqProofs (disch:=first|exact dd|fail)[Tryz.f244]);(repeat'((with_reducible first|(refine Br.out ?_ ?_<;>intro h<;>(try(have h0:=h;simp only[bH]at h)))|fail)<;>(try simp -implicitDefEqProofs (disch:=first|exact dd|fail)[Tryz.f244])))
   have:=ih 1 (by omega) (by omega)
   simp at this
   exact this
  ·(try simp -implicitDefEqProofs (disch:=first|exact dd|fail)[Tryz.f244]);(repeat'((with_reducible first|(refine Br.out ?_ ?_<;>intro h<;>(try(have h0:=h;simp only[bH]at h)))|fail)<;>(try simp -implicitDefEqProofs (disch:=first|exact dd|fail)[Tryz.f244])))
   have:=ih 2 (by omega) (by omega)
   rw [show m / 8 / 8=m / 8 ^ 2 by omega]
   exact this
  ·(try simp -implicitDefEqProofs (disch:=first|exact dd|fail)[Tryz.f244]);(repeat'((with_reducible first|(refine Br.out ?_ ?_<;>intro h<;>(try(have h0:=h;simp only[bH]at h)))|fail)<;>(try simp -implicitDefEqProofs (disch:=first|exact dd|fail)[Tryz.f244])))
   rw [permOf,if_pos (by omega)];rfl
 ·refine AL_up (fun j=>3 - j) (fun j => [(0, .int .i64 (m / 8 ^ (j - 1))),(5, .int .i64 (j:Nat))]) (fun _ => []) (fun j=>1≤j∧j≤2) 1 (by simp) (by omega) ?_
  intro j n hj ih
  obtain rfl | rfl:j=1∨j=2:=by omega
  ·(try simp -implicitDefEqProofs (disch:=first|exact dd|fail)[Tryz.f244]);(repeat'((with_reducible first|(refine Br.out ?_ ?_<;>intro h<;>(try(have h0:=h;simp only[bH]at h)))|fail)<;>(try simp -implicitDefEqProofs (disch:=first|exact dd|fail)[Tryz.f244])))
   have:=ih 2 (by omega) (by omega)
   simp at this
   exact this
  ·(try simp -implicitDefEqProofs (disch:=first|exact dd|fail)[Tryz.f244]);(repeat'((with_reducible first|(refine Br.out ?_ ?_<;>intro h<;>(try(have h0:=h;simp only[bH]at h)))|fail)<;>(try simp -implicitDefEqProofs (disch:=first|exact dd|fail)[Tryz.f244])))
   rw [permOf,if_pos (by omega)];rfl
 ·refine AL_up (fun j=>3 - j) (fun j => [(5, .int .i64 (j:Nat))]) (fun _ => []) (fun j=>j=2) 2 (by simp) rfl ?_
  rintro j n rfl ih
  (try simp -implicitDefEqProofs (disch:=first|exact dd|fail)[Tryz.f244]);(repeat'((with_reducible first|(refine Br.out ?_ ?_<;>intro h<;>(try(have h0:=h;simp only[bH]at h)))|fail)<;>(try simp -implicitDefEqProofs (disch:=first|exact dd|fail)[Tryz.f244])))
  rw [permOf,if_pos (by omega)];simp
theorem impl_Allowed1 (p w:Int):Snd Tryz.prog 231 [.int .i64 p, .fptr [.int .i64 w]] (.bool (hasP p w)) [.unk, .unk]:=Runs.snd (M:=M) (c:=⟨1,[1,3],[],[]⟩) tok ks mixed Tryz.func231 (p := []) (by kernel_rfl) (by rfl) (by rfl) <| by
 (try simp -implicitDefEqProofs (disch:=first|exact dd|fail)[Tryz.f231]);(repeat'((with_reducible first|(refine Br.out ?_ ?_<;>intro h<;>(try(have h0:=h;simp only[bH]at h)))|fail)<;>(try simp -implicitDefEqProofs (disch:=first|exact dd|fail)[Tryz.f231])))
 rfl
theorem spec_l06Covers (p w:Int):Snd Tryz.prog 243 [.int .i64 p, .int .i64 w] (.bool (hasP p w)) [.unk, .unk]:=Runs.snd (M:=M) (c:=⟨2,[4],[],[]⟩) tok ks mixed Tryz.func243 (p := []) (by kernel_rfl) (by rfl) (by rfl) <| by
 (try simp -implicitDefEqProofs (disch:=first|exact dd|fail)[Tryz.f243]);(repeat'((with_reducible first|(refine Br.out ?_ ?_<;>intro h<;>(try(have h0:=h;simp only[bH]at h)))|fail)<;>(try simp -implicitDefEqProofs (disch:=first|exact dd|fail)[Tryz.f243])))
 rfl
def idxP (w:Int):List Int→Int
 | [] => -1
 | y :: l=>if hasP y w=true then 0 else if idxP w l < 0 then -1 else idxP w l + 1
theorem idxP_any {w:Int} {l:List Int}:decide (0≤idxP w l)=l.any (fun p=>hasP p w):=by
 induction l with
 | nil=>simp [idxP]
 | cons y l ih=>
  rw [idxP,List.any_cons,←ih]
  by_cases h1:hasP y w=true
  ·simp [h1]
  ·rw [if_neg h1,eq_false_of_ne_true h1,Bool.false_or,Bool.eq_iff_iff]
   simp only [decide_eq_true_eq]
   split<;>omega
theorem slices_IndexFunc (n1:Option Bool) (xs:List Int) (w:Int) (hl:xs.length≤1048576):Snd Tryz.prog 268 [.frz 1 n1 (xs.map ci), .fn 231 [.fptr [.int .i64 w]]] (.int .i64 (idxP w xs)) [.unk, .unk]:=Runs.snd (M:=M) (c:=⟨2,[4,5,7,8,9,16],[],[(1,[0,1,4,7,8,9,16])]⟩) tok ks mixed Tryz.func268 (p := []) (by kernel_rfl) (by rfl) (by rfl) <| by
 (try simp -implicitDefEqProofs (disch:=first|exact dd|fail)[Tryz.f268]);(repeat'((with_reducible first|(refine Br.out ?_ ?_<;>intro h<;>(try(have h0:=h;simp only[bH]at h)))|fail)<;>(try simp -implicitDefEqProofs (disch:=first|exact dd|fail)[Tryz.f268])))
 refine AL_for 8 xs.length (fun i=>idxP w xs=if idxP w (xs.drop i) < 0 then -1 else i + idxP w (xs.drop i)) rfl ?_ (fun i n hlt he ih => ?_) (fun n he => ?_)
 ·have : -1≤idxP w xs:=by
   induction xs with
   | nil=>simp [idxP]
   | cons y l _=>rw [idxP];split;omega;split<;>omega
  simp only [List.drop_zero]
  split<;>omega
 ·rw [List.drop_eq_getElem_cons hlt,idxP] at he
  (try simp -implicitDefEqProofs (disch:=first|exact dd|fail)[Tryz.f268,hlt]);(repeat'((with_reducible first|(refine Br.out ?_ ?_<;>intro h<;>(try(have h0:=h;simp only[bH]at h)))|refine AC_snd (impl_Allowed1 _ _) ?_|fail)<;>(try simp -implicitDefEqProofs (disch:=first|exact dd|fail)[Tryz.f268,hlt])))
  all_goals first
   |(have hh:hasP xs[i] w=true:=(by assumption)
     simp only [hh,if_true] at he
     rw [he];simp;done)
   |(have hh:hasP xs[i] w=false:=(by assumption)
     simp only [hh,Bool.false_eq_true,if_false] at he
     refine ih ?_
     rw [he]
     (repeat' split)<;>omega)
 ·rw [List.drop_length] at he
  (try simp -implicitDefEqProofs (disch:=first|exact dd|fail)[Tryz.f268]);(repeat'((with_reducible first|(refine Br.out ?_ ?_<;>intro h<;>(try(have h0:=h;simp only[bH]at h)))|fail)<;>(try simp -implicitDefEqProofs (disch:=first|exact dd|fail)[Tryz.f268])))
  simp [he,idxP]
theorem slices_ContainsFunc (n1:Option Bool) (xs:List Int) (w:Int) (hl:xs.length≤1048576):Snd Tryz.prog 235 [.frz 1 n1 (xs.map ci), .fn 231 [.fptr [.int .i64 w]]] (.bool (xs.any (fun p=>hasP p w))) [.unk, .unk]:=Runs.snd (M:=M) (c:=⟨2,[4],[],[]⟩) tok ks mixed Tryz.func235 (p := []) (by kernel_rfl) (by rfl) (by rfl) <| by
 (try simp -implicitDefEqProofs (disch:=first|exact dd|fail)[Tryz.f235]);(repeat'((with_reducible first|(refine Br.out ?_ ?_<;>intro h<;>(try(have h0:=h;simp only[bH]at h)))|refine AC_snd (slices_IndexFunc _ xs w hl) ?_|fail)<;>(try simp -implicitDefEqProofs (disch:=first|exact dd|fail)[Tryz.f235])))
 exact idxP_any
theorem allowed_no {c:DCred} {uid gid mode:Int} {acl:List DAcl} {w:Int} (h:¬ (isCred c=true∧isAcl acl=true∧(0≤uid∧uid < 4)∧(0≤gid∧gid < 4)∧(0≤mode∧mode≤2047)∧0≤w∧w≤7)):allowed c uid gid mode acl w=false:=by
 unfold allowed
 rw [if_neg (by simpa only [Bool.and_eq_true,decide_eq_true_eq,and_assoc] using h)]
theorem allowed_yes {c:DCred} {uid gid mode:Int} {acl:List DAcl} {w:Int} (h:isCred c=true∧isAcl acl=true∧(0≤uid∧uid < 4)∧(0≤gid∧gid < 4)∧(0≤mode∧mode≤2047)∧0≤w∧w≤7):allowed c uid gid mode acl w =
  if c.uid=0 then true else if c.uid=uid then hasP (permOf mode 0) w
  else if (aclPerm acl 1 c.uid).2 then hasP (iAnd (aclPerm acl 1 c.uid).1 (maskOf acl)) w
  else if 0 < (perms0 c gid mode++permsL c acl).length then hasP (maskOf acl) w && (perms0 c gid mode++permsL c acl).any (fun p=>hasP p w)
  else hasP (permOf mode 2) w:=by
 unfold allowed
 rw [if_pos (by simpa only [Bool.and_eq_true,decide_eq_true_eq,and_assoc] using h)]
theorem permsL_take {c:DCred} {acl:List DAcl} {i:Nat} (h:i < acl.length):permsL c (acl.take (i + 1))=if acl[i].tag=2∧inGroup c acl[i].id=true then permsL c (acl.take i) ++ [acl[i].perm] else permsL c (acl.take i):=by
 rw [List.take_succ_eq_append_getElem h,permsL,List.filter_append,List.map_append]
 by_cases h1:acl[i].tag=2<;>by_cases h2:inGroup c acl[i].id=true<;>simp [permsL,h1,h2]
theorem permsL_len {c:DCred} {acl:List DAcl}:(permsL c acl).length≤acl.length:=by
 rw [permsL,List.length_map]
 exact List.length_filter_le _ _
set_option maxHeartbeats 4000000 in
set_option maxRecDepth 4000 in
theorem impl_Allowed (n1 n2:Option Bool) (c:DCred) (uid gid mode:Int) (acl:List DAcl) (w:Int) (hc:c.groups.length≤1048576) (ha:acl.length≤1048576):Snd Tryz.prog 164 [fCred n1 c, .int .i64 uid, .int .i64 gid, .int .i64 mode, .frz 3 n2 (acl.map cAcl), .int .i64 w] (.bool (allowed c uid gid mode acl w)) [.unk, .unk, .unk, .unk, .unk, .unk]:=Runs.snd (M:=M) (c:=⟨6,[6,11,12,13,14,15,16,17,19,50,54,58,72,81,87,88,89,90,101,110],[],[(1,[0,1,2,3,4,5,6,11,12,13,14,15,16,17,50,54,58,72,81,87,88,89,90,101,110])]⟩) tok ks mixed Tryz.func164 (p := []) (by kernel_rfl) (by rfl) (by rfl) <| by
 (try simp -implicitDefEqProofs (disch:=first|exact dd|fail)[Tryz.f164]);(repeat'((with_reducible first|(refine Br.out ?_ ?_<;>intro h<;>(try(have h0:=h;simp only[bH]at h)))|refine AC_snd (impl_IsCred _ c hc) ?_|refine AC_snd (impl_IsAcl _ acl ha) ?_|refine AC_snd (impl_isUser _) ?_|refine AC_snd (impl_isMode _) ?_|refine AC_snd (impl_PermOf _ 0 (by omega)) ?_|refine AC_snd (impl_PermOf _ 1 (by omega)) ?_|refine AC_snd (impl_PermOf _ 2 (by omega)) ?_|refine AC_snd (impl_Allowed1 _ _) ?_|refine AC_snd (impl_MaskOf _ acl ha) ?_|refine AC_snd (impl_AclPerm _ acl _ _ ha) ?_|refine AC_snd (impl_InGroup _ c _ hc) ?_|fail)<;>(try simp -implicitDefEqProofs (disch:=first|exact dd|fail)[Tryz.f164])))
 all_goals try exact allowed_no (by rintro ⟨h1,h2,h3,h4,h5,h6,h7⟩;first | omega | exact tr_not.1 (by assumption) (tr_iff.1 h1) | exact tr_not.1 (by assumption) (tr_iff.1 h2))
 all_goals
  have hy:=allowed_yes (c:=c) (uid:=uid) (gid:=gid) (mode:=mode) (acl:=acl) (w:=w) ⟨by assumption,by assumption,by omega,by omega,by omega,by omega,by omega⟩
 all_goals try (rw [hy];simp [*];done)
 ·rw [hy,if_neg (by assumption),if_pos (by assumption)]
 all_goals
  have hal:acl.length≤6:=(tr_iff.1 (by assumption:isAcl acl=true)).1
 ·have hin:perms0 c gid mode = [permOf mode 1]:=by
   unfold perms0
   rw [if_pos (by assumption)]
  refine AL_fors (σ:=Unit) 89 acl.length (fun i _ => [(17, .ref 2176 none 1 0 (permOf mode 1 :: permsL c (acl.take i)).length (some false))]) (fun i _ => [(2176, .row 1 ((permOf mode 1 :: permsL c (acl.take i)).map ci) [])]) (fun _ _=>True) () rfl trivial (fun i _ n hlt _ ih => ?_) (fun _ n _ => ?_)
  ·have hr:=permsL_take (c:=c) hlt
   have hrl:=permsL_len (c:=c) (acl:=acl.take i)
   rw [List.length_take] at hrl
   have hi:=ih () trivial
   (try simp -implicitDefEqProofs (disch:=first|exact dd|fail)[Tryz.f164,hlt]);(repeat'((with_reducible first|(refine Br.out ?_ ?_<;>intro h<;>(try(have h0:=h;simp only[bH]at h)))|refine AC_snd (impl_InGroup _ c _ hc) ?_|fail)<;>(try simp -implicitDefEqProofs (disch:=first|exact dd|fail)[Tryz.f164,hlt])))
   all_goals first
    |(rw [if_pos ⟨by assumption,by assumption⟩] at hr;simp [hr,ci] at hi;exact hi)
    |(rw [if_neg (by simp [*])] at hr;simp [hr,ci] at hi;exact hi)
  ·rw [List.take_length]
   have hpl:=permsL_len (c:=c) (acl:=acl)
   have hcl:(permOf mode 1 :: permsL c acl).length≤1048576:=by first | omega | (simp;omega)
   (try simp -implicitDefEqProofs (disch:=first|exact dd|fail)[Tryz.f164]);(repeat'((with_reducible first|(refine Br.out ?_ ?_<;>intro h<;>(try(have h0:=h;simp only[bH]at h)))|refine AC_snd (impl_Allowed1 _ _) ?_|refine AC_snd (slices_ContainsFunc _ (permOf mode 1 :: permsL c acl) _ hcl) ?_|refine AC_snd (impl_PermOf _ 2 (by omega)) ?_|fail)<;>(try simp -implicitDefEqProofs (disch:=first|exact dd|fail)[Tryz.f164])))
   all_goals (rw [hy,hin];simp [*];try omega)
 ·have hin:perms0 c gid mode = []:=by
   unfold perms0
   rw [if_neg (by simp [*])]
  refine AL_fors (σ:=Unit) 89 acl.length (fun i _ => [(17, .ref 2176 none 1 0 (permsL c (acl.take i)).length (some false))]) (fun i _ => [(2176, .row 1 ((permsL c (acl.take i)).map ci) [])]) (fun _ _=>True) () rfl trivial (fun i _ n hlt _ ih => ?_) (fun _ n _ => ?_)
  ·have hr:=permsL_take (c:=c) hlt
   have hrl:=permsL_len (c:=c) (acl:=acl.take i)
   rw [List.length_take] at hrl
   have hi:=ih () trivial
   (try simp -implicitDefEqProofs (disch:=first|exact dd|fail)[Tryz.f164,hlt]);(repeat'((with_reducible first|(refine Br.out ?_ ?_<;>intro h<;>(try(have h0:=h;simp only[bH]at h)))|refine AC_snd (impl_InGroup _ c _ hc) ?_|fail)<;>(try simp -implicitDefEqProofs (disch:=first|exact dd|fail)[Tryz.f164,hlt])))
   all_goals first
    |(rw [if_pos ⟨by assumption,by assumption⟩] at hr;simp [hr,ci] at hi;exact hi)
    |(rw [if_neg (by simp [*])] at hr;simp [hr,ci] at hi;exact hi)
  ·rw [List.take_length]
   have hpl:=permsL_len (c:=c) (acl:=acl)
   have hcl:(permsL c acl).length≤1048576:=by first | omega | (simp;omega)
   (try simp -implicitDefEqProofs (disch:=first|exact dd|fail)[Tryz.f164]);(repeat'((with_reducible first|(refine Br.out ?_ ?_<;>intro h<;>(try(have h0:=h;simp only[bH]at h)))|refine AC_snd (impl_Allowed1 _ _) ?_|refine AC_snd (slices_ContainsFunc _ (permsL c acl) _ hcl) ?_|refine AC_snd (impl_PermOf _ 2 (by omega)) ?_|fail)<;>(try simp -implicitDefEqProofs (disch:=first|exact dd|fail)[Tryz.f164])))
   all_goals (rw [hy,hin];simp [*];try omega)
theorem permsL_any {c:DCred} {acl:List DAcl} {w:Int} {i:Nat} (h:i < acl.length):(permsL c (acl.take (i + 1))).any (fun p=>hasP p w)=((permsL c (acl.take i)).any (fun p=>hasP p w) || (decide (acl[i].tag=2) && inGroup c acl[i].id && hasP acl[i].perm w)):=by
 rw [permsL_take h]
 by_cases h1:acl[i].tag=2<;>by_cases h2:inGroup c acl[i].id=true<;>simp [h1,h2]
theorem permsL_pos {c:DCred} {acl:List DAcl} {i:Nat} (h:i < acl.length):decide (0 < (permsL c (acl.take (i + 1))).length)=(decide (0 < (permsL c (acl.take i)).length) || (decide (acl[i].tag=2) && inGroup c acl[i].id)):=by
 rw [permsL_take h]
 by_cases h1:acl[i].tag=2<;>by_cases h2:inGroup c acl[i].id=true<;>simp [h1,h2]
theorem dec_add {a b:Nat}:decide (0 < a + b)=(decide (0 < a) || decide (0 < b)):=by
 rw [Bool.eq_iff_iff]
 simp
 omega
set_option maxHeartbeats 4000000 in
set_option maxRecDepth 4000 in
theorem spec_Allowed (n1 n2:Option Bool) (c:DCred) (uid gid mode:Int) (acl:List DAcl) (w:Int) (hc:c.groups.length≤1048576) (ha:acl.length≤1048576):Snd Tryz.prog 182 [fCred n1 c, .int .i64 uid, .int .i64 gid, .int .i64 mode, .frz 3 n2 (acl.map cAcl), .int .i64 w] (.bool (allowed c uid gid mode acl w)) [.unk, .unk, .unk, .unk, .unk, .unk]:=Runs.snd (M:=M) (c:=⟨6,[6,12,13,14,15,16,17,19,47,50,54,68,76,81,82,83,84,95,104],[],[(1,[0,1,2,3,4,5,6,12,13,14,15,16,17,47,50,54,68,76,81,82,83,84,95,104])]⟩) tok ks mixed Tryz.func182 (p := []) (by kernel_rfl) (by rfl) (by rfl) <| by
 (try simp -implicitDefEqProofs (disch:=first|exact dd|fail)[Tryz.f182]);(repeat'((with_reducible first|(refine Br.out ?_ ?_<;>intro h<;>(try(have h0:=h;simp only[bH]at h)))|refine AC_snd (spec_IsCred _ c hc) ?_|refine AC_snd (spec_IsAcl _ acl ha) ?_|refine AC_snd (spec_l06User _) ?_|refine AC_snd (spec_l06Mode _) ?_|refine AC_snd (spec_l01In _ _ _) ?_|refine AC_snd (spec_PermOf _ 0 (by omega)) ?_|refine AC_snd (spec_PermOf _ 1 (by omega)) ?_|refine AC_snd (spec_PermOf _ 2 (by omega)) ?_|refine AC_snd (spec_l06Covers _ _) ?_|refine AC_snd (spec_MaskOf _ acl ha) ?_|refine AC_snd (spec_AclPerm _ acl _ _ ha) ?_|refine AC_snd (spec_InGroup _ c _ hc) ?_|fail)<;>(try simp -implicitDefEqProofs (disch:=first|exact dd|fail)[Tryz.f182])))
 all_goals try exact allowed_no (by rintro ⟨h1,h2,h3,h4,h5,h6,h7⟩;first | omega | exact tr_not.1 (by assumption) (tr_iff.1 h1) | exact tr_not.1 (by assumption) (tr_iff.1 h2))
 all_goals
  have hy:=allowed_yes (c:=c) (uid:=uid) (gid:=gid) (mode:=mode) (acl:=acl) (w:=w) ⟨by assumption,by assumption,by omega,by omega,by omega,by omega,by omega⟩
 all_goals try (rw [hy];simp [*];done)
 all_goals try (rw [hy,if_neg (by assumption),if_pos (by assumption)];done)
 ·have hin:perms0 c gid mode = [permOf mode 1]:=by
   unfold perms0
   rw [if_pos (by assumption)]
  refine AL_fors (σ:=Bool × Bool) 83 acl.length (fun _ x => [(16, .bool x.1),(17, .bool x.2)]) (fun _ _ => []) (fun i x=>x.1=decide (0 < ([permOf mode 1]++permsL c (acl.take i)).length)∧x.2=([permOf mode 1]++permsL c (acl.take i)).any (fun p=>hasP p w)) (true,hasP (permOf mode 1) w) rfl ⟨by simp [permsL],by simp [permsL]⟩ (fun i x n hlt hx ih => ?_) (fun x n hx => ?_)
  ·obtain ⟨m,b⟩:=x
   obtain ⟨hx1,hx2⟩:=hx
   have hm':decide (0 < ([permOf mode 1]++permsL c (acl.take (i + 1))).length)=(m || (decide (acl[i].tag=2) && inGroup c acl[i].id)):=by
    simp only at hx1
    rw [hx1,List.length_append,List.length_append,dec_add,dec_add,permsL_pos hlt,Bool.or_assoc]
   have hb':([permOf mode 1]++permsL c (acl.take (i + 1))).any (fun p=>hasP p w)=(b || (decide (acl[i].tag=2) && inGroup c acl[i].id && hasP acl[i].perm w)):=by
    simp only at hx2
    rw [hx2,List.any_append,List.any_append,permsL_any hlt,Bool.or_assoc]
   clear hx1 hx2
   (try simp -implicitDefEqProofs (disch:=first|exact dd|fail)[Tryz.f182,hlt]);(repeat'((with_reducible first|(refine Br.out ?_ ?_<;>intro h<;>(try(have h0:=h;simp only[bH]at h)))|refine AC_snd (spec_InGroup _ c _ hc) ?_|refine AC_snd (spec_l06Covers _ _) ?_|fail)<;>(try simp -implicitDefEqProofs (disch:=first|exact dd|fail)[Tryz.f182,hlt])))
   all_goals first
    | exact ih (m,b) ⟨by rw [hm'];simp [*],by rw [hb'];simp [*]⟩
    | exact ih (true,b) ⟨by rw [hm'];simp [*],by rw [hb'];simp [*]⟩
    | exact ih (true,true) ⟨by rw [hm'];simp [*],by rw [hb'];simp [*]⟩
    | exact ih (true,false) ⟨by rw [hm'];simp [*],by rw [hb'];simp [*]⟩
    | exact ih (true,hasP acl[i].perm w) ⟨by rw [hm'];simp [*],by rw [hb'];simp [*]⟩
  ·rw [List.take_length] at hx
   obtain ⟨m,b⟩:=x
   obtain ⟨hx1,hx2⟩:=hx
   simp only at hx1 hx2
   have hy2:allowed c uid gid mode acl w=if m=true then (hasP (maskOf acl) w && b) else hasP (permOf mode 2) w:=by
    rw [hy,if_neg (show ¬ c.uid=0 by assumption),if_neg (show ¬ c.uid=uid by assumption),if_neg (show ¬ (aclPerm acl 1 c.uid).2=true by simp [*]),hin,hx1,hx2]
    simp only [decide_eq_true_eq]
   clear hx1 hx2
   (try simp -implicitDefEqProofs (disch:=first|exact dd|fail)[Tryz.f182]);(repeat'((with_reducible first|(refine Br.out ?_ ?_<;>intro h<;>(try(have h0:=h;simp only[bH]at h)))|refine AC_snd (spec_l06Covers _ _) ?_|refine AC_snd (spec_PermOf _ 2 (by omega)) ?_|fail)<;>(try simp -implicitDefEqProofs (disch:=first|exact dd|fail)[Tryz.f182])))
   all_goals (rw [hy2];simp [*])
 ·have hin:perms0 c gid mode = []:=by
   unfold perms0
   rw [if_neg (by simp [*])]
  refine AL_fors (σ:=Bool × Bool) 83 acl.length (fun _ x => [(16, .bool x.1),(17, .bool x.2)]) (fun _ _ => []) (fun i x=>x.1=decide (0 < ([]++permsL c (acl.take i)).length)∧x.2=([]++permsL c (acl.take i)).any (fun p=>hasP p w)) (false,false) rfl ⟨by simp [permsL],by simp [permsL]⟩ (fun i x n hlt hx ih => ?_) (fun x n hx => ?_)
  ·obtain ⟨m,b⟩:=x
   obtain ⟨hx1,hx2⟩:=hx
   have hm':decide (0 < ([]++permsL c (acl.take (i + 1))).length)=(m || (decide (acl[i].tag=2) && inGroup c acl[i].id)):=by
    simp only at hx1
    rw [hx1,List.length_append,List.length_append,dec_add,dec_add,permsL_pos hlt,Bool.or_assoc]
   have hb':([]++permsL c (acl.take (i + 1))).any (fun p=>hasP p w)=(b || (decide (acl[i].tag=2) && inGroup c acl[i].id && hasP acl[i].perm w)):=by
    simp only at hx2
    rw [hx2,List.any_append,List.any_append,permsL_any hlt,Bool.or_assoc]
   clear hx1 hx2
   (try simp -implicitDefEqProofs (disch:=first|exact dd|fail)[Tryz.f182,hlt]);(repeat'((with_reducible first|(refine Br.out ?_ ?_<;>intro h<;>(try(have h0:=h;simp only[bH]at h)))|refine AC_snd (spec_InGroup _ c _ hc) ?_|refine AC_snd (spec_l06Covers _ _) ?_|fail)<;>(try simp -implicitDefEqProofs (disch:=first|exact dd|fail)[Tryz.f182,hlt])))
   all_goals first
    | exact ih (m,b) ⟨by rw [hm'];simp [*],by rw [hb'];simp [*]⟩
    | exact ih (true,b) ⟨by rw [hm'];simp [*],by rw [hb'];simp [*]⟩
    | exact ih (true,true) ⟨by rw [hm'];simp [*],by rw [hb'];simp [*]⟩
    | exact ih (true,false) ⟨by rw [hm'];simp [*],by rw [hb'];simp [*]⟩
    | exact ih (true,hasP acl[i].perm w) ⟨by rw [hm'];simp [*],by rw [hb'];simp [*]⟩
  ·rw [List.take_length] at hx
   obtain ⟨m,b⟩:=x
   obtain ⟨hx1,hx2⟩:=hx
   simp only at hx1 hx2
   have hy2:allowed c uid gid mode acl w=if m=true then (hasP (maskOf acl) w && b) else hasP (permOf mode 2) w:=by
    rw [hy,if_neg (show ¬ c.uid=0 by assumption),if_neg (show ¬ c.uid=uid by assumption),if_neg (show ¬ (aclPerm acl 1 c.uid).2=true by simp [*]),hin,hx1,hx2]
    simp only [decide_eq_true_eq]
   clear hx1 hx2
   (try simp -implicitDefEqProofs (disch:=first|exact dd|fail)[Tryz.f182]);(repeat'((with_reducible first|(refine Br.out ?_ ?_<;>intro h<;>(try(have h0:=h;simp only[bH]at h)))|refine AC_snd (spec_l06Covers _ _) ?_|refine AC_snd (spec_PermOf _ 2 (by omega)) ?_|fail)<;>(try simp -implicitDefEqProofs (disch:=first|exact dd|fail)[Tryz.f182])))
   all_goals (rw [hy2];simp [*])
end Go.Proofs.YtgopfdninbknpaaGreat
