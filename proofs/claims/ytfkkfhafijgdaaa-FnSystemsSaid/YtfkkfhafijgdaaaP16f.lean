import Derived.Test.YtfkkfhafijgdaaaP16e
import Derived.Test.YtfkkfhafijgdaaaP13a
namespace Go.Fw
set_option linter.unusedVariables false
theorem Snd.arg {P:Program} {f:FuncId} {pre post:List AV} {a a':AV} {res:AV} {outs:List AV} (hr:∀ w S F v,ArgR w S F a v→ArgR w S F a' v) (hg:∀ F v b k,Grant F a v b k↔Grant F a' v b k)
  (h:Snd P f (pre++a' :: post) res outs):Snd P f (pre++a :: post) res outs:=by
 refine ⟨by have:=h.1;simpa using this,fun w S vs F hvl hS hF1 hF2 hA => ?_⟩
 have hget:∀ (x:AV) (k:Nat) (b:AV),(pre++x :: post)[k]? = some b→(k=pre.length∧b=x)∨(k≠pre.length∧∀ y,(pre++y :: post)[k]? = some b):=by
  intro x k b hk
  by_cases e:k=pre.length
  ·subst e
   rw [List.getElem?_append_right (Nat.le_refl _)] at hk
   simp at hk
   exact .inl ⟨rfl,hk.symm⟩
  ·refine .inr ⟨e,fun y => ?_⟩
   rw [List.getElem?_append] at hk ⊢
   split
   ·rename_i hlt
    rw [if_pos hlt] at hk
    exact hk
   ·rename_i hlt
    rw [if_neg hlt] at hk
    obtain ⟨q,hq⟩:∃ q,k - pre.length=q + 1:=⟨k - pre.length - 1,by omega⟩
    rw [hq] at hk ⊢
    simpa using hk
 have hat:∀ x:AV,(pre++x :: post)[pre.length]? = some x:=fun x=>by simp
 have hgr:Granted F (pre++a' :: post) vs=Granted F (pre++a :: post) vs:=by
  funext b m
  apply propext
  constructor
  ·rintro ⟨k,x,u,g1,g2,g3⟩
   rcases hget a' k x g1 with ⟨rfl,rfl⟩ | ⟨-,h1⟩
   ·exact ⟨_,a,u,hat a,g2,(hg _ _ _ _).2 g3⟩
   ·exact ⟨k,x,u,h1 a,g2,g3⟩
  ·rintro ⟨k,x,u,g1,g2,g3⟩
   rcases hget a k x g1 with ⟨rfl,rfl⟩ | ⟨-,h1⟩
   ·exact ⟨_,a',u,hat a',g2,(hg _ _ _ _).1 g3⟩
   ·exact ⟨k,x,u,h1 a',g2,g3⟩
 have:=h.2 w S vs F (by simpa using hvl) hS hF1 hF2 (fun k x v hk hv=>by
  rcases hget a' k x hk with ⟨rfl,rfl⟩ | ⟨-,h1⟩
  ·exact hr _ _ _ _ (hA _ a v (hat a) hv)
  ·exact hA k x v (h1 a) hv)
 rw [hgr] at this
 exact this
theorem Snd.nil_arg {P:Program} {f:FuncId} {pre post:List AV} {sz:Nat} {nl:Option Bool} {res:AV} {outs:List AV} (hn:nl≠some false) (h:Snd P f (pre ++ .frz sz nl [] :: post) res outs):Snd P f (pre ++ .frz 0 (some true) [] :: post) res outs:=by
 refine Snd.arg (a := .frz 0 (some true) []) (a' := .frz sz nl []) (fun w S F v hv => ?_) (fun F v b k=>Iff.rfl) h
 have hf:FV w S (.frz 0 (some true) []) v:=hv
 have he:v = .slice none 0 0:=by
  cases hf with
  | frz h1 h2=>
   cases h1 with
   | nil=>rfl
   | row=>have:=h2 true rfl;simp [nilV] at this
 subst he
 exact FV.frz (.nil _) (fun b hb=>by
  cases b with
  | true=>rfl
  | false=>exact absurd hb hn)
end Go.Fw
namespace Go.Proofs.Ytfkkfhafijgdaaa
open Go.Fw
set_option linter.unusedVariables false
set_option linter.unusedSimpArgs false
set_option maxHeartbeats 1000000
set_option maxRecDepth 8000
theorem procs_sm {g:DFS} {cs:List DCred} (hg:SmF g) (hl:cs.length≤1048576) (hc:∀ c ∈ cs,c.groups.length≤1048576):SmS ⟨g,cs.map fun c=>⟨c,[zOpen,zOpen,zOpen]⟩⟩:=by
 refine ⟨hg,by simpa using hl,fun p hp => ?_⟩
 obtain ⟨c,h1,rfl⟩:=List.mem_map.1 hp
 exact ⟨hc c h1,by simp⟩
theorem impl_NewSystem (n1 n2 n3 n4:Option Bool) (f:DFS) (cs:List DCred) (hs:SmF f) (hl:cs.length≤1048576) (hc:∀ c ∈ cs,c.groups.length≤1048576):Snd Try.prog 11 [fFS n1 n2 n3 f, .frz 3 n4 (cs.map cCred)] (rSystem (newSys (dropO f []) cs)) [.unk, .unk]:=Runs.snd (M:=M) (c:=⟨2,[2,4,5,7,10,15,16,17,18,33],[],[(1,[0,1,2,4,5,10,15,16,17,18,33])]⟩) tok ks mixed Try.func11 (p := []) (by kernel_rfl) (by rfl) (by rfl) <| by
 by_cases h4:cs.length=4
 rotate_left
 ·rw [newSys_len h4]
  (try simp -implicitDefEqProofs (disch:=first|exact dd|fail)[Try.f11,h4,zSys]);(repeat'((with_reducible first|(refine Br.out ?_ ?_<;>intro h<;>(try(have h0:=h;simp only[bH]at h)))|fail)<;>(try simp -implicitDefEqProofs (disch:=first|exact dd|fail)[Try.f11,h4,zSys])))
 have hg:SmF (dropO f []):=by
  unfold dropO
  split
  ·have hd0:DI f f:=⟨hs,rfl,rfl,rfl,fun h=>h⟩
   exact (hd0.all (busy := []) (l:=orph f.inodes)).1
  ·exact hs
 have c1:∀ a b d,Snd Try.prog 48 [fFS a b d f, .frz 0 (some true) []] (rFS (dropO f [])) [.unk, .unk]:=fun a b d=>Snd.nil_arg (pre := [_]) (post := []) (sz:=1) (nl:=none) (by simp) (impl_DropOrphans a b d none f [] hs (by simp))
 have hsys:=procs_sm hg hl hc
 have c2:=fun a b d e=>impl_IsSystem a b d e _ hsys
 obtain ⟨A,hA⟩:∃ A,A=newSys (dropO f []) cs:=⟨_,rfl⟩
 rw [←hA]
 unfold newSys at hA
 generalize dropO f []=g at *
 obtain ⟨b,hb⟩:∃ b,b=isSystem ⟨g,cs.map fun c=>⟨c,[zOpen,zOpen,zOpen]⟩⟩:=⟨_,rfl⟩
 rw [←hb] at hA c2
 (try simp -implicitDefEqProofs (disch:=first|exact dd|fail)[Try.f11,h4]);(repeat'((with_reducible first|(refine Br.out ?_ ?_<;>intro h<;>(try(have h0:=h;simp only[bH]at h)))|refine AC_snd (c1 _ _ _) ?_|fail)<;>(try simp -implicitDefEqProofs (disch:=first|exact dd|fail)[Try.f11,h4])))
 refine AL_fors (σ:=Unit) 17 cs.length (fun _ _ => []) (fun i _=>if i=0 then [] else [(640, .box [.int .i64 g.tick, .ref 644 none 2 0 g.quotas.length none, .ref 646 none 10 0 g.inodes.length none, .ref 648 none 1 0 g.data.length none, .ref 650 none 4 0 i none]),(650, .row 4 (((cs.take i).map fun c=>(⟨c,[zOpen,zOpen,zOpen]⟩:DProc)).map cProc) [])]) (fun _ _=>True) () rfl trivial (fun i _ n hlt _ ih => ?_) (fun _ n _ => ?_)
 ·have ht:=List.take_succ_eq_append_getElem hlt
  have hi:=ih () trivial
  have hp:=hc _ (List.getElem_mem hlt)
  simp only [Nat.add_eq_zero_iff,Nat.one_ne_zero,and_false,if_false,ht,List.map_append,List.map_cons,List.map_nil] at hi
  rcases i with _ | i
  ·(try simp -implicitDefEqProofs (disch:=first|exact dd|fail)[Try.f11,hlt,cCred,cProc]);(repeat'((with_reducible first|(refine Br.out ?_ ?_<;>intro h<;>(try(have h0:=h;simp only[bH]at h)))|refine AC_snd (impl_copyCred _ cs[0] hp) ?_|fail)<;>(try simp -implicitDefEqProofs (disch:=first|exact dd|fail)[Try.f11,hlt,cCred,cProc])))
   all_goals first | exact hi
  ·have hL:(List.map cProc (List.map (fun c=>(⟨c,[zOpen,zOpen,zOpen]⟩:DProc)) (List.take (i + 1) cs))).length=i + 1:=by simp;omega
   generalize List.map cProc (List.map (fun c=>(⟨c,[zOpen,zOpen,zOpen]⟩:DProc)) (List.take (i + 1) cs))=G at *
   have hG:List.take (i + 1) G=G:=List.take_of_length_le (by omega)
   (try simp -implicitDefEqProofs (disch:=first|exact dd|fail)[Try.f11,hlt,hG,hL,cCred,cProc]);(repeat'((with_reducible first|(refine Br.out ?_ ?_<;>intro h<;>(try(have h0:=h;simp only[bH]at h)))|refine AC_snd (impl_copyCred _ cs[i + 1] hp) ?_|fail)<;>(try simp -implicitDefEqProofs (disch:=first|exact dd|fail)[Try.f11,hlt,hG,hL,cCred,cProc])))
   all_goals first | (simp [cProc] at hi;exact hi)
 ·have h1:¬ cs.length=0:=by omega
  have h2:¬ cs = []:=fun e=>h1 (by rw [e];rfl)
  simp only [h1,if_false,List.take_length]
  have hPl:(cs.map fun c=>(⟨c,[zOpen,zOpen,zOpen]⟩:DProc)).length=cs.length:=by simp
  generalize (cs.map fun c=>(⟨c,[zOpen,zOpen,zOpen]⟩:DProc))=P at *
  have hPt:List.take cs.length (P.map cProc)=P.map cProc:=List.take_of_length_le (by simp;omega)
  have hP0:¬ P.length=0:=by omega
  cases b with
  | true=>
   simp only [if_true] at hA
   subst hA
   (try simp -implicitDefEqProofs (disch:=first|exact dd|fail)[Try.f11,h2,hPl,hPt]);(repeat'((with_reducible first|(refine Br.out ?_ ?_<;>intro h<;>(try(have h0:=h;simp only[bH]at h)))|refine AC_snd (c2 _ _ _ _) ?_|fail)<;>(try simp -implicitDefEqProofs (disch:=first|exact dd|fail)[Try.f11,h2,hPl,hPt])))
  | false=>
   simp only [Bool.false_eq_true,if_false] at hA
   subst hA
   (try simp -implicitDefEqProofs (disch:=first|exact dd|fail)[Try.f11,h2,hPl,hPt,zSys]);(repeat'((with_reducible first|(refine Br.out ?_ ?_<;>intro h<;>(try(have h0:=h;simp only[bH]at h)))|refine AC_snd (c2 _ _ _ _) ?_|fail)<;>(try simp -implicitDefEqProofs (disch:=first|exact dd|fail)[Try.f11,h2,hPl,hPt,zSys])))
end Go.Proofs.Ytfkkfhafijgdaaa
