import Derived.Test.YtgopfdninbknpaaGreatLibH
import Derived.Test.YtgopfdninbknpaaGreatP17
import Derived.Test.YtgopfdninbknpaaGreatMC
import Derived.Test.YtgopfdninbknpaaGreatBx
import Derived.Test.YtgopfdninbknpaaGreatP10
import Derived.Test.YtgopfdninbknpaaGreatP12
namespace Go.Proofs.YtgopfdninbknpaaGreat
open Go.Fw
set_option linter.unusedVariables false
set_option linter.unusedSimpArgs false
set_option maxHeartbeats 4000000
set_option maxRecDepth 8000
structure SI (s:Str) (i:Nat) (out:List Str) (a:Nat):Prop where
 cut:splitS s=out++cutS ((s.drop a).take (i - a)) (s.drop i)
 le:a≤i
 len:out.length≤i
theorem SI.start {s:Str}:SI s 0 [] 0:=⟨by simp [splitS],Nat.le_refl _,Nat.le_refl _⟩
theorem SI.yes {s:Str} {i a:Nat} {out:List Str} (h:SI s i out a) (hi:i < s.length) (he:s[i]=47):SI s (i + 1) (out ++ [(s.drop a).take (i - a)]) (i + 1):=by
 have:=h.cut
 rw [cutS_at hi h.le,if_pos he] at this
 exact ⟨by rw [this];simp,Nat.le_refl _,by have:=h.len;simp;omega⟩
theorem SI.no {s:Str} {i a:Nat} {out:List Str} (h:SI s i out a) (hi:i < s.length) (he:¬ s[i]=47):SI s (i + 1) out a:=by
 have:=h.cut
 rw [cutS_at hi h.le,if_neg he] at this
 exact ⟨this,by have:=h.le;omega,by have:=h.len;omega⟩
theorem SI.done {s:Str} {a:Nat} {out:List Str} (h:SI s s.length out a):splitS s=out ++ [s.drop a]:=by
 have:=h.cut
 rwa [cutS_end] at this
theorem byte_ne {b:UInt8} (h:¬ b=47):¬ b.toNat=47:=fun e=>h (UInt8.toNat_inj.1 e)
theorem impl_SplitAny (s:Str) (hs:s.length≤1048576):Snd Tryz.prog 227 [.str s, .str [47]] (.row 1 ((splitS s).map cs)) [.unk, .unk]:=Runs.snd (M:=M) (c:=⟨2,[4,5,6,7,10,11,12,19],[],[(1,[0,1,4,5,6,10,11,12,19])]⟩) tok ks mixed Tryz.func227 (p := []) (by kernel_rfl) (by rfl) (by rfl) <| by
 obtain ⟨R,hR⟩:∃ R,R=splitS s:=⟨_,rfl⟩
 rw [←hR]
 (try simp -implicitDefEqProofs (disch:=first|exact dd|fail)[Tryz.f227]);(repeat'((with_reducible first|(refine Br.out ?_ ?_<;>intro h<;>(try(have h0:=h;simp only[bH]at h)))|fail)<;>(try simp -implicitDefEqProofs (disch:=first|exact dd|fail)[Tryz.f227])))
 refine AL_fors (σ:=List Str × Nat) 11 s.length (fun i y => [(5, .ref 640 none 1 0 y.1.length (some false)),(6, .int .i64 (y.2:Nat))]) (fun i y => [(640, .row 1 (y.1.map cs) [])]) (fun i y=>SI s i y.1 y.2) ([],0) rfl SI.start (fun i y n hlt hI ih => ?_) (fun y n hI => ?_)
 ·obtain ⟨out,a⟩:=y
  simp only at hI ⊢
  have ht:=takeM (f:=cs) (show out.length=out.length from rfl)
  have hc:=strings_IndexByte [47] s[i]
  have hle:=hI.le
  have hln:=hI.len
  have e1:((i:Int) - a).toNat=i - a:=by omega
  by_cases he:s[i]=47
  ·have hj:=ih (out ++ [(s.drop a).take (i - a)],i + 1) (hI.yes hlt he)
   simp only [List.map_append,List.map_cons,List.map_nil,cs,List.length_append,List.length_cons,List.length_nil,Nat.zero_add] at hj
   have hn:s[i].toNat=47:=by rw [he];rfl
   rw [he,show Lib.indexByte [47] 47=0 from rfl] at hc
   rw [show ((47:UInt8).toNat:Int)=47 from rfl] at hc
   (try simp -implicitDefEqProofs (disch:=first|exact dd|fail)[Tryz.f227,hlt,hn,e1,ht]);(repeat'((with_reducible first|(refine Br.out ?_ ?_<;>intro h<;>(try(have h0:=h;simp only[bH]at h)))|refine AC_snd (hc) ?_|fail)<;>(try simp -implicitDefEqProofs (disch:=first|exact dd|fail)[Tryz.f227,hlt,hn,e1,ht])))
   all_goals first | exact hj
  ·have hj:=ih (out,a) (hI.no hlt he)
   have hi1:Lib.indexByte [47] s[i] = -1:=by
    have:¬ (47:UInt8)=s[i]:=fun e=>he e.symm
    simp [Lib.indexByte,this]
   rw [hi1] at hc
   (try simp -implicitDefEqProofs (disch:=first|exact dd|fail)[Tryz.f227,hlt]);(repeat'((with_reducible first|(refine Br.out ?_ ?_<;>intro h<;>(try(have h0:=h;simp only[bH]at h)))|refine AC_snd (hc) ?_|fail)<;>(try simp -implicitDefEqProofs (disch:=first|exact dd|fail)[Tryz.f227,hlt])))
   all_goals first | exact hj
 ·obtain ⟨out,a⟩:=y
  simp only at hI ⊢
  have ht:=takeM (f:=cs) (show out.length=out.length from rfl)
  have hle:=hI.le
  have hln:=hI.len
  have hd:=hI.done
  have e2:(s.drop a).take ((s.length:Int) - a).toNat=s.drop a:=List.take_of_length_le (by rw [List.length_drop];omega)
  rw [hR,hd]
  (try simp -implicitDefEqProofs (disch:=first|exact dd|fail)[Tryz.f227,ht,e2]);(repeat'((with_reducible first|(refine Br.out ?_ ?_<;>intro h<;>(try(have h0:=h;simp only[bH]at h)))|fail)<;>(try simp -implicitDefEqProofs (disch:=first|exact dd|fail)[Tryz.f227,ht,e2])))
  exact List.take_of_length_le (by rw [List.length_drop];omega)
set_option maxHeartbeats 4000000
set_option maxRecDepth 8000
theorem spec_SplitAny (s:Str) (hs:s.length≤1048576):Snd Tryz.prog 218 [.str s, .str [47]] (.row 1 ((splitS s).map cs)) [.unk, .unk]:=Runs.snd (M:=M) (c:=⟨2,[4,5,6,7,8,13,19,28],[],[(1,[0,1,4,5,6,7,13,19,28])]⟩) tok ks mixed Tryz.func218 (p := []) (by kernel_rfl) (by rfl) (by rfl) <| by
 obtain ⟨R,hR⟩:∃ R,R=splitS s:=⟨_,rfl⟩
 rw [←hR]
 (try simp -implicitDefEqProofs (disch:=first|exact dd|fail)[Tryz.f218]);(repeat'((with_reducible first|(refine Br.out ?_ ?_<;>intro h<;>(try(have h0:=h;simp only[bH]at h)))|fail)<;>(try simp -implicitDefEqProofs (disch:=first|exact dd|fail)[Tryz.f218])))
 refine AL_fors (σ:=List Str × Nat) 7 s.length (fun i y => [(5, .ref 640 none 1 0 y.1.length (some false)),(6, .int .i64 (y.2:Nat))]) (fun i y => [(640, .row 1 (y.1.map cs) [])]) (fun i y=>SI s i y.1 y.2) ([],0) rfl SI.start (fun i y n hlt hI ih => ?_) (fun y n hI => ?_)
 ·obtain ⟨out,a⟩:=y
  simp only at hI ⊢
  have ht:=takeM (f:=cs) (show out.length=out.length from rfl)
  have hle:=hI.le
  have hln:=hI.len
  have e1:((i:Int) - a).toNat=i - a:=by omega
  (try simp -implicitDefEqProofs (disch:=first|exact dd|fail)[Tryz.f218,hlt]);(repeat'((with_reducible first|(refine Br.out ?_ ?_<;>intro h<;>(try(have h0:=h;simp only[bH]at h)))|fail)<;>(try simp -implicitDefEqProofs (disch:=first|exact dd|fail)[Tryz.f218,hlt])))
  refine AL_up (fun k=>1 - k) (fun k => [(8, .int .i64 (k:Nat))]) (fun _ => []) (fun k=>k≤1∧(k=1→¬ s[i]=47)) 0 rfl ⟨by omega,by omega⟩ ?_
  rintro k m ⟨hk,hk1⟩ jh
  rcases Nat.lt_or_ge k 1 with hk0 | hk0
  ·obtain rfl:k=0:=by omega
   by_cases he:s[i]=47
   ·have hj:=ih (out ++ [(s.drop a).take (i - a)],i + 1) (hI.yes hlt he)
    simp only [List.map_append,List.map_cons,List.map_nil,cs,List.length_append,List.length_cons,List.length_nil,Nat.zero_add] at hj
    (try simp -implicitDefEqProofs (disch:=first|exact dd|fail)[Tryz.f218,hlt,he,e1,ht]);(repeat'((with_reducible first|(refine Br.out ?_ ?_<;>intro h<;>(try(have h0:=h;simp only[bH]at h)))|fail)<;>(try simp -implicitDefEqProofs (disch:=first|exact dd|fail)[Tryz.f218,hlt,he,e1,ht])))
    all_goals first | exact hj
   ·have hj:=jh 1 ⟨by omega,fun _=>he⟩ (by omega)
    have hne:=byte_ne he
    (try simp -implicitDefEqProofs (disch:=first|exact dd|fail)[Tryz.f218,hlt,he,hne]);(repeat'((with_reducible first|(refine Br.out ?_ ?_<;>intro h<;>(try(have h0:=h;simp only[bH]at h)))|fail)<;>(try simp -implicitDefEqProofs (disch:=first|exact dd|fail)[Tryz.f218,hlt,he,hne])))
    all_goals first | exact hj
  ·obtain rfl:k=1:=by omega
   have hj:=ih (out,a) (hI.no hlt (hk1 rfl))
   (try simp -implicitDefEqProofs (disch:=first|exact dd|fail)[Tryz.f218]);(repeat'((with_reducible first|(refine Br.out ?_ ?_<;>intro h<;>(try(have h0:=h;simp only[bH]at h)))|fail)<;>(try simp -implicitDefEqProofs (disch:=first|exact dd|fail)[Tryz.f218])))
   all_goals first | exact hj
 ·obtain ⟨out,a⟩:=y
  simp only at hI ⊢
  have ht:=takeM (f:=cs) (show out.length=out.length from rfl)
  have hle:=hI.le
  have hln:=hI.len
  have hd:=hI.done
  have e2:(s.drop a).take ((s.length:Int) - a).toNat=s.drop a:=List.take_of_length_le (by rw [List.length_drop];omega)
  rw [hR,hd]
  (try simp -implicitDefEqProofs (disch:=first|exact dd|fail)[Tryz.f218,ht,e2]);(repeat'((with_reducible first|(refine Br.out ?_ ?_<;>intro h<;>(try(have h0:=h;simp only[bH]at h)))|fail)<;>(try simp -implicitDefEqProofs (disch:=first|exact dd|fail)[Tryz.f218,ht,e2])))
  exact List.take_of_length_le (by rw [List.length_drop];omega)
theorem splitP_cons {b:UInt8} {t:Str} (h:¬ b :: t = [47]):splitP (b :: t)=if b=47 then (if (splitS t).all nameOK=true∧(splitS t).length≤8 then (splitS t,true) else ([],false)) else ([],false):=by
 unfold splitP
 rw [if_neg h]
 simp
theorem all_at {l:List Str} {j:Nat} (h:j < l.length):(l.drop j).all nameOK=(nameOK l[j] && (l.drop (j + 1)).all nameOK):=by
 rw [List.drop_eq_getElem_cons h,List.all_cons]
theorem impl_SplitPath (p:Str) (hp:p.length≤1048576):Snd Tryz.prog 159 [.str p] (.tup [.row 1 ((splitP p).1.map cs), .bool (splitP p).2]) [.unk]:=Runs.snd (M:=M) (c:=⟨1,[2,3,4,6,8,16,20,21,22,23,28,32],[],[(1,[0,2,3,4,8,16,20,21,22,23,28,32])]⟩) tok ks mixed Tryz.func159 (p := []) (by kernel_rfl) (by rfl) (by rfl) <| by
 by_cases h0:p = [47]
 ·subst h0
  simp only [splitP,if_true]
  (try simp -implicitDefEqProofs (disch:=first|exact dd|fail)[Tryz.f159]);(repeat'((with_reducible first|(refine Br.out ?_ ?_<;>intro h<;>(try(have h0:=h;simp only[bH]at h)))|fail)<;>(try simp -implicitDefEqProofs (disch:=first|exact dd|fail)[Tryz.f159])))
 cases p with
 | nil=>
  simp only [splitP,List.head?_nil]
  (try simp -implicitDefEqProofs (disch:=first|exact dd|fail)[Tryz.f159]);(repeat'((with_reducible first|(refine Br.out ?_ ?_<;>intro h<;>(try(have h0:=h;simp only[bH]at h)))|fail)<;>(try simp -implicitDefEqProofs (disch:=first|exact dd|fail)[Tryz.f159])))
 | cons b t=>
  rw [splitP_cons h0]
  have htl:t.length + 1≤1048576:=hp
  by_cases hb:b=47
  ·rw [if_pos hb]
   subst hb
   have hc:=impl_SplitAny t (by omega)
   have hml:∀ x ∈ splitS t,x.length≤1048576:=fun x hx=>by have:=cutS_mem hx;simp at this;omega
   have hsl:(splitS t).length≤1048576:=by have:=cutS_len (l:=t) (cur := []);unfold splitS;omega
   generalize splitS t=L at *
   obtain ⟨Q,hQ⟩:∃ Q:List Str × Bool,Q=(if L.all nameOK=true∧L.length≤8 then (L,true) else ([],false)):=⟨_,rfl⟩
   rw [←hQ]
   (try simp -implicitDefEqProofs (disch:=first|exact dd|fail)[Tryz.f159,h0]);(repeat'((with_reducible first|(refine Br.out ?_ ?_<;>intro h<;>(try(have h0:=h;simp only[bH]at h)))|refine AC_snd (hc) ?_|fail)<;>(try simp -implicitDefEqProofs (disch:=first|exact dd|fail)[Tryz.f159,h0])))
   refine AL_for 22 L.length (fun j=>L.all nameOK=(L.drop j).all nameOK) rfl rfl (fun j n hlt he ih => ?_) (fun n he => ?_)
   ·rw [all_at hlt] at he
    have hn:=impl_IsEntryName L[j] (hml _ (List.getElem_mem hlt))
    rw [nameOk_eq] at hn
    by_cases hx:nameOK L[j]=true
    ·rw [hx,Bool.true_and] at he
     have hj:=ih he
     (try simp -implicitDefEqProofs (disch:=first|exact dd|fail)[Tryz.f159,hlt,hx]);(repeat'((with_reducible first|(refine Br.out ?_ ?_<;>intro h<;>(try(have h0:=h;simp only[bH]at h)))|refine AC_snd (hn) ?_|fail)<;>(try simp -implicitDefEqProofs (disch:=first|exact dd|fail)[Tryz.f159,hlt,hx])))
     all_goals first | exact hj
    ·have hx':nameOK L[j]=false:=by simpa using hx
     rw [hx',Bool.false_and] at he
     rw [if_neg (by rw [he];simp)] at hQ
     subst hQ
     (try simp -implicitDefEqProofs (disch:=first|exact dd|fail)[Tryz.f159,hlt,hx']);(repeat'((with_reducible first|(refine Br.out ?_ ?_<;>intro h<;>(try(have h0:=h;simp only[bH]at h)))|refine AC_snd (hn) ?_|fail)<;>(try simp -implicitDefEqProofs (disch:=first|exact dd|fail)[Tryz.f159,hlt,hx'])))
   ·rw [List.drop_length] at he
    by_cases h8:L.length≤8
    ·rw [if_pos ⟨he,h8⟩] at hQ
     subst hQ
     (try simp -implicitDefEqProofs (disch:=first|exact dd|fail)[Tryz.f159,h8]);(repeat'((with_reducible first|(refine Br.out ?_ ?_<;>intro h<;>(try(have h0:=h;simp only[bH]at h)))|fail)<;>(try simp -implicitDefEqProofs (disch:=first|exact dd|fail)[Tryz.f159,h8])))
    ·rw [if_neg fun h=>h8 h.2] at hQ
     subst hQ
     (try simp -implicitDefEqProofs (disch:=first|exact dd|fail)[Tryz.f159,h8]);(repeat'((with_reducible first|(refine Br.out ?_ ?_<;>intro h<;>(try(have h0:=h;simp only[bH]at h)))|fail)<;>(try simp -implicitDefEqProofs (disch:=first|exact dd|fail)[Tryz.f159,h8])))
  ·rw [if_neg hb]
   have hne:=byte_ne hb
   (try simp -implicitDefEqProofs (disch:=first|exact dd|fail)[Tryz.f159,h0,hb,hne]);(repeat'((with_reducible first|(refine Br.out ?_ ?_<;>intro h<;>(try(have h0:=h;simp only[bH]at h)))|fail)<;>(try simp -implicitDefEqProofs (disch:=first|exact dd|fail)[Tryz.f159,h0,hb,hne])))
theorem spec_SplitPath (p:Str) (hp:p.length≤1048576):Snd Tryz.prog 145 [.str p] (.tup [.row 1 ((splitP p).1.map cs), .bool (splitP p).2]) [.unk]:=Runs.snd (M:=M) (c:=⟨1,[2,3,4,6,8,15,19,20,21,22,27,31],[],[(1,[0,2,3,4,8,15,19,20,21,22,27,31])]⟩) tok ks mixed Tryz.func145 (p := []) (by kernel_rfl) (by rfl) (by rfl) <| by
 by_cases h0:p = [47]
 ·subst h0
  simp only [splitP,if_true]
  (try simp -implicitDefEqProofs (disch:=first|exact dd|fail)[Tryz.f145]);(repeat'((with_reducible first|(refine Br.out ?_ ?_<;>intro h<;>(try(have h0:=h;simp only[bH]at h)))|fail)<;>(try simp -implicitDefEqProofs (disch:=first|exact dd|fail)[Tryz.f145])))
 cases p with
 | nil=>
  simp only [splitP,List.head?_nil]
  (try simp -implicitDefEqProofs (disch:=first|exact dd|fail)[Tryz.f145]);(repeat'((with_reducible first|(refine Br.out ?_ ?_<;>intro h<;>(try(have h0:=h;simp only[bH]at h)))|fail)<;>(try simp -implicitDefEqProofs (disch:=first|exact dd|fail)[Tryz.f145])))
 | cons b t=>
  rw [splitP_cons h0]
  have htl:t.length + 1≤1048576:=hp
  by_cases hb:b=47
  ·rw [if_pos hb]
   subst hb
   have hc:=spec_SplitAny t (by omega)
   have hml:∀ x ∈ splitS t,x.length≤1048576:=fun x hx=>by have:=cutS_mem hx;simp at this;omega
   have hsl:(splitS t).length≤1048576:=by have:=cutS_len (l:=t) (cur := []);unfold splitS;omega
   generalize splitS t=L at *
   obtain ⟨Q,hQ⟩:∃ Q:List Str × Bool,Q=(if L.all nameOK=true∧L.length≤8 then (L,true) else ([],false)):=⟨_,rfl⟩
   rw [←hQ]
   (try simp -implicitDefEqProofs (disch:=first|exact dd|fail)[Tryz.f145,h0]);(repeat'((with_reducible first|(refine Br.out ?_ ?_<;>intro h<;>(try(have h0:=h;simp only[bH]at h)))|refine AC_snd (hc) ?_|fail)<;>(try simp -implicitDefEqProofs (disch:=first|exact dd|fail)[Tryz.f145,h0])))
   refine AL_for 21 L.length (fun j=>L.all nameOK=(L.drop j).all nameOK) rfl rfl (fun j n hlt he ih => ?_) (fun n he => ?_)
   ·rw [all_at hlt] at he
    have hn:=spec_IsEntryName L[j] (hml _ (List.getElem_mem hlt))
    rw [nameOk_eq] at hn
    by_cases hx:nameOK L[j]=true
    ·rw [hx,Bool.true_and] at he
     have hj:=ih he
     (try simp -implicitDefEqProofs (disch:=first|exact dd|fail)[Tryz.f145,hlt,hx]);(repeat'((with_reducible first|(refine Br.out ?_ ?_<;>intro h<;>(try(have h0:=h;simp only[bH]at h)))|refine AC_snd (hn) ?_|fail)<;>(try simp -implicitDefEqProofs (disch:=first|exact dd|fail)[Tryz.f145,hlt,hx])))
     all_goals first | exact hj
    ·have hx':nameOK L[j]=false:=by simpa using hx
     rw [hx',Bool.false_and] at he
     rw [if_neg (by rw [he];simp)] at hQ
     subst hQ
     (try simp -implicitDefEqProofs (disch:=first|exact dd|fail)[Tryz.f145,hlt,hx']);(repeat'((with_reducible first|(refine Br.out ?_ ?_<;>intro h<;>(try(have h0:=h;simp only[bH]at h)))|refine AC_snd (hn) ?_|fail)<;>(try simp -implicitDefEqProofs (disch:=first|exact dd|fail)[Tryz.f145,hlt,hx'])))
   ·rw [List.drop_length] at he
    by_cases h8:L.length≤8
    ·rw [if_pos ⟨he,h8⟩] at hQ
     subst hQ
     (try simp -implicitDefEqProofs (disch:=first|exact dd|fail)[Tryz.f145,h8]);(repeat'((with_reducible first|(refine Br.out ?_ ?_<;>intro h<;>(try(have h0:=h;simp only[bH]at h)))|fail)<;>(try simp -implicitDefEqProofs (disch:=first|exact dd|fail)[Tryz.f145,h8])))
    ·rw [if_neg fun h=>h8 h.2] at hQ
     subst hQ
     (try simp -implicitDefEqProofs (disch:=first|exact dd|fail)[Tryz.f145,h8]);(repeat'((with_reducible first|(refine Br.out ?_ ?_<;>intro h<;>(try(have h0:=h;simp only[bH]at h)))|fail)<;>(try simp -implicitDefEqProofs (disch:=first|exact dd|fail)[Tryz.f145,h8])))
  ·rw [if_neg hb]
   have hne:=byte_ne hb
   (try simp -implicitDefEqProofs (disch:=first|exact dd|fail)[Tryz.f145,h0,hb,hne]);(repeat'((with_reducible first|(refine Br.out ?_ ?_<;>intro h<;>(try(have h0:=h;simp only[bH]at h)))|fail)<;>(try simp -implicitDefEqProofs (disch:=first|exact dd|fail)[Tryz.f145,h0,hb,hne])))
set_option maxHeartbeats 4000000
set_option maxRecDepth 8000
theorem walkL_at {f:DFS} {c:DCred} {i:Int} {L:List Str} {j:Nat} (h:j < L.length):walkL f c i (L.drop j)=if isDirI f i=false then (0,5) else if mayI f c i 1=false then (0,2) else if (findE (entriesI f i) L[j]).2=false then (0,3) else walkL f c (findE (entriesI f i) L[j]).1 (L.drop (j + 1)):=by
 rw [List.drop_eq_getElem_cons h,walkL]
theorem impl_walk (n1 n2 n3 n4 n5:Option Bool) (f:DFS) (c:DCred) (L:List Str) (hf:IsFS f) (hc:c.groups.length≤1048576) (hl:L.length≤1048576):Snd Tryz.prog 160 [pFS n1 n2 n3 f,fCred n4 c, .frz 1 n5 (L.map cs)] (.tup [.int .i64 (walkL f c 0 L).1, .int .i64 (walkL f c 0 L).2]) [.unk, .unk, .unk]:=Runs.snd (M:=M) (c:=⟨3,[4,6,7,8,10,11,12,13,14,15,16,22,27,36],[],[(1,[0,1,2,4,6,7,8,13,14,15,16,22,27,36])]⟩) tok ks mixed Tryz.func160 (p := []) (by kernel_rfl) (by rfl) (by rfl) <| by
 obtain ⟨R,hR⟩:∃ R,R=walkL f c 0 L:=⟨_,rfl⟩
 rw [←hR]
 have hn:=hf.ni
 have hs:=SmF.of hf
 (try simp -implicitDefEqProofs (disch:=first|exact dd|fail)[Tryz.f160]);(repeat'((with_reducible first|(refine Br.out ?_ ?_<;>intro h<;>(try(have h0:=h;simp only[bH]at h)))|fail)<;>(try simp -implicitDefEqProofs (disch:=first|exact dd|fail)[Tryz.f160])))
 refine AL_fors (σ:=Int) 15 L.length (fun _ i => [(8, .int .i64 i)]) (fun _ _ => []) (fun j i=>R=walkL f c i (L.drop j)∧0≤i∧i < 20) 0 rfl ⟨hR,by decide,by decide⟩ (fun j i n hlt hI ih => ?_) (fun i n hI => ?_)
 ·obtain ⟨he,hi⟩:=hI
  rw [walkL_at hlt] at he
  have c1:=fun a b d=>impl_isDir a b d f i hn
  have c2:=fun a b d e=>impl_may a b d e f c i 1 hn hs hc
  have c3:=fun a b d=>impl_find a b d f i L[j] hf hi
  have hfi:(findE (entriesI f i) L[j]).2=true→_:=findE_in
  generalize findE (entriesI f i) L[j]=r at *
  obtain ⟨x,y⟩:=r
  by_cases h1:isDirI f i=true
  ·rw [if_neg (by simp [h1])] at he
   by_cases h2:mayI f c i 1=true
   ·rw [if_neg (by simp [h2])] at he
    cases y with
    | true=>
     rw [if_neg (by simp)] at he
     have hj:=ih x ⟨he,hfi rfl⟩
     (try simp -implicitDefEqProofs (disch:=first|exact dd|fail)[Tryz.f160,hlt,h1,h2]);(repeat'((with_reducible first|(refine Br.out ?_ ?_<;>intro h<;>(try(have h0:=h;simp only[bH]at h)))|refine AC_snd (c1 _ _ _) ?_|refine AC_snd (c2 _ _ _ _) ?_|refine AC_snd (c3 _ _ _) ?_|fail)<;>(try simp -implicitDefEqProofs (disch:=first|exact dd|fail)[Tryz.f160,hlt,h1,h2])))
     all_goals first | exact hj
    | false=>
     rw [if_pos rfl] at he
     (try simp -implicitDefEqProofs (disch:=first|exact dd|fail)[Tryz.f160,hlt,h1,h2,he]);(repeat'((with_reducible first|(refine Br.out ?_ ?_<;>intro h<;>(try(have h0:=h;simp only[bH]at h)))|refine AC_snd (c1 _ _ _) ?_|refine AC_snd (c2 _ _ _ _) ?_|refine AC_snd (c3 _ _ _) ?_|fail)<;>(try simp -implicitDefEqProofs (disch:=first|exact dd|fail)[Tryz.f160,hlt,h1,h2,he])))
   ·have h2':mayI f c i 1=false:=by simpa using h2
    rw [if_pos h2'] at he
    (try simp -implicitDefEqProofs (disch:=first|exact dd|fail)[Tryz.f160,hlt,h1,h2',he]);(repeat'((with_reducible first|(refine Br.out ?_ ?_<;>intro h<;>(try(have h0:=h;simp only[bH]at h)))|refine AC_snd (c1 _ _ _) ?_|refine AC_snd (c2 _ _ _ _) ?_|fail)<;>(try simp -implicitDefEqProofs (disch:=first|exact dd|fail)[Tryz.f160,hlt,h1,h2',he])))
  ·have h1':isDirI f i=false:=by simpa using h1
   rw [if_pos h1'] at he
   (try simp -implicitDefEqProofs (disch:=first|exact dd|fail)[Tryz.f160,hlt,h1',he]);(repeat'((with_reducible first|(refine Br.out ?_ ?_<;>intro h<;>(try(have h0:=h;simp only[bH]at h)))|refine AC_snd (c1 _ _ _) ?_|fail)<;>(try simp -implicitDefEqProofs (disch:=first|exact dd|fail)[Tryz.f160,hlt,h1',he])))
 ·have he:=hI.1
  rw [List.drop_length,walkL] at he
  (try simp -implicitDefEqProofs (disch:=first|exact dd|fail)[Tryz.f160,he]);(repeat'((with_reducible first|(refine Br.out ?_ ?_<;>intro h<;>(try(have h0:=h;simp only[bH]at h)))|fail)<;>(try simp -implicitDefEqProofs (disch:=first|exact dd|fail)[Tryz.f160,he])))
theorem hasI_kind {f:DFS} {k:Nat} (h:k < 20):hasI f k = !decide ((inodeAt f k).kind=0):=by
 unfold hasI
 by_cases hk:(inodeAt f k).kind=0
 ·simp [hk]
 ·simp [hk];omega
theorem spec_l11Walk (n1 n2 n3 n4 n5:Option Bool) (f:DFS) (c:DCred) (L:List Str) (hf:IsFS f) (hc:c.groups.length≤1048576) (hl:L.length≤1048576):Snd Tryz.prog 146 [fFS n1 n2 n3 f,fCred n4 c, .frz 1 n5 (L.map cs)] (.tup [.int .i64 (walkE f (walkL f c 0 L)).1, .int .i64 (walkE f (walkL f c 0 L)).2]) [.unk, .unk, .unk]:=Runs.snd (M:=M) (c:=⟨3,[3,4,6,7,8,10,11,12,13,14,15,16,25,30,39,48],[],[(1,[0,1,2,3,4,6,7,8,13,14,15,16,25,30,39,48])]⟩) tok ks mixed Tryz.func146 (p := []) (by kernel_rfl) (by rfl) (by rfl) <| by
 obtain ⟨R,hR⟩:∃ R,R=walkL f c 0 L:=⟨_,rfl⟩
 rw [←hR]
 have hn:=hf.ni
 have hs:=SmF.of hf
 (try simp -implicitDefEqProofs (disch:=first|exact dd|fail)[Tryz.f146]);(repeat'((with_reducible first|(refine Br.out ?_ ?_<;>intro h<;>(try(have h0:=h;simp only[bH]at h)))|fail)<;>(try simp -implicitDefEqProofs (disch:=first|exact dd|fail)[Tryz.f146])))
 refine AL_fors (σ:=Int) 15 L.length (fun _ i => [(8, .int .i64 i)]) (fun _ _ => []) (fun j i=>R=walkL f c i (L.drop j)∧0≤i∧i < 20) 0 rfl ⟨hR,by decide,by decide⟩ (fun j i n hlt hI ih => ?_) (fun i n hI => ?_)
 ·obtain ⟨he,hi⟩:=hI
  rw [walkL_at hlt] at he
  obtain ⟨k,rfl⟩:=Int.eq_ofNat_of_zero_le hi.1
  have hk2:k < 20:=by omega
  have hkl:k < f.inodes.length:=by omega
  have hdk:=isDirI_kind (f:=f) hk2
  rw [inodeAt_nat hkl] at hdk
  have c2:=fun h a b d e=>spec_l11May a b d e f c k 1 hn h hs hc
  have c3:=fun a b d=>spec_l10Find a b d f k L[j] hf hi
  have hfi:(findE (entriesI f k) L[j]).2=true→_:=findE_in
  generalize findE (entriesI f k) L[j]=r at *
  obtain ⟨x,y⟩:=r
  by_cases h1:f.inodes[k].kind=2
  ·rw [hdk,if_neg (by simp [h1])] at he
   have hu:hasI f k=true:=isDir_use (by rw [hdk];simpa using h1)
   by_cases h2:mayI f c k 1=true
   ·rw [if_neg (by simp [h2])] at he
    cases y with
    | true=>
     rw [if_neg (by simp)] at he
     have hj:=ih x ⟨he,hfi rfl⟩
     (try simp -implicitDefEqProofs (disch:=first|exact dd|fail)[Tryz.f146,hlt,hkl,h1,h2,cInode]);(repeat'((with_reducible first|(refine Br.out ?_ ?_<;>intro h<;>(try(have h0:=h;simp only[bH]at h)))|refine AC_snd (c2 hu _ _ _ _) ?_|refine AC_snd (c3 _ _ _) ?_|fail)<;>(try simp -implicitDefEqProofs (disch:=first|exact dd|fail)[Tryz.f146,hlt,hkl,h1,h2,cInode])))
     all_goals first | exact hj
    | false=>
     rw [if_pos rfl] at he
     (try simp -implicitDefEqProofs (disch:=first|exact dd|fail)[Tryz.f146,hlt,hkl,h1,h2,he,walkE,cInode]);(repeat'((with_reducible first|(refine Br.out ?_ ?_<;>intro h<;>(try(have h0:=h;simp only[bH]at h)))|refine AC_snd (c2 hu _ _ _ _) ?_|refine AC_snd (c3 _ _ _) ?_|fail)<;>(try simp -implicitDefEqProofs (disch:=first|exact dd|fail)[Tryz.f146,hlt,hkl,h1,h2,he,walkE,cInode])))
   ·have h2':mayI f c k 1=false:=by simpa using h2
    rw [if_pos h2'] at he
    (try simp -implicitDefEqProofs (disch:=first|exact dd|fail)[Tryz.f146,hlt,hkl,h1,h2',he,walkE,cInode]);(repeat'((with_reducible first|(refine Br.out ?_ ?_<;>intro h<;>(try(have h0:=h;simp only[bH]at h)))|refine AC_snd (c2 hu _ _ _ _) ?_|fail)<;>(try simp -implicitDefEqProofs (disch:=first|exact dd|fail)[Tryz.f146,hlt,hkl,h1,h2',he,walkE,cInode])))
  ·rw [hdk,if_pos (by simpa using h1)] at he
   (try simp -implicitDefEqProofs (disch:=first|exact dd|fail)[Tryz.f146,hlt,hkl,h1,he,walkE,cInode]);(repeat'((with_reducible first|(refine Br.out ?_ ?_<;>intro h<;>(try(have h0:=h;simp only[bH]at h)))|fail)<;>(try simp -implicitDefEqProofs (disch:=first|exact dd|fail)[Tryz.f146,hlt,hkl,h1,he,walkE,cInode])))
 ·obtain ⟨he,hi⟩:=hI
  rw [List.drop_length,walkL] at he
  obtain ⟨k,rfl⟩:=Int.eq_ofNat_of_zero_le hi.1
  have hk2:k < 20:=by omega
  have hkl:k < f.inodes.length:=by omega
  have hhk:=hasI_kind (f:=f) hk2
  rw [inodeAt_nat hkl] at hhk
  by_cases h1:f.inodes[k].kind=0
  ·(try simp -implicitDefEqProofs (disch:=first|exact dd|fail)[Tryz.f146,hkl,h1,he,walkE,hhk,cInode]);(repeat'((with_reducible first|(refine Br.out ?_ ?_<;>intro h<;>(try(have h0:=h;simp only[bH]at h)))|fail)<;>(try simp -implicitDefEqProofs (disch:=first|exact dd|fail)[Tryz.f146,hkl,h1,he,walkE,hhk,cInode])))
  ·(try simp -implicitDefEqProofs (disch:=first|exact dd|fail)[Tryz.f146,hkl,h1,he,walkE,hhk,cInode]);(repeat'((with_reducible first|(refine Br.out ?_ ?_<;>intro h<;>(try(have h0:=h;simp only[bH]at h)))|fail)<;>(try simp -implicitDefEqProofs (disch:=first|exact dd|fail)[Tryz.f146,hkl,h1,he,walkE,hhk,cInode])))
theorem impl_ResolvePath (n1 n2 n3 n4:Option Bool) (f:DFS) (c:DCred) (p:Str) (hs:SmF f) (hc:c.groups.length≤1048576) (hp:p.length≤1048576):Snd Tryz.prog 193 [fFS n1 n2 n3 f,fCred n4 c, .str p] (.tup [.int .i64 (resolveF f c p).1, .int .i64 (resolveF f c p).2]) [.unk, .unk, .unk]:=Runs.snd (M:=M) (c:=⟨3,[3,4,6,7,8,9,10,11,19,26,33,37],[],[]⟩) tok ks mixed Tryz.func193 (p := []) (by kernel_rfl) (by rfl) (by rfl) <| by
 have c3:=impl_SplitPath p hp
 have hpl:=splitP_len (p:=p)
 by_cases h1:(isFS f && isCred c)=true
 ·have h12:=Bool.and_eq_true_iff.1 h1
  have hf:=tr_iff.1 h12.1
  have c4:=fun a b d e g=>impl_walk a b d e g f c (splitP p).1 hf hc (by omega)
  have c5:=fun a b d i=>impl_has a b d f i hf.ni
  rw [resolveF,if_neg (by simp [h1])]
  generalize walkL f c 0 (splitP p).1=w at *
  generalize splitP p=r at *
  obtain ⟨L,y⟩:=r
  obtain ⟨x,e⟩:=w
  cases y with
  | false=>
   (try simp -implicitDefEqProofs (disch:=first|exact dd|fail)[Tryz.f193,h12.1,h12.2]);(repeat'((with_reducible first|(refine Br.out ?_ ?_<;>intro h<;>(try(have h0:=h;simp only[bH]at h)))|refine AC_snd (impl_IsFS _ _ _ f hs) ?_|refine AC_snd (impl_IsCred _ c hc) ?_|refine AC_snd (c3) ?_|fail)<;>(try simp -implicitDefEqProofs (disch:=first|exact dd|fail)[Tryz.f193,h12.1,h12.2])))
  | true=>
   by_cases he:e=0
   ·subst he
    (try simp -implicitDefEqProofs (disch:=first|exact dd|fail)[Tryz.f193,h12.1,h12.2,walkE]);(repeat'((with_reducible first|(refine Br.out ?_ ?_<;>intro h<;>(try(have h0:=h;simp only[bH]at h)))|refine AC_snd (impl_IsFS _ _ _ f hs) ?_|refine AC_snd (impl_IsCred _ c hc) ?_|refine AC_snd (c3) ?_|refine AC_snd (c4 _ _ _ _ _) ?_|refine AC_snd (c5 _ _ _ _) ?_|fail)<;>(try simp -implicitDefEqProofs (disch:=first|exact dd|fail)[Tryz.f193,h12.1,h12.2,walkE])))
    all_goals simp_all
   ·(try simp -implicitDefEqProofs (disch:=first|exact dd|fail)[Tryz.f193,h12.1,h12.2,he,walkE]);(repeat'((with_reducible first|(refine Br.out ?_ ?_<;>intro h<;>(try(have h0:=h;simp only[bH]at h)))|refine AC_snd (impl_IsFS _ _ _ f hs) ?_|refine AC_snd (impl_IsCred _ c hc) ?_|refine AC_snd (c3) ?_|refine AC_snd (c4 _ _ _ _ _) ?_|fail)<;>(try simp -implicitDefEqProofs (disch:=first|exact dd|fail)[Tryz.f193,h12.1,h12.2,he,walkE])))
 ·rw [resolveF,if_pos (by simpa using h1)]
  (try simp -implicitDefEqProofs (disch:=first|exact dd|fail)[Tryz.f193]);(repeat'((with_reducible first|(refine Br.out ?_ ?_<;>intro h<;>(try(have h0:=h;simp only[bH]at h)))|refine AC_snd (impl_IsFS _ _ _ f hs) ?_|refine AC_snd (impl_IsCred _ c hc) ?_|fail)<;>(try simp -implicitDefEqProofs (disch:=first|exact dd|fail)[Tryz.f193])))
  all_goals (exfalso;simp_all)
theorem spec_ResolvePath (n1 n2 n3 n4:Option Bool) (f:DFS) (c:DCred) (p:Str) (hs:SmF f) (hc:c.groups.length≤1048576) (hp:p.length≤1048576):Snd Tryz.prog 136 [fFS n1 n2 n3 f,fCred n4 c, .str p] (.tup [.int .i64 (resolveF f c p).1, .int .i64 (resolveF f c p).2]) [.unk, .unk, .unk]:=Runs.snd (M:=M) (c:=⟨3,[3,4,6,7,8,9,15,24],[],[]⟩) tok ks mixed Tryz.func136 (p := []) (by kernel_rfl) (by rfl) (by rfl) <| by
 have c3:=spec_SplitPath p hp
 have hpl:=splitP_len (p:=p)
 by_cases h1:(isFS f && isCred c)=true
 ·have h12:=Bool.and_eq_true_iff.1 h1
  have hf:=tr_iff.1 h12.1
  have c4:=fun a b d e g=>spec_l11Walk a b d e g f c (splitP p).1 hf hc (by omega)
  rw [resolveF,if_neg (by simp [h1])]
  generalize walkE f (walkL f c 0 (splitP p).1)=w at *
  generalize splitP p=r at *
  obtain ⟨L,y⟩:=r
  obtain ⟨x,e⟩:=w
  cases y with
  | false=>
   (try simp -implicitDefEqProofs (disch:=first|exact dd|fail)[Tryz.f136,h12.1,h12.2]);(repeat'((with_reducible first|(refine Br.out ?_ ?_<;>intro h<;>(try(have h0:=h;simp only[bH]at h)))|refine AC_snd (spec_IsFS _ _ _ f hs) ?_|refine AC_snd (spec_IsCred _ c hc) ?_|refine AC_snd (c3) ?_|fail)<;>(try simp -implicitDefEqProofs (disch:=first|exact dd|fail)[Tryz.f136,h12.1,h12.2])))
  | true=>
   (try simp -implicitDefEqProofs (disch:=first|exact dd|fail)[Tryz.f136,h12.1,h12.2]);(repeat'((with_reducible first|(refine Br.out ?_ ?_<;>intro h<;>(try(have h0:=h;simp only[bH]at h)))|refine AC_snd (spec_IsFS _ _ _ f hs) ?_|refine AC_snd (spec_IsCred _ c hc) ?_|refine AC_snd (c3) ?_|refine AC_snd (c4 _ _ _ _ _) ?_|fail)<;>(try simp -implicitDefEqProofs (disch:=first|exact dd|fail)[Tryz.f136,h12.1,h12.2])))
 ·rw [resolveF,if_pos (by simpa using h1)]
  (try simp -implicitDefEqProofs (disch:=first|exact dd|fail)[Tryz.f136]);(repeat'((with_reducible first|(refine Br.out ?_ ?_<;>intro h<;>(try(have h0:=h;simp only[bH]at h)))|refine AC_snd (spec_IsFS _ _ _ f hs) ?_|refine AC_snd (spec_IsCred _ c hc) ?_|refine AC_snd (c3) ?_|fail)<;>(try simp -implicitDefEqProofs (disch:=first|exact dd|fail)[Tryz.f136])))
  all_goals (exfalso;simp_all)
set_option maxHeartbeats 4000000
set_option maxRecDepth 8000
theorem impl_ResolveParent (n1 n2 n3 n4:Option Bool) (f:DFS) (c:DCred) (p:Str) (hs:SmF f) (hc:c.groups.length≤1048576) (hp:p.length≤1048576):Snd Tryz.prog 78 [fFS n1 n2 n3 f,fCred n4 c, .str p] (.tup [.int .i64 (resolveQ f c p).1, .str (resolveQ f c p).2.1, .int .i64 (resolveQ f c p).2.2]) [.unk, .unk, .unk]:=Runs.snd (M:=M) (c:=⟨3,[3,4,6,7,8,9,10,11,12,13,21,33,45,49,53,57],[],[]⟩) tok ks mixed Tryz.func78 (p := []) (by kernel_rfl) (by rfl) (by rfl) <| by
 have c3:=impl_SplitPath p hp
 have hpl:=splitP_len (p:=p)
 by_cases h1:(isFS f && isCred c)=true
 ·have h12:=Bool.and_eq_true_iff.1 h1
  have hf:=tr_iff.1 h12.1
  have c4:=fun a b d e g=>impl_walk a b d e g f c ((splitP p).1.take ((splitP p).1.length - 1)) hf hc (by rw [List.length_take];omega)
  have c5:=fun a b d i=>impl_has a b d f i hf.ni
  have c6:=fun a b d i=>impl_isDir a b d f i hf.ni
  have c7:=fun a b d e i=>impl_may a b d e f c i 1 hf.ni hs hc
  rw [resolveQ,if_neg (by simp [h1])]
  generalize hw:walkL f c 0 ((splitP p).1.take ((splitP p).1.length - 1))=w at *
  clear hw
  generalize splitP p=r at *
  obtain ⟨L,y⟩:=r
  obtain ⟨x,e⟩:=w
  simp only at hpl
  cases y with
  | false=>
   (try simp -implicitDefEqProofs (disch:=first|exact dd|fail)[Tryz.f78,h12.1,h12.2]);(repeat'((with_reducible first|(refine Br.out ?_ ?_<;>intro h<;>(try(have h0:=h;simp only[bH]at h)))|refine AC_snd (impl_IsFS _ _ _ f hs) ?_|refine AC_snd (impl_IsCred _ c hc) ?_|refine AC_snd (c3) ?_|fail)<;>(try simp -implicitDefEqProofs (disch:=first|exact dd|fail)[Tryz.f78,h12.1,h12.2])))
  | true=>
   by_cases hz:L.length=0
   ·(try simp -implicitDefEqProofs (disch:=first|exact dd|fail)[Tryz.f78,h12.1,h12.2,hz]);(repeat'((with_reducible first|(refine Br.out ?_ ?_<;>intro h<;>(try(have h0:=h;simp only[bH]at h)))|refine AC_snd (impl_IsFS _ _ _ f hs) ?_|refine AC_snd (impl_IsCred _ c hc) ?_|refine AC_snd (c3) ?_|fail)<;>(try simp -implicitDefEqProofs (disch:=first|exact dd|fail)[Tryz.f78,h12.1,h12.2,hz])))
   have hl1:L.length - 1 < L.length:=by omega
   have hg:L.getD (L.length - 1) []=L[L.length - 1]:=by simp [hl1]
   have hcst:((L.length:Int) - 1)=((L.length - 1:Nat):Int):=by omega
   rw [if_neg (by simp [hz]),hg]
   simp only [List.map_take] at c4
   by_cases he:e=0
   ·subst he
    have hD:∀ i,isDirI f i=true→hasI f i=true:=fun i h=>isDir_use h
    (try simp -implicitDefEqProofs (disch:=first|exact dd|fail)[Tryz.f78,h12.1,h12.2,hz,hcst,hl1,walkE,resolveW]);(repeat'((with_reducible first|(refine Br.out ?_ ?_<;>intro h<;>(try(have h0:=h;simp only[bH]at h)))|refine AC_snd (impl_IsFS _ _ _ f hs) ?_|refine AC_snd (impl_IsCred _ c hc) ?_|refine AC_snd (c3) ?_|refine AC_snd (c4 _ _ _ _ _) ?_|refine AC_snd (c5 _ _ _ _) ?_|refine AC_snd (c6 _ _ _ _) ?_|refine AC_snd (c7 _ _ _ _ _) ?_|fail)<;>(try simp -implicitDefEqProofs (disch:=first|exact dd|fail)[Tryz.f78,h12.1,h12.2,hz,hcst,hl1,walkE,resolveW])))
    all_goals simp [*]
   ·(try simp -implicitDefEqProofs (disch:=first|exact dd|fail)[Tryz.f78,h12.1,h12.2,hz,hcst,hl1,he,walkE,resolveW]);(repeat'((with_reducible first|(refine Br.out ?_ ?_<;>intro h<;>(try(have h0:=h;simp only[bH]at h)))|refine AC_snd (impl_IsFS _ _ _ f hs) ?_|refine AC_snd (impl_IsCred _ c hc) ?_|refine AC_snd (c3) ?_|refine AC_snd (c4 _ _ _ _ _) ?_|fail)<;>(try simp -implicitDefEqProofs (disch:=first|exact dd|fail)[Tryz.f78,h12.1,h12.2,hz,hcst,hl1,he,walkE,resolveW])))
 ·rw [resolveQ,if_pos (by simpa using h1)]
  (try simp -implicitDefEqProofs (disch:=first|exact dd|fail)[Tryz.f78]);(repeat'((with_reducible first|(refine Br.out ?_ ?_<;>intro h<;>(try(have h0:=h;simp only[bH]at h)))|refine AC_snd (impl_IsFS _ _ _ f hs) ?_|refine AC_snd (impl_IsCred _ c hc) ?_|fail)<;>(try simp -implicitDefEqProofs (disch:=first|exact dd|fail)[Tryz.f78])))
  all_goals (exfalso;simp_all)
theorem spec_ResolveParent (n1 n2 n3 n4:Option Bool) (f:DFS) (c:DCred) (p:Str) (hs:SmF f) (hc:c.groups.length≤1048576) (hp:p.length≤1048576):Snd Tryz.prog 69 [fFS n1 n2 n3 f,fCred n4 c, .str p] (.tup [.int .i64 (resolveQ f c p).1, .str (resolveQ f c p).2.1, .int .i64 (resolveQ f c p).2.2]) [.unk, .unk, .unk]:=Runs.snd (M:=M) (c:=⟨3,[3,4,6,7,8,9,10,11,12,13,26,35,45,49,57],[],[]⟩) tok ks mixed Tryz.func69 (p := []) (by kernel_rfl) (by rfl) (by rfl) <| by
 have c3:=spec_SplitPath p hp
 have hpl:=splitP_len (p:=p)
 by_cases h1:(isFS f && isCred c)=true
 ·have h12:=Bool.and_eq_true_iff.1 h1
  have hf:=tr_iff.1 h12.1
  have hni:=hf.ni
  have c4:=fun a b d e g=>spec_l11Walk a b d e g f c ((splitP p).1.take ((splitP p).1.length - 1)) hf hc (by rw [List.length_take];omega)
  have hin:=walkE_in (f:=f) (walkL_in (f:=f) (c:=c) (l:=(splitP p).1.take ((splitP p).1.length - 1)) (i:=0) ⟨by decide,by decide⟩)
  have c7:=fun a b d e i h=>spec_l11May a b d e f c i 1 hf.ni h hs hc
  rw [resolveQ,if_neg (by simp [h1])]
  generalize hw:walkE f (walkL f c 0 ((splitP p).1.take ((splitP p).1.length - 1)))=w at *
  clear hw
  generalize splitP p=r at *
  obtain ⟨L,y⟩:=r
  obtain ⟨x,e⟩:=w
  simp only at hpl hin
  cases y with
  | false=>
   (try simp -implicitDefEqProofs (disch:=first|exact dd|fail)[Tryz.f69,h12.1,h12.2]);(repeat'((with_reducible first|(refine Br.out ?_ ?_<;>intro h<;>(try(have h0:=h;simp only[bH]at h)))|refine AC_snd (spec_IsFS _ _ _ f hs) ?_|refine AC_snd (spec_IsCred _ c hc) ?_|refine AC_snd (c3) ?_|fail)<;>(try simp -implicitDefEqProofs (disch:=first|exact dd|fail)[Tryz.f69,h12.1,h12.2])))
  | true=>
   by_cases hz:L.length=0
   ·(try simp -implicitDefEqProofs (disch:=first|exact dd|fail)[Tryz.f69,h12.1,h12.2,hz]);(repeat'((with_reducible first|(refine Br.out ?_ ?_<;>intro h<;>(try(have h0:=h;simp only[bH]at h)))|refine AC_snd (spec_IsFS _ _ _ f hs) ?_|refine AC_snd (spec_IsCred _ c hc) ?_|refine AC_snd (c3) ?_|fail)<;>(try simp -implicitDefEqProofs (disch:=first|exact dd|fail)[Tryz.f69,h12.1,h12.2,hz])))
   have hl1:L.length - 1 < L.length:=by omega
   have hg:L.getD (L.length - 1) []=L[L.length - 1]:=by simp [hl1]
   have hcst:((L.length:Int) - 1)=((L.length - 1:Nat):Int):=by omega
   rw [if_neg (by simp [hz]),hg]
   simp only [List.map_take] at c4
   by_cases he:e=0
   ·subst he
    obtain ⟨k,rfl⟩:=Int.eq_ofNat_of_zero_le hin.1
    have hk2:k < 20:=by omega
    have hkl:k < f.inodes.length:=by omega
    have hdk:=isDirI_kind (f:=f) hk2
    rw [inodeAt_nat hkl] at hdk
    by_cases hd:f.inodes[k].kind=2
    ·have hu:hasI f k=true:=isDir_use (by rw [hdk];simpa using hd)
     (try simp -implicitDefEqProofs (disch:=first|exact dd|fail)[Tryz.f69,h12.1,h12.2,hz,hcst,hl1,hkl,hd,hdk,resolveW,cInode]);(repeat'((with_reducible first|(refine Br.out ?_ ?_<;>intro h<;>(try(have h0:=h;simp only[bH]at h)))|refine AC_snd (spec_IsFS _ _ _ f hs) ?_|refine AC_snd (spec_IsCred _ c hc) ?_|refine AC_snd (c3) ?_|refine AC_snd (c4 _ _ _ _ _) ?_|refine AC_snd (c7 _ _ _ _ _ hu) ?_|fail)<;>(try simp -implicitDefEqProofs (disch:=first|exact dd|fail)[Tryz.f69,h12.1,h12.2,hz,hcst,hl1,hkl,hd,hdk,resolveW,cInode])))
     all_goals simp [*]
    ·(try simp -implicitDefEqProofs (disch:=first|exact dd|fail)[Tryz.f69,h12.1,h12.2,hz,hcst,hl1,hkl,hd,hdk,resolveW,cInode]);(repeat'((with_reducible first|(refine Br.out ?_ ?_<;>intro h<;>(try(have h0:=h;simp only[bH]at h)))|refine AC_snd (spec_IsFS _ _ _ f hs) ?_|refine AC_snd (spec_IsCred _ c hc) ?_|refine AC_snd (c3) ?_|refine AC_snd (c4 _ _ _ _ _) ?_|fail)<;>(try simp -implicitDefEqProofs (disch:=first|exact dd|fail)[Tryz.f69,h12.1,h12.2,hz,hcst,hl1,hkl,hd,hdk,resolveW,cInode])))
   ·(try simp -implicitDefEqProofs (disch:=first|exact dd|fail)[Tryz.f69,h12.1,h12.2,hz,hcst,hl1,he,resolveW]);(repeat'((with_reducible first|(refine Br.out ?_ ?_<;>intro h<;>(try(have h0:=h;simp only[bH]at h)))|refine AC_snd (spec_IsFS _ _ _ f hs) ?_|refine AC_snd (spec_IsCred _ c hc) ?_|refine AC_snd (c3) ?_|refine AC_snd (c4 _ _ _ _ _) ?_|fail)<;>(try simp -implicitDefEqProofs (disch:=first|exact dd|fail)[Tryz.f69,h12.1,h12.2,hz,hcst,hl1,he,resolveW])))
 ·rw [resolveQ,if_pos (by simpa using h1)]
  (try simp -implicitDefEqProofs (disch:=first|exact dd|fail)[Tryz.f69]);(repeat'((with_reducible first|(refine Br.out ?_ ?_<;>intro h<;>(try(have h0:=h;simp only[bH]at h)))|refine AC_snd (spec_IsFS _ _ _ f hs) ?_|refine AC_snd (spec_IsCred _ c hc) ?_|refine AC_snd (c3) ?_|fail)<;>(try simp -implicitDefEqProofs (disch:=first|exact dd|fail)[Tryz.f69])))
  all_goals (exfalso;simp_all)
end Go.Proofs.YtgopfdninbknpaaGreat
