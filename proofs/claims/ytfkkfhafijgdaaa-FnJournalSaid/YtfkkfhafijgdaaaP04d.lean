import Derived.Test.YtfkkfhafijgdaaaP03a
import Derived.Test.YtfkkfhafijgdaaaP02
import Derived.Test.YtfkkfhafijgdaaaM04
import Derived.Test.YtfkkfhafijgdaaaBx
namespace Go.Proofs.Ytfkkfhafijgdaaa
open Go.Fw
set_option linter.unusedVariables false
set_option linter.unusedSimpArgs false
set_option maxHeartbeats 1000000
set_option maxRecDepth 8000
theorem impl_ChecksumOf (s:Str) (hs:s.length≤1048576):Snd Try.prog 97 [.str s] (.int .i64 (checkSum s)) [.unk]:=Runs.snd (M:=M) (c:=⟨1,[2,3,4,5,7,8,9],[],[(1,[0,2,3,4,7,8,9])]⟩) tok ks mixed Try.func97 (p := []) (by kernel_rfl) (by rfl) (by rfl) <| by
 obtain ⟨R,hR⟩:∃ R,R=checkSum s:=⟨_,rfl⟩
 rw [←hR]
 (try simp -implicitDefEqProofs (disch:=first|exact dd|fail)[Try.f97]);(repeat'((with_reducible first|(refine Br.out ?_ ?_<;>intro h<;>(try(have h0:=h;simp only[bH]at h)))|fail)<;>(try simp -implicitDefEqProofs (disch:=first|exact dd|fail)[Try.f97])))
 refine AL_fors (σ:=Unit) 8 s.length (fun i _ => [(3, .int .i64 (sums (s.take i)).1),(4, .int .i64 (sums (s.take i)).2)]) (fun _ _ => []) (fun _ _=>True) () (by simp [sums]) trivial (fun i _ n hlt _ ih => ?_) (fun _ n _ => ?_)
 ·have hj:=ih () trivial
  rw [sums_take hlt] at hj
  have hb:=sums_bound (s.take i)
  have hub:=s[i].toNat_lt
  unfold sumStep at hj
  generalize sums (s.take i)=p at *
  have hw1:IntKind.i64.wrap (s[i].toNat:Int)=s[i].toNat:=wrap64_in (by omega) (by omega)
  have e1:(p.1 + (s[i].toNat:Int)).tmod 65521=(p.1 + s[i].toNat) % 65521:=Int.tmod_eq_emod_of_nonneg (by omega)
  have e2:(p.2 + (p.1 + (s[i].toNat:Int)) % 65521).tmod 65521=(p.2 + (p.1 + s[i].toNat) % 65521) % 65521:=Int.tmod_eq_emod_of_nonneg (by omega)
  have w1:IntKind.i64.wrap (p.1 + (s[i].toNat:Int))=p.1 + s[i].toNat:=wrap64_in (by omega) (by omega)
  have w2:IntKind.i64.wrap (p.2 + (p.1 + (s[i].toNat:Int)) % 65521)=p.2 + (p.1 + s[i].toNat) % 65521:=wrap64_in (by omega) (by omega)
  have e3:(p.2 + (p.1 + (s[i].toNat:Int)) % 65521) % 65521=(p.2 + (p.1 + s[i].toNat)) % 65521:=by omega
  simp only at hj
  rw [e3] at hj
  (try simp -implicitDefEqProofs (disch:=first|exact dd|fail)[Try.f97,hlt,hw1,w1,e1,w2,e2]);(repeat'((with_reducible first|(refine Br.out ?_ ?_<;>intro h<;>(try(have h0:=h;simp only[bH]at h)))|fail)<;>(try simp -implicitDefEqProofs (disch:=first|exact dd|fail)[Try.f97,hlt,hw1,w1,e1,w2,e2])))
  all_goals first | exact hj
 ·rw [List.take_length]
  have hb:=sums_bound s
  unfold checkSum at hR
  generalize sums s=p at *
  have w1:IntKind.i64.wrap (p.2 * 65536)=p.2 * 65536:=wrap64_in (by omega) (by omega)
  have w2:IntKind.i64.wrap (p.2 * 65536 + p.1)=p.2 * 65536 + p.1:=wrap64_in (by omega) (by omega)
  (try simp -implicitDefEqProofs (disch:=first|exact dd|fail)[Try.f97,w1,w2,hR]);(repeat'((with_reducible first|(refine Br.out ?_ ?_<;>intro h<;>(try(have h0:=h;simp only[bH]at h)))|fail)<;>(try simp -implicitDefEqProofs (disch:=first|exact dd|fail)[Try.f97,w1,w2,hR])))
theorem spec_ChecksumOf (s:Str) (hs:s.length≤1048576):Snd Try.prog 179 [.str s] (.int .i64 (checkSum s)) [.unk]:=Runs.snd (M:=M) (c:=⟨1,[2,3,4,5,9],[],[]⟩) tok ks mixed Try.func179 (p := []) (by kernel_rfl) (by rfl) (by rfl) <| by
 obtain ⟨R,hR⟩:∃ R,R=checkSum s:=⟨_,rfl⟩
 rw [←hR]
 (try simp -implicitDefEqProofs (disch:=first|exact dd|fail)[Try.f179]);(repeat'((with_reducible first|(refine Br.out ?_ ?_<;>intro h<;>(try(have h0:=h;simp only[bH]at h)))|fail)<;>(try simp -implicitDefEqProofs (disch:=first|exact dd|fail)[Try.f179])))
 refine AL_fors (σ:=Unit) 5 s.length (fun i _ => [(3, .int .i64 (sums (s.take i)).1),(4, .int .i64 (sums (s.take i)).2)]) (fun _ _ => []) (fun _ _=>True) () (by simp [sums]) trivial (fun i _ n hlt _ ih => ?_) (fun _ n _ => ?_)
 ·have hj:=ih () trivial
  rw [sums_take hlt] at hj
  have hb:=sums_bound (s.take i)
  have hub:=s[i].toNat_lt
  unfold sumStep at hj
  generalize sums (s.take i)=p at *
  have hw1:IntKind.i64.wrap (s[i].toNat:Int)=s[i].toNat:=wrap64_in (by omega) (by omega)
  have e1:(p.1 + (s[i].toNat:Int)).tmod 65521=(p.1 + s[i].toNat) % 65521:=Int.tmod_eq_emod_of_nonneg (by omega)
  have e2:(p.2 + (p.1 + (s[i].toNat:Int)) % 65521).tmod 65521=(p.2 + (p.1 + s[i].toNat) % 65521) % 65521:=Int.tmod_eq_emod_of_nonneg (by omega)
  have w1:IntKind.i64.wrap (p.1 + (s[i].toNat:Int))=p.1 + s[i].toNat:=wrap64_in (by omega) (by omega)
  have w2:IntKind.i64.wrap (p.2 + (p.1 + (s[i].toNat:Int)) % 65521)=p.2 + (p.1 + s[i].toNat) % 65521:=wrap64_in (by omega) (by omega)
  have e3:(p.2 + (p.1 + (s[i].toNat:Int)) % 65521) % 65521=(p.2 + (p.1 + s[i].toNat)) % 65521:=by omega
  simp only at hj
  rw [e3] at hj
  (try simp -implicitDefEqProofs (disch:=first|exact dd|fail)[Try.f179,hlt,hw1,w1,e1,w2,e2]);(repeat'((with_reducible first|(refine Br.out ?_ ?_<;>intro h<;>(try(have h0:=h;simp only[bH]at h)))|fail)<;>(try simp -implicitDefEqProofs (disch:=first|exact dd|fail)[Try.f179,hlt,hw1,w1,e1,w2,e2])))
  all_goals first | exact hj
 ·rw [List.take_length]
  have hb:=sums_bound s
  unfold checkSum at hR
  generalize sums s=p at *
  have w1:IntKind.i64.wrap (p.2 * 65536)=p.2 * 65536:=wrap64_in (by omega) (by omega)
  have w2:IntKind.i64.wrap (p.2 * 65536 + p.1)=p.2 * 65536 + p.1:=wrap64_in (by omega) (by omega)
  (try simp -implicitDefEqProofs (disch:=first|exact dd|fail)[Try.f179,w1,w2,hR]);(repeat'((with_reducible first|(refine Br.out ?_ ?_<;>intro h<;>(try(have h0:=h;simp only[bH]at h)))|fail)<;>(try simp -implicitDefEqProofs (disch:=first|exact dd|fail)[Try.f179,w1,w2,hR])))
theorem lastW_none {l:List DWrite} {i:Int} {k:Nat} (h:k < l.length) (hn:lastW (l.drop (k + 1)) i=none) (hne:¬ l[k].sec=i):lastW (l.drop k) i=none:=by
 rw [lastW_drop h hn,if_neg hne]
theorem readD_hit {d:DDisk} {i k:Nat} (h:k < d.pend.length) (hn:lastW (d.pend.drop (k + 1)) i=none) (he:d.pend[k].sec=i):readD d i=d.pend[k].data:=by
 unfold readD
 rw [lastW_hit (k:=k) (by rw [lastW_drop h hn,if_pos he])]
 rfl
theorem readD_none {d:DDisk} {i:Nat} (hi:i < d.secs.length) (hn:lastW d.pend i=none):readD d i=d.secs[i]:=by
 unfold readD
 rw [hn]
 simp [hi]
theorem impl_read (n1 n2:Option Bool) (d:DDisk) (i:Nat) (hi:i < d.secs.length) (h2:d.pend.length≤1048576):Snd Try.prog 98 [.fptr [.frz 1 n1 (d.secs.map cs), .frz 2 n2 (d.pend.map cWrite)], .int .i64 i] (.str (readD d i)) [.unk, .unk]:=Runs.snd (M:=M) (c:=⟨2,[4,5,13,25],[],[]⟩) tok ks mixed Try.func98 (p := []) (by kernel_rfl) (by rfl) (by rfl) <| by
 obtain ⟨R,hR⟩:∃ R,R=readD d i:=⟨_,rfl⟩
 rw [←hR]
 (try simp -implicitDefEqProofs (disch:=first|exact dd|fail)[Try.f98]);(repeat'((with_reducible first|(refine Br.out ?_ ?_<;>intro h<;>(try(have h0:=h;simp only[bH]at h)))|fail)<;>(try simp -implicitDefEqProofs (disch:=first|exact dd|fail)[Try.f98])))
 refine AL_up (fun (j:Nat)=>j) (fun (j:Nat) => [(5, .int .i64 ((j:Int) - 1))]) (fun _ => []) (fun j=>j≤d.pend.length∧lastW (d.pend.drop j) i=none) d.pend.length rfl ⟨Nat.le_refl _,by rw [List.drop_length];rfl⟩ ?_
 rintro j n ⟨hj,hn⟩ ih
 rcases j with _ | j
 ·rw [List.drop_zero] at hn
  have hg:¬ (0:Int)≤((0:Nat):Int) - 1:=by omega
  rw [readD_none hi hn] at hR
  (try simp -implicitDefEqProofs (disch:=first|exact dd|fail)[Try.f98,hg,hi,hR]);(repeat'((with_reducible first|(refine Br.out ?_ ?_<;>intro h<;>(try(have h0:=h;simp only[bH]at h)))|fail)<;>(try simp -implicitDefEqProofs (disch:=first|exact dd|fail)[Try.f98,hg,hi,hR])))
 ·have hjl:j < d.pend.length:=by omega
  have ej:((j + 1:Nat):Int) - 1=j:=by omega
  rw [ej]
  by_cases he:d.pend[j].sec=i
  ·rw [readD_hit hjl hn he] at hR
   (try simp -implicitDefEqProofs (disch:=first|exact dd|fail)[Try.f98,hjl,he,hR,cWrite]);(repeat'((with_reducible first|(refine Br.out ?_ ?_<;>intro h<;>(try(have h0:=h;simp only[bH]at h)))|fail)<;>(try simp -implicitDefEqProofs (disch:=first|exact dd|fail)[Try.f98,hjl,he,hR,cWrite])))
  ·have hjj:=ih j ⟨by omega,lastW_none hjl hn he⟩ (by omega)
   (try simp -implicitDefEqProofs (disch:=first|exact dd|fail)[Try.f98,hjl,he,cWrite]);(repeat'((with_reducible first|(refine Br.out ?_ ?_<;>intro h<;>(try(have h0:=h;simp only[bH]at h)))|fail)<;>(try simp -implicitDefEqProofs (disch:=first|exact dd|fail)[Try.f98,hjl,he,cWrite])))
   all_goals first | exact hjj
theorem spec_l03Read (n1 n2:Option Bool) (d:DDisk) (i:Nat) (hi:i < d.secs.length) (h2:d.pend.length≤1048576):Snd Try.prog 164 [fDisk n1 n2 d, .int .i64 i] (.str (readD d i)) [.unk, .unk]:=Runs.snd (M:=M) (c:=⟨2,[2,4,5,11,21],[],[]⟩) tok ks mixed Try.func164 (p := []) (by kernel_rfl) (by rfl) (by rfl) <| by
 obtain ⟨R,hR⟩:∃ R,R=readD d i:=⟨_,rfl⟩
 rw [←hR]
 (try simp -implicitDefEqProofs (disch:=first|exact dd|fail)[Try.f164]);(repeat'((with_reducible first|(refine Br.out ?_ ?_<;>intro h<;>(try(have h0:=h;simp only[bH]at h)))|fail)<;>(try simp -implicitDefEqProofs (disch:=first|exact dd|fail)[Try.f164])))
 refine AL_up (fun (j:Nat)=>j) (fun (j:Nat) => [(5, .int .i64 ((j:Int) - 1))]) (fun _ => []) (fun j=>j≤d.pend.length∧lastW (d.pend.drop j) i=none) d.pend.length rfl ⟨Nat.le_refl _,by rw [List.drop_length];rfl⟩ ?_
 rintro j n ⟨hj,hn⟩ ih
 rcases j with _ | j
 ·rw [List.drop_zero] at hn
  have hg:¬ (0:Int)≤((0:Nat):Int) - 1:=by omega
  rw [readD_none hi hn] at hR
  (try simp -implicitDefEqProofs (disch:=first|exact dd|fail)[Try.f164,hg,hi,hR]);(repeat'((with_reducible first|(refine Br.out ?_ ?_<;>intro h<;>(try(have h0:=h;simp only[bH]at h)))|fail)<;>(try simp -implicitDefEqProofs (disch:=first|exact dd|fail)[Try.f164,hg,hi,hR])))
 ·have hjl:j < d.pend.length:=by omega
  have ej:((j + 1:Nat):Int) - 1=j:=by omega
  rw [ej]
  by_cases he:d.pend[j].sec=i
  ·rw [readD_hit hjl hn he] at hR
   (try simp -implicitDefEqProofs (disch:=first|exact dd|fail)[Try.f164,hjl,he,hR,cWrite]);(repeat'((with_reducible first|(refine Br.out ?_ ?_<;>intro h<;>(try(have h0:=h;simp only[bH]at h)))|fail)<;>(try simp -implicitDefEqProofs (disch:=first|exact dd|fail)[Try.f164,hjl,he,hR,cWrite])))
  ·have hjj:=ih j ⟨by omega,lastW_none hjl hn he⟩ (by omega)
   (try simp -implicitDefEqProofs (disch:=first|exact dd|fail)[Try.f164,hjl,he,cWrite]);(repeat'((with_reducible first|(refine Br.out ?_ ?_<;>intro h<;>(try(have h0:=h;simp only[bH]at h)))|fail)<;>(try simp -implicitDefEqProofs (disch:=first|exact dd|fail)[Try.f164,hjl,he,cWrite])))
   all_goals first | exact hjj
def secOK (w:DWrite):Bool:=decide (0≤w.sec) && decide (w.sec < 400)
theorem listed_no {l:List DWrite} {i:Nat} (h:i < l.length) (hx:secOK l[i]=false):listedB l=false:=by
 have:l.all secOK=false:=List.all_eq_false.2 ⟨l[i],List.getElem_mem h,by rw [hx];decide⟩
 unfold listedB
 rw [show (l.all fun w=>decide (0≤w.sec) && decide (w.sec < 400))=false from this]
 rfl
theorem listed_all {l:List DWrite} (h:∀ i,(hi:i < l.length)→secOK l[i]=true):listedB l=(decide (1≤l.length) && decide (l.length≤64)):=by
 have:l.all secOK=true:=List.all_eq_true.2 fun w hw=>by
  obtain ⟨i,hi,rfl⟩:=List.mem_iff_getElem.1 hw
  exact h i hi
 unfold listedB
 rw [show (l.all fun w=>decide (0≤w.sec) && decide (w.sec < 400))=true from this,Bool.true_and]
theorem impl_listed (n1:Option Bool) (l:List DWrite) (hl:l.length≤1048576):Snd Try.prog 91 [.frz 2 n1 (l.map cWrite)] (.bool (listedB l)) [.unk]:=Runs.snd (M:=M) (c:=⟨1,[2,4,5,6,7,8,18],[],[(1,[0,2,5,6,7,8,18])]⟩) tok ks mixed Try.func91 (p := []) (by kernel_rfl) (by rfl) (by rfl) <| by
 obtain ⟨R,hR⟩:∃ R,R=listedB l:=⟨_,rfl⟩
 rw [←hR]
 (try simp -implicitDefEqProofs (disch:=first|exact dd|fail)[Try.f91]);(repeat'((with_reducible first|(refine Br.out ?_ ?_<;>intro h<;>(try(have h0:=h;simp only[bH]at h)))|fail)<;>(try simp -implicitDefEqProofs (disch:=first|exact dd|fail)[Try.f91])))
 refine AL_for 7 l.length (fun i=>∀ k,(hk:k < l.length)→k < i→secOK l[k]=true) rfl (fun k hk h=>by omega) (fun i n hlt hI ih => ?_) (fun n hI => ?_)
 ·by_cases hx:secOK l[i]=true
  ·have hj:=ih (fun k hk h=>by
    by_cases e:k=i
    ·subst e;exact hx
    ·exact hI k hk (by omega))
   unfold secOK at hx
   simp only [Bool.and_eq_true,decide_eq_true_eq] at hx
   (try simp -implicitDefEqProofs (disch:=first|exact dd|fail)[Try.f91,hlt,cWrite]);(repeat'((with_reducible first|(refine Br.out ?_ ?_<;>intro h<;>(try(have h0:=h;simp only[bH]at h)))|fail)<;>(try simp -implicitDefEqProofs (disch:=first|exact dd|fail)[Try.f91,hlt,cWrite])))
   all_goals first | exact hj | (exfalso;omega)
  ·have hx2:secOK l[i]=false:=by simpa using hx
   rw [listed_no hlt hx2] at hR
   unfold secOK at hx
   simp only [Bool.and_eq_true,decide_eq_true_eq] at hx
   (try simp -implicitDefEqProofs (disch:=first|exact dd|fail)[Try.f91,hlt,hR,cWrite]);(repeat'((with_reducible first|(refine Br.out ?_ ?_<;>intro h<;>(try(have h0:=h;simp only[bH]at h)))|fail)<;>(try simp -implicitDefEqProofs (disch:=first|exact dd|fail)[Try.f91,hlt,hR,cWrite])))
   all_goals first | (exfalso;omega)
 ·rw [listed_all (fun i hi=>hI i hi hi)] at hR
  (try simp -implicitDefEqProofs (disch:=first|exact dd|fail)[Try.f91,hR]);(repeat'((with_reducible first|(refine Br.out ?_ ?_<;>intro h<;>(try(have h0:=h;simp only[bH]at h)))|fail)<;>(try simp -implicitDefEqProofs (disch:=first|exact dd|fail)[Try.f91,hR])))
  all_goals first | omega | (rw [Bool.eq_iff_iff];simp;omega) | (simp;omega)
theorem spec_l04Ok (n1:Option Bool) (l:List DWrite) (hl:l.length≤1048576):Snd Try.prog 178 [.frz 2 n1 (l.map cWrite)] (.bool (listedB l)) [.unk]:=Runs.snd (M:=M) (c:=⟨1,[2,4,5,6,7,8,14],[],[(1,[0,2,5,6,7,8,14])]⟩) tok ks mixed Try.func178 (p := []) (by kernel_rfl) (by rfl) (by rfl) <| by
 obtain ⟨R,hR⟩:∃ R,R=listedB l:=⟨_,rfl⟩
 rw [←hR]
 (try simp -implicitDefEqProofs (disch:=first|exact dd|fail)[Try.f178]);(repeat'((with_reducible first|(refine Br.out ?_ ?_<;>intro h<;>(try(have h0:=h;simp only[bH]at h)))|fail)<;>(try simp -implicitDefEqProofs (disch:=first|exact dd|fail)[Try.f178])))
 refine AL_for 7 l.length (fun i=>∀ k,(hk:k < l.length)→k < i→secOK l[k]=true) rfl (fun k hk h=>by omega) (fun i n hlt hI ih => ?_) (fun n hI => ?_)
 ·by_cases hx:secOK l[i]=true
  ·have hj:=ih (fun k hk h=>by
    by_cases e:k=i
    ·subst e;exact hx
    ·exact hI k hk (by omega))
   unfold secOK at hx
   simp only [Bool.and_eq_true,decide_eq_true_eq] at hx
   (try simp -implicitDefEqProofs (disch:=first|exact dd|fail)[Try.f178,hlt,cWrite]);(repeat'((with_reducible first|(refine Br.out ?_ ?_<;>intro h<;>(try(have h0:=h;simp only[bH]at h)))|refine AC_snd (spec_l01In _ _ _) ?_|fail)<;>(try simp -implicitDefEqProofs (disch:=first|exact dd|fail)[Try.f178,hlt,cWrite])))
   all_goals first | exact hj | (exfalso;omega)
  ·have hx2:secOK l[i]=false:=by simpa using hx
   rw [listed_no hlt hx2] at hR
   unfold secOK at hx
   simp only [Bool.and_eq_true,decide_eq_true_eq] at hx
   (try simp -implicitDefEqProofs (disch:=first|exact dd|fail)[Try.f178,hlt,hR,cWrite]);(repeat'((with_reducible first|(refine Br.out ?_ ?_<;>intro h<;>(try(have h0:=h;simp only[bH]at h)))|refine AC_snd (spec_l01In _ _ _) ?_|fail)<;>(try simp -implicitDefEqProofs (disch:=first|exact dd|fail)[Try.f178,hlt,hR,cWrite])))
   all_goals first | (exfalso;omega)
 ·rw [listed_all (fun i hi=>hI i hi hi)] at hR
  (try simp -implicitDefEqProofs (disch:=first|exact dd|fail)[Try.f178,hR]);(repeat'((with_reducible first|(refine Br.out ?_ ?_<;>intro h<;>(try(have h0:=h;simp only[bH]at h)))|refine AC_snd (spec_l01In _ _ _) ?_|fail)<;>(try simp -implicitDefEqProofs (disch:=first|exact dd|fail)[Try.f178,hR])))
  all_goals first | omega | (rw [Bool.eq_iff_iff];simp;omega) | (simp;omega)
end Go.Proofs.Ytfkkfhafijgdaaa
