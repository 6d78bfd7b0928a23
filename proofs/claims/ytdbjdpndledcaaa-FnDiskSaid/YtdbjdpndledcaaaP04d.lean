import Derived.Test.YtdbjdpndledcaaaP03a
import Derived.Test.YtdbjdpndledcaaaP05a
import Derived.Test.YtdbjdpndledcaaaMA
import Derived.Test.YtdbjdpndledcaaaM04
import Derived.Test.YtdbjdpndledcaaaBx
namespace Go.Proofs.Ytdbjdpndledcaaa
open Go.Fw
set_option linter.unusedVariables false
set_option linter.unusedSimpArgs false
set_option maxHeartbeats 1000000
set_option maxRecDepth 8000
theorem lastW_none {l:List DWrite} {i:Int} {k:Nat} (h:k < l.length) (hn:lastW (l.drop (k + 1)) i=none) (hne:¬ l[k].sec=i):lastW (l.drop k) i=none:=by
 rw [lastW_drop h hn,if_neg hne]
theorem readD_hit {d:DDisk} {i k:Nat} (h:k < d.pend.length) (hn:lastW (d.pend.drop (k + 1)) i=none) (he:d.pend[k].sec=i):readD d i=d.pend[k].data:=by
 unfold readD
 rw [lastW_hit (k:=k) (by rw [lastW_drop h hn,if_pos he])]
 rfl
theorem readD_none {d:DDisk} {i:Nat} (hi:i < d.secs.length) (hn:lastW d.pend i=none):readD d i=d.secs[i]:=by
 unfold readD
 rw [hn]
 simp [hi]
theorem impl_read (n1 n2:Option Bool) (d:DDisk) (i:Nat) (hi:i < d.secs.length) (h2:d.pend.length≤1048576):Snd Try.prog 21 [.fptr [.frz 1 n1 (d.secs.map cs), .frz 2 n2 (d.pend.map cWrite)], .int .i64 i] (.str (readD d i)) [.unk, .unk]:=Runs.snd (M:=M) (c:=⟨2,[4,5,13,25],[],[]⟩) tok ks mixed Try.func21 (p := []) (by kernel_rfl) (by rfl) (by rfl) <| by
 obtain ⟨R,hR⟩:∃ R,R=readD d i:=⟨_,rfl⟩
 rw [←hR]
 (try simp -implicitDefEqProofs (disch:=first|exact dd|fail)[Try.f21]);(repeat'((with_reducible first|(refine Br.out ?_ ?_<;>intro h<;>(try(have h0:=h;simp only[bH]at h)))|fail)<;>(try simp -implicitDefEqProofs (disch:=first|exact dd|fail)[Try.f21])))
 refine AL_up (fun (j:Nat)=>j) (fun (j:Nat) => [(5, .int .i64 ((j:Int) - 1))]) (fun _ => []) (fun j=>j≤d.pend.length∧lastW (d.pend.drop j) i=none) d.pend.length rfl ⟨Nat.le_refl _,by rw [List.drop_length];rfl⟩ ?_
 rintro j n ⟨hj,hn⟩ ih
 rcases j with _ | j
 ·rw [List.drop_zero] at hn
  have hg:¬ (0:Int)≤((0:Nat):Int) - 1:=by omega
  rw [readD_none hi hn] at hR
  (try simp -implicitDefEqProofs (disch:=first|exact dd|fail)[Try.f21,hg,hi,hR]);(repeat'((with_reducible first|(refine Br.out ?_ ?_<;>intro h<;>(try(have h0:=h;simp only[bH]at h)))|fail)<;>(try simp -implicitDefEqProofs (disch:=first|exact dd|fail)[Try.f21,hg,hi,hR])))
 ·have hjl:j < d.pend.length:=by omega
  have ej:((j + 1:Nat):Int) - 1=j:=by omega
  rw [ej]
  by_cases he:d.pend[j].sec=i
  ·rw [readD_hit hjl hn he] at hR
   (try simp -implicitDefEqProofs (disch:=first|exact dd|fail)[Try.f21,hjl,he,hR,cWrite]);(repeat'((with_reducible first|(refine Br.out ?_ ?_<;>intro h<;>(try(have h0:=h;simp only[bH]at h)))|fail)<;>(try simp -implicitDefEqProofs (disch:=first|exact dd|fail)[Try.f21,hjl,he,hR,cWrite])))
  ·have hjj:=ih j ⟨by omega,lastW_none hjl hn he⟩ (by omega)
   (try simp -implicitDefEqProofs (disch:=first|exact dd|fail)[Try.f21,hjl,he,cWrite]);(repeat'((with_reducible first|(refine Br.out ?_ ?_<;>intro h<;>(try(have h0:=h;simp only[bH]at h)))|fail)<;>(try simp -implicitDefEqProofs (disch:=first|exact dd|fail)[Try.f21,hjl,he,cWrite])))
   all_goals first | exact hjj
def secOK (w:DWrite):Bool:=decide (0≤w.sec) && decide (w.sec < 400)
theorem listed_no {l:List DWrite} {i:Nat} (h:i < l.length) (hx:secOK l[i]=false):listedB l=false:=by
 have:l.all secOK=false:=List.all_eq_false.2 ⟨l[i],List.getElem_mem h,by rw [hx];decide⟩
 unfold listedB
 rw [show (l.all fun w=>decide (0≤w.sec) && decide (w.sec < 400))=false from this]
 rfl
theorem listed_all {l:List DWrite} (h:∀ i,(hi:i < l.length)→secOK l[i]=true):listedB l=(decide (1≤l.length) && decide (l.length≤64)):=by
 have:l.all secOK=true:=List.all_eq_true.2 fun w hw=>by
  obtain ⟨i,hi,rfl⟩:=List.mem_iff_getElem.1 hw
  exact h i hi
 unfold listedB
 rw [show (l.all fun w=>decide (0≤w.sec) && decide (w.sec < 400))=true from this,Bool.true_and]
end Go.Proofs.Ytdbjdpndledcaaa
