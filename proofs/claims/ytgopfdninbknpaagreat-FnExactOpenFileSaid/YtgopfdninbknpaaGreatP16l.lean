import Derived.Test.YtgopfdninbknpaaGreatP14f
import Derived.Test.YtgopfdninbknpaaGreatP16g
import Derived.Test.YtgopfdninbknpaaGreatP12o
import Derived.Test.YtgopfdninbknpaaGreatP14
namespace Go.Proofs.YtgopfdninbknpaaGreat
open Go.Fw
set_option linter.unusedVariables false
set_option linter.unusedSimpArgs false
set_option maxHeartbeats 1000000
set_option maxRecDepth 8000
def idxZ:Nat→List DOpen→Int
 | _,[] => -1
 | j,o :: l=>if o=zOpen then j else idxZ (j + 1) l
theorem idxZ_free:∀ {l:List DOpen} {j:Nat},(∀ o ∈ l,o.flags=0→o=zOpen)→idxZ j l=freeFd j l
 | [],j,_=>rfl
 | o :: l,j,h=>by
  rw [idxZ,freeFd,idxZ_free fun x hx=>h x (List.mem_cons_of_mem _ hx)]
  by_cases e:o.flags=0
  ·rw [if_pos (h o (List.mem_cons_self ..) e),if_pos e]
  ·rw [if_neg (fun H=>e (by rw [H];rfl)),if_neg e]
theorem idxZ_at {l:List DOpen} {j:Nat} (h:j < l.length):idxZ j (l.drop j)=if l[j]=zOpen then (j:Int) else idxZ (j + 1) (l.drop (j + 1)):=by
 rw [List.drop_eq_getElem_cons h,idxZ]
theorem slices_IndexOpen (n1:Option Bool) (l:List DOpen) (hl:l.length≤1048576):Snd Tryz.prog 213 [.frz 3 n1 (l.map cOpen), .agg [.int .i64 0, .int .i64 0, .int .i64 0]] (.int .i64 (idxZ 0 l)) [.unk, .unk]:=Runs.snd (M:=M) (c:=⟨2,[3,4,5,7,8,9,16],[],[(1,[0,1,3,4,7,8,9,16])]⟩) tok ks mixed Tryz.func213 (p := []) (by kernel_rfl) (by rfl) (by rfl) <| by
 obtain ⟨A,hA⟩:∃ A,A=idxZ 0 l:=⟨_,rfl⟩
 rw [←hA]
 (try simp -implicitDefEqProofs (disch:=first|exact dd|fail)[Tryz.f213]);(repeat'((with_reducible first|(refine Br.out ?_ ?_<;>intro h<;>(try(have h0:=h;simp only[bH]at h)))|fail)<;>(try simp -implicitDefEqProofs (disch:=first|exact dd|fail)[Tryz.f213])))
 refine AL_for 8 l.length (fun i=>A=idxZ i (l.drop i)) rfl (by simpa using hA) (fun i n hlt he ih => ?_) (fun n he => ?_)
 ·rw [idxZ_at hlt] at he
  by_cases hz:l[i]=zOpen
  ·rw [if_pos hz] at he
   have hz2:=hz
   rw [zOpen,open_eq] at hz2
   subst he
   (try simp -implicitDefEqProofs (disch:=first|exact dd|fail)[Tryz.f213,hlt,hz2.1,hz2.2.1,hz2.2.2,cOpen]);(repeat'((with_reducible first|(refine Br.out ?_ ?_<;>intro h<;>(try(have h0:=h;simp only[bH]at h)))|fail)<;>(try simp -implicitDefEqProofs (disch:=first|exact dd|fail)[Tryz.f213,hlt,hz2.1,hz2.2.1,hz2.2.2,cOpen])))
  ·rw [if_neg hz] at he
   have hz2:=hz
   rw [zOpen,open_eq] at hz2
   have hi:=ih he
   (try simp -implicitDefEqProofs (disch:=first|exact dd|fail)[Tryz.f213,hlt,cOpen]);(repeat'((with_reducible first|(refine Br.out ?_ ?_<;>intro h<;>(try(have h0:=h;simp only[bH]at h)))|fail)<;>(try simp -implicitDefEqProofs (disch:=first|exact dd|fail)[Tryz.f213,hlt,cOpen])))
   all_goals first | exact hi | (exfalso;omega)
 ·rw [List.drop_length] at he
  subst he
  (try simp -implicitDefEqProofs (disch:=first|exact dd|fail)[Tryz.f213,idxZ]);(repeat'((with_reducible first|(refine Br.out ?_ ?_<;>intro h<;>(try(have h0:=h;simp only[bH]at h)))|fail)<;>(try simp -implicitDefEqProofs (disch:=first|exact dd|fail)[Tryz.f213,idxZ])))
theorem impl_flagsOk (n:Int):Snd Tryz.prog 212 [.int .i64 n] (.bool (flagsB n)) [.unk]:=Runs.snd (M:=M) (c:=⟨1,[2],[],[]⟩) tok ks mixed Tryz.func212 (p := []) (by kernel_rfl) (by rfl) (by rfl) <| by
 unfold flagsB
 (try simp -implicitDefEqProofs (disch:=first|exact dd|fail)[Tryz.f212]);(repeat'((with_reducible first|(refine Br.out ?_ ?_<;>intro h<;>(try(have h0:=h;simp only[bH]at h)))|fail)<;>(try simp -implicitDefEqProofs (disch:=first|exact dd|fail)[Tryz.f212])))
 all_goals first | (intros;omega) | (simp [*];done) | grind
theorem spec_l16Flags (n:Int):Snd Tryz.prog 134 [.int .i64 n] (.bool (flagsB n)) [.unk]:=Runs.snd (M:=M) (c:=⟨1,[2,15],[],[]⟩) tok ks mixed Tryz.func134 (p := []) (by kernel_rfl) (by rfl) (by rfl) <| by
 unfold flagsB
 (try simp -implicitDefEqProofs (disch:=first|exact dd|fail)[Tryz.f134]);(repeat'((with_reducible first|(refine Br.out ?_ ?_<;>intro h<;>(try(have h0:=h;simp only[bH]at h)))|refine AC_snd (spec_l01In _ _ _) ?_|fail)<;>(try simp -implicitDefEqProofs (disch:=first|exact dd|fail)[Tryz.f134])))
 all_goals first | (intros;omega) | (simp [*];done) | grind
end Go.Proofs.YtgopfdninbknpaaGreat
