import Derived.Test.YtdbjdpndledcaaaP01b
namespace Go.Proofs.Ytdbjdpndledcaaa
open Go.Fw
set_option linter.unusedVariables false
set_option linter.unusedSimpArgs false
set_option maxHeartbeats 1000000
set_option maxRecDepth 8000
def curN (c:DCur):Nat→DCur
 | 0=>c
 | n + 1=>(byteC (curN c n)).2
theorem curN_ok {c:DCur} (h:CurOK c):∀ n,CurOK (curN c n)∧(curN c n).code=c.code
 | 0=>⟨h,rfl⟩
 | n + 1=>by
  obtain ⟨h1,h2⟩:=curN_ok h n
  exact ⟨byteC_ok h1,by rw [curN,byteC_code,h2]⟩
theorem spec_l25New (nl:Option Bool) (code:Str) (n:Nat) (hn:n≤1048576) (hl:code.length≤1048576):Snd Try.prog 15 [.frz 1 nl (code.map cu), .int .i64 n] (wCur nl (curN (newC code) n)) [.unk, .unk]:=Runs.snd (M:=M) (c:=⟨2,[4,5,6,11],[],[]⟩) tok ks mixed Try.func15 (p := []) (by kernel_rfl) (by rfl) (by rfl) <| by
 have c1:=spec_l01New nl code hl
 have o1:=newC_ok code
 have e1:(newC code).code=code:=rfl
 obtain ⟨R,hR⟩:∃ R,R=curN (newC code) n:=⟨_,rfl⟩
 rw [←hR]
 generalize newC code=c at *
 (try simp -implicitDefEqProofs (disch:=first|exact dd|fail)[Try.f15]);(repeat'((with_reducible first|(refine Br.out ?_ ?_<;>intro h<;>(try(have h0:=h;simp only[bH]at h)))|refine AC_snd (c1) ?_|fail)<;>(try simp -implicitDefEqProofs (disch:=first|exact dd|fail)[Try.f15])))
 refine AL_up (fun (j:Nat)=>n - j) (fun (j:Nat) => [(6, .int .i64 j)]) (fun (j:Nat) => [(640, .box [.frz 1 nl ((curN c j).code.map cu), .int .i64 (curN c j).i, .int .i64 (curN c j).h])]) (fun j=>j≤n) 0 (by simp [curN]) (by omega) ?_
 intro j n1 hj ih
 obtain ⟨q1,q2⟩:=curN_ok o1 j
 rcases Nat.lt_or_ge j n with hlt | hge
 ·have hjj:=ih (j + 1) (by omega) (by omega)
  rw [curN] at hjj
  generalize curN c j=x at *
  have c2:=spec_l01Byte nl x q1 (by rw [q2,e1];exact hl)
  generalize byteC x=y at *
  have hjn:(j:Int) < n:=by omega
  (try simp -implicitDefEqProofs (disch:=first|exact dd|fail)[Try.f15,hjn]);(repeat'((with_reducible first|(refine Br.out ?_ ?_<;>intro h<;>(try(have h0:=h;simp only[bH]at h)))|refine AC_snd (c2) ?_|fail)<;>(try simp -implicitDefEqProofs (disch:=first|exact dd|fail)[Try.f15,hjn])))
  all_goals first | exact hjj
 ·have h4:j=n:=by omega
  rw [h4,←hR]
  have hjn:¬ (n:Int) < n:=by omega
  generalize R=x at *
  (try simp -implicitDefEqProofs (disch:=first|exact dd|fail)[Try.f15,hjn]);(repeat'((with_reducible first|(refine Br.out ?_ ?_<;>intro h<;>(try(have h0:=h;simp only[bH]at h)))|fail)<;>(try simp -implicitDefEqProofs (disch:=first|exact dd|fail)[Try.f15,hjn])))
def numC (code:Str) (n:Nat):Int:=(byteC (curN (newC code) n)).1 * 256 + (byteC (byteC (curN (newC code) n)).2).1
theorem numC_val (code:Str) (n:Nat):0≤numC code n∧numC code n < 65536:=by
 have h1:=byteC_val (curN (newC code) n)
 have h2:=byteC_val (byteC (curN (newC code) n)).2
 unfold numC
 omega
def strC (code:Str) (n:Nat):Str:=(drawS (curN (newC code) n) 40).1
theorem strC_len (code:Str) (n:Nat):(strC code n).length≤40:=by
 have:=drawS_len (c:=curN (newC code) n) (n:=40) (by decide)
 unfold strC
 omega
theorem spec_MakeBytes (nl:Option Bool) (code:Str) (n:Nat) (hn:n≤1048576) (hl:code.length≤1048576):Snd Try.prog 5 [.frz 1 nl (code.map cu), .int .i64 n] (.str (strC code n)) [.unk, .unk]:=Runs.snd (M:=M) (c:=⟨2,[4],[],[]⟩) tok ks mixed Try.func5 (p := []) (by kernel_rfl) (by rfl) (by rfl) <| by
 have c1:=spec_l25New nl code n hn hl
 obtain ⟨o1,e1⟩:=curN_ok (newC_ok code) n
 have e2:(newC code).code=code:=rfl
 unfold strC
 generalize newC code=z at *
 generalize curN z n=c at *
 have c2:=spec_l02Bytes nl c 40 (by decide) o1 (by rw [e1,e2];exact hl)
 simp only [show ((40:Nat):Int)=40 from rfl] at c2
 generalize drawS c 40=x at *
 (try simp -implicitDefEqProofs (disch:=first|exact dd|fail)[Try.f5]);(repeat'((with_reducible first|(refine Br.out ?_ ?_<;>intro h<;>(try(have h0:=h;simp only[bH]at h)))|refine AC_snd (c1) ?_|refine AC_snd (c2) ?_|fail)<;>(try simp -implicitDefEqProofs (disch:=first|exact dd|fail)[Try.f5])))
end Go.Proofs.Ytdbjdpndledcaaa
