import Derived.Test.YtfkkfhafijgdaaaP05a
import Derived.Test.YtfkkfhafijgdaaaMA
import Derived.Test.YtfkkfhafijgdaaaBx
namespace Go.Proofs.Ytfkkfhafijgdaaa
open Go.Fw
set_option linter.unusedVariables false
set_option linter.unusedSimpArgs false
set_option maxHeartbeats 1000000
set_option maxRecDepth 8000
theorem nChunks_lt1 {s:Str} {n j:Nat} (h:1≤n):j < nChunks s n↔j * n < s.length:=by
 unfold nChunks
 rw [Nat.lt_iff_add_one_le,Nat.le_div_iff_mul_le (by omega),Nat.add_mul,Nat.one_mul]
 omega
theorem spec_CutAll (s:Str) (n:Nat) (h1:1≤n) (h2:n≤1000) (hs:s.length≤1048576):Snd Try.prog 146 [.str s, .int .i64 n] (.row 1 ((cutN s n (nChunks s n)).map cs)) [.unk, .unk]:=Runs.snd (M:=M) (c:=⟨2,[4,5,9,13,24],[],[]⟩) tok ks mixed Try.func146 (p := []) (by kernel_rfl) (by rfl) (by rfl) <| by
 have g1:(1:Int)≤n:=by omega
 have g2:(n:Int)≤1000:=by omega
 obtain ⟨R,hR⟩:∃ R,R=(cutN s n (nChunks s n)).map cs:=⟨_,rfl⟩
 rw [←hR]
 (try simp -implicitDefEqProofs (disch:=first|exact dd|fail)[Try.f146,g1,g2]);(repeat'((with_reducible first|(refine Br.out ?_ ?_<;>intro h<;>(try(have h0:=h;simp only[bH]at h)))|refine AC_snd (spec_l01In _ _ _) ?_|fail)<;>(try simp -implicitDefEqProofs (disch:=first|exact dd|fail)[Try.f146,g1,g2])))
 refine AL_up (fun (j:Nat)=>s.length - j * n) (fun (j:Nat) => [(0, .str (s.drop (j * n))),(5, .ref 640 none 1 0 j (some false))]) (fun (j:Nat) => [(640, .row 1 ((cutN s n j).map cs) [])]) (fun j=>j=0∨j * n < s.length) 0 (by simp [cutN]) (.inl rfl) ?_
 intro j n1 hj ih
 have hdl:(s.drop (j * n)).length=s.length - j * n:=List.length_drop
 have hlen:(cutN s n j).length=j:=cutN_len
 have hjn:j≤j * n:=Nat.le_mul_of_pos_right j (by omega)
 have hjs:j≤s.length:=by omega
 have htk:=takeM (f:=cs) hlen
 have h30:j≤1073741823:=by omega
 rcases Nat.lt_or_ge n (s.length - j * n) with hlt | hge
 ·have ej:(j + 1) * n=j * n + n:=by rw [Nat.add_mul,Nat.one_mul]
  have hjj:=ih (j + 1) (.inr (by omega)) (by omega)
  rw [cutN_succ,ej,←List.drop_drop] at hjj
  simp only [List.map_append,List.map_cons,List.map_nil,cs,chunk] at hjj
  generalize cutN s n j=L at *
  generalize s.drop (j * n)=D at *
  have hgt:(n:Int) < D.length:=by omega
  have hle:n≤D.length:=by omega
  have hcut:List.take (s.length - j * n - n) (List.drop n D)=List.drop n D:=List.take_of_length_le (by rw [List.length_drop];omega)
  (try simp -implicitDefEqProofs (disch:=first|exact dd|fail)[Try.f146,hgt,hle,hdl,hlen,htk,h30,hcut]);(repeat'((with_reducible first|(refine Br.out ?_ ?_<;>intro h<;>(try(have h0:=h;simp only[bH]at h)))|fail)<;>(try simp -implicitDefEqProofs (disch:=first|exact dd|fail)[Try.f146,hgt,hle,hdl,hlen,htk,h30,hcut])))
  all_goals first | exact hjj
 ·have hgt:¬ (n:Int) < (s.drop (j * n)).length:=by omega
  by_cases he:s.drop (j * n) = []
  ·have hn:nChunks s n=j:=by
    have h5:=nChunks_lt1 (s:=s) (j:=j) h1
    have h6:s.length≤j * n:=by rw [he] at hdl;simp at hdl;omega
    rcases hj with rfl | hj
    ·unfold nChunks
     rw [show s.length=0 by omega]
     exact Nat.div_eq_of_lt (by omega)
    ·omega
   rw [hn] at hR
   rw [hR]
   generalize cutN s n j=L at *
   rw [he] at hgt ⊢
   (try simp -implicitDefEqProofs (disch:=first|exact dd|fail)[Try.f146,hgt,hlen,htk,h30]);(repeat'((with_reducible first|(refine Br.out ?_ ?_<;>intro h<;>(try(have h0:=h;simp only[bH]at h)))|fail)<;>(try simp -implicitDefEqProofs (disch:=first|exact dd|fail)[Try.f146,hgt,hlen,htk,h30])))
  ·have hpos:0 < (s.drop (j * n)).length:=List.length_pos_iff.2 he
   have hn:nChunks s n=j + 1:=by
    have h5:=nChunks_lt1 (s:=s) (j:=j) h1
    have h6:=nChunks_lt1 (s:=s) (j:=j + 1) h1
    rw [Nat.add_mul,Nat.one_mul] at h6
    omega
   have hch:chunk s n j=s.drop (j * n):=List.take_of_length_le (by omega)
   rw [hn,cutN_succ,hch] at hR
   simp only [List.map_append,List.map_cons,List.map_nil,cs] at hR
   rw [hR]
   generalize cutN s n j=L at *
   generalize s.drop (j * n)=D at *
   (try simp -implicitDefEqProofs (disch:=first|exact dd|fail)[Try.f146,hgt,he,hlen,htk,h30]);(repeat'((with_reducible first|(refine Br.out ?_ ?_<;>intro h<;>(try(have h0:=h;simp only[bH]at h)))|fail)<;>(try simp -implicitDefEqProofs (disch:=first|exact dd|fail)[Try.f146,hgt,he,hlen,htk,h30])))
end Go.Proofs.Ytfkkfhafijgdaaa
