import Derived.Test.YtdbjdpndledcaaaP01
import Derived.Test.YtdbjdpndledcaaaME
namespace Go.Proofs.Ytdbjdpndledcaaa
open Go.Fw
set_option linter.unusedVariables false
set_option linter.unusedSimpArgs false
set_option maxHeartbeats 1000000
set_option maxRecDepth 8000
theorem spec_l01Below (nl:Option Bool) (c:DCur) (n:Int) (hc:CurOK c) (hl:c.code.length≤1048576):Snd Try.prog 25 [wCur nl c, .int .i64 n] (.int .i64 (belowC c n).1) [wCur nl (belowC c n).2, .unk]:=Runs.snd (M:=M) (c:=⟨2,[4,5,6,7,8,10,12],[],[]⟩) tok ks mixed Try.func25 (p := [0]) (by kernel_rfl) (by rfl) (by rfl) <| by
 have hb:=byteC_val c
 have c1:=spec_l01Byte nl c hc hl
 have ho1:=byteC_ok hc
 have hd1:=byteC_code c
 unfold belowC
 split
 ·(try simp -implicitDefEqProofs (disch:=first|exact dd|fail)[Try.f25]);(repeat'((with_reducible first|(refine Br.out ?_ ?_<;>intro h<;>(try(have h0:=h;simp only[bH]at h)))|refine AC_snd (c1) ?_|fail)<;>(try simp -implicitDefEqProofs (disch:=first|exact dd|fail)[Try.f25])))
 split
 ·rename_i h0 h1
  have e:(byteC c).1.tmod n=(byteC c).1 % n:=Int.tmod_eq_emod_of_nonneg hb.1
  generalize byteC c=x at *
  have hne:¬ n=0:=by omega
  (try simp -implicitDefEqProofs (disch:=first|exact dd|fail)[Try.f25,h0,h1,e,hne]);(repeat'((with_reducible first|(refine Br.out ?_ ?_<;>intro h<;>(try(have h0:=h;simp only[bH]at h)))|refine AC_snd (c1) ?_|fail)<;>(try simp -implicitDefEqProofs (disch:=first|exact dd|fail)[Try.f25,h0,h1,e,hne])))
 ·rename_i h0 h1
  have c2:=spec_l01Byte nl _ ho1 (by rw [hd1];exact hl)
  have hb2:=byteC_val (byteC c).2
  have ho2:=byteC_ok ho1
  have hd2:=byteC_code (byteC c).2
  have c3:=spec_l01Byte nl _ ho2 (by rw [hd2,hd1];exact hl)
  have hb3:=byteC_val (byteC (byteC c).2).2
  have ho3:=byteC_ok ho2
  have hd3:=byteC_code (byteC (byteC c).2).2
  have c4:=spec_l01Byte nl _ ho3 (by rw [hd3,hd2,hd1];exact hl)
  have hb4:=byteC_val (byteC (byteC (byteC c).2).2).2
  simp only
  generalize byteC (byteC (byteC (byteC c).2).2).2=w at *
  generalize byteC (byteC (byteC c).2).2=z at *
  generalize byteC (byteC c).2=y at *
  generalize byteC c=x at *
  have e:(x.1 * 16777216 + y.1 * 65536 + z.1 * 256 + w.1).tmod n=(x.1 * 16777216 + y.1 * 65536 + z.1 * 256 + w.1) % n:=Int.tmod_eq_emod_of_nonneg (by omega)
  have hne:¬ n=0:=by omega
  (try simp -implicitDefEqProofs (disch:=first|exact dd|fail)[Try.f25,h0,h1,e,hne]);(repeat'((with_reducible first|(refine Br.out ?_ ?_<;>intro h<;>(try(have h0:=h;simp only[bH]at h)))|refine AC_snd (c1) ?_|refine AC_snd (c2) ?_|refine AC_snd (c3) ?_|refine AC_snd (c4) ?_|fail)<;>(try simp -implicitDefEqProofs (disch:=first|exact dd|fail)[Try.f25,h0,h1,e,hne])))
theorem spec_l01Pick (nl:Option Bool) (c:DCur) (l:List Int) (h0:0 < l.length) (hll:l.length≤256) (hc:CurOK c) (hl:c.code.length≤1048576):Snd Try.prog 27 [wCur nl c, .row 1 (l.map ci)] (.int .i64 (pickC (0:Int) c l).1) [wCur nl (pickC (0:Int) c l).2, .unk]:=Runs.snd (M:=M) (c:=⟨2,[4],[],[]⟩) tok ks mixed Try.func27 (p := [0,1]) (by kernel_rfl) (by rfl) (by rfl) <| by
 have c1:=spec_l01Below nl c l.length hc hl
 have hb:=belowC_val c (n:=l.length) (by omega)
 unfold pickC
 generalize belowC c l.length=x at *
 obtain ⟨k,hk⟩:=Int.eq_ofNat_of_zero_le hb.1
 have hkl:k < l.length:=by omega
 have e:l.getD k 0=l[k]:=by simp [hkl]
 simp only [hk,Int.toNat_natCast,e]
 rw [hk] at c1
 (try simp -implicitDefEqProofs (disch:=first|exact dd|fail)[Try.f27,hkl]);(repeat'((with_reducible first|(refine Br.out ?_ ?_<;>intro h<;>(try(have h0:=h;simp only[bH]at h)))|refine AC_snd (c1) ?_|fail)<;>(try simp -implicitDefEqProofs (disch:=first|exact dd|fail)[Try.f27,hkl])))
theorem onceC_ok {c:DCur} (n:Int) (h:CurOK c):CurOK (onceC c n).2:=belowC_ok n h
theorem onceC_code (c:DCur) (n:Int):(onceC c n).2.code=c.code:=belowC_code c n
theorem pickC_ok {c:DCur} (l:List Int) (h:CurOK c):CurOK (pickC (0:Int) c l).2:=belowC_ok _ h
theorem pickC_code (c:DCur) (l:List Int):(pickC (0:Int) c l).2.code=c.code:=belowC_code c _
theorem bytesL_ok {c:DCur} (h:CurOK c):∀ n,CurOK (bytesL c n).2∧(bytesL c n).2.code=c.code
 | 0=>⟨h,rfl⟩
 | n + 1=>by
  obtain ⟨h1,h2⟩:=bytesL_ok h n
  rw [bytesL_succ]
  exact ⟨pickC_ok _ (byteC_ok h1),by simp only [byteStep,pickC_code,byteC_code,h2]⟩
theorem drawS_ok {c:DCur} (n:Int) (h:CurOK c):CurOK (drawS c n).2∧(drawS c n).2.code=c.code:=by
 obtain ⟨h1,h2⟩:=bytesL_ok (belowC_ok (n + 1) h) (belowC c (n + 1)).1.toNat
 exact ⟨h1,by unfold drawS;rw [h2,belowC_code]⟩
theorem spec_l02Bytes (nl:Option Bool) (c:DCur) (n:Nat) (hn:n≤255) (hc:CurOK c) (hl:c.code.length≤1048576):Snd Try.prog 14 [wCur nl c, .int .i64 n] (.str (drawS c n).1) [wCur nl (drawS c n).2, .unk]:=Runs.snd (M:=M) (c:=⟨2,[4,5,6,13],[],[]⟩) tok ks mixed Try.func14 (p := [0]) (by kernel_rfl) (by rfl) (by rfl) <| by
 have c1:=spec_l01Below nl c ((n:Int) + 1) hc hl
 have hb:=belowC_val c (n:=(n:Int) + 1) (by omega)
 have hok:=belowC_ok ((n:Int) + 1) hc
 have hcd:=belowC_code c ((n:Int) + 1)
 have hL:=drawS_len (c:=c) (n:=n) (by omega)
 unfold drawS at hL ⊢
 generalize belowC c ((n:Int) + 1)=x at *
 obtain ⟨m,hm⟩:=Int.eq_ofNat_of_zero_le hb.1
 simp only [hm,Int.toNat_natCast] at *
 have hw1:IntKind.i64.wrap ((n:Int) + 1)=n + 1:=wrap64_in (by omega) (by omega)
 (try simp -implicitDefEqProofs (disch:=first|exact dd|fail)[Try.f14,hw1]);(repeat'((with_reducible first|(refine Br.out ?_ ?_<;>intro h<;>(try(have h0:=h;simp only[bH]at h)))|refine AC_snd (c1) ?_|fail)<;>(try simp -implicitDefEqProofs (disch:=first|exact dd|fail)[Try.f14,hw1])))
 refine AL_up (fun (j:Nat)=>m - j) (fun (j:Nat) => [(5, .ref 640 none 1 0 j (some false)),(6, .int .i64 ((m:Int) - j))]) (fun (j:Nat) => [(0, .box [.frz 1 nl ((bytesL x.2 j).2.code.map cu), .int .i64 (bytesL x.2 j).2.i, .int .i64 (bytesL x.2 j).2.h]),(640, .row 1 ((bytesL x.2 j).1.map cu) [])]) (fun j=>j≤m) 0 (by simp [bytesL]) (Nat.zero_le _) ?_
 intro j n1 hj ih
 obtain ⟨o1,o2⟩:=bytesL_ok hok j
 have hlen:=bytesL_len x.2 j
 rcases Nat.lt_or_ge j m with hlt | hge
 ·have hjj:=ih (j + 1) (by omega) (by omega)
  rw [bytesL_succ] at hjj
  have c2:=spec_l01Byte nl (bytesL x.2 j).2 o1 (by rw [o2,hcd];exact hl)
  have hbv:=byteC_val (bytesL x.2 j).2
  have ob:=byteC_ok o1
  have oc:=byteC_code (bytesL x.2 j).2
  have hmem:(pickC (0:Int) (byteC (bytesL x.2 j).2).2 [0,1,65,97,255,(byteC (bytesL x.2 j).2).1]).1 ∈ [0,1,65,97,255,(byteC (bytesL x.2 j).2).1]:=pickC_mem (by simp)
  have c3:=spec_l01Pick nl (byteC (bytesL x.2 j).2).2 [0,1,65,97,255,(byteC (bytesL x.2 j).2).1] (by simp) (by simp) ob (by rw [oc,o2,hcd];exact hl)
  simp only [byteStep] at hjj
  generalize pickC (0:Int) (byteC (bytesL x.2 j).2).2 [0,1,65,97,255,(byteC (bytesL x.2 j).2).1]=P at *
  generalize byteC (bytesL x.2 j).2=B at *
  have hp:0≤P.1∧P.1≤255:=by
   simp only [List.mem_cons,List.mem_nil_iff,or_false] at hmem
   omega
  have hu8:IntKind.u8.wrap P.1=((UInt8.ofNat P.1.toNat).toNat:Nat):=by
   rw [wrap8_in (by omega) (by omega)]
   simp
   omega
  generalize UInt8.ofNat P.1.toNat=V at *
  generalize bytesL x.2 j=L at *
  simp only [List.map_append,List.map_cons,List.map_nil,cu] at hjj
  have ht:=takeM (f:=cu) hlen
  have hw3:(m:Int) - ((j + 1:Nat):Int)=(m:Int) - j - 1:=by omega
  rw [hw3] at hjj
  simp only [List.map_cons,List.map_nil,ci] at c3
  have hgt:(0:Int) < (m:Int) - j:=by omega
  (try simp -implicitDefEqProofs (disch:=first|exact dd|fail)[Try.f14,hgt,hlen,ht,hu8]);(repeat'((with_reducible first|(refine Br.out ?_ ?_<;>intro h<;>(try(have h0:=h;simp only[bH]at h)))|refine AC_snd (c2) ?_|refine AC_snd (c3) ?_|fail)<;>(try simp -implicitDefEqProofs (disch:=first|exact dd|fail)[Try.f14,hgt,hlen,ht,hu8])))
  all_goals first | exact hjj
 ·have h1:j=m:=by omega
  subst h1
  have ht:=takeM (f:=cu) hlen
  have hb2:=b2l (bytesL x.2 j).1
  generalize bytesL x.2 j=L at *
  have hgt:¬ (0:Int) < (j:Int) - j:=by omega
  (try simp -implicitDefEqProofs (disch:=first|exact dd|fail)[Try.f14,hgt,hlen,ht,hb2]);(repeat'((with_reducible first|(refine Br.out ?_ ?_<;>intro h<;>(try(have h0:=h;simp only[bH]at h)))|fail)<;>(try simp -implicitDefEqProofs (disch:=first|exact dd|fail)[Try.f14,hgt,hlen,ht,hb2])))
end Go.Proofs.Ytdbjdpndledcaaa
