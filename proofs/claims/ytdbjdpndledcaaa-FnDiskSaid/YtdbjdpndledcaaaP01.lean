import Derived.Test.YtdbjdpndledcaaaM01
import Derived.Test.YtdbjdpndledcaaaBx
import Derived.Test.YtdbjdpndledcaaaBase
namespace Go.Proofs.Ytdbjdpndledcaaa
open Go.Fw
set_option linter.unusedVariables false
set_option linter.unusedSimpArgs false
set_option maxHeartbeats 1000000
set_option maxRecDepth 8000
abbrev wCur (nl:Option Bool) (c:DCur):AV := .wptr [.frz 1 nl (c.code.map cu), .int .i64 c.i, .int .i64 c.h]
theorem spec_l01New (nl:Option Bool) (code:Str) (hl:code.length≤1048576):Snd Try.prog 13 [.frz 1 nl (code.map cu)] (wCur nl (newC code)) [.unk]:=Runs.snd (M:=M) (c:=⟨1,[2,3,4,15],[],[]⟩) tok ks mixed Try.func13 (p := []) (by kernel_rfl) (by rfl) (by rfl) <| by
 unfold wCur newC
 have e0:IntKind.wrap .i64 (1263 + (code.length:Int))=hashL code 0:=by
  rw [wrap64_in (by omega) (by omega)]
  rfl
 (try simp -implicitDefEqProofs (disch:=first|exact dd|fail)[Try.f13,e0]);(repeat'((with_reducible first|(refine Br.out ?_ ?_<;>intro h<;>(try(have h0:=h;simp only[bH]at h)))|fail)<;>(try simp -implicitDefEqProofs (disch:=first|exact dd|fail)[Try.f13,e0])))
 refine AL_up (fun (i:Nat)=>min code.length 4000 - i) (fun (i:Nat) => [(3, .int .i64 (hashL code i)),(4, .int .i64 i)]) (fun _ => []) (fun i=>i≤min code.length 4000) 0 rfl (Nat.zero_le _) ?_
 intro i n hi ih
 rcases Nat.lt_or_ge i (min code.length 4000) with hlt | hge
 ·have hic:i < code.length:=by omega
  have hj:=ih (i + 1) (by omega) (by omega)
  rw [hashL_succ hic] at hj
  have hg:(code.map cu)[i]? = some [.int .u8 (code[i].toNat:Nat)]:=by rw [List.getElem?_map,List.getElem?_eq_getElem hic];rfl
  unfold hashStep at hj
  generalize hashL code i=H at *
  generalize code[i]=B at *
  have hub:(B.toNat:Int) < 256:=by exact_mod_cast B.toNat_lt
  have hw1:IntKind.i64.wrap (B.toNat:Int)=B.toNat:=wrap64_in (by omega) (by omega)
  (try simp -implicitDefEqProofs (disch:=first|exact dd|fail)[Try.f13,hic,hg,hw1]);(repeat'((with_reducible first|(refine Br.out ?_ ?_<;>intro h<;>(try(have h0:=h;simp only[bH]at h)))|fail)<;>(try simp -implicitDefEqProofs (disch:=first|exact dd|fail)[Try.f13,hic,hg,hw1])))
  all_goals first | exact hj
 ·have h1:i=min code.length 4000:=by omega
  subst h1
  (try simp -implicitDefEqProofs (disch:=first|exact dd|fail)[Try.f13]);(repeat'((with_reducible first|(refine Br.out ?_ ?_<;>intro h<;>(try(have h0:=h;simp only[bH]at h)))|fail)<;>(try simp -implicitDefEqProofs (disch:=first|exact dd|fail)[Try.f13])))
theorem wrap_xor {a b:Int}:IntKind.wrap .i64 (((a % 2 ^ IntKind.bits .i64).toNat ^^^ (b % 2 ^ IntKind.bits .i64).toNat:Nat))=iXor a b:=by
 unfold iXor
 rw [BitVec.toNat_xor,BitVec.toNat_ofInt,BitVec.toNat_ofInt]
 rfl
theorem spec_l01Byte (nl:Option Bool) (c:DCur) (hc:CurOK c) (hl:c.code.length≤1048576):Snd Try.prog 28 [wCur nl c] (.int .i64 (byteC c).1) [wCur nl (byteC c).2]:=Runs.snd (M:=M) (c:=⟨1,[2,3,34],[],[]⟩) tok ks mixed Try.func28 (p := [0]) (by kernel_rfl) (by rfl) (by rfl) <| by
 unfold wCur byteC rawX mixH
 have hi:=hc.le
 have p33:(2:Int) ^ min 33 IntKind.i64.bits=8589934592:=by decide
 have p45:(2:Int) ^ min 45 IntKind.i64.bits=35184372088832:=by decide
 have q33:(2:Int) ^ 33=8589934592:=by decide
 have q45:(2:Int) ^ 45=35184372088832:=by decide
 rw [q33,q45]
 split
 ·rename_i h
  have hg:(c.code.map cu)[c.i]? = some [.int .u8 (c.code[c.i].toNat:Nat)]:=by rw [List.getElem?_map,List.getElem?_eq_getElem h];rfl
  have hgd:c.code.getD c.i 0=c.code[c.i]:=by simp [h]
  rw [hgd]
  have hub:=c.code[c.i].toNat_lt
  generalize c.code[c.i]=B at *
  have hw1:IntKind.i64.wrap (B.toNat:Int)=B.toNat:=wrap64_in (by omega) (by omega)
  have hw2:∀ x:Int,IntKind.i64.wrap (iAnd x 255 + (B.toNat:Int))=iAnd x 255 + B.toNat:=fun x=>wrap64_in (by have:=iAnd_255 x;omega) (by have:=iAnd_255 x;omega)
  (try simp -implicitDefEqProofs (disch:=first|exact dd|fail)[Try.f28,h,hg,hw1,hw2,p33,p45,wrap_xor]);(repeat'((with_reducible first|(refine Br.out ?_ ?_<;>intro h<;>(try(have h0:=h;simp only[bH]at h)))|fail)<;>(try simp -implicitDefEqProofs (disch:=first|exact dd|fail)[Try.f28,h,hg,hw1,hw2,p33,p45,wrap_xor])))
 ·rename_i h
  (try simp -implicitDefEqProofs (disch:=first|exact dd|fail)[Try.f28,h,p33,p45,wrap_xor]);(repeat'((with_reducible first|(refine Br.out ?_ ?_<;>intro h<;>(try(have h0:=h;simp only[bH]at h)))|fail)<;>(try simp -implicitDefEqProofs (disch:=first|exact dd|fail)[Try.f28,h,p33,p45,wrap_xor])))
end Go.Proofs.Ytdbjdpndledcaaa
