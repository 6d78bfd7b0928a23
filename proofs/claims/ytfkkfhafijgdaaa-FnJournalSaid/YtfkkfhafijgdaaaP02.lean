import Derived.Test.YtfkkfhafijgdaaaP05b
import Derived.Test.YtfkkfhafijgdaaaMA
import Derived.Test.YtfkkfhafijgdaaaBx
import Derived.Test.YtfkkfhafijgdaaaP05a
import Derived.Test.YtfkkfhafijgdaaaM11
import Derived.Test.YtfkkfhafijgdaaaLibB
namespace Go.Proofs.Ytfkkfhafijgdaaa
open Go.Fw
set_option linter.unusedVariables false
set_option linter.unusedSimpArgs false
set_option maxHeartbeats 4000000 in
set_option maxRecDepth 8000 in
theorem spec_GetNumber (s:Str) (a w:Int) (hs:s.length≤1048576):Snd Try.prog 165 [.str s, .int .i64 a, .int .i64 w] (.tup [.int .i64 (getN s a w).1, .bool (getN s a w).2]) [.unk, .unk, .unk]:=Runs.snd (M:=M) (c:=⟨3,[6,7,8,9,24,27],[],[]⟩) tok ks mixed Try.func165 (p := []) (by kernel_rfl) (by rfl) (by rfl) <| by
 (try simp -implicitDefEqProofs (disch:=first|exact dd|fail)[Try.f165]);(repeat'((with_reducible first|(refine Br.out ?_ ?_<;>intro h<;>(try(have h0:=h;simp only[bH]at h)))|refine AC_snd (spec_l01In _ _ _) ?_|fail)<;>(try simp -implicitDefEqProofs (disch:=first|exact dd|fail)[Try.f165])))
 all_goals try (rw [getN,if_neg (by omega)];simp;done)
 obtain ⟨A,hA⟩:=Int.eq_ofNat_of_zero_le (by omega:0≤a)
 obtain ⟨W,hW⟩:=Int.eq_ofNat_of_zero_le (by omega:0≤w)
 have hv:getN s a w=(getV ((s.drop A).take W),true):=by
  rw [getN,if_pos (by omega),hA,hW]
  rfl
 rw [hv]
 subst hA hW
 refine AL_fors (σ:=Unit) 9 W (fun i _ => [(8, .int .i64 (getV ((s.drop A).take i)))]) (fun _ _ => []) (fun _ _=>True) () (by simp [getV]) trivial (fun i _ n hlt _ ih => ?_) (fun _ n _ => ?_)
 ·have hix:A + i < s.length:=by omega
  have hc:=cut_snoc hix
  have hb:=getV_bound (l:=(s.drop A).take i) (by rw [List.length_take];omega)
  have hi:=ih () trivial
  simp only [hc,getV_snoc] at hi
  have hub:(s[A + i].toNat:Int) < 256:=by exact_mod_cast s[A + i].toNat_lt
  generalize getV ((s.drop A).take i)=V at *
  have hcast:((A:Int) + (i:Int)).toNat=A + i:=by omega
  have hw1:IntKind.i64.wrap (s[A + i].toNat:Int)=s[A + i].toNat:=wrap64_in (by omega) (by omega)
  have hw2:IntKind.i64.wrap (256 * V + (s[A + i].toNat:Int))=V * 256 + s[A + i].toNat:=by rw [wrap64_in (by omega) (by omega)];omega
  (try simp -implicitDefEqProofs (disch:=first|exact dd|fail)[Try.f165,hix]);(repeat'((with_reducible first|(refine Br.out ?_ ?_<;>intro h<;>(try(have h0:=h;simp only[bH]at h)))|fail)<;>(try simp -implicitDefEqProofs (disch:=first|exact dd|fail)[Try.f165,hix])))
  simp only [hcast,hw1,hw2]
  exact hi
 ·(try simp -implicitDefEqProofs (disch:=first|exact dd|fail)[Try.f165]);(repeat'((with_reducible first|(refine Br.out ?_ ?_<;>intro h<;>(try(have h0:=h;simp only[bH]at h)))|fail)<;>(try simp -implicitDefEqProofs (disch:=first|exact dd|fail)[Try.f165])))
set_option maxHeartbeats 1000000
set_option maxRecDepth 8000
theorem padTo_step {s:Str} {i:Nat} (h:s.length≤i):padTo s (i + 1)=padTo s i ++ [0]:=by
 rw [padTo,padTo,Nat.succ_sub h,List.replicate_succ',List.append_assoc]
theorem spec_PadTo (s:Str) (k:Nat) (hk:k≤100000) (hl:s.length≤1048576):Snd Try.prog 144 [.str s, .int .i64 k] (.str (padTo s k)) [.unk, .unk]:=Runs.snd (M:=M) (c:=⟨2,[4,5,7,13],[],[]⟩) tok ks mixed Try.func144 (p := []) (by kernel_rfl) (by rfl) (by rfl) <| by
 have h1:¬ (100000:Int) < k:=by omega
 have h0:padTo s s.length=s:=by simp [padTo]
 (try simp -implicitDefEqProofs (disch:=first|exact dd|fail)[Try.f144,l2b,h1]);(repeat'((with_reducible first|(refine Br.out ?_ ?_<;>intro h<;>(try(have h0:=h;simp only[bH]at h)))|fail)<;>(try simp -implicitDefEqProofs (disch:=first|exact dd|fail)[Try.f144,l2b,h1])))
 refine AL_up (fun (i:Nat)=>k - i) (fun (i:Nat) => [(5, .ref 640 none 1 0 i (some false))]) (fun (i:Nat) => [(640, .row 1 ((padTo s i).map cu) [])]) (fun i=>s.length≤i∧(i≤k∨i=s.length)) s.length (by rw [h0];rfl) ⟨Nat.le_refl _, .inr rfl⟩ ?_
 rintro i n ⟨hi0,hi1⟩ ih
 have hpl:(padTo s i).length=i:=by rw [padTo_len];omega
 rcases Nat.lt_or_ge i k with hlt | hge
 ·have hj:=ih (i + 1) ⟨by omega,by omega⟩ (by omega)
  rw [padTo_step hi0] at hj
  simp only [List.map_append,List.map_cons,List.map_nil,cu] at hj
  have ht:=takeM (f:=cu) hpl
  generalize padTo s i=P at *
  (try simp -implicitDefEqProofs (disch:=first|exact dd|fail)[Try.f144,hlt,hpl,ht]);(repeat'((with_reducible first|(refine Br.out ?_ ?_<;>intro h<;>(try(have h0:=h;simp only[bH]at h)))|fail)<;>(try simp -implicitDefEqProofs (disch:=first|exact dd|fail)[Try.f144,hlt,hpl,ht])))
  all_goals first | exact hj
 ·have hp:padTo s i=padTo s k:=by
   rcases hi1 with h | h
   ·rw [show i=k by omega]
   ·rw [h,h0,padTo,Nat.sub_eq_zero_of_le (by omega)]
    simp
  have hb:=b2l (padTo s k)
  rw [hp] at hpl ⊢
  have ht:=takeM (f:=cu) hpl
  generalize padTo s k=P at *
  (try simp -implicitDefEqProofs (disch:=first|exact dd|fail)[Try.f144,hpl,ht,hb]);(repeat'((with_reducible first|(refine Br.out ?_ ?_<;>intro h<;>(try(have h0:=h;simp only[bH]at h)))|fail)<;>(try simp -implicitDefEqProofs (disch:=first|exact dd|fail)[Try.f144,hpl,ht,hb])))
theorem wrap_or {a b:Int}:IntKind.wrap .i64 (((a % 2 ^ IntKind.bits .i64).toNat ||| (b % 2 ^ IntKind.bits .i64).toNat:Nat))=iOr a b:=by
 unfold iOr
 rw [BitVec.toNat_or,BitVec.toNat_ofInt,BitVec.toNat_ofInt]
 rfl
theorem iOr_byte {V:Int} {u:Nat} (h0:0≤V) (h1:V < 1099511627776) (hu:u < 256):iOr (V * 256) u=V * 256 + u:=by
 obtain ⟨n,rfl⟩:=Int.eq_ofNat_of_zero_le h0
 have e1:((n:Int) * 256)=((n * 256:Nat):Int):=by simp
 have h2:n * 256 < 2 ^ 64:=by omega
 have h3:u < 2 ^ 64:=by omega
 rw [iOr,e1,BitVec.ofInt_natCast,BitVec.ofInt_natCast,BitVec.toNat_or,BitVec.toNat_ofNat,BitVec.toNat_ofNat,Nat.mod_eq_of_lt h2,Nat.mod_eq_of_lt h3]
 have h4:n * 256 ||| u=n * 256 + u:=by
  have:=Nat.shiftLeft_add_eq_or_of_lt (i:=8) (b:=u) (by omega) n
  rw [Nat.shiftLeft_eq] at this
  exact this.symm
 rw [h4]
 exact wrap64_in (by omega) (by omega)
set_option maxHeartbeats 4000000 in
set_option maxRecDepth 8000 in
theorem impl_GetNumber (s:Str) (a w:Int) (hs:s.length≤1048576):Snd Try.prog 99 [.str s, .int .i64 a, .int .i64 w] (.tup [.int .i64 (getN s a w).1, .bool (getN s a w).2]) [.unk, .unk, .unk]:=Runs.snd (M:=M) (c:=⟨3,[6,7,8,9,27,28,29,30],[],[(1,[0,1,2,6,7,8,27,28,29,30])]⟩) tok ks mixed Try.func99 (p := []) (by kernel_rfl) (by rfl) (by rfl) <| by
 (try simp -implicitDefEqProofs (disch:=first|exact dd|fail)[Try.f99]);(repeat'((with_reducible first|(refine Br.out ?_ ?_<;>intro h<;>(try(have h0:=h;simp only[bH]at h)))|fail)<;>(try simp -implicitDefEqProofs (disch:=first|exact dd|fail)[Try.f99])))
 all_goals try (rw [getN,if_neg (by omega)];simp;done)
 obtain ⟨A,hA⟩:=Int.eq_ofNat_of_zero_le (by omega:0≤a)
 obtain ⟨W,hW⟩:=Int.eq_ofNat_of_zero_le (by omega:0≤w)
 have hv:getN s a w=(getV ((s.drop A).take W),true):=by
  rw [getN,if_pos (by omega),hA,hW]
  rfl
 rw [hv]
 subst hA hW
 refine AL_fors (σ:=Unit) 29 W (fun i _ => [(8, .int .i64 (getV ((s.drop A).take i)))]) (fun _ _ => []) (fun _ _=>True) () (by simp [getV]) trivial (fun i _ n hlt _ ih => ?_) (fun _ n _ => ?_)
 ·have hix:A + i < s.length:=by omega
  have hc:=cut_snoc hix
  have hb:=getV_bound (l:=(s.drop A).take i) (by rw [List.length_take];omega)
  have hi:=ih () trivial
  simp only [hc,getV_snoc] at hi
  have hub:(s[A + i].toNat:Int) < 256:=by exact_mod_cast s[A + i].toNat_lt
  generalize getV ((s.drop A).take i)=V at *
  have hcast:((A:Int) + (i:Int)).toNat=A + i:=by omega
  have hw1:IntKind.i64.wrap (s[A + i].toNat:Int)=s[A + i].toNat:=wrap64_in (by omega) (by omega)
  have hor:=iOr_byte hb.1 hb.2 s[A + i].toNat_lt
  have hshl:IntKind.i64.wrap (V * 2 ^ min 8 IntKind.i64.bits)=V * 256:=by
   have e:V * 2 ^ min 8 IntKind.i64.bits=V * 256:=by simp [IntKind.bits]
   rw [e]
   exact wrap64_in (by omega) (by omega)
  (try simp -implicitDefEqProofs (disch:=first|exact dd|fail)[Try.f99,hix]);(repeat'((with_reducible first|(refine Br.out ?_ ?_<;>intro h<;>(try(have h0:=h;simp only[bH]at h)))|fail)<;>(try simp -implicitDefEqProofs (disch:=first|exact dd|fail)[Try.f99,hix])))
  simp only [hcast,hw1,hshl,wrap_or,hor]
  exact hi
 ·(try simp -implicitDefEqProofs (disch:=first|exact dd|fail)[Try.f99]);(repeat'((with_reducible first|(refine Br.out ?_ ?_<;>intro h<;>(try(have h0:=h;simp only[bH]at h)))|fail)<;>(try simp -implicitDefEqProofs (disch:=first|exact dd|fail)[Try.f99])))
theorem pow_facts {w:Nat} (h1:1≤w) (h6:w≤6):IntKind.u64.wrap (w:Int)=w∧IntKind.u64.wrap (8 * (w:Int))=8 * w∧IntKind.i64.wrap (2 ^ min (8 * (w:Int)).toNat IntKind.i64.bits)=((256 ^ w:Nat):Int):=by
 have h:w=1∨w=2∨w=3∨w=4∨w=5∨w=6:=by omega
 rcases h with rfl | rfl | rfl | rfl | rfl | rfl<;>decide
theorem rep_cu (w:Nat):List.replicate w [AV.int .u8 0]=(List.replicate w (0:UInt8)).map cu:=by simp
theorem putR_zero {K w:Nat}:putR K w 0=List.replicate w 0:=by simp [putR,lowB]
theorem putR_full {K w:Nat}:putR K w w=lowB K w:=by simp [putR]
theorem byte_of (n:Nat):IntKind.u8.wrap (((n % 256:Nat)):Int)=((UInt8.ofNat n).toNat:Nat):=by
 rw [wrap8_in (by omega) (by omega)]
 simp
set_option maxHeartbeats 4000000 in
set_option maxRecDepth 8000 in
theorem spec_PutNumber (k:Int) (w:Nat) (h1:1≤w) (h6:w≤6):Snd Try.prog 150 [.int .i64 k, .int .i64 w] (.str (putN k w)) [.unk, .unk]:=Runs.snd (M:=M) (c:=⟨2,[4,5,6,21,27],[],[]⟩) tok ks mixed Try.func150 (p := []) (by kernel_rfl) (by rfl) (by rfl) <| by
 obtain ⟨u1,u2,u3⟩:=pow_facts h1 h6
 have g1:(1:Int)≤w:=by omega
 have g6:(w:Int)≤6:=by omega
 have g8:¬ 8 * (w:Int) < 0:=by omega
 have gp:(0:Int)≤w:=by omega
 obtain ⟨R,hR⟩:∃ R,R=putN k w:=⟨_,rfl⟩
 rw [←hR]
 unfold putN at hR
 (try simp -implicitDefEqProofs (disch:=first|exact dd|fail)[Try.f150,u1,u2,u3,g1,g6,g8,gp]);(repeat'((with_reducible first|(refine Br.out ?_ ?_<;>intro h<;>(try(have h0:=h;simp only[bH]at h)))|refine AC_snd (spec_l01In _ _ _) ?_|fail)<;>(try simp -implicitDefEqProofs (disch:=first|exact dd|fail)[Try.f150,u1,u2,u3,g1,g6,g8,gp])))
 ·rw [hR,if_neg (by omega)]
 ·rw [hR,if_neg (by omega)]
 obtain ⟨K,rfl⟩:=Int.eq_ofNat_of_zero_le (by omega:0≤k)
 have hR2:R=lowB K w:=by
  rw [hR,if_pos (by omega)]
  rfl
 subst hR2
 have hK:K < 281474976710656:=by
  have h3:256 ^ w≤256 ^ 6:=Nat.pow_le_pow_right (by decide) h6
  have h4:((256 ^ w:Nat):Int)=(256:Int) ^ w:=by simp
  omega
 refine AL_up (fun j=>w - j) (fun j => [(0, .int .i64 (K / 256 ^ j:Nat)),(6, .int .i64 ((w:Int) - 1 - j))]) (fun j => [(640, .row 1 ((putR K w j).map cu) [])]) (fun j=>j≤w) 0 (by simp [putR_zero]) (Nat.zero_le _) ?_
 intro j n hj ih
 rcases Nat.lt_or_ge j w with hlt | hge
 ·have hjj:=ih (j + 1) hlt (by omega)
  have hs:=putR_set (n:=K) hlt
  rw [←hs,Nat.pow_succ,←Nat.div_div_eq_div_mul] at hjj
  have hl:=putR_len (n:=K) (Nat.le_of_lt hlt)
  have hb:(((UInt8.ofNat (K / 256 ^ j)).toNat:Nat):Int)=((K / 256 ^ j:Nat):Int) % 256:=by simp
  have hD:K / 256 ^ j≤K:=Nat.div_le_self _ _
  generalize putR K w j=P at *
  generalize K / 256 ^ j=D at *
  have e1:((D / 256:Nat):Int)=(D:Int) / 256:=by omega
  have e2:((w:Int) - 1 - ((j + 1:Nat):Int))=(w:Int) - 1 - j - 1:=by omega
  have e3:((w:Int) - 1 - j).toNat=w - 1 - j:=by omega
  simp only [List.map_set,cu,hb,e1,e2] at hjj
  (try simp -implicitDefEqProofs (disch:=first|exact dd|fail)[Try.f150,hl,e3]);(repeat'((with_reducible first|(refine Br.out ?_ ?_<;>intro h<;>(try(have h0:=h;simp only[bH]at h)))|fail)<;>(try simp -implicitDefEqProofs (disch:=first|exact dd|fail)[Try.f150,hl,e3])))
  all_goals first | exact hjj
 ·obtain rfl:j=w:=by omega
  rw [putR_full]
  have ht:=takeM (f:=cu) (lowB_len (n:=K) (k:=j))
  have hb:=b2l (lowB K j)
  (try simp -implicitDefEqProofs (disch:=first|exact dd|fail)[Try.f150,ht,hb]);(repeat'((with_reducible first|(refine Br.out ?_ ?_<;>intro h<;>(try(have h0:=h;simp only[bH]at h)))|fail)<;>(try simp -implicitDefEqProofs (disch:=first|exact dd|fail)[Try.f150,ht,hb])))
theorem pow_facts2 {w:Nat} (h1:1≤w) (h6:w≤6):IntKind.i64.wrap (8 * (w:Int))=8 * w∧IntKind.i64.wrap (2 ^ min (8 * (w:Int)).toNat IntKind.i64.bits)=((256 ^ w:Nat):Int):=by
 have h:w=1∨w=2∨w=3∨w=4∨w=5∨w=6:=by omega
 rcases h with rfl | rfl | rfl | rfl | rfl | rfl<;>decide
set_option maxHeartbeats 4000000 in
set_option maxRecDepth 8000 in
theorem impl_PutNumber (k:Int) (w:Nat) (h1:1≤w) (h6:w≤6):Snd Try.prog 92 [.int .i64 k, .int .i64 w] (.str (putN k w)) [.unk, .unk]:=Runs.snd (M:=M) (c:=⟨2,[4,5,6,23,29],[],[]⟩) tok ks mixed Try.func92 (p := []) (by kernel_rfl) (by rfl) (by rfl) <| by
 obtain ⟨u2,u3⟩:=pow_facts2 h1 h6
 have g1:(1:Int)≤w:=by omega
 have g6:(w:Int)≤6:=by omega
 have g8:¬ 8 * (w:Int) < 0:=by omega
 have gp:(0:Int)≤w:=by omega
 obtain ⟨R,hR⟩:∃ R,R=putN k w:=⟨_,rfl⟩
 rw [←hR]
 unfold putN at hR
 (try simp -implicitDefEqProofs (disch:=first|exact dd|fail)[Try.f92,u2,u3,g1,g6,g8,gp]);(repeat'((with_reducible first|(refine Br.out ?_ ?_<;>intro h<;>(try(have h0:=h;simp only[bH]at h)))|fail)<;>(try simp -implicitDefEqProofs (disch:=first|exact dd|fail)[Try.f92,u2,u3,g1,g6,g8,gp])))
 ·rw [hR,if_neg (by omega)]
 ·rw [hR,if_neg (by omega)]
 obtain ⟨K,rfl⟩:=Int.eq_ofNat_of_zero_le (by omega:0≤k)
 have hR2:R=lowB K w:=by
  rw [hR,if_pos (by omega)]
  rfl
 subst hR2
 have hK:K < 281474976710656:=by
  have h3:256 ^ w≤256 ^ 6:=Nat.pow_le_pow_right (by decide) h6
  have h4:((256 ^ w:Nat):Int)=(256:Int) ^ w:=by simp
  omega
 refine AL_up (fun j=>w - j) (fun j => [(0, .int .i64 (K / 256 ^ j:Nat)),(6, .int .i64 ((w:Int) - 1 - j))]) (fun j => [(640, .row 1 ((putR K w j).map cu) [])]) (fun j=>j≤w) 0 (by simp [putR_zero]) (Nat.zero_le _) ?_
 intro j n hj ih
 rcases Nat.lt_or_ge j w with hlt | hge
 ·have hjj:=ih (j + 1) hlt (by omega)
  have hs:=putR_set (n:=K) hlt
  rw [←hs,Nat.pow_succ,←Nat.div_div_eq_div_mul] at hjj
  have hl:=putR_len (n:=K) (Nat.le_of_lt hlt)
  have hb:(((UInt8.ofNat (K / 256 ^ j)).toNat:Nat):Int)=((K / 256 ^ j:Nat):Int) % 256:=by simp
  have hD:K / 256 ^ j≤K:=Nat.div_le_self _ _
  generalize putR K w j=P at *
  generalize K / 256 ^ j=D at *
  have e1:((D / 256:Nat):Int)=(D:Int) / 256:=by omega
  have e0:IntKind.u8.wrap (D:Int)=(D:Int) % 256:=by simp [IntKind.wrap,IntKind.signed,IntKind.bits]
  have e5:(D:Int).fdiv (2 ^ min 8 IntKind.i64.bits)=(D:Int) / 256:=by
   rw [Int.fdiv_eq_ediv_of_nonneg _ (by decide)]
   rfl
  have e2:((w:Int) - 1 - ((j + 1:Nat):Int))=(w:Int) - 1 - j - 1:=by omega
  have e3:((w:Int) - 1 - j).toNat=w - 1 - j:=by omega
  simp only [List.map_set,cu,hb,e1,e2] at hjj
  (try simp -implicitDefEqProofs (disch:=first|exact dd|fail)[Try.f92,hl,e3,e0,e5]);(repeat'((with_reducible first|(refine Br.out ?_ ?_<;>intro h<;>(try(have h0:=h;simp only[bH]at h)))|fail)<;>(try simp -implicitDefEqProofs (disch:=first|exact dd|fail)[Try.f92,hl,e3,e0,e5])))
  all_goals first | exact hjj
 ·obtain rfl:j=w:=by omega
  rw [putR_full]
  have ht:=takeM (f:=cu) (lowB_len (n:=K) (k:=j))
  have hb:=b2l (lowB K j)
  (try simp -implicitDefEqProofs (disch:=first|exact dd|fail)[Try.f92,ht,hb]);(repeat'((with_reducible first|(refine Br.out ?_ ?_<;>intro h<;>(try(have h0:=h;simp only[bH]at h)))|fail)<;>(try simp -implicitDefEqProofs (disch:=first|exact dd|fail)[Try.f92,ht,hb])))
theorem rep1:∀ c:Nat,Lib.repeatL [0] c=List.replicate c (0:UInt8)
 | 0=>rfl
 | c + 1=>by rw [Lib.repeatL,rep1 c,List.replicate_succ];rfl
set_option maxHeartbeats 4000000 in
set_option maxRecDepth 8000 in
theorem impl_PadTo (s:Str) (k:Nat) (hk:k≤100000) (hl:s.length≤1048576):Snd Try.prog 23 [.str s, .int .i64 k] (.str (padTo s k)) [.unk, .unk]:=Runs.snd (M:=M) (c:=⟨2,[4,5,11],[],[]⟩) tok ks mixed Try.func23 (p := []) (by kernel_rfl) (by rfl) (by rfl) <| by
 have h1:¬ (100000:Int) < k:=by omega
 have hc:=strings_Repeat [0] (k - s.length) (by omega) (by decide)
 rw [rep1] at hc
 rcases Nat.lt_or_ge s.length k with h | h
 ·have h2:¬ ((k:Int)≤s.length):=by omega
  have e:((k - s.length:Nat):Int)=(k:Int) - s.length:=by omega
  rw [e] at hc
  have hle:s.length + (List.replicate (k - s.length) (0:UInt8)).length≤1073741824:=by simp;omega
  unfold padTo
  (try simp -implicitDefEqProofs (disch:=first|exact dd|fail)[Try.f23,h1,h2,hle]);(repeat'((with_reducible first|(refine Br.out ?_ ?_<;>intro h<;>(try(have h0:=h;simp only[bH]at h)))|refine AC_snd (hc) ?_|fail)<;>(try simp -implicitDefEqProofs (disch:=first|exact dd|fail)[Try.f23,h1,h2,hle])))
 ·have h2:((k:Int)≤s.length):=by omega
  have e:padTo s k=s:=by simp [padTo,Nat.sub_eq_zero_of_le h]
  rw [e]
  (try simp -implicitDefEqProofs (disch:=first|exact dd|fail)[Try.f23,h1,h2]);(repeat'((with_reducible first|(refine Br.out ?_ ?_<;>intro h<;>(try(have h0:=h;simp only[bH]at h)))|fail)<;>(try simp -implicitDefEqProofs (disch:=first|exact dd|fail)[Try.f23,h1,h2])))
end Go.Proofs.Ytfkkfhafijgdaaa
