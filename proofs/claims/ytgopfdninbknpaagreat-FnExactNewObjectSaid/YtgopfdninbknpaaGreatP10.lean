import Derived.Test.YtgopfdninbknpaaGreatP02
import Derived.Test.YtgopfdninbknpaaGreatMA
import Derived.Test.YtgopfdninbknpaaGreatP17
import Derived.Test.YtgopfdninbknpaaGreatP12
import Derived.Test.YtgopfdninbknpaaGreatBx
namespace Go.Proofs.YtgopfdninbknpaaGreat
open Go.Fw
set_option linter.unusedVariables false
set_option linter.unusedSimpArgs false
theorem nChunks_lt {s:Str} {n j:Nat} (h:1≤n):j < nChunks s n↔j * n < s.length:=by
 have h1:j + 1≤nChunks s n↔(j + 1) * n≤s.length + (n - 1):=Nat.le_div_iff_mul_le (by omega)
 rw [Nat.succ_mul] at h1
 omega
set_option maxHeartbeats 4000000 in
set_option maxRecDepth 8000 in
theorem impl_CutAll (s:Str) (n:Nat) (h1:1≤n) (h2:n≤1000) (hs:s.length≤1048576):Snd Tryz.prog 228 [.str s, .int .i64 n] (.row 1 ((cutN s n (nChunks s n)).map cs)) [.unk, .unk]:=Runs.snd (M:=M) (c:=⟨2,[4,5,6,12,16],[],[(1,[0,1,4,5,12,16])]⟩) tok ks mixed Tryz.func228 (p := []) (by kernel_rfl) (by rfl) (by rfl) <| by
 have g1:¬ (n:Int) < 1:=by omega
 have g2:¬ (1000:Int) < n:=by omega
 have hnc:nChunks s n≤s.length:=by
  unfold nChunks
  rw [Nat.div_le_iff_le_mul (by omega)]
  have:=Nat.mul_le_mul_right s.length h1
  rw [Nat.mul_comm n] at this
  omega
 obtain ⟨R,hR⟩:∃ R,R=nChunks s n:=⟨_,rfl⟩
 rw [←hR]
 (try simp -implicitDefEqProofs (disch:=first|exact dd|fail)[Tryz.f228,g1,g2]);(repeat'((with_reducible first|(refine Br.out ?_ ?_<;>intro h<;>(try(have h0:=h;simp only[bH]at h)))|fail)<;>(try simp -implicitDefEqProofs (disch:=first|exact dd|fail)[Tryz.f228,g1,g2])))
 refine AL_up (fun j=>R - j) (fun j => [(0, .str (s.drop (j * n))),(5, .ref 640 none 1 0 j (some false))]) (fun j => [(640, .row 1 ((cutN s n j).map cs) [])]) (fun j=>j≤R) 0 (by simp [cutN]) (Nat.zero_le _) ?_
 intro j m hj ih
 rcases Nat.lt_or_ge j R with hlt | hge
 ·have hlt2:=(nChunks_lt h1).1 (hR ▸ hlt)
  have hjj:=ih (j + 1) hlt (by omega)
  rw [cutN_succ,Nat.succ_mul,←List.drop_drop,chunk] at hjj
  have hl:=cutN_len (s:=s) (n:=n) (k:=j)
  have hSl:(s.drop (j * n)).length=s.length - j * n:=List.length_drop
  generalize cutN s n j=C at *
  generalize s.drop (j * n)=S at *
  have ht:=takeM (f:=cs) hl
  simp only [List.map_append,List.map_cons,List.map_nil,cs] at hjj
  by_cases hk:S.length < n
  ·have e1:S.take n=S:=List.take_of_length_le (by omega)
   have e2:S.drop n = []:=List.drop_of_length_le (by omega)
   rw [e1,e2] at hjj
   (try simp -implicitDefEqProofs (disch:=first|exact dd|fail)[Tryz.f228,hk,hl,ht]);(repeat'((with_reducible first|(refine Br.out ?_ ?_<;>intro h<;>(try(have h0:=h;simp only[bH]at h)))|fail)<;>(try simp -implicitDefEqProofs (disch:=first|exact dd|fail)[Tryz.f228,hk,hl,ht])))
   all_goals first | exact hjj
  ·have e3:(S.drop n).take (S.length - n)=S.drop n:=List.take_of_length_le (by simp)
   (try simp -implicitDefEqProofs (disch:=first|exact dd|fail)[Tryz.f228,hk,hl,ht,e3]);(repeat'((with_reducible first|(refine Br.out ?_ ?_<;>intro h<;>(try(have h0:=h;simp only[bH]at h)))|fail)<;>(try simp -implicitDefEqProofs (disch:=first|exact dd|fail)[Tryz.f228,hk,hl,ht,e3])))
   all_goals first | exact hjj
 ·obtain rfl:R=j:=by omega
  have hn2:¬ R * n < s.length:=fun h=>by have:=(nChunks_lt h1).2 h;omega
  have e:s.drop (R * n) = []:=List.drop_of_length_le (by omega)
  have hl:=cutN_len (s:=s) (n:=n) (k:=R)
  have ht:=takeM (f:=cs) hl
  rw [e]
  (try simp -implicitDefEqProofs (disch:=first|exact dd|fail)[Tryz.f228,hl,ht]);(repeat'((with_reducible first|(refine Br.out ?_ ?_<;>intro h<;>(try(have h0:=h;simp only[bH]at h)))|fail)<;>(try simp -implicitDefEqProofs (disch:=first|exact dd|fail)[Tryz.f228,hl,ht])))
set_option maxHeartbeats 4000000
set_option maxRecDepth 8000
theorem impl_record (e:DEntry) (hi : -1≤e.inode∧e.inode≤65535) (hl:e.name.length≤1048000):Snd Tryz.prog 168 [.agg (cEntry e)] (.str (recordOf e)) [.unk]:=Runs.snd (M:=M) (c:=⟨1,[1,2],[],[]⟩) tok ks mixed Tryz.func168 (p := []) (by kernel_rfl) (by rfl) (by rfl) <| by
 have c1:=impl_PutNumber (e.inode + 1) 2 (by decide) (by decide)
 have c2:=impl_PutNumber e.name.length 1 (by decide) (by decide)
 have l1:=putN_len (e.inode + 1) 2
 have l2:=putN_len e.name.length 1
 have c3:=impl_PadTo (putN (e.inode + 1) 2++putN e.name.length 1++e.name) 16 (by decide) (by simp only [List.length_append];omega)
 have h1:(putN (e.inode + 1) 2).length + (putN e.name.length 1).length≤1073741824:=by omega
 have h2:(putN (e.inode + 1) 2++putN e.name.length 1).length + e.name.length≤1073741824:=by simp only [List.length_append];omega
 unfold recordOf
 generalize putN (e.inode + 1) 2=A at *
 generalize putN e.name.length 1=B at *
 rw [List.append_assoc] at c3 ⊢
 (try simp -implicitDefEqProofs (disch:=first|exact dd|fail)[Tryz.f168,cEntry,h1,h2]);(repeat'((with_reducible first|(refine Br.out ?_ ?_<;>intro h<;>(try(have h0:=h;simp only[bH]at h)))|refine AC_snd (c1) ?_|refine AC_snd (c2) ?_|refine AC_snd (c3) ?_|fail)<;>(try simp -implicitDefEqProofs (disch:=first|exact dd|fail)[Tryz.f168,cEntry,h1,h2])))
theorem spec_l10Record (e:DEntry) (hi : -1≤e.inode∧e.inode≤65535) (hl:e.name.length≤1048000):Snd Tryz.prog 222 [.agg (cEntry e)] (.str (recordOf e)) [.unk]:=Runs.snd (M:=M) (c:=⟨1,[1,2],[],[]⟩) tok ks mixed Tryz.func222 (p := []) (by kernel_rfl) (by rfl) (by rfl) <| by
 have c1:=spec_PutNumber (e.inode + 1) 2 (by decide) (by decide)
 have c2:=spec_PutNumber e.name.length 1 (by decide) (by decide)
 have l1:=putN_len (e.inode + 1) 2
 have l2:=putN_len e.name.length 1
 have c3:=spec_PadTo (putN (e.inode + 1) 2++putN e.name.length 1++e.name) 16 (by decide) (by simp only [List.length_append];omega)
 have h1:(putN (e.inode + 1) 2).length + (putN e.name.length 1).length≤1073741824:=by omega
 have h2:(putN (e.inode + 1) 2++putN e.name.length 1).length + e.name.length≤1073741824:=by simp only [List.length_append];omega
 unfold recordOf
 generalize putN (e.inode + 1) 2=A at *
 generalize putN e.name.length 1=B at *
 rw [List.append_assoc] at c3 ⊢
 (try simp -implicitDefEqProofs (disch:=first|exact dd|fail)[Tryz.f222,cEntry,h1,h2]);(repeat'((with_reducible first|(refine Br.out ?_ ?_<;>intro h<;>(try(have h0:=h;simp only[bH]at h)))|refine AC_snd (c1) ?_|refine AC_snd (c2) ?_|refine AC_snd (c3) ?_|fail)<;>(try simp -implicitDefEqProofs (disch:=first|exact dd|fail)[Tryz.f222,cEntry,h1,h2])))
set_option maxHeartbeats 4000000
set_option maxRecDepth 8000
theorem content_le {f:DFS} {i:Int} (hf:IsFS f) (hi:0≤i∧i < 20):(contentN f.data (inodeAt f i)).length≤256:=by
 obtain ⟨k,rfl⟩:=Int.eq_ofNat_of_zero_le hi.1
 have hk:k < f.inodes.length:=by rw [hf.ni];omega
 rw [inodeAt_nat hk]
 have h:=contentN_size hf (List.getElem_mem hk)
 unfold contentN
 rw [List.length_take]
 omega
theorem entryOf_short {c:Str} (h:¬ c.length=16):entryOf c=none:=if_neg fun h'=>h h'.1
theorem entryOf_bad {c:Str} (h:¬ goodE c=true):entryOf c=none:=if_neg fun h'=>h h'.2
theorem entryOf_good {c:Str} (h:c.length=16) (hg:goodE c=true):entryOf c=some (entryAt c):=if_pos ⟨h,hg⟩
theorem getN02 {c:Str} (h:c.length=16):getN c 0 2=(getV (c.take 2),true):=by
 rw [getN,if_pos (by omega)]
 rfl
theorem impl_entries (n1 n2 n3:Option Bool) (f:DFS) (i:Int) (hf:IsFS f) (hi:0≤i∧i < 20):Snd Tryz.prog 163 [pFS n1 n2 n3 f, .int .i64 i] (.row 2 ((entriesI f i).map cEntry)) [.unk, .unk]:=Runs.snd (M:=M) (c:=⟨2,[4,5,7,8,10,15,16,17,18,29,62],[],[(1,[0,1,4,5,15,16,17,18,29,62])]⟩) tok ks mixed Tryz.func163 (p := []) (by kernel_rfl) (by rfl) (by rfl) <| by
 have hct:=fun a b c=>impl_content a b c f i hf hi
 have htl:=content_le hf hi
 unfold entriesI entriesL
 generalize contentN f.data (inodeAt f i)=t at *
 have hcu:=impl_CutAll t 16 (by decide) (by decide) (by omega)
 have hL:(cutN t 16 (nChunks t 16)).length=nChunks t 16:=cutN_len
 have hLj:∀ j (h:j < (cutN t 16 (nChunks t 16)).length),(cutN t 16 (nChunks t 16))[j]=chunk t 16 j:=fun j h=>cutN_get h
 have hR16:nChunks t 16≤16:=by unfold nChunks;omega
 generalize cutN t 16 (nChunks t 16)=L at *
 generalize nChunks t 16=R at *
 subst hL
 (try simp -implicitDefEqProofs (disch:=first|exact dd|fail)[Tryz.f163]);(repeat'((with_reducible first|(refine Br.out ?_ ?_<;>intro h<;>(try(have h0:=h;simp only[bH]at h)))|refine AC_snd (hct _ _ _) ?_|refine AC_snd (hcu) ?_|fail)<;>(try simp -implicitDefEqProofs (disch:=first|exact dd|fail)[Tryz.f163])))
 refine AL_fors (σ:=Unit) 17 L.length (fun j _ => [(5, .ref 640 none 2 0 (entriesT t j).length (some false))]) (fun j _ => [(640, .row 2 ((entriesT t j).map cEntry) [])]) (fun _ _=>True) () rfl trivial (fun j _ n hlt _ ih => ?_) (fun _ n _ => ?_)
 ·have hjj:=ih () trivial
  have hc:=hLj j hlt
  have hle:(chunk t 16 j).length≤16:=by rw [chunk_len];omega
  have hel:=entriesT_len (t:=t) (k:=j)
  have hb:chunk t 16 j=L[j]:=hc.symm
  rw [entriesT_succ,hb] at hjj
  rw [hb] at hle
  clear hb hc
  generalize hcx:L[j]=c at *
  generalize entriesT t j=E at *
  by_cases h16:c.length=16
  ·have hgn:=impl_GetNumber c 0 2 (by omega)
   rw [getN02 h16] at hgn
   have hV:=getV2 (s:=c) (a:=0)
   rw [List.drop_zero] at hV
   obtain ⟨b,hb⟩:∃ b,c[2]? = some b:=⟨_,List.getElem?_eq_getElem (by omega)⟩
   have hb2:c[2]=b:=by rw [List.getElem?_eq_getElem (by omega)] at hb;exact Option.some.inj hb
   have hbd:c.getD 2 0=b:=by rw [List.getD_eq_getElem?_getD,hb];rfl
   have hbl:=b.toNat_lt
   have hwb:IntKind.i64.wrap (b.toNat:Int)=b.toNat:=wrap64_in (by omega) (by omega)
   have e3:(3 + (b.toNat:Int) - 3).toNat=b.toNat:=by omega
   by_cases h12:b.toNat≤12
   ·have hea:entryAt c=⟨(c.drop 3).take b.toNat,getV (c.take 2) - 1⟩:=by rw [entryAt,hbd]
    have hnl:((c.drop 3).take b.toNat).length≤12:=by rw [List.length_take];omega
    have hname:=impl_IsEntryName ((c.drop 3).take b.toNat) (by omega)
    have hrec:=impl_record ⟨(c.drop 3).take b.toNat,getV (c.take 2) - 1⟩ (by simp only;omega) (by simp only;omega)
    simp only [cEntry] at hrec
    by_cases hg:goodE c=true
    ·rw [entryOf_good h16 hg,hea] at hjj
     dsimp only at hjj
     simp only [goodE,hea,hbd,Bool.and_eq_true,decide_eq_true_eq,←nameOk_eq] at hg
     obtain ⟨⟨⟨⟨-,g1⟩,g2⟩,g3⟩,g4⟩:=hg
     simp only [List.map_append,List.map_cons,List.map_nil,cEntry,List.length_append,List.length_cons,List.length_nil,Nat.zero_add] at hjj
     generalize getV (c.take 2)=V at *
     generalize hM:(c.drop 3).take b.toNat=M at *
     (try simp -implicitDefEqProofs (disch:=first|exact dd|fail)[Tryz.f163,hlt,hcx,h16,hb,hb2,hwb,e3,h12,hM,g1,g2,g3,g4,hel]);(repeat'((with_reducible first|(refine Br.out ?_ ?_<;>intro h<;>(try(have h0:=h;simp only[bH]at h)))|refine AC_snd (hgn) ?_|refine AC_snd (hname) ?_|refine AC_snd (hrec) ?_|fail)<;>(try simp -implicitDefEqProofs (disch:=first|exact dd|fail)[Tryz.f163,hlt,hcx,h16,hb,hb2,hwb,e3,h12,hM,g1,g2,g3,g4,hel])))
     all_goals first | exact hjj
    ·rw [entryOf_bad hg] at hjj
     dsimp only at hjj
     simp only [goodE,hea,hbd,Bool.and_eq_true,decide_eq_true_eq,←nameOk_eq] at hg
     generalize getV (c.take 2)=V at *
     generalize hM:(c.drop 3).take b.toNat=M at *
     (try simp -implicitDefEqProofs (disch:=first|exact dd|fail)[Tryz.f163,hlt,hcx,h16,hb,hb2,hwb,e3,h12,hM,hel]);(repeat'((with_reducible first|(refine Br.out ?_ ?_<;>intro h<;>(try(have h0:=h;simp only[bH]at h)))|refine AC_snd (hgn) ?_|refine AC_snd (hname) ?_|refine AC_snd (hrec) ?_|fail)<;>(try simp -implicitDefEqProofs (disch:=first|exact dd|fail)[Tryz.f163,hlt,hcx,h16,hb,hb2,hwb,e3,h12,hM,hel])))
     all_goals first | exact hjj | (exfalso;exact hg ⟨⟨⟨⟨h12,by omega⟩,by omega⟩,by assumption⟩,by assumption⟩)
   ·rw [entryOf_bad (fun h=>h12 (by simp only [goodE,Bool.and_eq_true,decide_eq_true_eq,hbd] at h;exact h.1.1.1.1))] at hjj
    dsimp only at hjj
    (try simp -implicitDefEqProofs (disch:=first|exact dd|fail)[Tryz.f163,hlt,hcx,h16,hb,hb2,hwb,h12]);(repeat'((with_reducible first|(refine Br.out ?_ ?_<;>intro h<;>(try(have h0:=h;simp only[bH]at h)))|fail)<;>(try simp -implicitDefEqProofs (disch:=first|exact dd|fail)[Tryz.f163,hlt,hcx,h16,hb,hb2,hwb,h12])))
    all_goals first | exact hjj
  ·rw [entryOf_short h16] at hjj
   dsimp only at hjj
   have h16':(c.length:Int) < 16:=by omega
   (try simp -implicitDefEqProofs (disch:=first|exact dd|fail)[Tryz.f163,hlt,hcx,h16']);(repeat'((with_reducible first|(refine Br.out ?_ ?_<;>intro h<;>(try(have h0:=h;simp only[bH]at h)))|fail)<;>(try simp -implicitDefEqProofs (disch:=first|exact dd|fail)[Tryz.f163,hlt,hcx,h16'])))
   all_goals first | exact hjj
 ·(try simp -implicitDefEqProofs (disch:=first|exact dd|fail)[Tryz.f163]);(repeat'((with_reducible first|(refine Br.out ?_ ?_<;>intro h<;>(try(have h0:=h;simp only[bH]at h)))|fail)<;>(try simp -implicitDefEqProofs (disch:=first|exact dd|fail)[Tryz.f163])))
set_option maxHeartbeats 4000000
set_option maxRecDepth 8000
theorem spec_l10Entries (n1 n2 n3:Option Bool) (f:DFS) (i:Int) (hf:IsFS f) (hi:0≤i∧i < 20):Snd Tryz.prog 176 [fFS n1 n2 n3 f, .int .i64 i] (.row 2 ((entriesI f i).map cEntry)) [.unk, .unk]:=Runs.snd (M:=M) (c:=⟨2,[2,4,5,6,7,8,10,11,24,44,68],[],[(1,[0,1,2,4,5,6,7,24,44,68])]⟩) tok ks mixed Tryz.func176 (p := []) (by kernel_rfl) (by rfl) (by rfl) <| by
 have htl:=content_le hf hi
 unfold entriesI
 rw [entriesL_full]
 obtain ⟨k,rfl⟩:=Int.eq_ofNat_of_zero_le hi.1
 have hlt:k < f.inodes.length:=by rw [hf.ni];omega
 have he:=inodeAt_nat hlt
 have hct:=fun a b c d e g=>spec_l09Text a b c d e g f f.inodes[k] hf (List.getElem_mem hlt)
 rw [he] at htl ⊢
 generalize contentN f.data f.inodes[k]=t at *
 (try simp -implicitDefEqProofs (disch:=first|exact dd|fail)[Tryz.f176,hlt,cInode]);(repeat'((with_reducible first|(refine Br.out ?_ ?_<;>intro h<;>(try(have h0:=h;simp only[bH]at h)))|refine AC_snd (hct _ _ _ _ _ _) ?_|fail)<;>(try simp -implicitDefEqProofs (disch:=first|exact dd|fail)[Tryz.f176,hlt,cInode])))
 clear hct he hlt
 refine AL_up (fun a=>272 - a) (fun a => [(5, .ref 640 none 2 0 (entriesT t (a / 16)).length (some false)),(7, .int .i64 (a:Nat))]) (fun a => [(640, .row 2 ((entriesT t (a / 16)).map cEntry) [])]) (fun a=>a % 16=0∧a / 16≤t.length / 16) 0 rfl ⟨rfl,Nat.zero_le _⟩ ?_
 rintro a n ⟨ha,hal⟩ ih
 by_cases hlt:a + 16≤t.length
 ·have hjj:=ih (a + 16) ⟨by omega,by omega⟩ (by omega)
  rw [show (a + 16) / 16=a / 16 + 1 by omega] at hjj
  have hcl:(chunk t 16 (a / 16)).length=16:=by rw [chunk_len];omega
  have hcd:chunk t 16 (a / 16)=(t.drop a).take 16:=by rw [chunk,show a / 16 * 16=a by omega]
  have hel:=entriesT_len (t:=t) (k:=a / 16)
  rw [entriesT_succ] at hjj
  have k1:(chunk t 16 (a / 16)).take 2=(t.drop a).take 2:=by rw [hcd,List.take_take];rfl
  have k2:(chunk t 16 (a / 16))[2]? = t[a + 2]?:=by rw [hcd,List.getElem?_take,if_pos (by omega),List.getElem?_drop]
  have k3:∀ m,m≤12→((chunk t 16 (a / 16)).drop 3).take m=(t.drop (a + 3)).take m:=fun m hm=>by
   rw [hcd,List.drop_take,List.drop_drop,List.take_take,Nat.min_eq_left (by omega)]
  generalize chunk t 16 (a / 16)=c at *
  generalize entriesT t (a / 16)=E at *
  have hgn:=spec_GetNumber t a 2 (by omega)
  rw [getN,if_pos (by omega)] at hgn
  simp only [Int.toNat_natCast,show (2:Int).toNat=2 from rfl] at hgn
  have hV:=getV2 (s:=c) (a:=0)
  rw [List.drop_zero,k1] at hV
  obtain ⟨b,hb⟩:∃ b,c[2]? = some b:=⟨_,List.getElem?_eq_getElem (by omega)⟩
  have hb2:t[a + 2]=b:=by rw [k2,List.getElem?_eq_getElem (by omega)] at hb;exact Option.some.inj hb
  have hbd:c.getD 2 0=b:=by rw [List.getD_eq_getElem?_getD,hb];rfl
  have hbl:=b.toNat_lt
  have hwb:IntKind.i64.wrap (b.toNat:Int)=b.toNat:=wrap64_in (by omega) (by omega)
  have e2:((a:Int) + 2).toNat=a + 2:=by omega
  have e3:((a:Int) + 3).toNat=a + 3:=by omega
  have e4:((a:Int) + 3 + b.toNat - (a + 3)).toNat=b.toNat:=by omega
  have e5:((a:Int) + 16 - a).toNat=16:=by omega
  rw [k2] at hb
  have hea:b.toNat≤12→entryAt c=⟨(t.drop (a + 3)).take b.toNat,getV ((t.drop a).take 2) - 1⟩:=fun h=>by rw [entryAt,hbd,k1,k3 _ h]
  by_cases h12:b.toNat≤12
  ·have hea:=hea h12
   have hnl:((t.drop (a + 3)).take b.toNat).length≤12:=by rw [List.length_take];omega
   have hname:=spec_IsEntryName ((t.drop (a + 3)).take b.toNat) (by omega)
   have hrec:=spec_l10Record ⟨(t.drop (a + 3)).take b.toNat,getV ((t.drop a).take 2) - 1⟩ (by simp only;omega) (by simp only;omega)
   simp only [cEntry] at hrec
   by_cases hg:goodE c=true
   ·rw [entryOf_good hcl hg,hea] at hjj
    dsimp only at hjj
    simp only [goodE,hea,hbd,Bool.and_eq_true,decide_eq_true_eq,←nameOk_eq] at hg
    obtain ⟨⟨⟨⟨-,g1⟩,g2⟩,g3⟩,g4⟩:=hg
    simp only [List.map_append,List.map_cons,List.map_nil,cEntry,List.length_append,List.length_cons,List.length_nil,Nat.zero_add] at hjj
    generalize hV0:getV ((t.drop a).take 2)=V at *
    generalize hM:(t.drop (a + 3)).take b.toNat=M at *
    (try simp -implicitDefEqProofs (disch:=first|exact dd|fail)[Tryz.f176,hlt,hb,hb2,hwb,e2,e3,e4,e5,h12,hM,hcd,g1,g2,g3,g4,hel]);(repeat'((with_reducible first|(refine Br.out ?_ ?_<;>intro h<;>(try(have h0:=h;simp only[bH]at h)))|refine AC_snd (spec_l01In _ _ _) ?_|refine AC_snd (hgn) ?_|refine AC_snd (hname) ?_|refine AC_snd (hrec) ?_|fail)<;>(try simp -implicitDefEqProofs (disch:=first|exact dd|fail)[Tryz.f176,hlt,hb,hb2,hwb,e2,e3,e4,e5,h12,hM,hcd,g1,g2,g3,g4,hel])))
    all_goals first | exact hjj | (exfalso;omega)
   ·rw [entryOf_bad hg] at hjj
    dsimp only at hjj
    simp only [goodE,hea,hbd,Bool.and_eq_true,decide_eq_true_eq,←nameOk_eq] at hg
    generalize hV0:getV ((t.drop a).take 2)=V at *
    generalize hM:(t.drop (a + 3)).take b.toNat=M at *
    (try simp -implicitDefEqProofs (disch:=first|exact dd|fail)[Tryz.f176,hlt,hb,hb2,hwb,e2,e3,e4,e5,h12,hM,hel]);(repeat'((with_reducible first|(refine Br.out ?_ ?_<;>intro h<;>(try(have h0:=h;simp only[bH]at h)))|refine AC_snd (spec_l01In _ _ _) ?_|refine AC_snd (hgn) ?_|refine AC_snd (hname) ?_|refine AC_snd (hrec) ?_|fail)<;>(try simp -implicitDefEqProofs (disch:=first|exact dd|fail)[Tryz.f176,hlt,hb,hb2,hwb,e2,e3,e4,e5,h12,hM,hel])))
    all_goals first | exact hjj | (exfalso;exact hg ⟨⟨⟨⟨h12,by omega⟩,by omega⟩,by assumption⟩,by rw [hcd];assumption⟩)
  ·rw [entryOf_bad (fun h=>h12 (by simp only [goodE,Bool.and_eq_true,decide_eq_true_eq,hbd] at h;exact h.1.1.1.1))] at hjj
   dsimp only at hjj
   (try simp -implicitDefEqProofs (disch:=first|exact dd|fail)[Tryz.f176,hlt,hb,hb2,hwb,e2,h12]);(repeat'((with_reducible first|(refine Br.out ?_ ?_<;>intro h<;>(try(have h0:=h;simp only[bH]at h)))|refine AC_snd (spec_l01In _ _ _) ?_|refine AC_snd (hgn) ?_|fail)<;>(try simp -implicitDefEqProofs (disch:=first|exact dd|fail)[Tryz.f176,hlt,hb,hb2,hwb,e2,h12])))
   all_goals first | exact hjj
 ·have e:a / 16=t.length / 16:=by omega
  rw [e]
  (try simp -implicitDefEqProofs (disch:=first|exact dd|fail)[Tryz.f176,hlt]);(repeat'((with_reducible first|(refine Br.out ?_ ?_<;>intro h<;>(try(have h0:=h;simp only[bH]at h)))|fail)<;>(try simp -implicitDefEqProofs (disch:=first|exact dd|fail)[Tryz.f176,hlt])))
set_option maxHeartbeats 4000000
set_option maxRecDepth 8000
theorem findE_at {E:List DEntry} {s:Str} {j:Nat} (h:j < E.length):findE (E.drop j) s=if E[j].name=s then (E[j].inode,true) else findE (E.drop (j + 1)) s:=by
 rw [List.drop_eq_getElem_cons h,findE]
theorem entriesL_le {t:Str} (h:t.length≤256):(entriesL t).length≤16:=by
 rw [entriesL_full]
 have:=entriesT_len (t:=t) (k:=t.length / 16)
 omega
theorem entriesI_le {f:DFS} {i:Int} (hf:IsFS f) (hi:0≤i∧i < 20):(entriesI f i).length≤16:=entriesL_le (content_le hf hi)
theorem impl_find (n1 n2 n3:Option Bool) (f:DFS) (i:Int) (s:Str) (hf:IsFS f) (hi:0≤i∧i < 20):Snd Tryz.prog 79 [pFS n1 n2 n3 f, .int .i64 i, .str s] (.tup [.int .i64 (findE (entriesI f i) s).1, .bool (findE (entriesI f i) s).2]) [.unk, .unk, .unk]:=Runs.snd (M:=M) (c:=⟨3,[6,7,9,12,13,14,15,21],[],[(1,[0,1,2,6,7,12,13,14,15,21])]⟩) tok ks mixed Tryz.func79 (p := []) (by kernel_rfl) (by rfl) (by rfl) <| by
 have hec:=fun a b c=>impl_entries a b c f i hf hi
 have hel:=entriesI_le hf hi
 generalize entriesI f i=E at *
 obtain ⟨R,hR⟩:∃ R,R=findE E s:=⟨_,rfl⟩
 rw [←hR]
 (try simp -implicitDefEqProofs (disch:=first|exact dd|fail)[Tryz.f79]);(repeat'((with_reducible first|(refine Br.out ?_ ?_<;>intro h<;>(try(have h0:=h;simp only[bH]at h)))|refine AC_snd (hec _ _ _) ?_|fail)<;>(try simp -implicitDefEqProofs (disch:=first|exact dd|fail)[Tryz.f79])))
 refine AL_for 14 E.length (fun j=>R=findE (E.drop j) s) rfl hR (fun j n hlt he ih => ?_) (fun n he => ?_)
 ·rw [findE_at hlt] at he
  by_cases hs:E[j].name=s
  ·rw [if_pos hs] at he
   (try simp -implicitDefEqProofs (disch:=first|exact dd|fail)[Tryz.f79,hlt,hs,he,cEntry]);(repeat'((with_reducible first|(refine Br.out ?_ ?_<;>intro h<;>(try(have h0:=h;simp only[bH]at h)))|fail)<;>(try simp -implicitDefEqProofs (disch:=first|exact dd|fail)[Tryz.f79,hlt,hs,he,cEntry])))
  ·rw [if_neg hs] at he
   have hj:=ih he
   (try simp -implicitDefEqProofs (disch:=first|exact dd|fail)[Tryz.f79,hlt,hs,cEntry]);(repeat'((with_reducible first|(refine Br.out ?_ ?_<;>intro h<;>(try(have h0:=h;simp only[bH]at h)))|fail)<;>(try simp -implicitDefEqProofs (disch:=first|exact dd|fail)[Tryz.f79,hlt,hs,cEntry])))
   all_goals first | exact hj
 ·rw [List.drop_length] at he
  (try simp -implicitDefEqProofs (disch:=first|exact dd|fail)[Tryz.f79,he,findE]);(repeat'((with_reducible first|(refine Br.out ?_ ?_<;>intro h<;>(try(have h0:=h;simp only[bH]at h)))|fail)<;>(try simp -implicitDefEqProofs (disch:=first|exact dd|fail)[Tryz.f79,he,findE])))
theorem spec_l10Find (n1 n2 n3:Option Bool) (f:DFS) (i:Int) (s:Str) (hf:IsFS f) (hi:0≤i∧i < 20):Snd Tryz.prog 98 [fFS n1 n2 n3 f, .int .i64 i, .str s] (.tup [.int .i64 (findE (entriesI f i) s).1, .bool (findE (entriesI f i) s).2]) [.unk, .unk, .unk]:=Runs.snd (M:=M) (c:=⟨3,[3,6,7,9,12,13,14,15,21],[],[(1,[0,1,2,3,6,7,12,13,14,15,21])]⟩) tok ks mixed Tryz.func98 (p := []) (by kernel_rfl) (by rfl) (by rfl) <| by
 have hec:=fun a b c=>spec_l10Entries a b c f i hf hi
 have hel:=entriesI_le hf hi
 generalize entriesI f i=E at *
 obtain ⟨R,hR⟩:∃ R,R=findE E s:=⟨_,rfl⟩
 rw [←hR]
 (try simp -implicitDefEqProofs (disch:=first|exact dd|fail)[Tryz.f98]);(repeat'((with_reducible first|(refine Br.out ?_ ?_<;>intro h<;>(try(have h0:=h;simp only[bH]at h)))|refine AC_snd (hec _ _ _) ?_|fail)<;>(try simp -implicitDefEqProofs (disch:=first|exact dd|fail)[Tryz.f98])))
 refine AL_for 14 E.length (fun j=>R=findE (E.drop j) s) rfl hR (fun j n hlt he ih => ?_) (fun n he => ?_)
 ·rw [findE_at hlt] at he
  by_cases hs:E[j].name=s
  ·rw [if_pos hs] at he
   (try simp -implicitDefEqProofs (disch:=first|exact dd|fail)[Tryz.f98,hlt,hs,he,cEntry]);(repeat'((with_reducible first|(refine Br.out ?_ ?_<;>intro h<;>(try(have h0:=h;simp only[bH]at h)))|fail)<;>(try simp -implicitDefEqProofs (disch:=first|exact dd|fail)[Tryz.f98,hlt,hs,he,cEntry])))
  ·rw [if_neg hs] at he
   have hj:=ih he
   (try simp -implicitDefEqProofs (disch:=first|exact dd|fail)[Tryz.f98,hlt,hs,cEntry]);(repeat'((with_reducible first|(refine Br.out ?_ ?_<;>intro h<;>(try(have h0:=h;simp only[bH]at h)))|fail)<;>(try simp -implicitDefEqProofs (disch:=first|exact dd|fail)[Tryz.f98,hlt,hs,cEntry])))
   all_goals first | exact hj
 ·rw [List.drop_length] at he
  (try simp -implicitDefEqProofs (disch:=first|exact dd|fail)[Tryz.f98,he,findE]);(repeat'((with_reducible first|(refine Br.out ?_ ?_<;>intro h<;>(try(have h0:=h;simp only[bH]at h)))|fail)<;>(try simp -implicitDefEqProofs (disch:=first|exact dd|fail)[Tryz.f98,he,findE])))
def firstE (i:Int):List DEntry→Option Str
 | []=>none
 | e :: l=>if e.inode=i then some e.name else firstE i l
theorem firstE_at {E:List DEntry} {i:Int} {j:Nat} (h:j < E.length):firstE i (E.drop j)=if E[j].inode=i then some E[j].name else firstE i (E.drop (j + 1)):=by
 rw [List.drop_eq_getElem_cons h,firstE]
noncomputable def parentL (f:DFS) (i:Int):List Nat→Int × Str × Bool
 | []=>(0,[],false)
 | d :: l=>if isDirI f d then (match firstE i (entriesI f d) with | some s=>(d,s,true) | none=>parentL f i l) else parentL f i l
noncomputable def parentI (f:DFS) (i:Int):Int × Str × Bool:=parentL f i (List.range 20)
theorem range_at {k n:Nat} (h:k < n):(List.range n).drop k=k :: (List.range n).drop (k + 1):=by
 rw [List.drop_eq_getElem_cons (by simpa using h),List.getElem_range]
theorem impl_parent (n1 n2 n3:Option Bool) (f:DFS) (i:Int) (hf:IsFS f):Snd Tryz.prog 247 [pFS n1 n2 n3 f, .int .i64 i] (.tup [.int .i64 (parentI f i).1, .str (parentI f i).2.1, .bool (parentI f i).2.2]) [.unk, .unk]:=Runs.snd (M:=M) (c:=⟨2,[4,5,6,7,9,10,11,16,19,20,21,22,28],[],[(1,[0,1,4,5,6,10,11,16,22,28]),(2,[0,1,4,5,6,7,10,11,16,19,20,21,22,28]),(3,[0,1,4,5,6,7,10,11,16,19,20,21,22,28])]⟩) tok ks mixed Tryz.func247 (p := []) (by kernel_rfl) (by rfl) (by rfl) <| by
 obtain ⟨R,hR⟩:∃ R,R=parentI f i:=⟨_,rfl⟩
 rw [←hR]
 unfold parentI at hR
 (try simp -implicitDefEqProofs (disch:=first|exact dd|fail)[Tryz.f247]);(repeat'((with_reducible first|(refine Br.out ?_ ?_<;>intro h<;>(try(have h0:=h;simp only[bH]at h)))|fail)<;>(try simp -implicitDefEqProofs (disch:=first|exact dd|fail)[Tryz.f247])))
 refine AL_for 10 20 (fun k=>R=parentL f i ((List.range 20).drop k)) rfl hR (fun k n hk he ih => ?_) (fun n he => ?_)
 ·rw [range_at hk,parentL] at he
  have hdc:=fun a b c=>impl_isDir a b c f k hf.ni
  have hec:=fun a b c=>impl_entries a b c f k hf (by omega)
  have hel:=entriesI_le (i:=k) hf (by omega)
  generalize entriesI f k=E at *
  by_cases hd:isDirI f k=true
  ·rw [if_pos hd] at he
   (try simp -implicitDefEqProofs (disch:=first|exact dd|fail)[Tryz.f247,hk,hd]);(repeat'((with_reducible first|(refine Br.out ?_ ?_<;>intro h<;>(try(have h0:=h;simp only[bH]at h)))|refine AC_snd (hdc _ _ _) ?_|refine AC_snd (hec _ _ _) ?_|fail)<;>(try simp -implicitDefEqProofs (disch:=first|exact dd|fail)[Tryz.f247,hk,hd])))
   refine AL_for 21 E.length (fun j=>firstE i E=firstE i (E.drop j)) rfl rfl (fun j m hlt hE jh => ?_) (fun m hE => ?_)
   ·rw [firstE_at hlt] at hE
    by_cases hs:E[j].inode=i
    ·rw [if_pos hs] at hE
     rw [hE] at he
     (try simp -implicitDefEqProofs (disch:=first|exact dd|fail)[Tryz.f247,hlt,hs,he,cEntry]);(repeat'((with_reducible first|(refine Br.out ?_ ?_<;>intro h<;>(try(have h0:=h;simp only[bH]at h)))|fail)<;>(try simp -implicitDefEqProofs (disch:=first|exact dd|fail)[Tryz.f247,hlt,hs,he,cEntry])))
    ·rw [if_neg hs] at hE
     have hj:=jh hE
     (try simp -implicitDefEqProofs (disch:=first|exact dd|fail)[Tryz.f247,hlt,hs,cEntry]);(repeat'((with_reducible first|(refine Br.out ?_ ?_<;>intro h<;>(try(have h0:=h;simp only[bH]at h)))|fail)<;>(try simp -implicitDefEqProofs (disch:=first|exact dd|fail)[Tryz.f247,hlt,hs,cEntry])))
     all_goals first | exact hj
   ·rw [List.drop_length,firstE] at hE
    rw [hE] at he
    have hj:=ih he
    (try simp -implicitDefEqProofs (disch:=first|exact dd|fail)[Tryz.f247]);(repeat'((with_reducible first|(refine Br.out ?_ ?_<;>intro h<;>(try(have h0:=h;simp only[bH]at h)))|fail)<;>(try simp -implicitDefEqProofs (disch:=first|exact dd|fail)[Tryz.f247])))
    all_goals first | exact hj
  ·have hd':isDirI f k=false:=by simpa using hd
   rw [if_neg hd] at he
   have hj:=ih he
   (try simp -implicitDefEqProofs (disch:=first|exact dd|fail)[Tryz.f247,hk,hd']);(repeat'((with_reducible first|(refine Br.out ?_ ?_<;>intro h<;>(try(have h0:=h;simp only[bH]at h)))|refine AC_snd (hdc _ _ _) ?_|fail)<;>(try simp -implicitDefEqProofs (disch:=first|exact dd|fail)[Tryz.f247,hk,hd'])))
   all_goals first | exact hj
 ·rw [List.drop_of_length_le (by simp),parentL] at he
  (try simp -implicitDefEqProofs (disch:=first|exact dd|fail)[Tryz.f247,he]);(repeat'((with_reducible first|(refine Br.out ?_ ?_<;>intro h<;>(try(have h0:=h;simp only[bH]at h)))|fail)<;>(try simp -implicitDefEqProofs (disch:=first|exact dd|fail)[Tryz.f247,he])))
set_option maxHeartbeats 4000000
set_option maxRecDepth 8000
theorem isDirI_kind {f:DFS} {k:Nat} (h:k < 20):isDirI f k=decide ((inodeAt f k).kind=2):=by
 unfold isDirI hasI
 by_cases hk:(inodeAt f k).kind=2
 ·simp [hk];omega
 ·simp [hk]
theorem spec_l10Parent (n1 n2 n3:Option Bool) (f:DFS) (i:Int) (hf:IsFS f):Snd Tryz.prog 183 [fFS n1 n2 n3 f, .int .i64 i] (.tup [.int .i64 (parentI f i).1, .str (parentI f i).2.1, .bool (parentI f i).2.2]) [.unk, .unk]:=Runs.snd (M:=M) (c:=⟨2,[2,4,5,6,7,8,10,12,13,14,15,21,24,25,26,27,33],[],[(1,[0,1,2,4,5,6,12,13,14,15,21,27,33]),(2,[0,1,2,4,5,6,7,8,12,13,14,15,21,24,25,26,27,33]),(3,[0,1,2,4,5,6,7,8,12,13,14,15,21,24,25,26,27,33])]⟩) tok ks mixed Tryz.func183 (p := []) (by kernel_rfl) (by rfl) (by rfl) <| by
 obtain ⟨R,hR⟩:∃ R,R=parentI f i:=⟨_,rfl⟩
 rw [←hR]
 unfold parentI at hR
 have hni:=hf.ni
 (try simp -implicitDefEqProofs (disch:=first|exact dd|fail)[Tryz.f183]);(repeat'((with_reducible first|(refine Br.out ?_ ?_<;>intro h<;>(try(have h0:=h;simp only[bH]at h)))|fail)<;>(try simp -implicitDefEqProofs (disch:=first|exact dd|fail)[Tryz.f183])))
 refine AL_for 14 f.inodes.length (fun k=>R=parentL f i ((List.range 20).drop k)) rfl hR (fun k n hk he ih => ?_) (fun n he => ?_)
 ·have hk2:k < 20:=by omega
  rw [range_at hk2,parentL,isDirI_kind hk2,inodeAt_nat hk] at he
  have hec:=fun a b c=>spec_l10Entries a b c f k hf (by omega)
  have hel:=entriesI_le (i:=k) hf (by omega)
  generalize entriesI f k=E at *
  by_cases hd:f.inodes[k].kind=2
  ·rw [if_pos (by simpa using hd)] at he
   (try simp -implicitDefEqProofs (disch:=first|exact dd|fail)[Tryz.f183,hk,hd,cInode]);(repeat'((with_reducible first|(refine Br.out ?_ ?_<;>intro h<;>(try(have h0:=h;simp only[bH]at h)))|refine AC_snd (hec _ _ _) ?_|fail)<;>(try simp -implicitDefEqProofs (disch:=first|exact dd|fail)[Tryz.f183,hk,hd,cInode])))
   refine AL_for 26 E.length (fun j=>firstE i E=firstE i (E.drop j)) rfl rfl (fun j m hlt hE jh => ?_) (fun m hE => ?_)
   ·rw [firstE_at hlt] at hE
    by_cases hs:E[j].inode=i
    ·rw [if_pos hs] at hE
     rw [hE] at he
     (try simp -implicitDefEqProofs (disch:=first|exact dd|fail)[Tryz.f183,hlt,hs,he,cEntry]);(repeat'((with_reducible first|(refine Br.out ?_ ?_<;>intro h<;>(try(have h0:=h;simp only[bH]at h)))|fail)<;>(try simp -implicitDefEqProofs (disch:=first|exact dd|fail)[Tryz.f183,hlt,hs,he,cEntry])))
    ·rw [if_neg hs] at hE
     have hj:=jh hE
     (try simp -implicitDefEqProofs (disch:=first|exact dd|fail)[Tryz.f183,hlt,hs,cEntry]);(repeat'((with_reducible first|(refine Br.out ?_ ?_<;>intro h<;>(try(have h0:=h;simp only[bH]at h)))|fail)<;>(try simp -implicitDefEqProofs (disch:=first|exact dd|fail)[Tryz.f183,hlt,hs,cEntry])))
     all_goals first | exact hj
   ·rw [List.drop_length,firstE] at hE
    rw [hE] at he
    have hj:=ih he
    (try simp -implicitDefEqProofs (disch:=first|exact dd|fail)[Tryz.f183]);(repeat'((with_reducible first|(refine Br.out ?_ ?_<;>intro h<;>(try(have h0:=h;simp only[bH]at h)))|fail)<;>(try simp -implicitDefEqProofs (disch:=first|exact dd|fail)[Tryz.f183])))
    all_goals first | exact hj
  ·rw [if_neg (by simpa using hd)] at he
   have hj:=ih he
   (try simp -implicitDefEqProofs (disch:=first|exact dd|fail)[Tryz.f183,hk,hd,cInode]);(repeat'((with_reducible first|(refine Br.out ?_ ?_<;>intro h<;>(try(have h0:=h;simp only[bH]at h)))|fail)<;>(try simp -implicitDefEqProofs (disch:=first|exact dd|fail)[Tryz.f183,hk,hd,cInode])))
   all_goals first | exact hj
 ·rw [List.drop_of_length_le (by simp;omega),parentL] at he
  (try simp -implicitDefEqProofs (disch:=first|exact dd|fail)[Tryz.f183,he]);(repeat'((with_reducible first|(refine Br.out ?_ ?_<;>intro h<;>(try(have h0:=h;simp only[bH]at h)))|fail)<;>(try simp -implicitDefEqProofs (disch:=first|exact dd|fail)[Tryz.f183,he])))
def cntE (i:Int) (E:List DEntry):Nat:=(E.filter (fun e=>decide (e.inode=i))).length
noncomputable def linksN (f:DFS) (i:Int):Nat→Nat
 | 0=>0
 | k + 1=>linksN f i k + if isDirI f k then cntE i (entriesI f k) else 0
noncomputable def linksI (f:DFS) (i:Int):Nat:=linksN f i 20
end Go.Proofs.YtgopfdninbknpaaGreat
