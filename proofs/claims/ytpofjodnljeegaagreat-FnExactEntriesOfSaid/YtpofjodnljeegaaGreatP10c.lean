import Derived.Test.YtpofjodnljeegaaGreatP10b
import Derived.Test.YtpofjodnljeegaaGreatP17b
import Derived.Test.YtpofjodnljeegaaGreatP09a
import Derived.Test.YtpofjodnljeegaaGreatP02c
namespace Go.Proofs.YtpofjodnljeegaaGreat
open Go.Fw
set_option linter.unusedVariables false
set_option linter.unusedSimpArgs false
set_option maxHeartbeats 4000000
set_option maxRecDepth 8000
theorem content_le {f : DFS} {i : Int} (hf : IsFS f) (hi : 0 ≤ i ∧ i < 20) : (contentN f.data (inodeAt f i)).length ≤ 256 := by
 obtain ⟨k, rfl⟩ := Int.eq_ofNat_of_zero_le hi.1
 have hk : k < f.inodes.length := by rw [hf.ni]; omega
 rw [inodeAt_nat hk]
 have h := contentN_size hf (List.getElem_mem hk)
 unfold contentN
 rw [List.length_take]
 omega
theorem entryOf_short {c : Str} (h : ¬ c.length = 16) : entryOf c = none := if_neg fun h' => h h'.1
theorem entryOf_bad {c : Str} (h : ¬ goodE c = true) : entryOf c = none := if_neg fun h' => h h'.2
theorem entryOf_good {c : Str} (h : c.length = 16) (hg : goodE c = true) : entryOf c = some (entryAt c) := if_pos ⟨h, hg⟩
theorem getN02 {c : Str} (h : c.length = 16) : getN c 0 2 = (getV (c.take 2), true) := by
 rw [getN, if_pos (by omega)]
 rfl
theorem impl_entries (n1 n2 n3 : Option Bool) (f : DFS) (i : Int) (hf : IsFS f) (hi : 0 ≤ i ∧ i < 20) : Snd Tryz.prog 41 [pFS n1 n2 n3 f, .int .i64 i] (.row 2 ((entriesI f i).map cEntry)) [.unk, .unk] := Runs.snd (M := M) (c := ⟨2, [4, 5, 7, 8, 10, 15, 16, 17, 18, 29, 62], [], [(1, [0, 1, 4, 5, 15, 16, 17, 18, 29, 62])]⟩) tok ks mixed Tryz.func41 (p := []) (by kernel_rfl) (by rfl) (by rfl) <| by
 have hct := fun a b c => impl_content a b c f i hf hi
 have htl := content_le hf hi
 unfold entriesI entriesL
 generalize contentN f.data (inodeAt f i) = t at *
 have hcu := impl_CutAll t 16 (by decide) (by decide) (by omega)
 have hL : (cutN t 16 (nChunks t 16)).length = nChunks t 16 := cutN_len
 have hLj : ∀ j (h : j < (cutN t 16 (nChunks t 16)).length), (cutN t 16 (nChunks t 16))[j] = chunk t 16 j := fun j h => cutN_get h
 have hR16 : nChunks t 16 ≤ 16 := by unfold nChunks; omega
 generalize cutN t 16 (nChunks t 16) = L at *
 generalize nChunks t 16 = R at *
 subst hL
 (try simp -implicitDefEqProofs (disch := first | exact dd | fail) [Tryz.f41]); (repeat' ((with_reducible first | (refine Br.out ?_ ?_ <;> intro h <;> (try (have h0 := h; simp only [bH] at h))) | refine AC_snd (hct _ _ _) ?_ | refine AC_snd (hcu) ?_ | fail) <;> (try simp -implicitDefEqProofs (disch := first | exact dd | fail) [Tryz.f41])))
 refine AL_fors (σ := Unit) 17 L.length (fun j _ => [(5, .ref 640 none 2 0 (entriesT t j).length (some false))]) (fun j _ => [(640, .row 2 ((entriesT t j).map cEntry) [])]) (fun _ _ => True) () rfl trivial (fun j _ n hlt _ ih => ?_) (fun _ n _ => ?_)
 ·have hjj := ih () trivial
  have hc := hLj j hlt
  have hle : (chunk t 16 j).length ≤ 16 := by rw [chunk_len]; omega
  have hel := entriesT_len (t := t) (k := j)
  have hb : chunk t 16 j = L[j] := hc.symm
  rw [entriesT_succ, hb] at hjj
  rw [hb] at hle
  clear hb hc
  generalize hcx : L[j] = c at *
  generalize entriesT t j = E at *
  by_cases h16 : c.length = 16
  ·have hgn := impl_GetNumber c 0 2 (by omega)
   rw [getN02 h16] at hgn
   have hV := getV2 (s := c) (a := 0)
   rw [List.drop_zero] at hV
   obtain ⟨b, hb⟩ : ∃ b, c[2]? = some b := ⟨_, List.getElem?_eq_getElem (by omega)⟩
   have hb2 : c[2] = b := by rw [List.getElem?_eq_getElem (by omega)] at hb; exact Option.some.inj hb
   have hbd : c.getD 2 0 = b := by rw [List.getD_eq_getElem?_getD, hb]; rfl
   have hbl := b.toNat_lt
   have hwb : IntKind.i64.wrap (b.toNat : Int) = b.toNat := wrap64_in (by omega) (by omega)
   have e3 : (3 + (b.toNat : Int) - 3).toNat = b.toNat := by omega
   by_cases h12 : b.toNat ≤ 12
   ·have hea : entryAt c = ⟨(c.drop 3).take b.toNat, getV (c.take 2) - 1⟩ := by rw [entryAt, hbd]
    have hnl : ((c.drop 3).take b.toNat).length ≤ 12 := by rw [List.length_take]; omega
    have hname := impl_IsEntryName ((c.drop 3).take b.toNat) (by omega)
    have hrec := impl_record ⟨(c.drop 3).take b.toNat, getV (c.take 2) - 1⟩ (by simp only; omega) (by simp only; omega)
    simp only [cEntry] at hrec
    by_cases hg : goodE c = true
    ·rw [entryOf_good h16 hg, hea] at hjj
     dsimp only at hjj
     simp only [goodE, hea, hbd, Bool.and_eq_true, decide_eq_true_eq, ← nameOk_eq] at hg
     obtain ⟨⟨⟨⟨-, g1⟩, g2⟩, g3⟩, g4⟩ := hg
     simp only [List.map_append, List.map_cons, List.map_nil, cEntry, List.length_append, List.length_cons, List.length_nil, Nat.zero_add] at hjj
     generalize getV (c.take 2) = V at *
     generalize hM : (c.drop 3).take b.toNat = M at *
     (try simp -implicitDefEqProofs (disch := first | exact dd | fail) [Tryz.f41, hlt, hcx, h16, hb, hb2, hwb, e3, h12, hM, g1, g2, g3, g4, hel]); (repeat' ((with_reducible first | (refine Br.out ?_ ?_ <;> intro h <;> (try (have h0 := h; simp only [bH] at h))) | refine AC_snd (hgn) ?_ | refine AC_snd (hname) ?_ | refine AC_snd (hrec) ?_ | fail) <;> (try simp -implicitDefEqProofs (disch := first | exact dd | fail) [Tryz.f41, hlt, hcx, h16, hb, hb2, hwb, e3, h12, hM, g1, g2, g3, g4, hel])))
     all_goals first | exact hjj
    ·rw [entryOf_bad hg] at hjj
     dsimp only at hjj
     simp only [goodE, hea, hbd, Bool.and_eq_true, decide_eq_true_eq, ← nameOk_eq] at hg
     generalize getV (c.take 2) = V at *
     generalize hM : (c.drop 3).take b.toNat = M at *
     (try simp -implicitDefEqProofs (disch := first | exact dd | fail) [Tryz.f41, hlt, hcx, h16, hb, hb2, hwb, e3, h12, hM, hel]); (repeat' ((with_reducible first | (refine Br.out ?_ ?_ <;> intro h <;> (try (have h0 := h; simp only [bH] at h))) | refine AC_snd (hgn) ?_ | refine AC_snd (hname) ?_ | refine AC_snd (hrec) ?_ | fail) <;> (try simp -implicitDefEqProofs (disch := first | exact dd | fail) [Tryz.f41, hlt, hcx, h16, hb, hb2, hwb, e3, h12, hM, hel])))
     all_goals first | exact hjj | (exfalso; exact hg ⟨⟨⟨⟨h12, by omega⟩, by omega⟩, by assumption⟩, by assumption⟩)
   ·rw [entryOf_bad (fun h => h12 (by simp only [goodE, Bool.and_eq_true, decide_eq_true_eq, hbd] at h; exact h.1.1.1.1))] at hjj
    dsimp only at hjj
    (try simp -implicitDefEqProofs (disch := first | exact dd | fail) [Tryz.f41, hlt, hcx, h16, hb, hb2, hwb, h12]); (repeat' ((with_reducible first | (refine Br.out ?_ ?_ <;> intro h <;> (try (have h0 := h; simp only [bH] at h))) | fail) <;> (try simp -implicitDefEqProofs (disch := first | exact dd | fail) [Tryz.f41, hlt, hcx, h16, hb, hb2, hwb, h12])))
    all_goals first | exact hjj
  ·rw [entryOf_short h16] at hjj
   dsimp only at hjj
   have h16' : (c.length : Int) < 16 := by omega
   (try simp -implicitDefEqProofs (disch := first | exact dd | fail) [Tryz.f41, hlt, hcx, h16']); (repeat' ((with_reducible first | (refine Br.out ?_ ?_ <;> intro h <;> (try (have h0 := h; simp only [bH] at h))) | fail) <;> (try simp -implicitDefEqProofs (disch := first | exact dd | fail) [Tryz.f41, hlt, hcx, h16'])))
   all_goals first | exact hjj
 ·(try simp -implicitDefEqProofs (disch := first | exact dd | fail) [Tryz.f41]); (repeat' ((with_reducible first | (refine Br.out ?_ ?_ <;> intro h <;> (try (have h0 := h; simp only [bH] at h))) | fail) <;> (try simp -implicitDefEqProofs (disch := first | exact dd | fail) [Tryz.f41])))
end Go.Proofs.YtpofjodnljeegaaGreat
