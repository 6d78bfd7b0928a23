import Derived.Test.YtpofjodnljeegaaGreatP10c
namespace Go.Proofs.YtpofjodnljeegaaGreat
open Go.Fw
set_option linter.unusedVariables false
set_option linter.unusedSimpArgs false
set_option maxHeartbeats 4000000
set_option maxRecDepth 8000
theorem spec_l10Entries (n1 n2 n3 : Option Bool) (f : DFS) (i : Int) (hf : IsFS f) (hi : 0 ≤ i ∧ i < 20) : Snd Tryz.prog 26 [fFS n1 n2 n3 f, .int .i64 i] (.row 2 ((entriesI f i).map cEntry)) [.unk, .unk] := Runs.snd (M := M) (c := ⟨2, [2, 4, 5, 6, 7, 8, 10, 11, 24, 44, 68], [], [(1, [0, 1, 2, 4, 5, 6, 7, 24, 44, 68])]⟩) tok ks mixed Tryz.func26 (p := []) (by kernel_rfl) (by rfl) (by rfl) <| by
 have htl := content_le hf hi
 unfold entriesI
 rw [entriesL_full]
 obtain ⟨k, rfl⟩ := Int.eq_ofNat_of_zero_le hi.1
 have hlt : k < f.inodes.length := by rw [hf.ni]; omega
 have he := inodeAt_nat hlt
 have hct := fun a b c d e g => spec_l09Text a b c d e g f f.inodes[k] hf (List.getElem_mem hlt)
 rw [he] at htl ⊢
 generalize contentN f.data f.inodes[k] = t at *
 (try simp -implicitDefEqProofs (disch := first | exact dd | fail) [Tryz.f26, hlt, cInode]); (repeat' ((with_reducible first | (refine Br.out ?_ ?_ <;> intro h <;> (try (have h0 := h; simp only [bH] at h))) | refine AC_snd (hct _ _ _ _ _ _) ?_ | fail) <;> (try simp -implicitDefEqProofs (disch := first | exact dd | fail) [Tryz.f26, hlt, cInode])))
 clear hct he hlt
 refine AL_up (fun a => 272 - a) (fun a => [(5, .ref 640 none 2 0 (entriesT t (a / 16)).length (some false)), (7, .int .i64 (a : Nat))]) (fun a => [(640, .row 2 ((entriesT t (a / 16)).map cEntry) [])]) (fun a => a % 16 = 0 ∧ a / 16 ≤ t.length / 16) 0 rfl ⟨rfl, Nat.zero_le _⟩ ?_
 rintro a n ⟨ha, hal⟩ ih
 by_cases hlt : a + 16 ≤ t.length
 ·have hjj := ih (a + 16) ⟨by omega, by omega⟩ (by omega)
  rw [show (a + 16) / 16 = a / 16 + 1 by omega] at hjj
  have hcl : (chunk t 16 (a / 16)).length = 16 := by rw [chunk_len]; omega
  have hcd : chunk t 16 (a / 16) = (t.drop a).take 16 := by rw [chunk, show a / 16 * 16 = a by omega]
  have hel := entriesT_len (t := t) (k := a / 16)
  rw [entriesT_succ] at hjj
  have k1 : (chunk t 16 (a / 16)).take 2 = (t.drop a).take 2 := by rw [hcd, List.take_take]; rfl
  have k2 : (chunk t 16 (a / 16))[2]? = t[a + 2]? := by rw [hcd, List.getElem?_take, if_pos (by omega), List.getElem?_drop]
  have k3 : ∀ m, m ≤ 12 → ((chunk t 16 (a / 16)).drop 3).take m = (t.drop (a + 3)).take m := fun m hm => by
   rw [hcd, List.drop_take, List.drop_drop, List.take_take, Nat.min_eq_left (by omega)]
  generalize chunk t 16 (a / 16) = c at *
  generalize entriesT t (a / 16) = E at *
  have hgn := spec_GetNumber t a 2 (by omega)
  rw [getN, if_pos (by omega)] at hgn
  simp only [Int.toNat_natCast, show (2 : Int).toNat = 2 from rfl] at hgn
  have hV := getV2 (s := c) (a := 0)
  rw [List.drop_zero, k1] at hV
  obtain ⟨b, hb⟩ : ∃ b, c[2]? = some b := ⟨_, List.getElem?_eq_getElem (by omega)⟩
  have hb2 : t[a + 2] = b := by rw [k2, List.getElem?_eq_getElem (by omega)] at hb; exact Option.some.inj hb
  have hbd : c.getD 2 0 = b := by rw [List.getD_eq_getElem?_getD, hb]; rfl
  have hbl := b.toNat_lt
  have hwb : IntKind.i64.wrap (b.toNat : Int) = b.toNat := wrap64_in (by omega) (by omega)
  have e2 : ((a : Int) + 2).toNat = a + 2 := by omega
  have e3 : ((a : Int) + 3).toNat = a + 3 := by omega
  have e4 : ((a : Int) + 3 + b.toNat - (a + 3)).toNat = b.toNat := by omega
  have e5 : ((a : Int) + 16 - a).toNat = 16 := by omega
  rw [k2] at hb
  have hea : b.toNat ≤ 12 → entryAt c = ⟨(t.drop (a + 3)).take b.toNat, getV ((t.drop a).take 2) - 1⟩ := fun h => by rw [entryAt, hbd, k1, k3 _ h]
  by_cases h12 : b.toNat ≤ 12
  ·have hea := hea h12
   have hnl : ((t.drop (a + 3)).take b.toNat).length ≤ 12 := by rw [List.length_take]; omega
   have hname := spec_IsEntryName ((t.drop (a + 3)).take b.toNat) (by omega)
   have hrec := spec_l10Record ⟨(t.drop (a + 3)).take b.toNat, getV ((t.drop a).take 2) - 1⟩ (by simp only; omega) (by simp only; omega)
   simp only [cEntry] at hrec
   by_cases hg : goodE c = true
   ·rw [entryOf_good hcl hg, hea] at hjj
    dsimp only at hjj
    simp only [goodE, hea, hbd, Bool.and_eq_true, decide_eq_true_eq, ← nameOk_eq] at hg
    obtain ⟨⟨⟨⟨-, g1⟩, g2⟩, g3⟩, g4⟩ := hg
    simp only [List.map_append, List.map_cons, List.map_nil, cEntry, List.length_append, List.length_cons, List.length_nil, Nat.zero_add] at hjj
    generalize hV0 : getV ((t.drop a).take 2) = V at *
    generalize hM : (t.drop (a + 3)).take b.toNat = M at *
    (try simp -implicitDefEqProofs (disch := first | exact dd | fail) [Tryz.f26, hlt, hb, hb2, hwb, e2, e3, e4, e5, h12, hM, hcd, g1, g2, g3, g4, hel]); (repeat' ((with_reducible first | (refine Br.out ?_ ?_ <;> intro h <;> (try (have h0 := h; simp only [bH] at h))) | refine AC_snd (spec_l01In _ _ _) ?_ | refine AC_snd (hgn) ?_ | refine AC_snd (hname) ?_ | refine AC_snd (hrec) ?_ | fail) <;> (try simp -implicitDefEqProofs (disch := first | exact dd | fail) [Tryz.f26, hlt, hb, hb2, hwb, e2, e3, e4, e5, h12, hM, hcd, g1, g2, g3, g4, hel])))
    all_goals first | exact hjj | (exfalso; omega)
   ·rw [entryOf_bad hg] at hjj
    dsimp only at hjj
    simp only [goodE, hea, hbd, Bool.and_eq_true, decide_eq_true_eq, ← nameOk_eq] at hg
    generalize hV0 : getV ((t.drop a).take 2) = V at *
    generalize hM : (t.drop (a + 3)).take b.toNat = M at *
    (try simp -implicitDefEqProofs (disch := first | exact dd | fail) [Tryz.f26, hlt, hb, hb2, hwb, e2, e3, e4, e5, h12, hM, hel]); (repeat' ((with_reducible first | (refine Br.out ?_ ?_ <;> intro h <;> (try (have h0 := h; simp only [bH] at h))) | refine AC_snd (spec_l01In _ _ _) ?_ | refine AC_snd (hgn) ?_ | refine AC_snd (hname) ?_ | refine AC_snd (hrec) ?_ | fail) <;> (try simp -implicitDefEqProofs (disch := first | exact dd | fail) [Tryz.f26, hlt, hb, hb2, hwb, e2, e3, e4, e5, h12, hM, hel])))
    all_goals first | exact hjj | (exfalso; exact hg ⟨⟨⟨⟨h12, by omega⟩, by omega⟩, by assumption⟩, by rw [hcd]; assumption⟩)
  ·rw [entryOf_bad (fun h => h12 (by simp only [goodE, Bool.and_eq_true, decide_eq_true_eq, hbd] at h; exact h.1.1.1.1))] at hjj
   dsimp only at hjj
   (try simp -implicitDefEqProofs (disch := first | exact dd | fail) [Tryz.f26, hlt, hb, hb2, hwb, e2, h12]); (repeat' ((with_reducible first | (refine Br.out ?_ ?_ <;> intro h <;> (try (have h0 := h; simp only [bH] at h))) | refine AC_snd (spec_l01In _ _ _) ?_ | refine AC_snd (hgn) ?_ | fail) <;> (try simp -implicitDefEqProofs (disch := first | exact dd | fail) [Tryz.f26, hlt, hb, hb2, hwb, e2, h12])))
   all_goals first | exact hjj
 ·have e : a / 16 = t.length / 16 := by omega
  rw [e]
  (try simp -implicitDefEqProofs (disch := first | exact dd | fail) [Tryz.f26, hlt]); (repeat' ((with_reducible first | (refine Br.out ?_ ?_ <;> intro h <;> (try (have h0 := h; simp only [bH] at h))) | fail) <;> (try simp -implicitDefEqProofs (disch := first | exact dd | fail) [Tryz.f26, hlt])))
end Go.Proofs.YtpofjodnljeegaaGreat
