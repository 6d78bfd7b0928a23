import Derived.Test.YtpofjodnljeegaaGreatP10d
import Derived.Test.YtpofjodnljeegaaGreatP11a
import Derived.Test.YtpofjodnljeegaaGreatBx
namespace Go.Proofs.YtpofjodnljeegaaGreat
open Go.Fw
set_option linter.unusedVariables false
set_option linter.unusedSimpArgs false
set_option maxHeartbeats 4000000
set_option maxRecDepth 8000
theorem findE_at {E : List DEntry} {s : Str} {j : Nat} (h : j < E.length) : findE (E.drop j) s = if E[j].name = s then (E[j].inode, true) else findE (E.drop (j + 1)) s := by
 rw [List.drop_eq_getElem_cons h, findE]
theorem entriesL_le {t : Str} (h : t.length ≤ 256) : (entriesL t).length ≤ 16 := by
 rw [entriesL_full]
 have := entriesT_len (t := t) (k := t.length / 16)
 omega
theorem entriesI_le {f : DFS} {i : Int} (hf : IsFS f) (hi : 0 ≤ i ∧ i < 20) : (entriesI f i).length ≤ 16 := entriesL_le (content_le hf hi)
theorem impl_find (n1 n2 n3 : Option Bool) (f : DFS) (i : Int) (s : Str) (hf : IsFS f) (hi : 0 ≤ i ∧ i < 20) : Snd Tryz.prog 40 [pFS n1 n2 n3 f, .int .i64 i, .str s] (.tup [.int .i64 (findE (entriesI f i) s).1, .bool (findE (entriesI f i) s).2]) [.unk, .unk, .unk] := Runs.snd (M := M) (c := ⟨3, [6, 7, 9, 12, 13, 14, 15, 21], [], [(1, [0, 1, 2, 6, 7, 12, 13, 14, 15, 21])]⟩) tok ks mixed Tryz.func40 (p := []) (by kernel_rfl) (by rfl) (by rfl) <| by
 have hec := fun a b c => impl_entries a b c f i hf hi
 have hel := entriesI_le hf hi
 generalize entriesI f i = E at *
 obtain ⟨R, hR⟩ : ∃ R, R = findE E s := ⟨_, rfl⟩
 rw [← hR]
 (try simp -implicitDefEqProofs (disch := first | exact dd | fail) [Tryz.f40]); (repeat' ((with_reducible first | (refine Br.out ?_ ?_ <;> intro h <;> (try (have h0 := h; simp only [bH] at h))) | refine AC_snd (hec _ _ _) ?_ | fail) <;> (try simp -implicitDefEqProofs (disch := first | exact dd | fail) [Tryz.f40])))
 refine AL_for 14 E.length (fun j => R = findE (E.drop j) s) rfl hR (fun j n hlt he ih => ?_) (fun n he => ?_)
 ·rw [findE_at hlt] at he
  by_cases hs : E[j].name = s
  ·rw [if_pos hs] at he
   (try simp -implicitDefEqProofs (disch := first | exact dd | fail) [Tryz.f40, hlt, hs, he, cEntry]); (repeat' ((with_reducible first | (refine Br.out ?_ ?_ <;> intro h <;> (try (have h0 := h; simp only [bH] at h))) | fail) <;> (try simp -implicitDefEqProofs (disch := first | exact dd | fail) [Tryz.f40, hlt, hs, he, cEntry])))
  ·rw [if_neg hs] at he
   have hj := ih he
   (try simp -implicitDefEqProofs (disch := first | exact dd | fail) [Tryz.f40, hlt, hs, cEntry]); (repeat' ((with_reducible first | (refine Br.out ?_ ?_ <;> intro h <;> (try (have h0 := h; simp only [bH] at h))) | fail) <;> (try simp -implicitDefEqProofs (disch := first | exact dd | fail) [Tryz.f40, hlt, hs, cEntry])))
   all_goals first | exact hj
 ·rw [List.drop_length] at he
  (try simp -implicitDefEqProofs (disch := first | exact dd | fail) [Tryz.f40, he, findE]); (repeat' ((with_reducible first | (refine Br.out ?_ ?_ <;> intro h <;> (try (have h0 := h; simp only [bH] at h))) | fail) <;> (try simp -implicitDefEqProofs (disch := first | exact dd | fail) [Tryz.f40, he, findE])))
theorem spec_l10Find (n1 n2 n3 : Option Bool) (f : DFS) (i : Int) (s : Str) (hf : IsFS f) (hi : 0 ≤ i ∧ i < 20) : Snd Tryz.prog 38 [fFS n1 n2 n3 f, .int .i64 i, .str s] (.tup [.int .i64 (findE (entriesI f i) s).1, .bool (findE (entriesI f i) s).2]) [.unk, .unk, .unk] := Runs.snd (M := M) (c := ⟨3, [3, 6, 7, 9, 12, 13, 14, 15, 21], [], [(1, [0, 1, 2, 3, 6, 7, 12, 13, 14, 15, 21])]⟩) tok ks mixed Tryz.func38 (p := []) (by kernel_rfl) (by rfl) (by rfl) <| by
 have hec := fun a b c => spec_l10Entries a b c f i hf hi
 have hel := entriesI_le hf hi
 generalize entriesI f i = E at *
 obtain ⟨R, hR⟩ : ∃ R, R = findE E s := ⟨_, rfl⟩
 rw [← hR]
 (try simp -implicitDefEqProofs (disch := first | exact dd | fail) [Tryz.f38]); (repeat' ((with_reducible first | (refine Br.out ?_ ?_ <;> intro h <;> (try (have h0 := h; simp only [bH] at h))) | refine AC_snd (hec _ _ _) ?_ | fail) <;> (try simp -implicitDefEqProofs (disch := first | exact dd | fail) [Tryz.f38])))
 refine AL_for 14 E.length (fun j => R = findE (E.drop j) s) rfl hR (fun j n hlt he ih => ?_) (fun n he => ?_)
 ·rw [findE_at hlt] at he
  by_cases hs : E[j].name = s
  ·rw [if_pos hs] at he
   (try simp -implicitDefEqProofs (disch := first | exact dd | fail) [Tryz.f38, hlt, hs, he, cEntry]); (repeat' ((with_reducible first | (refine Br.out ?_ ?_ <;> intro h <;> (try (have h0 := h; simp only [bH] at h))) | fail) <;> (try simp -implicitDefEqProofs (disch := first | exact dd | fail) [Tryz.f38, hlt, hs, he, cEntry])))
  ·rw [if_neg hs] at he
   have hj := ih he
   (try simp -implicitDefEqProofs (disch := first | exact dd | fail) [Tryz.f38, hlt, hs, cEntry]); (repeat' ((with_reducible first | (refine Br.out ?_ ?_ <;> intro h <;> (try (have h0 := h; simp only [bH] at h))) | fail) <;> (try simp -implicitDefEqProofs (disch := first | exact dd | fail) [Tryz.f38, hlt, hs, cEntry])))
   all_goals first | exact hj
 ·rw [List.drop_length] at he
  (try simp -implicitDefEqProofs (disch := first | exact dd | fail) [Tryz.f38, he, findE]); (repeat' ((with_reducible first | (refine Br.out ?_ ?_ <;> intro h <;> (try (have h0 := h; simp only [bH] at h))) | fail) <;> (try simp -implicitDefEqProofs (disch := first | exact dd | fail) [Tryz.f38, he, findE])))
def firstE (i : Int) : List DEntry → Option Str
 | [] => none
 | e :: l => if e.inode = i then some e.name else firstE i l
theorem firstE_at {E : List DEntry} {i : Int} {j : Nat} (h : j < E.length) : firstE i (E.drop j) = if E[j].inode = i then some E[j].name else firstE i (E.drop (j + 1)) := by
 rw [List.drop_eq_getElem_cons h, firstE]
noncomputable def parentL (f : DFS) (i : Int) : List Nat → Int × Str × Bool
 | [] => (0, [], false)
 | d :: l => if isDirI f d then (match firstE i (entriesI f d) with | some s => (d, s, true) | none => parentL f i l) else parentL f i l
noncomputable def parentI (f : DFS) (i : Int) : Int × Str × Bool := parentL f i (List.range 20)
theorem range_at {k n : Nat} (h : k < n) : (List.range n).drop k = k :: (List.range n).drop (k + 1) := by
 rw [List.drop_eq_getElem_cons (by simpa using h), List.getElem_range]
theorem impl_parent (n1 n2 n3 : Option Bool) (f : DFS) (i : Int) (hf : IsFS f) : Snd Tryz.prog 36 [pFS n1 n2 n3 f, .int .i64 i] (.tup [.int .i64 (parentI f i).1, .str (parentI f i).2.1, .bool (parentI f i).2.2]) [.unk, .unk] := Runs.snd (M := M) (c := ⟨2, [4, 5, 6, 7, 9, 10, 11, 16, 19, 20, 21, 22, 28], [], [(1, [0, 1, 4, 5, 6, 10, 11, 16, 22, 28]), (2, [0, 1, 4, 5, 6, 7, 10, 11, 16, 19, 20, 21, 22, 28]), (3, [0, 1, 4, 5, 6, 7, 10, 11, 16, 19, 20, 21, 22, 28])]⟩) tok ks mixed Tryz.func36 (p := []) (by kernel_rfl) (by rfl) (by rfl) <| by
 obtain ⟨R, hR⟩ : ∃ R, R = parentI f i := ⟨_, rfl⟩
 rw [← hR]
 unfold parentI at hR
 (try simp -implicitDefEqProofs (disch := first | exact dd | fail) [Tryz.f36]); (repeat' ((with_reducible first | (refine Br.out ?_ ?_ <;> intro h <;> (try (have h0 := h; simp only [bH] at h))) | fail) <;> (try simp -implicitDefEqProofs (disch := first | exact dd | fail) [Tryz.f36])))
 refine AL_for 10 20 (fun k => R = parentL f i ((List.range 20).drop k)) rfl hR (fun k n hk he ih => ?_) (fun n he => ?_)
 ·rw [range_at hk, parentL] at he
  have hdc := fun a b c => impl_isDir a b c f k hf.ni
  have hec := fun a b c => impl_entries a b c f k hf (by omega)
  have hel := entriesI_le (i := k) hf (by omega)
  generalize entriesI f k = E at *
  by_cases hd : isDirI f k = true
  ·rw [if_pos hd] at he
   (try simp -implicitDefEqProofs (disch := first | exact dd | fail) [Tryz.f36, hk, hd]); (repeat' ((with_reducible first | (refine Br.out ?_ ?_ <;> intro h <;> (try (have h0 := h; simp only [bH] at h))) | refine AC_snd (hdc _ _ _) ?_ | refine AC_snd (hec _ _ _) ?_ | fail) <;> (try simp -implicitDefEqProofs (disch := first | exact dd | fail) [Tryz.f36, hk, hd])))
   refine AL_for 21 E.length (fun j => firstE i E = firstE i (E.drop j)) rfl rfl (fun j m hlt hE jh => ?_) (fun m hE => ?_)
   ·rw [firstE_at hlt] at hE
    by_cases hs : E[j].inode = i
    ·rw [if_pos hs] at hE
     rw [hE] at he
     (try simp -implicitDefEqProofs (disch := first | exact dd | fail) [Tryz.f36, hlt, hs, he, cEntry]); (repeat' ((with_reducible first | (refine Br.out ?_ ?_ <;> intro h <;> (try (have h0 := h; simp only [bH] at h))) | fail) <;> (try simp -implicitDefEqProofs (disch := first | exact dd | fail) [Tryz.f36, hlt, hs, he, cEntry])))
    ·rw [if_neg hs] at hE
     have hj := jh hE
     (try simp -implicitDefEqProofs (disch := first | exact dd | fail) [Tryz.f36, hlt, hs, cEntry]); (repeat' ((with_reducible first | (refine Br.out ?_ ?_ <;> intro h <;> (try (have h0 := h; simp only [bH] at h))) | fail) <;> (try simp -implicitDefEqProofs (disch := first | exact dd | fail) [Tryz.f36, hlt, hs, cEntry])))
     all_goals first | exact hj
   ·rw [List.drop_length, firstE] at hE
    rw [hE] at he
    have hj := ih he
    (try simp -implicitDefEqProofs (disch := first | exact dd | fail) [Tryz.f36]); (repeat' ((with_reducible first | (refine Br.out ?_ ?_ <;> intro h <;> (try (have h0 := h; simp only [bH] at h))) | fail) <;> (try simp -implicitDefEqProofs (disch := first | exact dd | fail) [Tryz.f36])))
    all_goals first | exact hj
  ·have hd' : isDirI f k = false := by simpa using hd
   rw [if_neg hd] at he
   have hj := ih he
   (try simp -implicitDefEqProofs (disch := first | exact dd | fail) [Tryz.f36, hk, hd']); (repeat' ((with_reducible first | (refine Br.out ?_ ?_ <;> intro h <;> (try (have h0 := h; simp only [bH] at h))) | refine AC_snd (hdc _ _ _) ?_ | fail) <;> (try simp -implicitDefEqProofs (disch := first | exact dd | fail) [Tryz.f36, hk, hd'])))
   all_goals first | exact hj
 ·rw [List.drop_of_length_le (by simp), parentL] at he
  (try simp -implicitDefEqProofs (disch := first | exact dd | fail) [Tryz.f36, he]); (repeat' ((with_reducible first | (refine Br.out ?_ ?_ <;> intro h <;> (try (have h0 := h; simp only [bH] at h))) | fail) <;> (try simp -implicitDefEqProofs (disch := first | exact dd | fail) [Tryz.f36, he])))
end Go.Proofs.YtpofjodnljeegaaGreat
