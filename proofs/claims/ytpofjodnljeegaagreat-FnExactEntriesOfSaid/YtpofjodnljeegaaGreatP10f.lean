import Derived.Test.YtpofjodnljeegaaGreatP10e
import Derived.Test.YtpofjodnljeegaaGreatP12a
namespace Go.Proofs.YtpofjodnljeegaaGreat
open Go.Fw
set_option linter.unusedVariables false
set_option linter.unusedSimpArgs false
set_option maxHeartbeats 4000000
set_option maxRecDepth 8000
theorem isDirI_kind {f : DFS} {k : Nat} (h : k < 20) : isDirI f k = decide ((inodeAt f k).kind = 2) := by
 unfold isDirI hasI
 by_cases hk : (inodeAt f k).kind = 2
 ·simp [hk]; omega
 ·simp [hk]
theorem spec_l10Parent (n1 n2 n3 : Option Bool) (f : DFS) (i : Int) (hf : IsFS f) : Snd Tryz.prog 35 [fFS n1 n2 n3 f, .int .i64 i] (.tup [.int .i64 (parentI f i).1, .str (parentI f i).2.1, .bool (parentI f i).2.2]) [.unk, .unk] := Runs.snd (M := M) (c := ⟨2, [2, 4, 5, 6, 7, 8, 10, 12, 13, 14, 15, 21, 24, 25, 26, 27, 33], [], [(1, [0, 1, 2, 4, 5, 6, 12, 13, 14, 15, 21, 27, 33]), (2, [0, 1, 2, 4, 5, 6, 7, 8, 12, 13, 14, 15, 21, 24, 25, 26, 27, 33]), (3, [0, 1, 2, 4, 5, 6, 7, 8, 12, 13, 14, 15, 21, 24, 25, 26, 27, 33])]⟩) tok ks mixed Tryz.func35 (p := []) (by kernel_rfl) (by rfl) (by rfl) <| by
 obtain ⟨R, hR⟩ : ∃ R, R = parentI f i := ⟨_, rfl⟩
 rw [← hR]
 unfold parentI at hR
 have hni := hf.ni
 (try simp -implicitDefEqProofs (disch := first | exact dd | fail) [Tryz.f35]); (repeat' ((with_reducible first | (refine Br.out ?_ ?_ <;> intro h <;> (try (have h0 := h; simp only [bH] at h))) | fail) <;> (try simp -implicitDefEqProofs (disch := first | exact dd | fail) [Tryz.f35])))
 refine AL_for 14 f.inodes.length (fun k => R = parentL f i ((List.range 20).drop k)) rfl hR (fun k n hk he ih => ?_) (fun n he => ?_)
 ·have hk2 : k < 20 := by omega
  rw [range_at hk2, parentL, isDirI_kind hk2, inodeAt_nat hk] at he
  have hec := fun a b c => spec_l10Entries a b c f k hf (by omega)
  have hel := entriesI_le (i := k) hf (by omega)
  generalize entriesI f k = E at *
  by_cases hd : f.inodes[k].kind = 2
  ·rw [if_pos (by simpa using hd)] at he
   (try simp -implicitDefEqProofs (disch := first | exact dd | fail) [Tryz.f35, hk, hd, cInode]); (repeat' ((with_reducible first | (refine Br.out ?_ ?_ <;> intro h <;> (try (have h0 := h; simp only [bH] at h))) | refine AC_snd (hec _ _ _) ?_ | fail) <;> (try simp -implicitDefEqProofs (disch := first | exact dd | fail) [Tryz.f35, hk, hd, cInode])))
   refine AL_for 26 E.length (fun j => firstE i E = firstE i (E.drop j)) rfl rfl (fun j m hlt hE jh => ?_) (fun m hE => ?_)
   ·rw [firstE_at hlt] at hE
    by_cases hs : E[j].inode = i
    ·rw [if_pos hs] at hE
     rw [hE] at he
     (try simp -implicitDefEqProofs (disch := first | exact dd | fail) [Tryz.f35, hlt, hs, he, cEntry]); (repeat' ((with_reducible first | (refine Br.out ?_ ?_ <;> intro h <;> (try (have h0 := h; simp only [bH] at h))) | fail) <;> (try simp -implicitDefEqProofs (disch := first | exact dd | fail) [Tryz.f35, hlt, hs, he, cEntry])))
    ·rw [if_neg hs] at hE
     have hj := jh hE
     (try simp -implicitDefEqProofs (disch := first | exact dd | fail) [Tryz.f35, hlt, hs, cEntry]); (repeat' ((with_reducible first | (refine Br.out ?_ ?_ <;> intro h <;> (try (have h0 := h; simp only [bH] at h))) | fail) <;> (try simp -implicitDefEqProofs (disch := first | exact dd | fail) [Tryz.f35, hlt, hs, cEntry])))
     all_goals first | exact hj
   ·rw [List.drop_length, firstE] at hE
    rw [hE] at he
    have hj := ih he
    (try simp -implicitDefEqProofs (disch := first | exact dd | fail) [Tryz.f35]); (repeat' ((with_reducible first | (refine Br.out ?_ ?_ <;> intro h <;> (try (have h0 := h; simp only [bH] at h))) | fail) <;> (try simp -implicitDefEqProofs (disch := first | exact dd | fail) [Tryz.f35])))
    all_goals first | exact hj
  ·rw [if_neg (by simpa using hd)] at he
   have hj := ih he
   (try simp -implicitDefEqProofs (disch := first | exact dd | fail) [Tryz.f35, hk, hd, cInode]); (repeat' ((with_reducible first | (refine Br.out ?_ ?_ <;> intro h <;> (try (have h0 := h; simp only [bH] at h))) | fail) <;> (try simp -implicitDefEqProofs (disch := first | exact dd | fail) [Tryz.f35, hk, hd, cInode])))
   all_goals first | exact hj
 ·rw [List.drop_of_length_le (by simp; omega), parentL] at he
  (try simp -implicitDefEqProofs (disch := first | exact dd | fail) [Tryz.f35, he]); (repeat' ((with_reducible first | (refine Br.out ?_ ?_ <;> intro h <;> (try (have h0 := h; simp only [bH] at h))) | fail) <;> (try simp -implicitDefEqProofs (disch := first | exact dd | fail) [Tryz.f35, he])))
def cntE (i : Int) (E : List DEntry) : Nat := (E.filter (fun e => decide (e.inode = i))).length
theorem cntE_take {i : Int} {E : List DEntry} {j : Nat} (h : j < E.length) : cntE i (E.take (j + 1)) = if E[j].inode = i then cntE i (E.take j) + 1 else cntE i (E.take j) := by
 unfold cntE
 rw [List.take_succ_eq_append_getElem h, List.filter_append]
 by_cases hs : E[j].inode = i <;> simp [hs]
theorem cntE_le {i : Int} {E : List DEntry} : cntE i E ≤ E.length := List.length_filter_le _ _
noncomputable def linksN (f : DFS) (i : Int) : Nat → Nat
 | 0 => 0
 | k + 1 => linksN f i k + if isDirI f k then cntE i (entriesI f k) else 0
theorem linksN_succ {f : DFS} {i : Int} (k : Nat) : linksN f i (k + 1) = linksN f i k + if isDirI f k then cntE i (entriesI f k) else 0 := rfl
noncomputable def linksI (f : DFS) (i : Int) : Nat := linksN f i 20
theorem linksN_le {f : DFS} {i : Int} (hf : IsFS f) : ∀ {k : Nat}, k ≤ 20 → linksN f i k ≤ 16 * k
 | 0, _ => Nat.le_refl _
 | k + 1, h => by
  have h1 := linksN_le (i := i) hf (show k ≤ 20 by omega)
  have h2 := entriesI_le (i := k) hf (by omega)
  have h3 := cntE_le (i := i) (E := entriesI f k)
  rw [linksN]
  split <;> omega
theorem impl_links (n1 n2 n3 : Option Bool) (f : DFS) (i : Int) (hf : IsFS f) : Snd Tryz.prog 31 [pFS n1 n2 n3 f, .int .i64 i] (.int .i64 (linksI f i)) [.unk, .unk] := Runs.snd (M := M) (c := ⟨2, [4, 5, 6, 8, 9, 10, 15, 18, 19, 20, 21, 27], [], [(1, [0, 1, 4, 5, 9, 10, 15, 21, 27]), (2, [0, 1, 4, 5, 6, 9, 10, 15, 18, 19, 20, 21, 27]), (3, [0, 1, 4, 5, 6, 9, 10, 15, 18, 19, 20, 21, 27])]⟩) tok ks mixed Tryz.func31 (p := []) (by kernel_rfl) (by rfl) (by rfl) <| by
 obtain ⟨R, hR⟩ : ∃ R, R = linksI f i := ⟨_, rfl⟩
 rw [← hR]
 unfold linksI at hR
 (try simp -implicitDefEqProofs (disch := first | exact dd | fail) [Tryz.f31]); (repeat' ((with_reducible first | (refine Br.out ?_ ?_ <;> intro h <;> (try (have h0 := h; simp only [bH] at h))) | fail) <;> (try simp -implicitDefEqProofs (disch := first | exact dd | fail) [Tryz.f31])))
 refine AL_fors (σ := Unit) 9 20 (fun k _ => [(5, .int .i64 (linksN f i k : Nat))]) (fun _ _ => []) (fun _ _ => True) () rfl trivial (fun k _ n hk _ ih => ?_) (fun _ n _ => ?_)
 ·have hj := ih () trivial
  have hll := linksN_le (i := i) hf (Nat.le_of_lt hk)
  rw [linksN_succ] at hj
  have hdc := fun a b c => impl_isDir a b c f k hf.ni
  have hec := fun a b c => impl_entries a b c f k hf (by omega)
  have hel := entriesI_le (i := k) hf (by omega)
  generalize entriesI f k = E at *
  generalize linksN f i k = A at *
  by_cases hd : isDirI f k = true
  ·rw [if_pos hd] at hj
   (try simp -implicitDefEqProofs (disch := first | exact dd | fail) [Tryz.f31, hk, hd]); (repeat' ((with_reducible first | (refine Br.out ?_ ?_ <;> intro h <;> (try (have h0 := h; simp only [bH] at h))) | refine AC_snd (hdc _ _ _) ?_ | refine AC_snd (hec _ _ _) ?_ | fail) <;> (try simp -implicitDefEqProofs (disch := first | exact dd | fail) [Tryz.f31, hk, hd])))
   refine AL_fors (σ := Unit) 20 E.length (fun j _ => [(5, .int .i64 (A + cntE i (E.take j) : Nat))]) (fun _ _ => []) (fun _ _ => True) () (by simp [cntE]) trivial (fun j _ m hlt _ jh => ?_) (fun _ m _ => ?_)
   ·have hjj := jh () trivial
    rw [cntE_take hlt] at hjj
    have hcl := cntE_le (i := i) (E := E.take j)
    rw [List.length_take] at hcl
    generalize cntE i (E.take j) = C at *
    by_cases hs : E[j].inode = i
    ·rw [if_pos hs] at hjj
     (try simp -implicitDefEqProofs (disch := first | exact dd | fail) [Tryz.f31, hlt, hs, cEntry]); (repeat' ((with_reducible first | (refine Br.out ?_ ?_ <;> intro h <;> (try (have h0 := h; simp only [bH] at h))) | fail) <;> (try simp -implicitDefEqProofs (disch := first | exact dd | fail) [Tryz.f31, hlt, hs, cEntry])))
     all_goals first | exact hjj
    ·rw [if_neg hs] at hjj
     (try simp -implicitDefEqProofs (disch := first | exact dd | fail) [Tryz.f31, hlt, hs, cEntry]); (repeat' ((with_reducible first | (refine Br.out ?_ ?_ <;> intro h <;> (try (have h0 := h; simp only [bH] at h))) | fail) <;> (try simp -implicitDefEqProofs (disch := first | exact dd | fail) [Tryz.f31, hlt, hs, cEntry])))
     all_goals first | exact hjj
   ·rw [List.take_length]
    (try simp -implicitDefEqProofs (disch := first | exact dd | fail) [Tryz.f31]); (repeat' ((with_reducible first | (refine Br.out ?_ ?_ <;> intro h <;> (try (have h0 := h; simp only [bH] at h))) | fail) <;> (try simp -implicitDefEqProofs (disch := first | exact dd | fail) [Tryz.f31])))
    all_goals first | exact hj
  ·have hd' : isDirI f k = false := by simpa using hd
   rw [if_neg hd] at hj
   simp only [Nat.add_zero] at hj
   (try simp -implicitDefEqProofs (disch := first | exact dd | fail) [Tryz.f31, hk, hd']); (repeat' ((with_reducible first | (refine Br.out ?_ ?_ <;> intro h <;> (try (have h0 := h; simp only [bH] at h))) | refine AC_snd (hdc _ _ _) ?_ | fail) <;> (try simp -implicitDefEqProofs (disch := first | exact dd | fail) [Tryz.f31, hk, hd'])))
   all_goals first | exact hj
 ·rw [← hR]
  (try simp -implicitDefEqProofs (disch := first | exact dd | fail) [Tryz.f31]); (repeat' ((with_reducible first | (refine Br.out ?_ ?_ <;> intro h <;> (try (have h0 := h; simp only [bH] at h))) | fail) <;> (try simp -implicitDefEqProofs (disch := first | exact dd | fail) [Tryz.f31])))
theorem spec_LinksOf (n1 n2 n3 : Option Bool) (f : DFS) (i : Int) (hs : SmF f) : Snd Tryz.prog 8 [fFS n1 n2 n3 f, .int .i64 i] (.int .i64 (if isFS f then (linksI f i : Int) else 0)) [.unk, .unk] := Runs.snd (M := M) (c := ⟨2, [2, 4, 5, 6, 7, 9, 12, 14, 15, 16, 17, 23, 26, 27, 28, 29, 35], [], [(1, [0, 1, 2, 4, 5, 12, 14, 15, 16, 17, 23, 29, 35]), (2, [0, 1, 2, 4, 5, 6, 7, 12, 14, 15, 16, 17, 23, 26, 27, 28, 29, 35]), (3, [0, 1, 2, 4, 5, 6, 7, 12, 14, 15, 16, 17, 23, 26, 27, 28, 29, 35])]⟩) tok ks mixed Tryz.func8 (p := []) (by kernel_rfl) (by rfl) (by rfl) <| by
 (try simp -implicitDefEqProofs (disch := first | exact dd | fail) [Tryz.f8]); (repeat' ((with_reducible first | (refine Br.out ?_ ?_ <;> intro h <;> (try (have h0 := h; simp only [bH] at h))) | refine AC_snd (spec_IsFS _ _ _ f hs) ?_ | fail) <;> (try simp -implicitDefEqProofs (disch := first | exact dd | fail) [Tryz.f8])))
 all_goals try (simp [*]; done)
 have hT : isFS f = true := by assumption
 have hf := tr_iff.1 hT
 have hni := hf.ni
 rw [if_pos hT]
 obtain ⟨R, hR⟩ : ∃ R, R = linksI f i := ⟨_, rfl⟩
 rw [← hR]
 unfold linksI at hR
 rw [← hni] at hR
 refine AL_fors (σ := Unit) 16 f.inodes.length (fun k _ => [(5, .int .i64 (linksN f i k : Nat))]) (fun _ _ => []) (fun _ _ => True) () rfl trivial (fun k _ n hk _ ih => ?_) (fun _ n _ => ?_)
 ·have hj := ih () trivial
  have hk2 : k < 20 := by omega
  have hll := linksN_le (i := i) hf (Nat.le_of_lt hk2)
  rw [linksN_succ, isDirI_kind hk2, inodeAt_nat hk] at hj
  have hec := fun a b c => spec_l10Entries a b c f k hf (by omega)
  have hel := entriesI_le (i := k) hf (by omega)
  generalize entriesI f k = E at *
  generalize linksN f i k = A at *
  by_cases hd : f.inodes[k].kind = 2
  ·rw [if_pos (by simpa using hd)] at hj
   (try simp -implicitDefEqProofs (disch := first | exact dd | fail) [Tryz.f8, hk, hd, cInode]); (repeat' ((with_reducible first | (refine Br.out ?_ ?_ <;> intro h <;> (try (have h0 := h; simp only [bH] at h))) | refine AC_snd (hec _ _ _) ?_ | fail) <;> (try simp -implicitDefEqProofs (disch := first | exact dd | fail) [Tryz.f8, hk, hd, cInode])))
   refine AL_fors (σ := Unit) 28 E.length (fun j _ => [(5, .int .i64 (A + cntE i (E.take j) : Nat))]) (fun _ _ => []) (fun _ _ => True) () (by simp [cntE]) trivial (fun j _ m hlt _ jh => ?_) (fun _ m _ => ?_)
   ·have hjj := jh () trivial
    rw [cntE_take hlt] at hjj
    have hcl := cntE_le (i := i) (E := E.take j)
    rw [List.length_take] at hcl
    generalize cntE i (E.take j) = C at *
    by_cases hs : E[j].inode = i
    ·rw [if_pos hs] at hjj
     (try simp -implicitDefEqProofs (disch := first | exact dd | fail) [Tryz.f8, hlt, hs, cEntry]); (repeat' ((with_reducible first | (refine Br.out ?_ ?_ <;> intro h <;> (try (have h0 := h; simp only [bH] at h))) | fail) <;> (try simp -implicitDefEqProofs (disch := first | exact dd | fail) [Tryz.f8, hlt, hs, cEntry])))
     all_goals first | exact hjj
    ·rw [if_neg hs] at hjj
     (try simp -implicitDefEqProofs (disch := first | exact dd | fail) [Tryz.f8, hlt, hs, cEntry]); (repeat' ((with_reducible first | (refine Br.out ?_ ?_ <;> intro h <;> (try (have h0 := h; simp only [bH] at h))) | fail) <;> (try simp -implicitDefEqProofs (disch := first | exact dd | fail) [Tryz.f8, hlt, hs, cEntry])))
     all_goals first | exact hjj
   ·rw [List.take_length]
    (try simp -implicitDefEqProofs (disch := first | exact dd | fail) [Tryz.f8]); (repeat' ((with_reducible first | (refine Br.out ?_ ?_ <;> intro h <;> (try (have h0 := h; simp only [bH] at h))) | fail) <;> (try simp -implicitDefEqProofs (disch := first | exact dd | fail) [Tryz.f8])))
    all_goals first | exact hj
  ·rw [if_neg (by simpa using hd), Nat.add_zero] at hj
   (try simp -implicitDefEqProofs (disch := first | exact dd | fail) [Tryz.f8, hk, hd, cInode]); (repeat' ((with_reducible first | (refine Br.out ?_ ?_ <;> intro h <;> (try (have h0 := h; simp only [bH] at h))) | fail) <;> (try simp -implicitDefEqProofs (disch := first | exact dd | fail) [Tryz.f8, hk, hd, cInode])))
   all_goals first | exact hj
 ·rw [← hR]
  (try simp -implicitDefEqProofs (disch := first | exact dd | fail) [Tryz.f8]); (repeat' ((with_reducible first | (refine Br.out ?_ ?_ <;> intro h <;> (try (have h0 := h; simp only [bH] at h))) | fail) <;> (try simp -implicitDefEqProofs (disch := first | exact dd | fail) [Tryz.f8])))
theorem impl_LinksOf (n1 n2 n3 : Option Bool) (f : DFS) (i : Int) (hs : SmF f) : Snd Tryz.prog 10 [fFS n1 n2 n3 f, .int .i64 i] (.int .i64 (if isFS f then (linksI f i : Int) else 0)) [.unk, .unk] := Runs.snd (M := M) (c := ⟨2, [2, 4, 7], [], []⟩) tok ks mixed Tryz.func10 (p := []) (by kernel_rfl) (by rfl) (by rfl) <| by
 (try simp -implicitDefEqProofs (disch := first | exact dd | fail) [Tryz.f10]); (repeat' ((with_reducible first | (refine Br.out ?_ ?_ <;> intro h <;> (try (have h0 := h; simp only [bH] at h))) | refine AC_snd (impl_IsFS _ _ _ f hs) ?_ | refine AC_snd (impl_links _ _ _ f _ (tr_iff.1 (by assumption : isFS f = true))) ?_ | fail) <;> (try simp -implicitDefEqProofs (disch := first | exact dd | fail) [Tryz.f10])))
 all_goals simp [*]
theorem impl_ParentOf (n1 n2 n3 : Option Bool) (f : DFS) (i : Int) (hs : SmF f) : Snd Tryz.prog 13 [fFS n1 n2 n3 f, .int .i64 i] (.tup [.int .i64 (if isFS f then (parentI f i).1 else 0), .str (if isFS f then (parentI f i).2.1 else []), .bool (isFS f && (parentI f i).2.2)]) [.unk, .unk] := Runs.snd (M := M) (c := ⟨2, [2, 4, 5, 6, 9], [], []⟩) tok ks mixed Tryz.func13 (p := []) (by kernel_rfl) (by rfl) (by rfl) <| by
 (try simp -implicitDefEqProofs (disch := first | exact dd | fail) [Tryz.f13]); (repeat' ((with_reducible first | (refine Br.out ?_ ?_ <;> intro h <;> (try (have h0 := h; simp only [bH] at h))) | refine AC_snd (impl_IsFS _ _ _ f hs) ?_ | refine AC_snd (impl_parent _ _ _ f _ (tr_iff.1 (by assumption : isFS f = true))) ?_ | fail) <;> (try simp -implicitDefEqProofs (disch := first | exact dd | fail) [Tryz.f13])))
 all_goals simp [*]
theorem spec_ParentOf (n1 n2 n3 : Option Bool) (f : DFS) (i : Int) (hs : SmF f) : Snd Tryz.prog 12 [fFS n1 n2 n3 f, .int .i64 i] (.tup [.int .i64 (if isFS f then (parentI f i).1 else 0), .str (if isFS f then (parentI f i).2.1 else []), .bool (isFS f && (parentI f i).2.2)]) [.unk, .unk] := Runs.snd (M := M) (c := ⟨2, [2, 4, 5, 6, 9], [], []⟩) tok ks mixed Tryz.func12 (p := []) (by kernel_rfl) (by rfl) (by rfl) <| by
 (try simp -implicitDefEqProofs (disch := first | exact dd | fail) [Tryz.f12]); (repeat' ((with_reducible first | (refine Br.out ?_ ?_ <;> intro h <;> (try (have h0 := h; simp only [bH] at h))) | refine AC_snd (spec_IsFS _ _ _ f hs) ?_ | refine AC_snd (spec_l10Parent _ _ _ f _ (tr_iff.1 (by assumption : isFS f = true))) ?_ | fail) <;> (try simp -implicitDefEqProofs (disch := first | exact dd | fail) [Tryz.f12])))
 all_goals simp [*]
end Go.Proofs.YtpofjodnljeegaaGreat
