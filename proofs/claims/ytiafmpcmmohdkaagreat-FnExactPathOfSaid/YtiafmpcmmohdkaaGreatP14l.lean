import Derived.Test.YtiafmpcmmohdkaaGreatP10
import Derived.Test.YtiafmpcmmohdkaaGreatM25
import Derived.Test.YtiafmpcmmohdkaaGreatMC
namespace Go.Proofs.YtiafmpcmmohdkaaGreat
open Go.Fw
set_option linter.unusedVariables false
set_option linter.unusedSimpArgs false
set_option maxHeartbeats 4000000
set_option maxRecDepth 8000
theorem firstE_mem {i : Int} : ∀ {l : List DEntry} {s : Str}, firstE i l = some s → ∃ e ∈ l, e.inode = i ∧ e.name = s
 | [], s, h => by simp [firstE] at h
 | e :: l, s, h => by
  rw [firstE] at h
  split at h
  ·rename_i he
   cases h
   exact ⟨e, List.mem_cons_self .., he, rfl⟩
  ·obtain ⟨x, h1, h2⟩ := firstE_mem h
   exact ⟨x, List.mem_cons_of_mem _ h1, h2⟩
theorem parentL_in {f : DFS} {i : Int} : ∀ {l : List Nat}, (∀ d ∈ l, d < 20) → (parentL f i l).2.2 = true → 0 ≤ (parentL f i l).1 ∧ (parentL f i l).1 < 20
 | [], _, h => by simp [parentL] at h
 | d :: l, hl, h => by
  have h2 := hl d (List.mem_cons_self ..)
  have ih := parentL_in (f := f) (i := i) (l := l) fun x hx => hl x (List.mem_cons_of_mem _ hx)
  rw [parentL] at h ⊢
  split
  ·rename_i h3
   rw [if_pos h3] at h
   cases hfe : firstE i (entriesI f d) with
   | none => rw [hfe] at h; exact ih h
   | some s => exact ⟨by simp only; omega, by simp only; omega⟩
  ·rename_i h3
   rw [if_neg h3] at h
   exact ih h
theorem parentI_in {f : DFS} {i : Int} (h : (parentI f i).2.2 = true) : 0 ≤ (parentI f i).1 ∧ (parentI f i).1 < 20 :=
 parentL_in (fun d hd => by simpa using hd) h
theorem parentL_len {f : DFS} {i : Int} : ∀ {l : List Nat}, (parentL f i l).2.1.length ≤ 12
 | [] => by simp [parentL]
 | d :: l => by
  rw [parentL]
  split
  ·cases hfe : firstE i (entriesI f d) with
   | none => exact parentL_len
   | some s =>
    obtain ⟨e, h1, -, h3⟩ := firstE_mem hfe
    have := nameOK_len (entriesI_in h1).2.2
    simp only
    rw [← h3]
    exact this
  ·exact parentL_len
theorem impl_within (n1 n2 n3 : Option Bool) (f : DFS) (i d : Int) (hf : IsFS f) : Snd Tryz.prog 56 [pFS n1 n2 n3 f, .int .i64 i, .int .i64 d] (.bool (withinN (parentI f) i 21 d)) [.unk, .unk, .unk] := Runs.snd (M := M) (c := ⟨3, [6, 7, 9, 10, 11, 14, 16, 25], [], [(1, [0, 1, 2, 6, 10, 11, 14, 16, 25])]⟩) tok ks mixed Tryz.func56 (p := []) (by kernel_rfl) (by rfl) (by rfl) <| by
 obtain ⟨R, hR⟩ : ∃ R, R = withinN (parentI f) i 21 d := ⟨_, rfl⟩
 rw [← hR]
 (try simp -implicitDefEqProofs (disch := first | exact dd | fail) [Tryz.f56]); (repeat' ((with_reducible first | (refine Br.out ?_ ?_ <;> intro h <;> (try (have h0 := h; simp only [bH] at h))) | fail) <;> (try simp -implicitDefEqProofs (disch := first | exact dd | fail) [Tryz.f56])))
 refine AL_fors (σ := Int) 10 21 (fun _ e => [(2, .int .i64 e)]) (fun _ _ => []) (fun j e => R = withinN (parentI f) i (21 - j) e) d rfl hR (fun j e n hlt he ih => ?_) (fun e n he => ?_)
 ·rw [show 21 - j = (21 - (j + 1)) + 1 by omega, withinN] at he
  have c1 := fun a b c => impl_parent a b c f e hf
  have ih2 := ih (parentI f e).1
  generalize parentI f e = r at *
  obtain ⟨x, s, y⟩ := r
  by_cases h1 : e = i
  ·rw [if_pos h1] at he
   (try simp -implicitDefEqProofs (disch := first | exact dd | fail) [Tryz.f56, hlt, h1, he]); (repeat' ((with_reducible first | (refine Br.out ?_ ?_ <;> intro h <;> (try (have h0 := h; simp only [bH] at h))) | fail) <;> (try simp -implicitDefEqProofs (disch := first | exact dd | fail) [Tryz.f56, hlt, h1, he])))
  rw [if_neg h1] at he
  by_cases h2 : e = 0
  ·rw [if_pos h2] at he
   have h1' : ¬ (0 : Int) = i := h2 ▸ h1
   (try simp -implicitDefEqProofs (disch := first | exact dd | fail) [Tryz.f56, hlt, h1, h1', h2, he]); (repeat' ((with_reducible first | (refine Br.out ?_ ?_ <;> intro h <;> (try (have h0 := h; simp only [bH] at h))) | fail) <;> (try simp -implicitDefEqProofs (disch := first | exact dd | fail) [Tryz.f56, hlt, h1, h1', h2, he])))
  rw [if_neg h2] at he
  cases y with
  | false =>
   rw [if_pos rfl] at he
   (try simp -implicitDefEqProofs (disch := first | exact dd | fail) [Tryz.f56, hlt, h1, h2, he]); (repeat' ((with_reducible first | (refine Br.out ?_ ?_ <;> intro h <;> (try (have h0 := h; simp only [bH] at h))) | refine AC_snd (c1 _ _ _) ?_ | fail) <;> (try simp -implicitDefEqProofs (disch := first | exact dd | fail) [Tryz.f56, hlt, h1, h2, he])))
  | true =>
   rw [if_neg (by simp)] at he
   have hj := ih2 he
   (try simp -implicitDefEqProofs (disch := first | exact dd | fail) [Tryz.f56, hlt, h1, h2]); (repeat' ((with_reducible first | (refine Br.out ?_ ?_ <;> intro h <;> (try (have h0 := h; simp only [bH] at h))) | refine AC_snd (c1 _ _ _) ?_ | fail) <;> (try simp -implicitDefEqProofs (disch := first | exact dd | fail) [Tryz.f56, hlt, h1, h2])))
   all_goals first | exact hj
 ·rw [show 21 - 21 = 0 from rfl, withinN] at he
  (try simp -implicitDefEqProofs (disch := first | exact dd | fail) [Tryz.f56, he]); (repeat' ((with_reducible first | (refine Br.out ?_ ?_ <;> intro h <;> (try (have h0 := h; simp only [bH] at h))) | fail) <;> (try simp -implicitDefEqProofs (disch := first | exact dd | fail) [Tryz.f56, he])))
theorem spec_l14Within (n1 n2 n3 : Option Bool) (f : DFS) (i d : Int) (hf : IsFS f) : Snd Tryz.prog 50 [fFS n1 n2 n3 f, .int .i64 i, .int .i64 d] (.bool (withinN (parentI f) i 20 d)) [.unk, .unk, .unk] := Runs.snd (M := M) (c := ⟨3, [3, 6, 7, 8, 10, 12, 17, 30], [], [(1, [0, 1, 2, 3, 6, 7, 12, 17, 30])]⟩) tok ks mixed Tryz.func50 (p := []) (by kernel_rfl) (by rfl) (by rfl) <| by
 obtain ⟨R, hR⟩ : ∃ R, R = withinN (parentI f) i 20 d := ⟨_, rfl⟩
 rw [← hR]
 (try simp -implicitDefEqProofs (disch := first | exact dd | fail) [Tryz.f50]); (repeat' ((with_reducible first | (refine Br.out ?_ ?_ <;> intro h <;> (try (have h0 := h; simp only [bH] at h))) | fail) <;> (try simp -implicitDefEqProofs (disch := first | exact dd | fail) [Tryz.f50])))
 refine AL_fors (σ := Int) 7 20 (fun _ e => [(2, .int .i64 e)]) (fun _ _ => []) (fun j e => R = withinN (parentI f) i (20 - j) e) d rfl hR (fun j e n hlt he ih => ?_) (fun e n he => ?_)
 ·rw [show 20 - j = (20 - (j + 1)) + 1 by omega, withinN] at he
  have c1 := fun a b c => spec_l10Parent a b c f e hf
  have ih2 := ih (parentI f e).1
  generalize parentI f e = r at *
  obtain ⟨x, s, y⟩ := r
  by_cases h1 : e = i
  ·rw [if_pos h1] at he
   (try simp -implicitDefEqProofs (disch := first | exact dd | fail) [Tryz.f50, hlt, h1, he]); (repeat' ((with_reducible first | (refine Br.out ?_ ?_ <;> intro h <;> (try (have h0 := h; simp only [bH] at h))) | fail) <;> (try simp -implicitDefEqProofs (disch := first | exact dd | fail) [Tryz.f50, hlt, h1, he])))
  rw [if_neg h1] at he
  by_cases h2 : e = 0
  ·rw [if_pos h2] at he
   have h1' : ¬ (0 : Int) = i := h2 ▸ h1
   subst h2
   (try simp -implicitDefEqProofs (disch := first | exact dd | fail) [Tryz.f50, hlt, h1', he]); (repeat' ((with_reducible first | (refine Br.out ?_ ?_ <;> intro h <;> (try (have h0 := h; simp only [bH] at h))) | refine AC_snd (c1 _ _ _) ?_ | fail) <;> (try simp -implicitDefEqProofs (disch := first | exact dd | fail) [Tryz.f50, hlt, h1', he])))
  rw [if_neg h2] at he
  cases y with
  | false =>
   rw [if_pos rfl] at he
   (try simp -implicitDefEqProofs (disch := first | exact dd | fail) [Tryz.f50, hlt, h1, h2, he]); (repeat' ((with_reducible first | (refine Br.out ?_ ?_ <;> intro h <;> (try (have h0 := h; simp only [bH] at h))) | refine AC_snd (c1 _ _ _) ?_ | fail) <;> (try simp -implicitDefEqProofs (disch := first | exact dd | fail) [Tryz.f50, hlt, h1, h2, he])))
  | true =>
   rw [if_neg (by simp)] at he
   have hj := ih2 he
   (try simp -implicitDefEqProofs (disch := first | exact dd | fail) [Tryz.f50, hlt, h1, h2]); (repeat' ((with_reducible first | (refine Br.out ?_ ?_ <;> intro h <;> (try (have h0 := h; simp only [bH] at h))) | refine AC_snd (c1 _ _ _) ?_ | fail) <;> (try simp -implicitDefEqProofs (disch := first | exact dd | fail) [Tryz.f50, hlt, h1, h2])))
   all_goals first | exact hj
 ·rw [show 20 - 20 = 0 from rfl, withinN] at he
  (try simp -implicitDefEqProofs (disch := first | exact dd | fail) [Tryz.f50, he]); (repeat' ((with_reducible first | (refine Br.out ?_ ?_ <;> intro h <;> (try (have h0 := h; simp only [bH] at h))) | fail) <;> (try simp -implicitDefEqProofs (disch := first | exact dd | fail) [Tryz.f50, he])))
noncomputable def withinO (f : DFS) (i d : Int) : Bool := isFS f && (hasI f i && (hasI f d && withinN (parentI f) i 20 d))
theorem impl_WithinDir (n1 n2 n3 : Option Bool) (f : DFS) (i d : Int) (hs : SmF f) : Snd Tryz.prog 16 [fFS n1 n2 n3 f, .int .i64 i, .int .i64 d] (.bool (withinO f i d)) [.unk, .unk, .unk] := Runs.snd (M := M) (c := ⟨3, [3, 6], [], []⟩) tok ks mixed Tryz.func16 (p := []) (by kernel_rfl) (by rfl) (by rfl) <| by
 unfold withinO
 by_cases h0 : isFS f = true
 ·have hf := tr_iff.1 h0
  have c1 := fun a b c i => impl_has a b c f i hf.ni
  have c2 := fun a b c => impl_within a b c f i d hf
  by_cases h1 : hasI f i = true
  ·by_cases h2 : hasI f d = true
   ·have h3 := hasI_lt h2
    rw [within_21 (fun e => parentI_in) ⟨h3.1, h3.2.1⟩] at c2
    generalize withinN (parentI f) i 20 d = b at *
    (try simp -implicitDefEqProofs (disch := first | exact dd | fail) [Tryz.f16, h0, h1, h2]); (repeat' ((with_reducible first | (refine Br.out ?_ ?_ <;> intro h <;> (try (have h0 := h; simp only [bH] at h))) | refine AC_snd (impl_IsFS _ _ _ f hs) ?_ | refine AC_snd (c1 _ _ _ _) ?_ | refine AC_snd (c2 _ _ _) ?_ | fail) <;> (try simp -implicitDefEqProofs (disch := first | exact dd | fail) [Tryz.f16, h0, h1, h2])))
   ·have h2' : hasI f d = false := by simpa using h2
    (try simp -implicitDefEqProofs (disch := first | exact dd | fail) [Tryz.f16, h0, h1, h2']); (repeat' ((with_reducible first | (refine Br.out ?_ ?_ <;> intro h <;> (try (have h0 := h; simp only [bH] at h))) | refine AC_snd (impl_IsFS _ _ _ f hs) ?_ | refine AC_snd (c1 _ _ _ _) ?_ | fail) <;> (try simp -implicitDefEqProofs (disch := first | exact dd | fail) [Tryz.f16, h0, h1, h2'])))
  ·have h1' : hasI f i = false := by simpa using h1
   (try simp -implicitDefEqProofs (disch := first | exact dd | fail) [Tryz.f16, h0, h1']); (repeat' ((with_reducible first | (refine Br.out ?_ ?_ <;> intro h <;> (try (have h0 := h; simp only [bH] at h))) | refine AC_snd (impl_IsFS _ _ _ f hs) ?_ | refine AC_snd (c1 _ _ _ _) ?_ | fail) <;> (try simp -implicitDefEqProofs (disch := first | exact dd | fail) [Tryz.f16, h0, h1'])))
 ·have h0' : isFS f = false := by simpa using h0
  (try simp -implicitDefEqProofs (disch := first | exact dd | fail) [Tryz.f16, h0']); (repeat' ((with_reducible first | (refine Br.out ?_ ?_ <;> intro h <;> (try (have h0 := h; simp only [bH] at h))) | refine AC_snd (impl_IsFS _ _ _ f hs) ?_ | fail) <;> (try simp -implicitDefEqProofs (disch := first | exact dd | fail) [Tryz.f16, h0'])))
theorem spec_WithinDir (n1 n2 n3 : Option Bool) (f : DFS) (i d : Int) (hs : SmF f) : Snd Tryz.prog 14 [fFS n1 n2 n3 f, .int .i64 i, .int .i64 d] (.bool (withinO f i d)) [.unk, .unk, .unk] := Runs.snd (M := M) (c := ⟨3, [3, 6], [], []⟩) tok ks mixed Tryz.func14 (p := []) (by kernel_rfl) (by rfl) (by rfl) <| by
 unfold withinO
 have c1 := fun a b c i => spec_l09Use a b c f i hs
 by_cases h0 : isFS f = true
 ·have hf := tr_iff.1 h0
  have c2 := fun a b c => spec_l14Within a b c f i d hf
  generalize withinN (parentI f) i 20 d = b at *
  by_cases h1 : hasI f i = true
  ·by_cases h2 : hasI f d = true
   ·(try simp -implicitDefEqProofs (disch := first | exact dd | fail) [Tryz.f14, h0, h1, h2]); (repeat' ((with_reducible first | (refine Br.out ?_ ?_ <;> intro h <;> (try (have h0 := h; simp only [bH] at h))) | refine AC_snd (c1 _ _ _ _) ?_ | refine AC_snd (c2 _ _ _) ?_ | fail) <;> (try simp -implicitDefEqProofs (disch := first | exact dd | fail) [Tryz.f14, h0, h1, h2])))
   ·have h2' : hasI f d = false := by simpa using h2
    (try simp -implicitDefEqProofs (disch := first | exact dd | fail) [Tryz.f14, h0, h1, h2']); (repeat' ((with_reducible first | (refine Br.out ?_ ?_ <;> intro h <;> (try (have h0 := h; simp only [bH] at h))) | refine AC_snd (c1 _ _ _ _) ?_ | fail) <;> (try simp -implicitDefEqProofs (disch := first | exact dd | fail) [Tryz.f14, h0, h1, h2'])))
  ·have h1' : hasI f i = false := by simpa using h1
   (try simp -implicitDefEqProofs (disch := first | exact dd | fail) [Tryz.f14, h0, h1']); (repeat' ((with_reducible first | (refine Br.out ?_ ?_ <;> intro h <;> (try (have h0 := h; simp only [bH] at h))) | refine AC_snd (c1 _ _ _ _) ?_ | fail) <;> (try simp -implicitDefEqProofs (disch := first | exact dd | fail) [Tryz.f14, h0, h1'])))
 ·have h0' : isFS f = false := by simpa using h0
  (try simp -implicitDefEqProofs (disch := first | exact dd | fail) [Tryz.f14, h0']); (repeat' ((with_reducible first | (refine Br.out ?_ ?_ <;> intro h <;> (try (have h0 := h; simp only [bH] at h))) | refine AC_snd (c1 _ _ _ _) ?_ | fail) <;> (try simp -implicitDefEqProofs (disch := first | exact dd | fail) [Tryz.f14, h0'])))
end Go.Proofs.YtiafmpcmmohdkaaGreat
