import Derived.Test.YtpofjodnljeegaaP09c
namespace Go.Proofs.Ytpofjodnljeegaa
open Go.Fw
set_option linter.unusedVariables false
set_option linter.unusedSimpArgs false
theorem free_pre {f : DFS} {i : Int} (hf : IsFS f) (hi : hasI f i = true) : (0 ≤ i ∧ i < 20) ∧ ∀ b ∈ (inodeAt f i).blocks, b ≠ -1 → 0 ≤ b ∧ b < 56 := by
 have h := hasI_lt hi
 refine ⟨⟨h.1, h.2.1⟩, ?_⟩
 obtain ⟨k, rfl⟩ := Int.eq_ofNat_of_zero_le h.1
 have hlt : k < f.inodes.length := by rw [hf.ni]; omega
 rw [inodeAt_nat hlt]
 exact (hf.blks (List.getElem_mem hlt)).2.2
theorem impl_free0 (f : DFS) : Snd Try.prog 52 [wFS f, .int .i64 0] (.int .i64 1) [wFS f, .unk] := Runs.snd (M := M) (c := ⟨2, [4, 6, 8, 16, 17, 18, 19], [], [(1, [0, 1, 4, 8, 16, 17, 18, 19])]⟩) tok ks mixed Try.func52 (p := [0]) (by kernel_rfl) (by rfl) (by rfl) <| by
 (try simp -implicitDefEqProofs (disch := first | exact dd | fail) [Try.f52]); (repeat' ((with_reducible first | (refine Br.out ?_ ?_ <;> intro h <;> (try (have h0 := h; simp only [bH] at h))) | fail) <;> (try simp -implicitDefEqProofs (disch := first | exact dd | fail) [Try.f52])))
def freeO (f : DFS) (i : Int) : DFS × Int := if i = 0 then (f, 1) else (freeF f i, 0)
set_option maxHeartbeats 4000000 in
set_option maxRecDepth 8000 in
theorem impl_FreeObject1 (f : DFS) (i : Int) (hs : SmF f) (hf : IsFS f) (hi : hasI f i = true) : Snd Try.prog 51 [wFS f, .fptr [.int .i64 i]] (.int .i64 (freeO f i).2) [wFS (freeO f i).1, .unk] := Runs.snd (M := M) (c := ⟨1, [1, 3], [], []⟩) tok ks mixed Try.func51 (p := [0]) (by kernel_rfl) (by rfl) (by rfl) <| by
 have hp := free_pre hf hi
 by_cases h0 : i = 0
 ·subst h0
  rw [freeO, if_pos rfl]
  (try simp -implicitDefEqProofs (disch := first | exact dd | fail) [Try.f51]); (repeat' ((with_reducible first | (refine Br.out ?_ ?_ <;> intro h <;> (try (have h0 := h; simp only [bH] at h))) | refine AC_snd (impl_free0 f) ?_ | fail) <;> (try simp -implicitDefEqProofs (disch := first | exact dd | fail) [Try.f51])))
 ·rw [freeO, if_neg h0]
  obtain ⟨g, hg⟩ : ∃ g, g = freeF f i := ⟨_, rfl⟩
  have hc := impl_free f i hs hp.1 hf.ni h0 hf.nd hp.2
  rw [← hg] at hc ⊢
  (try simp -implicitDefEqProofs (disch := first | exact dd | fail) [Try.f51]); (repeat' ((with_reducible first | (refine Br.out ?_ ?_ <;> intro h <;> (try (have h0 := h; simp only [bH] at h))) | refine AC_snd (hc) ?_ | fail) <;> (try simp -implicitDefEqProofs (disch := first | exact dd | fail) [Try.f51])))
set_option maxHeartbeats 4000000 in
set_option maxRecDepth 8000 in
theorem impl_changed_FreeObject (n1 n2 n3 : Option Bool) (f : DFS) (i : Int) (hs : SmF f) (hf : IsFS f) (hi : hasI f i = true) : Snd Try.prog 50 [fFS n1 n2 n3 f, .fn 51 [.fptr [.int .i64 i]]] (.tup [rFS (freeO f i).1, .int .i64 (freeO f i).2]) [.unk, .unk] := Runs.snd (M := M) (c := ⟨2, [2, 4, 5, 6, 7, 13], [], []⟩) tok ks mixed Try.func50 (p := []) (by kernel_rfl) (by rfl) (by rfl) <| by
 have hc := impl_FreeObject1 f i hs hf hi
 have h1 : ¬ (freeO f i).2 = 0 → (freeO f i).1 = f ∧ (freeO f i).2 = 1 := by
  unfold freeO
  split <;> simp
 generalize freeO f i = r at *
 obtain ⟨g, e⟩ := r
 by_cases he : e = 0
 ·subst he
  (try simp -implicitDefEqProofs (disch := first | exact dd | fail) [Try.f50]); (repeat' ((with_reducible first | (refine Br.out ?_ ?_ <;> intro h <;> (try (have h0 := h; simp only [bH] at h))) | refine AC_snd (impl_copyFS _ _ _ f hs) ?_ | refine AC_snd (hc) ?_ | fail) <;> (try simp -implicitDefEqProofs (disch := first | exact dd | fail) [Try.f50])))
 ·obtain ⟨rfl, rfl⟩ := h1 he
  (try simp -implicitDefEqProofs (disch := first | exact dd | fail) [Try.f50]); (repeat' ((with_reducible first | (refine Br.out ?_ ?_ <;> intro h <;> (try (have h0 := h; simp only [bH] at h))) | refine AC_snd (impl_copyFS _ _ _ _ hs) ?_ | refine AC_snd (hc) ?_ | fail) <;> (try simp -implicitDefEqProofs (disch := first | exact dd | fail) [Try.f50])))
noncomputable def freeObj (f : DFS) (i : Int) : DFS × Int := if isFS f && hasI f i then freeO f i else (f, 1)
set_option maxHeartbeats 4000000 in
set_option maxRecDepth 8000 in
theorem impl_FreeObject (n1 n2 n3 : Option Bool) (f : DFS) (i : Int) (hs : SmF f) : Snd Try.prog 13 [fFS n1 n2 n3 f, .int .i64 i] (.tup [rFS (freeObj f i).1, .int .i64 (freeObj f i).2]) [.unk, .unk] := Runs.snd (M := M) (c := ⟨2, [2, 3, 4, 5, 9], [], []⟩) tok ks mixed Try.func13 (p := []) (by kernel_rfl) (by rfl) (by rfl) <| by
 by_cases hu : (isFS f && hasI f i) = true
 ·have hu2 := Bool.and_eq_true_iff.1 hu
  rw [freeObj, if_pos hu]
  (try simp -implicitDefEqProofs (disch := first | exact dd | fail) [Try.f13, hu]); (repeat' ((with_reducible first | (refine Br.out ?_ ?_ <;> intro h <;> (try (have h0 := h; simp only [bH] at h))) | refine AC_snd (impl_inUse _ _ _ f _ hs) ?_ | refine AC_snd (impl_changed_FreeObject _ _ _ f i hs (tr_iff.1 hu2.1) hu2.2) ?_ | fail) <;> (try simp -implicitDefEqProofs (disch := first | exact dd | fail) [Try.f13, hu])))
 ·have hu' : (isFS f && hasI f i) = false := by simpa using hu
  rw [freeObj, if_neg hu]
  (try simp -implicitDefEqProofs (disch := first | exact dd | fail) [Try.f13, hu']); (repeat' ((with_reducible first | (refine Br.out ?_ ?_ <;> intro h <;> (try (have h0 := h; simp only [bH] at h))) | refine AC_snd (impl_inUse _ _ _ f _ hs) ?_ | refine AC_snd (impl_copyFS _ _ _ f hs) ?_ | fail) <;> (try simp -implicitDefEqProofs (disch := first | exact dd | fail) [Try.f13, hu'])))
end Go.Proofs.Ytpofjodnljeegaa
