import Derived.Test.YtgopfdninbknpaaGreatP09c
namespace Go.Proofs.YtgopfdninbknpaaGreat
open Go.Fw
set_option linter.unusedVariables false
set_option linter.unusedSimpArgs false
theorem free_pre {f : DFS} {i : Int} (hf : IsFS f) (hi : hasI f i = true) : (0 ≤ i ∧ i < 20) ∧ ∀ b ∈ (inodeAt f i).blocks, b ≠ -1 → 0 ≤ b ∧ b < 56 := by
 have h := hasI_lt hi
 refine ⟨⟨h.1, h.2.1⟩, ?_⟩
 obtain ⟨k, rfl⟩ := Int.eq_ofNat_of_zero_le h.1
 have hlt : k < f.inodes.length := by rw [hf.ni]; omega
 rw [inodeAt_nat hlt]
 exact (hf.blks (List.getElem_mem hlt)).2.2
theorem impl_free0 (f : DFS) : Snd Tryz.prog 188 [wFS f, .int .i64 0] (.int .i64 1) [wFS f, .unk] := Runs.snd (M := M) (c := ⟨2, [4, 6, 8, 16, 17, 18, 19], [], [(1, [0, 1, 4, 8, 16, 17, 18, 19])]⟩) tok ks mixed Tryz.func188 (p := [0]) (by kernel_rfl) (by rfl) (by rfl) <| by
 (try simp -implicitDefEqProofs (disch := first | exact dd | fail) [Tryz.f188]); (repeat' ((with_reducible first | (refine Br.out ?_ ?_ <;> intro h <;> (try (have h0 := h; simp only [bH] at h))) | fail) <;> (try simp -implicitDefEqProofs (disch := first | exact dd | fail) [Tryz.f188])))
def freeO (f : DFS) (i : Int) : DFS × Int := if i = 0 then (f, 1) else (freeF f i, 0)
noncomputable def freeObj (f : DFS) (i : Int) : DFS × Int := if isFS f && hasI f i then freeO f i else (f, 1)
end Go.Proofs.YtgopfdninbknpaaGreat
