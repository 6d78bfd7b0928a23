import Derived.Test.YtpofjodnljeegaaWC
import Derived.Test.YtpofjodnljeegaaP09f
namespace Go.Proofs.Ytpofjodnljeegaa
open Go.Fw
set_option linter.unusedVariables false
set_option linter.unusedSimpArgs false
theorem wLInode_set {l : List DInode} {k : Nat} : wLInode (l.set k zeroInode) ≤ wLInode l := by
 unfold wLInode
 rw [List.length_set]
 have : ∀ (l : List DInode) (k : Nat), wList wInode (l.set k zeroInode) ≤ wList wInode l := by
  intro l
  induction l with
  | nil => intro k; simp [wList]
  | cons x l ih =>
   intro k
   cases k with
   | zero =>
    rw [List.set_cons_zero]
    simp only [wList]
    have : wInode zeroInode = 0 := rfl
    omega
   | succ k =>
    rw [List.set_cons_succ]
    simp only [wList]
    have := ih k
    omega
 have := this l k
 omega
theorem freeObj_cases (f : DFS) (i : Int) : (freeObj f i).1 = f ∨ (freeObj f i).1 = freeF f i := by
 unfold freeObj freeO
 repeat' split
 all_goals simp
theorem freeF_sm {f : DFS} {i : Int} (h : SmFS f) : SmFS (freeF f i) := by
 refine ⟨h.hl_quotas, ?_, ?_, ?_⟩
 ·simpa [freeF] using h.hl_inodes
 ·intro y hy
  rcases List.mem_or_eq_of_mem_set hy with h1 | rfl
  ·exact h.hx_inodes y h1
  ·exact ⟨by simp [zeroInode], by simp [zeroInode], by simp [zeroInode]⟩
 ·rw [freeF, zeroR_len]
  exact h.hl_data
theorem freeF_nt (f : DFS) (i : Int) : ntFS (freeF f i) ≤ 7 * wFS f := by
 have h1 := nLQuota_eq f.quotas
 have h2 := nLInode_le (f.inodes.set i.toNat zeroInode)
 have h4 := wLInode_set (l := f.inodes) (k := i.toNat)
 have h3 := nLString_eq (zeroR f.data (real (inodeAt f i).blocks))
 rw [zeroR_len] at h3
 simp only [ntFS, freeF, wFS, wLString] at *
 omega
set_option maxHeartbeats 8000000 in
set_option maxRecDepth 8000 in
theorem laws_FnExactFreeObject (n1 n2 n3 : Option Bool) (f : DFS) (i : Int) (hf : WfFS f) (h1 : (Lit.int .i64 i).wf = true) : Snd Try.prog 3 [fFS n1 n2 n3 f, .int .i64 i] (.bool true) [.unk, .unk] := Runs.snd (M := M) (c := ⟨2, [2, 4, 5, 6, 7, 8, 9, 10, 11, 12, 13, 14, 15, 20, 44, 49, 65, 73, 76, 92, 97, 100], [], []⟩) tok ks mixed Try.func3 (p := []) (by kernel_rfl) (by rfl) (by rfl) <| by
 (try simp -implicitDefEqProofs (disch := first | exact dd | fail) [Try.f3]); (repeat' ((with_reducible first | (refine Br.out ?_ ?_ <;> intro h <;> (try (have h0 := h; simp only [bH] at h))) | refine AC_snd (laws_szFS _ _ _ f _ (by omega) (by omega) hf) ?_ | fail) <;> (try simp -implicitDefEqProofs (disch := first | exact dd | fail) [Try.f3])))
 have q1 := szR_ge (Int.not_lt.1 (by assumption))
 have sf : SmFS f := smFS_of (by omega)
 have m1 : (1 : Int) + ntFS f ≤ 16777216 := by have := ntFS_le f; omega
 have hsp := spec_FreeObject none none none f i (smF sf)
 have hip := impl_FreeObject none none none f i (smF sf)
 have sm2 : SmFS (freeObj f i).1 := by
  rcases freeObj_cases f i with e | e
  ·rw [e]; exact sf
  ·rw [e]; exact freeF_sm sf
 have m2 : (1 : Int) + ntFS (freeObj f i).1 ≤ 16777216 := by
  rcases freeObj_cases f i with e | e
  ·rw [e]; exact m1
  ·rw [e]
   have := freeF_nt f i
   omega
 generalize (freeObj f i).1 = g at *
 generalize (freeObj f i).2 = e at *
 (try simp -implicitDefEqProofs (disch := first | exact dd | fail) [Try.f3, mkL_len]); (repeat' ((with_reducible first | (refine Br.out ?_ ?_ <;> intro h <;> (try (have h0 := h; simp only [bH] at h))) | refine AC_snd (laws_toFS _ _ _ f sf) ?_ | refine AC_snd (hsp) ?_ | refine AC_snd (hip) ?_ | refine AC_snd (laws_eqFS _ _ _ _ _ _ g _ sm2) ?_ | refine AC_snd (laws_eqFS _ _ _ _ _ _ f _ sf) ?_ | refine AC_snd (laws_markFS f _ sf (by omega) m1) ?_ | refine AC_snd (laws_markFS g _ sm2 (by omega) m2) ?_ | refine AC_snd (laws_heldFS _ _ _ g _ sm2 (by omega) m2) ?_ | fail) <;> (try simp -implicitDefEqProofs (disch := first | exact dd | fail) [Try.f3, mkL_len])))
end Go.Proofs.Ytpofjodnljeegaa
