import Derived.Test.YtpofjodnljeegaaWT
import Derived.Test.YtpofjodnljeegaaP14k
namespace Go.Proofs.Ytpofjodnljeegaa
open Go.Fw
set_option linter.unusedVariables false
set_option linter.unusedSimpArgs false
set_option maxHeartbeats 8000000
set_option maxRecDepth 8000
theorem mvLoop_len {f : DFS} {i : Nat} {u : Int} : ∀ {m k : Nat} {n : DInode} {D : List Str}, (mvLoop f i u m k n D).1.blocks.length = n.blocks.length ∧ (mvLoop f i u m k n D).1.acl = n.acl ∧ (mvLoop f i u m k n D).1.dflt = n.dflt ∧ (mvLoop f i u m k n D).2.1.length = D.length
 | 0, k, n, D => ⟨rfl, rfl, rfl, rfl⟩
 | m + 1, k, n, D => by
  rw [mvLoop]
  split
  ·exact mvLoop_len
  split
  ·have := mvLoop_len (f := f) (i := i) (u := u) (m := m) (k := k + 1) (n := wN n k (nextB (setI f i n) u).1) (D := mvD D (nextB (setI f i n) u).1 (n.blocks.getD k 0))
   refine ⟨?_, this.2.1, this.2.2.1, ?_⟩
   ·rw [this.1]; simp [wN]
   ·rw [this.2.2.2]; simp [mvD]
  ·exact ⟨rfl, rfl, rfl, rfl⟩
theorem moveP_tiny {f : DFS} {i u : Int} (hf : IsFS f) (hi : hasI f i = true) : Tiny (moveP f i u).1 := by
 have hi' := hasI_lt hi
 unfold moveP
 split
 ·exact tiny_of hf
 split
 ·exact tiny_of hf
 have hn := hf.sm i ⟨hi'.1, hi'.2.1⟩
 have hl := hn.len
 have := mvLoop_len (f := f) (i := i.toNat) (u := u) (m := (inodeAt f i.toNat).blocks.length) (k := 0) (n := inodeAt f i.toNat) (D := f.data)
 rw [← moveL] at this
 have e : inodeAt f (i.toNat : Nat) = inodeAt f i := by rw [Int.toNat_of_nonneg hi'.1]
 rw [e] at this
 have hfd := hf.nd
 refine (tiny_of hf).setI ⟨?_, ?_, ?_⟩ ?_
 ·simp only; omega
 ·simp only; rw [this.2.1]; omega
 ·simp only; rw [this.2.2.1]; omega
 ·omega
theorem moveO_sm {f : DFS} {i u : Int} (hs : SmFS f) (m1 : (1 : Int) + ntFS f ≤ 16777216) : SmFS (moveO f i u).1 ∧ (1 : Int) + ntFS (moveO f i u).1 ≤ 16777216 := by
 unfold moveO
 split
 ·rename_i hu
  have hu2 := Bool.and_eq_true_iff.1 hu
  split
  ·have ht := moveP_tiny (u := u) (tr_iff.1 hu2.1) hu2.2
   exact ⟨ht.sm, by have := ht.nt; simp only; omega⟩
  ·exact ⟨hs, m1⟩
 ·exact ⟨hs, m1⟩
theorem laws_FnExactMoveOwner (n1 n2 n3 : Option Bool) (f : DFS) (i a : Int) (hf : WfFS f) (h1 : (Lit.int .i64 i).wf = true) (h2 : (Lit.int .i64 a).wf = true) : Snd Try.prog 7 [fFS n1 n2 n3 f, .int .i64 i, .int .i64 a] (.bool true) [.unk, .unk, .unk] := Runs.snd (M := M) (c := ⟨3, [3, 6, 7, 8, 9, 10, 11, 12, 13, 14, 15, 16, 17, 22, 48, 53, 69, 77, 80, 97, 102, 105], [], []⟩) tok ks mixed Try.func7 (p := []) (by kernel_rfl) (by rfl) (by rfl) <| by
 (try simp -implicitDefEqProofs (disch := first | exact dd | fail) [Try.f7]); (repeat' ((with_reducible first | (refine Br.out ?_ ?_ <;> intro h <;> (try (have h0 := h; simp only [bH] at h))) | refine AC_snd (laws_szFS _ _ _ f _ (by omega) (by omega) hf) ?_ | fail) <;> (try simp -implicitDefEqProofs (disch := first | exact dd | fail) [Try.f7])))
 have q1 := szR_ge (Int.not_lt.1 (‹¬ szR (wFS f) 1048576 < 0›))
 have sf : SmFS f := smFS_of (by omega)
 have m1 : (1 : Int) + ntFS f ≤ 16777216 := by have := ntFS_le f; omega
 have hsp := spec_MoveOwner none none none f i a (smF sf)
 have hip := impl_MoveOwner none none none f i a (smF sf)
 obtain ⟨sm2, m2⟩ := moveO_sm (i := i) (u := a) sf m1
 generalize (moveO f i a).1 = g at *
 generalize (moveO f i a).2 = e at *
 (try simp -implicitDefEqProofs (disch := first | exact dd | fail) [Try.f7, mkL_len]); (repeat' ((with_reducible first | (refine Br.out ?_ ?_ <;> intro h <;> (try (have h0 := h; simp only [bH] at h))) | refine AC_snd (laws_toFS _ _ _ f sf) ?_ | refine AC_snd (hsp) ?_ | refine AC_snd (hip) ?_ | refine AC_snd (laws_eqFS _ _ _ _ _ _ g _ sm2) ?_ | refine AC_snd (laws_eqFS _ _ _ _ _ _ f _ sf) ?_ | refine AC_snd (laws_markFS f _ sf (by omega) m1) ?_ | refine AC_snd (laws_markFS g _ sm2 (by omega) m2) ?_ | refine AC_snd (laws_heldFS _ _ _ g _ sm2 (by omega) m2) ?_ | fail) <;> (try simp -implicitDefEqProofs (disch := first | exact dd | fail) [Try.f7, mkL_len])))
end Go.Proofs.Ytpofjodnljeegaa
