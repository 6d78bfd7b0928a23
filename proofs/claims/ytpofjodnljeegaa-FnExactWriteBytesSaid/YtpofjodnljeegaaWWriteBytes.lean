import Derived.Test.YtpofjodnljeegaaWT
import Derived.Test.YtpofjodnljeegaaP14e
namespace Go.Proofs.Ytpofjodnljeegaa
open Go.Fw
set_option linter.unusedVariables false
set_option linter.unusedSimpArgs false
set_option maxHeartbeats 8000000
set_option maxRecDepth 8000
theorem wLoop_WI {f : DFS} {i k0 a : Nat} {s : Str} : ∀ {m k : Nat} {n : DInode} {D : List Str}, WI f i k0 n D → k + m ≤ k0 → a < 32 * k + 32 → 32 * (k + m) < a + s.length + 32 → WI f i k0 (wLoop f i a s m k n D).1 (wLoop f i a s m k n D).2.1
 | 0, k, n, D, h, _, _, _ => h
 | m + 1, k, n, D, h, h1, h2, h3 => by
  rw [wLoop]
  split
  ·rename_i h0
   exact wLoop_WI (h.step (by omega) h0 h2 (by omega)) (by omega) (by omega) (by omega)
  ·exact h
theorem writeF_tiny {f : DFS} {i a : Int} {s : Str} (hs : SmF f) (hf : IsFS f) (hi : hasI f i = true) : Tiny (writeF f i a s).1 := by
 have hi' := hasI_lt hi
 unfold writeF
 split
 ·exact (tiny_of hf)
 split
 ·exact (tiny_of hf)
 split
 ·exact (tiny_of hf)
 rename_i h1 h2 h3
 obtain ⟨I, rfl⟩ := Int.eq_ofNat_of_zero_le hi'.1
 have hI : I < 20 := by omega
 have hlt : I < f.inodes.length := by rw [hf.ni]; omega
 have he := inodeAt_nat hlt
 have hok := (isInode_ok hi'.2.2).1 (hf.sm _ ⟨hi'.1, hi'.2.1⟩)
 rw [he] at hok
 obtain ⟨A, rfl⟩ := Int.eq_ofNat_of_zero_le (show 0 ≤ a by omega)
 have hst := WI.start (e := (A : Int) + s.length) hs hf.nq hf.ni hI (used_inR hf.inode hf.own) (List.getElem?_eq_getElem hlt) hok (by omega) hf.nd hf.secs
 have hsl : 0 < s.length := List.length_pos_iff.2 h3
 simp only [Int.toNat_natCast]
 unfold writeL
 rw [he]
 have hkk : (A + s.length - 1) / 32 < (blocksNeeded (max f.inodes[I].size ((A : Int) + s.length))).toNat := by
  unfold blocksNeeded
  split <;> omega
 have := wLoop_WI (a := A) (s := s) (m := wSteps A s) (k := A / 32) hst (by unfold wSteps; omega) (by omega) (by unfold wSteps; omega)
 have h4 := this.len
 have h5 := this.le8
 have h6 := this.acl
 exact (tiny_of hf).setI (by omega) (by rw [this.nd]; decide)
theorem writeB_sm {f : DFS} {i a : Int} {s : Str} (hs : SmFS f) (m1 : (1 : Int) + ntFS f ≤ 16777216) : SmFS (writeB f i a s).1 ∧ (1 : Int) + ntFS (writeB f i a s).1 ≤ 16777216 := by
 unfold writeB
 split
 ·rename_i hu
  have hu2 := Bool.and_eq_true_iff.1 hu
  split
  ·have ht := writeF_tiny (a := a) (s := s) (smF hs) (tr_iff.1 hu2.1) hu2.2
   exact ⟨ht.sm, by have := ht.nt; simp only; omega⟩
  ·exact ⟨hs, m1⟩
 ·exact ⟨hs, m1⟩
theorem laws_FnExactWriteBytes (n1 n2 n3 : Option Bool) (f : DFS) (i a : Int) (s : Str) (hf : WfFS f) (h1 : (Lit.int .i64 i).wf = true) (h2 : (Lit.int .i64 a).wf = true) (h3 : s.length ≤ maxLen) : Snd Try.prog 9 [fFS n1 n2 n3 f, .int .i64 i, .int .i64 a, .str s] (.bool true) [.unk, .unk, .unk, .unk] := Runs.snd (M := M) (c := ⟨4, [4, 8, 9, 10, 11, 12, 13, 14, 15, 16, 17, 18, 19, 22, 27, 55, 60, 76, 84, 87, 105, 110, 113], [], []⟩) tok ks mixed Try.func9 (p := []) (by kernel_rfl) (by rfl) (by rfl) <| by
 unfold maxLen at h3
 (try simp -implicitDefEqProofs (disch := first | exact dd | fail) [Try.f9]); (repeat' ((with_reducible first | (refine Br.out ?_ ?_ <;> intro h <;> (try (have h0 := h; simp only [bH] at h))) | refine AC_snd (laws_szFS _ _ _ f _ (by omega) (by omega) hf) ?_ | fail) <;> (try simp -implicitDefEqProofs (disch := first | exact dd | fail) [Try.f9])))
 have q1 := szR_ge (Int.not_lt.1 (‹¬ szR (wFS f) 1048576 < 0›))
 have sf : SmFS f := smFS_of (by omega)
 have m1 : (1 : Int) + ntFS f ≤ 16777216 := by have := ntFS_le f; omega
 have hl : s.length ≤ 1048576 := by omega
 have ha : a ≤ 9223372036854775807 := of_decide_eq_true (Bool.and_eq_true_iff.1 h2).2
 have hsp := spec_WriteBytes none none none f i a s (smF sf) hl ha
 have hip := impl_WriteBytes none none none f i a s (smF sf) hl ha
 obtain ⟨sm2, m2⟩ := writeB_sm (i := i) (a := a) (s := s) sf m1
 generalize (writeB f i a s).1 = g at *
 generalize (writeB f i a s).2 = e at *
 (try simp -implicitDefEqProofs (disch := first | exact dd | fail) [Try.f9, mkL_len]); (repeat' ((with_reducible first | (refine Br.out ?_ ?_ <;> intro h <;> (try (have h0 := h; simp only [bH] at h))) | refine AC_snd (laws_toFS _ _ _ f sf) ?_ | refine AC_snd (hsp) ?_ | refine AC_snd (hip) ?_ | refine AC_snd (laws_eqFS _ _ _ _ _ _ g _ sm2) ?_ | refine AC_snd (laws_eqFS _ _ _ _ _ _ f _ sf) ?_ | refine AC_snd (laws_markFS f _ sf (by omega) m1) ?_ | refine AC_snd (laws_markFS g _ sm2 (by omega) m2) ?_ | refine AC_snd (laws_heldFS _ _ _ g _ sm2 (by omega) m2) ?_ | fail) <;> (try simp -implicitDefEqProofs (disch := first | exact dd | fail) [Try.f9, mkL_len])))
end Go.Proofs.Ytpofjodnljeegaa
