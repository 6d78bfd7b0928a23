import Derived.Test.YtpofjodnljeegaaWT
import Derived.Test.YtpofjodnljeegaaP13a
namespace Go.Proofs.Ytpofjodnljeegaa
open Go.Fw
set_option linter.unusedVariables false
set_option linter.unusedSimpArgs false
set_option maxHeartbeats 8000000
set_option maxRecDepth 8000
theorem DI.tiny {f g : DFS} (h : DI f g) (hf : IsFS f) (hb : ∀ n ∈ g.inodes, n = zeroInode ∨ n ∈ f.inodes) : Tiny g := by
 have := tiny_of hf
 refine ⟨by rw [h.nq, hf.nq]; decide, by rw [h.ni, hf.ni]; decide, fun n hn => ?_, by rw [h.nd, hf.nd]; decide⟩
 rcases hb n hn with rfl | h1
 ·simp [zeroInode]
 ·exact this.inode n h1
theorem drop_mem {f : DFS} {busy : List Int} : ∀ {l : List Int} {g : DFS}, (∀ n ∈ g.inodes, n = zeroInode ∨ n ∈ f.inodes) → ∀ n ∈ (l.foldl (dropStep busy) g).inodes, n = zeroInode ∨ n ∈ f.inodes := by
 intro l
 induction l with
 | nil => exact fun h => h
 | cons i l ih =>
  intro g h
  refine ih (g := dropStep busy g i) ?_
  unfold dropStep
  split
  ·intro n hn
   rcases List.mem_or_eq_of_mem_set hn with h1 | rfl
   ·exact h n h1
   ·exact .inl rfl
  ·exact h
theorem dropO_sm {f : DFS} {busy : List Int} (hs : SmFS f) (m1 : (1 : Int) + ntFS f ≤ 16777216) : SmFS (dropO f busy) ∧ (1 : Int) + ntFS (dropO f busy) ≤ 16777216 := by
 have hd0 : DI f f := ⟨smF hs, rfl, rfl, rfl, fun h => h⟩
 unfold dropO
 split
 ·rename_i hf
  have ht := (hd0.all (busy := busy) (l := orph f.inodes)).tiny (tr_iff.1 hf) (drop_mem (fun n hn => .inr hn))
  exact ⟨ht.sm, by have := ht.nt; omega⟩
 ·exact ⟨hs, m1⟩
theorem laws_FnExactDropOrphans (n1 n2 n3 n4 : Option Bool) (f : DFS) (l : List Int) (hf : WfFS f) (h1 : l.length ≤ maxLen) : Snd Try.prog 6 [fFS n1 n2 n3 f, .frz 1 n4 (l.map ci)] (.bool true) [.unk, .unk] := Runs.snd (M := M) (c := ⟨2, [2, 4, 5, 6, 7, 8, 9, 10, 11, 12, 13, 16, 21, 37, 42, 47, 61, 69, 72, 81, 86, 89], [], []⟩) tok ks mixed Try.func6 (p := []) (by kernel_rfl) (by rfl) (by rfl) <| by
 have h1' := h1
 unfold maxLen at h1'
 (try simp -implicitDefEqProofs (disch := first | exact dd | fail) [Try.f6]); (repeat' ((with_reducible first | (refine Br.out ?_ ?_ <;> intro h <;> (try (have h0 := h; simp only [bH] at h))) | refine AC_snd (laws_szFS _ _ _ f _ (by omega) (by omega) hf) ?_ | fail) <;> (try simp -implicitDefEqProofs (disch := first | exact dd | fail) [Try.f6])))
 have q1 := szR_ge (Int.not_lt.1 (‹¬ szR (wFS f) 1048576 < 0›))
 have sf : SmFS f := smFS_of (by omega)
 have m1 : (1 : Int) + ntFS f ≤ 16777216 := by have := ntFS_le f; omega
 have hl : l.length ≤ 1048576 := by omega
 have hsp := spec_DropOrphans none none none none f l (smF sf) hl
 have hip := impl_DropOrphans none none none none f l (smF sf) hl
 obtain ⟨sm2, m2⟩ := dropO_sm (busy := l) sf m1
 have hn2 : nLInt l = l.length := nLInt_eq _
 have m3 : (1 : Int) + ntFS f ≤ 8388608 := by have := ntFS_le f; omega
 generalize dropO f l = g at *
 (try simp -implicitDefEqProofs (disch := first | exact dd | fail) [Try.f6, mkL_len]); (repeat' ((with_reducible first | (refine Br.out ?_ ?_ <;> intro h <;> (try (have h0 := h; simp only [bH] at h))) | refine AC_snd (laws_toFS _ _ _ f sf) ?_ | refine AC_snd (laws_toIntS _ l hl) ?_ | refine AC_snd (hsp) ?_ | refine AC_snd (hip) ?_ | refine AC_snd (laws_eqFS _ _ _ _ _ _ g _ sm2) ?_ | refine AC_snd (laws_eqFS _ _ _ _ _ _ f _ sf) ?_ | refine AC_snd (laws_eqIntS _ _ l _ h1) ?_ | refine AC_snd (laws_eqIntS _ _ l _ hl) ?_ | refine AC_snd (laws_markFS f _ sf (by omega) m1) ?_ | refine AC_snd (laws_markFS g _ sm2 (by omega) m2) ?_ | refine AC_snd (laws_markIntS l _ hl (by omega) (by simp only [ntFS] at m3; omega)) ?_ | refine AC_snd (laws_heldFS _ _ _ g _ sm2 (by omega) m2) ?_ | fail) <;> (try simp -implicitDefEqProofs (disch := first | exact dd | fail) [Try.f6, mkL_len])))
end Go.Proofs.Ytpofjodnljeegaa
