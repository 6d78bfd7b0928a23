import Derived.Test.YtpofjodnljeegaaGreatWT
import Derived.Test.YtpofjodnljeegaaGreatLEntry
import Derived.Test.YtpofjodnljeegaaGreatP10g
namespace Go.Proofs.YtpofjodnljeegaaGreat
open Go.Fw
set_option linter.unusedVariables false
set_option linter.unusedSimpArgs false
set_option maxHeartbeats 8000000
set_option maxRecDepth 8000
theorem laws_FnExactFindEntry (n1 n2 n3 : Option Bool) (f : DFS) (i : Int) (s : Str) (hf : WfFS f) (h1 : (Lit.int .i64 i).wf = true) (h2 : s.length ≤ maxLen) : Snd Tryz.prog 5 [fFS n1 n2 n3 f, .int .i64 i, .str s] (.bool true) [.unk, .unk, .unk] := Runs.snd (M := M) (c := ⟨3, [3, 6, 7, 8, 9, 10, 11, 12, 15, 20, 45, 50], [], []⟩) tok ks mixed Tryz.func5 (p := []) (by kernel_rfl) (by rfl) (by rfl) <| by
 (try simp -implicitDefEqProofs (disch := first | exact dd | fail) [Tryz.f5]); (repeat' ((with_reducible first | (refine Br.out ?_ ?_ <;> intro h <;> (try (have h0 := h; simp only [bH] at h))) | refine AC_snd (laws_szFS _ _ _ f _ (by omega) (by omega) hf) ?_ | fail) <;> (try simp -implicitDefEqProofs (disch := first | exact dd | fail) [Tryz.f5])))
 have q1 := szR_ge (Int.not_lt.1 (‹¬ szR (wFS f) 1048576 < 0›))
 have sf : SmFS f := smFS_of (by omega)
 have hi := fun a b c => impl_FindEntry a b c f i s (smF sf)
 have hs := fun a b c => spec_FindEntry a b c f i s (smF sf)
 generalize findO f i s = A at *
 (try simp -implicitDefEqProofs (disch := first | exact dd | fail) [Tryz.f5]); (repeat' ((with_reducible first | (refine Br.out ?_ ?_ <;> intro h <;> (try (have h0 := h; simp only [bH] at h))) | refine AC_snd (laws_toFS _ _ _ f sf) ?_ | refine AC_snd (hs _ _ _) ?_ | refine AC_snd (hi _ _ _) ?_ | refine AC_snd (laws_eqFS _ _ _ _ _ _ f _ sf) ?_ | fail) <;> (try simp -implicitDefEqProofs (disch := first | exact dd | fail) [Tryz.f5])))
theorem nLDirEntry_eq (xs : List DEntry) : nLDirEntry xs = 2 * xs.length := by
 induction xs with
 | nil => rfl
 | cons x l ih => simp only [nLDirEntry, wList, List.length_cons] at ih ⊢; rw [ih]; simp only [nmDirEntry]; omega
theorem laws_FnExactEntriesOf (n1 n2 n3 : Option Bool) (f : DFS) (i : Int) (hf : WfFS f) (h1 : (Lit.int .i64 i).wf = true) : Snd Tryz.prog 6 [fFS n1 n2 n3 f, .int .i64 i] (.bool true) [.unk, .unk] := Runs.snd (M := M) (c := ⟨2, [2, 4, 5, 6, 7, 8, 9, 10, 11, 12, 17, 30, 35, 46, 54, 57, 65, 70, 73], [], []⟩) tok ks mixed Tryz.func6 (p := []) (by kernel_rfl) (by rfl) (by rfl) <| by
 (try simp -implicitDefEqProofs (disch := first | exact dd | fail) [Tryz.f6]); (repeat' ((with_reducible first | (refine Br.out ?_ ?_ <;> intro h <;> (try (have h0 := h; simp only [bH] at h))) | refine AC_snd (laws_szFS _ _ _ f _ (by omega) (by omega) hf) ?_ | fail) <;> (try simp -implicitDefEqProofs (disch := first | exact dd | fail) [Tryz.f6])))
 have q1 := szR_ge (Int.not_lt.1 (‹¬ szR (wFS f) 1048576 < 0›))
 have sf : SmFS f := smFS_of (by omega)
 have m1 : (1 : Int) + ntFS f ≤ 16777216 := by have := ntFS_le f; omega
 have hi := impl_EntriesOf none none none f i (smF sf)
 have hsp := spec_EntriesOf none none none f i (smF sf)
 have hRl : (entriesO f i).length ≤ 1048576 := by
  unfold entriesO
  split
  ·rename_i h
   rw [Bool.and_eq_true] at h
   have := entriesI_le (tr_iff.1 h.1) (isDirI_lt h.2)
   omega
  ·simp
 generalize entriesO f i = R at *
 have m2 : (1 : Int) + nLDirEntry R ≤ 16777216 := by rw [nLDirEntry_eq]; omega
 have l1 : R.length ≤ maxLen := by unfold maxLen; omega
 (try simp -implicitDefEqProofs (disch := first | exact dd | fail) [Tryz.f6, mkL_len]); (repeat' ((with_reducible first | (refine Br.out ?_ ?_ <;> intro h <;> (try (have h0 := h; simp only [bH] at h))) | refine AC_snd (laws_toFS _ _ _ f sf) ?_ | refine AC_snd (hsp) ?_ | refine AC_snd (hi) ?_ | refine AC_snd (laws_eqFS _ _ _ _ _ _ f _ sf) ?_ | refine AC_snd (laws_eqDirEntryS _ _ R _ hRl) ?_ | refine AC_snd (laws_markFS f _ sf (by omega) m1) ?_ | refine AC_snd (laws_markDirEntryS R _ hRl (by omega) m2) ?_ | refine AC_snd (laws_heldDirEntryS _ R _ hRl (by omega) m2) ?_ | fail) <;> (try simp -implicitDefEqProofs (disch := first | exact dd | fail) [Tryz.f6, mkL_len])))
end Go.Proofs.YtpofjodnljeegaaGreat
