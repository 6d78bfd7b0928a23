import Derived.Test.YtpofjodnljeegaaGreatP10f
namespace Go.Proofs.YtpofjodnljeegaaGreat
open Go.Fw
set_option linter.unusedVariables false
set_option linter.unusedSimpArgs false
set_option maxHeartbeats 4000000
set_option maxRecDepth 8000
noncomputable def findO (f : DFS) (i : Int) (s : Str) : Int × Bool := if isFS f && isDirI f i then findE (entriesI f i) s else (0, false)
noncomputable def entriesO (f : DFS) (i : Int) : List DEntry := if isFS f && isDirI f i then entriesI f i else []
theorem impl_FindEntry (n1 n2 n3 : Option Bool) (f : DFS) (i : Int) (s : Str) (hs : SmF f) : Snd Tryz.prog 15 [fFS n1 n2 n3 f, .int .i64 i, .str s] (.tup [.int .i64 (findO f i s).1, .bool (findO f i s).2]) [.unk, .unk, .unk] := Runs.snd (M := M) (c := ⟨3, [3, 6, 7, 15], [], []⟩) tok ks mixed Tryz.func15 (p := []) (by kernel_rfl) (by rfl) (by rfl) <| by
 unfold findO
 (try simp -implicitDefEqProofs (disch := first | exact dd | fail) [Tryz.f15]); (repeat' ((with_reducible first | (refine Br.out ?_ ?_ <;> intro h <;> (try (have h0 := h; simp only [bH] at h))) | refine AC_snd (impl_IsFS _ _ _ f hs) ?_ | refine AC_snd (impl_isDir _ _ _ f _ (tr_iff.1 (by assumption : isFS f = true)).ni) ?_ | refine AC_snd (impl_find _ _ _ f _ s (tr_iff.1 (by assumption : isFS f = true)) (isDirI_lt (by assumption))) ?_ | fail) <;> (try simp -implicitDefEqProofs (disch := first | exact dd | fail) [Tryz.f15])))
 all_goals simp [*]
theorem impl_EntriesOf (n1 n2 n3 : Option Bool) (f : DFS) (i : Int) (hs : SmF f) : Snd Tryz.prog 17 [fFS n1 n2 n3 f, .int .i64 i] (.row 2 ((entriesO f i).map cEntry)) [.unk, .unk] := Runs.snd (M := M) (c := ⟨2, [2, 4, 12], [], []⟩) tok ks mixed Tryz.func17 (p := []) (by kernel_rfl) (by rfl) (by rfl) <| by
 unfold entriesO
 (try simp -implicitDefEqProofs (disch := first | exact dd | fail) [Tryz.f17]); (repeat' ((with_reducible first | (refine Br.out ?_ ?_ <;> intro h <;> (try (have h0 := h; simp only [bH] at h))) | refine AC_snd (impl_IsFS _ _ _ f hs) ?_ | refine AC_snd (impl_isDir _ _ _ f _ (tr_iff.1 (by assumption : isFS f = true)).ni) ?_ | refine AC_snd (impl_entries _ _ _ f _ (tr_iff.1 (by assumption : isFS f = true)) (isDirI_lt (by assumption))) ?_ | fail) <;> (try simp -implicitDefEqProofs (disch := first | exact dd | fail) [Tryz.f17])))
 all_goals simp [*]
theorem spec_FindEntry (n1 n2 n3 : Option Bool) (f : DFS) (i : Int) (s : Str) (hs : SmF f) : Snd Tryz.prog 14 [fFS n1 n2 n3 f, .int .i64 i, .str s] (.tup [.int .i64 (findO f i s).1, .bool (findO f i s).2]) [.unk, .unk, .unk] := Runs.snd (M := M) (c := ⟨3, [3, 6, 7, 11], [], []⟩) tok ks mixed Tryz.func14 (p := []) (by kernel_rfl) (by rfl) (by rfl) <| by
 have hdc := dir_code (f := f) (i := i)
 unfold findO
 by_cases hd : isFS f = true ∧ isDirI f i = true
 ·have hD0 := hdc.2 hd
  (try simp -implicitDefEqProofs (disch := first | exact dd | fail) [Tryz.f14, hD0]); (repeat' ((with_reducible first | (refine Br.out ?_ ?_ <;> intro h <;> (try (have h0 := h; simp only [bH] at h))) | refine AC_snd (spec_l10Dir _ _ _ f _ hs) ?_ | refine AC_snd (spec_l10Find _ _ _ f _ s (tr_iff.1 hd.1) (isDirI_lt hd.2)) ?_ | fail) <;> (try simp -implicitDefEqProofs (disch := first | exact dd | fail) [Tryz.f14, hD0])))
  all_goals simp [hd.1, hd.2]
 ·have hD0 : ¬ dirCode f i = 0 := fun e => hd (hdc.1 e)
  (try simp -implicitDefEqProofs (disch := first | exact dd | fail) [Tryz.f14, hD0]); (repeat' ((with_reducible first | (refine Br.out ?_ ?_ <;> intro h <;> (try (have h0 := h; simp only [bH] at h))) | refine AC_snd (spec_l10Dir _ _ _ f _ hs) ?_ | fail) <;> (try simp -implicitDefEqProofs (disch := first | exact dd | fail) [Tryz.f14, hD0])))
  all_goals (rw [if_neg (by simpa using hd)]; simp)
theorem spec_EntriesOf (n1 n2 n3 : Option Bool) (f : DFS) (i : Int) (hs : SmF f) : Snd Tryz.prog 16 [fFS n1 n2 n3 f, .int .i64 i] (.row 2 ((entriesO f i).map cEntry)) [.unk, .unk] := Runs.snd (M := M) (c := ⟨2, [2, 4, 8], [], []⟩) tok ks mixed Tryz.func16 (p := []) (by kernel_rfl) (by rfl) (by rfl) <| by
 have hdc := dir_code (f := f) (i := i)
 unfold entriesO
 by_cases hd : isFS f = true ∧ isDirI f i = true
 ·have hD0 := hdc.2 hd
  (try simp -implicitDefEqProofs (disch := first | exact dd | fail) [Tryz.f16, hD0]); (repeat' ((with_reducible first | (refine Br.out ?_ ?_ <;> intro h <;> (try (have h0 := h; simp only [bH] at h))) | refine AC_snd (spec_l10Dir _ _ _ f _ hs) ?_ | refine AC_snd (spec_l10Entries _ _ _ f _ (tr_iff.1 hd.1) (isDirI_lt hd.2)) ?_ | fail) <;> (try simp -implicitDefEqProofs (disch := first | exact dd | fail) [Tryz.f16, hD0])))
  all_goals simp [hd.1, hd.2]
 ·have hD0 : ¬ dirCode f i = 0 := fun e => hd (hdc.1 e)
  (try simp -implicitDefEqProofs (disch := first | exact dd | fail) [Tryz.f16, hD0]); (repeat' ((with_reducible first | (refine Br.out ?_ ?_ <;> intro h <;> (try (have h0 := h; simp only [bH] at h))) | refine AC_snd (spec_l10Dir _ _ _ f _ hs) ?_ | fail) <;> (try simp -implicitDefEqProofs (disch := first | exact dd | fail) [Tryz.f16, hD0])))
  all_goals (intro h1 h2; exact absurd ⟨h1, h2⟩ hd)
end Go.Proofs.YtpofjodnljeegaaGreat
