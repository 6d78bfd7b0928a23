import Derived.Test.YtpofjodnljeegaaGreatP08b
import Derived.Test.YtpofjodnljeegaaGreatP08c
import Derived.Test.YtpofjodnljeegaaGreatP06b
namespace Go.Proofs.YtpofjodnljeegaaGreat
open Go.Fw
set_option linter.unusedVariables false
set_option linter.unusedSimpArgs false
theorem impl_has (n1 n2 n3 : Option Bool) (f : DFS) (i : Int) (hn : f.inodes.length = 20) : Snd Tryz.prog 64 [pFS n1 n2 n3 f, .int .i64 i] (.bool (hasI f i)) [.unk, .unk] := Runs.snd (M := M) (c := ⟨2, [4], [], []⟩) tok ks mixed Tryz.func64 (p := []) (by kernel_rfl) (by rfl) (by rfl) <| by
 by_cases hi : 0 ≤ i ∧ i < 20
 ·obtain ⟨k, rfl⟩ := Int.eq_ofNat_of_zero_le hi.1
  have hlt : k < f.inodes.length := by omega
  have he := inodeAt_nat hlt
  (try simp -implicitDefEqProofs (disch := first | exact dd | fail) [Tryz.f64, hlt, cInode]); (repeat' ((with_reducible first | (refine Br.out ?_ ?_ <;> intro h <;> (try (have h0 := h; simp only [bH] at h))) | fail) <;> (try simp -implicitDefEqProofs (disch := first | exact dd | fail) [Tryz.f64, hlt, cInode])))
  all_goals simp [hasI, he, *]
 ·(try simp -implicitDefEqProofs (disch := first | exact dd | fail) [Tryz.f64]); (repeat' ((with_reducible first | (refine Br.out ?_ ?_ <;> intro h <;> (try (have h0 := h; simp only [bH] at h))) | fail) <;> (try simp -implicitDefEqProofs (disch := first | exact dd | fail) [Tryz.f64])))
  all_goals first | omega | (simp [hasI]; omega)
theorem impl_isDir (n1 n2 n3 : Option Bool) (f : DFS) (i : Int) (hn : f.inodes.length = 20) : Snd Tryz.prog 39 [pFS n1 n2 n3 f, .int .i64 i] (.bool (isDirI f i)) [.unk, .unk] := Runs.snd (M := M) (c := ⟨2, [4], [], []⟩) tok ks mixed Tryz.func39 (p := []) (by kernel_rfl) (by rfl) (by rfl) <| by
 by_cases hi : 0 ≤ i ∧ i < 20
 ·obtain ⟨k, rfl⟩ := Int.eq_ofNat_of_zero_le hi.1
  have hlt : k < f.inodes.length := by omega
  have he := inodeAt_nat hlt
  (try simp -implicitDefEqProofs (disch := first | exact dd | fail) [Tryz.f39, hlt, cInode]); (repeat' ((with_reducible first | (refine Br.out ?_ ?_ <;> intro h <;> (try (have h0 := h; simp only [bH] at h))) | refine AC_snd (impl_has _ _ _ f _ hn) ?_ | fail) <;> (try simp -implicitDefEqProofs (disch := first | exact dd | fail) [Tryz.f39, hlt, cInode])))
  all_goals simp [isDirI, he, *]
 ·have hf : hasI f i = false := by simp only [hasI, Bool.and_eq_false_iff, decide_eq_false_iff_not]; omega
  (try simp -implicitDefEqProofs (disch := first | exact dd | fail) [Tryz.f39, hf]); (repeat' ((with_reducible first | (refine Br.out ?_ ?_ <;> intro h <;> (try (have h0 := h; simp only [bH] at h))) | refine AC_snd (impl_has _ _ _ f _ hn) ?_ | fail) <;> (try simp -implicitDefEqProofs (disch := first | exact dd | fail) [Tryz.f39, hf])))
  all_goals simp [isDirI, hf]
theorem spec_l09Use (n1 n2 n3 : Option Bool) (f : DFS) (i : Int) (hs : SmF f) : Snd Tryz.prog 63 [fFS n1 n2 n3 f, .int .i64 i] (.bool (isFS f && hasI f i)) [.unk, .unk] := Runs.snd (M := M) (c := ⟨2, [2, 4], [], []⟩) tok ks mixed Tryz.func63 (p := []) (by kernel_rfl) (by rfl) (by rfl) <| by
 by_cases hf : isFS f = true
 ·have hn := (tr_iff.1 hf).ni
  by_cases hi : 0 ≤ i ∧ i < 20
  ·obtain ⟨k, rfl⟩ := Int.eq_ofNat_of_zero_le hi.1
   have hlt : k < f.inodes.length := by omega
   have he := inodeAt_nat hlt
   (try simp -implicitDefEqProofs (disch := first | exact dd | fail) [Tryz.f63, hlt, hf, cInode]); (repeat' ((with_reducible first | (refine Br.out ?_ ?_ <;> intro h <;> (try (have h0 := h; simp only [bH] at h))) | refine AC_snd (spec_IsFS _ _ _ f hs) ?_ | refine AC_snd (spec_l01In _ _ _) ?_ | fail) <;> (try simp -implicitDefEqProofs (disch := first | exact dd | fail) [Tryz.f63, hlt, hf, cInode])))
   all_goals first | omega | (simp [hasI, he, *]; done) | (simp [hasI, he, *]; omega)
  ·(try simp -implicitDefEqProofs (disch := first | exact dd | fail) [Tryz.f63, hf]); (repeat' ((with_reducible first | (refine Br.out ?_ ?_ <;> intro h <;> (try (have h0 := h; simp only [bH] at h))) | refine AC_snd (spec_IsFS _ _ _ f hs) ?_ | refine AC_snd (spec_l01In _ _ _) ?_ | fail) <;> (try simp -implicitDefEqProofs (disch := first | exact dd | fail) [Tryz.f63, hf])))
   all_goals first | omega | (simp [hasI]; omega)
 ·have hf' : isFS f = false := by simpa using hf
  (try simp -implicitDefEqProofs (disch := first | exact dd | fail) [Tryz.f63, hf']); (repeat' ((with_reducible first | (refine Br.out ?_ ?_ <;> intro h <;> (try (have h0 := h; simp only [bH] at h))) | refine AC_snd (spec_IsFS _ _ _ f hs) ?_ | fail) <;> (try simp -implicitDefEqProofs (disch := first | exact dd | fail) [Tryz.f63, hf'])))
  all_goals simp [hf']
end Go.Proofs.YtpofjodnljeegaaGreat
