import Derived.Test.YtpofjodnljeegaaP14d
import Derived.Test.YtpofjodnljeegaaP11a
namespace Go.Proofs.Ytpofjodnljeegaa
open Go.Fw
set_option linter.unusedVariables false
set_option linter.unusedSimpArgs false
set_option maxHeartbeats 4000000
set_option maxRecDepth 8000
noncomputable def writeB (f : DFS) (i a : Int) (s : Str) : DFS × Int := if isFS f && hasI f i then (if (writeF f i a s).2 = 0 then (writeF f i a s).1 else f, (writeF f i a s).2) else (f, 1)
theorem impl_WriteBytes1 (f : DFS) (i a : Int) (s : Str) (hs : SmF f) (hf : IsFS f) (hi : hasI f i = true) (hl : s.length ≤ 1048576) (ha : a ≤ 9223372036854775807) : Snd Try.prog 88 [wFS f, .fptr [.int .i64 i], .fptr [.int .i64 a], .fptr [.str s]] (.int .i64 (writeF f i a s).2) [wFS (writeF f i a s).1, .unk, .unk, .unk] := Runs.snd (M := M) (c := ⟨1, [1, 2, 3, 5], [], []⟩) tok ks mixed Try.func88 (p := [0]) (by kernel_rfl) (by rfl) (by rfl) <| by
 have hc := impl_write f i a s hs hf hi hl ha
 generalize writeF f i a s = r at *
 obtain ⟨g, e⟩ := r
 (try simp -implicitDefEqProofs (disch := first | exact dd | fail) [Try.f88]); (repeat' ((with_reducible first | (refine Br.out ?_ ?_ <;> intro h <;> (try (have h0 := h; simp only [bH] at h))) | refine AC_snd (hc) ?_ | fail) <;> (try simp -implicitDefEqProofs (disch := first | exact dd | fail) [Try.f88])))
theorem impl_changed_WriteBytes (n1 n2 n3 : Option Bool) (f : DFS) (i a : Int) (s : Str) (hs : SmF f) (hf : IsFS f) (hi : hasI f i = true) (hl : s.length ≤ 1048576) (ha : a ≤ 9223372036854775807) : Snd Try.prog 50 [fFS n1 n2 n3 f, .fn 88 [.fptr [.int .i64 i], .fptr [.int .i64 a], .fptr [.str s]]] (.tup [rFS (if (writeF f i a s).2 = 0 then (writeF f i a s).1 else f), .int .i64 (writeF f i a s).2]) [.unk, .unk] := Runs.snd (M := M) (c := ⟨2, [2, 4, 5, 6, 7, 13], [], []⟩) tok ks mixed Try.func50 (p := []) (by kernel_rfl) (by rfl) (by rfl) <| by
 have hc := impl_WriteBytes1 f i a s hs hf hi hl ha
 generalize writeF f i a s = r at *
 obtain ⟨g, e⟩ := r
 by_cases he : e = 0
 ·subst he
  simp only [if_true]
  (try simp -implicitDefEqProofs (disch := first | exact dd | fail) [Try.f50]); (repeat' ((with_reducible first | (refine Br.out ?_ ?_ <;> intro h <;> (try (have h0 := h; simp only [bH] at h))) | refine AC_snd (impl_copyFS _ _ _ f hs) ?_ | refine AC_snd (hc) ?_ | fail) <;> (try simp -implicitDefEqProofs (disch := first | exact dd | fail) [Try.f50])))
 ·simp only [he, if_false]
  (try simp -implicitDefEqProofs (disch := first | exact dd | fail) [Try.f50, he]); (repeat' ((with_reducible first | (refine Br.out ?_ ?_ <;> intro h <;> (try (have h0 := h; simp only [bH] at h))) | refine AC_snd (impl_copyFS _ _ _ f hs) ?_ | refine AC_snd (hc) ?_ | fail) <;> (try simp -implicitDefEqProofs (disch := first | exact dd | fail) [Try.f50, he])))
theorem impl_WriteBytes (n1 n2 n3 : Option Bool) (f : DFS) (i a : Int) (s : Str) (hs : SmF f) (hl : s.length ≤ 1048576) (ha : a ≤ 9223372036854775807) : Snd Try.prog 40 [fFS n1 n2 n3 f, .int .i64 i, .int .i64 a, .str s] (.tup [rFS (writeB f i a s).1, .int .i64 (writeB f i a s).2]) [.unk, .unk, .unk, .unk] := Runs.snd (M := M) (c := ⟨4, [4, 5, 6, 7, 8, 9, 13], [], []⟩) tok ks mixed Try.func40 (p := []) (by kernel_rfl) (by rfl) (by rfl) <| by
 by_cases hu : (isFS f && hasI f i) = true
 ·have hu2 := Bool.and_eq_true_iff.1 hu
  rw [writeB, if_pos hu]
  (try simp -implicitDefEqProofs (disch := first | exact dd | fail) [Try.f40, hu]); (repeat' ((with_reducible first | (refine Br.out ?_ ?_ <;> intro h <;> (try (have h0 := h; simp only [bH] at h))) | refine AC_snd (impl_inUse _ _ _ f _ hs) ?_ | refine AC_snd (impl_changed_WriteBytes _ _ _ f i a s hs (tr_iff.1 hu2.1) hu2.2 hl ha) ?_ | fail) <;> (try simp -implicitDefEqProofs (disch := first | exact dd | fail) [Try.f40, hu])))
 ·have hu' : (isFS f && hasI f i) = false := by simpa using hu
  rw [writeB, if_neg hu]
  (try simp -implicitDefEqProofs (disch := first | exact dd | fail) [Try.f40, hu']); (repeat' ((with_reducible first | (refine Br.out ?_ ?_ <;> intro h <;> (try (have h0 := h; simp only [bH] at h))) | refine AC_snd (impl_inUse _ _ _ f _ hs) ?_ | refine AC_snd (impl_copyFS _ _ _ f hs) ?_ | fail) <;> (try simp -implicitDefEqProofs (disch := first | exact dd | fail) [Try.f40, hu'])))
theorem spec_WriteBytes (n1 n2 n3 : Option Bool) (f : DFS) (i a : Int) (s : Str) (hs : SmF f) (hl : s.length ≤ 1048576) (ha : a ≤ 9223372036854775807) : Snd Try.prog 39 [fFS n1 n2 n3 f, .int .i64 i, .int .i64 a, .str s] (.tup [rFS (writeB f i a s).1, .int .i64 (writeB f i a s).2]) [.unk, .unk, .unk, .unk] := Runs.snd (M := M) (c := ⟨4, [4, 8, 9, 13], [], []⟩) tok ks mixed Try.func39 (p := []) (by kernel_rfl) (by rfl) (by rfl) <| by
 by_cases hu : (isFS f && hasI f i) = true
 ·have hu2 := Bool.and_eq_true_iff.1 hu
  rw [writeB, if_pos hu]
  (try simp -implicitDefEqProofs (disch := first | exact dd | fail) [Try.f39, hu]); (repeat' ((with_reducible first | (refine Br.out ?_ ?_ <;> intro h <;> (try (have h0 := h; simp only [bH] at h))) | refine AC_snd (spec_l09Use _ _ _ f _ hs) ?_ | refine AC_snd (spec_l09Write _ _ _ f i a s hs (tr_iff.1 hu2.1) hu2.2 hl ha) ?_ | fail) <;> (try simp -implicitDefEqProofs (disch := first | exact dd | fail) [Try.f39, hu])))
 ·have hu' : (isFS f && hasI f i) = false := by simpa using hu
  rw [writeB, if_neg hu]
  (try simp -implicitDefEqProofs (disch := first | exact dd | fail) [Try.f39, hu']); (repeat' ((with_reducible first | (refine Br.out ?_ ?_ <;> intro h <;> (try (have h0 := h; simp only [bH] at h))) | refine AC_snd (spec_l09Use _ _ _ f _ hs) ?_ | refine AC_snd (spec_l08Copy _ _ _ f hs) ?_ | fail) <;> (try simp -implicitDefEqProofs (disch := first | exact dd | fail) [Try.f39, hu'])))
end Go.Proofs.Ytpofjodnljeegaa
