import Derived.Test.YtpofjodnljeegaaGreatP07b
import Derived.Test.YtpofjodnljeegaaGreatP06a
namespace Go.Proofs.YtpofjodnljeegaaGreat
open Go.Fw
set_option linter.unusedVariables false
set_option linter.unusedSimpArgs false
theorem impl_IsZeroes (s : Str) (hl : s.length ≤ 1073741824) : Snd Tryz.prog 60 [.str s] (.bool (zeroStr s)) [.unk] := Runs.snd (M := M) (c := ⟨1, [2, 3, 5, 6, 7, 12], [], [(1, [0, 2, 5, 6, 7, 12])]⟩) tok ks mixed Tryz.func60 (p := []) (by kernel_rfl) (by rfl) (by rfl) <| by
 (try simp -implicitDefEqProofs (disch := first | exact dd | fail) [Tryz.f60]); (repeat' ((with_reducible first | (refine Br.out ?_ ?_ <;> intro h <;> (try (have h0 := h; simp only [bH] at h))) | fail) <;> (try simp -implicitDefEqProofs (disch := first | exact dd | fail) [Tryz.f60])))
 refine AL_for 6 s.length (fun i => zeroStr (s.drop i) = zeroStr s) rfl rfl (fun i n hlt he ih => ?_) (fun n he => ?_)
 ·rw [zeroStr, all_drop hlt, ← zeroStr] at he
  (try simp -implicitDefEqProofs (disch := first | exact dd | fail) [Tryz.f60, hlt]); (repeat' ((with_reducible first | (refine Br.out ?_ ?_ <;> intro h <;> (try (have h0 := h; simp only [bH] at h))) | fail) <;> (try simp -implicitDefEqProofs (disch := first | exact dd | fail) [Tryz.f60, hlt])))
  all_goals first
   |(refine ih ?_; rw [← he]; simp [zeroStr, *]; done)
   |(rw [← he]; simp [*]; done)
 ·rw [List.drop_length] at he
  (try simp -implicitDefEqProofs (disch := first | exact dd | fail) [Tryz.f60]); (repeat' ((with_reducible first | (refine Br.out ?_ ?_ <;> intro h <;> (try (have h0 := h; simp only [bH] at h))) | fail) <;> (try simp -implicitDefEqProofs (disch := first | exact dd | fail) [Tryz.f60])))
  rw [← he]; rfl
theorem spec_IsZeroes (s : Str) (hl : s.length ≤ 1073741824) : Snd Tryz.prog 51 [.str s] (.bool (zeroStr s)) [.unk] := Runs.snd (M := M) (c := ⟨1, [2, 3, 7, 13], [], []⟩) tok ks mixed Tryz.func51 (p := []) (by kernel_rfl) (by rfl) (by rfl) <| by
 (try simp -implicitDefEqProofs (disch := first | exact dd | fail) [Tryz.f51]); (repeat' ((with_reducible first | (refine Br.out ?_ ?_ <;> intro h <;> (try (have h0 := h; simp only [bH] at h))) | fail) <;> (try simp -implicitDefEqProofs (disch := first | exact dd | fail) [Tryz.f51])))
 refine AL_for 3 s.length (fun i => zeroStr (s.drop i) = zeroStr s) rfl rfl (fun i n hlt he ih => ?_) (fun n he => ?_)
 ·rw [zeroStr, all_drop hlt, ← zeroStr] at he
  (try simp -implicitDefEqProofs (disch := first | exact dd | fail) [Tryz.f51, hlt]); (repeat' ((with_reducible first | (refine Br.out ?_ ?_ <;> intro h <;> (try (have h0 := h; simp only [bH] at h))) | fail) <;> (try simp -implicitDefEqProofs (disch := first | exact dd | fail) [Tryz.f51, hlt])))
  all_goals first
   |(refine ih ?_; rw [← he]; simp [zeroStr, *]; done)
   |(rw [← he]; simp [*]; done)
 ·rw [List.drop_length] at he
  (try simp -implicitDefEqProofs (disch := first | exact dd | fail) [Tryz.f51]); (repeat' ((with_reducible first | (refine Br.out ?_ ?_ <;> intro h <;> (try (have h0 := h; simp only [bH] at h))) | fail) <;> (try simp -implicitDefEqProofs (disch := first | exact dd | fail) [Tryz.f51])))
  rw [← he]; rfl
end Go.Proofs.YtpofjodnljeegaaGreat
