import Derived.Test.YtgopfdninbknpaaGreatP07b
import Derived.Test.YtgopfdninbknpaaGreatP06
namespace Go.Proofs.YtgopfdninbknpaaGreat
open Go.Fw
set_option linter.unusedVariables false
set_option linter.unusedSimpArgs false
theorem impl_IsZeroes (s : Str) (hl : s.length ≤ 1073741824) : Snd Tryz.prog 155 [.str s] (.bool (zeroStr s)) [.unk] := Runs.snd (M := M) (c := ⟨1, [2, 3, 5, 6, 7, 12], [], [(1, [0, 2, 5, 6, 7, 12])]⟩) tok ks mixed Tryz.func155 (p := []) (by kernel_rfl) (by rfl) (by rfl) <| by
 (try simp -implicitDefEqProofs (disch := first | exact dd | fail) [Tryz.f155]); (repeat' ((with_reducible first | (refine Br.out ?_ ?_ <;> intro h <;> (try (have h0 := h; simp only [bH] at h))) | fail) <;> (try simp -implicitDefEqProofs (disch := first | exact dd | fail) [Tryz.f155])))
 refine AL_for 6 s.length (fun i => zeroStr (s.drop i) = zeroStr s) rfl rfl (fun i n hlt he ih => ?_) (fun n he => ?_)
 ·rw [zeroStr, all_drop hlt, ← zeroStr] at he
  (try simp -implicitDefEqProofs (disch := first | exact dd | fail) [Tryz.f155, hlt]); (repeat' ((with_reducible first | (refine Br.out ?_ ?_ <;> intro h <;> (try (have h0 := h; simp only [bH] at h))) | fail) <;> (try simp -implicitDefEqProofs (disch := first | exact dd | fail) [Tryz.f155, hlt])))
  all_goals first
   |(refine ih ?_; rw [← he]; simp [zeroStr, *]; done)
   |(rw [← he]; simp [*]; done)
 ·rw [List.drop_length] at he
  (try simp -implicitDefEqProofs (disch := first | exact dd | fail) [Tryz.f155]); (repeat' ((with_reducible first | (refine Br.out ?_ ?_ <;> intro h <;> (try (have h0 := h; simp only [bH] at h))) | fail) <;> (try simp -implicitDefEqProofs (disch := first | exact dd | fail) [Tryz.f155])))
  rw [← he]; rfl
theorem spec_IsZeroes (s : Str) (hl : s.length ≤ 1073741824) : Snd Tryz.prog 143 [.str s] (.bool (zeroStr s)) [.unk] := Runs.snd (M := M) (c := ⟨1, [2, 3, 7, 13], [], []⟩) tok ks mixed Tryz.func143 (p := []) (by kernel_rfl) (by rfl) (by rfl) <| by
 (try simp -implicitDefEqProofs (disch := first | exact dd | fail) [Tryz.f143]); (repeat' ((with_reducible first | (refine Br.out ?_ ?_ <;> intro h <;> (try (have h0 := h; simp only [bH] at h))) | fail) <;> (try simp -implicitDefEqProofs (disch := first | exact dd | fail) [Tryz.f143])))
 refine AL_for 3 s.length (fun i => zeroStr (s.drop i) = zeroStr s) rfl rfl (fun i n hlt he ih => ?_) (fun n he => ?_)
 ·rw [zeroStr, all_drop hlt, ← zeroStr] at he
  (try simp -implicitDefEqProofs (disch := first | exact dd | fail) [Tryz.f143, hlt]); (repeat' ((with_reducible first | (refine Br.out ?_ ?_ <;> intro h <;> (try (have h0 := h; simp only [bH] at h))) | fail) <;> (try simp -implicitDefEqProofs (disch := first | exact dd | fail) [Tryz.f143, hlt])))
  all_goals first
   |(refine ih ?_; rw [← he]; simp [zeroStr, *]; done)
   |(rw [← he]; simp [*]; done)
 ·rw [List.drop_length] at he
  (try simp -implicitDefEqProofs (disch := first | exact dd | fail) [Tryz.f143]); (repeat' ((with_reducible first | (refine Br.out ?_ ?_ <;> intro h <;> (try (have h0 := h; simp only [bH] at h))) | fail) <;> (try simp -implicitDefEqProofs (disch := first | exact dd | fail) [Tryz.f143])))
  rw [← he]; rfl
theorem impl_UsedBlocks (n1 n2 n3 : Option Bool) (x : DInode) (hs : SmI x) : Snd Tryz.prog 249 [fInode n1 n2 n3 x] (.row 1 ((real x.blocks).map ci)) [.unk] := Runs.snd (M := M) (c := ⟨1, [1, 2, 3, 5, 8, 9, 10, 11, 15], [], [(1, [0, 1, 2, 3, 8, 9, 10, 11, 15])]⟩) tok ks mixed Tryz.func249 (p := []) (by kernel_rfl) (by rfl) (by rfl) <| by
 have k1 := hs.blocks
 (try simp -implicitDefEqProofs (disch := first | exact dd | fail) [Tryz.f249]); (repeat' ((with_reducible first | (refine Br.out ?_ ?_ <;> intro h <;> (try (have h0 := h; simp only [bH] at h))) | fail) <;> (try simp -implicitDefEqProofs (disch := first | exact dd | fail) [Tryz.f249])))
 refine AL_fors (σ := Unit) 10 x.blocks.length (fun i _ => [(3, .ref 384 none 1 0 (real (x.blocks.take i)).length (some false))]) (fun i _ => [(384, .row 1 ((real (x.blocks.take i)).map ci) [])]) (fun _ _ => True) () rfl trivial (fun i _ n hlt _ ih => ?_) (fun _ n _ => ?_)
 ·have hr := real_take hlt
  have hrl := real_len (l := x.blocks.take i)
  rw [List.length_take] at hrl
  (try simp -implicitDefEqProofs (disch := first | exact dd | fail) [Tryz.f249, hlt]); (repeat' ((with_reducible first | (refine Br.out ?_ ?_ <;> intro h <;> (try (have h0 := h; simp only [bH] at h))) | fail) <;> (try simp -implicitDefEqProofs (disch := first | exact dd | fail) [Tryz.f249, hlt])))
  ·rw [if_pos h] at hr
   have := ih () trivial
   simp only [hr] at this
   exact this
  ·rw [if_neg h] at hr
   have := ih () trivial
   simp only [hr, List.map_append, List.length_append, List.map_cons, List.map_nil, List.length_cons, List.length_nil, ci] at this
   exact this
 ·rw [List.take_length]
  (try simp -implicitDefEqProofs (disch := first | exact dd | fail) [Tryz.f249]); (repeat' ((with_reducible first | (refine Br.out ?_ ?_ <;> intro h <;> (try (have h0 := h; simp only [bH] at h))) | fail) <;> (try simp -implicitDefEqProofs (disch := first | exact dd | fail) [Tryz.f249])))
end Go.Proofs.YtgopfdninbknpaaGreat
