import Derived.Test.YtpofjodnljeegaaGreatP02a
import Derived.Test.YtpofjodnljeegaaGreatM11
namespace Go.Proofs.YtpofjodnljeegaaGreat
open Go.Fw
set_option linter.unusedVariables false
set_option linter.unusedSimpArgs false
theorem wrap_or {a b : Int} : IntKind.wrap .i64 (((a % 2 ^ IntKind.bits .i64).toNat ||| (b % 2 ^ IntKind.bits .i64).toNat : Nat)) = iOr a b := by
 unfold iOr
 rw [BitVec.toNat_or, BitVec.toNat_ofInt, BitVec.toNat_ofInt]
 rfl
theorem iOr_byte {V : Int} {u : Nat} (h0 : 0 ≤ V) (h1 : V < 1099511627776) (hu : u < 256) : iOr (V * 256) u = V * 256 + u := by
 obtain ⟨n, rfl⟩ := Int.eq_ofNat_of_zero_le h0
 have e1 : ((n : Int) * 256) = ((n * 256 : Nat) : Int) := by simp
 have h2 : n * 256 < 2 ^ 64 := by omega
 have h3 : u < 2 ^ 64 := by omega
 rw [iOr, e1, BitVec.ofInt_natCast, BitVec.ofInt_natCast, BitVec.toNat_or, BitVec.toNat_ofNat, BitVec.toNat_ofNat, Nat.mod_eq_of_lt h2, Nat.mod_eq_of_lt h3]
 have h4 : n * 256 ||| u = n * 256 + u := by
  have := Nat.shiftLeft_add_eq_or_of_lt (i := 8) (b := u) (by omega) n
  rw [Nat.shiftLeft_eq] at this
  exact this.symm
 rw [h4]
 exact wrap64_in (by omega) (by omega)
set_option maxHeartbeats 4000000 in
set_option maxRecDepth 8000 in
theorem impl_GetNumber (s : Str) (a w : Int) (hs : s.length ≤ 1048576) : Snd Tryz.prog 67 [.str s, .int .i64 a, .int .i64 w] (.tup [.int .i64 (getN s a w).1, .bool (getN s a w).2]) [.unk, .unk, .unk] := Runs.snd (M := M) (c := ⟨3, [6, 7, 8, 9, 27, 28, 29, 30], [], [(1, [0, 1, 2, 6, 7, 8, 27, 28, 29, 30])]⟩) tok ks mixed Tryz.func67 (p := []) (by kernel_rfl) (by rfl) (by rfl) <| by
 (try simp -implicitDefEqProofs (disch := first | exact dd | fail) [Tryz.f67]); (repeat' ((with_reducible first | (refine Br.out ?_ ?_ <;> intro h <;> (try (have h0 := h; simp only [bH] at h))) | fail) <;> (try simp -implicitDefEqProofs (disch := first | exact dd | fail) [Tryz.f67])))
 all_goals try (rw [getN, if_neg (by omega)]; simp; done)
 obtain ⟨A, hA⟩ := Int.eq_ofNat_of_zero_le (by omega : 0 ≤ a)
 obtain ⟨W, hW⟩ := Int.eq_ofNat_of_zero_le (by omega : 0 ≤ w)
 have hv : getN s a w = (getV ((s.drop A).take W), true) := by
  rw [getN, if_pos (by omega), hA, hW]
  rfl
 rw [hv]
 subst hA hW
 refine AL_fors (σ := Unit) 29 W (fun i _ => [(8, .int .i64 (getV ((s.drop A).take i)))]) (fun _ _ => []) (fun _ _ => True) () (by simp [getV]) trivial (fun i _ n hlt _ ih => ?_) (fun _ n _ => ?_)
 ·have hix : A + i < s.length := by omega
  have hc := cut_snoc hix
  have hb := getV_bound (l := (s.drop A).take i) (by rw [List.length_take]; omega)
  have hi := ih () trivial
  simp only [hc, getV_snoc] at hi
  have hub : (s[A + i].toNat : Int) < 256 := by exact_mod_cast s[A + i].toNat_lt
  generalize getV ((s.drop A).take i) = V at *
  have hcast : ((A : Int) + (i : Int)).toNat = A + i := by omega
  have hw1 : IntKind.i64.wrap (s[A + i].toNat : Int) = s[A + i].toNat := wrap64_in (by omega) (by omega)
  have hor := iOr_byte hb.1 hb.2 s[A + i].toNat_lt
  have hshl : IntKind.i64.wrap (V * 2 ^ min 8 IntKind.i64.bits) = V * 256 := by
   have e : V * 2 ^ min 8 IntKind.i64.bits = V * 256 := by simp [IntKind.bits]
   rw [e]
   exact wrap64_in (by omega) (by omega)
  (try simp -implicitDefEqProofs (disch := first | exact dd | fail) [Tryz.f67, hix]); (repeat' ((with_reducible first | (refine Br.out ?_ ?_ <;> intro h <;> (try (have h0 := h; simp only [bH] at h))) | fail) <;> (try simp -implicitDefEqProofs (disch := first | exact dd | fail) [Tryz.f67, hix])))
  simp only [hcast, hw1, hshl, wrap_or, hor]
  exact hi
 ·(try simp -implicitDefEqProofs (disch := first | exact dd | fail) [Tryz.f67]); (repeat' ((with_reducible first | (refine Br.out ?_ ?_ <;> intro h <;> (try (have h0 := h; simp only [bH] at h))) | fail) <;> (try simp -implicitDefEqProofs (disch := first | exact dd | fail) [Tryz.f67])))
end Go.Proofs.YtpofjodnljeegaaGreat
