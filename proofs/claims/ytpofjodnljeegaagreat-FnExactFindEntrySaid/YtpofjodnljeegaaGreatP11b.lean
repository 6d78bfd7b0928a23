import Derived.Test.YtpofjodnljeegaaGreatP11a
import Derived.Test.YtpofjodnljeegaaGreatP08a
import Derived.Test.YtpofjodnljeegaaGreatP06c
namespace Go.Proofs.YtpofjodnljeegaaGreat
open Go.Fw
set_option linter.unusedVariables false
set_option linter.unusedSimpArgs false
def newOwner (f : DFS) (c : DCred) (d : Int) : Int × Int := if iAnd (inodeAt f d).mode 1024 = 0 then (c.uid, c.gid) else (c.uid, (inodeAt f d).gid)
noncomputable def dirCode (f : DFS) (i : Int) : Int := if isFS f && hasI f i then if isDirI f i then 0 else 5 else 1
theorem spec_l10Dir (n1 n2 n3 : Option Bool) (f : DFS) (i : Int) (hs : SmF f) : Snd Tryz.prog 37 [fFS n1 n2 n3 f, .int .i64 i] (.int .i64 (dirCode f i)) [.unk, .unk] := Runs.snd (M := M) (c := ⟨2, [2, 4, 8, 15], [], []⟩) tok ks mixed Tryz.func37 (p := []) (by kernel_rfl) (by rfl) (by rfl) <| by
 by_cases hf : (isFS f && hasI f i) = true
 ·have hf2 := Bool.and_eq_true_iff.1 hf
  have hn := (tr_iff.1 hf2.1).ni
  have hi := hasI_lt hf2.2
  obtain ⟨k, rfl⟩ := Int.eq_ofNat_of_zero_le hi.1
  have hlt : k < f.inodes.length := by omega
  have he := inodeAt_nat hlt
  (try simp -implicitDefEqProofs (disch := first | exact dd | fail) [Tryz.f37, hlt, hf, hf2, cInode]); (repeat' ((with_reducible first | (refine Br.out ?_ ?_ <;> intro h <;> (try (have h0 := h; simp only [bH] at h))) | refine AC_snd (spec_l09Use _ _ _ f _ hs) ?_ | fail) <;> (try simp -implicitDefEqProofs (disch := first | exact dd | fail) [Tryz.f37, hlt, hf, hf2, cInode])))
  all_goals simp [dirCode, isDirI, he, *]
 ·have hf' : (isFS f && hasI f i) = false := by simpa using hf
  (try simp -implicitDefEqProofs (disch := first | exact dd | fail) [Tryz.f37, hf']); (repeat' ((with_reducible first | (refine Br.out ?_ ?_ <;> intro h <;> (try (have h0 := h; simp only [bH] at h))) | refine AC_snd (spec_l09Use _ _ _ f _ hs) ?_ | fail) <;> (try simp -implicitDefEqProofs (disch := first | exact dd | fail) [Tryz.f37, hf'])))
  all_goals simp [dirCode, hf']
end Go.Proofs.YtpofjodnljeegaaGreat
