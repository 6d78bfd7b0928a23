import Derived.Test.YtpofjodnljeegaaGreatP10a
import Derived.Test.YtpofjodnljeegaaGreatP02e
namespace Go.Proofs.YtpofjodnljeegaaGreat
open Go.Fw
set_option linter.unusedVariables false
set_option linter.unusedSimpArgs false
set_option maxHeartbeats 4000000
set_option maxRecDepth 8000
theorem impl_record (e : DEntry) (hi : -1 ≤ e.inode ∧ e.inode ≤ 65535) (hl : e.name.length ≤ 1048000) : Snd Tryz.prog 69 [.agg (cEntry e)] (.str (recordOf e)) [.unk] := Runs.snd (M := M) (c := ⟨1, [1, 2], [], []⟩) tok ks mixed Tryz.func69 (p := []) (by kernel_rfl) (by rfl) (by rfl) <| by
 have c1 := impl_PutNumber (e.inode + 1) 2 (by decide) (by decide)
 have c2 := impl_PutNumber e.name.length 1 (by decide) (by decide)
 have l1 := putN_len (e.inode + 1) 2
 have l2 := putN_len e.name.length 1
 have c3 := impl_PadTo (putN (e.inode + 1) 2 ++ putN e.name.length 1 ++ e.name) 16 (by decide) (by simp only [List.length_append]; omega)
 have h1 : (putN (e.inode + 1) 2).length + (putN e.name.length 1).length ≤ 1073741824 := by omega
 have h2 : (putN (e.inode + 1) 2 ++ putN e.name.length 1).length + e.name.length ≤ 1073741824 := by simp only [List.length_append]; omega
 unfold recordOf
 generalize putN (e.inode + 1) 2 = A at *
 generalize putN e.name.length 1 = B at *
 rw [List.append_assoc] at c3 ⊢
 (try simp -implicitDefEqProofs (disch := first | exact dd | fail) [Tryz.f69, cEntry, h1, h2]); (repeat' ((with_reducible first | (refine Br.out ?_ ?_ <;> intro h <;> (try (have h0 := h; simp only [bH] at h))) | refine AC_snd (c1) ?_ | refine AC_snd (c2) ?_ | refine AC_snd (c3) ?_ | fail) <;> (try simp -implicitDefEqProofs (disch := first | exact dd | fail) [Tryz.f69, cEntry, h1, h2])))
theorem spec_l10Record (e : DEntry) (hi : -1 ≤ e.inode ∧ e.inode ≤ 65535) (hl : e.name.length ≤ 1048000) : Snd Tryz.prog 55 [.agg (cEntry e)] (.str (recordOf e)) [.unk] := Runs.snd (M := M) (c := ⟨1, [1, 2], [], []⟩) tok ks mixed Tryz.func55 (p := []) (by kernel_rfl) (by rfl) (by rfl) <| by
 have c1 := spec_PutNumber (e.inode + 1) 2 (by decide) (by decide)
 have c2 := spec_PutNumber e.name.length 1 (by decide) (by decide)
 have l1 := putN_len (e.inode + 1) 2
 have l2 := putN_len e.name.length 1
 have c3 := spec_PadTo (putN (e.inode + 1) 2 ++ putN e.name.length 1 ++ e.name) 16 (by decide) (by simp only [List.length_append]; omega)
 have h1 : (putN (e.inode + 1) 2).length + (putN e.name.length 1).length ≤ 1073741824 := by omega
 have h2 : (putN (e.inode + 1) 2 ++ putN e.name.length 1).length + e.name.length ≤ 1073741824 := by simp only [List.length_append]; omega
 unfold recordOf
 generalize putN (e.inode + 1) 2 = A at *
 generalize putN e.name.length 1 = B at *
 rw [List.append_assoc] at c3 ⊢
 (try simp -implicitDefEqProofs (disch := first | exact dd | fail) [Tryz.f55, cEntry, h1, h2]); (repeat' ((with_reducible first | (refine Br.out ?_ ?_ <;> intro h <;> (try (have h0 := h; simp only [bH] at h))) | refine AC_snd (c1) ?_ | refine AC_snd (c2) ?_ | refine AC_snd (c3) ?_ | fail) <;> (try simp -implicitDefEqProofs (disch := first | exact dd | fail) [Tryz.f55, cEntry, h1, h2])))
end Go.Proofs.YtpofjodnljeegaaGreat
