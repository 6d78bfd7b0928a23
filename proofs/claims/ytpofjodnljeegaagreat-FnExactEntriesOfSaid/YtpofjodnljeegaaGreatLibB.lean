import Derived.Test.YtpofjodnljeegaaGreatRep
import Derived.Test.YtpofjodnljeegaaGreatLibA
import Derived.Test.YtpofjodnljeegaaGreatP05a
namespace Go.Proofs.YtpofjodnljeegaaGreat
open Go.Fw
set_option linter.unusedVariables false
set_option linter.unusedSimpArgs false
theorem strings_Repeat (l : Str) (c : Nat) (hc : c ≤ 1048576) (hl : l.length ≤ 1048576) : Snd Tryz.prog 108 [.str l, .int .i64 c] (.str (Lib.repeatL l c)) [.unk, .unk] :=
 snd_str_int Tryz.func108 (by kernel_rfl) (by kernel_rfl) fun w s hs => by
  have hsz : s.size = l.length := by rw [← hs]; rfl
  have hm : s.size * c ≤ 140737488355328 := by
   rw [hsz]
   exact Nat.le_trans (Nat.mul_le_mul hl hc) (by decide)
  have := Tryz.strings_Repeat s c w (by omega) hm
  rw [hs] at this
  exact this
end Go.Proofs.YtpofjodnljeegaaGreat
