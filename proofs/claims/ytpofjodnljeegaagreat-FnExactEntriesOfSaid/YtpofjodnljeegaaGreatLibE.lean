import Derived.Test.YtpofjodnljeegaaGreatRep
import Derived.Test.YtpofjodnljeegaaGreatLibC
import Derived.Test.YtpofjodnljeegaaGreatLibD
import Derived.Test.YtpofjodnljeegaaGreatP05a
namespace Go.Proofs.YtpofjodnljeegaaGreat
open Go.Fw
set_option linter.unusedVariables false
set_option linter.unusedSimpArgs false
theorem strings_ContainsAny (l r : Str) (hl : l.length < 4294967281) (h2 : r.length = 2) (hr : ∀ (j : Nat) b, r[j]? = some b → b.toNat < 128) : Snd Tryz.prog 94 [.str l, .str r] (.bool (Lib.containsAny l r)) [.unk, .unk] :=
 snd_str_str Tryz.func94 (by kernel_rfl) (by kernel_rfl) fun w s c hs hc => by
  have hsz : s.size = l.length := by rw [← hs]; rfl
  have hcz : c.size = r.length := by rw [← hc]; rfl
  have := Own.ContainsAny Tryz.lays150 (by kernel_rfl) s c w (by omega) (by omega) (by rw [hc]; exact hr)
  rw [hs, hc] at this
  exact this
end Go.Proofs.YtpofjodnljeegaaGreat
