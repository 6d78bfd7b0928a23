import Derived.Test.YtiafmpcmmohdkaaGreatRep
import Derived.Test.YtiafmpcmmohdkaaGreatLibF
import Derived.Test.YtiafmpcmmohdkaaGreatLibG
import Derived.Test.YtiafmpcmmohdkaaGreatP05a
namespace Go.Proofs.YtiafmpcmmohdkaaGreat
open Go.Fw Go.RowKit
set_option linter.unusedVariables false
set_option linter.unusedSimpArgs false
theorem strings_IndexByte (l : Str) (c : UInt8) : Snd Tryz.prog 167 [.str l, .int .u8 c.toNat] (.int .i64 (Lib.indexByte l c)) [.unk, .unk] :=
 snd_str_byte Tryz.func167 (by kernel_rfl) (by kernel_rfl) fun w s hs => by
  have := Tryz.strings_IndexByte s c.toNat w
  rw [hs, show ((c.toNat : Int)).toNat.toUInt8 = c by simp] at this
  exact this.mono fun e w' ⟨h1, h2⟩ => ⟨h1, by rw [h2]; exact Below.refl _ _⟩
end Go.Proofs.YtiafmpcmmohdkaaGreat
