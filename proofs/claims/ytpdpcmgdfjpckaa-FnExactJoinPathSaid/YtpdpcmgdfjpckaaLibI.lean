import Derived.Test.YtpdpcmgdfjpckaaRep
import Derived.Test.YtpdpcmgdfjpckaaLibG
import Derived.Test.YtpdpcmgdfjpckaaP05a
namespace Go.Proofs.Ytpdpcmgdfjpckaa
open Go.Fw Go.RowKit
set_option linter.unusedVariables false
set_option linter.unusedSimpArgs false
theorem strings_Join (nl:Option Bool) (xs:List Str) (l:Str) (h:(Lib.join xs l).length≤1048576) (hx:xs.length≤1048576):Snd Try.prog 10 [.frz 1 nl (xs.map cs), .str l] (.str (Lib.join xs l)) [.unk, .unk]:=
 snd_strs_str Try.func10 (by kernel_rfl) (by kernel_rfl)
  (fun h0 w a c s hs=>by
   subst h0
   exact (Try.strings_Join_none a c s w).mono fun e w' ⟨h1,h2⟩=>⟨h1,by rw [h2];exact Below.refl _ _⟩)
  (fun h0 w bk o c ys s hs hm hc hb hl=>by
   have hyl:ys.length=xs.length:=by rw [←hm,List.length_map]
   have:=Try.strings_Join bk o c ys s w hc hb (by omega) hl (by rw [hm,hs];omega)
   rw [hm,hs] at this
   exact this)
end Go.Proofs.Ytpdpcmgdfjpckaa
