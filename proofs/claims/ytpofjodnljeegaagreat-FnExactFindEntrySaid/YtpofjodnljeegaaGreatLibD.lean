/- A contract of the library's shelf as a contract of the framework: two texts in, a truth value out. -/
import Derived.Test.YtpofjodnljeegaaGreatFz
import Derived.Below
namespace Go.Fw
set_option linter.unusedVariables false
open Go.RowKit in
theorem snd_str_str {P : Program} {f : FuncId} {fn : Func} (hf : P.funcs[f]? = some fn) (hb : fn.body.isSome = true) (hn : (fn.name == "runtime.NumGoroutine") = false) {l r : List UInt8} {t : Bool}
  (h : ∀ (w : World) (s c : ByteArray), s.data.toList = l → c.data.toList = r → Calls P f #[.string s, .string c] w fun e w' => e = .returned (.bool t) ∧ Below w.heap.size w w') : Snd P f [.str l, .str r] (.bool t) [.unk, .unk] := by
 refine ⟨rfl, fun w S vs F hvl hS hF1 hF2 ha => ?_⟩
 match vs, hvl with
 | [a, b], _ =>
  have h0 : FV w S (.str l) a := ha 0 _ _ rfl rfl
  have h1 : FV w S (.str r) b := ha 1 _ _ rfl rfl
  cases h0 with
  | str hs =>
   cases h1 with
   | str hr =>
    left
    refine ⟨?_, (h w _ _ hs hr).mono fun e w' hx => ⟨_, hx.1, ?_, fun _ _ => False, fun _ _ _ h => h.elim, fun _ _ h => h.elim, ?_, ?_⟩⟩
    ·cases hbb : fn.body with
     | none => rw [hbb] at hb; cases hb
     | some c =>
      simp [callFunc, go_sem, hf, hbb]
      simpa using hn
    ·exact ⟨hx.2.os, hx.2.tape, hx.2.output, hx.2.size, fun b hb => .inl (hx.2.block b hb)⟩
    ·exact FV.bool _
    ·intro k o u ho hu
     match k, ho with
     | 0, ho => cases ho; trivial
     | 1, ho => cases ho; trivial
     | k + 2, ho => simp at ho
end Go.Fw
