/- A contract of the library's shelf as a contract of the framework: a text and a byte in, a number out. -/
import Derived.Test.YtiafmpcmmohdkaaGreatFz
import Derived.Below
namespace Go.Fw
set_option linter.unusedVariables false
open Go.RowKit in
theorem snd_str_byte {P : Program} {f : FuncId} {fn : Func} (hf : P.funcs[f]? = some fn) (hb : fn.body.isSome = true) (hn : (fn.name == "runtime.NumGoroutine") = false) {l : List UInt8} {c r : Int}
  (h : ∀ (w : World) (s : ByteArray), s.data.toList = l → Calls P f #[.string s, .int .u8 c] w fun e w' => e = .returned (.int .i64 r) ∧ Below w.heap.size w w') : Snd P f [.str l, .int .u8 c] (.int .i64 r) [.unk, .unk] := by
 refine ⟨rfl, fun w S vs F hvl hS hF1 hF2 ha => ?_⟩
 match vs, hvl with
 | [a, b], _ =>
  have h0 : FV w S (.str l) a := ha 0 _ _ rfl rfl
  have h1 : FV w S (.int .u8 c) b := ha 1 _ _ rfl rfl
  cases h0 with
  | str hs =>
   cases h1
   left
   refine ⟨?_, (h w _ hs).mono fun e w' hx => ⟨_, hx.1, ?_, fun _ _ => False, fun _ _ _ h => h.elim, fun _ _ h => h.elim, ?_, ?_⟩⟩
   ·cases hbb : fn.body with
    | none => rw [hbb] at hb; cases hb
    | some c =>
     simp [callFunc, go_sem, hf, hbb]
     simpa using hn
   ·exact ⟨hx.2.os, hx.2.tape, hx.2.output, hx.2.size, fun b hb => .inl (hx.2.block b hb)⟩
   ·exact FV.int _ _
   ·intro k o u ho hu
    match k, ho with
    | 0, ho => cases ho; trivial
    | 1, ho => cases ho; trivial
    | k + 2, ho => simp at ho
end Go.Fw
