/- The seat's base: its types, its modes. Written by base.py. -/
import Derived.Test.YtpdpcmgdfjpckaaFz
import Derived.Test.YtpdpcmgdfjpckaaProg
import Derived.KernelRfl
namespace Go.Proofs.Ytpdpcmgdfjpckaa
open Go.Fw
set_option linter.unusedVariables false
def rowsT:List (TypeId × TI) := [(2,⟨.int .i64,1,[.int .i64 0]⟩),
  (3,⟨.int .i64,1,[.int .i64 0]⟩),
  (4,⟨.bool,1,[.bool false]⟩),
  (5,⟨.int .u8,1,[.int .u8 0]⟩),
  (9,⟨.str,1,[.str []]⟩),
  (12,⟨.int .u64,1,[.int .u64 0]⟩),
  (21,⟨.int .i32,1,[.int .i32 0]⟩),
  (22,⟨.slice 9,1,[.frz 1 (some true) []]⟩),
  (29,⟨.ptr 32,1,[.nilp]⟩),
  (30,⟨.slice 5,1,[.frz 1 (some true) []]⟩),
  (31,⟨.struct [(0,29),(1,30)] false,2,[.nilp, .frz 1 (some true) []]⟩),
  (32,⟨.struct [(0,29),(1,30)] false,2,[.nilp, .frz 1 (some true) []]⟩),
  (39,⟨.ptr 5,1,[.nilp]⟩),
  (49,⟨.int .u32,1,[.int .u32 0]⟩)]
def T:Types:=tab rowsT
@[simp] theorem T2:T 2=some ⟨.int .i64,1,[.int .i64 0]⟩:=rfl
@[simp] theorem T3:T 3=some ⟨.int .i64,1,[.int .i64 0]⟩:=rfl
@[simp] theorem T4:T 4=some ⟨.bool,1,[.bool false]⟩:=rfl
@[simp] theorem T5:T 5=some ⟨.int .u8,1,[.int .u8 0]⟩:=rfl
@[simp] theorem T9:T 9=some ⟨.str,1,[.str []]⟩:=rfl
@[simp] theorem T12:T 12=some ⟨.int .u64,1,[.int .u64 0]⟩:=rfl
@[simp] theorem T21:T 21=some ⟨.int .i32,1,[.int .i32 0]⟩:=rfl
@[simp] theorem T22:T 22=some ⟨.slice 9,1,[.frz 1 (some true) []]⟩:=rfl
@[simp] theorem T29:T 29=some ⟨.ptr 32,1,[.nilp]⟩:=rfl
@[simp] theorem T30:T 30=some ⟨.slice 5,1,[.frz 1 (some true) []]⟩:=rfl
@[simp] theorem T31:T 31=some ⟨.struct [(0,29),(1,30)] false,2,[.nilp, .frz 1 (some true) []]⟩:=rfl
@[simp] theorem T32:T 32=some ⟨.struct [(0,29),(1,30)] false,2,[.nilp, .frz 1 (some true) []]⟩:=rfl
@[simp] theorem T39:T 39=some ⟨.ptr 5,1,[.nilp]⟩:=rfl
@[simp] theorem T49:T 49=some ⟨.int .u32,1,[.int .u32 0]⟩:=rfl
theorem tok:TOk Try.prog T:=tabB_ok (by kernel_rfl)
theorem mixed:Try.prog.follows .mixedOrders=true:=by kernel_rfl
def M:Modes:=modes []
@[simp] theorem M0:M 0 = []:=rfl
@[simp] theorem M1:M 1 = []:=rfl
@[simp] theorem M2:M 2 = []:=rfl
@[simp] theorem M3:M 3 = []:=rfl
@[simp] theorem M4:M 4 = []:=rfl
@[simp] theorem M5:M 5 = []:=rfl
@[simp] theorem M6:M 6 = []:=rfl
@[simp] theorem M7:M 7 = []:=rfl
@[simp] theorem M8:M 8 = []:=rfl
@[simp] theorem M9:M 9 = []:=rfl
@[simp] theorem M10:M 10 = []:=rfl
@[simp] theorem M11:M 11 = []:=rfl
@[simp] theorem M12:M 12 = []:=rfl
@[simp] theorem M13:M 13 = []:=rfl
@[simp] theorem M14:M 14 = []:=rfl
@[simp] theorem M15:M 15 = []:=rfl
@[simp] theorem M16:M 16 = []:=rfl
@[simp] theorem M17:M 17 = []:=rfl
@[simp] theorem M30:M 30 = []:=rfl
@[simp] theorem M31:M 31 = []:=rfl
@[simp] theorem M32:M 32 = []:=rfl
@[simp] theorem M33:M 33 = []:=rfl
@[simp] theorem M34:M 34 = []:=rfl
abbrev K:=Con Try.prog
theorem ks:Sound Try.prog K:=con_sound
end Go.Proofs.Ytpdpcmgdfjpckaa
