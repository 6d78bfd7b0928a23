/- The seat's base: its types, its modes. Written by base.py. -/
import Derived.Test.YtdbjdpndledcaaaFz
import Derived.Test.YtdbjdpndledcaaaProg
import Derived.KernelRfl
namespace Go.Proofs.Ytdbjdpndledcaaa
open Go.Fw
set_option linter.unusedVariables false
def rowsT:List (TypeId × TI) := [(2,⟨.int .i64,1,[.int .i64 0]⟩),
  (3,⟨.int .i64,1,[.int .i64 0]⟩),
  (4,⟨.bool,1,[.bool false]⟩),
  (5,⟨.int .u8,1,[.int .u8 0]⟩),
  (9,⟨.str,1,[.str []]⟩),
  (12,⟨.int .u64,1,[.int .u64 0]⟩),
  (21,⟨.int .i32,1,[.int .i32 0]⟩),
  (22,⟨.slice 5,1,[.frz 1 (some true) []]⟩),
  (23,⟨.slice 9,1,[.frz 1 (some true) []]⟩),
  (24,⟨.slice 48,1,[.frz 2 (some true) []]⟩),
  (25,⟨.struct [(0,23),(1,24)] false,2,[.frz 1 (some true) [], .frz 2 (some true) []]⟩),
  (26,⟨.struct [(0,23),(1,24)] false,2,[.frz 1 (some true) [], .frz 2 (some true) []]⟩),
  (33,⟨.slice 4,1,[.frz 1 (some true) []]⟩),
  (39,⟨.ptr 55,1,[.nilp]⟩),
  (47,⟨.struct [(0,3),(1,9)] true,2,[.int .i64 0, .str []]⟩),
  (48,⟨.struct [(0,3),(1,9)] true,2,[.int .i64 0, .str []]⟩),
  (54,⟨.struct [(0,22),(1,3),(2,3)] false,3,[.frz 1 (some true) [], .int .i64 0, .int .i64 0]⟩),
  (55,⟨.struct [(0,22),(1,3),(2,3)] false,3,[.frz 1 (some true) [], .int .i64 0, .int .i64 0]⟩),
  (58,⟨.slice 3,1,[.frz 1 (some true) []]⟩),
  (61,⟨.ptr 26,1,[.nilp]⟩),
  (64,⟨.int .u64,1,[.int .u64 0]⟩),
  (72,⟨.int .u32,1,[.int .u32 0]⟩),
  (76,⟨.ptr 5,1,[.nilp]⟩)]
def T:Types:=tab rowsT
@[simp] theorem T2:T 2=some ⟨.int .i64,1,[.int .i64 0]⟩:=rfl
@[simp] theorem T3:T 3=some ⟨.int .i64,1,[.int .i64 0]⟩:=rfl
@[simp] theorem T4:T 4=some ⟨.bool,1,[.bool false]⟩:=rfl
@[simp] theorem T5:T 5=some ⟨.int .u8,1,[.int .u8 0]⟩:=rfl
@[simp] theorem T9:T 9=some ⟨.str,1,[.str []]⟩:=rfl
@[simp] theorem T12:T 12=some ⟨.int .u64,1,[.int .u64 0]⟩:=rfl
@[simp] theorem T21:T 21=some ⟨.int .i32,1,[.int .i32 0]⟩:=rfl
@[simp] theorem T22:T 22=some ⟨.slice 5,1,[.frz 1 (some true) []]⟩:=rfl
@[simp] theorem T23:T 23=some ⟨.slice 9,1,[.frz 1 (some true) []]⟩:=rfl
@[simp] theorem T24:T 24=some ⟨.slice 48,1,[.frz 2 (some true) []]⟩:=rfl
@[simp] theorem T25:T 25=some ⟨.struct [(0,23),(1,24)] false,2,[.frz 1 (some true) [], .frz 2 (some true) []]⟩:=rfl
@[simp] theorem T26:T 26=some ⟨.struct [(0,23),(1,24)] false,2,[.frz 1 (some true) [], .frz 2 (some true) []]⟩:=rfl
@[simp] theorem T33:T 33=some ⟨.slice 4,1,[.frz 1 (some true) []]⟩:=rfl
@[simp] theorem T39:T 39=some ⟨.ptr 55,1,[.nilp]⟩:=rfl
@[simp] theorem T47:T 47=some ⟨.struct [(0,3),(1,9)] true,2,[.int .i64 0, .str []]⟩:=rfl
@[simp] theorem T48:T 48=some ⟨.struct [(0,3),(1,9)] true,2,[.int .i64 0, .str []]⟩:=rfl
@[simp] theorem T54:T 54=some ⟨.struct [(0,22),(1,3),(2,3)] false,3,[.frz 1 (some true) [], .int .i64 0, .int .i64 0]⟩:=rfl
@[simp] theorem T55:T 55=some ⟨.struct [(0,22),(1,3),(2,3)] false,3,[.frz 1 (some true) [], .int .i64 0, .int .i64 0]⟩:=rfl
@[simp] theorem T58:T 58=some ⟨.slice 3,1,[.frz 1 (some true) []]⟩:=rfl
@[simp] theorem T61:T 61=some ⟨.ptr 26,1,[.nilp]⟩:=rfl
@[simp] theorem T64:T 64=some ⟨.int .u64,1,[.int .u64 0]⟩:=rfl
@[simp] theorem T72:T 72=some ⟨.int .u32,1,[.int .u32 0]⟩:=rfl
@[simp] theorem T76:T 76=some ⟨.ptr 5,1,[.nilp]⟩:=rfl
theorem tok:TOk Try.prog T:=tabB_ok (by kernel_rfl)
theorem mixed:Try.prog.follows .mixedOrders=true:=by kernel_rfl
def M:Modes:=modes [(12,[(true,3)]),(14,[(true,3),(false,0)]),(17,[(true,2),(false,0),(false,0)]),(18,[(true,2),(false,0)]),(20,[(false,0),(false,1)]),(21,[(false,2),(false,0)]),(25,[(true,3),(false,0)]),(26,[(true,3)]),(27,[(true,3),(true,0)]),(28,[(true,3)])]
@[simp] theorem M0:M 0 = []:=rfl
@[simp] theorem M1:M 1 = []:=rfl
@[simp] theorem M2:M 2 = []:=rfl
@[simp] theorem M3:M 3 = []:=rfl
@[simp] theorem M4:M 4 = []:=rfl
@[simp] theorem M5:M 5 = []:=rfl
@[simp] theorem M6:M 6 = []:=rfl
@[simp] theorem M7:M 7 = []:=rfl
@[simp] theorem M8:M 8 = []:=rfl
@[simp] theorem M9:M 9 = []:=rfl
@[simp] theorem M10:M 10 = []:=rfl
@[simp] theorem M11:M 11 = []:=rfl
@[simp] theorem M12:M 12 = [(true,3)]:=rfl
@[simp] theorem M13:M 13 = []:=rfl
@[simp] theorem M14:M 14 = [(true,3),(false,0)]:=rfl
@[simp] theorem M15:M 15 = []:=rfl
@[simp] theorem M16:M 16 = []:=rfl
@[simp] theorem M17:M 17 = [(true,2),(false,0),(false,0)]:=rfl
@[simp] theorem M18:M 18 = [(true,2),(false,0)]:=rfl
@[simp] theorem M19:M 19 = []:=rfl
@[simp] theorem M20:M 20 = [(false,0),(false,1)]:=rfl
@[simp] theorem M21:M 21 = [(false,2),(false,0)]:=rfl
@[simp] theorem M22:M 22 = []:=rfl
@[simp] theorem M23:M 23 = []:=rfl
@[simp] theorem M24:M 24 = []:=rfl
@[simp] theorem M25:M 25 = [(true,3),(false,0)]:=rfl
@[simp] theorem M26:M 26 = [(true,3)]:=rfl
@[simp] theorem M27:M 27 = [(true,3),(true,0)]:=rfl
@[simp] theorem M28:M 28 = [(true,3)]:=rfl
@[simp] theorem M29:M 29 = []:=rfl
@[simp] theorem M30:M 30 = []:=rfl
@[simp] theorem M31:M 31 = []:=rfl
@[simp] theorem M32:M 32 = []:=rfl
@[simp] theorem M45:M 45 = []:=rfl
@[simp] theorem M46:M 46 = []:=rfl
@[simp] theorem M47:M 47 = []:=rfl
@[simp] theorem M48:M 48 = []:=rfl
abbrev K:=Con Try.prog
theorem ks:Sound Try.prog K:=con_sound
end Go.Proofs.Ytdbjdpndledcaaa
