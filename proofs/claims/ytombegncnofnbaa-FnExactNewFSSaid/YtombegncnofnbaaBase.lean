/- The seat's base: its types, its modes. Written by base.py. -/
import Derived.Test.YtombegncnofnbaaFz
import Derived.Test.YtombegncnofnbaaProg
import Derived.KernelRfl
namespace Go.Proofs.Ytombegncnofnbaa
open Go.Fw
set_option linter.unusedVariables false
def rowsT:List (TypeId × TI) := [(2,⟨.int .i64,1,[.int .i64 0]⟩),
  (3,⟨.int .i64,1,[.int .i64 0]⟩),
  (4,⟨.bool,1,[.bool false]⟩),
  (5,⟨.int .u8,1,[.int .u8 0]⟩),
  (9,⟨.str,1,[.str []]⟩),
  (12,⟨.int .u64,1,[.int .u64 0]⟩),
  (21,⟨.int .i32,1,[.int .i32 0]⟩),
  (22,⟨.slice 45,1,[.frz 2 (some true) []]⟩),
  (24,⟨.slice 43,1,[.frz 2 (some true) []]⟩),
  (25,⟨.slice 39,1,[.frz 10 (some true) []]⟩),
  (26,⟨.slice 9,1,[.frz 1 (some true) []]⟩),
  (27,⟨.struct [(0,3),(1,24),(2,25),(3,26)] false,4,[.int .i64 0, .frz 2 (some true) [], .frz 10 (some true) [], .frz 1 (some true) []]⟩),
  (28,⟨.struct [(0,3),(1,24),(2,25),(3,26)] false,4,[.int .i64 0, .frz 2 (some true) [], .frz 10 (some true) [], .frz 1 (some true) []]⟩),
  (36,⟨.slice 3,1,[.frz 1 (some true) []]⟩),
  (37,⟨.slice 81,1,[.frz 3 (some true) []]⟩),
  (38,⟨.struct [(0,3),(1,3),(2,3),(3,3),(4,3),(5,3),(6,3),(7,36),(8,37),(9,37)] false,10,[.int .i64 0, .int .i64 0, .int .i64 0, .int .i64 0, .int .i64 0, .int .i64 0, .int .i64 0, .frz 1 (some true) [], .frz 3 (some true) [], .frz 3 (some true) []]⟩),
  (39,⟨.struct [(0,3),(1,3),(2,3),(3,3),(4,3),(5,3),(6,3),(7,36),(8,37),(9,37)] false,10,[.int .i64 0, .int .i64 0, .int .i64 0, .int .i64 0, .int .i64 0, .int .i64 0, .int .i64 0, .frz 1 (some true) [], .frz 3 (some true) [], .frz 3 (some true) []]⟩),
  (42,⟨.struct [(0,3),(1,3)] true,2,[.int .i64 0, .int .i64 0]⟩),
  (43,⟨.struct [(0,3),(1,3)] true,2,[.int .i64 0, .int .i64 0]⟩),
  (45,⟨.struct [(0,3),(1,3)] true,2,[.int .i64 0, .int .i64 0]⟩),
  (54,⟨.slice 5,1,[.frz 1 (some true) []]⟩),
  (57,⟨.slice 4,1,[.frz 1 (some true) []]⟩),
  (61,⟨.int .u64,1,[.int .u64 0]⟩),
  (64,⟨.arr 56 4,56,[.bool false, .bool false, .bool false, .bool false, .bool false, .bool false, .bool false, .bool false, .bool false, .bool false, .bool false, .bool false, .bool false, .bool false, .bool false, .bool false, .bool false, .bool false, .bool false, .bool false, .bool false, .bool false, .bool false, .bool false, .bool false, .bool false, .bool false, .bool false, .bool false, .bool false, .bool false, .bool false, .bool false, .bool false, .bool false, .bool false, .bool false, .bool false, .bool false, .bool false, .bool false, .bool false, .bool false, .bool false, .bool false, .bool false, .bool false, .bool false, .bool false, .bool false, .bool false, .bool false, .bool false, .bool false, .bool false, .bool false]⟩),
  (72,⟨.int .u32,1,[.int .u32 0]⟩),
  (75,⟨.int .u64,1,[.int .u64 0]⟩),
  (80,⟨.struct [(0,3),(1,3),(2,3)] true,3,[.int .i64 0, .int .i64 0, .int .i64 0]⟩),
  (81,⟨.struct [(0,3),(1,3),(2,3)] true,3,[.int .i64 0, .int .i64 0, .int .i64 0]⟩),
  (96,⟨.ptr 5,1,[.nilp]⟩)]
def T:Types:=tab rowsT
@[simp] theorem T2:T 2=some ⟨.int .i64,1,[.int .i64 0]⟩:=rfl
@[simp] theorem T3:T 3=some ⟨.int .i64,1,[.int .i64 0]⟩:=rfl
@[simp] theorem T4:T 4=some ⟨.bool,1,[.bool false]⟩:=rfl
@[simp] theorem T5:T 5=some ⟨.int .u8,1,[.int .u8 0]⟩:=rfl
@[simp] theorem T9:T 9=some ⟨.str,1,[.str []]⟩:=rfl
@[simp] theorem T12:T 12=some ⟨.int .u64,1,[.int .u64 0]⟩:=rfl
@[simp] theorem T21:T 21=some ⟨.int .i32,1,[.int .i32 0]⟩:=rfl
@[simp] theorem T22:T 22=some ⟨.slice 45,1,[.frz 2 (some true) []]⟩:=rfl
@[simp] theorem T24:T 24=some ⟨.slice 43,1,[.frz 2 (some true) []]⟩:=rfl
@[simp] theorem T25:T 25=some ⟨.slice 39,1,[.frz 10 (some true) []]⟩:=rfl
@[simp] theorem T26:T 26=some ⟨.slice 9,1,[.frz 1 (some true) []]⟩:=rfl
@[simp] theorem T27:T 27=some ⟨.struct [(0,3),(1,24),(2,25),(3,26)] false,4,[.int .i64 0, .frz 2 (some true) [], .frz 10 (some true) [], .frz 1 (some true) []]⟩:=rfl
@[simp] theorem T28:T 28=some ⟨.struct [(0,3),(1,24),(2,25),(3,26)] false,4,[.int .i64 0, .frz 2 (some true) [], .frz 10 (some true) [], .frz 1 (some true) []]⟩:=rfl
@[simp] theorem T36:T 36=some ⟨.slice 3,1,[.frz 1 (some true) []]⟩:=rfl
@[simp] theorem T37:T 37=some ⟨.slice 81,1,[.frz 3 (some true) []]⟩:=rfl
@[simp] theorem T38:T 38=some ⟨.struct [(0,3),(1,3),(2,3),(3,3),(4,3),(5,3),(6,3),(7,36),(8,37),(9,37)] false,10,[.int .i64 0, .int .i64 0, .int .i64 0, .int .i64 0, .int .i64 0, .int .i64 0, .int .i64 0, .frz 1 (some true) [], .frz 3 (some true) [], .frz 3 (some true) []]⟩:=rfl
@[simp] theorem T39:T 39=some ⟨.struct [(0,3),(1,3),(2,3),(3,3),(4,3),(5,3),(6,3),(7,36),(8,37),(9,37)] false,10,[.int .i64 0, .int .i64 0, .int .i64 0, .int .i64 0, .int .i64 0, .int .i64 0, .int .i64 0, .frz 1 (some true) [], .frz 3 (some true) [], .frz 3 (some true) []]⟩:=rfl
@[simp] theorem T42:T 42=some ⟨.struct [(0,3),(1,3)] true,2,[.int .i64 0, .int .i64 0]⟩:=rfl
@[simp] theorem T43:T 43=some ⟨.struct [(0,3),(1,3)] true,2,[.int .i64 0, .int .i64 0]⟩:=rfl
@[simp] theorem T45:T 45=some ⟨.struct [(0,3),(1,3)] true,2,[.int .i64 0, .int .i64 0]⟩:=rfl
@[simp] theorem T54:T 54=some ⟨.slice 5,1,[.frz 1 (some true) []]⟩:=rfl
@[simp] theorem T57:T 57=some ⟨.slice 4,1,[.frz 1 (some true) []]⟩:=rfl
@[simp] theorem T61:T 61=some ⟨.int .u64,1,[.int .u64 0]⟩:=rfl
@[simp] theorem T64:T 64=some ⟨.arr 56 4,56,[.bool false, .bool false, .bool false, .bool false, .bool false, .bool false, .bool false, .bool false, .bool false, .bool false, .bool false, .bool false, .bool false, .bool false, .bool false, .bool false, .bool false, .bool false, .bool false, .bool false, .bool false, .bool false, .bool false, .bool false, .bool false, .bool false, .bool false, .bool false, .bool false, .bool false, .bool false, .bool false, .bool false, .bool false, .bool false, .bool false, .bool false, .bool false, .bool false, .bool false, .bool false, .bool false, .bool false, .bool false, .bool false, .bool false, .bool false, .bool false, .bool false, .bool false, .bool false, .bool false, .bool false, .bool false, .bool false, .bool false]⟩:=rfl
@[simp] theorem T72:T 72=some ⟨.int .u32,1,[.int .u32 0]⟩:=rfl
@[simp] theorem T75:T 75=some ⟨.int .u64,1,[.int .u64 0]⟩:=rfl
@[simp] theorem T80:T 80=some ⟨.struct [(0,3),(1,3),(2,3)] true,3,[.int .i64 0, .int .i64 0, .int .i64 0]⟩:=rfl
@[simp] theorem T81:T 81=some ⟨.struct [(0,3),(1,3),(2,3)] true,3,[.int .i64 0, .int .i64 0, .int .i64 0]⟩:=rfl
@[simp] theorem T96:T 96=some ⟨.ptr 5,1,[.nilp]⟩:=rfl
theorem tok:TOk Try.prog T:=tabB_ok (by kernel_rfl)
theorem mixed:Try.prog.follows .mixedOrders=true:=by kernel_rfl
def M:Modes:=modes [(10,[(true,0),(false,0)]),(11,[(true,0),(false,0)]),(23,[(true,0),(false,0)]),(24,[(true,0),(false,0)]),(37,[(true,0),(false,0)]),(38,[(true,0),(false,0)])]
@[simp] theorem M0:M 0 = []:=rfl
@[simp] theorem M1:M 1 = []:=rfl
@[simp] theorem M2:M 2 = []:=rfl
@[simp] theorem M3:M 3 = []:=rfl
@[simp] theorem M4:M 4 = []:=rfl
@[simp] theorem M5:M 5 = []:=rfl
@[simp] theorem M6:M 6 = []:=rfl
@[simp] theorem M7:M 7 = []:=rfl
@[simp] theorem M8:M 8 = []:=rfl
@[simp] theorem M9:M 9 = []:=rfl
@[simp] theorem M10:M 10 = [(true,0),(false,0)]:=rfl
@[simp] theorem M11:M 11 = [(true,0),(false,0)]:=rfl
@[simp] theorem M12:M 12 = []:=rfl
@[simp] theorem M13:M 13 = []:=rfl
@[simp] theorem M14:M 14 = []:=rfl
@[simp] theorem M15:M 15 = []:=rfl
@[simp] theorem M16:M 16 = []:=rfl
@[simp] theorem M17:M 17 = []:=rfl
@[simp] theorem M18:M 18 = []:=rfl
@[simp] theorem M19:M 19 = []:=rfl
@[simp] theorem M20:M 20 = []:=rfl
@[simp] theorem M21:M 21 = []:=rfl
@[simp] theorem M22:M 22 = []:=rfl
@[simp] theorem M23:M 23 = [(true,0),(false,0)]:=rfl
@[simp] theorem M24:M 24 = [(true,0),(false,0)]:=rfl
@[simp] theorem M25:M 25 = []:=rfl
@[simp] theorem M26:M 26 = []:=rfl
@[simp] theorem M27:M 27 = []:=rfl
@[simp] theorem M28:M 28 = []:=rfl
@[simp] theorem M29:M 29 = []:=rfl
@[simp] theorem M30:M 30 = []:=rfl
@[simp] theorem M31:M 31 = []:=rfl
@[simp] theorem M32:M 32 = []:=rfl
@[simp] theorem M33:M 33 = []:=rfl
@[simp] theorem M34:M 34 = []:=rfl
@[simp] theorem M35:M 35 = []:=rfl
@[simp] theorem M36:M 36 = []:=rfl
@[simp] theorem M37:M 37 = [(true,0),(false,0)]:=rfl
@[simp] theorem M38:M 38 = [(true,0),(false,0)]:=rfl
@[simp] theorem M39:M 39 = []:=rfl
@[simp] theorem M40:M 40 = []:=rfl
@[simp] theorem M41:M 41 = []:=rfl
@[simp] theorem M42:M 42 = []:=rfl
@[simp] theorem M43:M 43 = []:=rfl
@[simp] theorem M44:M 44 = []:=rfl
@[simp] theorem M45:M 45 = []:=rfl
@[simp] theorem M46:M 46 = []:=rfl
@[simp] theorem M47:M 47 = []:=rfl
@[simp] theorem M48:M 48 = []:=rfl
@[simp] theorem M49:M 49 = []:=rfl
@[simp] theorem M50:M 50 = []:=rfl
@[simp] theorem M51:M 51 = []:=rfl
@[simp] theorem M52:M 52 = []:=rfl
@[simp] theorem M53:M 53 = []:=rfl
@[simp] theorem M54:M 54 = []:=rfl
@[simp] theorem M55:M 55 = []:=rfl
@[simp] theorem M56:M 56 = []:=rfl
@[simp] theorem M57:M 57 = []:=rfl
@[simp] theorem M58:M 58 = []:=rfl
@[simp] theorem M59:M 59 = []:=rfl
@[simp] theorem M60:M 60 = []:=rfl
@[simp] theorem M61:M 61 = []:=rfl
@[simp] theorem M62:M 62 = []:=rfl
@[simp] theorem M63:M 63 = []:=rfl
@[simp] theorem M64:M 64 = []:=rfl
@[simp] theorem M65:M 65 = []:=rfl
@[simp] theorem M66:M 66 = []:=rfl
@[simp] theorem M67:M 67 = []:=rfl
@[simp] theorem M68:M 68 = []:=rfl
@[simp] theorem M81:M 81 = []:=rfl
@[simp] theorem M82:M 82 = []:=rfl
@[simp] theorem M83:M 83 = []:=rfl
@[simp] theorem M84:M 84 = []:=rfl
abbrev K:=Con Try.prog
theorem ks:Sound Try.prog K:=con_sound
end Go.Proofs.Ytombegncnofnbaa
