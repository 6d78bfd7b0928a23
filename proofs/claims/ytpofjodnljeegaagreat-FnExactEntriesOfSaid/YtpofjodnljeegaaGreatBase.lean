/- The seat's base: its types, its modes. Written by base.py. -/
import Derived.Test.YtpofjodnljeegaaGreatFz
import Derived.Test.YtpofjodnljeegaaGreatProg
import Derived.KernelRfl
namespace Go.Proofs.YtpofjodnljeegaaGreat
open Go.Fw
set_option linter.unusedVariables false
def rowsT : List (TypeId × TI) := [(2, ⟨.int .i64, 1, [.int .i64 0]⟩),
  (3, ⟨.int .i64, 1, [.int .i64 0]⟩),
  (4, ⟨.bool, 1, [.bool false]⟩),
  (5, ⟨.int .u8, 1, [.int .u8 0]⟩),
  (9, ⟨.str, 1, [.str []]⟩),
  (12, ⟨.int .u64, 1, [.int .u64 0]⟩),
  (21, ⟨.int .i32, 1, [.int .i32 0]⟩),
  (22, ⟨.slice 86, 1, [.frz 2 (some true) []]⟩),
  (23, ⟨.slice 73, 1, [.frz 10 (some true) []]⟩),
  (24, ⟨.slice 9, 1, [.frz 1 (some true) []]⟩),
  (25, ⟨.struct [(0, 3), (1, 22), (2, 23), (3, 24)] false, 4, [.int .i64 0, .frz 2 (some true) [], .frz 10 (some true) [], .frz 1 (some true) []]⟩),
  (26, ⟨.struct [(0, 3), (1, 22), (2, 23), (3, 24)] false, 4, [.int .i64 0, .frz 2 (some true) [], .frz 10 (some true) [], .frz 1 (some true) []]⟩),
  (29, ⟨.slice 76, 1, [.frz 2 (some true) []]⟩),
  (30, ⟨.slice 52, 1, [.frz 10 (some true) []]⟩),
  (31, ⟨.struct [(0, 3), (1, 29), (2, 30), (3, 24)] false, 4, [.int .i64 0, .frz 2 (some true) [], .frz 10 (some true) [], .frz 1 (some true) []]⟩),
  (32, ⟨.struct [(0, 3), (1, 29), (2, 30), (3, 24)] false, 4, [.int .i64 0, .frz 2 (some true) [], .frz 10 (some true) [], .frz 1 (some true) []]⟩),
  (41, ⟨.slice 54, 1, [.frz 2 (some true) []]⟩),
  (49, ⟨.slice 3, 1, [.frz 1 (some true) []]⟩),
  (50, ⟨.slice 109, 1, [.frz 3 (some true) []]⟩),
  (51, ⟨.struct [(0, 3), (1, 3), (2, 3), (3, 3), (4, 3), (5, 3), (6, 3), (7, 49), (8, 50), (9, 50)] false, 10, [.int .i64 0, .int .i64 0, .int .i64 0, .int .i64 0, .int .i64 0, .int .i64 0, .int .i64 0, .frz 1 (some true) [], .frz 3 (some true) [], .frz 3 (some true) []]⟩),
  (52, ⟨.struct [(0, 3), (1, 3), (2, 3), (3, 3), (4, 3), (5, 3), (6, 3), (7, 49), (8, 50), (9, 50)] false, 10, [.int .i64 0, .int .i64 0, .int .i64 0, .int .i64 0, .int .i64 0, .int .i64 0, .int .i64 0, .frz 1 (some true) [], .frz 3 (some true) [], .frz 3 (some true) []]⟩),
  (53, ⟨.struct [(0, 9), (1, 3)] true, 2, [.str [], .int .i64 0]⟩),
  (54, ⟨.struct [(0, 9), (1, 3)] true, 2, [.str [], .int .i64 0]⟩),
  (71, ⟨.slice 112, 1, [.frz 3 (some true) []]⟩),
  (72, ⟨.struct [(0, 3), (1, 3), (2, 3), (3, 3), (4, 3), (5, 3), (6, 3), (7, 49), (8, 71), (9, 71)] false, 10, [.int .i64 0, .int .i64 0, .int .i64 0, .int .i64 0, .int .i64 0, .int .i64 0, .int .i64 0, .frz 1 (some true) [], .frz 3 (some true) [], .frz 3 (some true) []]⟩),
  (73, ⟨.struct [(0, 3), (1, 3), (2, 3), (3, 3), (4, 3), (5, 3), (6, 3), (7, 49), (8, 71), (9, 71)] false, 10, [.int .i64 0, .int .i64 0, .int .i64 0, .int .i64 0, .int .i64 0, .int .i64 0, .int .i64 0, .frz 1 (some true) [], .frz 3 (some true) [], .frz 3 (some true) []]⟩),
  (75, ⟨.struct [(0, 3), (1, 3)] true, 2, [.int .i64 0, .int .i64 0]⟩),
  (76, ⟨.struct [(0, 3), (1, 3)] true, 2, [.int .i64 0, .int .i64 0]⟩),
  (78, ⟨.slice 4, 1, [.frz 1 (some true) []]⟩),
  (86, ⟨.struct [(0, 3), (1, 3)] true, 2, [.int .i64 0, .int .i64 0]⟩),
  (88, ⟨.arr 56 4, 56, [.bool false, .bool false, .bool false, .bool false, .bool false, .bool false, .bool false, .bool false, .bool false, .bool false, .bool false, .bool false, .bool false, .bool false, .bool false, .bool false, .bool false, .bool false, .bool false, .bool false, .bool false, .bool false, .bool false, .bool false, .bool false, .bool false, .bool false, .bool false, .bool false, .bool false, .bool false, .bool false, .bool false, .bool false, .bool false, .bool false, .bool false, .bool false, .bool false, .bool false, .bool false, .bool false, .bool false, .bool false, .bool false, .bool false, .bool false, .bool false, .bool false, .bool false, .bool false, .bool false, .bool false, .bool false, .bool false, .bool false]⟩),
  (89, ⟨.ptr 32, 1, [.nilp]⟩),
  (96, ⟨.slice 5, 1, [.frz 1 (some true) []]⟩),
  (106, ⟨.int .u64, 1, [.int .u64 0]⟩),
  (108, ⟨.struct [(0, 3), (1, 3), (2, 3)] true, 3, [.int .i64 0, .int .i64 0, .int .i64 0]⟩),
  (109, ⟨.struct [(0, 3), (1, 3), (2, 3)] true, 3, [.int .i64 0, .int .i64 0, .int .i64 0]⟩),
  (112, ⟨.struct [(0, 3), (1, 3), (2, 3)] true, 3, [.int .i64 0, .int .i64 0, .int .i64 0]⟩),
  (118, ⟨.arr 256 4, 256, [.bool false, .bool false, .bool false, .bool false, .bool false, .bool false, .bool false, .bool false, .bool false, .bool false, .bool false, .bool false, .bool false, .bool false, .bool false, .bool false, .bool false, .bool false, .bool false, .bool false, .bool false, .bool false, .bool false, .bool false, .bool false, .bool false, .bool false, .bool false, .bool false, .bool false, .bool false, .bool false, .bool false, .bool false, .bool false, .bool false, .bool false, .bool false, .bool false, .bool false, .bool false, .bool false, .bool false, .bool false, .bool false, .bool false, .bool false, .bool false, .bool false, .bool false, .bool false, .bool false, .bool false, .bool false, .bool false, .bool false, .bool false, .bool false, .bool false, .bool false, .bool false, .bool false, .bool false, .bool false, .bool false, .bool false, .bool false, .bool false, .bool false, .bool false, .bool false, .bool false, .bool false, .bool false, .bool false, .bool false, .bool false, .bool false, .bool false, .bool false, .bool false, .bool false, .bool false, .bool false, .bool false, .bool false, .bool false, .bool false, .bool false, .bool false, .bool false, .bool false, .bool false, .bool false, .bool false, .bool false, .bool false, .bool false, .bool false, .bool false, .bool false, .bool false, .bool false, .bool false, .bool false, .bool false, .bool false, .bool false, .bool false, .bool false, .bool false, .bool false, .bool false, .bool false, .bool false, .bool false, .bool false, .bool false, .bool false, .bool false, .bool false, .bool false, .bool false, .bool false, .bool false, .bool false, .bool false, .bool false, .bool false, .bool false, .bool false, .bool false, .bool false, .bool false, .bool false, .bool false, .bool false, .bool false, .bool false, .bool false, .bool false, .bool false, .bool false, .bool false, .bool false, .bool false, .bool false, .bool false, .bool false, .bool false, .bool false, .bool false, .bool false, .bool false, .bool false, .bool false, .bool false, .bool false, .bool false, .bool false, .bool false, .bool false, .bool false, .bool false, .bool false, .bool false, .bool false, .bool false, .bool false, .bool false, .bool false, .bool false, .bool false, .bool false, .bool false, .bool false, .bool false, .bool false, .bool false, .bool false, .bool false, .bool false, .bool false, .bool false, .bool false, .bool false, .bool false, .bool false, .bool false, .bool false, .bool false, .bool false, .bool false, .bool false, .bool false, .bool false, .bool false, .bool false, .bool false, .bool false, .bool false, .bool false, .bool false, .bool false, .bool false, .bool false, .bool false, .bool false, .bool false, .bool false, .bool false, .bool false, .bool false, .bool false, .bool false, .bool false, .bool false, .bool false, .bool false, .bool false, .bool false, .bool false, .bool false, .bool false, .bool false, .bool false, .bool false, .bool false, .bool false, .bool false, .bool false, .bool false, .bool false, .bool false, .bool false, .bool false, .bool false, .bool false, .bool false, .bool false, .bool false, .bool false, .bool false, .bool false, .bool false, .bool false, .bool false, .bool false, .bool false, .bool false, .bool false, .bool false, .bool false, .bool false, .bool false, .bool false]⟩),
  (119, ⟨.arr 256 4, 256, [.bool false, .bool false, .bool false, .bool false, .bool false, .bool false, .bool false, .bool false, .bool false, .bool false, .bool false, .bool false, .bool false, .bool false, .bool false, .bool false, .bool false, .bool false, .bool false, .bool false, .bool false, .bool false, .bool false, .bool false, .bool false, .bool false, .bool false, .bool false, .bool false, .bool false, .bool false, .bool false, .bool false, .bool false, .bool false, .bool false, .bool false, .bool false, .bool false, .bool false, .bool false, .bool false, .bool false, .bool false, .bool false, .bool false, .bool false, .bool false, .bool false, .bool false, .bool false, .bool false, .bool false, .bool false, .bool false, .bool false, .bool false, .bool false, .bool false, .bool false, .bool false, .bool false, .bool false, .bool false, .bool false, .bool false, .bool false, .bool false, .bool false, .bool false, .bool false, .bool false, .bool false, .bool false, .bool false, .bool false, .bool false, .bool false, .bool false, .bool false, .bool false, .bool false, .bool false, .bool false, .bool false, .bool false, .bool false, .bool false, .bool false, .bool false, .bool false, .bool false, .bool false, .bool false, .bool false, .bool false, .bool false, .bool false, .bool false, .bool false, .bool false, .bool false, .bool false, .bool false, .bool false, .bool false, .bool false, .bool false, .bool false, .bool false, .bool false, .bool false, .bool false, .bool false, .bool false, .bool false, .bool false, .bool false, .bool false, .bool false, .bool false, .bool false, .bool false, .bool false, .bool false, .bool false, .bool false, .bool false, .bool false, .bool false, .bool false, .bool false, .bool false, .bool false, .bool false, .bool false, .bool false, .bool false, .bool false, .bool false, .bool false, .bool false, .bool false, .bool false, .bool false, .bool false, .bool false, .bool false, .bool false, .bool false, .bool false, .bool false, .bool false, .bool false, .bool false, .bool false, .bool false, .bool false, .bool false, .bool false, .bool false, .bool false, .bool false, .bool false, .bool false, .bool false, .bool false, .bool false, .bool false, .bool false, .bool false, .bool false, .bool false, .bool false, .bool false, .bool false, .bool false, .bool false, .bool false, .bool false, .bool false, .bool false, .bool false, .bool false, .bool false, .bool false, .bool false, .bool false, .bool false, .bool false, .bool false, .bool false, .bool false, .bool false, .bool false, .bool false, .bool false, .bool false, .bool false, .bool false, .bool false, .bool false, .bool false, .bool false, .bool false, .bool false, .bool false, .bool false, .bool false, .bool false, .bool false, .bool false, .bool false, .bool false, .bool false, .bool false, .bool false, .bool false, .bool false, .bool false, .bool false, .bool false, .bool false, .bool false, .bool false, .bool false, .bool false, .bool false, .bool false, .bool false, .bool false, .bool false, .bool false, .bool false, .bool false, .bool false, .bool false, .bool false, .bool false, .bool false, .bool false, .bool false, .bool false, .bool false, .bool false, .bool false, .bool false, .bool false, .bool false, .bool false, .bool false, .bool false, .bool false, .bool false, .bool false, .bool false]⟩),
  (125, ⟨.ptr 127, 1, [.nilp]⟩),
  (126, ⟨.struct [(0, 125), (1, 96)] false, 2, [.nilp, .frz 1 (some true) []]⟩),
  (127, ⟨.struct [(0, 125), (1, 96)] false, 2, [.nilp, .frz 1 (some true) []]⟩),
  (137, ⟨.ptr 119, 1, [.nilp]⟩),
  (138, ⟨.int .u32, 1, [.int .u32 0]⟩),
  (141, ⟨.int .u64, 1, [.int .u64 0]⟩),
  (144, ⟨.ptr 5, 1, [.nilp]⟩)]
def T : Types := tab rowsT
@[simp] theorem T2 : T 2 = some ⟨.int .i64, 1, [.int .i64 0]⟩ := rfl
@[simp] theorem T3 : T 3 = some ⟨.int .i64, 1, [.int .i64 0]⟩ := rfl
@[simp] theorem T4 : T 4 = some ⟨.bool, 1, [.bool false]⟩ := rfl
@[simp] theorem T5 : T 5 = some ⟨.int .u8, 1, [.int .u8 0]⟩ := rfl
@[simp] theorem T9 : T 9 = some ⟨.str, 1, [.str []]⟩ := rfl
@[simp] theorem T12 : T 12 = some ⟨.int .u64, 1, [.int .u64 0]⟩ := rfl
@[simp] theorem T21 : T 21 = some ⟨.int .i32, 1, [.int .i32 0]⟩ := rfl
@[simp] theorem T22 : T 22 = some ⟨.slice 86, 1, [.frz 2 (some true) []]⟩ := rfl
@[simp] theorem T23 : T 23 = some ⟨.slice 73, 1, [.frz 10 (some true) []]⟩ := rfl
@[simp] theorem T24 : T 24 = some ⟨.slice 9, 1, [.frz 1 (some true) []]⟩ := rfl
@[simp] theorem T25 : T 25 = some ⟨.struct [(0, 3), (1, 22), (2, 23), (3, 24)] false, 4, [.int .i64 0, .frz 2 (some true) [], .frz 10 (some true) [], .frz 1 (some true) []]⟩ := rfl
@[simp] theorem T26 : T 26 = some ⟨.struct [(0, 3), (1, 22), (2, 23), (3, 24)] false, 4, [.int .i64 0, .frz 2 (some true) [], .frz 10 (some true) [], .frz 1 (some true) []]⟩ := rfl
@[simp] theorem T29 : T 29 = some ⟨.slice 76, 1, [.frz 2 (some true) []]⟩ := rfl
@[simp] theorem T30 : T 30 = some ⟨.slice 52, 1, [.frz 10 (some true) []]⟩ := rfl
@[simp] theorem T31 : T 31 = some ⟨.struct [(0, 3), (1, 29), (2, 30), (3, 24)] false, 4, [.int .i64 0, .frz 2 (some true) [], .frz 10 (some true) [], .frz 1 (some true) []]⟩ := rfl
@[simp] theorem T32 : T 32 = some ⟨.struct [(0, 3), (1, 29), (2, 30), (3, 24)] false, 4, [.int .i64 0, .frz 2 (some true) [], .frz 10 (some true) [], .frz 1 (some true) []]⟩ := rfl
@[simp] theorem T41 : T 41 = some ⟨.slice 54, 1, [.frz 2 (some true) []]⟩ := rfl
@[simp] theorem T49 : T 49 = some ⟨.slice 3, 1, [.frz 1 (some true) []]⟩ := rfl
@[simp] theorem T50 : T 50 = some ⟨.slice 109, 1, [.frz 3 (some true) []]⟩ := rfl
@[simp] theorem T51 : T 51 = some ⟨.struct [(0, 3), (1, 3), (2, 3), (3, 3), (4, 3), (5, 3), (6, 3), (7, 49), (8, 50), (9, 50)] false, 10, [.int .i64 0, .int .i64 0, .int .i64 0, .int .i64 0, .int .i64 0, .int .i64 0, .int .i64 0, .frz 1 (some true) [], .frz 3 (some true) [], .frz 3 (some true) []]⟩ := rfl
@[simp] theorem T52 : T 52 = some ⟨.struct [(0, 3), (1, 3), (2, 3), (3, 3), (4, 3), (5, 3), (6, 3), (7, 49), (8, 50), (9, 50)] false, 10, [.int .i64 0, .int .i64 0, .int .i64 0, .int .i64 0, .int .i64 0, .int .i64 0, .int .i64 0, .frz 1 (some true) [], .frz 3 (some true) [], .frz 3 (some true) []]⟩ := rfl
@[simp] theorem T53 : T 53 = some ⟨.struct [(0, 9), (1, 3)] true, 2, [.str [], .int .i64 0]⟩ := rfl
@[simp] theorem T54 : T 54 = some ⟨.struct [(0, 9), (1, 3)] true, 2, [.str [], .int .i64 0]⟩ := rfl
@[simp] theorem T71 : T 71 = some ⟨.slice 112, 1, [.frz 3 (some true) []]⟩ := rfl
@[simp] theorem T72 : T 72 = some ⟨.struct [(0, 3), (1, 3), (2, 3), (3, 3), (4, 3), (5, 3), (6, 3), (7, 49), (8, 71), (9, 71)] false, 10, [.int .i64 0, .int .i64 0, .int .i64 0, .int .i64 0, .int .i64 0, .int .i64 0, .int .i64 0, .frz 1 (some true) [], .frz 3 (some true) [], .frz 3 (some true) []]⟩ := rfl
@[simp] theorem T73 : T 73 = some ⟨.struct [(0, 3), (1, 3), (2, 3), (3, 3), (4, 3), (5, 3), (6, 3), (7, 49), (8, 71), (9, 71)] false, 10, [.int .i64 0, .int .i64 0, .int .i64 0, .int .i64 0, .int .i64 0, .int .i64 0, .int .i64 0, .frz 1 (some true) [], .frz 3 (some true) [], .frz 3 (some true) []]⟩ := rfl
@[simp] theorem T75 : T 75 = some ⟨.struct [(0, 3), (1, 3)] true, 2, [.int .i64 0, .int .i64 0]⟩ := rfl
@[simp] theorem T76 : T 76 = some ⟨.struct [(0, 3), (1, 3)] true, 2, [.int .i64 0, .int .i64 0]⟩ := rfl
@[simp] theorem T78 : T 78 = some ⟨.slice 4, 1, [.frz 1 (some true) []]⟩ := rfl
@[simp] theorem T86 : T 86 = some ⟨.struct [(0, 3), (1, 3)] true, 2, [.int .i64 0, .int .i64 0]⟩ := rfl
@[simp] theorem T88 : T 88 = some ⟨.arr 56 4, 56, [.bool false, .bool false, .bool false, .bool false, .bool false, .bool false, .bool false, .bool false, .bool false, .bool false, .bool false, .bool false, .bool false, .bool false, .bool false, .bool false, .bool false, .bool false, .bool false, .bool false, .bool false, .bool false, .bool false, .bool false, .bool false, .bool false, .bool false, .bool false, .bool false, .bool false, .bool false, .bool false, .bool false, .bool false, .bool false, .bool false, .bool false, .bool false, .bool false, .bool false, .bool false, .bool false, .bool false, .bool false, .bool false, .bool false, .bool false, .bool false, .bool false, .bool false, .bool false, .bool false, .bool false, .bool false, .bool false, .bool false]⟩ := rfl
@[simp] theorem T89 : T 89 = some ⟨.ptr 32, 1, [.nilp]⟩ := rfl
@[simp] theorem T96 : T 96 = some ⟨.slice 5, 1, [.frz 1 (some true) []]⟩ := rfl
@[simp] theorem T106 : T 106 = some ⟨.int .u64, 1, [.int .u64 0]⟩ := rfl
@[simp] theorem T108 : T 108 = some ⟨.struct [(0, 3), (1, 3), (2, 3)] true, 3, [.int .i64 0, .int .i64 0, .int .i64 0]⟩ := rfl
@[simp] theorem T109 : T 109 = some ⟨.struct [(0, 3), (1, 3), (2, 3)] true, 3, [.int .i64 0, .int .i64 0, .int .i64 0]⟩ := rfl
@[simp] theorem T112 : T 112 = some ⟨.struct [(0, 3), (1, 3), (2, 3)] true, 3, [.int .i64 0, .int .i64 0, .int .i64 0]⟩ := rfl
@[simp] theorem T118 : T 118 = some ⟨.arr 256 4, 256, [.bool false, .bool false, .bool false, .bool false, .bool false, .bool false, .bool false, .bool false, .bool false, .bool false, .bool false, .bool false, .bool false, .bool false, .bool false, .bool false, .bool false, .bool false, .bool false, .bool false, .bool false, .bool false, .bool false, .bool false, .bool false, .bool false, .bool false, .bool false, .bool false, .bool false, .bool false, .bool false, .bool false, .bool false, .bool false, .bool false, .bool false, .bool false, .bool false, .bool false, .bool false, .bool false, .bool false, .bool false, .bool false, .bool false, .bool false, .bool false, .bool false, .bool false, .bool false, .bool false, .bool false, .bool false, .bool false, .bool false, .bool false, .bool false, .bool false, .bool false, .bool false, .bool false, .bool false, .bool false, .bool false, .bool false, .bool false, .bool false, .bool false, .bool false, .bool false, .bool false, .bool false, .bool false, .bool false, .bool false, .bool false, .bool false, .bool false, .bool false, .bool false, .bool false, .bool false, .bool false, .bool false, .bool false, .bool false, .bool false, .bool false, .bool false, .bool false, .bool false, .bool false, .bool false, .bool false, .bool false, .bool false, .bool false, .bool false, .bool false, .bool false, .bool false, .bool false, .bool false, .bool false, .bool false, .bool false, .bool false, .bool false, .bool false, .bool false, .bool false, .bool false, .bool false, .bool false, .bool false, .bool false, .bool false, .bool false, .bool false, .bool false, .bool false, .bool false, .bool false, .bool false, .bool false, .bool false, .bool false, .bool false, .bool false, .bool false, .bool false, .bool false, .bool false, .bool false, .bool false, .bool false, .bool false, .bool false, .bool false, .bool false, .bool false, .bool false, .bool false, .bool false, .bool false, .bool false, .bool false, .bool false, .bool false, .bool false, .bool false, .bool false, .bool false, .bool false, .bool false, .bool false, .bool false, .bool false, .bool false, .bool false, .bool false, .bool false, .bool false, .bool false, .bool false, .bool false, .bool false, .bool false, .bool false, .bool false, .bool false, .bool false, .bool false, .bool false, .bool false, .bool false, .bool false, .bool false, .bool false, .bool false, .bool false, .bool false, .bool false, .bool false, .bool false, .bool false, .bool false, .bool false, .bool false, .bool false, .bool false, .bool false, .bool false, .bool false, .bool false, .bool false, .bool false, .bool false, .bool false, .bool false, .bool false, .bool false, .bool false, .bool false, .bool false, .bool false, .bool false, .bool false, .bool false, .bool false, .bool false, .bool false, .bool false, .bool false, .bool false, .bool false, .bool false, .bool false, .bool false, .bool false, .bool false, .bool false, .bool false, .bool false, .bool false, .bool false, .bool false, .bool false, .bool false, .bool false, .bool false, .bool false, .bool false, .bool false, .bool false, .bool false, .bool false, .bool false, .bool false, .bool false, .bool false, .bool false, .bool false, .bool false, .bool false, .bool false, .bool false, .bool false, .bool false, .bool false, .bool false, .bool false, .bool false, .bool false, .bool false]⟩ := rfl
@[simp] theorem T119 : T 119 = some ⟨.arr 256 4, 256, [.bool false, .bool false, .bool false, .bool false, .bool false, .bool false, .bool false, .bool false, .bool false, .bool false, .bool false, .bool false, .bool false, .bool false, .bool false, .bool false, .bool false, .bool false, .bool false, .bool false, .bool false, .bool false, .bool false, .bool false, .bool false, .bool false, .bool false, .bool false, .bool false, .bool false, .bool false, .bool false, .bool false, .bool false, .bool false, .bool false, .bool false, .bool false, .bool false, .bool false, .bool false, .bool false, .bool false, .bool false, .bool false, .bool false, .bool false, .bool false, .bool false, .bool false, .bool false, .bool false, .bool false, .bool false, .bool false, .bool false, .bool false, .bool false, .bool false, .bool false, .bool false, .bool false, .bool false, .bool false, .bool false, .bool false, .bool false, .bool false, .bool false, .bool false, .bool false, .bool false, .bool false, .bool false, .bool false, .bool false, .bool false, .bool false, .bool false, .bool false, .bool false, .bool false, .bool false, .bool false, .bool false, .bool false, .bool false, .bool false, .bool false, .bool false, .bool false, .bool false, .bool false, .bool false, .bool false, .bool false, .bool false, .bool false, .bool false, .bool false, .bool false, .bool false, .bool false, .bool false, .bool false, .bool false, .bool false, .bool false, .bool false, .bool false, .bool false, .bool false, .bool false, .bool false, .bool false, .bool false, .bool false, .bool false, .bool false, .bool false, .bool false, .bool false, .bool false, .bool false, .bool false, .bool false, .bool false, .bool false, .bool false, .bool false, .bool false, .bool false, .bool false, .bool false, .bool false, .bool false, .bool false, .bool false, .bool false, .bool false, .bool false, .bool false, .bool false, .bool false, .bool false, .bool false, .bool false, .bool false, .bool false, .bool false, .bool false, .bool false, .bool false, .bool false, .bool false, .bool false, .bool false, .bool false, .bool false, .bool false, .bool false, .bool false, .bool false, .bool false, .bool false, .bool false, .bool false, .bool false, .bool false, .bool false, .bool false, .bool false, .bool false, .bool false, .bool false, .bool false, .bool false, .bool false, .bool false, .bool false, .bool false, .bool false, .bool false, .bool false, .bool false, .bool false, .bool false, .bool false, .bool false, .bool false, .bool false, .bool false, .bool false, .bool false, .bool false, .bool false, .bool false, .bool false, .bool false, .bool false, .bool false, .bool false, .bool false, .bool false, .bool false, .bool false, .bool false, .bool false, .bool false, .bool false, .bool false, .bool false, .bool false, .bool false, .bool false, .bool false, .bool false, .bool false, .bool false, .bool false, .bool false, .bool false, .bool false, .bool false, .bool false, .bool false, .bool false, .bool false, .bool false, .bool false, .bool false, .bool false, .bool false, .bool false, .bool false, .bool false, .bool false, .bool false, .bool false, .bool false, .bool false, .bool false, .bool false, .bool false, .bool false, .bool false, .bool false, .bool false, .bool false, .bool false, .bool false, .bool false, .bool false, .bool false, .bool false, .bool false]⟩ := rfl
@[simp] theorem T125 : T 125 = some ⟨.ptr 127, 1, [.nilp]⟩ := rfl
@[simp] theorem T126 : T 126 = some ⟨.struct [(0, 125), (1, 96)] false, 2, [.nilp, .frz 1 (some true) []]⟩ := rfl
@[simp] theorem T127 : T 127 = some ⟨.struct [(0, 125), (1, 96)] false, 2, [.nilp, .frz 1 (some true) []]⟩ := rfl
@[simp] theorem T137 : T 137 = some ⟨.ptr 119, 1, [.nilp]⟩ := rfl
@[simp] theorem T138 : T 138 = some ⟨.int .u32, 1, [.int .u32 0]⟩ := rfl
@[simp] theorem T141 : T 141 = some ⟨.int .u64, 1, [.int .u64 0]⟩ := rfl
@[simp] theorem T144 : T 144 = some ⟨.ptr 5, 1, [.nilp]⟩ := rfl
theorem tok : TOk Tryz.prog T := tabB_ok (by kernel_rfl)
theorem mixed : Tryz.prog.follows .mixedOrders = true := by kernel_rfl
def M : Modes := modes [(19, [(true, 0), (false, 0)]), (20, [(true, 0), (false, 0)]), (31, [(false, 4), (false, 0)]), (36, [(false, 4), (false, 0)]), (39, [(false, 4), (false, 0)]), (40, [(false, 4), (false, 0), (false, 0)]), (41, [(false, 4), (false, 0)]), (43, [(true, 0), (false, 0)]), (44, [(true, 0), (false, 0)]), (45, [(true, 0), (false, 0)]), (64, [(false, 4), (false, 0)]), (66, [(false, 4), (false, 0)]), (70, [(true, 0), (false, 0)]), (71, [(true, 0), (false, 0)])]
@[simp] theorem M0 : M 0 = [] := rfl
@[simp] theorem M1 : M 1 = [] := rfl
@[simp] theorem M2 : M 2 = [] := rfl
@[simp] theorem M3 : M 3 = [] := rfl
@[simp] theorem M4 : M 4 = [] := rfl
@[simp] theorem M5 : M 5 = [] := rfl
@[simp] theorem M6 : M 6 = [] := rfl
@[simp] theorem M7 : M 7 = [] := rfl
@[simp] theorem M8 : M 8 = [] := rfl
@[simp] theorem M9 : M 9 = [] := rfl
@[simp] theorem M10 : M 10 = [] := rfl
@[simp] theorem M11 : M 11 = [] := rfl
@[simp] theorem M12 : M 12 = [] := rfl
@[simp] theorem M13 : M 13 = [] := rfl
@[simp] theorem M14 : M 14 = [] := rfl
@[simp] theorem M15 : M 15 = [] := rfl
@[simp] theorem M16 : M 16 = [] := rfl
@[simp] theorem M17 : M 17 = [] := rfl
@[simp] theorem M18 : M 18 = [] := rfl
@[simp] theorem M19 : M 19 = [(true, 0), (false, 0)] := rfl
@[simp] theorem M20 : M 20 = [(true, 0), (false, 0)] := rfl
@[simp] theorem M21 : M 21 = [] := rfl
@[simp] theorem M22 : M 22 = [] := rfl
@[simp] theorem M23 : M 23 = [] := rfl
@[simp] theorem M24 : M 24 = [] := rfl
@[simp] theorem M25 : M 25 = [] := rfl
@[simp] theorem M26 : M 26 = [] := rfl
@[simp] theorem M27 : M 27 = [] := rfl
@[simp] theorem M28 : M 28 = [] := rfl
@[simp] theorem M29 : M 29 = [] := rfl
@[simp] theorem M30 : M 30 = [] := rfl
@[simp] theorem M31 : M 31 = [(false, 4), (false, 0)] := rfl
@[simp] theorem M32 : M 32 = [] := rfl
@[simp] theorem M33 : M 33 = [] := rfl
@[simp] theorem M34 : M 34 = [] := rfl
@[simp] theorem M35 : M 35 = [] := rfl
@[simp] theorem M36 : M 36 = [(false, 4), (false, 0)] := rfl
@[simp] theorem M37 : M 37 = [] := rfl
@[simp] theorem M38 : M 38 = [] := rfl
@[simp] theorem M39 : M 39 = [(false, 4), (false, 0)] := rfl
@[simp] theorem M40 : M 40 = [(false, 4), (false, 0), (false, 0)] := rfl
@[simp] theorem M41 : M 41 = [(false, 4), (false, 0)] := rfl
@[simp] theorem M42 : M 42 = [] := rfl
@[simp] theorem M43 : M 43 = [(true, 0), (false, 0)] := rfl
@[simp] theorem M44 : M 44 = [(true, 0), (false, 0)] := rfl
@[simp] theorem M45 : M 45 = [(true, 0), (false, 0)] := rfl
@[simp] theorem M46 : M 46 = [] := rfl
@[simp] theorem M47 : M 47 = [] := rfl
@[simp] theorem M48 : M 48 = [] := rfl
@[simp] theorem M49 : M 49 = [] := rfl
@[simp] theorem M50 : M 50 = [] := rfl
@[simp] theorem M51 : M 51 = [] := rfl
@[simp] theorem M52 : M 52 = [] := rfl
@[simp] theorem M53 : M 53 = [] := rfl
@[simp] theorem M54 : M 54 = [] := rfl
@[simp] theorem M55 : M 55 = [] := rfl
@[simp] theorem M56 : M 56 = [] := rfl
@[simp] theorem M57 : M 57 = [] := rfl
@[simp] theorem M58 : M 58 = [] := rfl
@[simp] theorem M59 : M 59 = [] := rfl
@[simp] theorem M60 : M 60 = [] := rfl
@[simp] theorem M61 : M 61 = [] := rfl
@[simp] theorem M62 : M 62 = [] := rfl
@[simp] theorem M63 : M 63 = [] := rfl
@[simp] theorem M64 : M 64 = [(false, 4), (false, 0)] := rfl
@[simp] theorem M65 : M 65 = [] := rfl
@[simp] theorem M66 : M 66 = [(false, 4), (false, 0)] := rfl
@[simp] theorem M67 : M 67 = [] := rfl
@[simp] theorem M68 : M 68 = [] := rfl
@[simp] theorem M69 : M 69 = [] := rfl
@[simp] theorem M70 : M 70 = [(true, 0), (false, 0)] := rfl
@[simp] theorem M71 : M 71 = [(true, 0), (false, 0)] := rfl
@[simp] theorem M72 : M 72 = [] := rfl
@[simp] theorem M73 : M 73 = [] := rfl
@[simp] theorem M74 : M 74 = [] := rfl
@[simp] theorem M75 : M 75 = [] := rfl
@[simp] theorem M76 : M 76 = [] := rfl
@[simp] theorem M77 : M 77 = [] := rfl
@[simp] theorem M78 : M 78 = [] := rfl
@[simp] theorem M79 : M 79 = [] := rfl
@[simp] theorem M80 : M 80 = [] := rfl
@[simp] theorem M81 : M 81 = [] := rfl
@[simp] theorem M82 : M 82 = [] := rfl
@[simp] theorem M83 : M 83 = [] := rfl
@[simp] theorem M84 : M 84 = [] := rfl
@[simp] theorem M85 : M 85 = [] := rfl
@[simp] theorem M86 : M 86 = [] := rfl
@[simp] theorem M87 : M 87 = [] := rfl
@[simp] theorem M88 : M 88 = [] := rfl
@[simp] theorem M89 : M 89 = [] := rfl
@[simp] theorem M90 : M 90 = [] := rfl
@[simp] theorem M91 : M 91 = [] := rfl
@[simp] theorem M92 : M 92 = [] := rfl
@[simp] theorem M93 : M 93 = [] := rfl
@[simp] theorem M94 : M 94 = [] := rfl
@[simp] theorem M95 : M 95 = [] := rfl
@[simp] theorem M96 : M 96 = [] := rfl
@[simp] theorem M97 : M 97 = [] := rfl
@[simp] theorem M98 : M 98 = [] := rfl
@[simp] theorem M99 : M 99 = [] := rfl
@[simp] theorem M100 : M 100 = [] := rfl
@[simp] theorem M101 : M 101 = [] := rfl
@[simp] theorem M102 : M 102 = [] := rfl
@[simp] theorem M103 : M 103 = [] := rfl
@[simp] theorem M104 : M 104 = [] := rfl
@[simp] theorem M105 : M 105 = [] := rfl
@[simp] theorem M106 : M 106 = [] := rfl
@[simp] theorem M107 : M 107 = [] := rfl
@[simp] theorem M108 : M 108 = [] := rfl
@[simp] theorem M109 : M 109 = [] := rfl
@[simp] theorem M110 : M 110 = [] := rfl
@[simp] theorem M111 : M 111 = [] := rfl
@[simp] theorem M112 : M 112 = [] := rfl
@[simp] theorem M113 : M 113 = [] := rfl
@[simp] theorem M114 : M 114 = [] := rfl
@[simp] theorem M115 : M 115 = [] := rfl
@[simp] theorem M116 : M 116 = [] := rfl
@[simp] theorem M117 : M 117 = [] := rfl
@[simp] theorem M118 : M 118 = [] := rfl
@[simp] theorem M119 : M 119 = [] := rfl
@[simp] theorem M120 : M 120 = [] := rfl
@[simp] theorem M121 : M 121 = [] := rfl
@[simp] theorem M122 : M 122 = [] := rfl
@[simp] theorem M123 : M 123 = [] := rfl
@[simp] theorem M124 : M 124 = [] := rfl
@[simp] theorem M125 : M 125 = [] := rfl
@[simp] theorem M126 : M 126 = [] := rfl
@[simp] theorem M127 : M 127 = [] := rfl
@[simp] theorem M128 : M 128 = [] := rfl
@[simp] theorem M129 : M 129 = [] := rfl
@[simp] theorem M130 : M 130 = [] := rfl
@[simp] theorem M131 : M 131 = [] := rfl
@[simp] theorem M132 : M 132 = [] := rfl
@[simp] theorem M145 : M 145 = [] := rfl
@[simp] theorem M146 : M 146 = [] := rfl
@[simp] theorem M147 : M 147 = [] := rfl
@[simp] theorem M148 : M 148 = [] := rfl
@[simp] theorem M149 : M 149 = [] := rfl
@[simp] theorem M150 : M 150 = [] := rfl
abbrev K := Con Tryz.prog
theorem ks : Sound Tryz.prog K := con_sound
end Go.Proofs.YtpofjodnljeegaaGreat
