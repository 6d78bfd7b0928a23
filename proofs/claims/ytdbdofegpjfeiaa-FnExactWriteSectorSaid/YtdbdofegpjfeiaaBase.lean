/- The seat's base: its types, its modes. Written by base.py. -/
import Derived.Test.YtdbdofegpjfeiaaFz
import Derived.Test.YtdbdofegpjfeiaaProg
import Derived.KernelRfl
namespace Go.Proofs.Ytdbdofegpjfeiaa
open Go.Fw
set_option linter.unusedVariables false
def rowsT : List (TypeId × TI) := [(2, ⟨.int .i64, 1, [.int .i64 0]⟩),
  (3, ⟨.int .i64, 1, [.int .i64 0]⟩),
  (4, ⟨.bool, 1, [.bool false]⟩),
  (5, ⟨.int .u8, 1, [.int .u8 0]⟩),
  (9, ⟨.str, 1, [.str []]⟩),
  (12, ⟨.int .u64, 1, [.int .u64 0]⟩),
  (21, ⟨.int .i32, 1, [.int .i32 0]⟩),
  (22, ⟨.slice 9, 1, [.frz 1 (some true) []]⟩),
  (28, ⟨.slice 89, 1, [.frz 3 (some true) []]⟩),
  (29, ⟨.struct [(0, 3), (1, 3), (2, 9), (3, 9), (4, 3), (5, 3), (6, 3), (7, 9), (8, 28), (9, 28)] false, 10, [.int .i64 0, .int .i64 0, .str [], .str [], .int .i64 0, .int .i64 0, .int .i64 0, .str [], .frz 3 (some true) [], .frz 3 (some true) []]⟩),
  (30, ⟨.struct [(0, 3), (1, 3), (2, 9), (3, 9), (4, 3), (5, 3), (6, 3), (7, 9), (8, 28), (9, 28)] false, 10, [.int .i64 0, .int .i64 0, .str [], .str [], .int .i64 0, .int .i64 0, .int .i64 0, .str [], .frz 3 (some true) [], .frz 3 (some true) []]⟩),
  (33, ⟨.slice 87, 1, [.frz 3 (some true) []]⟩),
  (34, ⟨.struct [(0, 3), (1, 3), (2, 9), (3, 9), (4, 3), (5, 3), (6, 3), (7, 9), (8, 33), (9, 33)] false, 10, [.int .i64 0, .int .i64 0, .str [], .str [], .int .i64 0, .int .i64 0, .int .i64 0, .str [], .frz 3 (some true) [], .frz 3 (some true) []]⟩),
  (35, ⟨.struct [(0, 3), (1, 3), (2, 9), (3, 9), (4, 3), (5, 3), (6, 3), (7, 9), (8, 33), (9, 33)] false, 10, [.int .i64 0, .int .i64 0, .str [], .str [], .int .i64 0, .int .i64 0, .int .i64 0, .str [], .frz 3 (some true) [], .frz 3 (some true) []]⟩),
  (40, ⟨.slice 5, 1, [.frz 1 (some true) []]⟩),
  (41, ⟨.slice 80, 1, [.frz 2 (some true) []]⟩),
  (42, ⟨.struct [(0, 22), (1, 41)] false, 2, [.frz 1 (some true) [], .frz 2 (some true) []]⟩),
  (43, ⟨.struct [(0, 22), (1, 41)] false, 2, [.frz 1 (some true) [], .frz 2 (some true) []]⟩),
  (50, ⟨.slice 4, 1, [.frz 1 (some true) []]⟩),
  (55, ⟨.slice 103, 1, [.frz 2 (some true) []]⟩),
  (56, ⟨.struct [(0, 22), (1, 55)] false, 2, [.frz 1 (some true) [], .frz 2 (some true) []]⟩),
  (57, ⟨.struct [(0, 22), (1, 55)] false, 2, [.frz 1 (some true) [], .frz 2 (some true) []]⟩),
  (71, ⟨.ptr 96, 1, [.nilp]⟩),
  (79, ⟨.struct [(0, 3), (1, 9)] true, 2, [.int .i64 0, .str []]⟩),
  (80, ⟨.struct [(0, 3), (1, 9)] true, 2, [.int .i64 0, .str []]⟩),
  (86, ⟨.struct [(0, 3), (1, 3), (2, 3)] true, 3, [.int .i64 0, .int .i64 0, .int .i64 0]⟩),
  (87, ⟨.struct [(0, 3), (1, 3), (2, 3)] true, 3, [.int .i64 0, .int .i64 0, .int .i64 0]⟩),
  (89, ⟨.struct [(0, 3), (1, 3), (2, 3)] true, 3, [.int .i64 0, .int .i64 0, .int .i64 0]⟩),
  (95, ⟨.struct [(0, 40), (1, 3), (2, 3)] false, 3, [.frz 1 (some true) [], .int .i64 0, .int .i64 0]⟩),
  (96, ⟨.struct [(0, 40), (1, 3), (2, 3)] false, 3, [.frz 1 (some true) [], .int .i64 0, .int .i64 0]⟩),
  (99, ⟨.slice 3, 1, [.frz 1 (some true) []]⟩),
  (101, ⟨.ptr 43, 1, [.nilp]⟩),
  (103, ⟨.struct [(0, 3), (1, 9)] true, 2, [.int .i64 0, .str []]⟩),
  (107, ⟨.ptr 109, 1, [.nilp]⟩),
  (108, ⟨.struct [(0, 107), (1, 40)] false, 2, [.nilp, .frz 1 (some true) []]⟩),
  (109, ⟨.struct [(0, 107), (1, 40)] false, 2, [.nilp, .frz 1 (some true) []]⟩),
  (117, ⟨.arr 256 4, 256, [.bool false, .bool false, .bool false, .bool false, .bool false, .bool false, .bool false, .bool false, .bool false, .bool false, .bool false, .bool false, .bool false, .bool false, .bool false, .bool false, .bool false, .bool false, .bool false, .bool false, .bool false, .bool false, .bool false, .bool false, .bool false, .bool false, .bool false, .bool false, .bool false, .bool false, .bool false, .bool false, .bool false, .bool false, .bool false, .bool false, .bool false, .bool false, .bool false, .bool false, .bool false, .bool false, .bool false, .bool false, .bool false, .bool false, .bool false, .bool false, .bool false, .bool false, .bool false, .bool false, .bool false, .bool false, .bool false, .bool false, .bool false, .bool false, .bool false, .bool false, .bool false, .bool false, .bool false, .bool false, .bool false, .bool false, .bool false, .bool false, .bool false, .bool false, .bool false, .bool false, .bool false, .bool false, .bool false, .bool false, .bool false, .bool false, .bool false, .bool false, .bool false, .bool false, .bool false, .bool false, .bool false, .bool false, .bool false, .bool false, .bool false, .bool false, .bool false, .bool false, .bool false, .bool false, .bool false, .bool false, .bool false, .bool false, .bool false, .bool false, .bool false, .bool false, .bool false, .bool false, .bool false, .bool false, .bool false, .bool false, .bool false, .bool false, .bool false, .bool false, .bool false, .bool false, .bool false, .bool false, .bool false, .bool false, .bool false, .bool false, .bool false, .bool false, .bool false, .bool false, .bool false, .bool false, .bool false, .bool false, .bool false, .bool false, .bool false, .bool false, .bool false, .bool false, .bool false, .bool false, .bool false, .bool false, .bool false, .bool false, .bool false, .bool false, .bool false, .bool false, .bool false, .bool false, .bool false, .bool false, .bool false, .bool false, .bool false, .bool false, .bool false, .bool false, .bool false, .bool false, .bool false, .bool false, .bool false, .bool false, .bool false, .bool false, .bool false, .bool false, .bool false, .bool false, .bool false, .bool false, .bool false, .bool false, .bool false, .bool false, .bool false, .bool false, .bool false, .bool false, .bool false, .bool false, .bool false, .bool false, .bool false, .bool false, .bool false, .bool false, .bool false, .bool false, .bool false, .bool false, .bool false, .bool false, .bool false, .bool false, .bool false, .bool false, .bool false, .bool false, .bool false, .bool false, .bool false, .bool false, .bool false, .bool false, .bool false, .bool false, .bool false, .bool false, .bool false, .bool false, .bool false, .bool false, .bool false, .bool false, .bool false, .bool false, .bool false, .bool false, .bool false, .bool false, .bool false, .bool false, .bool false, .bool false, .bool false, .bool false, .bool false, .bool false, .bool false, .bool false, .bool false, .bool false, .bool false, .bool false, .bool false, .bool false, .bool false, .bool false, .bool false, .bool false, .bool false, .bool false, .bool false, .bool false, .bool false, .bool false, .bool false, .bool false, .bool false, .bool false, .bool false, .bool false, .bool false, .bool false, .bool false, .bool false, .bool false, .bool false]⟩),
  (118, ⟨.arr 256 4, 256, [.bool false, .bool false, .bool false, .bool false, .bool false, .bool false, .bool false, .bool false, .bool false, .bool false, .bool false, .bool false, .bool false, .bool false, .bool false, .bool false, .bool false, .bool false, .bool false, .bool false, .bool false, .bool false, .bool false, .bool false, .bool false, .bool false, .bool false, .bool false, .bool false, .bool false, .bool false, .bool false, .bool false, .bool false, .bool false, .bool false, .bool false, .bool false, .bool false, .bool false, .bool false, .bool false, .bool false, .bool false, .bool false, .bool false, .bool false, .bool false, .bool false, .bool false, .bool false, .bool false, .bool false, .bool false, .bool false, .bool false, .bool false, .bool false, .bool false, .bool false, .bool false, .bool false, .bool false, .bool false, .bool false, .bool false, .bool false, .bool false, .bool false, .bool false, .bool false, .bool false, .bool false, .bool false, .bool false, .bool false, .bool false, .bool false, .bool false, .bool false, .bool false, .bool false, .bool false, .bool false, .bool false, .bool false, .bool false, .bool false, .bool false, .bool false, .bool false, .bool false, .bool false, .bool false, .bool false, .bool false, .bool false, .bool false, .bool false, .bool false, .bool false, .bool false, .bool false, .bool false, .bool false, .bool false, .bool false, .bool false, .bool false, .bool false, .bool false, .bool false, .bool false, .bool false, .bool false, .bool false, .bool false, .bool false, .bool false, .bool false, .bool false, .bool false, .bool false, .bool false, .bool false, .bool false, .bool false, .bool false, .bool false, .bool false, .bool false, .bool false, .bool false, .bool false, .bool false, .bool false, .bool false, .bool false, .bool false, .bool false, .bool false, .bool false, .bool false, .bool false, .bool false, .bool false, .bool false, .bool false, .bool false, .bool false, .bool false, .bool false, .bool false, .bool false, .bool false, .bool false, .bool false, .bool false, .bool false, .bool false, .bool false, .bool false, .bool false, .bool false, .bool false, .bool false, .bool false, .bool false, .bool false, .bool false, .bool false, .bool false, .bool false, .bool false, .bool false, .bool false, .bool false, .bool false, .bool false, .bool false, .bool false, .bool false, .bool false, .bool false, .bool false, .bool false, .bool false, .bool false, .bool false, .bool false, .bool false, .bool false, .bool false, .bool false, .bool false, .bool false, .bool false, .bool false, .bool false, .bool false, .bool false, .bool false, .bool false, .bool false, .bool false, .bool false, .bool false, .bool false, .bool false, .bool false, .bool false, .bool false, .bool false, .bool false, .bool false, .bool false, .bool false, .bool false, .bool false, .bool false, .bool false, .bool false, .bool false, .bool false, .bool false, .bool false, .bool false, .bool false, .bool false, .bool false, .bool false, .bool false, .bool false, .bool false, .bool false, .bool false, .bool false, .bool false, .bool false, .bool false, .bool false, .bool false, .bool false, .bool false, .bool false, .bool false, .bool false, .bool false, .bool false, .bool false, .bool false, .bool false, .bool false, .bool false, .bool false, .bool false]⟩),
  (123, ⟨.int .u64, 1, [.int .u64 0]⟩),
  (124, ⟨.ptr 5, 1, [.nilp]⟩),
  (127, ⟨.ptr 118, 1, [.nilp]⟩),
  (137, ⟨.int .u32, 1, [.int .u32 0]⟩)]
def T : Types := tab rowsT
@[simp] theorem T2 : T 2 = some ⟨.int .i64, 1, [.int .i64 0]⟩ := rfl
@[simp] theorem T3 : T 3 = some ⟨.int .i64, 1, [.int .i64 0]⟩ := rfl
@[simp] theorem T4 : T 4 = some ⟨.bool, 1, [.bool false]⟩ := rfl
@[simp] theorem T5 : T 5 = some ⟨.int .u8, 1, [.int .u8 0]⟩ := rfl
@[simp] theorem T9 : T 9 = some ⟨.str, 1, [.str []]⟩ := rfl
@[simp] theorem T12 : T 12 = some ⟨.int .u64, 1, [.int .u64 0]⟩ := rfl
@[simp] theorem T21 : T 21 = some ⟨.int .i32, 1, [.int .i32 0]⟩ := rfl
@[simp] theorem T22 : T 22 = some ⟨.slice 9, 1, [.frz 1 (some true) []]⟩ := rfl
@[simp] theorem T28 : T 28 = some ⟨.slice 89, 1, [.frz 3 (some true) []]⟩ := rfl
@[simp] theorem T29 : T 29 = some ⟨.struct [(0, 3), (1, 3), (2, 9), (3, 9), (4, 3), (5, 3), (6, 3), (7, 9), (8, 28), (9, 28)] false, 10, [.int .i64 0, .int .i64 0, .str [], .str [], .int .i64 0, .int .i64 0, .int .i64 0, .str [], .frz 3 (some true) [], .frz 3 (some true) []]⟩ := rfl
@[simp] theorem T30 : T 30 = some ⟨.struct [(0, 3), (1, 3), (2, 9), (3, 9), (4, 3), (5, 3), (6, 3), (7, 9), (8, 28), (9, 28)] false, 10, [.int .i64 0, .int .i64 0, .str [], .str [], .int .i64 0, .int .i64 0, .int .i64 0, .str [], .frz 3 (some true) [], .frz 3 (some true) []]⟩ := rfl
@[simp] theorem T33 : T 33 = some ⟨.slice 87, 1, [.frz 3 (some true) []]⟩ := rfl
@[simp] theorem T34 : T 34 = some ⟨.struct [(0, 3), (1, 3), (2, 9), (3, 9), (4, 3), (5, 3), (6, 3), (7, 9), (8, 33), (9, 33)] false, 10, [.int .i64 0, .int .i64 0, .str [], .str [], .int .i64 0, .int .i64 0, .int .i64 0, .str [], .frz 3 (some true) [], .frz 3 (some true) []]⟩ := rfl
@[simp] theorem T35 : T 35 = some ⟨.struct [(0, 3), (1, 3), (2, 9), (3, 9), (4, 3), (5, 3), (6, 3), (7, 9), (8, 33), (9, 33)] false, 10, [.int .i64 0, .int .i64 0, .str [], .str [], .int .i64 0, .int .i64 0, .int .i64 0, .str [], .frz 3 (some true) [], .frz 3 (some true) []]⟩ := rfl
@[simp] theorem T40 : T 40 = some ⟨.slice 5, 1, [.frz 1 (some true) []]⟩ := rfl
@[simp] theorem T41 : T 41 = some ⟨.slice 80, 1, [.frz 2 (some true) []]⟩ := rfl
@[simp] theorem T42 : T 42 = some ⟨.struct [(0, 22), (1, 41)] false, 2, [.frz 1 (some true) [], .frz 2 (some true) []]⟩ := rfl
@[simp] theorem T43 : T 43 = some ⟨.struct [(0, 22), (1, 41)] false, 2, [.frz 1 (some true) [], .frz 2 (some true) []]⟩ := rfl
@[simp] theorem T50 : T 50 = some ⟨.slice 4, 1, [.frz 1 (some true) []]⟩ := rfl
@[simp] theorem T55 : T 55 = some ⟨.slice 103, 1, [.frz 2 (some true) []]⟩ := rfl
@[simp] theorem T56 : T 56 = some ⟨.struct [(0, 22), (1, 55)] false, 2, [.frz 1 (some true) [], .frz 2 (some true) []]⟩ := rfl
@[simp] theorem T57 : T 57 = some ⟨.struct [(0, 22), (1, 55)] false, 2, [.frz 1 (some true) [], .frz 2 (some true) []]⟩ := rfl
@[simp] theorem T71 : T 71 = some ⟨.ptr 96, 1, [.nilp]⟩ := rfl
@[simp] theorem T79 : T 79 = some ⟨.struct [(0, 3), (1, 9)] true, 2, [.int .i64 0, .str []]⟩ := rfl
@[simp] theorem T80 : T 80 = some ⟨.struct [(0, 3), (1, 9)] true, 2, [.int .i64 0, .str []]⟩ := rfl
@[simp] theorem T86 : T 86 = some ⟨.struct [(0, 3), (1, 3), (2, 3)] true, 3, [.int .i64 0, .int .i64 0, .int .i64 0]⟩ := rfl
@[simp] theorem T87 : T 87 = some ⟨.struct [(0, 3), (1, 3), (2, 3)] true, 3, [.int .i64 0, .int .i64 0, .int .i64 0]⟩ := rfl
@[simp] theorem T89 : T 89 = some ⟨.struct [(0, 3), (1, 3), (2, 3)] true, 3, [.int .i64 0, .int .i64 0, .int .i64 0]⟩ := rfl
@[simp] theorem T95 : T 95 = some ⟨.struct [(0, 40), (1, 3), (2, 3)] false, 3, [.frz 1 (some true) [], .int .i64 0, .int .i64 0]⟩ := rfl
@[simp] theorem T96 : T 96 = some ⟨.struct [(0, 40), (1, 3), (2, 3)] false, 3, [.frz 1 (some true) [], .int .i64 0, .int .i64 0]⟩ := rfl
@[simp] theorem T99 : T 99 = some ⟨.slice 3, 1, [.frz 1 (some true) []]⟩ := rfl
@[simp] theorem T101 : T 101 = some ⟨.ptr 43, 1, [.nilp]⟩ := rfl
@[simp] theorem T103 : T 103 = some ⟨.struct [(0, 3), (1, 9)] true, 2, [.int .i64 0, .str []]⟩ := rfl
@[simp] theorem T107 : T 107 = some ⟨.ptr 109, 1, [.nilp]⟩ := rfl
@[simp] theorem T108 : T 108 = some ⟨.struct [(0, 107), (1, 40)] false, 2, [.nilp, .frz 1 (some true) []]⟩ := rfl
@[simp] theorem T109 : T 109 = some ⟨.struct [(0, 107), (1, 40)] false, 2, [.nilp, .frz 1 (some true) []]⟩ := rfl
@[simp] theorem T117 : T 117 = some ⟨.arr 256 4, 256, [.bool false, .bool false, .bool false, .bool false, .bool false, .bool false, .bool false, .bool false, .bool false, .bool false, .bool false, .bool false, .bool false, .bool false, .bool false, .bool false, .bool false, .bool false, .bool false, .bool false, .bool false, .bool false, .bool false, .bool false, .bool false, .bool false, .bool false, .bool false, .bool false, .bool false, .bool false, .bool false, .bool false, .bool false, .bool false, .bool false, .bool false, .bool false, .bool false, .bool false, .bool false, .bool false, .bool false, .bool false, .bool false, .bool false, .bool false, .bool false, .bool false, .bool false, .bool false, .bool false, .bool false, .bool false, .bool false, .bool false, .bool false, .bool false, .bool false, .bool false, .bool false, .bool false, .bool false, .bool false, .bool false, .bool false, .bool false, .bool false, .bool false, .bool false, .bool false, .bool false, .bool false, .bool false, .bool false, .bool false, .bool false, .bool false, .bool false, .bool false, .bool false, .bool false, .bool false, .bool false, .bool false, .bool false, .bool false, .bool false, .bool false, .bool false, .bool false, .bool false, .bool false, .bool false, .bool false, .bool false, .bool false, .bool false, .bool false, .bool false, .bool false, .bool false, .bool false, .bool false, .bool false, .bool false, .bool false, .bool false, .bool false, .bool false, .bool false, .bool false, .bool false, .bool false, .bool false, .bool false, .bool false, .bool false, .bool false, .bool false, .bool false, .bool false, .bool false, .bool false, .bool false, .bool false, .bool false, .bool false, .bool false, .bool false, .bool false, .bool false, .bool false, .bool false, .bool false, .bool false, .bool false, .bool false, .bool false, .bool false, .bool false, .bool false, .bool false, .bool false, .bool false, .bool false, .bool false, .bool false, .bool false, .bool false, .bool false, .bool false, .bool false, .bool false, .bool false, .bool false, .bool false, .bool false, .bool false, .bool false, .bool false, .bool false, .bool false, .bool false, .bool false, .bool false, .bool false, .bool false, .bool false, .bool false, .bool false, .bool false, .bool false, .bool false, .bool false, .bool false, .bool false, .bool false, .bool false, .bool false, .bool false, .bool false, .bool false, .bool false, .bool false, .bool false, .bool false, .bool false, .bool false, .bool false, .bool false, .bool false, .bool false, .bool false, .bool false, .bool false, .bool false, .bool false, .bool false, .bool false, .bool false, .bool false, .bool false, .bool false, .bool false, .bool false, .bool false, .bool false, .bool false, .bool false, .bool false, .bool false, .bool false, .bool false, .bool false, .bool false, .bool false, .bool false, .bool false, .bool false, .bool false, .bool false, .bool false, .bool false, .bool false, .bool false, .bool false, .bool false, .bool false, .bool false, .bool false, .bool false, .bool false, .bool false, .bool false, .bool false, .bool false, .bool false, .bool false, .bool false, .bool false, .bool false, .bool false, .bool false, .bool false, .bool false, .bool false, .bool false, .bool false, .bool false, .bool false, .bool false, .bool false, .bool false, .bool false, .bool false]⟩ := rfl
@[simp] theorem T118 : T 118 = some ⟨.arr 256 4, 256, [.bool false, .bool false, .bool false, .bool false, .bool false, .bool false, .bool false, .bool false, .bool false, .bool false, .bool false, .bool false, .bool false, .bool false, .bool false, .bool false, .bool false, .bool false, .bool false, .bool false, .bool false, .bool false, .bool false, .bool false, .bool false, .bool false, .bool false, .bool false, .bool false, .bool false, .bool false, .bool false, .bool false, .bool false, .bool false, .bool false, .bool false, .bool false, .bool false, .bool false, .bool false, .bool false, .bool false, .bool false, .bool false, .bool false, .bool false, .bool false, .bool false, .bool false, .bool false, .bool false, .bool false, .bool false, .bool false, .bool false, .bool false, .bool false, .bool false, .bool false, .bool false, .bool false, .bool false, .bool false, .bool false, .bool false, .bool false, .bool false, .bool false, .bool false, .bool false, .bool false, .bool false, .bool false, .bool false, .bool false, .bool false, .bool false, .bool false, .bool false, .bool false, .bool false, .bool false, .bool false, .bool false, .bool false, .bool false, .bool false, .bool false, .bool false, .bool false, .bool false, .bool false, .bool false, .bool false, .bool false, .bool false, .bool false, .bool false, .bool false, .bool false, .bool false, .bool false, .bool false, .bool false, .bool false, .bool false, .bool false, .bool false, .bool false, .bool false, .bool false, .bool false, .bool false, .bool false, .bool false, .bool false, .bool false, .bool false, .bool false, .bool false, .bool false, .bool false, .bool false, .bool false, .bool false, .bool false, .bool false, .bool false, .bool false, .bool false, .bool false, .bool false, .bool false, .bool false, .bool false, .bool false, .bool false, .bool false, .bool false, .bool false, .bool false, .bool false, .bool false, .bool false, .bool false, .bool false, .bool false, .bool false, .bool false, .bool false, .bool false, .bool false, .bool false, .bool false, .bool false, .bool false, .bool false, .bool false, .bool false, .bool false, .bool false, .bool false, .bool false, .bool false, .bool false, .bool false, .bool false, .bool false, .bool false, .bool false, .bool false, .bool false, .bool false, .bool false, .bool false, .bool false, .bool false, .bool false, .bool false, .bool false, .bool false, .bool false, .bool false, .bool false, .bool false, .bool false, .bool false, .bool false, .bool false, .bool false, .bool false, .bool false, .bool false, .bool false, .bool false, .bool false, .bool false, .bool false, .bool false, .bool false, .bool false, .bool false, .bool false, .bool false, .bool false, .bool false, .bool false, .bool false, .bool false, .bool false, .bool false, .bool false, .bool false, .bool false, .bool false, .bool false, .bool false, .bool false, .bool false, .bool false, .bool false, .bool false, .bool false, .bool false, .bool false, .bool false, .bool false, .bool false, .bool false, .bool false, .bool false, .bool false, .bool false, .bool false, .bool false, .bool false, .bool false, .bool false, .bool false, .bool false, .bool false, .bool false, .bool false, .bool false, .bool false, .bool false, .bool false, .bool false, .bool false, .bool false, .bool false, .bool false, .bool false, .bool false, .bool false]⟩ := rfl
@[simp] theorem T123 : T 123 = some ⟨.int .u64, 1, [.int .u64 0]⟩ := rfl
@[simp] theorem T124 : T 124 = some ⟨.ptr 5, 1, [.nilp]⟩ := rfl
@[simp] theorem T127 : T 127 = some ⟨.ptr 118, 1, [.nilp]⟩ := rfl
@[simp] theorem T137 : T 137 = some ⟨.int .u32, 1, [.int .u32 0]⟩ := rfl
theorem tok : TOk Try.prog T := tabB_ok (by kernel_rfl)
theorem mixed : Try.prog.follows .mixedOrders = true := by kernel_rfl
def M : Modes := modes [(33, [(true, 0), (false, 0)]), (37, [(true, 0), (false, 0)]), (50, [(true, 2), (false, 0), (false, 0)]), (51, [(true, 2), (false, 0)]), (62, [(true, 0), (false, 0)])]
@[simp] theorem M0 : M 0 = [] := rfl
@[simp] theorem M1 : M 1 = [] := rfl
@[simp] theorem M2 : M 2 = [] := rfl
@[simp] theorem M3 : M 3 = [] := rfl
@[simp] theorem M4 : M 4 = [] := rfl
@[simp] theorem M5 : M 5 = [] := rfl
@[simp] theorem M6 : M 6 = [] := rfl
@[simp] theorem M7 : M 7 = [] := rfl
@[simp] theorem M8 : M 8 = [] := rfl
@[simp] theorem M9 : M 9 = [] := rfl
@[simp] theorem M10 : M 10 = [] := rfl
@[simp] theorem M11 : M 11 = [] := rfl
@[simp] theorem M12 : M 12 = [] := rfl
@[simp] theorem M13 : M 13 = [] := rfl
@[simp] theorem M14 : M 14 = [] := rfl
@[simp] theorem M15 : M 15 = [] := rfl
@[simp] theorem M16 : M 16 = [] := rfl
@[simp] theorem M17 : M 17 = [] := rfl
@[simp] theorem M18 : M 18 = [] := rfl
@[simp] theorem M19 : M 19 = [] := rfl
@[simp] theorem M20 : M 20 = [] := rfl
@[simp] theorem M21 : M 21 = [] := rfl
@[simp] theorem M22 : M 22 = [] := rfl
@[simp] theorem M23 : M 23 = [] := rfl
@[simp] theorem M24 : M 24 = [] := rfl
@[simp] theorem M25 : M 25 = [] := rfl
@[simp] theorem M26 : M 26 = [] := rfl
@[simp] theorem M27 : M 27 = [] := rfl
@[simp] theorem M28 : M 28 = [] := rfl
@[simp] theorem M29 : M 29 = [] := rfl
@[simp] theorem M30 : M 30 = [] := rfl
@[simp] theorem M31 : M 31 = [] := rfl
@[simp] theorem M32 : M 32 = [] := rfl
@[simp] theorem M33 : M 33 = [(true, 0), (false, 0)] := rfl
@[simp] theorem M34 : M 34 = [] := rfl
@[simp] theorem M35 : M 35 = [] := rfl
@[simp] theorem M36 : M 36 = [] := rfl
@[simp] theorem M37 : M 37 = [(true, 0), (false, 0)] := rfl
@[simp] theorem M38 : M 38 = [] := rfl
@[simp] theorem M39 : M 39 = [] := rfl
@[simp] theorem M40 : M 40 = [] := rfl
@[simp] theorem M41 : M 41 = [] := rfl
@[simp] theorem M42 : M 42 = [] := rfl
@[simp] theorem M43 : M 43 = [] := rfl
@[simp] theorem M44 : M 44 = [] := rfl
@[simp] theorem M45 : M 45 = [] := rfl
@[simp] theorem M46 : M 46 = [] := rfl
@[simp] theorem M47 : M 47 = [] := rfl
@[simp] theorem M48 : M 48 = [] := rfl
@[simp] theorem M49 : M 49 = [] := rfl
@[simp] theorem M50 : M 50 = [(true, 2), (false, 0), (false, 0)] := rfl
@[simp] theorem M51 : M 51 = [(true, 2), (false, 0)] := rfl
@[simp] theorem M52 : M 52 = [] := rfl
@[simp] theorem M53 : M 53 = [] := rfl
@[simp] theorem M54 : M 54 = [] := rfl
@[simp] theorem M55 : M 55 = [] := rfl
@[simp] theorem M56 : M 56 = [] := rfl
@[simp] theorem M57 : M 57 = [] := rfl
@[simp] theorem M58 : M 58 = [] := rfl
@[simp] theorem M59 : M 59 = [] := rfl
@[simp] theorem M60 : M 60 = [] := rfl
@[simp] theorem M61 : M 61 = [] := rfl
@[simp] theorem M62 : M 62 = [(true, 0), (false, 0)] := rfl
@[simp] theorem M63 : M 63 = [] := rfl
@[simp] theorem M64 : M 64 = [] := rfl
@[simp] theorem M65 : M 65 = [] := rfl
@[simp] theorem M66 : M 66 = [] := rfl
@[simp] theorem M67 : M 67 = [] := rfl
@[simp] theorem M68 : M 68 = [] := rfl
@[simp] theorem M69 : M 69 = [] := rfl
@[simp] theorem M70 : M 70 = [] := rfl
@[simp] theorem M71 : M 71 = [] := rfl
@[simp] theorem M72 : M 72 = [] := rfl
@[simp] theorem M73 : M 73 = [] := rfl
@[simp] theorem M74 : M 74 = [] := rfl
@[simp] theorem M75 : M 75 = [] := rfl
@[simp] theorem M76 : M 76 = [] := rfl
@[simp] theorem M77 : M 77 = [] := rfl
@[simp] theorem M78 : M 78 = [] := rfl
@[simp] theorem M79 : M 79 = [] := rfl
@[simp] theorem M80 : M 80 = [] := rfl
@[simp] theorem M81 : M 81 = [] := rfl
@[simp] theorem M82 : M 82 = [] := rfl
@[simp] theorem M83 : M 83 = [] := rfl
@[simp] theorem M84 : M 84 = [] := rfl
@[simp] theorem M85 : M 85 = [] := rfl
@[simp] theorem M86 : M 86 = [] := rfl
@[simp] theorem M87 : M 87 = [] := rfl
@[simp] theorem M88 : M 88 = [] := rfl
@[simp] theorem M89 : M 89 = [] := rfl
@[simp] theorem M90 : M 90 = [] := rfl
@[simp] theorem M91 : M 91 = [] := rfl
@[simp] theorem M92 : M 92 = [] := rfl
@[simp] theorem M93 : M 93 = [] := rfl
@[simp] theorem M94 : M 94 = [] := rfl
@[simp] theorem M95 : M 95 = [] := rfl
@[simp] theorem M96 : M 96 = [] := rfl
@[simp] theorem M97 : M 97 = [] := rfl
@[simp] theorem M98 : M 98 = [] := rfl
@[simp] theorem M111 : M 111 = [] := rfl
@[simp] theorem M112 : M 112 = [] := rfl
@[simp] theorem M113 : M 113 = [] := rfl
@[simp] theorem M114 : M 114 = [] := rfl
@[simp] theorem M115 : M 115 = [] := rfl
abbrev K := Con Try.prog
theorem ks : Sound Try.prog K := con_sound
end Go.Proofs.Ytdbdofegpjfeiaa
