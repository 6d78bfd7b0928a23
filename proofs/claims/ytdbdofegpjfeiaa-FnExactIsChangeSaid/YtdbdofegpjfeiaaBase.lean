/- The seat's base: its types, its modes. Written by base.py. -/
import Derived.Test.YtdbdofegpjfeiaaFc
import Derived.Test.YtdbdofegpjfeiaaProg
import Derived.KernelRfl
namespace Go.Proofs.Ytdbdofegpjfeiaa
open Go.Fw
set_option linter.unusedVariables false
def rowsT : List (TypeId × TI) := [(2, ⟨.int .i64, 1, [.int .i64 0]⟩),
  (3, ⟨.int .i64, 1, [.int .i64 0]⟩),
  (4, ⟨.bool, 1, [.bool false]⟩),
  (5, ⟨.int .u8, 1, [.int .u8 0]⟩),
  (9, ⟨.str, 1, [.str []]⟩),
  (12, ⟨.int .u64, 1, [.int .u64 0]⟩),
  (21, ⟨.int .i32, 1, [.int .i32 0]⟩),
  (22, ⟨.slice 9, 1, [.frz 1 (some true) []]⟩),
  (28, ⟨.slice 89, 1, [.frz 3 (some true) []]⟩),
  (29, ⟨.struct [(0, 3), (1, 3), (2, 9), (3, 9), (4, 3), (5, 3), (6, 3), (7, 9), (8, 28), (9, 28)] false, 10, [.int .i64 0, .int .i64 0, .str [], .str [], .int .i64 0, .int .i64 0, .int .i64 0, .str [], .frz 3 (some true) [], .frz 3 (some true) []]⟩),
  (30, ⟨.struct [(0, 3), (1, 3), (2, 9), (3, 9), (4, 3), (5, 3), (6, 3), (7, 9), (8, 28), (9, 28)] false, 10, [.int .i64 0, .int .i64 0, .str [], .str [], .int .i64 0, .int .i64 0, .int .i64 0, .str [], .frz 3 (some true) [], .frz 3 (some true) []]⟩),
  (33, ⟨.slice 87, 1, [.frz 3 (some true) []]⟩),
  (34, ⟨.struct [(0, 3), (1, 3), (2, 9), (3, 9), (4, 3), (5, 3), (6, 3), (7, 9), (8, 33), (9, 33)] false, 10, [.int .i64 0, .int .i64 0, .str [], .str [], .int .i64 0, .int .i64 0, .int .i64 0, .str [], .frz 3 (some true) [], .frz 3 (some true) []]⟩),
  (35, ⟨.struct [(0, 3), (1, 3), (2, 9), (3, 9), (4, 3), (5, 3), (6, 3), (7, 9), (8, 33), (9, 33)] false, 10, [.int .i64 0, .int .i64 0, .str [], .str [], .int .i64 0, .int .i64 0, .int .i64 0, .str [], .frz 3 (some true) [], .frz 3 (some true) []]⟩),
  (40, ⟨.slice 5, 1, [.frz 1 (some true) []]⟩),
  (41, ⟨.slice 80, 1, [.frz 2 (some true) []]⟩),
  (42, ⟨.struct [(0, 22), (1, 41)] false, 2, [.frz 1 (some true) [], .frz 2 (some true) []]⟩),
  (43, ⟨.struct [(0, 22), (1, 41)] false, 2, [.frz 1 (some true) [], .frz 2 (some true) []]⟩),
  (50, ⟨.slice 4, 1, [.frz 1 (some true) []]⟩),
  (55, ⟨.slice 103, 1, [.frz 2 (some true) []]⟩),
  (56, ⟨.struct [(0, 22), (1, 55)] false, 2, [.frz 1 (some true) [], .frz 2 (some true) []]⟩),
  (57, ⟨.struct [(0, 22), (1, 55)] false, 2, [.frz 1 (some true) [], .frz 2 (some true) []]⟩),
  (71, ⟨.ptr 96, 1, [.nilp]⟩),
  (79, ⟨.struct [(0, 3), (1, 9)] true, 2, [.int .i64 0, .str []]⟩),
  (80, ⟨.struct [(0, 3), (1, 9)] true, 2, [.int .i64 0, .str []]⟩),
  (86, ⟨.struct [(0, 3), (1, 3), (2, 3)] true, 3, [.int .i64 0, .int .i64 0, .int .i64 0]⟩),
  (87, ⟨.struct [(0, 3), (1, 3), (2, 3)] true, 3, [.int .i64 0, .int .i64 0, .int .i64 0]⟩),
  (89, ⟨.struct [(0, 3), (1, 3), (2, 3)] true, 3, [.int .i64 0, .int .i64 0, .int .i64 0]⟩),
  (95, ⟨.struct [(0, 40), (1, 3), (2, 3)] false, 3, [.frz 1 (some true) [], .int .i64 0, .int .i64 0]⟩),
  (96, ⟨.struct [(0, 40), (1, 3), (2, 3)] false, 3, [.frz 1 (some true) [], .int .i64 0, .int .i64 0]⟩),
  (99, ⟨.slice 3, 1, [.frz 1 (some true) []]⟩),
  (101, ⟨.ptr 43, 1, [.nilp]⟩),
  (103, ⟨.struct [(0, 3), (1, 9)] true, 2, [.int .i64 0, .str []]⟩),
  (107, ⟨.ptr 109, 1, [.nilp]⟩),
  (108, ⟨.struct [(0, 107), (1, 40)] false, 2, [.nilp, .frz 1 (some true) []]⟩),
  (109, ⟨.struct [(0, 107), (1, 40)] false, 2, [.nilp, .frz 1 (some true) []]⟩),
  (117, ⟨.arr 256 4, 256, [.bool false, .bool false, .bool false, .bool false, .bool false, .bool false, .bool false, .bool false, .bool false, .bool false, .bool false, .bool false, .bool false, .bool false, .bool false, .bool false, .bool false, .bool false, .bool false, .bool false, .bool false, .bool false, .bool false, .bool false, .bool false, .bool false, .bool false, .bool false, .bool false, .bool false, .bool false, .bool false, .bool false, .bool false, .bool false, .bool false, .bool false, .bool false, .bool false, .bool false, .bool false, .bool false, .bool false, .bool false, .bool false, .bool false, .bool false, .bool false, .bool false, .bool false, .bool false, .bool false, .bool false, .bool false, .bool false, .bool false, .bool false, .bool false, .bool false, .bool false, .bool false, .bool false, .bool false, .bool false, .bool false, .bool false, .bool false, .bool false, .bool false, .bool false, .bool false, .bool false, .bool false, .bool false, .bool false, .bool false, .bool false, .bool false, .bool false, .bool false, .bool false, .bool false, .bool false, .bool false, .bool false, .bool false, .bool false, .bool false, .bool false, .bool false, .bool false, .bool false, .bool false, .bool false, .bool false, .bool false, .bool false, .bool false, .bool false, .bool false, .bool false, .bool false, .bool false, .bool false, .bool false, .bool false, .bool false, .bool false, .bool false, .bool false, .bool false, .bool false, .bool false, .bool false, .bool false, .bool false, .bool false, .bool false, .bool false, .bool false, .bool false, .bool false, .bool false, .bool false, .bool false, .bool false, .bool false, .bool false, .bool false, .bool false, .bool false, .bool false, .bool false, .bool false, .bool false, .bool false, .bool false, .bool false, .bool false, .bool false, .bool false, .bool false, .bool false, .bool false, .bool false, .bool false, .bool false, .bool false, .bool false, .bool false, .bool false, .bool false, .bool false, .bool false, .bool false, .bool false, .bool false, .bool false, .bool false, .bool false, .bool false, .bool false, .bool false, .bool false, .bool false, .bool false, .bool false, .bool false, .bool false, .bool false, .bool false, .bool false, .bool false, .bool false, .bool false, .bool false, .bool false, .bool false, .bool false, .bool false, .bool false, .bool false, .bool false, .bool false, .bool false, .bool false, .bool false, .bool false, .bool false, .bool false, .bool false, .bool false, .bool false, .bool false, .bool false, .bool false, .bool false, .bool false, .bool false, .bool false, .bool false, .bool false, .bool false, .bool false, .bool false, .bool false, .bool false, .bool false, .bool false, .bool false, .bool false, .bool false, .bool false, .bool false, .bool false, .bool false, .bool false, .bool false, .bool false, .bool false, .bool false, .bool false, .bool false, .bool false, .bool false, .bool false, .bool false, .bool false, .bool false, .bool false, .bool false, .bool false, .bool false, .bool false, .bool false, .bool false, .bool false, .bool false, .bool false, .bool false, .bool false, .bool false, .bool false, .bool false, .bool false, .bool false, .bool false, .bool false, .bool false, .bool false, .bool false, .bool false, .bool false, .bool false, .bool false, .bool false]⟩),
  (118, ⟨.arr 256 4, 256, [.bool false, .bool false, .bool false, .bool false, .bool false, .bool false, .bool false, .bool false, .bool false, .bool false, .bool false, .bool false, .bool false, .bool false, .bool false, .bool false, .bool false, .bool false, .bool false, .bool false, .bool false, .bool false, .bool false, .bool false, .bool false, .bool false, .bool false, .bool false, .bool false, .bool false, .bool false, .bool false, .bool false, .bool false, .bool false, .bool false, .bool false, .bool false, .bool false, .bool false, .bool false, .bool false, .bool false, .bool false, .bool false, .bool false, .bool false, .bool false, .bool false, .bool false, .bool false, .bool false, .bool false, .bool false, .bool false, .bool false, .bool false, .bool false, .bool false, .bool false, .bool false, .bool false, .bool false, .bool false, .bool false, .bool false, .bool false, .bool false, .bool false, .bool false, .bool false, .bool false, .bool false, .bool false, .bool false, .bool false, .bool false, .bool false, .bool false, .bool false, .bool false, .bool false, .bool false, .bool false, .bool false, .bool false, .bool false, .bool false, .bool false, .bool false, .bool false, .bool false, .bool false, .bool false, .bool false, .bool false, .bool false, .bool false, .bool false, .bool false, .bool false, .bool false, .bool false, .bool false, .bool false, .bool false, .bool false, .bool false, .bool false, .bool false, .bool false, .bool false, .bool false, .bool false, .bool false, .bool false, .bool false, .bool false, .bool false, .bool false, .bool false, .bool false, .bool false, .bool false, .bool false, .bool false, .bool false, .bool false, .bool false, .bool false, .bool false, .bool false, .bool false, .bool false, .bool false, .bool false, .bool false, .bool false, .bool false, .bool false, .bool false, .bool false, .bool false, .bool false, .bool false, .bool false, .bool false, .bool false, .bool false, .bool false, .bool false, .bool false, .bool false, .bool false, .bool false, .bool false, .bool false, .bool false, .bool false, .bool false, .bool false, .bool false, .bool false, .bool false, .bool false, .bool false, .bool false, .bool false, .bool false, .bool false, .bool false, .bool false, .bool false, .bool false, .bool false, .bool false, .bool false, .bool false, .bool false, .bool false, .bool false, .bool false, .bool false, .bool false, .bool false, .bool false, .bool false, .bool false, .bool false, .bool false, .bool false, .bool false, .bool false, .bool false, .bool false, .bool false, .bool false, .bool false, .bool false, .bool false, .bool false, .bool false, .bool false, .bool false, .bool false, .bool false, .bool false, .bool false, .bool false, .bool false, .bool false, .bool false, .bool false, .bool false, .bool false, .bool false, .bool false, .bool false, .bool false, .bool false, .bool false, .bool false, .bool false, .bool false, .bool false, .bool false, .bool false, .bool false, .bool false, .bool false, .bool false, .bool false, .bool false, .bool false, .bool false, .bool false, .bool false, .bool false, .bool false, .bool false, .bool false, .bool false, .bool false, .bool false, .bool false, .bool false, .bool false, .bool false, .bool false, .bool false, .bool false, .bool false, .bool false, .bool false, .bool false, .bool false]⟩),
  (123, ⟨.int .u64, 1, [.int .u64 0]⟩),
  (124, ⟨.ptr 5, 1, [.nilp]⟩),
  (127, ⟨.ptr 118, 1, [.nilp]⟩),
  (137, ⟨.int .u32, 1, [.int .u32 0]⟩)]
def T : Types := tab rowsT
theorem T2 : T 2 = some ⟨.int .i64, 1, [.int .i64 0]⟩ := rfl
theorem T3 : T 3 = some ⟨.int .i64, 1, [.int .i64 0]⟩ := rfl
theorem T4 : T 4 = some ⟨.bool, 1, [.bool false]⟩ := rfl
theorem T5 : T 5 = some ⟨.int .u8, 1, [.int .u8 0]⟩ := rfl
theorem T9 : T 9 = some ⟨.str, 1, [.str []]⟩ := rfl
theorem T12 : T 12 = some ⟨.int .u64, 1, [.int .u64 0]⟩ := rfl
theorem T21 : T 21 = some ⟨.int .i32, 1, [.int .i32 0]⟩ := rfl
theorem T22 : T 22 = some ⟨.slice 9, 1, [.frz 1 (some true) []]⟩ := rfl
theorem T28 : T 28 = some ⟨.slice 89, 1, [.frz 3 (some true) []]⟩ := rfl
theorem T29 : T 29 = some ⟨.struct [(0, 3), (1, 3), (2, 9), (3, 9), (4, 3), (5, 3), (6, 3), (7, 9), (8, 28), (9, 28)] false, 10, [.int .i64 0, .int .i64 0, .str [], .str [], .int .i64 0, .int .i64 0, .int .i64 0, .str [], .frz 3 (some true) [], .frz 3 (some true) []]⟩ := rfl
theorem T30 : T 30 = some ⟨.struct [(0, 3), (1, 3), (2, 9), (3, 9), (4, 3), (5, 3), (6, 3), (7, 9), (8, 28), (9, 28)] false, 10, [.int .i64 0, .int .i64 0, .str [], .str [], .int .i64 0, .int .i64 0, .int .i64 0, .str [], .frz 3 (some true) [], .frz 3 (some true) []]⟩ := rfl
theorem T33 : T 33 = some ⟨.slice 87, 1, [.frz 3 (some true) []]⟩ := rfl
theorem T34 : T 34 = some ⟨.struct [(0, 3), (1, 3), (2, 9), (3, 9), (4, 3), (5, 3), (6, 3), (7, 9), (8, 33), (9, 33)] false, 10, [.int .i64 0, .int .i64 0, .str [], .str [], .int .i64 0, .int .i64 0, .int .i64 0, .str [], .frz 3 (some true) [], .frz 3 (some true) []]⟩ := rfl
theorem T35 : T 35 = some ⟨.struct [(0, 3), (1, 3), (2, 9), (3, 9), (4, 3), (5, 3), (6, 3), (7, 9), (8, 33), (9, 33)] false, 10, [.int .i64 0, .int .i64 0, .str [], .str [], .int .i64 0, .int .i64 0, .int .i64 0, .str [], .frz 3 (some true) [], .frz 3 (some true) []]⟩ := rfl
theorem T40 : T 40 = some ⟨.slice 5, 1, [.frz 1 (some true) []]⟩ := rfl
theorem T41 : T 41 = some ⟨.slice 80, 1, [.frz 2 (some true) []]⟩ := rfl
theorem T42 : T 42 = some ⟨.struct [(0, 22), (1, 41)] false, 2, [.frz 1 (some true) [], .frz 2 (some true) []]⟩ := rfl
theorem T43 : T 43 = some ⟨.struct [(0, 22), (1, 41)] false, 2, [.frz 1 (some true) [], .frz 2 (some true) []]⟩ := rfl
theorem T50 : T 50 = some ⟨.slice 4, 1, [.frz 1 (some true) []]⟩ := rfl
theorem T55 : T 55 = some ⟨.slice 103, 1, [.frz 2 (some true) []]⟩ := rfl
theorem T56 : T 56 = some ⟨.struct [(0, 22), (1, 55)] false, 2, [.frz 1 (some true) [], .frz 2 (some true) []]⟩ := rfl
theorem T57 : T 57 = some ⟨.struct [(0, 22), (1, 55)] false, 2, [.frz 1 (some true) [], .frz 2 (some true) []]⟩ := rfl
theorem T71 : T 71 = some ⟨.ptr 96, 1, [.nilp]⟩ := rfl
theorem T79 : T 79 = some ⟨.struct [(0, 3), (1, 9)] true, 2, [.int .i64 0, .str []]⟩ := rfl
theorem T80 : T 80 = some ⟨.struct [(0, 3), (1, 9)] true, 2, [.int .i64 0, .str []]⟩ := rfl
theorem T86 : T 86 = some ⟨.struct [(0, 3), (1, 3), (2, 3)] true, 3, [.int .i64 0, .int .i64 0, .int .i64 0]⟩ := rfl
theorem T87 : T 87 = some ⟨.struct [(0, 3), (1, 3), (2, 3)] true, 3, [.int .i64 0, .int .i64 0, .int .i64 0]⟩ := rfl
theorem T89 : T 89 = some ⟨.struct [(0, 3), (1, 3), (2, 3)] true, 3, [.int .i64 0, .int .i64 0, .int .i64 0]⟩ := rfl
theorem T95 : T 95 = some ⟨.struct [(0, 40), (1, 3), (2, 3)] false, 3, [.frz 1 (some true) [], .int .i64 0, .int .i64 0]⟩ := rfl
theorem T96 : T 96 = some ⟨.struct [(0, 40), (1, 3), (2, 3)] false, 3, [.frz 1 (some true) [], .int .i64 0, .int .i64 0]⟩ := rfl
theorem T99 : T 99 = some ⟨.slice 3, 1, [.frz 1 (some true) []]⟩ := rfl
theorem T101 : T 101 = some ⟨.ptr 43, 1, [.nilp]⟩ := rfl
theorem T103 : T 103 = some ⟨.struct [(0, 3), (1, 9)] true, 2, [.int .i64 0, .str []]⟩ := rfl
theorem T107 : T 107 = some ⟨.ptr 109, 1, [.nilp]⟩ := rfl
theorem T108 : T 108 = some ⟨.struct [(0, 107), (1, 40)] false, 2, [.nilp, .frz 1 (some true) []]⟩ := rfl
theorem T109 : T 109 = some ⟨.struct [(0, 107), (1, 40)] false, 2, [.nilp, .frz 1 (some true) []]⟩ := rfl
theorem T117 : T 117 = some ⟨.arr 256 4, 256, [.bool false, .bool false, .bool false, .bool false, .bool false, .bool false, .bool false, .bool false, .bool false, .bool false, .bool false, .bool false, .bool false, .bool false, .bool false, .bool false, .bool false, .bool false, .bool false, .bool false, .bool false, .bool false, .bool false, .bool false, .bool false, .bool false, .bool false, .bool false, .bool false, .bool false, .bool false, .bool false, .bool false, .bool false, .bool false, .bool false, .bool false, .bool false, .bool false, .bool false, .bool false, .bool false, .bool false, .bool false, .bool false, .bool false, .bool false, .bool false, .bool false, .bool false, .bool false, .bool false, .bool false, .bool false, .bool false, .bool false, .bool false, .bool false, .bool false, .bool false, .bool false, .bool false, .bool false, .bool false, .bool false, .bool false, .bool false, .bool false, .bool false, .bool false, .bool false, .bool false, .bool false, .bool false, .bool false, .bool false, .bool false, .bool false, .bool false, .bool false, .bool false, .bool false, .bool false, .bool false, .bool false, .bool false, .bool false, .bool false, .bool false, .bool false, .bool false, .bool false, .bool false, .bool false, .bool false, .bool false, .bool false, .bool false, .bool false, .bool false, .bool false, .bool false, .bool false, .bool false, .bool false, .bool false, .bool false, .bool false, .bool false, .bool false, .bool false, .bool false, .bool false, .bool false, .bool false, .bool false, .bool false, .bool false, .bool false, .bool false, .bool false, .bool false, .bool false, .bool false, .bool false, .bool false, .bool false, .bool false, .bool false, .bool false, .bool false, .bool false, .bool false, .bool false, .bool false, .bool false, .bool false, .bool false, .bool false, .bool false, .bool false, .bool false, .bool false, .bool false, .bool false, .bool false, .bool false, .bool false, .bool false, .bool false, .bool false, .bool false, .bool false, .bool false, .bool false, .bool false, .bool false, .bool false, .bool false, .bool false, .bool false, .bool false, .bool false, .bool false, .bool false, .bool false, .bool false, .bool false, .bool false, .bool false, .bool false, .bool false, .bool false, .bool false, .bool false, .bool false, .bool false, .bool false, .bool false, .bool false, .bool false, .bool false, .bool false, .bool false, .bool false, .bool false, .bool false, .bool false, .bool false, .bool false, .bool false, .bool false, .bool false, .bool false, .bool false, .bool false, .bool false, .bool false, .bool false, .bool false, .bool false, .bool false, .bool false, .bool false, .bool false, .bool false, .bool false, .bool false, .bool false, .bool false, .bool false, .bool false, .bool false, .bool false, .bool false, .bool false, .bool false, .bool false, .bool false, .bool false, .bool false, .bool false, .bool false, .bool false, .bool false, .bool false, .bool false, .bool false, .bool false, .bool false, .bool false, .bool false, .bool false, .bool false, .bool false, .bool false, .bool false, .bool false, .bool false, .bool false, .bool false, .bool false, .bool false, .bool false, .bool false, .bool false, .bool false, .bool false, .bool false, .bool false, .bool false, .bool false, .bool false, .bool false, .bool false, .bool false]⟩ := rfl
theorem T118 : T 118 = some ⟨.arr 256 4, 256, [.bool false, .bool false, .bool false, .bool false, .bool false, .bool false, .bool false, .bool false, .bool false, .bool false, .bool false, .bool false, .bool false, .bool false, .bool false, .bool false, .bool false, .bool false, .bool false, .bool false, .bool false, .bool false, .bool false, .bool false, .bool false, .bool false, .bool false, .bool false, .bool false, .bool false, .bool false, .bool false, .bool false, .bool false, .bool false, .bool false, .bool false, .bool false, .bool false, .bool false, .bool false, .bool false, .bool false, .bool false, .bool false, .bool false, .bool false, .bool false, .bool false, .bool false, .bool false, .bool false, .bool false, .bool false, .bool false, .bool false, .bool false, .bool false, .bool false, .bool false, .bool false, .bool false, .bool false, .bool false, .bool false, .bool false, .bool false, .bool false, .bool false, .bool false, .bool false, .bool false, .bool false, .bool false, .bool false, .bool false, .bool false, .bool false, .bool false, .bool false, .bool false, .bool false, .bool false, .bool false, .bool false, .bool false, .bool false, .bool false, .bool false, .bool false, .bool false, .bool false, .bool false, .bool false, .bool false, .bool false, .bool false, .bool false, .bool false, .bool false, .bool false, .bool false, .bool false, .bool false, .bool false, .bool false, .bool false, .bool false, .bool false, .bool false, .bool false, .bool false, .bool false, .bool false, .bool false, .bool false, .bool false, .bool false, .bool false, .bool false, .bool false, .bool false, .bool false, .bool false, .bool false, .bool false, .bool false, .bool false, .bool false, .bool false, .bool false, .bool false, .bool false, .bool false, .bool false, .bool false, .bool false, .bool false, .bool false, .bool false, .bool false, .bool false, .bool false, .bool false, .bool false, .bool false, .bool false, .bool false, .bool false, .bool false, .bool false, .bool false, .bool false, .bool false, .bool false, .bool false, .bool false, .bool false, .bool false, .bool false, .bool false, .bool false, .bool false, .bool false, .bool false, .bool false, .bool false, .bool false, .bool false, .bool false, .bool false, .bool false, .bool false, .bool false, .bool false, .bool false, .bool false, .bool false, .bool false, .bool false, .bool false, .bool false, .bool false, .bool false, .bool false, .bool false, .bool false, .bool false, .bool false, .bool false, .bool false, .bool false, .bool false, .bool false, .bool false, .bool false, .bool false, .bool false, .bool false, .bool false, .bool false, .bool false, .bool false, .bool false, .bool false, .bool false, .bool false, .bool false, .bool false, .bool false, .bool false, .bool false, .bool false, .bool false, .bool false, .bool false, .bool false, .bool false, .bool false, .bool false, .bool false, .bool false, .bool false, .bool false, .bool false, .bool false, .bool false, .bool false, .bool false, .bool false, .bool false, .bool false, .bool false, .bool false, .bool false, .bool false, .bool false, .bool false, .bool false, .bool false, .bool false, .bool false, .bool false, .bool false, .bool false, .bool false, .bool false, .bool false, .bool false, .bool false, .bool false, .bool false, .bool false, .bool false, .bool false, .bool false]⟩ := rfl
theorem T123 : T 123 = some ⟨.int .u64, 1, [.int .u64 0]⟩ := rfl
theorem T124 : T 124 = some ⟨.ptr 5, 1, [.nilp]⟩ := rfl
theorem T127 : T 127 = some ⟨.ptr 118, 1, [.nilp]⟩ := rfl
theorem T137 : T 137 = some ⟨.int .u32, 1, [.int .u32 0]⟩ := rfl
theorem tok : TOk Try.prog T := tabB_ok (by kernel_rfl)
theorem mixed : Try.prog.follows .mixedOrders = true := by kernel_rfl
def M : Modes := modes [(33, [(true, 0), (false, 0)]), (37, [(true, 0), (false, 0)]), (62, [(true, 0), (false, 0)])]
theorem M0 : M 0 = [] := rfl
theorem M1 : M 1 = [] := rfl
theorem M2 : M 2 = [] := rfl
theorem M3 : M 3 = [] := rfl
theorem M4 : M 4 = [] := rfl
theorem M5 : M 5 = [] := rfl
theorem M6 : M 6 = [] := rfl
theorem M7 : M 7 = [] := rfl
theorem M8 : M 8 = [] := rfl
theorem M9 : M 9 = [] := rfl
theorem M10 : M 10 = [] := rfl
theorem M11 : M 11 = [] := rfl
theorem M12 : M 12 = [] := rfl
theorem M13 : M 13 = [] := rfl
theorem M14 : M 14 = [] := rfl
theorem M15 : M 15 = [] := rfl
theorem M16 : M 16 = [] := rfl
theorem M17 : M 17 = [] := rfl
theorem M18 : M 18 = [] := rfl
theorem M19 : M 19 = [] := rfl
theorem M20 : M 20 = [] := rfl
theorem M21 : M 21 = [] := rfl
theorem M22 : M 22 = [] := rfl
theorem M23 : M 23 = [] := rfl
theorem M24 : M 24 = [] := rfl
theorem M25 : M 25 = [] := rfl
theorem M26 : M 26 = [] := rfl
theorem M27 : M 27 = [] := rfl
theorem M28 : M 28 = [] := rfl
theorem M29 : M 29 = [] := rfl
theorem M30 : M 30 = [] := rfl
theorem M31 : M 31 = [] := rfl
theorem M32 : M 32 = [] := rfl
theorem M33 : M 33 = [(true, 0), (false, 0)] := rfl
theorem M34 : M 34 = [] := rfl
theorem M35 : M 35 = [] := rfl
theorem M36 : M 36 = [] := rfl
theorem M37 : M 37 = [(true, 0), (false, 0)] := rfl
theorem M38 : M 38 = [] := rfl
theorem M39 : M 39 = [] := rfl
theorem M40 : M 40 = [] := rfl
theorem M41 : M 41 = [] := rfl
theorem M42 : M 42 = [] := rfl
theorem M43 : M 43 = [] := rfl
theorem M44 : M 44 = [] := rfl
theorem M45 : M 45 = [] := rfl
theorem M46 : M 46 = [] := rfl
theorem M47 : M 47 = [] := rfl
theorem M48 : M 48 = [] := rfl
theorem M49 : M 49 = [] := rfl
theorem M50 : M 50 = [] := rfl
theorem M51 : M 51 = [] := rfl
theorem M52 : M 52 = [] := rfl
theorem M53 : M 53 = [] := rfl
theorem M54 : M 54 = [] := rfl
theorem M55 : M 55 = [] := rfl
theorem M56 : M 56 = [] := rfl
theorem M57 : M 57 = [] := rfl
theorem M58 : M 58 = [] := rfl
theorem M59 : M 59 = [] := rfl
theorem M60 : M 60 = [] := rfl
theorem M61 : M 61 = [] := rfl
theorem M62 : M 62 = [(true, 0), (false, 0)] := rfl
theorem M63 : M 63 = [] := rfl
theorem M64 : M 64 = [] := rfl
theorem M65 : M 65 = [] := rfl
theorem M66 : M 66 = [] := rfl
theorem M67 : M 67 = [] := rfl
theorem M68 : M 68 = [] := rfl
theorem M69 : M 69 = [] := rfl
theorem M70 : M 70 = [] := rfl
theorem M71 : M 71 = [] := rfl
theorem M72 : M 72 = [] := rfl
theorem M73 : M 73 = [] := rfl
theorem M74 : M 74 = [] := rfl
theorem M75 : M 75 = [] := rfl
theorem M76 : M 76 = [] := rfl
theorem M77 : M 77 = [] := rfl
theorem M78 : M 78 = [] := rfl
theorem M79 : M 79 = [] := rfl
theorem M80 : M 80 = [] := rfl
theorem M81 : M 81 = [] := rfl
theorem M82 : M 82 = [] := rfl
theorem M83 : M 83 = [] := rfl
theorem M84 : M 84 = [] := rfl
theorem M85 : M 85 = [] := rfl
theorem M86 : M 86 = [] := rfl
theorem M87 : M 87 = [] := rfl
theorem M88 : M 88 = [] := rfl
theorem M89 : M 89 = [] := rfl
theorem M90 : M 90 = [] := rfl
theorem M91 : M 91 = [] := rfl
theorem M92 : M 92 = [] := rfl
theorem M93 : M 93 = [] := rfl
theorem M94 : M 94 = [] := rfl
theorem M95 : M 95 = [] := rfl
theorem M96 : M 96 = [] := rfl
theorem M97 : M 97 = [] := rfl
theorem M98 : M 98 = [] := rfl
theorem M111 : M 111 = [] := rfl
theorem M112 : M 112 = [] := rfl
theorem M113 : M 113 = [] := rfl
theorem M114 : M 114 = [] := rfl
theorem M115 : M 115 = [] := rfl
abbrev K := Con Try.prog
theorem ks : Sound Try.prog K := con_sound
end Go.Proofs.Ytdbdofegpjfeiaa
