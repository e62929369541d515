/- What each struct literal of the program comes to (printed by gen_bd.py). -/
import Derived.Test.YtdjkllhnkbobfaaProg
import Derived.Laws.Tables
import Derived.KernelRfl
namespace Go.Proofs.Ytdjkllhnkbobfaa
open Go Go.Proofs

theorem built54  : Try.prog.built 54 [] = some #[.int .i64 0, .int .i64 0, .int .i64 0, .bool false, .int .u64 0, .int .u64 0, .int .i64 0] := by kernel_rfl
theorem built54_0 {x1 : Int} : Try.prog.built 54 [(0, .int .i64 x1)] = some #[.int .i64 x1, .int .i64 0, .int .i64 0, .bool false, .int .u64 0, .int .u64 0, .int .i64 0] := by kernel_rfl
theorem built54_0_1 {x1 : Int} {x2 : Int} : Try.prog.built 54 [(0, .int .i64 x1), (1, .int .i64 x2)] = some #[.int .i64 x1, .int .i64 x2, .int .i64 0, .bool false, .int .u64 0, .int .u64 0, .int .i64 0] := by kernel_rfl
theorem built54_0_1_2 {x1 : Int} {x2 : Int} {x3 : Int} : Try.prog.built 54 [(0, .int .i64 x1), (1, .int .i64 x2), (2, .int .i64 x3)] = some #[.int .i64 x1, .int .i64 x2, .int .i64 x3, .bool false, .int .u64 0, .int .u64 0, .int .i64 0] := by kernel_rfl
theorem built54_0_1_2_3_4_5_6 {x1 : Int} {x2 : Int} {x3 : Int} {x4 : Bool} {x5 : Int} {x6 : Int} {x7 : Int} : Try.prog.built 54 [(0, .int .i64 x1), (1, .int .i64 x2), (2, .int .i64 x3), (3, .bool x4), (4, .int .u64 x5), (5, .int .u64 x6), (6, .int .i64 x7)] = some #[.int .i64 x1, .int .i64 x2, .int .i64 x3, .bool x4, .int .u64 x5, .int .u64 x6, .int .i64 x7] := by kernel_rfl
theorem built54_0_1_5 {x1 : Int} {x2 : Int} {x3 : Int} : Try.prog.built 54 [(0, .int .i64 x1), (1, .int .i64 x2), (5, .int .u64 x3)] = some #[.int .i64 x1, .int .i64 x2, .int .i64 0, .bool false, .int .u64 0, .int .u64 x3, .int .i64 0] := by kernel_rfl
theorem built54_0_2 {x1 : Int} {x2 : Int} : Try.prog.built 54 [(0, .int .i64 x1), (2, .int .i64 x2)] = some #[.int .i64 x1, .int .i64 0, .int .i64 x2, .bool false, .int .u64 0, .int .u64 0, .int .i64 0] := by kernel_rfl
theorem built54_0_2_1_5 {x1 : Int} {x2 : Int} {x3 : Int} {x4 : Int} : Try.prog.built 54 [(0, .int .i64 x1), (2, .int .i64 x2), (1, .int .i64 x3), (5, .int .u64 x4)] = some #[.int .i64 x1, .int .i64 x3, .int .i64 x2, .bool false, .int .u64 0, .int .u64 x4, .int .i64 0] := by kernel_rfl
theorem built54_0_3 {x1 : Int} {x2 : Bool} : Try.prog.built 54 [(0, .int .i64 x1), (3, .bool x2)] = some #[.int .i64 x1, .int .i64 0, .int .i64 0, .bool x2, .int .u64 0, .int .u64 0, .int .i64 0] := by kernel_rfl
theorem built54_0_3_4_5 {x1 : Int} {x2 : Bool} {x3 : Int} {x4 : Int} : Try.prog.built 54 [(0, .int .i64 x1), (3, .bool x2), (4, .int .u64 x3), (5, .int .u64 x4)] = some #[.int .i64 x1, .int .i64 0, .int .i64 0, .bool x2, .int .u64 x3, .int .u64 x4, .int .i64 0] := by kernel_rfl
theorem built54_0_4 {x1 : Int} {x2 : Int} : Try.prog.built 54 [(0, .int .i64 x1), (4, .int .u64 x2)] = some #[.int .i64 x1, .int .i64 0, .int .i64 0, .bool false, .int .u64 x2, .int .u64 0, .int .i64 0] := by kernel_rfl
theorem built54_0_4_5 {x1 : Int} {x2 : Int} {x3 : Int} : Try.prog.built 54 [(0, .int .i64 x1), (4, .int .u64 x2), (5, .int .u64 x3)] = some #[.int .i64 x1, .int .i64 0, .int .i64 0, .bool false, .int .u64 x2, .int .u64 x3, .int .i64 0] := by kernel_rfl
theorem built54_0_5 {x1 : Int} {x2 : Int} : Try.prog.built 54 [(0, .int .i64 x1), (5, .int .u64 x2)] = some #[.int .i64 x1, .int .i64 0, .int .i64 0, .bool false, .int .u64 0, .int .u64 x2, .int .i64 0] := by kernel_rfl
theorem built54_0_6 {x1 : Int} {x2 : Int} : Try.prog.built 54 [(0, .int .i64 x1), (6, .int .i64 x2)] = some #[.int .i64 x1, .int .i64 0, .int .i64 0, .bool false, .int .u64 0, .int .u64 0, .int .i64 x2] := by kernel_rfl
theorem built55_0_1 {x1 : Int} {x2 : Int} {x3 : Int} {x4 : Bool} {x5 : Int} {x6 : Int} {x7 : Int} {x8 : Bool} : Try.prog.built 55 [(0, .agg #[.int .i64 x1, .int .i64 x2, .int .i64 x3, .bool x4, .int .u64 x5, .int .u64 x6, .int .i64 x7]), (1, .bool x8)] = some #[.int .i64 x1, .int .i64 x2, .int .i64 x3, .bool x4, .int .u64 x5, .int .u64 x6, .int .i64 x7, .bool x8] := by kernel_rfl
theorem built67  : Try.prog.built 67 [] = some #[.int .i64 0, .int .i64 0, .int .i64 0, .int .i64 0, .int .i64 0, .int .i64 0, .int .i64 0, .int .i64 0] := by kernel_rfl
theorem built67_0_1 {x1 : Int} {x2 : Int} : Try.prog.built 67 [(0, .int .i64 x1), (1, .int .i64 x2)] = some #[.int .i64 x1, .int .i64 x2, .int .i64 0, .int .i64 0, .int .i64 0, .int .i64 0, .int .i64 0, .int .i64 0] := by kernel_rfl
theorem built67_0_1_2_3_4_5_6_7 {x1 : Int} {x2 : Int} {x3 : Int} {x4 : Int} {x5 : Int} {x6 : Int} {x7 : Int} {x8 : Int} : Try.prog.built 67 [(0, .int .i64 x1), (1, .int .i64 x2), (2, .int .i64 x3), (3, .int .i64 x4), (4, .int .i64 x5), (5, .int .i64 x6), (6, .int .i64 x7), (7, .int .i64 x8)] = some #[.int .i64 x1, .int .i64 x2, .int .i64 x3, .int .i64 x4, .int .i64 x5, .int .i64 x6, .int .i64 x7, .int .i64 x8] := by kernel_rfl
theorem built67_0_1_5 {x1 : Int} {x2 : Int} {x3 : Int} : Try.prog.built 67 [(0, .int .i64 x1), (1, .int .i64 x2), (5, .int .i64 x3)] = some #[.int .i64 x1, .int .i64 x2, .int .i64 0, .int .i64 0, .int .i64 0, .int .i64 x3, .int .i64 0, .int .i64 0] := by kernel_rfl
theorem built76_0_1 {x1 : Int} {x2 : Int} : Try.prog.built 76 [(0, .int .i64 x1), (1, .int .i64 x2)] = some #[.int .i64 x1, .int .i64 x2, .slice none 0 0] := by kernel_rfl
theorem built76_0_1_2 {x1 : Int} {x2 : Int} {x3 : Option Addr} {x4 : Nat} {x5 : Nat} : Try.prog.built 76 [(0, .int .i64 x1), (1, .int .i64 x2), (2, .slice x3 x4 x5)] = some #[.int .i64 x1, .int .i64 x2, .slice x3 x4 x5] := by kernel_rfl
theorem built76_1 {x1 : Int} : Try.prog.built 76 [(1, .int .i64 x1)] = some #[.int .i64 0, .int .i64 x1, .slice none 0 0] := by kernel_rfl
theorem built76_1_2 {x1 : Int} {x2 : Option Addr} {x3 : Nat} {x4 : Nat} : Try.prog.built 76 [(1, .int .i64 x1), (2, .slice x2 x3 x4)] = some #[.int .i64 0, .int .i64 x1, .slice x2 x3 x4] := by kernel_rfl
theorem built81_0 {x1 : Int} : Try.prog.built 81 [(0, .int .i64 x1)] = some #[.int .i64 x1, .slice none 0 0, .slice none 0 0, .int .i64 0, .int .i64 0, .slice none 0 0] := by kernel_rfl
theorem built81_0_1_2_3 {x1 : Int} {x2 : Option Addr} {x3 : Nat} {x4 : Nat} {x5 : Option Addr} {x6 : Nat} {x7 : Nat} {x8 : Int} {x9 : Int} {x10 : Option Addr} {x11 : Nat} {x12 : Nat} : Try.prog.built 81 [(0, .int .i64 x1), (1, .slice x2 x3 x4), (2, .slice x5 x6 x7), (3, .agg #[.int .i64 x8, .int .i64 x9, .slice x10 x11 x12])] = some #[.int .i64 x1, .slice x2 x3 x4, .slice x5 x6 x7, .int .i64 x8, .int .i64 x9, .slice x10 x11 x12] := by kernel_rfl
theorem built116_1 {x1 : Option Nat} : Try.prog.built 116 [(1, .map x1)] = some #[.slice none 0 0, .map x1] := by kernel_rfl
theorem built94  : Try.prog.built 94 [] = some #[.slice none 0 0] := by kernel_rfl
theorem built96_0 {x1 : Option Addr} {x2 : Nat} {x3 : Nat} : Try.prog.built 96 [(0, .slice x1 x2 x3)] = some #[.slice x1 x2 x3, .bool false] := by kernel_rfl
theorem built102_0_1_2 {x1 : Option Addr} {x2 : Option Addr} {x3 : Option Addr} : Try.prog.built 102 [(0, .pointer x1), (1, .pointer x2), (2, .pointer x3)] = some #[.pointer x1, .pointer x2, .pointer x3] := by kernel_rfl
theorem built106_0 {x1 : Option Nat} : Try.prog.built 106 [(0, .map x1)] = some #[.map x1] := by kernel_rfl
theorem built139_0_1_2 {x1 : Int} {x2 : Option Addr} {x3 : Nat} {x4 : Nat} {x5 : Option Nat} : Try.prog.built 139 [(0, .int .i64 x1), (1, .slice x2 x3 x4), (2, .map x5)] = some #[.int .i64 x1, .slice x2 x3 x4, .map x5] := by kernel_rfl
theorem built120_0 {x1 : Int} : Try.prog.built 120 [(0, .int .i64 x1)] = some #[.int .i64 x1, .slice none 0 0] := by kernel_rfl
