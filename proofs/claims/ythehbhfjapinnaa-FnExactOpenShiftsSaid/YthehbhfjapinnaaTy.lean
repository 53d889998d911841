/- Facts about types. No condition. -/
import Derived.Test.YthehbhfjapinnaaChecked
import Derived.Test.YthehbhfjapinnaaVm17
set_option linter.unusedSimpArgs false
set_option linter.unusedVariables false
namespace Go.Proofs.Ythehbhfjapinnaa
open Go Go.Vm

theorem Ty.c3 : Program.cellsOf Try.prog 3 = 1 := by kernel_rfl
theorem Ty.b3 : Program.bytesOf Try.prog 3 = 8 := by kernel_rfl
theorem Ty.a3 : Program.isAggT Try.prog 3 = false := by simp only [Program.isAggT, Try.underlying3]
theorem Ty.s3 : scalarT Try.prog 3 = true := by simp only [scalarT, Try.underlying3]
theorem Ty.z3 : Program.zeroOf Try.prog 3 = some (Value.int .i64 0) := by kernel_rfl
theorem Ty.c4 : Program.cellsOf Try.prog 4 = 1 := by kernel_rfl
theorem Ty.b4 : Program.bytesOf Try.prog 4 = 1 := by kernel_rfl
theorem Ty.a4 : Program.isAggT Try.prog 4 = false := by simp only [Program.isAggT, Try.underlying4]
theorem Ty.s4 : scalarT Try.prog 4 = true := by simp only [scalarT, Try.underlying4]
theorem Ty.z4 : Program.zeroOf Try.prog 4 = some (Value.bool false) := by kernel_rfl
theorem Ty.c5 : Program.cellsOf Try.prog 5 = 1 := by kernel_rfl
theorem Ty.b5 : Program.bytesOf Try.prog 5 = 1 := by kernel_rfl
theorem Ty.a5 : Program.isAggT Try.prog 5 = false := by simp only [Program.isAggT, Try.underlying5]
theorem Ty.s5 : scalarT Try.prog 5 = true := by simp only [scalarT, Try.underlying5]
theorem Ty.z5 : Program.zeroOf Try.prog 5 = some (Value.int .u8 0) := by kernel_rfl
theorem Ty.c9 : Program.cellsOf Try.prog 9 = 1 := by kernel_rfl
theorem Ty.b9 : Program.bytesOf Try.prog 9 = 16 := by kernel_rfl
theorem Ty.a9 : Program.isAggT Try.prog 9 = false := by simp only [Program.isAggT, Try.underlying9]
theorem Ty.s9 : scalarT Try.prog 9 = true := by simp only [scalarT, Try.underlying9]
theorem Ty.z9 : Program.zeroOf Try.prog 9 = some (Value.string .empty) := by kernel_rfl
theorem Ty.c23 : Program.cellsOf Try.prog 23 = 3 := by kernel_rfl
theorem Ty.b23 : Program.bytesOf Try.prog 23 = 24 := by kernel_rfl
theorem Ty.a23 : Program.isAggT Try.prog 23 = true := by simp only [Program.isAggT, Try.underlying23]
theorem Ty.s23 : scalarT Try.prog 23 = false := by simp only [scalarT, Try.underlying23]
theorem Ty.z23 : Program.zeroOf Try.prog 23 = some (Value.agg #[Value.int .i64 0, Value.int .i64 0, Value.int .i64 0]) := by kernel_rfl
theorem Ty.c25 : Program.cellsOf Try.prog 25 = 3 := by kernel_rfl
theorem Ty.b25 : Program.bytesOf Try.prog 25 = 24 := by kernel_rfl
theorem Ty.a25 : Program.isAggT Try.prog 25 = true := by simp only [Program.isAggT, Try.underlying25]
theorem Ty.s25 : scalarT Try.prog 25 = false := by simp only [scalarT, Try.underlying25]
theorem Ty.z25 : Program.zeroOf Try.prog 25 = some (Value.agg #[Value.int .i64 0, Value.int .i64 0, Value.int .i64 0]) := by kernel_rfl
theorem Ty.c28 : Program.cellsOf Try.prog 28 = 1 := by kernel_rfl
theorem Ty.b28 : Program.bytesOf Try.prog 28 = 24 := by kernel_rfl
theorem Ty.a28 : Program.isAggT Try.prog 28 = false := by simp only [Program.isAggT, Try.underlying28]
theorem Ty.s28 : scalarT Try.prog 28 = false := by simp only [scalarT, Try.underlying28]
theorem Ty.z28 : Program.zeroOf Try.prog 28 = some (Value.slice none 0 0) := by kernel_rfl
theorem Ty.c33 : Program.cellsOf Try.prog 33 = 1 := by kernel_rfl
theorem Ty.b33 : Program.bytesOf Try.prog 33 = 24 := by kernel_rfl
theorem Ty.a33 : Program.isAggT Try.prog 33 = false := by simp only [Program.isAggT, Try.underlying33]
theorem Ty.s33 : scalarT Try.prog 33 = false := by simp only [scalarT, Try.underlying33]
theorem Ty.z33 : Program.zeroOf Try.prog 33 = some (Value.slice none 0 0) := by kernel_rfl
theorem Ty.c41 : Program.cellsOf Try.prog 41 = 1 := by kernel_rfl
theorem Ty.b41 : Program.bytesOf Try.prog 41 = 24 := by kernel_rfl
theorem Ty.a41 : Program.isAggT Try.prog 41 = false := by simp only [Program.isAggT, Try.underlying41]
theorem Ty.s41 : scalarT Try.prog 41 = false := by simp only [scalarT, Try.underlying41]
theorem Ty.z41 : Program.zeroOf Try.prog 41 = some (Value.slice none 0 0) := by kernel_rfl
theorem Ty.c44 : Program.cellsOf Try.prog 44 = 1 := by kernel_rfl
theorem Ty.b44 : Program.bytesOf Try.prog 44 = 24 := by kernel_rfl
theorem Ty.a44 : Program.isAggT Try.prog 44 = false := by simp only [Program.isAggT, Try.underlying44]
theorem Ty.s44 : scalarT Try.prog 44 = false := by simp only [scalarT, Try.underlying44]
theorem Ty.z44 : Program.zeroOf Try.prog 44 = some (Value.slice none 0 0) := by kernel_rfl
theorem Ty.c57 : Program.cellsOf Try.prog 57 = 4 := by kernel_rfl
theorem Ty.b57 : Program.bytesOf Try.prog 57 = 40 := by kernel_rfl
theorem Ty.a57 : Program.isAggT Try.prog 57 = true := by simp only [Program.isAggT, Try.underlying57]
theorem Ty.s57 : scalarT Try.prog 57 = false := by simp only [scalarT, Try.underlying57]
theorem Ty.z57 : Program.zeroOf Try.prog 57 = some (Value.agg #[Value.int .i64 0, Value.string .empty, Value.int .i64 0, Value.int .i64 0]) := by kernel_rfl
theorem Ty.c58 : Program.cellsOf Try.prog 58 = 4 := by kernel_rfl
theorem Ty.b58 : Program.bytesOf Try.prog 58 = 40 := by kernel_rfl
theorem Ty.a58 : Program.isAggT Try.prog 58 = true := by simp only [Program.isAggT, Try.underlying58]
theorem Ty.s58 : scalarT Try.prog 58 = false := by simp only [scalarT, Try.underlying58]
theorem Ty.z58 : Program.zeroOf Try.prog 58 = some (Value.agg #[Value.int .i64 0, Value.string .empty, Value.int .i64 0, Value.int .i64 0]) := by kernel_rfl
theorem Ty.c63 : Program.cellsOf Try.prog 63 = 1 := by kernel_rfl
theorem Ty.b63 : Program.bytesOf Try.prog 63 = 24 := by kernel_rfl
theorem Ty.a63 : Program.isAggT Try.prog 63 = false := by simp only [Program.isAggT, Try.underlying63]
theorem Ty.s63 : scalarT Try.prog 63 = false := by simp only [scalarT, Try.underlying63]
theorem Ty.z63 : Program.zeroOf Try.prog 63 = some (Value.slice none 0 0) := by kernel_rfl
end Go.Proofs.Ythehbhfjapinnaa
