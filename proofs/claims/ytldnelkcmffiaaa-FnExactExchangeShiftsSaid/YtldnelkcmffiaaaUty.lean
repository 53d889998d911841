/- Facts about types. No condition. -/
import Derived.Test.YtldnelkcmffiaaaChecked
import Derived.Test.YtldnelkcmffiaaaUmF
set_option linter.unusedSimpArgs false
set_option linter.unusedVariables false
set_option linter.defProp false
namespace Go.Proofs.Ytldnelkcmffiaaa
open Go Go.Vm

theorem Ty.c3 : Program.cellsOf Try.prog 3 = 1 := by kernel_rfl
theorem Ty.b3 : Program.bytesOf Try.prog 3 = 8 := by kernel_rfl
theorem Ty.a3 : Program.isAggT Try.prog 3 = false := by simp only [Program.isAggT, Try.underlying3]
theorem Ty.s3 : scalarT Try.prog 3 = true := by simp only [scalarT, Try.underlying3]
theorem Ty.z3 : Program.zeroOf Try.prog 3 = some (Value.int .i64 0) := by kernel_rfl
def Ty.t3 := (And.intro Try.underlying3 (And.intro Ty.c3 (And.intro Ty.b3 (And.intro Ty.a3 (And.intro Ty.s3 Ty.z3)))))
theorem Ty.c4 : Program.cellsOf Try.prog 4 = 1 := by kernel_rfl
theorem Ty.b4 : Program.bytesOf Try.prog 4 = 1 := by kernel_rfl
theorem Ty.a4 : Program.isAggT Try.prog 4 = false := by simp only [Program.isAggT, Try.underlying4]
theorem Ty.s4 : scalarT Try.prog 4 = true := by simp only [scalarT, Try.underlying4]
theorem Ty.z4 : Program.zeroOf Try.prog 4 = some (Value.bool false) := by kernel_rfl
def Ty.t4 := (And.intro Try.underlying4 (And.intro Ty.c4 (And.intro Ty.b4 (And.intro Ty.a4 (And.intro Ty.s4 Ty.z4)))))
theorem Ty.c5 : Program.cellsOf Try.prog 5 = 1 := by kernel_rfl
theorem Ty.b5 : Program.bytesOf Try.prog 5 = 1 := by kernel_rfl
theorem Ty.a5 : Program.isAggT Try.prog 5 = false := by simp only [Program.isAggT, Try.underlying5]
theorem Ty.s5 : scalarT Try.prog 5 = true := by simp only [scalarT, Try.underlying5]
theorem Ty.z5 : Program.zeroOf Try.prog 5 = some (Value.int .u8 0) := by kernel_rfl
def Ty.t5 := (And.intro Try.underlying5 (And.intro Ty.c5 (And.intro Ty.b5 (And.intro Ty.a5 (And.intro Ty.s5 Ty.z5)))))
theorem Ty.c9 : Program.cellsOf Try.prog 9 = 1 := by kernel_rfl
theorem Ty.b9 : Program.bytesOf Try.prog 9 = 16 := by kernel_rfl
theorem Ty.a9 : Program.isAggT Try.prog 9 = false := by simp only [Program.isAggT, Try.underlying9]
theorem Ty.s9 : scalarT Try.prog 9 = true := by simp only [scalarT, Try.underlying9]
theorem Ty.z9 : Program.zeroOf Try.prog 9 = some (Value.string .empty) := by kernel_rfl
def Ty.t9 := (And.intro Try.underlying9 (And.intro Ty.c9 (And.intro Ty.b9 (And.intro Ty.a9 (And.intro Ty.s9 Ty.z9)))))
theorem Ty.c22 : Program.cellsOf Try.prog 22 = 1 := by kernel_rfl
theorem Ty.b22 : Program.bytesOf Try.prog 22 = 24 := by kernel_rfl
theorem Ty.a22 : Program.isAggT Try.prog 22 = false := by simp only [Program.isAggT, Try.underlying22]
theorem Ty.s22 : scalarT Try.prog 22 = false := by simp only [scalarT, Try.underlying22]
theorem Ty.z22 : Program.zeroOf Try.prog 22 = some (Value.slice none 0 0) := by kernel_rfl
def Ty.t22 := (And.intro Try.underlying22 (And.intro Ty.c22 (And.intro Ty.b22 (And.intro Ty.a22 (And.intro Ty.s22 Ty.z22)))))
theorem Ty.c26 : Program.cellsOf Try.prog 26 = 1 := by kernel_rfl
theorem Ty.b26 : Program.bytesOf Try.prog 26 = 24 := by kernel_rfl
theorem Ty.a26 : Program.isAggT Try.prog 26 = false := by simp only [Program.isAggT, Try.underlying26]
theorem Ty.s26 : scalarT Try.prog 26 = false := by simp only [scalarT, Try.underlying26]
theorem Ty.z26 : Program.zeroOf Try.prog 26 = some (Value.slice none 0 0) := by kernel_rfl
def Ty.t26 := (And.intro Try.underlying26 (And.intro Ty.c26 (And.intro Ty.b26 (And.intro Ty.a26 (And.intro Ty.s26 Ty.z26)))))
theorem Ty.c30 : Program.cellsOf Try.prog 30 = 1 := by kernel_rfl
theorem Ty.b30 : Program.bytesOf Try.prog 30 = 24 := by kernel_rfl
theorem Ty.a30 : Program.isAggT Try.prog 30 = false := by simp only [Program.isAggT, Try.underlying30]
theorem Ty.s30 : scalarT Try.prog 30 = false := by simp only [scalarT, Try.underlying30]
theorem Ty.z30 : Program.zeroOf Try.prog 30 = some (Value.slice none 0 0) := by kernel_rfl
def Ty.t30 := (And.intro Try.underlying30 (And.intro Ty.c30 (And.intro Ty.b30 (And.intro Ty.a30 (And.intro Ty.s30 Ty.z30)))))
theorem Ty.c32 : Program.cellsOf Try.prog 32 = 3 := by kernel_rfl
theorem Ty.b32 : Program.bytesOf Try.prog 32 = 24 := by kernel_rfl
theorem Ty.a32 : Program.isAggT Try.prog 32 = true := by simp only [Program.isAggT, Try.underlying32]
theorem Ty.s32 : scalarT Try.prog 32 = false := by simp only [scalarT, Try.underlying32]
theorem Ty.z32 : Program.zeroOf Try.prog 32 = some (Value.agg #[Value.int .i64 0, Value.int .i64 0, Value.int .i64 0]) := by kernel_rfl
def Ty.t32 := (And.intro Try.underlying32 (And.intro Ty.c32 (And.intro Ty.b32 (And.intro Ty.a32 (And.intro Ty.s32 Ty.z32)))))
theorem Ty.c37 : Program.cellsOf Try.prog 37 = 3 := by kernel_rfl
theorem Ty.b37 : Program.bytesOf Try.prog 37 = 24 := by kernel_rfl
theorem Ty.a37 : Program.isAggT Try.prog 37 = true := by simp only [Program.isAggT, Try.underlying37]
theorem Ty.s37 : scalarT Try.prog 37 = false := by simp only [scalarT, Try.underlying37]
theorem Ty.z37 : Program.zeroOf Try.prog 37 = some (Value.agg #[Value.int .i64 0, Value.int .i64 0, Value.int .i64 0]) := by kernel_rfl
def Ty.t37 := (And.intro Try.underlying37 (And.intro Ty.c37 (And.intro Ty.b37 (And.intro Ty.a37 (And.intro Ty.s37 Ty.z37)))))
theorem Ty.c41 : Program.cellsOf Try.prog 41 = 1 := by kernel_rfl
theorem Ty.b41 : Program.bytesOf Try.prog 41 = 24 := by kernel_rfl
theorem Ty.a41 : Program.isAggT Try.prog 41 = false := by simp only [Program.isAggT, Try.underlying41]
theorem Ty.s41 : scalarT Try.prog 41 = false := by simp only [scalarT, Try.underlying41]
theorem Ty.z41 : Program.zeroOf Try.prog 41 = some (Value.slice none 0 0) := by kernel_rfl
def Ty.t41 := (And.intro Try.underlying41 (And.intro Ty.c41 (And.intro Ty.b41 (And.intro Ty.a41 (And.intro Ty.s41 Ty.z41)))))
theorem Ty.c51 : Program.cellsOf Try.prog 51 = 4 := by kernel_rfl
theorem Ty.b51 : Program.bytesOf Try.prog 51 = 40 := by kernel_rfl
theorem Ty.a51 : Program.isAggT Try.prog 51 = true := by simp only [Program.isAggT, Try.underlying51]
theorem Ty.s51 : scalarT Try.prog 51 = false := by simp only [scalarT, Try.underlying51]
theorem Ty.z51 : Program.zeroOf Try.prog 51 = some (Value.agg #[Value.int .i64 0, Value.string .empty, Value.int .i64 0, Value.int .i64 0]) := by kernel_rfl
def Ty.t51 := (And.intro Try.underlying51 (And.intro Ty.c51 (And.intro Ty.b51 (And.intro Ty.a51 (And.intro Ty.s51 Ty.z51)))))
theorem Ty.c54 : Program.cellsOf Try.prog 54 = 4 := by kernel_rfl
theorem Ty.b54 : Program.bytesOf Try.prog 54 = 40 := by kernel_rfl
theorem Ty.a54 : Program.isAggT Try.prog 54 = true := by simp only [Program.isAggT, Try.underlying54]
theorem Ty.s54 : scalarT Try.prog 54 = false := by simp only [scalarT, Try.underlying54]
theorem Ty.z54 : Program.zeroOf Try.prog 54 = some (Value.agg #[Value.int .i64 0, Value.string .empty, Value.int .i64 0, Value.int .i64 0]) := by kernel_rfl
def Ty.t54 := (And.intro Try.underlying54 (And.intro Ty.c54 (And.intro Ty.b54 (And.intro Ty.a54 (And.intro Ty.s54 Ty.z54)))))
theorem Ty.c75 : Program.cellsOf Try.prog 75 = 1 := by kernel_rfl
theorem Ty.b75 : Program.bytesOf Try.prog 75 = 8 := by kernel_rfl
theorem Ty.a75 : Program.isAggT Try.prog 75 = false := by simp only [Program.isAggT, Try.underlying75]
theorem Ty.s75 : scalarT Try.prog 75 = true := by simp only [scalarT, Try.underlying75]
theorem Ty.z75 : Program.zeroOf Try.prog 75 = some (Value.int .u64 0) := by kernel_rfl
def Ty.t75 := (And.intro Try.underlying75 (And.intro Ty.c75 (And.intro Ty.b75 (And.intro Ty.a75 (And.intro Ty.s75 Ty.z75)))))
theorem Ty.c81 : Program.cellsOf Try.prog 81 = 1 := by kernel_rfl
theorem Ty.b81 : Program.bytesOf Try.prog 81 = 8 := by kernel_rfl
theorem Ty.a81 : Program.isAggT Try.prog 81 = false := by simp only [Program.isAggT, Try.underlying81]
theorem Ty.s81 : scalarT Try.prog 81 = true := by simp only [scalarT, Try.underlying81]
theorem Ty.z81 : Program.zeroOf Try.prog 81 = some (Value.int .i64 0) := by kernel_rfl
def Ty.t81 := (And.intro Try.underlying81 (And.intro Ty.c81 (And.intro Ty.b81 (And.intro Ty.a81 (And.intro Ty.s81 Ty.z81)))))
theorem Ty.c90 : Program.cellsOf Try.prog 90 = 1 := by kernel_rfl
theorem Ty.b90 : Program.bytesOf Try.prog 90 = 8 := by kernel_rfl
theorem Ty.a90 : Program.isAggT Try.prog 90 = false := by simp only [Program.isAggT, Try.underlying90]
theorem Ty.s90 : scalarT Try.prog 90 = true := by simp only [scalarT, Try.underlying90]
theorem Ty.z90 : Program.zeroOf Try.prog 90 = some (Value.int .u64 0) := by kernel_rfl
def Ty.t90 := (And.intro Try.underlying90 (And.intro Ty.c90 (And.intro Ty.b90 (And.intro Ty.a90 (And.intro Ty.s90 Ty.z90)))))
theorem Ty.c92 : Program.cellsOf Try.prog 92 = 1 := by kernel_rfl
theorem Ty.b92 : Program.bytesOf Try.prog 92 = 8 := by kernel_rfl
theorem Ty.a92 : Program.isAggT Try.prog 92 = false := by simp only [Program.isAggT, Try.underlying92]
theorem Ty.s92 : scalarT Try.prog 92 = true := by simp only [scalarT, Try.underlying92]
theorem Ty.z92 : Program.zeroOf Try.prog 92 = some (Value.int .u64 0) := by kernel_rfl
def Ty.t92 := (And.intro Try.underlying92 (And.intro Ty.c92 (And.intro Ty.b92 (And.intro Ty.a92 (And.intro Ty.s92 Ty.z92)))))
theorem Ty.c96 : Program.cellsOf Try.prog 96 = 1 := by kernel_rfl
theorem Ty.b96 : Program.bytesOf Try.prog 96 = 8 := by kernel_rfl
theorem Ty.a96 : Program.isAggT Try.prog 96 = false := by simp only [Program.isAggT, Try.underlying96]
theorem Ty.s96 : scalarT Try.prog 96 = false := by simp only [scalarT, Try.underlying96]
theorem Ty.z96 : Program.zeroOf Try.prog 96 = some (Value.pointer none) := by kernel_rfl
def Ty.t96 := (And.intro Try.underlying96 (And.intro Ty.c96 (And.intro Ty.b96 (And.intro Ty.a96 (And.intro Ty.s96 Ty.z96)))))
end Go.Proofs.Ytldnelkcmffiaaa
