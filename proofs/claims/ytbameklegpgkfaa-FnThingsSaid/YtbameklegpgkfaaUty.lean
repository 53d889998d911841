/- Facts about types. No condition. -/
import Derived.Test.YtbameklegpgkfaaChecked
import Derived.Test.YtbameklegpgkfaaUmF
set_option linter.unusedSimpArgs false
set_option linter.unusedVariables false
set_option linter.defProp false
namespace Go.Proofs.Ytbameklegpgkfaa
open Go Go.Vm

theorem Ty.c3 : Program.cellsOf Try.prog 3 = 1 := by kernel_rfl
theorem Ty.b3 : Program.bytesOf Try.prog 3 = 8 := by kernel_rfl
theorem Ty.a3 : Program.isAggT Try.prog 3 = false := by simp only [Program.isAggT, Try.underlying3]
theorem Ty.s3 : scalarT Try.prog 3 = true := by simp only [scalarT, Try.underlying3]
theorem Ty.z3 : Program.zeroOf Try.prog 3 = some (Value.int .i64 0) := by kernel_rfl
def Ty.t3 := (And.intro Try.underlying3 (And.intro Ty.c3 (And.intro Ty.b3 (And.intro Ty.a3 (And.intro Ty.s3 Ty.z3)))))
theorem Ty.c4 : Program.cellsOf Try.prog 4 = 1 := by kernel_rfl
theorem Ty.b4 : Program.bytesOf Try.prog 4 = 1 := by kernel_rfl
theorem Ty.a4 : Program.isAggT Try.prog 4 = false := by simp only [Program.isAggT, Try.underlying4]
theorem Ty.s4 : scalarT Try.prog 4 = true := by simp only [scalarT, Try.underlying4]
theorem Ty.z4 : Program.zeroOf Try.prog 4 = some (Value.bool false) := by kernel_rfl
def Ty.t4 := (And.intro Try.underlying4 (And.intro Ty.c4 (And.intro Ty.b4 (And.intro Ty.a4 (And.intro Ty.s4 Ty.z4)))))
theorem Ty.c5 : Program.cellsOf Try.prog 5 = 1 := by kernel_rfl
theorem Ty.b5 : Program.bytesOf Try.prog 5 = 1 := by kernel_rfl
theorem Ty.a5 : Program.isAggT Try.prog 5 = false := by simp only [Program.isAggT, Try.underlying5]
theorem Ty.s5 : scalarT Try.prog 5 = true := by simp only [scalarT, Try.underlying5]
theorem Ty.z5 : Program.zeroOf Try.prog 5 = some (Value.int .u8 0) := by kernel_rfl
def Ty.t5 := (And.intro Try.underlying5 (And.intro Ty.c5 (And.intro Ty.b5 (And.intro Ty.a5 (And.intro Ty.s5 Ty.z5)))))
theorem Ty.c9 : Program.cellsOf Try.prog 9 = 1 := by kernel_rfl
theorem Ty.b9 : Program.bytesOf Try.prog 9 = 16 := by kernel_rfl
theorem Ty.a9 : Program.isAggT Try.prog 9 = false := by simp only [Program.isAggT, Try.underlying9]
theorem Ty.s9 : scalarT Try.prog 9 = true := by simp only [scalarT, Try.underlying9]
theorem Ty.z9 : Program.zeroOf Try.prog 9 = some (Value.string .empty) := by kernel_rfl
def Ty.t9 := (And.intro Try.underlying9 (And.intro Ty.c9 (And.intro Ty.b9 (And.intro Ty.a9 (And.intro Ty.s9 Ty.z9)))))
theorem Ty.c22 : Program.cellsOf Try.prog 22 = 1 := by kernel_rfl
theorem Ty.b22 : Program.bytesOf Try.prog 22 = 24 := by kernel_rfl
theorem Ty.a22 : Program.isAggT Try.prog 22 = false := by simp only [Program.isAggT, Try.underlying22]
theorem Ty.s22 : scalarT Try.prog 22 = false := by simp only [scalarT, Try.underlying22]
theorem Ty.z22 : Program.zeroOf Try.prog 22 = some (Value.slice none 0 0) := by kernel_rfl
def Ty.t22 := (And.intro Try.underlying22 (And.intro Ty.c22 (And.intro Ty.b22 (And.intro Ty.a22 (And.intro Ty.s22 Ty.z22)))))
theorem Ty.c23 : Program.cellsOf Try.prog 23 = 1 := by kernel_rfl
theorem Ty.b23 : Program.bytesOf Try.prog 23 = 24 := by kernel_rfl
theorem Ty.a23 : Program.isAggT Try.prog 23 = false := by simp only [Program.isAggT, Try.underlying23]
theorem Ty.s23 : scalarT Try.prog 23 = false := by simp only [scalarT, Try.underlying23]
theorem Ty.z23 : Program.zeroOf Try.prog 23 = some (Value.slice none 0 0) := by kernel_rfl
def Ty.t23 := (And.intro Try.underlying23 (And.intro Ty.c23 (And.intro Ty.b23 (And.intro Ty.a23 (And.intro Ty.s23 Ty.z23)))))
theorem Ty.c29 : Program.cellsOf Try.prog 29 = 2 := by kernel_rfl
theorem Ty.b29 : Program.bytesOf Try.prog 29 = 40 := by kernel_rfl
theorem Ty.a29 : Program.isAggT Try.prog 29 = true := by simp only [Program.isAggT, Try.underlying29]
theorem Ty.s29 : scalarT Try.prog 29 = false := by simp only [scalarT, Try.underlying29]
theorem Ty.z29 : Program.zeroOf Try.prog 29 = some (Value.agg #[Value.string .empty, Value.slice none 0 0]) := by kernel_rfl
def Ty.t29 := (And.intro Try.underlying29 (And.intro Ty.c29 (And.intro Ty.b29 (And.intro Ty.a29 (And.intro Ty.s29 Ty.z29)))))
theorem Ty.c38 : Program.cellsOf Try.prog 38 = 3 := by kernel_rfl
theorem Ty.b38 : Program.bytesOf Try.prog 38 = 32 := by kernel_rfl
theorem Ty.a38 : Program.isAggT Try.prog 38 = true := by simp only [Program.isAggT, Try.underlying38]
theorem Ty.s38 : scalarT Try.prog 38 = false := by simp only [scalarT, Try.underlying38]
theorem Ty.z38 : Program.zeroOf Try.prog 38 = some (Value.agg #[Value.string .empty, Value.int .i64 0, Value.int .i64 0]) := by kernel_rfl
theorem Ty.q38 : eqT Try.prog 38 = some [.str, .int .i64, .int .i64] := by kernel_rfl
def Ty.t38 := (And.intro Try.underlying38 (And.intro Ty.c38 (And.intro Ty.b38 (And.intro Ty.a38 (And.intro Ty.s38 (And.intro Ty.q38 Ty.z38))))))
theorem Ty.c41 : Program.cellsOf Try.prog 41 = 1 := by kernel_rfl
theorem Ty.b41 : Program.bytesOf Try.prog 41 = 24 := by kernel_rfl
theorem Ty.a41 : Program.isAggT Try.prog 41 = false := by simp only [Program.isAggT, Try.underlying41]
theorem Ty.s41 : scalarT Try.prog 41 = false := by simp only [scalarT, Try.underlying41]
theorem Ty.z41 : Program.zeroOf Try.prog 41 = some (Value.slice none 0 0) := by kernel_rfl
def Ty.t41 := (And.intro Try.underlying41 (And.intro Ty.c41 (And.intro Ty.b41 (And.intro Ty.a41 (And.intro Ty.s41 Ty.z41)))))
theorem Ty.c44 : Program.cellsOf Try.prog 44 = 1 := by kernel_rfl
theorem Ty.b44 : Program.bytesOf Try.prog 44 = 24 := by kernel_rfl
theorem Ty.a44 : Program.isAggT Try.prog 44 = false := by simp only [Program.isAggT, Try.underlying44]
theorem Ty.s44 : scalarT Try.prog 44 = false := by simp only [scalarT, Try.underlying44]
theorem Ty.z44 : Program.zeroOf Try.prog 44 = some (Value.slice none 0 0) := by kernel_rfl
def Ty.t44 := (And.intro Try.underlying44 (And.intro Ty.c44 (And.intro Ty.b44 (And.intro Ty.a44 (And.intro Ty.s44 Ty.z44)))))
theorem Ty.c47 : Program.cellsOf Try.prog 47 = 1 := by kernel_rfl
theorem Ty.b47 : Program.bytesOf Try.prog 47 = 24 := by kernel_rfl
theorem Ty.a47 : Program.isAggT Try.prog 47 = false := by simp only [Program.isAggT, Try.underlying47]
theorem Ty.s47 : scalarT Try.prog 47 = false := by simp only [scalarT, Try.underlying47]
theorem Ty.z47 : Program.zeroOf Try.prog 47 = some (Value.slice none 0 0) := by kernel_rfl
def Ty.t47 := (And.intro Try.underlying47 (And.intro Ty.c47 (And.intro Ty.b47 (And.intro Ty.a47 (And.intro Ty.s47 Ty.z47)))))
theorem Ty.c52 : Program.cellsOf Try.prog 52 = 1 := by kernel_rfl
theorem Ty.b52 : Program.bytesOf Try.prog 52 = 24 := by kernel_rfl
theorem Ty.a52 : Program.isAggT Try.prog 52 = false := by simp only [Program.isAggT, Try.underlying52]
theorem Ty.s52 : scalarT Try.prog 52 = false := by simp only [scalarT, Try.underlying52]
theorem Ty.z52 : Program.zeroOf Try.prog 52 = some (Value.slice none 0 0) := by kernel_rfl
def Ty.t52 := (And.intro Try.underlying52 (And.intro Ty.c52 (And.intro Ty.b52 (And.intro Ty.a52 (And.intro Ty.s52 Ty.z52)))))
theorem Ty.c59 : Program.cellsOf Try.prog 59 = 5 := by kernel_rfl
theorem Ty.b59 : Program.bytesOf Try.prog 59 = 40 := by kernel_rfl
theorem Ty.a59 : Program.isAggT Try.prog 59 = true := by simp only [Program.isAggT, Try.underlying59]
theorem Ty.s59 : scalarT Try.prog 59 = false := by simp only [scalarT, Try.underlying59]
theorem Ty.z59 : Program.zeroOf Try.prog 59 = some (Value.agg #[Value.int .i64 0, Value.int .i64 0, Value.int .i64 0, Value.int .i64 0, Value.int .i64 0]) := by kernel_rfl
theorem Ty.q59 : eqT Try.prog 59 = some [.int .i64, .int .i64, .int .i64, .int .i64, .int .i64] := by kernel_rfl
def Ty.t59 := (And.intro Try.underlying59 (And.intro Ty.c59 (And.intro Ty.b59 (And.intro Ty.a59 (And.intro Ty.s59 (And.intro Ty.q59 Ty.z59))))))
theorem Ty.c65 : Program.cellsOf Try.prog 65 = 1 := by kernel_rfl
theorem Ty.b65 : Program.bytesOf Try.prog 65 = 8 := by kernel_rfl
theorem Ty.a65 : Program.isAggT Try.prog 65 = false := by simp only [Program.isAggT, Try.underlying65]
theorem Ty.s65 : scalarT Try.prog 65 = false := by simp only [scalarT, Try.underlying65]
theorem Ty.z65 : Program.zeroOf Try.prog 65 = some (Value.pointer none) := by kernel_rfl
def Ty.t65 := (And.intro Try.underlying65 (And.intro Ty.c65 (And.intro Ty.b65 (And.intro Ty.a65 (And.intro Ty.s65 Ty.z65)))))
theorem Ty.c66 : Program.cellsOf Try.prog 66 = 1 := by kernel_rfl
theorem Ty.b66 : Program.bytesOf Try.prog 66 = 8 := by kernel_rfl
theorem Ty.a66 : Program.isAggT Try.prog 66 = false := by simp only [Program.isAggT, Try.underlying66]
theorem Ty.s66 : scalarT Try.prog 66 = true := by simp only [scalarT, Try.underlying66]
theorem Ty.z66 : Program.zeroOf Try.prog 66 = some (Value.int .u64 0) := by kernel_rfl
def Ty.t66 := (And.intro Try.underlying66 (And.intro Ty.c66 (And.intro Ty.b66 (And.intro Ty.a66 (And.intro Ty.s66 Ty.z66)))))
theorem Ty.c68 : Program.cellsOf Try.prog 68 = 3 := by kernel_rfl
theorem Ty.b68 : Program.bytesOf Try.prog 68 = 40 := by kernel_rfl
theorem Ty.a68 : Program.isAggT Try.prog 68 = true := by simp only [Program.isAggT, Try.underlying68]
theorem Ty.s68 : scalarT Try.prog 68 = false := by simp only [scalarT, Try.underlying68]
theorem Ty.z68 : Program.zeroOf Try.prog 68 = some (Value.agg #[Value.slice none 0 0, Value.int .i64 0, Value.int .u64 0]) := by kernel_rfl
def Ty.t68 := (And.intro Try.underlying68 (And.intro Ty.c68 (And.intro Ty.b68 (And.intro Ty.a68 (And.intro Ty.s68 Ty.z68)))))
theorem Ty.c74 : Program.cellsOf Try.prog 74 = 1 := by kernel_rfl
theorem Ty.b74 : Program.bytesOf Try.prog 74 = 24 := by kernel_rfl
theorem Ty.a74 : Program.isAggT Try.prog 74 = false := by simp only [Program.isAggT, Try.underlying74]
theorem Ty.s74 : scalarT Try.prog 74 = false := by simp only [scalarT, Try.underlying74]
theorem Ty.z74 : Program.zeroOf Try.prog 74 = some (Value.slice none 0 0) := by kernel_rfl
def Ty.t74 := (And.intro Try.underlying74 (And.intro Ty.c74 (And.intro Ty.b74 (And.intro Ty.a74 (And.intro Ty.s74 Ty.z74)))))
theorem Ty.c106 : Program.cellsOf Try.prog 106 = 1 := by kernel_rfl
theorem Ty.b106 : Program.bytesOf Try.prog 106 = 24 := by kernel_rfl
theorem Ty.a106 : Program.isAggT Try.prog 106 = false := by simp only [Program.isAggT, Try.underlying106]
theorem Ty.s106 : scalarT Try.prog 106 = false := by simp only [scalarT, Try.underlying106]
theorem Ty.z106 : Program.zeroOf Try.prog 106 = some (Value.slice none 0 0) := by kernel_rfl
def Ty.t106 := (And.intro Try.underlying106 (And.intro Ty.c106 (And.intro Ty.b106 (And.intro Ty.a106 (And.intro Ty.s106 Ty.z106)))))
theorem Ty.c111 : Program.cellsOf Try.prog 111 = 1 := by kernel_rfl
theorem Ty.b111 : Program.bytesOf Try.prog 111 = 8 := by kernel_rfl
theorem Ty.a111 : Program.isAggT Try.prog 111 = false := by simp only [Program.isAggT, Try.underlying111]
theorem Ty.s111 : scalarT Try.prog 111 = true := by simp only [scalarT, Try.underlying111]
theorem Ty.z111 : Program.zeroOf Try.prog 111 = some (Value.int .u64 0) := by kernel_rfl
def Ty.t111 := (And.intro Try.underlying111 (And.intro Ty.c111 (And.intro Ty.b111 (And.intro Ty.a111 (And.intro Ty.s111 Ty.z111)))))
theorem Ty.c120 : Program.cellsOf Try.prog 120 = 1 := by kernel_rfl
theorem Ty.b120 : Program.bytesOf Try.prog 120 = 8 := by kernel_rfl
theorem Ty.a120 : Program.isAggT Try.prog 120 = false := by simp only [Program.isAggT, Try.underlying120]
theorem Ty.s120 : scalarT Try.prog 120 = true := by simp only [scalarT, Try.underlying120]
theorem Ty.z120 : Program.zeroOf Try.prog 120 = some (Value.int .i64 0) := by kernel_rfl
def Ty.t120 := (And.intro Try.underlying120 (And.intro Ty.c120 (And.intro Ty.b120 (And.intro Ty.a120 (And.intro Ty.s120 Ty.z120)))))
theorem Ty.c128 : Program.cellsOf Try.prog 128 = 1 := by kernel_rfl
theorem Ty.b128 : Program.bytesOf Try.prog 128 = 8 := by kernel_rfl
theorem Ty.a128 : Program.isAggT Try.prog 128 = false := by simp only [Program.isAggT, Try.underlying128]
theorem Ty.s128 : scalarT Try.prog 128 = true := by simp only [scalarT, Try.underlying128]
theorem Ty.z128 : Program.zeroOf Try.prog 128 = some (Value.int .u64 0) := by kernel_rfl
def Ty.t128 := (And.intro Try.underlying128 (And.intro Ty.c128 (And.intro Ty.b128 (And.intro Ty.a128 (And.intro Ty.s128 Ty.z128)))))
theorem Ty.c132 : Program.cellsOf Try.prog 132 = 1 := by kernel_rfl
theorem Ty.b132 : Program.bytesOf Try.prog 132 = 8 := by kernel_rfl
theorem Ty.a132 : Program.isAggT Try.prog 132 = false := by simp only [Program.isAggT, Try.underlying132]
theorem Ty.s132 : scalarT Try.prog 132 = false := by simp only [scalarT, Try.underlying132]
theorem Ty.z132 : Program.zeroOf Try.prog 132 = some (Value.pointer none) := by kernel_rfl
def Ty.t132 := (And.intro Try.underlying132 (And.intro Ty.c132 (And.intro Ty.b132 (And.intro Ty.a132 (And.intro Ty.s132 Ty.z132)))))
end Go.Proofs.Ytbameklegpgkfaa
