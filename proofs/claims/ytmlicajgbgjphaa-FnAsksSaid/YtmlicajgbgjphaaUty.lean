/- Facts about types. No condition. -/
import Derived.Test.YtmlicajgbgjphaaChecked
import Derived.Test.YtmlicajgbgjphaaUmF
set_option linter.unusedSimpArgs false
set_option linter.unusedVariables false
set_option linter.defProp false
namespace Go.Proofs.Ytmlicajgbgjphaa
open Go Go.Vm

theorem Ty.c3 : Program.cellsOf Try.prog 3 = 1 := by kernel_rfl
theorem Ty.b3 : Program.bytesOf Try.prog 3 = 8 := by kernel_rfl
theorem Ty.a3 : Program.isAggT Try.prog 3 = false := by simp only [Program.isAggT, Try.underlying3]
theorem Ty.s3 : scalarT Try.prog 3 = true := by simp only [scalarT, Try.underlying3]
theorem Ty.z3 : Program.zeroOf Try.prog 3 = some (Value.int .i64 0) := by kernel_rfl
def Ty.t3 := (And.intro Try.underlying3 (And.intro Ty.c3 (And.intro Ty.b3 (And.intro Ty.a3 (And.intro Ty.s3 Ty.z3)))))
theorem Ty.c4 : Program.cellsOf Try.prog 4 = 1 := by kernel_rfl
theorem Ty.b4 : Program.bytesOf Try.prog 4 = 1 := by kernel_rfl
theorem Ty.a4 : Program.isAggT Try.prog 4 = false := by simp only [Program.isAggT, Try.underlying4]
theorem Ty.s4 : scalarT Try.prog 4 = true := by simp only [scalarT, Try.underlying4]
theorem Ty.z4 : Program.zeroOf Try.prog 4 = some (Value.bool false) := by kernel_rfl
def Ty.t4 := (And.intro Try.underlying4 (And.intro Ty.c4 (And.intro Ty.b4 (And.intro Ty.a4 (And.intro Ty.s4 Ty.z4)))))
theorem Ty.c5 : Program.cellsOf Try.prog 5 = 1 := by kernel_rfl
theorem Ty.b5 : Program.bytesOf Try.prog 5 = 1 := by kernel_rfl
theorem Ty.a5 : Program.isAggT Try.prog 5 = false := by simp only [Program.isAggT, Try.underlying5]
theorem Ty.s5 : scalarT Try.prog 5 = true := by simp only [scalarT, Try.underlying5]
theorem Ty.z5 : Program.zeroOf Try.prog 5 = some (Value.int .u8 0) := by kernel_rfl
def Ty.t5 := (And.intro Try.underlying5 (And.intro Ty.c5 (And.intro Ty.b5 (And.intro Ty.a5 (And.intro Ty.s5 Ty.z5)))))
theorem Ty.c9 : Program.cellsOf Try.prog 9 = 1 := by kernel_rfl
theorem Ty.b9 : Program.bytesOf Try.prog 9 = 16 := by kernel_rfl
theorem Ty.a9 : Program.isAggT Try.prog 9 = false := by simp only [Program.isAggT, Try.underlying9]
theorem Ty.s9 : scalarT Try.prog 9 = true := by simp only [scalarT, Try.underlying9]
theorem Ty.z9 : Program.zeroOf Try.prog 9 = some (Value.string .empty) := by kernel_rfl
def Ty.t9 := (And.intro Try.underlying9 (And.intro Ty.c9 (And.intro Ty.b9 (And.intro Ty.a9 (And.intro Ty.s9 Ty.z9)))))
theorem Ty.c22 : Program.cellsOf Try.prog 22 = 1 := by kernel_rfl
theorem Ty.b22 : Program.bytesOf Try.prog 22 = 24 := by kernel_rfl
theorem Ty.a22 : Program.isAggT Try.prog 22 = false := by simp only [Program.isAggT, Try.underlying22]
theorem Ty.s22 : scalarT Try.prog 22 = false := by simp only [scalarT, Try.underlying22]
theorem Ty.z22 : Program.zeroOf Try.prog 22 = some (Value.slice none 0 0) := by kernel_rfl
def Ty.t22 := (And.intro Try.underlying22 (And.intro Ty.c22 (And.intro Ty.b22 (And.intro Ty.a22 (And.intro Ty.s22 Ty.z22)))))
theorem Ty.c24 : Program.cellsOf Try.prog 24 = 2 := by kernel_rfl
theorem Ty.b24 : Program.bytesOf Try.prog 24 = 16 := by kernel_rfl
theorem Ty.a24 : Program.isAggT Try.prog 24 = true := by simp only [Program.isAggT, Try.underlying24]
theorem Ty.s24 : scalarT Try.prog 24 = false := by simp only [scalarT, Try.underlying24]
theorem Ty.z24 : Program.zeroOf Try.prog 24 = some (Value.agg #[Value.int .i64 0, Value.int .i64 0]) := by kernel_rfl
theorem Ty.q24 : eqT Try.prog 24 = some [.int .i64, .int .i64] := by kernel_rfl
def Ty.t24 := (And.intro Try.underlying24 (And.intro Ty.c24 (And.intro Ty.b24 (And.intro Ty.a24 (And.intro Ty.s24 (And.intro Ty.q24 Ty.z24))))))
theorem Ty.c25 : Program.cellsOf Try.prog 25 = 1 := by kernel_rfl
theorem Ty.b25 : Program.bytesOf Try.prog 25 = 24 := by kernel_rfl
theorem Ty.a25 : Program.isAggT Try.prog 25 = false := by simp only [Program.isAggT, Try.underlying25]
theorem Ty.s25 : scalarT Try.prog 25 = false := by simp only [scalarT, Try.underlying25]
theorem Ty.z25 : Program.zeroOf Try.prog 25 = some (Value.slice none 0 0) := by kernel_rfl
def Ty.t25 := (And.intro Try.underlying25 (And.intro Ty.c25 (And.intro Ty.b25 (And.intro Ty.a25 (And.intro Ty.s25 Ty.z25)))))
theorem Ty.c28 : Program.cellsOf Try.prog 28 = 1 := by kernel_rfl
theorem Ty.b28 : Program.bytesOf Try.prog 28 = 24 := by kernel_rfl
theorem Ty.a28 : Program.isAggT Try.prog 28 = false := by simp only [Program.isAggT, Try.underlying28]
theorem Ty.s28 : scalarT Try.prog 28 = false := by simp only [scalarT, Try.underlying28]
theorem Ty.z28 : Program.zeroOf Try.prog 28 = some (Value.slice none 0 0) := by kernel_rfl
def Ty.t28 := (And.intro Try.underlying28 (And.intro Ty.c28 (And.intro Ty.b28 (And.intro Ty.a28 (And.intro Ty.s28 Ty.z28)))))
theorem Ty.c31 : Program.cellsOf Try.prog 31 = 1 := by kernel_rfl
theorem Ty.b31 : Program.bytesOf Try.prog 31 = 24 := by kernel_rfl
theorem Ty.a31 : Program.isAggT Try.prog 31 = false := by simp only [Program.isAggT, Try.underlying31]
theorem Ty.s31 : scalarT Try.prog 31 = false := by simp only [scalarT, Try.underlying31]
theorem Ty.z31 : Program.zeroOf Try.prog 31 = some (Value.slice none 0 0) := by kernel_rfl
def Ty.t31 := (And.intro Try.underlying31 (And.intro Ty.c31 (And.intro Ty.b31 (And.intro Ty.a31 (And.intro Ty.s31 Ty.z31)))))
theorem Ty.c35 : Program.cellsOf Try.prog 35 = 3 := by kernel_rfl
theorem Ty.b35 : Program.bytesOf Try.prog 35 = 24 := by kernel_rfl
theorem Ty.a35 : Program.isAggT Try.prog 35 = true := by simp only [Program.isAggT, Try.underlying35]
theorem Ty.s35 : scalarT Try.prog 35 = false := by simp only [scalarT, Try.underlying35]
theorem Ty.z35 : Program.zeroOf Try.prog 35 = some (Value.agg #[Value.int .i64 0, Value.int .i64 0, Value.int .i64 0]) := by kernel_rfl
theorem Ty.q35 : eqT Try.prog 35 = some [.int .i64, .int .i64, .int .i64] := by kernel_rfl
def Ty.t35 := (And.intro Try.underlying35 (And.intro Ty.c35 (And.intro Ty.b35 (And.intro Ty.a35 (And.intro Ty.s35 (And.intro Ty.q35 Ty.z35))))))
theorem Ty.c43 : Program.cellsOf Try.prog 43 = 1 := by kernel_rfl
theorem Ty.b43 : Program.bytesOf Try.prog 43 = 24 := by kernel_rfl
theorem Ty.a43 : Program.isAggT Try.prog 43 = false := by simp only [Program.isAggT, Try.underlying43]
theorem Ty.s43 : scalarT Try.prog 43 = false := by simp only [scalarT, Try.underlying43]
theorem Ty.z43 : Program.zeroOf Try.prog 43 = some (Value.slice none 0 0) := by kernel_rfl
def Ty.t43 := (And.intro Try.underlying43 (And.intro Ty.c43 (And.intro Ty.b43 (And.intro Ty.a43 (And.intro Ty.s43 Ty.z43)))))
theorem Ty.c44 : Program.cellsOf Try.prog 44 = 1 := by kernel_rfl
theorem Ty.b44 : Program.bytesOf Try.prog 44 = 24 := by kernel_rfl
theorem Ty.a44 : Program.isAggT Try.prog 44 = false := by simp only [Program.isAggT, Try.underlying44]
theorem Ty.s44 : scalarT Try.prog 44 = false := by simp only [scalarT, Try.underlying44]
theorem Ty.z44 : Program.zeroOf Try.prog 44 = some (Value.slice none 0 0) := by kernel_rfl
def Ty.t44 := (And.intro Try.underlying44 (And.intro Ty.c44 (And.intro Ty.b44 (And.intro Ty.a44 (And.intro Ty.s44 Ty.z44)))))
theorem Ty.c62 : Program.cellsOf Try.prog 62 = 2 := by kernel_rfl
theorem Ty.b62 : Program.bytesOf Try.prog 62 = 16 := by kernel_rfl
theorem Ty.a62 : Program.isAggT Try.prog 62 = true := by simp only [Program.isAggT, Try.underlying62]
theorem Ty.s62 : scalarT Try.prog 62 = false := by simp only [scalarT, Try.underlying62]
theorem Ty.z62 : Program.zeroOf Try.prog 62 = some (Value.agg #[Value.int .i64 0, Value.int .i64 0]) := by kernel_rfl
theorem Ty.q62 : eqT Try.prog 62 = some [.int .i64, .int .i64] := by kernel_rfl
def Ty.t62 := (And.intro Try.underlying62 (And.intro Ty.c62 (And.intro Ty.b62 (And.intro Ty.a62 (And.intro Ty.s62 (And.intro Ty.q62 Ty.z62))))))
theorem Ty.c64 : Program.cellsOf Try.prog 64 = 4 := by kernel_rfl
theorem Ty.b64 : Program.bytesOf Try.prog 64 = 32 := by kernel_rfl
theorem Ty.a64 : Program.isAggT Try.prog 64 = true := by simp only [Program.isAggT, Try.underlying64]
theorem Ty.s64 : scalarT Try.prog 64 = false := by simp only [scalarT, Try.underlying64]
theorem Ty.z64 : Program.zeroOf Try.prog 64 = some (Value.agg #[Value.int .i64 0, Value.int .i64 0, Value.int .i64 0, Value.bool false]) := by kernel_rfl
theorem Ty.q64 : eqT Try.prog 64 = some [.int .i64, .int .i64, .int .i64, .bool] := by kernel_rfl
def Ty.t64 := (And.intro Try.underlying64 (And.intro Ty.c64 (And.intro Ty.b64 (And.intro Ty.a64 (And.intro Ty.s64 (And.intro Ty.q64 Ty.z64))))))
theorem Ty.c65 : Program.cellsOf Try.prog 65 = 1 := by kernel_rfl
theorem Ty.b65 : Program.bytesOf Try.prog 65 = 24 := by kernel_rfl
theorem Ty.a65 : Program.isAggT Try.prog 65 = false := by simp only [Program.isAggT, Try.underlying65]
theorem Ty.s65 : scalarT Try.prog 65 = false := by simp only [scalarT, Try.underlying65]
theorem Ty.z65 : Program.zeroOf Try.prog 65 = some (Value.slice none 0 0) := by kernel_rfl
def Ty.t65 := (And.intro Try.underlying65 (And.intro Ty.c65 (And.intro Ty.b65 (And.intro Ty.a65 (And.intro Ty.s65 Ty.z65)))))
theorem Ty.c71 : Program.cellsOf Try.prog 71 = 2 := by kernel_rfl
theorem Ty.b71 : Program.bytesOf Try.prog 71 = 40 := by kernel_rfl
theorem Ty.a71 : Program.isAggT Try.prog 71 = true := by simp only [Program.isAggT, Try.underlying71]
theorem Ty.s71 : scalarT Try.prog 71 = false := by simp only [scalarT, Try.underlying71]
theorem Ty.z71 : Program.zeroOf Try.prog 71 = some (Value.agg #[Value.string .empty, Value.slice none 0 0]) := by kernel_rfl
def Ty.t71 := (And.intro Try.underlying71 (And.intro Ty.c71 (And.intro Ty.b71 (And.intro Ty.a71 (And.intro Ty.s71 Ty.z71)))))
theorem Ty.c80 : Program.cellsOf Try.prog 80 = 3 := by kernel_rfl
theorem Ty.b80 : Program.bytesOf Try.prog 80 = 32 := by kernel_rfl
theorem Ty.a80 : Program.isAggT Try.prog 80 = true := by simp only [Program.isAggT, Try.underlying80]
theorem Ty.s80 : scalarT Try.prog 80 = false := by simp only [scalarT, Try.underlying80]
theorem Ty.z80 : Program.zeroOf Try.prog 80 = some (Value.agg #[Value.string .empty, Value.int .i64 0, Value.int .i64 0]) := by kernel_rfl
theorem Ty.q80 : eqT Try.prog 80 = some [.str, .int .i64, .int .i64] := by kernel_rfl
def Ty.t80 := (And.intro Try.underlying80 (And.intro Ty.c80 (And.intro Ty.b80 (And.intro Ty.a80 (And.intro Ty.s80 (And.intro Ty.q80 Ty.z80))))))
theorem Ty.c82 : Program.cellsOf Try.prog 82 = 1 := by kernel_rfl
theorem Ty.b82 : Program.bytesOf Try.prog 82 = 24 := by kernel_rfl
theorem Ty.a82 : Program.isAggT Try.prog 82 = false := by simp only [Program.isAggT, Try.underlying82]
theorem Ty.s82 : scalarT Try.prog 82 = false := by simp only [scalarT, Try.underlying82]
theorem Ty.z82 : Program.zeroOf Try.prog 82 = some (Value.slice none 0 0) := by kernel_rfl
def Ty.t82 := (And.intro Try.underlying82 (And.intro Ty.c82 (And.intro Ty.b82 (And.intro Ty.a82 (And.intro Ty.s82 Ty.z82)))))
theorem Ty.c84 : Program.cellsOf Try.prog 84 = 1 := by kernel_rfl
theorem Ty.b84 : Program.bytesOf Try.prog 84 = 24 := by kernel_rfl
theorem Ty.a84 : Program.isAggT Try.prog 84 = false := by simp only [Program.isAggT, Try.underlying84]
theorem Ty.s84 : scalarT Try.prog 84 = false := by simp only [scalarT, Try.underlying84]
theorem Ty.z84 : Program.zeroOf Try.prog 84 = some (Value.slice none 0 0) := by kernel_rfl
def Ty.t84 := (And.intro Try.underlying84 (And.intro Ty.c84 (And.intro Ty.b84 (And.intro Ty.a84 (And.intro Ty.s84 Ty.z84)))))
theorem Ty.c87 : Program.cellsOf Try.prog 87 = 1 := by kernel_rfl
theorem Ty.b87 : Program.bytesOf Try.prog 87 = 24 := by kernel_rfl
theorem Ty.a87 : Program.isAggT Try.prog 87 = false := by simp only [Program.isAggT, Try.underlying87]
theorem Ty.s87 : scalarT Try.prog 87 = false := by simp only [scalarT, Try.underlying87]
theorem Ty.z87 : Program.zeroOf Try.prog 87 = some (Value.slice none 0 0) := by kernel_rfl
def Ty.t87 := (And.intro Try.underlying87 (And.intro Ty.c87 (And.intro Ty.b87 (And.intro Ty.a87 (And.intro Ty.s87 Ty.z87)))))
theorem Ty.c97 : Program.cellsOf Try.prog 97 = 5 := by kernel_rfl
theorem Ty.b97 : Program.bytesOf Try.prog 97 = 40 := by kernel_rfl
theorem Ty.a97 : Program.isAggT Try.prog 97 = true := by simp only [Program.isAggT, Try.underlying97]
theorem Ty.s97 : scalarT Try.prog 97 = false := by simp only [scalarT, Try.underlying97]
theorem Ty.z97 : Program.zeroOf Try.prog 97 = some (Value.agg #[Value.int .i64 0, Value.int .i64 0, Value.int .i64 0, Value.int .i64 0, Value.int .i64 0]) := by kernel_rfl
theorem Ty.q97 : eqT Try.prog 97 = some [.int .i64, .int .i64, .int .i64, .int .i64, .int .i64] := by kernel_rfl
def Ty.t97 := (And.intro Try.underlying97 (And.intro Ty.c97 (And.intro Ty.b97 (And.intro Ty.a97 (And.intro Ty.s97 (And.intro Ty.q97 Ty.z97))))))
theorem Ty.c104 : Program.cellsOf Try.prog 104 = 3 := by kernel_rfl
theorem Ty.b104 : Program.bytesOf Try.prog 104 = 24 := by kernel_rfl
theorem Ty.a104 : Program.isAggT Try.prog 104 = true := by simp only [Program.isAggT, Try.underlying104]
theorem Ty.s104 : scalarT Try.prog 104 = false := by simp only [scalarT, Try.underlying104]
theorem Ty.z104 : Program.zeroOf Try.prog 104 = some (Value.agg #[Value.int .i64 0, Value.int .i64 0, Value.int .i64 0]) := by kernel_rfl
theorem Ty.q104 : eqT Try.prog 104 = some [.int .i64, .int .i64, .int .i64] := by kernel_rfl
def Ty.t104 := (And.intro Try.underlying104 (And.intro Ty.c104 (And.intro Ty.b104 (And.intro Ty.a104 (And.intro Ty.s104 (And.intro Ty.q104 Ty.z104))))))
theorem Ty.c117 : Program.cellsOf Try.prog 117 = 1 := by kernel_rfl
theorem Ty.b117 : Program.bytesOf Try.prog 117 = 8 := by kernel_rfl
theorem Ty.a117 : Program.isAggT Try.prog 117 = false := by simp only [Program.isAggT, Try.underlying117]
theorem Ty.s117 : scalarT Try.prog 117 = false := by simp only [scalarT, Try.underlying117]
theorem Ty.z117 : Program.zeroOf Try.prog 117 = some (Value.pointer none) := by kernel_rfl
def Ty.t117 := (And.intro Try.underlying117 (And.intro Ty.c117 (And.intro Ty.b117 (And.intro Ty.a117 (And.intro Ty.s117 Ty.z117)))))
theorem Ty.c118 : Program.cellsOf Try.prog 118 = 1 := by kernel_rfl
theorem Ty.b118 : Program.bytesOf Try.prog 118 = 8 := by kernel_rfl
theorem Ty.a118 : Program.isAggT Try.prog 118 = false := by simp only [Program.isAggT, Try.underlying118]
theorem Ty.s118 : scalarT Try.prog 118 = true := by simp only [scalarT, Try.underlying118]
theorem Ty.z118 : Program.zeroOf Try.prog 118 = some (Value.int .u64 0) := by kernel_rfl
def Ty.t118 := (And.intro Try.underlying118 (And.intro Ty.c118 (And.intro Ty.b118 (And.intro Ty.a118 (And.intro Ty.s118 Ty.z118)))))
theorem Ty.c120 : Program.cellsOf Try.prog 120 = 3 := by kernel_rfl
theorem Ty.b120 : Program.bytesOf Try.prog 120 = 40 := by kernel_rfl
theorem Ty.a120 : Program.isAggT Try.prog 120 = true := by simp only [Program.isAggT, Try.underlying120]
theorem Ty.s120 : scalarT Try.prog 120 = false := by simp only [scalarT, Try.underlying120]
theorem Ty.z120 : Program.zeroOf Try.prog 120 = some (Value.agg #[Value.slice none 0 0, Value.int .i64 0, Value.int .u64 0]) := by kernel_rfl
def Ty.t120 := (And.intro Try.underlying120 (And.intro Ty.c120 (And.intro Ty.b120 (And.intro Ty.a120 (And.intro Ty.s120 Ty.z120)))))
theorem Ty.c145 : Program.cellsOf Try.prog 145 = 1 := by kernel_rfl
theorem Ty.b145 : Program.bytesOf Try.prog 145 = 24 := by kernel_rfl
theorem Ty.a145 : Program.isAggT Try.prog 145 = false := by simp only [Program.isAggT, Try.underlying145]
theorem Ty.s145 : scalarT Try.prog 145 = false := by simp only [scalarT, Try.underlying145]
theorem Ty.z145 : Program.zeroOf Try.prog 145 = some (Value.slice none 0 0) := by kernel_rfl
def Ty.t145 := (And.intro Try.underlying145 (And.intro Ty.c145 (And.intro Ty.b145 (And.intro Ty.a145 (And.intro Ty.s145 Ty.z145)))))
theorem Ty.c188 : Program.cellsOf Try.prog 188 = 1 := by kernel_rfl
theorem Ty.b188 : Program.bytesOf Try.prog 188 = 8 := by kernel_rfl
theorem Ty.a188 : Program.isAggT Try.prog 188 = false := by simp only [Program.isAggT, Try.underlying188]
theorem Ty.s188 : scalarT Try.prog 188 = true := by simp only [scalarT, Try.underlying188]
theorem Ty.z188 : Program.zeroOf Try.prog 188 = some (Value.int .u64 0) := by kernel_rfl
def Ty.t188 := (And.intro Try.underlying188 (And.intro Ty.c188 (And.intro Ty.b188 (And.intro Ty.a188 (And.intro Ty.s188 Ty.z188)))))
theorem Ty.c208 : Program.cellsOf Try.prog 208 = 1 := by kernel_rfl
theorem Ty.b208 : Program.bytesOf Try.prog 208 = 8 := by kernel_rfl
theorem Ty.a208 : Program.isAggT Try.prog 208 = false := by simp only [Program.isAggT, Try.underlying208]
theorem Ty.s208 : scalarT Try.prog 208 = true := by simp only [scalarT, Try.underlying208]
theorem Ty.z208 : Program.zeroOf Try.prog 208 = some (Value.int .i64 0) := by kernel_rfl
def Ty.t208 := (And.intro Try.underlying208 (And.intro Ty.c208 (And.intro Ty.b208 (And.intro Ty.a208 (And.intro Ty.s208 Ty.z208)))))
theorem Ty.c217 : Program.cellsOf Try.prog 217 = 1 := by kernel_rfl
theorem Ty.b217 : Program.bytesOf Try.prog 217 = 8 := by kernel_rfl
theorem Ty.a217 : Program.isAggT Try.prog 217 = false := by simp only [Program.isAggT, Try.underlying217]
theorem Ty.s217 : scalarT Try.prog 217 = true := by simp only [scalarT, Try.underlying217]
theorem Ty.z217 : Program.zeroOf Try.prog 217 = some (Value.int .u64 0) := by kernel_rfl
def Ty.t217 := (And.intro Try.underlying217 (And.intro Ty.c217 (And.intro Ty.b217 (And.intro Ty.a217 (And.intro Ty.s217 Ty.z217)))))
theorem Ty.c221 : Program.cellsOf Try.prog 221 = 1 := by kernel_rfl
theorem Ty.b221 : Program.bytesOf Try.prog 221 = 8 := by kernel_rfl
theorem Ty.a221 : Program.isAggT Try.prog 221 = false := by simp only [Program.isAggT, Try.underlying221]
theorem Ty.s221 : scalarT Try.prog 221 = false := by simp only [scalarT, Try.underlying221]
theorem Ty.z221 : Program.zeroOf Try.prog 221 = some (Value.pointer none) := by kernel_rfl
def Ty.t221 := (And.intro Try.underlying221 (And.intro Ty.c221 (And.intro Ty.b221 (And.intro Ty.a221 (And.intro Ty.s221 Ty.z221)))))
end Go.Proofs.Ytmlicajgbgjphaa
