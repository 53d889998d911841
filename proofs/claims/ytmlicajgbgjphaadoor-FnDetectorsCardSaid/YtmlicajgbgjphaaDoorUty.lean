/- Facts about types. No condition. -/
import Derived.Test.YtmlicajgbgjphaaDoorChecked
import Derived.Test.YtmlicajgbgjphaaDoorUmF
set_option linter.unusedSimpArgs false
set_option linter.unusedVariables false
set_option linter.defProp false
namespace Go.Proofs.YtmlicajgbgjphaaDoor
open Go Go.Vm

theorem Ty.c3 : Program.cellsOf Tryd.prog 3 = 1 := by kernel_rfl
theorem Ty.b3 : Program.bytesOf Tryd.prog 3 = 8 := by kernel_rfl
theorem Ty.a3 : Program.isAggT Tryd.prog 3 = false := by simp only [Program.isAggT, Tryd.underlying3]
theorem Ty.s3 : scalarT Tryd.prog 3 = true := by simp only [scalarT, Tryd.underlying3]
theorem Ty.z3 : Program.zeroOf Tryd.prog 3 = some (Value.int .i64 0) := by kernel_rfl
def Ty.t3 := (And.intro Tryd.underlying3 (And.intro Ty.c3 (And.intro Ty.b3 (And.intro Ty.a3 (And.intro Ty.s3 Ty.z3)))))
theorem Ty.c4 : Program.cellsOf Tryd.prog 4 = 1 := by kernel_rfl
theorem Ty.b4 : Program.bytesOf Tryd.prog 4 = 1 := by kernel_rfl
theorem Ty.a4 : Program.isAggT Tryd.prog 4 = false := by simp only [Program.isAggT, Tryd.underlying4]
theorem Ty.s4 : scalarT Tryd.prog 4 = true := by simp only [scalarT, Tryd.underlying4]
theorem Ty.z4 : Program.zeroOf Tryd.prog 4 = some (Value.bool false) := by kernel_rfl
def Ty.t4 := (And.intro Tryd.underlying4 (And.intro Ty.c4 (And.intro Ty.b4 (And.intro Ty.a4 (And.intro Ty.s4 Ty.z4)))))
theorem Ty.c5 : Program.cellsOf Tryd.prog 5 = 1 := by kernel_rfl
theorem Ty.b5 : Program.bytesOf Tryd.prog 5 = 1 := by kernel_rfl
theorem Ty.a5 : Program.isAggT Tryd.prog 5 = false := by simp only [Program.isAggT, Tryd.underlying5]
theorem Ty.s5 : scalarT Tryd.prog 5 = true := by simp only [scalarT, Tryd.underlying5]
theorem Ty.z5 : Program.zeroOf Tryd.prog 5 = some (Value.int .u8 0) := by kernel_rfl
def Ty.t5 := (And.intro Tryd.underlying5 (And.intro Ty.c5 (And.intro Ty.b5 (And.intro Ty.a5 (And.intro Ty.s5 Ty.z5)))))
theorem Ty.c9 : Program.cellsOf Tryd.prog 9 = 1 := by kernel_rfl
theorem Ty.b9 : Program.bytesOf Tryd.prog 9 = 16 := by kernel_rfl
theorem Ty.a9 : Program.isAggT Tryd.prog 9 = false := by simp only [Program.isAggT, Tryd.underlying9]
theorem Ty.s9 : scalarT Tryd.prog 9 = true := by simp only [scalarT, Tryd.underlying9]
theorem Ty.z9 : Program.zeroOf Tryd.prog 9 = some (Value.string .empty) := by kernel_rfl
def Ty.t9 := (And.intro Tryd.underlying9 (And.intro Ty.c9 (And.intro Ty.b9 (And.intro Ty.a9 (And.intro Ty.s9 Ty.z9)))))
theorem Ty.c22 : Program.cellsOf Tryd.prog 22 = 1 := by kernel_rfl
theorem Ty.b22 : Program.bytesOf Tryd.prog 22 = 24 := by kernel_rfl
theorem Ty.a22 : Program.isAggT Tryd.prog 22 = false := by simp only [Program.isAggT, Tryd.underlying22]
theorem Ty.s22 : scalarT Tryd.prog 22 = false := by simp only [scalarT, Tryd.underlying22]
theorem Ty.z22 : Program.zeroOf Tryd.prog 22 = some (Value.slice none 0 0) := by kernel_rfl
def Ty.t22 := (And.intro Tryd.underlying22 (And.intro Ty.c22 (And.intro Ty.b22 (And.intro Ty.a22 (And.intro Ty.s22 Ty.z22)))))
theorem Ty.c26 : Program.cellsOf Tryd.prog 26 = 1 := by kernel_rfl
theorem Ty.b26 : Program.bytesOf Tryd.prog 26 = 24 := by kernel_rfl
theorem Ty.a26 : Program.isAggT Tryd.prog 26 = false := by simp only [Program.isAggT, Tryd.underlying26]
theorem Ty.s26 : scalarT Tryd.prog 26 = false := by simp only [scalarT, Tryd.underlying26]
theorem Ty.z26 : Program.zeroOf Tryd.prog 26 = some (Value.slice none 0 0) := by kernel_rfl
def Ty.t26 := (And.intro Tryd.underlying26 (And.intro Ty.c26 (And.intro Ty.b26 (And.intro Ty.a26 (And.intro Ty.s26 Ty.z26)))))
theorem Ty.c30 : Program.cellsOf Tryd.prog 30 = 1 := by kernel_rfl
theorem Ty.b30 : Program.bytesOf Tryd.prog 30 = 24 := by kernel_rfl
theorem Ty.a30 : Program.isAggT Tryd.prog 30 = false := by simp only [Program.isAggT, Tryd.underlying30]
theorem Ty.s30 : scalarT Tryd.prog 30 = false := by simp only [scalarT, Tryd.underlying30]
theorem Ty.z30 : Program.zeroOf Tryd.prog 30 = some (Value.slice none 0 0) := by kernel_rfl
def Ty.t30 := (And.intro Tryd.underlying30 (And.intro Ty.c30 (And.intro Ty.b30 (And.intro Ty.a30 (And.intro Ty.s30 Ty.z30)))))
theorem Ty.c33 : Program.cellsOf Tryd.prog 33 = 1 := by kernel_rfl
theorem Ty.b33 : Program.bytesOf Tryd.prog 33 = 24 := by kernel_rfl
theorem Ty.a33 : Program.isAggT Tryd.prog 33 = false := by simp only [Program.isAggT, Tryd.underlying33]
theorem Ty.s33 : scalarT Tryd.prog 33 = false := by simp only [scalarT, Tryd.underlying33]
theorem Ty.z33 : Program.zeroOf Tryd.prog 33 = some (Value.slice none 0 0) := by kernel_rfl
def Ty.t33 := (And.intro Tryd.underlying33 (And.intro Ty.c33 (And.intro Ty.b33 (And.intro Ty.a33 (And.intro Ty.s33 Ty.z33)))))
theorem Ty.c37 : Program.cellsOf Tryd.prog 37 = 1 := by kernel_rfl
theorem Ty.b37 : Program.bytesOf Tryd.prog 37 = 24 := by kernel_rfl
theorem Ty.a37 : Program.isAggT Tryd.prog 37 = false := by simp only [Program.isAggT, Tryd.underlying37]
theorem Ty.s37 : scalarT Tryd.prog 37 = false := by simp only [scalarT, Tryd.underlying37]
theorem Ty.z37 : Program.zeroOf Tryd.prog 37 = some (Value.slice none 0 0) := by kernel_rfl
def Ty.t37 := (And.intro Tryd.underlying37 (And.intro Ty.c37 (And.intro Ty.b37 (And.intro Ty.a37 (And.intro Ty.s37 Ty.z37)))))
theorem Ty.c43 : Program.cellsOf Tryd.prog 43 = 1 := by kernel_rfl
theorem Ty.b43 : Program.bytesOf Tryd.prog 43 = 24 := by kernel_rfl
theorem Ty.a43 : Program.isAggT Tryd.prog 43 = false := by simp only [Program.isAggT, Tryd.underlying43]
theorem Ty.s43 : scalarT Tryd.prog 43 = false := by simp only [scalarT, Tryd.underlying43]
theorem Ty.z43 : Program.zeroOf Tryd.prog 43 = some (Value.slice none 0 0) := by kernel_rfl
def Ty.t43 := (And.intro Tryd.underlying43 (And.intro Ty.c43 (And.intro Ty.b43 (And.intro Ty.a43 (And.intro Ty.s43 Ty.z43)))))
theorem Ty.c48 : Program.cellsOf Tryd.prog 48 = 1 := by kernel_rfl
theorem Ty.b48 : Program.bytesOf Tryd.prog 48 = 24 := by kernel_rfl
theorem Ty.a48 : Program.isAggT Tryd.prog 48 = false := by simp only [Program.isAggT, Tryd.underlying48]
theorem Ty.s48 : scalarT Tryd.prog 48 = false := by simp only [scalarT, Tryd.underlying48]
theorem Ty.z48 : Program.zeroOf Tryd.prog 48 = some (Value.slice none 0 0) := by kernel_rfl
def Ty.t48 := (And.intro Tryd.underlying48 (And.intro Ty.c48 (And.intro Ty.b48 (And.intro Ty.a48 (And.intro Ty.s48 Ty.z48)))))
theorem Ty.c51 : Program.cellsOf Tryd.prog 51 = 1 := by kernel_rfl
theorem Ty.b51 : Program.bytesOf Tryd.prog 51 = 24 := by kernel_rfl
theorem Ty.a51 : Program.isAggT Tryd.prog 51 = false := by simp only [Program.isAggT, Tryd.underlying51]
theorem Ty.s51 : scalarT Tryd.prog 51 = false := by simp only [scalarT, Tryd.underlying51]
theorem Ty.z51 : Program.zeroOf Tryd.prog 51 = some (Value.slice none 0 0) := by kernel_rfl
def Ty.t51 := (And.intro Tryd.underlying51 (And.intro Ty.c51 (And.intro Ty.b51 (And.intro Ty.a51 (And.intro Ty.s51 Ty.z51)))))
theorem Ty.c61 : Program.cellsOf Tryd.prog 61 = 4 := by kernel_rfl
theorem Ty.b61 : Program.bytesOf Tryd.prog 61 = 32 := by kernel_rfl
theorem Ty.a61 : Program.isAggT Tryd.prog 61 = true := by simp only [Program.isAggT, Tryd.underlying61]
theorem Ty.s61 : scalarT Tryd.prog 61 = false := by simp only [scalarT, Tryd.underlying61]
theorem Ty.z61 : Program.zeroOf Tryd.prog 61 = some (Value.agg #[Value.int .i64 0, Value.int .i64 0, Value.int .i64 0, Value.bool false]) := by kernel_rfl
theorem Ty.q61 : eqT Tryd.prog 61 = some [.int .i64, .int .i64, .int .i64, .bool] := by kernel_rfl
def Ty.t61 := (And.intro Tryd.underlying61 (And.intro Ty.c61 (And.intro Ty.b61 (And.intro Ty.a61 (And.intro Ty.s61 (And.intro Ty.q61 Ty.z61))))))
theorem Ty.c65 : Program.cellsOf Tryd.prog 65 = 2 := by kernel_rfl
theorem Ty.b65 : Program.bytesOf Tryd.prog 65 = 16 := by kernel_rfl
theorem Ty.a65 : Program.isAggT Tryd.prog 65 = true := by simp only [Program.isAggT, Tryd.underlying65]
theorem Ty.s65 : scalarT Tryd.prog 65 = false := by simp only [scalarT, Tryd.underlying65]
theorem Ty.z65 : Program.zeroOf Tryd.prog 65 = some (Value.agg #[Value.int .i64 0, Value.int .i64 0]) := by kernel_rfl
theorem Ty.q65 : eqT Tryd.prog 65 = some [.int .i64, .int .i64] := by kernel_rfl
def Ty.t65 := (And.intro Tryd.underlying65 (And.intro Ty.c65 (And.intro Ty.b65 (And.intro Ty.a65 (And.intro Ty.s65 (And.intro Ty.q65 Ty.z65))))))
theorem Ty.c68 : Program.cellsOf Tryd.prog 68 = 1 := by kernel_rfl
theorem Ty.b68 : Program.bytesOf Tryd.prog 68 = 24 := by kernel_rfl
theorem Ty.a68 : Program.isAggT Tryd.prog 68 = false := by simp only [Program.isAggT, Tryd.underlying68]
theorem Ty.s68 : scalarT Tryd.prog 68 = false := by simp only [scalarT, Tryd.underlying68]
theorem Ty.z68 : Program.zeroOf Tryd.prog 68 = some (Value.slice none 0 0) := by kernel_rfl
def Ty.t68 := (And.intro Tryd.underlying68 (And.intro Ty.c68 (And.intro Ty.b68 (And.intro Ty.a68 (And.intro Ty.s68 Ty.z68)))))
theorem Ty.c70 : Program.cellsOf Tryd.prog 70 = 2 := by kernel_rfl
theorem Ty.b70 : Program.bytesOf Tryd.prog 70 = 40 := by kernel_rfl
theorem Ty.a70 : Program.isAggT Tryd.prog 70 = true := by simp only [Program.isAggT, Tryd.underlying70]
theorem Ty.s70 : scalarT Tryd.prog 70 = false := by simp only [scalarT, Tryd.underlying70]
theorem Ty.z70 : Program.zeroOf Tryd.prog 70 = some (Value.agg #[Value.string .empty, Value.slice none 0 0]) := by kernel_rfl
def Ty.t70 := (And.intro Tryd.underlying70 (And.intro Ty.c70 (And.intro Ty.b70 (And.intro Ty.a70 (And.intro Ty.s70 Ty.z70)))))
theorem Ty.c71 : Program.cellsOf Tryd.prog 71 = 1 := by kernel_rfl
theorem Ty.b71 : Program.bytesOf Tryd.prog 71 = 24 := by kernel_rfl
theorem Ty.a71 : Program.isAggT Tryd.prog 71 = false := by simp only [Program.isAggT, Tryd.underlying71]
theorem Ty.s71 : scalarT Tryd.prog 71 = false := by simp only [scalarT, Tryd.underlying71]
theorem Ty.z71 : Program.zeroOf Tryd.prog 71 = some (Value.slice none 0 0) := by kernel_rfl
def Ty.t71 := (And.intro Tryd.underlying71 (And.intro Ty.c71 (And.intro Ty.b71 (And.intro Ty.a71 (And.intro Ty.s71 Ty.z71)))))
theorem Ty.c80 : Program.cellsOf Tryd.prog 80 = 1 := by kernel_rfl
theorem Ty.b80 : Program.bytesOf Tryd.prog 80 = 24 := by kernel_rfl
theorem Ty.a80 : Program.isAggT Tryd.prog 80 = false := by simp only [Program.isAggT, Tryd.underlying80]
theorem Ty.s80 : scalarT Tryd.prog 80 = false := by simp only [scalarT, Tryd.underlying80]
theorem Ty.z80 : Program.zeroOf Tryd.prog 80 = some (Value.slice none 0 0) := by kernel_rfl
def Ty.t80 := (And.intro Tryd.underlying80 (And.intro Ty.c80 (And.intro Ty.b80 (And.intro Ty.a80 (And.intro Ty.s80 Ty.z80)))))
theorem Ty.c100 : Program.cellsOf Tryd.prog 100 = 3 := by kernel_rfl
theorem Ty.b100 : Program.bytesOf Tryd.prog 100 = 32 := by kernel_rfl
theorem Ty.a100 : Program.isAggT Tryd.prog 100 = true := by simp only [Program.isAggT, Tryd.underlying100]
theorem Ty.s100 : scalarT Tryd.prog 100 = false := by simp only [scalarT, Tryd.underlying100]
theorem Ty.z100 : Program.zeroOf Tryd.prog 100 = some (Value.agg #[Value.string .empty, Value.int .i64 0, Value.int .i64 0]) := by kernel_rfl
theorem Ty.q100 : eqT Tryd.prog 100 = some [.str, .int .i64, .int .i64] := by kernel_rfl
def Ty.t100 := (And.intro Tryd.underlying100 (And.intro Ty.c100 (And.intro Ty.b100 (And.intro Ty.a100 (And.intro Ty.s100 (And.intro Ty.q100 Ty.z100))))))
theorem Ty.c115 : Program.cellsOf Tryd.prog 115 = 4 := by kernel_rfl
theorem Ty.b115 : Program.bytesOf Tryd.prog 115 = 40 := by kernel_rfl
theorem Ty.a115 : Program.isAggT Tryd.prog 115 = true := by simp only [Program.isAggT, Tryd.underlying115]
theorem Ty.s115 : scalarT Tryd.prog 115 = false := by simp only [scalarT, Tryd.underlying115]
theorem Ty.z115 : Program.zeroOf Tryd.prog 115 = some (Value.agg #[Value.int .i64 0, Value.string .empty, Value.int .i64 0, Value.int .i64 0]) := by kernel_rfl
theorem Ty.q115 : eqT Tryd.prog 115 = some [.int .i64, .str, .int .i64, .int .i64] := by kernel_rfl
def Ty.t115 := (And.intro Tryd.underlying115 (And.intro Ty.c115 (And.intro Ty.b115 (And.intro Ty.a115 (And.intro Ty.s115 (And.intro Ty.q115 Ty.z115))))))
theorem Ty.c117 : Program.cellsOf Tryd.prog 117 = 3 := by kernel_rfl
theorem Ty.b117 : Program.bytesOf Tryd.prog 117 = 24 := by kernel_rfl
theorem Ty.a117 : Program.isAggT Tryd.prog 117 = true := by simp only [Program.isAggT, Tryd.underlying117]
theorem Ty.s117 : scalarT Tryd.prog 117 = false := by simp only [scalarT, Tryd.underlying117]
theorem Ty.z117 : Program.zeroOf Tryd.prog 117 = some (Value.agg #[Value.int .i64 0, Value.int .i64 0, Value.int .i64 0]) := by kernel_rfl
theorem Ty.q117 : eqT Tryd.prog 117 = some [.int .i64, .int .i64, .int .i64] := by kernel_rfl
def Ty.t117 := (And.intro Tryd.underlying117 (And.intro Ty.c117 (And.intro Ty.b117 (And.intro Ty.a117 (And.intro Ty.s117 (And.intro Ty.q117 Ty.z117))))))
theorem Ty.c129 : Program.cellsOf Tryd.prog 129 = 4 := by kernel_rfl
theorem Ty.b129 : Program.bytesOf Tryd.prog 129 = 40 := by kernel_rfl
theorem Ty.a129 : Program.isAggT Tryd.prog 129 = true := by simp only [Program.isAggT, Tryd.underlying129]
theorem Ty.s129 : scalarT Tryd.prog 129 = false := by simp only [scalarT, Tryd.underlying129]
theorem Ty.z129 : Program.zeroOf Tryd.prog 129 = some (Value.agg #[Value.int .i64 0, Value.string .empty, Value.int .i64 0, Value.int .i64 0]) := by kernel_rfl
theorem Ty.q129 : eqT Tryd.prog 129 = some [.int .i64, .str, .int .i64, .int .i64] := by kernel_rfl
def Ty.t129 := (And.intro Tryd.underlying129 (And.intro Ty.c129 (And.intro Ty.b129 (And.intro Ty.a129 (And.intro Ty.s129 (And.intro Ty.q129 Ty.z129))))))
theorem Ty.c135 : Program.cellsOf Tryd.prog 135 = 4 := by kernel_rfl
theorem Ty.b135 : Program.bytesOf Tryd.prog 135 = 32 := by kernel_rfl
theorem Ty.a135 : Program.isAggT Tryd.prog 135 = true := by simp only [Program.isAggT, Tryd.underlying135]
theorem Ty.s135 : scalarT Tryd.prog 135 = false := by simp only [scalarT, Tryd.underlying135]
theorem Ty.z135 : Program.zeroOf Tryd.prog 135 = some (Value.agg #[Value.int .i64 0, Value.int .i64 0, Value.int .i64 0, Value.bool false]) := by kernel_rfl
theorem Ty.q135 : eqT Tryd.prog 135 = some [.int .i64, .int .i64, .int .i64, .bool] := by kernel_rfl
def Ty.t135 := (And.intro Tryd.underlying135 (And.intro Ty.c135 (And.intro Ty.b135 (And.intro Ty.a135 (And.intro Ty.s135 (And.intro Ty.q135 Ty.z135))))))
theorem Ty.c137 : Program.cellsOf Tryd.prog 137 = 3 := by kernel_rfl
theorem Ty.b137 : Program.bytesOf Tryd.prog 137 = 48 := by kernel_rfl
theorem Ty.a137 : Program.isAggT Tryd.prog 137 = true := by simp only [Program.isAggT, Tryd.underlying137]
theorem Ty.s137 : scalarT Tryd.prog 137 = false := by simp only [scalarT, Tryd.underlying137]
theorem Ty.z137 : Program.zeroOf Tryd.prog 137 = some (Value.agg #[Value.string .empty, Value.string .empty, Value.string .empty]) := by kernel_rfl
def Ty.t137 := (And.intro Tryd.underlying137 (And.intro Ty.c137 (And.intro Ty.b137 (And.intro Ty.a137 (And.intro Ty.s137 Ty.z137)))))
theorem Ty.c141 : Program.cellsOf Tryd.prog 141 = 1 := by kernel_rfl
theorem Ty.b141 : Program.bytesOf Tryd.prog 141 = 8 := by kernel_rfl
theorem Ty.a141 : Program.isAggT Tryd.prog 141 = false := by simp only [Program.isAggT, Tryd.underlying141]
theorem Ty.s141 : scalarT Tryd.prog 141 = false := by simp only [scalarT, Tryd.underlying141]
theorem Ty.z141 : Program.zeroOf Tryd.prog 141 = some (Value.pointer none) := by kernel_rfl
def Ty.t141 := (And.intro Tryd.underlying141 (And.intro Ty.c141 (And.intro Ty.b141 (And.intro Ty.a141 (And.intro Ty.s141 Ty.z141)))))
theorem Ty.c142 : Program.cellsOf Tryd.prog 142 = 1 := by kernel_rfl
theorem Ty.b142 : Program.bytesOf Tryd.prog 142 = 8 := by kernel_rfl
theorem Ty.a142 : Program.isAggT Tryd.prog 142 = false := by simp only [Program.isAggT, Tryd.underlying142]
theorem Ty.s142 : scalarT Tryd.prog 142 = true := by simp only [scalarT, Tryd.underlying142]
theorem Ty.z142 : Program.zeroOf Tryd.prog 142 = some (Value.int .u64 0) := by kernel_rfl
def Ty.t142 := (And.intro Tryd.underlying142 (And.intro Ty.c142 (And.intro Ty.b142 (And.intro Ty.a142 (And.intro Ty.s142 Ty.z142)))))
theorem Ty.c144 : Program.cellsOf Tryd.prog 144 = 3 := by kernel_rfl
theorem Ty.b144 : Program.bytesOf Tryd.prog 144 = 40 := by kernel_rfl
theorem Ty.a144 : Program.isAggT Tryd.prog 144 = true := by simp only [Program.isAggT, Tryd.underlying144]
theorem Ty.s144 : scalarT Tryd.prog 144 = false := by simp only [scalarT, Tryd.underlying144]
theorem Ty.z144 : Program.zeroOf Tryd.prog 144 = some (Value.agg #[Value.slice none 0 0, Value.int .i64 0, Value.int .u64 0]) := by kernel_rfl
def Ty.t144 := (And.intro Tryd.underlying144 (And.intro Ty.c144 (And.intro Ty.b144 (And.intro Ty.a144 (And.intro Ty.s144 Ty.z144)))))
theorem Ty.c202 : Program.cellsOf Tryd.prog 202 = 1 := by kernel_rfl
theorem Ty.b202 : Program.bytesOf Tryd.prog 202 = 8 := by kernel_rfl
theorem Ty.a202 : Program.isAggT Tryd.prog 202 = false := by simp only [Program.isAggT, Tryd.underlying202]
theorem Ty.s202 : scalarT Tryd.prog 202 = true := by simp only [scalarT, Tryd.underlying202]
theorem Ty.z202 : Program.zeroOf Tryd.prog 202 = some (Value.int .u64 0) := by kernel_rfl
def Ty.t202 := (And.intro Tryd.underlying202 (And.intro Ty.c202 (And.intro Ty.b202 (And.intro Ty.a202 (And.intro Ty.s202 Ty.z202)))))
theorem Ty.c209 : Program.cellsOf Tryd.prog 209 = 1 := by kernel_rfl
theorem Ty.b209 : Program.bytesOf Tryd.prog 209 = 8 := by kernel_rfl
theorem Ty.a209 : Program.isAggT Tryd.prog 209 = false := by simp only [Program.isAggT, Tryd.underlying209]
theorem Ty.s209 : scalarT Tryd.prog 209 = false := by simp only [scalarT, Tryd.underlying209]
theorem Ty.z209 : Program.zeroOf Tryd.prog 209 = some (Value.pointer none) := by kernel_rfl
def Ty.t209 := (And.intro Tryd.underlying209 (And.intro Ty.c209 (And.intro Ty.b209 (And.intro Ty.a209 (And.intro Ty.s209 Ty.z209)))))
theorem Ty.c211 : Program.cellsOf Tryd.prog 211 = 2 := by kernel_rfl
theorem Ty.b211 : Program.bytesOf Tryd.prog 211 = 32 := by kernel_rfl
theorem Ty.a211 : Program.isAggT Tryd.prog 211 = true := by simp only [Program.isAggT, Tryd.underlying211]
theorem Ty.s211 : scalarT Tryd.prog 211 = false := by simp only [scalarT, Tryd.underlying211]
theorem Ty.z211 : Program.zeroOf Tryd.prog 211 = some (Value.agg #[Value.pointer none, Value.slice none 0 0]) := by kernel_rfl
def Ty.t211 := (And.intro Tryd.underlying211 (And.intro Ty.c211 (And.intro Ty.b211 (And.intro Ty.a211 (And.intro Ty.s211 Ty.z211)))))
theorem Ty.c226 : Program.cellsOf Tryd.prog 226 = 1 := by kernel_rfl
theorem Ty.b226 : Program.bytesOf Tryd.prog 226 = 8 := by kernel_rfl
theorem Ty.a226 : Program.isAggT Tryd.prog 226 = false := by simp only [Program.isAggT, Tryd.underlying226]
theorem Ty.s226 : scalarT Tryd.prog 226 = true := by simp only [scalarT, Tryd.underlying226]
theorem Ty.z226 : Program.zeroOf Tryd.prog 226 = some (Value.int .i64 0) := by kernel_rfl
def Ty.t226 := (And.intro Tryd.underlying226 (And.intro Ty.c226 (And.intro Ty.b226 (And.intro Ty.a226 (And.intro Ty.s226 Ty.z226)))))
theorem Ty.c242 : Program.cellsOf Tryd.prog 242 = 1 := by kernel_rfl
theorem Ty.b242 : Program.bytesOf Tryd.prog 242 = 8 := by kernel_rfl
theorem Ty.a242 : Program.isAggT Tryd.prog 242 = false := by simp only [Program.isAggT, Tryd.underlying242]
theorem Ty.s242 : scalarT Tryd.prog 242 = true := by simp only [scalarT, Tryd.underlying242]
theorem Ty.z242 : Program.zeroOf Tryd.prog 242 = some (Value.int .u64 0) := by kernel_rfl
def Ty.t242 := (And.intro Tryd.underlying242 (And.intro Ty.c242 (And.intro Ty.b242 (And.intro Ty.a242 (And.intro Ty.s242 Ty.z242)))))
theorem Ty.c246 : Program.cellsOf Tryd.prog 246 = 1 := by kernel_rfl
theorem Ty.b246 : Program.bytesOf Tryd.prog 246 = 8 := by kernel_rfl
theorem Ty.a246 : Program.isAggT Tryd.prog 246 = false := by simp only [Program.isAggT, Tryd.underlying246]
theorem Ty.s246 : scalarT Tryd.prog 246 = false := by simp only [scalarT, Tryd.underlying246]
theorem Ty.z246 : Program.zeroOf Tryd.prog 246 = some (Value.pointer none) := by kernel_rfl
def Ty.t246 := (And.intro Tryd.underlying246 (And.intro Ty.c246 (And.intro Ty.b246 (And.intro Ty.a246 (And.intro Ty.s246 Ty.z246)))))
end Go.Proofs.YtmlicajgbgjphaaDoor
