/- Facts about types. No condition. -/
import Derived.Test.YtdgenniiidgimaaGreatChecked
import Derived.Test.YtdgenniiidgimaaGreatUmF
set_option linter.unusedSimpArgs false
set_option linter.unusedVariables false
set_option linter.defProp false
namespace Go.Proofs.YtdgenniiidgimaaGreat
open Go Go.Vm

theorem Ty.c3 : Program.cellsOf Tryz.prog 3 = 1 := by kernel_rfl
theorem Ty.b3 : Program.bytesOf Tryz.prog 3 = 8 := by kernel_rfl
theorem Ty.a3 : Program.isAggT Tryz.prog 3 = false := by simp only [Program.isAggT, Tryz.underlying3]
theorem Ty.s3 : scalarT Tryz.prog 3 = true := by simp only [scalarT, Tryz.underlying3]
theorem Ty.z3 : Program.zeroOf Tryz.prog 3 = some (Value.int .i64 0) := by kernel_rfl
def Ty.t3 := (And.intro Tryz.underlying3 (And.intro Ty.c3 (And.intro Ty.b3 (And.intro Ty.a3 (And.intro Ty.s3 Ty.z3)))))
theorem Ty.c4 : Program.cellsOf Tryz.prog 4 = 1 := by kernel_rfl
theorem Ty.b4 : Program.bytesOf Tryz.prog 4 = 1 := by kernel_rfl
theorem Ty.a4 : Program.isAggT Tryz.prog 4 = false := by simp only [Program.isAggT, Tryz.underlying4]
theorem Ty.s4 : scalarT Tryz.prog 4 = true := by simp only [scalarT, Tryz.underlying4]
theorem Ty.z4 : Program.zeroOf Tryz.prog 4 = some (Value.bool false) := by kernel_rfl
def Ty.t4 := (And.intro Tryz.underlying4 (And.intro Ty.c4 (And.intro Ty.b4 (And.intro Ty.a4 (And.intro Ty.s4 Ty.z4)))))
theorem Ty.c5 : Program.cellsOf Tryz.prog 5 = 1 := by kernel_rfl
theorem Ty.b5 : Program.bytesOf Tryz.prog 5 = 1 := by kernel_rfl
theorem Ty.a5 : Program.isAggT Tryz.prog 5 = false := by simp only [Program.isAggT, Tryz.underlying5]
theorem Ty.s5 : scalarT Tryz.prog 5 = true := by simp only [scalarT, Tryz.underlying5]
theorem Ty.z5 : Program.zeroOf Tryz.prog 5 = some (Value.int .u8 0) := by kernel_rfl
def Ty.t5 := (And.intro Tryz.underlying5 (And.intro Ty.c5 (And.intro Ty.b5 (And.intro Ty.a5 (And.intro Ty.s5 Ty.z5)))))
theorem Ty.c9 : Program.cellsOf Tryz.prog 9 = 1 := by kernel_rfl
theorem Ty.b9 : Program.bytesOf Tryz.prog 9 = 16 := by kernel_rfl
theorem Ty.a9 : Program.isAggT Tryz.prog 9 = false := by simp only [Program.isAggT, Tryz.underlying9]
theorem Ty.s9 : scalarT Tryz.prog 9 = true := by simp only [scalarT, Tryz.underlying9]
theorem Ty.z9 : Program.zeroOf Tryz.prog 9 = some (Value.string .empty) := by kernel_rfl
def Ty.t9 := (And.intro Tryz.underlying9 (And.intro Ty.c9 (And.intro Ty.b9 (And.intro Ty.a9 (And.intro Ty.s9 Ty.z9)))))
theorem Ty.c22 : Program.cellsOf Tryz.prog 22 = 1 := by kernel_rfl
theorem Ty.b22 : Program.bytesOf Tryz.prog 22 = 24 := by kernel_rfl
theorem Ty.a22 : Program.isAggT Tryz.prog 22 = false := by simp only [Program.isAggT, Tryz.underlying22]
theorem Ty.s22 : scalarT Tryz.prog 22 = false := by simp only [scalarT, Tryz.underlying22]
theorem Ty.z22 : Program.zeroOf Tryz.prog 22 = some (Value.slice none 0 0) := by kernel_rfl
def Ty.t22 := (And.intro Tryz.underlying22 (And.intro Ty.c22 (And.intro Ty.b22 (And.intro Ty.a22 (And.intro Ty.s22 Ty.z22)))))
theorem Ty.c24 : Program.cellsOf Tryz.prog 24 = 2 := by kernel_rfl
theorem Ty.b24 : Program.bytesOf Tryz.prog 24 = 32 := by kernel_rfl
theorem Ty.a24 : Program.isAggT Tryz.prog 24 = true := by simp only [Program.isAggT, Tryz.underlying24]
theorem Ty.s24 : scalarT Tryz.prog 24 = false := by simp only [scalarT, Tryz.underlying24]
theorem Ty.z24 : Program.zeroOf Tryz.prog 24 = some (Value.agg #[Value.int .i64 0, Value.slice none 0 0]) := by kernel_rfl
def Ty.t24 := (And.intro Tryz.underlying24 (And.intro Ty.c24 (And.intro Ty.b24 (And.intro Ty.a24 (And.intro Ty.s24 Ty.z24)))))
theorem Ty.c25 : Program.cellsOf Tryz.prog 25 = 1 := by kernel_rfl
theorem Ty.b25 : Program.bytesOf Tryz.prog 25 = 24 := by kernel_rfl
theorem Ty.a25 : Program.isAggT Tryz.prog 25 = false := by simp only [Program.isAggT, Tryz.underlying25]
theorem Ty.s25 : scalarT Tryz.prog 25 = false := by simp only [scalarT, Tryz.underlying25]
theorem Ty.z25 : Program.zeroOf Tryz.prog 25 = some (Value.slice none 0 0) := by kernel_rfl
def Ty.t25 := (And.intro Tryz.underlying25 (And.intro Ty.c25 (And.intro Ty.b25 (And.intro Ty.a25 (And.intro Ty.s25 Ty.z25)))))
theorem Ty.c26 : Program.cellsOf Tryz.prog 26 = 1 := by kernel_rfl
theorem Ty.b26 : Program.bytesOf Tryz.prog 26 = 24 := by kernel_rfl
theorem Ty.a26 : Program.isAggT Tryz.prog 26 = false := by simp only [Program.isAggT, Tryz.underlying26]
theorem Ty.s26 : scalarT Tryz.prog 26 = false := by simp only [scalarT, Tryz.underlying26]
theorem Ty.z26 : Program.zeroOf Tryz.prog 26 = some (Value.slice none 0 0) := by kernel_rfl
def Ty.t26 := (And.intro Tryz.underlying26 (And.intro Ty.c26 (And.intro Ty.b26 (And.intro Ty.a26 (And.intro Ty.s26 Ty.z26)))))
theorem Ty.c27 : Program.cellsOf Tryz.prog 27 = 1 := by kernel_rfl
theorem Ty.b27 : Program.bytesOf Tryz.prog 27 = 24 := by kernel_rfl
theorem Ty.a27 : Program.isAggT Tryz.prog 27 = false := by simp only [Program.isAggT, Tryz.underlying27]
theorem Ty.s27 : scalarT Tryz.prog 27 = false := by simp only [scalarT, Tryz.underlying27]
theorem Ty.z27 : Program.zeroOf Tryz.prog 27 = some (Value.slice none 0 0) := by kernel_rfl
def Ty.t27 := (And.intro Tryz.underlying27 (And.intro Ty.c27 (And.intro Ty.b27 (And.intro Ty.a27 (And.intro Ty.s27 Ty.z27)))))
theorem Ty.c29 : Program.cellsOf Tryz.prog 29 = 3 := by kernel_rfl
theorem Ty.b29 : Program.bytesOf Tryz.prog 29 = 72 := by kernel_rfl
theorem Ty.a29 : Program.isAggT Tryz.prog 29 = true := by simp only [Program.isAggT, Tryz.underlying29]
theorem Ty.s29 : scalarT Tryz.prog 29 = false := by simp only [scalarT, Tryz.underlying29]
theorem Ty.z29 : Program.zeroOf Tryz.prog 29 = some (Value.agg #[Value.slice none 0 0, Value.slice none 0 0, Value.slice none 0 0]) := by kernel_rfl
def Ty.t29 := (And.intro Tryz.underlying29 (And.intro Ty.c29 (And.intro Ty.b29 (And.intro Ty.a29 (And.intro Ty.s29 Ty.z29)))))
theorem Ty.c32 : Program.cellsOf Tryz.prog 32 = 1 := by kernel_rfl
theorem Ty.b32 : Program.bytesOf Tryz.prog 32 = 24 := by kernel_rfl
theorem Ty.a32 : Program.isAggT Tryz.prog 32 = false := by simp only [Program.isAggT, Tryz.underlying32]
theorem Ty.s32 : scalarT Tryz.prog 32 = false := by simp only [scalarT, Tryz.underlying32]
theorem Ty.z32 : Program.zeroOf Tryz.prog 32 = some (Value.slice none 0 0) := by kernel_rfl
def Ty.t32 := (And.intro Tryz.underlying32 (And.intro Ty.c32 (And.intro Ty.b32 (And.intro Ty.a32 (And.intro Ty.s32 Ty.z32)))))
theorem Ty.c35 : Program.cellsOf Tryz.prog 35 = 1 := by kernel_rfl
theorem Ty.b35 : Program.bytesOf Tryz.prog 35 = 24 := by kernel_rfl
theorem Ty.a35 : Program.isAggT Tryz.prog 35 = false := by simp only [Program.isAggT, Tryz.underlying35]
theorem Ty.s35 : scalarT Tryz.prog 35 = false := by simp only [scalarT, Tryz.underlying35]
theorem Ty.z35 : Program.zeroOf Tryz.prog 35 = some (Value.slice none 0 0) := by kernel_rfl
def Ty.t35 := (And.intro Tryz.underlying35 (And.intro Ty.c35 (And.intro Ty.b35 (And.intro Ty.a35 (And.intro Ty.s35 Ty.z35)))))
theorem Ty.c37 : Program.cellsOf Tryz.prog 37 = 2 := by kernel_rfl
theorem Ty.b37 : Program.bytesOf Tryz.prog 37 = 32 := by kernel_rfl
theorem Ty.a37 : Program.isAggT Tryz.prog 37 = true := by simp only [Program.isAggT, Tryz.underlying37]
theorem Ty.s37 : scalarT Tryz.prog 37 = false := by simp only [scalarT, Tryz.underlying37]
theorem Ty.z37 : Program.zeroOf Tryz.prog 37 = some (Value.agg #[Value.int .i64 0, Value.slice none 0 0]) := by kernel_rfl
def Ty.t37 := (And.intro Tryz.underlying37 (And.intro Ty.c37 (And.intro Ty.b37 (And.intro Ty.a37 (And.intro Ty.s37 Ty.z37)))))
theorem Ty.c39 : Program.cellsOf Tryz.prog 39 = 1 := by kernel_rfl
theorem Ty.b39 : Program.bytesOf Tryz.prog 39 = 24 := by kernel_rfl
theorem Ty.a39 : Program.isAggT Tryz.prog 39 = false := by simp only [Program.isAggT, Tryz.underlying39]
theorem Ty.s39 : scalarT Tryz.prog 39 = false := by simp only [scalarT, Tryz.underlying39]
theorem Ty.z39 : Program.zeroOf Tryz.prog 39 = some (Value.slice none 0 0) := by kernel_rfl
def Ty.t39 := (And.intro Tryz.underlying39 (And.intro Ty.c39 (And.intro Ty.b39 (And.intro Ty.a39 (And.intro Ty.s39 Ty.z39)))))
theorem Ty.c40 : Program.cellsOf Tryz.prog 40 = 1 := by kernel_rfl
theorem Ty.b40 : Program.bytesOf Tryz.prog 40 = 24 := by kernel_rfl
theorem Ty.a40 : Program.isAggT Tryz.prog 40 = false := by simp only [Program.isAggT, Tryz.underlying40]
theorem Ty.s40 : scalarT Tryz.prog 40 = false := by simp only [scalarT, Tryz.underlying40]
theorem Ty.z40 : Program.zeroOf Tryz.prog 40 = some (Value.slice none 0 0) := by kernel_rfl
def Ty.t40 := (And.intro Tryz.underlying40 (And.intro Ty.c40 (And.intro Ty.b40 (And.intro Ty.a40 (And.intro Ty.s40 Ty.z40)))))
theorem Ty.c41 : Program.cellsOf Tryz.prog 41 = 1 := by kernel_rfl
theorem Ty.b41 : Program.bytesOf Tryz.prog 41 = 24 := by kernel_rfl
theorem Ty.a41 : Program.isAggT Tryz.prog 41 = false := by simp only [Program.isAggT, Tryz.underlying41]
theorem Ty.s41 : scalarT Tryz.prog 41 = false := by simp only [scalarT, Tryz.underlying41]
theorem Ty.z41 : Program.zeroOf Tryz.prog 41 = some (Value.slice none 0 0) := by kernel_rfl
def Ty.t41 := (And.intro Tryz.underlying41 (And.intro Ty.c41 (And.intro Ty.b41 (And.intro Ty.a41 (And.intro Ty.s41 Ty.z41)))))
theorem Ty.c43 : Program.cellsOf Tryz.prog 43 = 3 := by kernel_rfl
theorem Ty.b43 : Program.bytesOf Tryz.prog 43 = 72 := by kernel_rfl
theorem Ty.a43 : Program.isAggT Tryz.prog 43 = true := by simp only [Program.isAggT, Tryz.underlying43]
theorem Ty.s43 : scalarT Tryz.prog 43 = false := by simp only [scalarT, Tryz.underlying43]
theorem Ty.z43 : Program.zeroOf Tryz.prog 43 = some (Value.agg #[Value.slice none 0 0, Value.slice none 0 0, Value.slice none 0 0]) := by kernel_rfl
def Ty.t43 := (And.intro Tryz.underlying43 (And.intro Ty.c43 (And.intro Ty.b43 (And.intro Ty.a43 (And.intro Ty.s43 Ty.z43)))))
theorem Ty.c54 : Program.cellsOf Tryz.prog 54 = 1 := by kernel_rfl
theorem Ty.b54 : Program.bytesOf Tryz.prog 54 = 24 := by kernel_rfl
theorem Ty.a54 : Program.isAggT Tryz.prog 54 = false := by simp only [Program.isAggT, Tryz.underlying54]
theorem Ty.s54 : scalarT Tryz.prog 54 = false := by simp only [scalarT, Tryz.underlying54]
theorem Ty.z54 : Program.zeroOf Tryz.prog 54 = some (Value.slice none 0 0) := by kernel_rfl
def Ty.t54 := (And.intro Tryz.underlying54 (And.intro Ty.c54 (And.intro Ty.b54 (And.intro Ty.a54 (And.intro Ty.s54 Ty.z54)))))
theorem Ty.c69 : Program.cellsOf Tryz.prog 69 = 4 := by kernel_rfl
theorem Ty.b69 : Program.bytesOf Tryz.prog 69 = 48 := by kernel_rfl
theorem Ty.a69 : Program.isAggT Tryz.prog 69 = true := by simp only [Program.isAggT, Tryz.underlying69]
theorem Ty.s69 : scalarT Tryz.prog 69 = false := by simp only [scalarT, Tryz.underlying69]
theorem Ty.z69 : Program.zeroOf Tryz.prog 69 = some (Value.agg #[Value.int .i64 0, Value.int .i64 0, Value.bool false, Value.slice none 0 0]) := by kernel_rfl
def Ty.t69 := (And.intro Tryz.underlying69 (And.intro Ty.c69 (And.intro Ty.b69 (And.intro Ty.a69 (And.intro Ty.s69 Ty.z69)))))
theorem Ty.c71 : Program.cellsOf Tryz.prog 71 = 5 := by kernel_rfl
theorem Ty.b71 : Program.bytesOf Tryz.prog 71 = 48 := by kernel_rfl
theorem Ty.a71 : Program.isAggT Tryz.prog 71 = true := by simp only [Program.isAggT, Tryz.underlying71]
theorem Ty.s71 : scalarT Tryz.prog 71 = false := by simp only [scalarT, Tryz.underlying71]
theorem Ty.z71 : Program.zeroOf Tryz.prog 71 = some (Value.agg #[Value.string .empty, Value.int .i64 0, Value.int .i64 0, Value.int .i64 0, Value.int .i64 0]) := by kernel_rfl
def Ty.t71 := (And.intro Tryz.underlying71 (And.intro Ty.c71 (And.intro Ty.b71 (And.intro Ty.a71 (And.intro Ty.s71 Ty.z71)))))
theorem Ty.c78 : Program.cellsOf Tryz.prog 78 = 1 := by kernel_rfl
theorem Ty.b78 : Program.bytesOf Tryz.prog 78 = 8 := by kernel_rfl
theorem Ty.a78 : Program.isAggT Tryz.prog 78 = false := by simp only [Program.isAggT, Tryz.underlying78]
theorem Ty.s78 : scalarT Tryz.prog 78 = false := by simp only [scalarT, Tryz.underlying78]
theorem Ty.z78 : Program.zeroOf Tryz.prog 78 = some (Value.pointer none) := by kernel_rfl
def Ty.t78 := (And.intro Tryz.underlying78 (And.intro Ty.c78 (And.intro Ty.b78 (And.intro Ty.a78 (And.intro Ty.s78 Ty.z78)))))
theorem Ty.c80 : Program.cellsOf Tryz.prog 80 = 1 := by kernel_rfl
theorem Ty.b80 : Program.bytesOf Tryz.prog 80 = 8 := by kernel_rfl
theorem Ty.a80 : Program.isAggT Tryz.prog 80 = false := by simp only [Program.isAggT, Tryz.underlying80]
theorem Ty.s80 : scalarT Tryz.prog 80 = false := by simp only [scalarT, Tryz.underlying80]
theorem Ty.z80 : Program.zeroOf Tryz.prog 80 = some (Value.pointer none) := by kernel_rfl
def Ty.t80 := (And.intro Tryz.underlying80 (And.intro Ty.c80 (And.intro Ty.b80 (And.intro Ty.a80 (And.intro Ty.s80 Ty.z80)))))
theorem Ty.c89 : Program.cellsOf Tryz.prog 89 = 2 := by kernel_rfl
theorem Ty.b89 : Program.bytesOf Tryz.prog 89 = 32 := by kernel_rfl
theorem Ty.a89 : Program.isAggT Tryz.prog 89 = true := by simp only [Program.isAggT, Tryz.underlying89]
theorem Ty.s89 : scalarT Tryz.prog 89 = false := by simp only [scalarT, Tryz.underlying89]
theorem Ty.z89 : Program.zeroOf Tryz.prog 89 = some (Value.agg #[Value.int .i64 0, Value.slice none 0 0]) := by kernel_rfl
def Ty.t89 := (And.intro Tryz.underlying89 (And.intro Ty.c89 (And.intro Ty.b89 (And.intro Ty.a89 (And.intro Ty.s89 Ty.z89)))))
theorem Ty.c95 : Program.cellsOf Tryz.prog 95 = 5 := by kernel_rfl
theorem Ty.b95 : Program.bytesOf Tryz.prog 95 = 48 := by kernel_rfl
theorem Ty.a95 : Program.isAggT Tryz.prog 95 = true := by simp only [Program.isAggT, Tryz.underlying95]
theorem Ty.s95 : scalarT Tryz.prog 95 = false := by simp only [scalarT, Tryz.underlying95]
theorem Ty.z95 : Program.zeroOf Tryz.prog 95 = some (Value.agg #[Value.string .empty, Value.int .i64 0, Value.int .i64 0, Value.int .i64 0, Value.int .i64 0]) := by kernel_rfl
def Ty.t95 := (And.intro Tryz.underlying95 (And.intro Ty.c95 (And.intro Ty.b95 (And.intro Ty.a95 (And.intro Ty.s95 Ty.z95)))))
theorem Ty.c97 : Program.cellsOf Tryz.prog 97 = 4 := by kernel_rfl
theorem Ty.b97 : Program.bytesOf Tryz.prog 97 = 48 := by kernel_rfl
theorem Ty.a97 : Program.isAggT Tryz.prog 97 = true := by simp only [Program.isAggT, Tryz.underlying97]
theorem Ty.s97 : scalarT Tryz.prog 97 = false := by simp only [scalarT, Tryz.underlying97]
theorem Ty.z97 : Program.zeroOf Tryz.prog 97 = some (Value.agg #[Value.int .i64 0, Value.int .i64 0, Value.bool false, Value.slice none 0 0]) := by kernel_rfl
def Ty.t97 := (And.intro Tryz.underlying97 (And.intro Ty.c97 (And.intro Ty.b97 (And.intro Ty.a97 (And.intro Ty.s97 Ty.z97)))))
theorem Ty.c99 : Program.cellsOf Tryz.prog 99 = 2 := by kernel_rfl
theorem Ty.b99 : Program.bytesOf Tryz.prog 99 = 32 := by kernel_rfl
theorem Ty.a99 : Program.isAggT Tryz.prog 99 = true := by simp only [Program.isAggT, Tryz.underlying99]
theorem Ty.s99 : scalarT Tryz.prog 99 = false := by simp only [scalarT, Tryz.underlying99]
theorem Ty.z99 : Program.zeroOf Tryz.prog 99 = some (Value.agg #[Value.int .i64 0, Value.slice none 0 0]) := by kernel_rfl
def Ty.t99 := (And.intro Tryz.underlying99 (And.intro Ty.c99 (And.intro Ty.b99 (And.intro Ty.a99 (And.intro Ty.s99 Ty.z99)))))
theorem Ty.c106 : Program.cellsOf Tryz.prog 106 = 3 := by kernel_rfl
theorem Ty.b106 : Program.bytesOf Tryz.prog 106 = 24 := by kernel_rfl
theorem Ty.a106 : Program.isAggT Tryz.prog 106 = true := by simp only [Program.isAggT, Tryz.underlying106]
theorem Ty.s106 : scalarT Tryz.prog 106 = false := by simp only [scalarT, Tryz.underlying106]
theorem Ty.z106 : Program.zeroOf Tryz.prog 106 = some (Value.agg #[Value.int .i64 0, Value.int .i64 0, Value.int .i64 0]) := by kernel_rfl
def Ty.t106 := (And.intro Tryz.underlying106 (And.intro Ty.c106 (And.intro Ty.b106 (And.intro Ty.a106 (And.intro Ty.s106 Ty.z106)))))
theorem Ty.c108 : Program.cellsOf Tryz.prog 108 = 3 := by kernel_rfl
theorem Ty.b108 : Program.bytesOf Tryz.prog 108 = 24 := by kernel_rfl
theorem Ty.a108 : Program.isAggT Tryz.prog 108 = true := by simp only [Program.isAggT, Tryz.underlying108]
theorem Ty.s108 : scalarT Tryz.prog 108 = false := by simp only [scalarT, Tryz.underlying108]
theorem Ty.z108 : Program.zeroOf Tryz.prog 108 = some (Value.agg #[Value.int .i64 0, Value.int .i64 0, Value.int .i64 0]) := by kernel_rfl
def Ty.t108 := (And.intro Tryz.underlying108 (And.intro Ty.c108 (And.intro Ty.b108 (And.intro Ty.a108 (And.intro Ty.s108 Ty.z108)))))
theorem Ty.c124 : Program.cellsOf Tryz.prog 124 = 4 := by kernel_rfl
theorem Ty.b124 : Program.bytesOf Tryz.prog 124 = 32 := by kernel_rfl
theorem Ty.a124 : Program.isAggT Tryz.prog 124 = true := by simp only [Program.isAggT, Tryz.underlying124]
theorem Ty.s124 : scalarT Tryz.prog 124 = false := by simp only [scalarT, Tryz.underlying124]
theorem Ty.z124 : Program.zeroOf Tryz.prog 124 = some (Value.agg #[Value.int .i64 0, Value.int .i64 0, Value.int .i64 0, Value.int .i64 0]) := by kernel_rfl
def Ty.t124 := (And.intro Tryz.underlying124 (And.intro Ty.c124 (And.intro Ty.b124 (And.intro Ty.a124 (And.intro Ty.s124 Ty.z124)))))
theorem Ty.c125 : Program.cellsOf Tryz.prog 125 = 1 := by kernel_rfl
theorem Ty.b125 : Program.bytesOf Tryz.prog 125 = 24 := by kernel_rfl
theorem Ty.a125 : Program.isAggT Tryz.prog 125 = false := by simp only [Program.isAggT, Tryz.underlying125]
theorem Ty.s125 : scalarT Tryz.prog 125 = false := by simp only [scalarT, Tryz.underlying125]
theorem Ty.z125 : Program.zeroOf Tryz.prog 125 = some (Value.slice none 0 0) := by kernel_rfl
def Ty.t125 := (And.intro Tryz.underlying125 (And.intro Ty.c125 (And.intro Ty.b125 (And.intro Ty.a125 (And.intro Ty.s125 Ty.z125)))))
end Go.Proofs.YtdgenniiidgimaaGreat
