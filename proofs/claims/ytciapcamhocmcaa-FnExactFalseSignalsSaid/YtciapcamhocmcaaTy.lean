/- Facts about types. No condition. -/
import Derived.Test.YtciapcamhocmcaaChecked
import Derived.Test.YtciapcamhocmcaaVm17
set_option linter.unusedSimpArgs false
set_option linter.unusedVariables false
set_option linter.defProp false
namespace Go.Proofs.Ytciapcamhocmcaa
open Go Go.Vm

theorem Ty.c3 : Program.cellsOf Try.prog 3 = 1 := by kernel_rfl
theorem Ty.b3 : Program.bytesOf Try.prog 3 = 8 := by kernel_rfl
theorem Ty.a3 : Program.isAggT Try.prog 3 = false := by simp only [Program.isAggT, Try.underlying3]
theorem Ty.s3 : scalarT Try.prog 3 = true := by simp only [scalarT, Try.underlying3]
theorem Ty.z3 : Program.zeroOf Try.prog 3 = some (Value.int .i64 0) := by kernel_rfl
def Ty.t3 := (And.intro Try.underlying3 (And.intro Ty.c3 (And.intro Ty.b3 (And.intro Ty.a3 (And.intro Ty.s3 Ty.z3)))))
theorem Ty.c4 : Program.cellsOf Try.prog 4 = 1 := by kernel_rfl
theorem Ty.b4 : Program.bytesOf Try.prog 4 = 1 := by kernel_rfl
theorem Ty.a4 : Program.isAggT Try.prog 4 = false := by simp only [Program.isAggT, Try.underlying4]
theorem Ty.s4 : scalarT Try.prog 4 = true := by simp only [scalarT, Try.underlying4]
theorem Ty.z4 : Program.zeroOf Try.prog 4 = some (Value.bool false) := by kernel_rfl
def Ty.t4 := (And.intro Try.underlying4 (And.intro Ty.c4 (And.intro Ty.b4 (And.intro Ty.a4 (And.intro Ty.s4 Ty.z4)))))
theorem Ty.c5 : Program.cellsOf Try.prog 5 = 1 := by kernel_rfl
theorem Ty.b5 : Program.bytesOf Try.prog 5 = 1 := by kernel_rfl
theorem Ty.a5 : Program.isAggT Try.prog 5 = false := by simp only [Program.isAggT, Try.underlying5]
theorem Ty.s5 : scalarT Try.prog 5 = true := by simp only [scalarT, Try.underlying5]
theorem Ty.z5 : Program.zeroOf Try.prog 5 = some (Value.int .u8 0) := by kernel_rfl
def Ty.t5 := (And.intro Try.underlying5 (And.intro Ty.c5 (And.intro Ty.b5 (And.intro Ty.a5 (And.intro Ty.s5 Ty.z5)))))
theorem Ty.c9 : Program.cellsOf Try.prog 9 = 1 := by kernel_rfl
theorem Ty.b9 : Program.bytesOf Try.prog 9 = 16 := by kernel_rfl
theorem Ty.a9 : Program.isAggT Try.prog 9 = false := by simp only [Program.isAggT, Try.underlying9]
theorem Ty.s9 : scalarT Try.prog 9 = true := by simp only [scalarT, Try.underlying9]
theorem Ty.z9 : Program.zeroOf Try.prog 9 = some (Value.string .empty) := by kernel_rfl
def Ty.t9 := (And.intro Try.underlying9 (And.intro Ty.c9 (And.intro Ty.b9 (And.intro Ty.a9 (And.intro Ty.s9 Ty.z9)))))
theorem Ty.c22 : Program.cellsOf Try.prog 22 = 1 := by kernel_rfl
theorem Ty.b22 : Program.bytesOf Try.prog 22 = 24 := by kernel_rfl
theorem Ty.a22 : Program.isAggT Try.prog 22 = false := by simp only [Program.isAggT, Try.underlying22]
theorem Ty.s22 : scalarT Try.prog 22 = false := by simp only [scalarT, Try.underlying22]
theorem Ty.z22 : Program.zeroOf Try.prog 22 = some (Value.slice none 0 0) := by kernel_rfl
def Ty.t22 := (And.intro Try.underlying22 (And.intro Ty.c22 (And.intro Ty.b22 (And.intro Ty.a22 (And.intro Ty.s22 Ty.z22)))))
theorem Ty.c26 : Program.cellsOf Try.prog 26 = 1 := by kernel_rfl
theorem Ty.b26 : Program.bytesOf Try.prog 26 = 24 := by kernel_rfl
theorem Ty.a26 : Program.isAggT Try.prog 26 = false := by simp only [Program.isAggT, Try.underlying26]
theorem Ty.s26 : scalarT Try.prog 26 = false := by simp only [scalarT, Try.underlying26]
theorem Ty.z26 : Program.zeroOf Try.prog 26 = some (Value.slice none 0 0) := by kernel_rfl
def Ty.t26 := (And.intro Try.underlying26 (And.intro Ty.c26 (And.intro Ty.b26 (And.intro Ty.a26 (And.intro Ty.s26 Ty.z26)))))
theorem Ty.c32 : Program.cellsOf Try.prog 32 = 1 := by kernel_rfl
theorem Ty.b32 : Program.bytesOf Try.prog 32 = 24 := by kernel_rfl
theorem Ty.a32 : Program.isAggT Try.prog 32 = false := by simp only [Program.isAggT, Try.underlying32]
theorem Ty.s32 : scalarT Try.prog 32 = false := by simp only [scalarT, Try.underlying32]
theorem Ty.z32 : Program.zeroOf Try.prog 32 = some (Value.slice none 0 0) := by kernel_rfl
def Ty.t32 := (And.intro Try.underlying32 (And.intro Ty.c32 (And.intro Ty.b32 (And.intro Ty.a32 (And.intro Ty.s32 Ty.z32)))))
theorem Ty.c34 : Program.cellsOf Try.prog 34 = 3 := by kernel_rfl
theorem Ty.b34 : Program.bytesOf Try.prog 34 = 24 := by kernel_rfl
theorem Ty.a34 : Program.isAggT Try.prog 34 = true := by simp only [Program.isAggT, Try.underlying34]
theorem Ty.s34 : scalarT Try.prog 34 = false := by simp only [scalarT, Try.underlying34]
theorem Ty.z34 : Program.zeroOf Try.prog 34 = some (Value.agg #[Value.int .i64 0, Value.int .i64 0, Value.int .i64 0]) := by kernel_rfl
def Ty.t34 := (And.intro Try.underlying34 (And.intro Ty.c34 (And.intro Ty.b34 (And.intro Ty.a34 (And.intro Ty.s34 Ty.z34)))))
theorem Ty.c39 : Program.cellsOf Try.prog 39 = 3 := by kernel_rfl
theorem Ty.b39 : Program.bytesOf Try.prog 39 = 24 := by kernel_rfl
theorem Ty.a39 : Program.isAggT Try.prog 39 = true := by simp only [Program.isAggT, Try.underlying39]
theorem Ty.s39 : scalarT Try.prog 39 = false := by simp only [scalarT, Try.underlying39]
theorem Ty.z39 : Program.zeroOf Try.prog 39 = some (Value.agg #[Value.int .i64 0, Value.int .i64 0, Value.int .i64 0]) := by kernel_rfl
def Ty.t39 := (And.intro Try.underlying39 (And.intro Ty.c39 (And.intro Ty.b39 (And.intro Ty.a39 (And.intro Ty.s39 Ty.z39)))))
theorem Ty.c47 : Program.cellsOf Try.prog 47 = 1 := by kernel_rfl
theorem Ty.b47 : Program.bytesOf Try.prog 47 = 24 := by kernel_rfl
theorem Ty.a47 : Program.isAggT Try.prog 47 = false := by simp only [Program.isAggT, Try.underlying47]
theorem Ty.s47 : scalarT Try.prog 47 = false := by simp only [scalarT, Try.underlying47]
theorem Ty.z47 : Program.zeroOf Try.prog 47 = some (Value.slice none 0 0) := by kernel_rfl
def Ty.t47 := (And.intro Try.underlying47 (And.intro Ty.c47 (And.intro Ty.b47 (And.intro Ty.a47 (And.intro Ty.s47 Ty.z47)))))
theorem Ty.c54 : Program.cellsOf Try.prog 54 = 1 := by kernel_rfl
theorem Ty.b54 : Program.bytesOf Try.prog 54 = 24 := by kernel_rfl
theorem Ty.a54 : Program.isAggT Try.prog 54 = false := by simp only [Program.isAggT, Try.underlying54]
theorem Ty.s54 : scalarT Try.prog 54 = false := by simp only [scalarT, Try.underlying54]
theorem Ty.z54 : Program.zeroOf Try.prog 54 = some (Value.slice none 0 0) := by kernel_rfl
def Ty.t54 := (And.intro Try.underlying54 (And.intro Ty.c54 (And.intro Ty.b54 (And.intro Ty.a54 (And.intro Ty.s54 Ty.z54)))))
theorem Ty.c55 : Program.cellsOf Try.prog 55 = 1 := by kernel_rfl
theorem Ty.b55 : Program.bytesOf Try.prog 55 = 24 := by kernel_rfl
theorem Ty.a55 : Program.isAggT Try.prog 55 = false := by simp only [Program.isAggT, Try.underlying55]
theorem Ty.s55 : scalarT Try.prog 55 = false := by simp only [scalarT, Try.underlying55]
theorem Ty.z55 : Program.zeroOf Try.prog 55 = some (Value.slice none 0 0) := by kernel_rfl
def Ty.t55 := (And.intro Try.underlying55 (And.intro Ty.c55 (And.intro Ty.b55 (And.intro Ty.a55 (And.intro Ty.s55 Ty.z55)))))
theorem Ty.c59 : Program.cellsOf Try.prog 59 = 1 := by kernel_rfl
theorem Ty.b59 : Program.bytesOf Try.prog 59 = 24 := by kernel_rfl
theorem Ty.a59 : Program.isAggT Try.prog 59 = false := by simp only [Program.isAggT, Try.underlying59]
theorem Ty.s59 : scalarT Try.prog 59 = false := by simp only [scalarT, Try.underlying59]
theorem Ty.z59 : Program.zeroOf Try.prog 59 = some (Value.slice none 0 0) := by kernel_rfl
def Ty.t59 := (And.intro Try.underlying59 (And.intro Ty.c59 (And.intro Ty.b59 (And.intro Ty.a59 (And.intro Ty.s59 Ty.z59)))))
theorem Ty.c61 : Program.cellsOf Try.prog 61 = 1 := by kernel_rfl
theorem Ty.b61 : Program.bytesOf Try.prog 61 = 24 := by kernel_rfl
theorem Ty.a61 : Program.isAggT Try.prog 61 = false := by simp only [Program.isAggT, Try.underlying61]
theorem Ty.s61 : scalarT Try.prog 61 = false := by simp only [scalarT, Try.underlying61]
theorem Ty.z61 : Program.zeroOf Try.prog 61 = some (Value.slice none 0 0) := by kernel_rfl
def Ty.t61 := (And.intro Try.underlying61 (And.intro Ty.c61 (And.intro Ty.b61 (And.intro Ty.a61 (And.intro Ty.s61 Ty.z61)))))
theorem Ty.c68 : Program.cellsOf Try.prog 68 = 1 := by kernel_rfl
theorem Ty.b68 : Program.bytesOf Try.prog 68 = 24 := by kernel_rfl
theorem Ty.a68 : Program.isAggT Try.prog 68 = false := by simp only [Program.isAggT, Try.underlying68]
theorem Ty.s68 : scalarT Try.prog 68 = false := by simp only [scalarT, Try.underlying68]
theorem Ty.z68 : Program.zeroOf Try.prog 68 = some (Value.slice none 0 0) := by kernel_rfl
def Ty.t68 := (And.intro Try.underlying68 (And.intro Ty.c68 (And.intro Ty.b68 (And.intro Ty.a68 (And.intro Ty.s68 Ty.z68)))))
theorem Ty.c70 : Program.cellsOf Try.prog 70 = 2 := by kernel_rfl
theorem Ty.b70 : Program.bytesOf Try.prog 70 = 16 := by kernel_rfl
theorem Ty.a70 : Program.isAggT Try.prog 70 = true := by simp only [Program.isAggT, Try.underlying70]
theorem Ty.s70 : scalarT Try.prog 70 = false := by simp only [scalarT, Try.underlying70]
theorem Ty.z70 : Program.zeroOf Try.prog 70 = some (Value.agg #[Value.int .i64 0, Value.int .i64 0]) := by kernel_rfl
def Ty.t70 := (And.intro Try.underlying70 (And.intro Ty.c70 (And.intro Ty.b70 (And.intro Ty.a70 (And.intro Ty.s70 Ty.z70)))))
theorem Ty.c71 : Program.cellsOf Try.prog 71 = 1 := by kernel_rfl
theorem Ty.b71 : Program.bytesOf Try.prog 71 = 24 := by kernel_rfl
theorem Ty.a71 : Program.isAggT Try.prog 71 = false := by simp only [Program.isAggT, Try.underlying71]
theorem Ty.s71 : scalarT Try.prog 71 = false := by simp only [scalarT, Try.underlying71]
theorem Ty.z71 : Program.zeroOf Try.prog 71 = some (Value.slice none 0 0) := by kernel_rfl
def Ty.t71 := (And.intro Try.underlying71 (And.intro Ty.c71 (And.intro Ty.b71 (And.intro Ty.a71 (And.intro Ty.s71 Ty.z71)))))
theorem Ty.c74 : Program.cellsOf Try.prog 74 = 1 := by kernel_rfl
theorem Ty.b74 : Program.bytesOf Try.prog 74 = 24 := by kernel_rfl
theorem Ty.a74 : Program.isAggT Try.prog 74 = false := by simp only [Program.isAggT, Try.underlying74]
theorem Ty.s74 : scalarT Try.prog 74 = false := by simp only [scalarT, Try.underlying74]
theorem Ty.z74 : Program.zeroOf Try.prog 74 = some (Value.slice none 0 0) := by kernel_rfl
def Ty.t74 := (And.intro Try.underlying74 (And.intro Ty.c74 (And.intro Ty.b74 (And.intro Ty.a74 (And.intro Ty.s74 Ty.z74)))))
theorem Ty.c79 : Program.cellsOf Try.prog 79 = 3 := by kernel_rfl
theorem Ty.b79 : Program.bytesOf Try.prog 79 = 24 := by kernel_rfl
theorem Ty.a79 : Program.isAggT Try.prog 79 = true := by simp only [Program.isAggT, Try.underlying79]
theorem Ty.s79 : scalarT Try.prog 79 = false := by simp only [scalarT, Try.underlying79]
theorem Ty.z79 : Program.zeroOf Try.prog 79 = some (Value.agg #[Value.int .i64 0, Value.int .i64 0, Value.int .i64 0]) := by kernel_rfl
def Ty.t79 := (And.intro Try.underlying79 (And.intro Ty.c79 (And.intro Ty.b79 (And.intro Ty.a79 (And.intro Ty.s79 Ty.z79)))))
theorem Ty.c93 : Program.cellsOf Try.prog 93 = 4 := by kernel_rfl
theorem Ty.b93 : Program.bytesOf Try.prog 93 = 40 := by kernel_rfl
theorem Ty.a93 : Program.isAggT Try.prog 93 = true := by simp only [Program.isAggT, Try.underlying93]
theorem Ty.s93 : scalarT Try.prog 93 = false := by simp only [scalarT, Try.underlying93]
theorem Ty.z93 : Program.zeroOf Try.prog 93 = some (Value.agg #[Value.int .i64 0, Value.string .empty, Value.int .i64 0, Value.int .i64 0]) := by kernel_rfl
def Ty.t93 := (And.intro Try.underlying93 (And.intro Ty.c93 (And.intro Ty.b93 (And.intro Ty.a93 (And.intro Ty.s93 Ty.z93)))))
theorem Ty.c95 : Program.cellsOf Try.prog 95 = 4 := by kernel_rfl
theorem Ty.b95 : Program.bytesOf Try.prog 95 = 40 := by kernel_rfl
theorem Ty.a95 : Program.isAggT Try.prog 95 = true := by simp only [Program.isAggT, Try.underlying95]
theorem Ty.s95 : scalarT Try.prog 95 = false := by simp only [scalarT, Try.underlying95]
theorem Ty.z95 : Program.zeroOf Try.prog 95 = some (Value.agg #[Value.int .i64 0, Value.string .empty, Value.int .i64 0, Value.int .i64 0]) := by kernel_rfl
def Ty.t95 := (And.intro Try.underlying95 (And.intro Ty.c95 (And.intro Ty.b95 (And.intro Ty.a95 (And.intro Ty.s95 Ty.z95)))))
theorem Ty.c110 : Program.cellsOf Try.prog 110 = 4 := by kernel_rfl
theorem Ty.b110 : Program.bytesOf Try.prog 110 = 32 := by kernel_rfl
theorem Ty.a110 : Program.isAggT Try.prog 110 = true := by simp only [Program.isAggT, Try.underlying110]
theorem Ty.s110 : scalarT Try.prog 110 = false := by simp only [scalarT, Try.underlying110]
theorem Ty.z110 : Program.zeroOf Try.prog 110 = some (Value.agg #[Value.int .i64 0, Value.int .i64 0, Value.int .i64 0, Value.bool false]) := by kernel_rfl
def Ty.t110 := (And.intro Try.underlying110 (And.intro Ty.c110 (And.intro Ty.b110 (And.intro Ty.a110 (And.intro Ty.s110 Ty.z110)))))
theorem Ty.c112 : Program.cellsOf Try.prog 112 = 4 := by kernel_rfl
theorem Ty.b112 : Program.bytesOf Try.prog 112 = 32 := by kernel_rfl
theorem Ty.a112 : Program.isAggT Try.prog 112 = true := by simp only [Program.isAggT, Try.underlying112]
theorem Ty.s112 : scalarT Try.prog 112 = false := by simp only [scalarT, Try.underlying112]
theorem Ty.z112 : Program.zeroOf Try.prog 112 = some (Value.agg #[Value.int .i64 0, Value.int .i64 0, Value.int .i64 0, Value.bool false]) := by kernel_rfl
def Ty.t112 := (And.intro Try.underlying112 (And.intro Ty.c112 (And.intro Ty.b112 (And.intro Ty.a112 (And.intro Ty.s112 Ty.z112)))))
theorem Ty.c114 : Program.cellsOf Try.prog 114 = 2 := by kernel_rfl
theorem Ty.b114 : Program.bytesOf Try.prog 114 = 16 := by kernel_rfl
theorem Ty.a114 : Program.isAggT Try.prog 114 = true := by simp only [Program.isAggT, Try.underlying114]
theorem Ty.s114 : scalarT Try.prog 114 = false := by simp only [scalarT, Try.underlying114]
theorem Ty.z114 : Program.zeroOf Try.prog 114 = some (Value.agg #[Value.int .i64 0, Value.int .i64 0]) := by kernel_rfl
def Ty.t114 := (And.intro Try.underlying114 (And.intro Ty.c114 (And.intro Ty.b114 (And.intro Ty.a114 (And.intro Ty.s114 Ty.z114)))))
theorem Ty.c116 : Program.cellsOf Try.prog 116 = 2 := by kernel_rfl
theorem Ty.b116 : Program.bytesOf Try.prog 116 = 16 := by kernel_rfl
theorem Ty.a116 : Program.isAggT Try.prog 116 = true := by simp only [Program.isAggT, Try.underlying116]
theorem Ty.s116 : scalarT Try.prog 116 = false := by simp only [scalarT, Try.underlying116]
theorem Ty.z116 : Program.zeroOf Try.prog 116 = some (Value.agg #[Value.int .i64 0, Value.int .i64 0]) := by kernel_rfl
def Ty.t116 := (And.intro Try.underlying116 (And.intro Ty.c116 (And.intro Ty.b116 (And.intro Ty.a116 (And.intro Ty.s116 Ty.z116)))))
theorem Ty.c123 : Program.cellsOf Try.prog 123 = 1 := by kernel_rfl
theorem Ty.b123 : Program.bytesOf Try.prog 123 = 8 := by kernel_rfl
theorem Ty.a123 : Program.isAggT Try.prog 123 = false := by simp only [Program.isAggT, Try.underlying123]
theorem Ty.s123 : scalarT Try.prog 123 = false := by simp only [scalarT, Try.underlying123]
theorem Ty.z123 : Program.zeroOf Try.prog 123 = some (Value.pointer none) := by kernel_rfl
def Ty.t123 := (And.intro Try.underlying123 (And.intro Ty.c123 (And.intro Ty.b123 (And.intro Ty.a123 (And.intro Ty.s123 Ty.z123)))))
theorem Ty.c124 : Program.cellsOf Try.prog 124 = 1 := by kernel_rfl
theorem Ty.b124 : Program.bytesOf Try.prog 124 = 8 := by kernel_rfl
theorem Ty.a124 : Program.isAggT Try.prog 124 = false := by simp only [Program.isAggT, Try.underlying124]
theorem Ty.s124 : scalarT Try.prog 124 = true := by simp only [scalarT, Try.underlying124]
theorem Ty.z124 : Program.zeroOf Try.prog 124 = some (Value.int .u64 0) := by kernel_rfl
def Ty.t124 := (And.intro Try.underlying124 (And.intro Ty.c124 (And.intro Ty.b124 (And.intro Ty.a124 (And.intro Ty.s124 Ty.z124)))))
theorem Ty.c126 : Program.cellsOf Try.prog 126 = 3 := by kernel_rfl
theorem Ty.b126 : Program.bytesOf Try.prog 126 = 40 := by kernel_rfl
theorem Ty.a126 : Program.isAggT Try.prog 126 = true := by simp only [Program.isAggT, Try.underlying126]
theorem Ty.s126 : scalarT Try.prog 126 = false := by simp only [scalarT, Try.underlying126]
theorem Ty.z126 : Program.zeroOf Try.prog 126 = some (Value.agg #[Value.slice none 0 0, Value.int .i64 0, Value.int .u64 0]) := by kernel_rfl
def Ty.t126 := (And.intro Try.underlying126 (And.intro Ty.c126 (And.intro Ty.b126 (And.intro Ty.a126 (And.intro Ty.s126 Ty.z126)))))
theorem Ty.c157 : Program.cellsOf Try.prog 157 = 1 := by kernel_rfl
theorem Ty.b157 : Program.bytesOf Try.prog 157 = 8 := by kernel_rfl
theorem Ty.a157 : Program.isAggT Try.prog 157 = false := by simp only [Program.isAggT, Try.underlying157]
theorem Ty.s157 : scalarT Try.prog 157 = true := by simp only [scalarT, Try.underlying157]
theorem Ty.z157 : Program.zeroOf Try.prog 157 = some (Value.int .u64 0) := by kernel_rfl
def Ty.t157 := (And.intro Try.underlying157 (And.intro Ty.c157 (And.intro Ty.b157 (And.intro Ty.a157 (And.intro Ty.s157 Ty.z157)))))
end Go.Proofs.Ytciapcamhocmcaa
