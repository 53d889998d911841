/- Facts about types. No condition. -/
import Derived.Test.YtdgenniiidgimaaChecked
import Derived.Test.YtdgenniiidgimaaUmF
set_option linter.unusedSimpArgs false
set_option linter.unusedVariables false
set_option linter.defProp false
namespace Go.Proofs.Ytdgenniiidgimaa
open Go Go.Vm

theorem Ty.c3 : Program.cellsOf Try.prog 3 = 1 := by kernel_rfl
theorem Ty.b3 : Program.bytesOf Try.prog 3 = 8 := by kernel_rfl
theorem Ty.a3 : Program.isAggT Try.prog 3 = false := by simp only [Program.isAggT, Try.underlying3]
theorem Ty.s3 : scalarT Try.prog 3 = true := by simp only [scalarT, Try.underlying3]
theorem Ty.z3 : Program.zeroOf Try.prog 3 = some (Value.int .i64 0) := by kernel_rfl
def Ty.t3 := (And.intro Try.underlying3 (And.intro Ty.c3 (And.intro Ty.b3 (And.intro Ty.a3 (And.intro Ty.s3 Ty.z3)))))
theorem Ty.c4 : Program.cellsOf Try.prog 4 = 1 := by kernel_rfl
theorem Ty.b4 : Program.bytesOf Try.prog 4 = 1 := by kernel_rfl
theorem Ty.a4 : Program.isAggT Try.prog 4 = false := by simp only [Program.isAggT, Try.underlying4]
theorem Ty.s4 : scalarT Try.prog 4 = true := by simp only [scalarT, Try.underlying4]
theorem Ty.z4 : Program.zeroOf Try.prog 4 = some (Value.bool false) := by kernel_rfl
def Ty.t4 := (And.intro Try.underlying4 (And.intro Ty.c4 (And.intro Ty.b4 (And.intro Ty.a4 (And.intro Ty.s4 Ty.z4)))))
theorem Ty.c5 : Program.cellsOf Try.prog 5 = 1 := by kernel_rfl
theorem Ty.b5 : Program.bytesOf Try.prog 5 = 1 := by kernel_rfl
theorem Ty.a5 : Program.isAggT Try.prog 5 = false := by simp only [Program.isAggT, Try.underlying5]
theorem Ty.s5 : scalarT Try.prog 5 = true := by simp only [scalarT, Try.underlying5]
theorem Ty.z5 : Program.zeroOf Try.prog 5 = some (Value.int .u8 0) := by kernel_rfl
def Ty.t5 := (And.intro Try.underlying5 (And.intro Ty.c5 (And.intro Ty.b5 (And.intro Ty.a5 (And.intro Ty.s5 Ty.z5)))))
theorem Ty.c9 : Program.cellsOf Try.prog 9 = 1 := by kernel_rfl
theorem Ty.b9 : Program.bytesOf Try.prog 9 = 16 := by kernel_rfl
theorem Ty.a9 : Program.isAggT Try.prog 9 = false := by simp only [Program.isAggT, Try.underlying9]
theorem Ty.s9 : scalarT Try.prog 9 = true := by simp only [scalarT, Try.underlying9]
theorem Ty.z9 : Program.zeroOf Try.prog 9 = some (Value.string .empty) := by kernel_rfl
def Ty.t9 := (And.intro Try.underlying9 (And.intro Ty.c9 (And.intro Ty.b9 (And.intro Ty.a9 (And.intro Ty.s9 Ty.z9)))))
theorem Ty.c22 : Program.cellsOf Try.prog 22 = 1 := by kernel_rfl
theorem Ty.b22 : Program.bytesOf Try.prog 22 = 24 := by kernel_rfl
theorem Ty.a22 : Program.isAggT Try.prog 22 = false := by simp only [Program.isAggT, Try.underlying22]
theorem Ty.s22 : scalarT Try.prog 22 = false := by simp only [scalarT, Try.underlying22]
theorem Ty.z22 : Program.zeroOf Try.prog 22 = some (Value.slice none 0 0) := by kernel_rfl
def Ty.t22 := (And.intro Try.underlying22 (And.intro Ty.c22 (And.intro Ty.b22 (And.intro Ty.a22 (And.intro Ty.s22 Ty.z22)))))
theorem Ty.c23 : Program.cellsOf Try.prog 23 = 1 := by kernel_rfl
theorem Ty.b23 : Program.bytesOf Try.prog 23 = 24 := by kernel_rfl
theorem Ty.a23 : Program.isAggT Try.prog 23 = false := by simp only [Program.isAggT, Try.underlying23]
theorem Ty.s23 : scalarT Try.prog 23 = false := by simp only [scalarT, Try.underlying23]
theorem Ty.z23 : Program.zeroOf Try.prog 23 = some (Value.slice none 0 0) := by kernel_rfl
def Ty.t23 := (And.intro Try.underlying23 (And.intro Ty.c23 (And.intro Ty.b23 (And.intro Ty.a23 (And.intro Ty.s23 Ty.z23)))))
theorem Ty.c26 : Program.cellsOf Try.prog 26 = 1 := by kernel_rfl
theorem Ty.b26 : Program.bytesOf Try.prog 26 = 24 := by kernel_rfl
theorem Ty.a26 : Program.isAggT Try.prog 26 = false := by simp only [Program.isAggT, Try.underlying26]
theorem Ty.s26 : scalarT Try.prog 26 = false := by simp only [scalarT, Try.underlying26]
theorem Ty.z26 : Program.zeroOf Try.prog 26 = some (Value.slice none 0 0) := by kernel_rfl
def Ty.t26 := (And.intro Try.underlying26 (And.intro Ty.c26 (And.intro Ty.b26 (And.intro Ty.a26 (And.intro Ty.s26 Ty.z26)))))
theorem Ty.c29 : Program.cellsOf Try.prog 29 = 1 := by kernel_rfl
theorem Ty.b29 : Program.bytesOf Try.prog 29 = 24 := by kernel_rfl
theorem Ty.a29 : Program.isAggT Try.prog 29 = false := by simp only [Program.isAggT, Try.underlying29]
theorem Ty.s29 : scalarT Try.prog 29 = false := by simp only [scalarT, Try.underlying29]
theorem Ty.z29 : Program.zeroOf Try.prog 29 = some (Value.slice none 0 0) := by kernel_rfl
def Ty.t29 := (And.intro Try.underlying29 (And.intro Ty.c29 (And.intro Ty.b29 (And.intro Ty.a29 (And.intro Ty.s29 Ty.z29)))))
theorem Ty.c31 : Program.cellsOf Try.prog 31 = 1 := by kernel_rfl
theorem Ty.b31 : Program.bytesOf Try.prog 31 = 24 := by kernel_rfl
theorem Ty.a31 : Program.isAggT Try.prog 31 = false := by simp only [Program.isAggT, Try.underlying31]
theorem Ty.s31 : scalarT Try.prog 31 = false := by simp only [scalarT, Try.underlying31]
theorem Ty.z31 : Program.zeroOf Try.prog 31 = some (Value.slice none 0 0) := by kernel_rfl
def Ty.t31 := (And.intro Try.underlying31 (And.intro Ty.c31 (And.intro Ty.b31 (And.intro Ty.a31 (And.intro Ty.s31 Ty.z31)))))
theorem Ty.c40 : Program.cellsOf Try.prog 40 = 1 := by kernel_rfl
theorem Ty.b40 : Program.bytesOf Try.prog 40 = 24 := by kernel_rfl
theorem Ty.a40 : Program.isAggT Try.prog 40 = false := by simp only [Program.isAggT, Try.underlying40]
theorem Ty.s40 : scalarT Try.prog 40 = false := by simp only [scalarT, Try.underlying40]
theorem Ty.z40 : Program.zeroOf Try.prog 40 = some (Value.slice none 0 0) := by kernel_rfl
def Ty.t40 := (And.intro Try.underlying40 (And.intro Ty.c40 (And.intro Ty.b40 (And.intro Ty.a40 (And.intro Ty.s40 Ty.z40)))))
theorem Ty.c57 : Program.cellsOf Try.prog 57 = 2 := by kernel_rfl
theorem Ty.b57 : Program.bytesOf Try.prog 57 = 16 := by kernel_rfl
theorem Ty.a57 : Program.isAggT Try.prog 57 = true := by simp only [Program.isAggT, Try.underlying57]
theorem Ty.s57 : scalarT Try.prog 57 = false := by simp only [scalarT, Try.underlying57]
theorem Ty.z57 : Program.zeroOf Try.prog 57 = some (Value.agg #[Value.int .i64 0, Value.int .i64 0]) := by kernel_rfl
def Ty.t57 := (And.intro Try.underlying57 (And.intro Ty.c57 (And.intro Ty.b57 (And.intro Ty.a57 (And.intro Ty.s57 Ty.z57)))))
theorem Ty.c59 : Program.cellsOf Try.prog 59 = 4 := by kernel_rfl
theorem Ty.b59 : Program.bytesOf Try.prog 59 = 32 := by kernel_rfl
theorem Ty.a59 : Program.isAggT Try.prog 59 = true := by simp only [Program.isAggT, Try.underlying59]
theorem Ty.s59 : scalarT Try.prog 59 = false := by simp only [scalarT, Try.underlying59]
theorem Ty.z59 : Program.zeroOf Try.prog 59 = some (Value.agg #[Value.int .i64 0, Value.int .i64 0, Value.int .i64 0, Value.bool false]) := by kernel_rfl
def Ty.t59 := (And.intro Try.underlying59 (And.intro Ty.c59 (And.intro Ty.b59 (And.intro Ty.a59 (And.intro Ty.s59 Ty.z59)))))
theorem Ty.c61 : Program.cellsOf Try.prog 61 = 1 := by kernel_rfl
theorem Ty.b61 : Program.bytesOf Try.prog 61 = 24 := by kernel_rfl
theorem Ty.a61 : Program.isAggT Try.prog 61 = false := by simp only [Program.isAggT, Try.underlying61]
theorem Ty.s61 : scalarT Try.prog 61 = false := by simp only [scalarT, Try.underlying61]
theorem Ty.z61 : Program.zeroOf Try.prog 61 = some (Value.slice none 0 0) := by kernel_rfl
def Ty.t61 := (And.intro Try.underlying61 (And.intro Ty.c61 (And.intro Ty.b61 (And.intro Ty.a61 (And.intro Ty.s61 Ty.z61)))))
theorem Ty.c63 : Program.cellsOf Try.prog 63 = 2 := by kernel_rfl
theorem Ty.b63 : Program.bytesOf Try.prog 63 = 32 := by kernel_rfl
theorem Ty.a63 : Program.isAggT Try.prog 63 = true := by simp only [Program.isAggT, Try.underlying63]
theorem Ty.s63 : scalarT Try.prog 63 = false := by simp only [scalarT, Try.underlying63]
theorem Ty.z63 : Program.zeroOf Try.prog 63 = some (Value.agg #[Value.int .i64 0, Value.slice none 0 0]) := by kernel_rfl
def Ty.t63 := (And.intro Try.underlying63 (And.intro Ty.c63 (And.intro Ty.b63 (And.intro Ty.a63 (And.intro Ty.s63 Ty.z63)))))
theorem Ty.c64 : Program.cellsOf Try.prog 64 = 1 := by kernel_rfl
theorem Ty.b64 : Program.bytesOf Try.prog 64 = 24 := by kernel_rfl
theorem Ty.a64 : Program.isAggT Try.prog 64 = false := by simp only [Program.isAggT, Try.underlying64]
theorem Ty.s64 : scalarT Try.prog 64 = false := by simp only [scalarT, Try.underlying64]
theorem Ty.z64 : Program.zeroOf Try.prog 64 = some (Value.slice none 0 0) := by kernel_rfl
def Ty.t64 := (And.intro Try.underlying64 (And.intro Ty.c64 (And.intro Ty.b64 (And.intro Ty.a64 (And.intro Ty.s64 Ty.z64)))))
theorem Ty.c67 : Program.cellsOf Try.prog 67 = 1 := by kernel_rfl
theorem Ty.b67 : Program.bytesOf Try.prog 67 = 24 := by kernel_rfl
theorem Ty.a67 : Program.isAggT Try.prog 67 = false := by simp only [Program.isAggT, Try.underlying67]
theorem Ty.s67 : scalarT Try.prog 67 = false := by simp only [scalarT, Try.underlying67]
theorem Ty.z67 : Program.zeroOf Try.prog 67 = some (Value.slice none 0 0) := by kernel_rfl
def Ty.t67 := (And.intro Try.underlying67 (And.intro Ty.c67 (And.intro Ty.b67 (And.intro Ty.a67 (And.intro Ty.s67 Ty.z67)))))
theorem Ty.c70 : Program.cellsOf Try.prog 70 = 1 := by kernel_rfl
theorem Ty.b70 : Program.bytesOf Try.prog 70 = 24 := by kernel_rfl
theorem Ty.a70 : Program.isAggT Try.prog 70 = false := by simp only [Program.isAggT, Try.underlying70]
theorem Ty.s70 : scalarT Try.prog 70 = false := by simp only [scalarT, Try.underlying70]
theorem Ty.z70 : Program.zeroOf Try.prog 70 = some (Value.slice none 0 0) := by kernel_rfl
def Ty.t70 := (And.intro Try.underlying70 (And.intro Ty.c70 (And.intro Ty.b70 (And.intro Ty.a70 (And.intro Ty.s70 Ty.z70)))))
theorem Ty.c72 : Program.cellsOf Try.prog 72 = 2 := by kernel_rfl
theorem Ty.b72 : Program.bytesOf Try.prog 72 = 32 := by kernel_rfl
theorem Ty.a72 : Program.isAggT Try.prog 72 = true := by simp only [Program.isAggT, Try.underlying72]
theorem Ty.s72 : scalarT Try.prog 72 = false := by simp only [scalarT, Try.underlying72]
theorem Ty.z72 : Program.zeroOf Try.prog 72 = some (Value.agg #[Value.int .i64 0, Value.slice none 0 0]) := by kernel_rfl
def Ty.t72 := (And.intro Try.underlying72 (And.intro Ty.c72 (And.intro Ty.b72 (And.intro Ty.a72 (And.intro Ty.s72 Ty.z72)))))
theorem Ty.c74 : Program.cellsOf Try.prog 74 = 1 := by kernel_rfl
theorem Ty.b74 : Program.bytesOf Try.prog 74 = 24 := by kernel_rfl
theorem Ty.a74 : Program.isAggT Try.prog 74 = false := by simp only [Program.isAggT, Try.underlying74]
theorem Ty.s74 : scalarT Try.prog 74 = false := by simp only [scalarT, Try.underlying74]
theorem Ty.z74 : Program.zeroOf Try.prog 74 = some (Value.slice none 0 0) := by kernel_rfl
def Ty.t74 := (And.intro Try.underlying74 (And.intro Ty.c74 (And.intro Ty.b74 (And.intro Ty.a74 (And.intro Ty.s74 Ty.z74)))))
theorem Ty.c84 : Program.cellsOf Try.prog 84 = 1 := by kernel_rfl
theorem Ty.b84 : Program.bytesOf Try.prog 84 = 24 := by kernel_rfl
theorem Ty.a84 : Program.isAggT Try.prog 84 = false := by simp only [Program.isAggT, Try.underlying84]
theorem Ty.s84 : scalarT Try.prog 84 = false := by simp only [scalarT, Try.underlying84]
theorem Ty.z84 : Program.zeroOf Try.prog 84 = some (Value.slice none 0 0) := by kernel_rfl
def Ty.t84 := (And.intro Try.underlying84 (And.intro Ty.c84 (And.intro Ty.b84 (And.intro Ty.a84 (And.intro Ty.s84 Ty.z84)))))
theorem Ty.c85 : Program.cellsOf Try.prog 85 = 1 := by kernel_rfl
theorem Ty.b85 : Program.bytesOf Try.prog 85 = 24 := by kernel_rfl
theorem Ty.a85 : Program.isAggT Try.prog 85 = false := by simp only [Program.isAggT, Try.underlying85]
theorem Ty.s85 : scalarT Try.prog 85 = false := by simp only [scalarT, Try.underlying85]
theorem Ty.z85 : Program.zeroOf Try.prog 85 = some (Value.slice none 0 0) := by kernel_rfl
def Ty.t85 := (And.intro Try.underlying85 (And.intro Ty.c85 (And.intro Ty.b85 (And.intro Ty.a85 (And.intro Ty.s85 Ty.z85)))))
theorem Ty.c87 : Program.cellsOf Try.prog 87 = 3 := by kernel_rfl
theorem Ty.b87 : Program.bytesOf Try.prog 87 = 72 := by kernel_rfl
theorem Ty.a87 : Program.isAggT Try.prog 87 = true := by simp only [Program.isAggT, Try.underlying87]
theorem Ty.s87 : scalarT Try.prog 87 = false := by simp only [scalarT, Try.underlying87]
theorem Ty.z87 : Program.zeroOf Try.prog 87 = some (Value.agg #[Value.slice none 0 0, Value.slice none 0 0, Value.slice none 0 0]) := by kernel_rfl
def Ty.t87 := (And.intro Try.underlying87 (And.intro Ty.c87 (And.intro Ty.b87 (And.intro Ty.a87 (And.intro Ty.s87 Ty.z87)))))
theorem Ty.c93 : Program.cellsOf Try.prog 93 = 1 := by kernel_rfl
theorem Ty.b93 : Program.bytesOf Try.prog 93 = 24 := by kernel_rfl
theorem Ty.a93 : Program.isAggT Try.prog 93 = false := by simp only [Program.isAggT, Try.underlying93]
theorem Ty.s93 : scalarT Try.prog 93 = false := by simp only [scalarT, Try.underlying93]
theorem Ty.z93 : Program.zeroOf Try.prog 93 = some (Value.slice none 0 0) := by kernel_rfl
def Ty.t93 := (And.intro Try.underlying93 (And.intro Ty.c93 (And.intro Ty.b93 (And.intro Ty.a93 (And.intro Ty.s93 Ty.z93)))))
theorem Ty.c99 : Program.cellsOf Try.prog 99 = 1 := by kernel_rfl
theorem Ty.b99 : Program.bytesOf Try.prog 99 = 24 := by kernel_rfl
theorem Ty.a99 : Program.isAggT Try.prog 99 = false := by simp only [Program.isAggT, Try.underlying99]
theorem Ty.s99 : scalarT Try.prog 99 = false := by simp only [scalarT, Try.underlying99]
theorem Ty.z99 : Program.zeroOf Try.prog 99 = some (Value.slice none 0 0) := by kernel_rfl
def Ty.t99 := (And.intro Try.underlying99 (And.intro Ty.c99 (And.intro Ty.b99 (And.intro Ty.a99 (And.intro Ty.s99 Ty.z99)))))
theorem Ty.c100 : Program.cellsOf Try.prog 100 = 1 := by kernel_rfl
theorem Ty.b100 : Program.bytesOf Try.prog 100 = 24 := by kernel_rfl
theorem Ty.a100 : Program.isAggT Try.prog 100 = false := by simp only [Program.isAggT, Try.underlying100]
theorem Ty.s100 : scalarT Try.prog 100 = false := by simp only [scalarT, Try.underlying100]
theorem Ty.z100 : Program.zeroOf Try.prog 100 = some (Value.slice none 0 0) := by kernel_rfl
def Ty.t100 := (And.intro Try.underlying100 (And.intro Ty.c100 (And.intro Ty.b100 (And.intro Ty.a100 (And.intro Ty.s100 Ty.z100)))))
theorem Ty.c102 : Program.cellsOf Try.prog 102 = 3 := by kernel_rfl
theorem Ty.b102 : Program.bytesOf Try.prog 102 = 72 := by kernel_rfl
theorem Ty.a102 : Program.isAggT Try.prog 102 = true := by simp only [Program.isAggT, Try.underlying102]
theorem Ty.s102 : scalarT Try.prog 102 = false := by simp only [scalarT, Try.underlying102]
theorem Ty.z102 : Program.zeroOf Try.prog 102 = some (Value.agg #[Value.slice none 0 0, Value.slice none 0 0, Value.slice none 0 0]) := by kernel_rfl
def Ty.t102 := (And.intro Try.underlying102 (And.intro Ty.c102 (And.intro Ty.b102 (And.intro Ty.a102 (And.intro Ty.s102 Ty.z102)))))
theorem Ty.c113 : Program.cellsOf Try.prog 113 = 4 := by kernel_rfl
theorem Ty.b113 : Program.bytesOf Try.prog 113 = 32 := by kernel_rfl
theorem Ty.a113 : Program.isAggT Try.prog 113 = true := by simp only [Program.isAggT, Try.underlying113]
theorem Ty.s113 : scalarT Try.prog 113 = false := by simp only [scalarT, Try.underlying113]
theorem Ty.z113 : Program.zeroOf Try.prog 113 = some (Value.agg #[Value.int .i64 0, Value.int .i64 0, Value.int .i64 0, Value.bool false]) := by kernel_rfl
def Ty.t113 := (And.intro Try.underlying113 (And.intro Ty.c113 (And.intro Ty.b113 (And.intro Ty.a113 (And.intro Ty.s113 Ty.z113)))))
theorem Ty.c115 : Program.cellsOf Try.prog 115 = 2 := by kernel_rfl
theorem Ty.b115 : Program.bytesOf Try.prog 115 = 16 := by kernel_rfl
theorem Ty.a115 : Program.isAggT Try.prog 115 = true := by simp only [Program.isAggT, Try.underlying115]
theorem Ty.s115 : scalarT Try.prog 115 = false := by simp only [scalarT, Try.underlying115]
theorem Ty.z115 : Program.zeroOf Try.prog 115 = some (Value.agg #[Value.int .i64 0, Value.int .i64 0]) := by kernel_rfl
def Ty.t115 := (And.intro Try.underlying115 (And.intro Ty.c115 (And.intro Ty.b115 (And.intro Ty.a115 (And.intro Ty.s115 Ty.z115)))))
theorem Ty.c118 : Program.cellsOf Try.prog 118 = 1 := by kernel_rfl
theorem Ty.b118 : Program.bytesOf Try.prog 118 = 8 := by kernel_rfl
theorem Ty.a118 : Program.isAggT Try.prog 118 = false := by simp only [Program.isAggT, Try.underlying118]
theorem Ty.s118 : scalarT Try.prog 118 = false := by simp only [scalarT, Try.underlying118]
theorem Ty.z118 : Program.zeroOf Try.prog 118 = some (Value.pointer none) := by kernel_rfl
def Ty.t118 := (And.intro Try.underlying118 (And.intro Ty.c118 (And.intro Ty.b118 (And.intro Ty.a118 (And.intro Ty.s118 Ty.z118)))))
theorem Ty.c119 : Program.cellsOf Try.prog 119 = 1 := by kernel_rfl
theorem Ty.b119 : Program.bytesOf Try.prog 119 = 8 := by kernel_rfl
theorem Ty.a119 : Program.isAggT Try.prog 119 = false := by simp only [Program.isAggT, Try.underlying119]
theorem Ty.s119 : scalarT Try.prog 119 = true := by simp only [scalarT, Try.underlying119]
theorem Ty.z119 : Program.zeroOf Try.prog 119 = some (Value.int .u64 0) := by kernel_rfl
def Ty.t119 := (And.intro Try.underlying119 (And.intro Ty.c119 (And.intro Ty.b119 (And.intro Ty.a119 (And.intro Ty.s119 Ty.z119)))))
theorem Ty.c121 : Program.cellsOf Try.prog 121 = 3 := by kernel_rfl
theorem Ty.b121 : Program.bytesOf Try.prog 121 = 40 := by kernel_rfl
theorem Ty.a121 : Program.isAggT Try.prog 121 = true := by simp only [Program.isAggT, Try.underlying121]
theorem Ty.s121 : scalarT Try.prog 121 = false := by simp only [scalarT, Try.underlying121]
theorem Ty.z121 : Program.zeroOf Try.prog 121 = some (Value.agg #[Value.slice none 0 0, Value.int .i64 0, Value.int .u64 0]) := by kernel_rfl
def Ty.t121 := (And.intro Try.underlying121 (And.intro Ty.c121 (And.intro Ty.b121 (And.intro Ty.a121 (And.intro Ty.s121 Ty.z121)))))
theorem Ty.c133 : Program.cellsOf Try.prog 133 = 5 := by kernel_rfl
theorem Ty.b133 : Program.bytesOf Try.prog 133 = 48 := by kernel_rfl
theorem Ty.a133 : Program.isAggT Try.prog 133 = true := by simp only [Program.isAggT, Try.underlying133]
theorem Ty.s133 : scalarT Try.prog 133 = false := by simp only [scalarT, Try.underlying133]
theorem Ty.z133 : Program.zeroOf Try.prog 133 = some (Value.agg #[Value.string .empty, Value.int .i64 0, Value.int .i64 0, Value.int .i64 0, Value.int .i64 0]) := by kernel_rfl
def Ty.t133 := (And.intro Try.underlying133 (And.intro Ty.c133 (And.intro Ty.b133 (And.intro Ty.a133 (And.intro Ty.s133 Ty.z133)))))
theorem Ty.c138 : Program.cellsOf Try.prog 138 = 1 := by kernel_rfl
theorem Ty.b138 : Program.bytesOf Try.prog 138 = 24 := by kernel_rfl
theorem Ty.a138 : Program.isAggT Try.prog 138 = false := by simp only [Program.isAggT, Try.underlying138]
theorem Ty.s138 : scalarT Try.prog 138 = false := by simp only [scalarT, Try.underlying138]
theorem Ty.z138 : Program.zeroOf Try.prog 138 = some (Value.slice none 0 0) := by kernel_rfl
def Ty.t138 := (And.intro Try.underlying138 (And.intro Ty.c138 (And.intro Ty.b138 (And.intro Ty.a138 (And.intro Ty.s138 Ty.z138)))))
theorem Ty.c141 : Program.cellsOf Try.prog 141 = 5 := by kernel_rfl
theorem Ty.b141 : Program.bytesOf Try.prog 141 = 48 := by kernel_rfl
theorem Ty.a141 : Program.isAggT Try.prog 141 = true := by simp only [Program.isAggT, Try.underlying141]
theorem Ty.s141 : scalarT Try.prog 141 = false := by simp only [scalarT, Try.underlying141]
theorem Ty.z141 : Program.zeroOf Try.prog 141 = some (Value.agg #[Value.string .empty, Value.int .i64 0, Value.int .i64 0, Value.int .i64 0, Value.int .i64 0]) := by kernel_rfl
def Ty.t141 := (And.intro Try.underlying141 (And.intro Ty.c141 (And.intro Ty.b141 (And.intro Ty.a141 (And.intro Ty.s141 Ty.z141)))))
theorem Ty.c144 : Program.cellsOf Try.prog 144 = 1 := by kernel_rfl
theorem Ty.b144 : Program.bytesOf Try.prog 144 = 8 := by kernel_rfl
theorem Ty.a144 : Program.isAggT Try.prog 144 = false := by simp only [Program.isAggT, Try.underlying144]
theorem Ty.s144 : scalarT Try.prog 144 = false := by simp only [scalarT, Try.underlying144]
theorem Ty.z144 : Program.zeroOf Try.prog 144 = some (Value.pointer none) := by kernel_rfl
def Ty.t144 := (And.intro Try.underlying144 (And.intro Ty.c144 (And.intro Ty.b144 (And.intro Ty.a144 (And.intro Ty.s144 Ty.z144)))))
theorem Ty.c166 : Program.cellsOf Try.prog 166 = 1 := by kernel_rfl
theorem Ty.b166 : Program.bytesOf Try.prog 166 = 8 := by kernel_rfl
theorem Ty.a166 : Program.isAggT Try.prog 166 = false := by simp only [Program.isAggT, Try.underlying166]
theorem Ty.s166 : scalarT Try.prog 166 = false := by simp only [scalarT, Try.underlying166]
theorem Ty.z166 : Program.zeroOf Try.prog 166 = some (Value.pointer none) := by kernel_rfl
def Ty.t166 := (And.intro Try.underlying166 (And.intro Ty.c166 (And.intro Ty.b166 (And.intro Ty.a166 (And.intro Ty.s166 Ty.z166)))))
theorem Ty.c182 : Program.cellsOf Try.prog 182 = 3 := by kernel_rfl
theorem Ty.b182 : Program.bytesOf Try.prog 182 = 24 := by kernel_rfl
theorem Ty.a182 : Program.isAggT Try.prog 182 = true := by simp only [Program.isAggT, Try.underlying182]
theorem Ty.s182 : scalarT Try.prog 182 = false := by simp only [scalarT, Try.underlying182]
theorem Ty.z182 : Program.zeroOf Try.prog 182 = some (Value.agg #[Value.int .i64 0, Value.int .i64 0, Value.int .i64 0]) := by kernel_rfl
def Ty.t182 := (And.intro Try.underlying182 (And.intro Ty.c182 (And.intro Ty.b182 (And.intro Ty.a182 (And.intro Ty.s182 Ty.z182)))))
theorem Ty.c184 : Program.cellsOf Try.prog 184 = 3 := by kernel_rfl
theorem Ty.b184 : Program.bytesOf Try.prog 184 = 24 := by kernel_rfl
theorem Ty.a184 : Program.isAggT Try.prog 184 = true := by simp only [Program.isAggT, Try.underlying184]
theorem Ty.s184 : scalarT Try.prog 184 = false := by simp only [scalarT, Try.underlying184]
theorem Ty.z184 : Program.zeroOf Try.prog 184 = some (Value.agg #[Value.int .i64 0, Value.int .i64 0, Value.int .i64 0]) := by kernel_rfl
def Ty.t184 := (And.intro Try.underlying184 (And.intro Ty.c184 (And.intro Ty.b184 (And.intro Ty.a184 (And.intro Ty.s184 Ty.z184)))))
theorem Ty.c192 : Program.cellsOf Try.prog 192 = 4 := by kernel_rfl
theorem Ty.b192 : Program.bytesOf Try.prog 192 = 48 := by kernel_rfl
theorem Ty.a192 : Program.isAggT Try.prog 192 = true := by simp only [Program.isAggT, Try.underlying192]
theorem Ty.s192 : scalarT Try.prog 192 = false := by simp only [scalarT, Try.underlying192]
theorem Ty.z192 : Program.zeroOf Try.prog 192 = some (Value.agg #[Value.int .i64 0, Value.int .i64 0, Value.bool false, Value.slice none 0 0]) := by kernel_rfl
def Ty.t192 := (And.intro Try.underlying192 (And.intro Ty.c192 (And.intro Ty.b192 (And.intro Ty.a192 (And.intro Ty.s192 Ty.z192)))))
theorem Ty.c195 : Program.cellsOf Try.prog 195 = 2 := by kernel_rfl
theorem Ty.b195 : Program.bytesOf Try.prog 195 = 32 := by kernel_rfl
theorem Ty.a195 : Program.isAggT Try.prog 195 = true := by simp only [Program.isAggT, Try.underlying195]
theorem Ty.s195 : scalarT Try.prog 195 = false := by simp only [scalarT, Try.underlying195]
theorem Ty.z195 : Program.zeroOf Try.prog 195 = some (Value.agg #[Value.int .i64 0, Value.slice none 0 0]) := by kernel_rfl
def Ty.t195 := (And.intro Try.underlying195 (And.intro Ty.c195 (And.intro Ty.b195 (And.intro Ty.a195 (And.intro Ty.s195 Ty.z195)))))
theorem Ty.c200 : Program.cellsOf Try.prog 200 = 2 := by kernel_rfl
theorem Ty.b200 : Program.bytesOf Try.prog 200 = 16 := by kernel_rfl
theorem Ty.a200 : Program.isAggT Try.prog 200 = true := by simp only [Program.isAggT, Try.underlying200]
theorem Ty.s200 : scalarT Try.prog 200 = false := by simp only [scalarT, Try.underlying200]
theorem Ty.z200 : Program.zeroOf Try.prog 200 = some (Value.agg #[Value.int .i64 0, Value.int .i64 0]) := by kernel_rfl
def Ty.t200 := (And.intro Try.underlying200 (And.intro Ty.c200 (And.intro Ty.b200 (And.intro Ty.a200 (And.intro Ty.s200 Ty.z200)))))
theorem Ty.c201 : Program.cellsOf Try.prog 201 = 1 := by kernel_rfl
theorem Ty.b201 : Program.bytesOf Try.prog 201 = 24 := by kernel_rfl
theorem Ty.a201 : Program.isAggT Try.prog 201 = false := by simp only [Program.isAggT, Try.underlying201]
theorem Ty.s201 : scalarT Try.prog 201 = false := by simp only [scalarT, Try.underlying201]
theorem Ty.z201 : Program.zeroOf Try.prog 201 = some (Value.slice none 0 0) := by kernel_rfl
def Ty.t201 := (And.intro Try.underlying201 (And.intro Ty.c201 (And.intro Ty.b201 (And.intro Ty.a201 (And.intro Ty.s201 Ty.z201)))))
theorem Ty.c205 : Program.cellsOf Try.prog 205 = 4 := by kernel_rfl
theorem Ty.b205 : Program.bytesOf Try.prog 205 = 48 := by kernel_rfl
theorem Ty.a205 : Program.isAggT Try.prog 205 = true := by simp only [Program.isAggT, Try.underlying205]
theorem Ty.s205 : scalarT Try.prog 205 = false := by simp only [scalarT, Try.underlying205]
theorem Ty.z205 : Program.zeroOf Try.prog 205 = some (Value.agg #[Value.int .i64 0, Value.int .i64 0, Value.bool false, Value.slice none 0 0]) := by kernel_rfl
def Ty.t205 := (And.intro Try.underlying205 (And.intro Ty.c205 (And.intro Ty.b205 (And.intro Ty.a205 (And.intro Ty.s205 Ty.z205)))))
theorem Ty.c207 : Program.cellsOf Try.prog 207 = 2 := by kernel_rfl
theorem Ty.b207 : Program.bytesOf Try.prog 207 = 32 := by kernel_rfl
theorem Ty.a207 : Program.isAggT Try.prog 207 = true := by simp only [Program.isAggT, Try.underlying207]
theorem Ty.s207 : scalarT Try.prog 207 = false := by simp only [scalarT, Try.underlying207]
theorem Ty.z207 : Program.zeroOf Try.prog 207 = some (Value.agg #[Value.int .i64 0, Value.slice none 0 0]) := by kernel_rfl
def Ty.t207 := (And.intro Try.underlying207 (And.intro Ty.c207 (And.intro Ty.b207 (And.intro Ty.a207 (And.intro Ty.s207 Ty.z207)))))
theorem Ty.c216 : Program.cellsOf Try.prog 216 = 1 := by kernel_rfl
theorem Ty.b216 : Program.bytesOf Try.prog 216 = 24 := by kernel_rfl
theorem Ty.a216 : Program.isAggT Try.prog 216 = false := by simp only [Program.isAggT, Try.underlying216]
theorem Ty.s216 : scalarT Try.prog 216 = false := by simp only [scalarT, Try.underlying216]
theorem Ty.z216 : Program.zeroOf Try.prog 216 = some (Value.slice none 0 0) := by kernel_rfl
def Ty.t216 := (And.intro Try.underlying216 (And.intro Ty.c216 (And.intro Ty.b216 (And.intro Ty.a216 (And.intro Ty.s216 Ty.z216)))))
theorem Ty.c219 : Program.cellsOf Try.prog 219 = 4 := by kernel_rfl
theorem Ty.b219 : Program.bytesOf Try.prog 219 = 32 := by kernel_rfl
theorem Ty.a219 : Program.isAggT Try.prog 219 = true := by simp only [Program.isAggT, Try.underlying219]
theorem Ty.s219 : scalarT Try.prog 219 = false := by simp only [scalarT, Try.underlying219]
theorem Ty.z219 : Program.zeroOf Try.prog 219 = some (Value.agg #[Value.int .i64 0, Value.int .i64 0, Value.int .i64 0, Value.int .i64 0]) := by kernel_rfl
def Ty.t219 := (And.intro Try.underlying219 (And.intro Ty.c219 (And.intro Ty.b219 (And.intro Ty.a219 (And.intro Ty.s219 Ty.z219)))))
theorem Ty.c220 : Program.cellsOf Try.prog 220 = 1 := by kernel_rfl
theorem Ty.b220 : Program.bytesOf Try.prog 220 = 8 := by kernel_rfl
theorem Ty.a220 : Program.isAggT Try.prog 220 = false := by simp only [Program.isAggT, Try.underlying220]
theorem Ty.s220 : scalarT Try.prog 220 = true := by simp only [scalarT, Try.underlying220]
theorem Ty.z220 : Program.zeroOf Try.prog 220 = some (Value.int .u64 0) := by kernel_rfl
def Ty.t220 := (And.intro Try.underlying220 (And.intro Ty.c220 (And.intro Ty.b220 (And.intro Ty.a220 (And.intro Ty.s220 Ty.z220)))))
end Go.Proofs.Ytdgenniiidgimaa
