/- Facts about types. No condition. -/
import Derived.Test.YtcdpeopiajgljaaGreatDoorChecked
import Derived.Test.YtcdpeopiajgljaaGreatDoorUmF
set_option linter.unusedSimpArgs false
set_option linter.unusedVariables false
set_option linter.defProp false
namespace Go.Proofs.YtcdpeopiajgljaaGreatDoor
open Go Go.Vm
theorem Ty.c3:Program.cellsOf Tryz.prog 3=1:=by kernel_rfl
theorem Ty.b3:Program.bytesOf Tryz.prog 3=8:=by kernel_rfl
theorem Ty.a3:Program.isAggT Tryz.prog 3=false:=by simp only [Program.isAggT,Tryz.underlying3]
theorem Ty.s3:scalarT Tryz.prog 3=true:=by simp only [scalarT,Tryz.underlying3]
theorem Ty.z3:Program.zeroOf Tryz.prog 3=some (Value.int .i64 0):=by kernel_rfl
def Ty.t3:=(And.intro Tryz.underlying3 (And.intro Ty.c3 (And.intro Ty.b3 (And.intro Ty.a3 (And.intro Ty.s3 Ty.z3)))))
theorem Ty.c4:Program.cellsOf Tryz.prog 4=1:=by kernel_rfl
theorem Ty.b4:Program.bytesOf Tryz.prog 4=1:=by kernel_rfl
theorem Ty.a4:Program.isAggT Tryz.prog 4=false:=by simp only [Program.isAggT,Tryz.underlying4]
theorem Ty.s4:scalarT Tryz.prog 4=true:=by simp only [scalarT,Tryz.underlying4]
theorem Ty.z4:Program.zeroOf Tryz.prog 4=some (Value.bool false):=by kernel_rfl
def Ty.t4:=(And.intro Tryz.underlying4 (And.intro Ty.c4 (And.intro Ty.b4 (And.intro Ty.a4 (And.intro Ty.s4 Ty.z4)))))
theorem Ty.c5:Program.cellsOf Tryz.prog 5=1:=by kernel_rfl
theorem Ty.b5:Program.bytesOf Tryz.prog 5=1:=by kernel_rfl
theorem Ty.a5:Program.isAggT Tryz.prog 5=false:=by simp only [Program.isAggT,Tryz.underlying5]
theorem Ty.s5:scalarT Tryz.prog 5=true:=by simp only [scalarT,Tryz.underlying5]
theorem Ty.z5:Program.zeroOf Tryz.prog 5=some (Value.int .u8 0):=by kernel_rfl
def Ty.t5:=(And.intro Tryz.underlying5 (And.intro Ty.c5 (And.intro Ty.b5 (And.intro Ty.a5 (And.intro Ty.s5 Ty.z5)))))
theorem Ty.c9:Program.cellsOf Tryz.prog 9=1:=by kernel_rfl
theorem Ty.b9:Program.bytesOf Tryz.prog 9=16:=by kernel_rfl
theorem Ty.a9:Program.isAggT Tryz.prog 9=false:=by simp only [Program.isAggT,Tryz.underlying9]
theorem Ty.s9:scalarT Tryz.prog 9=true:=by simp only [scalarT,Tryz.underlying9]
theorem Ty.z9:Program.zeroOf Tryz.prog 9=some (Value.string .empty):=by kernel_rfl
def Ty.t9:=(And.intro Tryz.underlying9 (And.intro Ty.c9 (And.intro Ty.b9 (And.intro Ty.a9 (And.intro Ty.s9 Ty.z9)))))
theorem Ty.c22:Program.cellsOf Tryz.prog 22=1:=by kernel_rfl
theorem Ty.b22:Program.bytesOf Tryz.prog 22=24:=by kernel_rfl
theorem Ty.a22:Program.isAggT Tryz.prog 22=false:=by simp only [Program.isAggT,Tryz.underlying22]
theorem Ty.s22:scalarT Tryz.prog 22=false:=by simp only [scalarT,Tryz.underlying22]
theorem Ty.z22:Program.zeroOf Tryz.prog 22=some (Value.slice none 0 0):=by kernel_rfl
def Ty.t22:=(And.intro Tryz.underlying22 (And.intro Ty.c22 (And.intro Ty.b22 (And.intro Ty.a22 (And.intro Ty.s22 Ty.z22)))))
theorem Ty.c24:Program.cellsOf Tryz.prog 24=1:=by kernel_rfl
theorem Ty.b24:Program.bytesOf Tryz.prog 24=24:=by kernel_rfl
theorem Ty.a24:Program.isAggT Tryz.prog 24=false:=by simp only [Program.isAggT,Tryz.underlying24]
theorem Ty.s24:scalarT Tryz.prog 24=false:=by simp only [scalarT,Tryz.underlying24]
theorem Ty.z24:Program.zeroOf Tryz.prog 24=some (Value.slice none 0 0):=by kernel_rfl
def Ty.t24:=(And.intro Tryz.underlying24 (And.intro Ty.c24 (And.intro Ty.b24 (And.intro Ty.a24 (And.intro Ty.s24 Ty.z24)))))
theorem Ty.c26:Program.cellsOf Tryz.prog 26=5:=by kernel_rfl
theorem Ty.b26:Program.bytesOf Tryz.prog 26=40:=by kernel_rfl
theorem Ty.a26:Program.isAggT Tryz.prog 26=true:=by simp only [Program.isAggT,Tryz.underlying26]
theorem Ty.s26:scalarT Tryz.prog 26=false:=by simp only [scalarT,Tryz.underlying26]
theorem Ty.z26:Program.zeroOf Tryz.prog 26=some (Value.agg #[Value.int .i64 0,Value.int .i64 0,Value.int .i64 0,Value.int .i64 0,Value.int .i64 0]):=by kernel_rfl
theorem Ty.q26:eqT Tryz.prog 26=some [.int .i64,.int .i64,.int .i64,.int .i64,.int .i64]:=by kernel_rfl
def Ty.t26:=(And.intro Tryz.underlying26 (And.intro Ty.c26 (And.intro Ty.b26 (And.intro Ty.a26 (And.intro Ty.s26 (And.intro Ty.q26 Ty.z26))))))
theorem Ty.c35:Program.cellsOf Tryz.prog 35=1:=by kernel_rfl
theorem Ty.b35:Program.bytesOf Tryz.prog 35=24:=by kernel_rfl
theorem Ty.a35:Program.isAggT Tryz.prog 35=false:=by simp only [Program.isAggT,Tryz.underlying35]
theorem Ty.s35:scalarT Tryz.prog 35=false:=by simp only [scalarT,Tryz.underlying35]
theorem Ty.z35:Program.zeroOf Tryz.prog 35=some (Value.slice none 0 0):=by kernel_rfl
def Ty.t35:=(And.intro Tryz.underlying35 (And.intro Ty.c35 (And.intro Ty.b35 (And.intro Ty.a35 (And.intro Ty.s35 Ty.z35)))))
theorem Ty.c51:Program.cellsOf Tryz.prog 51=1:=by kernel_rfl
theorem Ty.b51:Program.bytesOf Tryz.prog 51=8:=by kernel_rfl
theorem Ty.a51:Program.isAggT Tryz.prog 51=false:=by simp only [Program.isAggT,Tryz.underlying51]
theorem Ty.s51:scalarT Tryz.prog 51=false:=by simp only [scalarT,Tryz.underlying51]
theorem Ty.z51:Program.zeroOf Tryz.prog 51=some (Value.pointer none):=by kernel_rfl
def Ty.t51:=(And.intro Tryz.underlying51 (And.intro Ty.c51 (And.intro Ty.b51 (And.intro Ty.a51 (And.intro Ty.s51 Ty.z51)))))
theorem Ty.c52:Program.cellsOf Tryz.prog 52=1:=by kernel_rfl
theorem Ty.b52:Program.bytesOf Tryz.prog 52=8:=by kernel_rfl
theorem Ty.a52:Program.isAggT Tryz.prog 52=false:=by simp only [Program.isAggT,Tryz.underlying52]
theorem Ty.s52:scalarT Tryz.prog 52=true:=by simp only [scalarT,Tryz.underlying52]
theorem Ty.z52:Program.zeroOf Tryz.prog 52=some (Value.int .u64 0):=by kernel_rfl
def Ty.t52:=(And.intro Tryz.underlying52 (And.intro Ty.c52 (And.intro Ty.b52 (And.intro Ty.a52 (And.intro Ty.s52 Ty.z52)))))
theorem Ty.c54:Program.cellsOf Tryz.prog 54=3:=by kernel_rfl
theorem Ty.b54:Program.bytesOf Tryz.prog 54=40:=by kernel_rfl
theorem Ty.a54:Program.isAggT Tryz.prog 54=true:=by simp only [Program.isAggT,Tryz.underlying54]
theorem Ty.s54:scalarT Tryz.prog 54=false:=by simp only [scalarT,Tryz.underlying54]
theorem Ty.z54:Program.zeroOf Tryz.prog 54=some (Value.agg #[Value.slice none 0 0,Value.int .i64 0,Value.int .u64 0]):=by kernel_rfl
def Ty.t54:=(And.intro Tryz.underlying54 (And.intro Ty.c54 (And.intro Ty.b54 (And.intro Ty.a54 (And.intro Ty.s54 Ty.z54)))))
theorem Ty.c71:Program.cellsOf Tryz.prog 71=1:=by kernel_rfl
theorem Ty.b71:Program.bytesOf Tryz.prog 71=24:=by kernel_rfl
theorem Ty.a71:Program.isAggT Tryz.prog 71=false:=by simp only [Program.isAggT,Tryz.underlying71]
theorem Ty.s71:scalarT Tryz.prog 71=false:=by simp only [scalarT,Tryz.underlying71]
theorem Ty.z71:Program.zeroOf Tryz.prog 71=some (Value.slice none 0 0):=by kernel_rfl
def Ty.t71:=(And.intro Tryz.underlying71 (And.intro Ty.c71 (And.intro Ty.b71 (And.intro Ty.a71 (And.intro Ty.s71 Ty.z71)))))
theorem Ty.c83:Program.cellsOf Tryz.prog 83=1:=by kernel_rfl
theorem Ty.b83:Program.bytesOf Tryz.prog 83=8:=by kernel_rfl
theorem Ty.a83:Program.isAggT Tryz.prog 83=false:=by simp only [Program.isAggT,Tryz.underlying83]
theorem Ty.s83:scalarT Tryz.prog 83=true:=by simp only [scalarT,Tryz.underlying83]
theorem Ty.z83:Program.zeroOf Tryz.prog 83=some (Value.int .u64 0):=by kernel_rfl
def Ty.t83:=(And.intro Tryz.underlying83 (And.intro Ty.c83 (And.intro Ty.b83 (And.intro Ty.a83 (And.intro Ty.s83 Ty.z83)))))
theorem Ty.c93:Program.cellsOf Tryz.prog 93=1:=by kernel_rfl
theorem Ty.b93:Program.bytesOf Tryz.prog 93=8:=by kernel_rfl
theorem Ty.a93:Program.isAggT Tryz.prog 93=false:=by simp only [Program.isAggT,Tryz.underlying93]
theorem Ty.s93:scalarT Tryz.prog 93=false:=by simp only [scalarT,Tryz.underlying93]
theorem Ty.z93:Program.zeroOf Tryz.prog 93=some (Value.pointer none):=by kernel_rfl
def Ty.t93:=(And.intro Tryz.underlying93 (And.intro Ty.c93 (And.intro Ty.b93 (And.intro Ty.a93 (And.intro Ty.s93 Ty.z93)))))
theorem Ty.c95:Program.cellsOf Tryz.prog 95=2:=by kernel_rfl
theorem Ty.b95:Program.bytesOf Tryz.prog 95=32:=by kernel_rfl
theorem Ty.a95:Program.isAggT Tryz.prog 95=true:=by simp only [Program.isAggT,Tryz.underlying95]
theorem Ty.s95:scalarT Tryz.prog 95=false:=by simp only [scalarT,Tryz.underlying95]
theorem Ty.z95:Program.zeroOf Tryz.prog 95=some (Value.agg #[Value.pointer none,Value.slice none 0 0]):=by kernel_rfl
def Ty.t95:=(And.intro Tryz.underlying95 (And.intro Ty.c95 (And.intro Ty.b95 (And.intro Ty.a95 (And.intro Ty.s95 Ty.z95)))))
theorem Ty.c107:Program.cellsOf Tryz.prog 107=1:=by kernel_rfl
theorem Ty.b107:Program.bytesOf Tryz.prog 107=8:=by kernel_rfl
theorem Ty.a107:Program.isAggT Tryz.prog 107=false:=by simp only [Program.isAggT,Tryz.underlying107]
theorem Ty.s107:scalarT Tryz.prog 107=false:=by simp only [scalarT,Tryz.underlying107]
theorem Ty.z107:Program.zeroOf Tryz.prog 107=some (Value.pointer none):=by kernel_rfl
def Ty.t107:=(And.intro Tryz.underlying107 (And.intro Ty.c107 (And.intro Ty.b107 (And.intro Ty.a107 (And.intro Ty.s107 Ty.z107)))))
theorem Ty.c129:Program.cellsOf Tryz.prog 129=3:=by kernel_rfl
theorem Ty.b129:Program.bytesOf Tryz.prog 129=48:=by kernel_rfl
theorem Ty.a129:Program.isAggT Tryz.prog 129=true:=by simp only [Program.isAggT,Tryz.underlying129]
theorem Ty.s129:scalarT Tryz.prog 129=false:=by simp only [scalarT,Tryz.underlying129]
def Ty.t129:=(And.intro Tryz.underlying129 (And.intro Ty.c129 (And.intro Ty.b129 (And.intro Ty.a129 Ty.s129))))
end Go.Proofs.YtcdpeopiajgljaaGreatDoor
