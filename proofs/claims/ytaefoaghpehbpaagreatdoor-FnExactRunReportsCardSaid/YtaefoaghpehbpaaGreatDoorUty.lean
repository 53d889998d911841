/- Facts about types. No condition. -/
import Derived.Test.YtaefoaghpehbpaaGreatDoorChecked
import Derived.Test.YtaefoaghpehbpaaGreatDoorUmF
set_option linter.unusedSimpArgs false
set_option linter.unusedVariables false
set_option linter.defProp false
namespace Go.Proofs.YtaefoaghpehbpaaGreatDoor
open Go Go.Vm
theorem Ty.c3:Program.cellsOf Tryz.prog 3=1:=by kernel_rfl
theorem Ty.b3:Program.bytesOf Tryz.prog 3=8:=by kernel_rfl
theorem Ty.a3:Program.isAggT Tryz.prog 3=false:=by simp only [Program.isAggT,Tryz.underlying3]
theorem Ty.s3:scalarT Tryz.prog 3=true:=by simp only [scalarT,Tryz.underlying3]
theorem Ty.z3:Program.zeroOf Tryz.prog 3=some (Value.int .i64 0):=by kernel_rfl
def Ty.t3:=(And.intro Tryz.underlying3 (And.intro Ty.c3 (And.intro Ty.b3 (And.intro Ty.a3 (And.intro Ty.s3 Ty.z3)))))
theorem Ty.c4:Program.cellsOf Tryz.prog 4=1:=by kernel_rfl
theorem Ty.b4:Program.bytesOf Tryz.prog 4=1:=by kernel_rfl
theorem Ty.a4:Program.isAggT Tryz.prog 4=false:=by simp only [Program.isAggT,Tryz.underlying4]
theorem Ty.s4:scalarT Tryz.prog 4=true:=by simp only [scalarT,Tryz.underlying4]
theorem Ty.z4:Program.zeroOf Tryz.prog 4=some (Value.bool false):=by kernel_rfl
def Ty.t4:=(And.intro Tryz.underlying4 (And.intro Ty.c4 (And.intro Ty.b4 (And.intro Ty.a4 (And.intro Ty.s4 Ty.z4)))))
theorem Ty.c5:Program.cellsOf Tryz.prog 5=1:=by kernel_rfl
theorem Ty.b5:Program.bytesOf Tryz.prog 5=1:=by kernel_rfl
theorem Ty.a5:Program.isAggT Tryz.prog 5=false:=by simp only [Program.isAggT,Tryz.underlying5]
theorem Ty.s5:scalarT Tryz.prog 5=true:=by simp only [scalarT,Tryz.underlying5]
theorem Ty.z5:Program.zeroOf Tryz.prog 5=some (Value.int .u8 0):=by kernel_rfl
def Ty.t5:=(And.intro Tryz.underlying5 (And.intro Ty.c5 (And.intro Ty.b5 (And.intro Ty.a5 (And.intro Ty.s5 Ty.z5)))))
theorem Ty.c9:Program.cellsOf Tryz.prog 9=1:=by kernel_rfl
theorem Ty.b9:Program.bytesOf Tryz.prog 9=16:=by kernel_rfl
theorem Ty.a9:Program.isAggT Tryz.prog 9=false:=by simp only [Program.isAggT,Tryz.underlying9]
theorem Ty.s9:scalarT Tryz.prog 9=true:=by simp only [scalarT,Tryz.underlying9]
theorem Ty.z9:Program.zeroOf Tryz.prog 9=some (Value.string .empty):=by kernel_rfl
def Ty.t9:=(And.intro Tryz.underlying9 (And.intro Ty.c9 (And.intro Ty.b9 (And.intro Ty.a9 (And.intro Ty.s9 Ty.z9)))))
theorem Ty.c22:Program.cellsOf Tryz.prog 22=1:=by kernel_rfl
theorem Ty.b22:Program.bytesOf Tryz.prog 22=24:=by kernel_rfl
theorem Ty.a22:Program.isAggT Tryz.prog 22=false:=by simp only [Program.isAggT,Tryz.underlying22]
theorem Ty.s22:scalarT Tryz.prog 22=false:=by simp only [scalarT,Tryz.underlying22]
theorem Ty.z22:Program.zeroOf Tryz.prog 22=some (Value.slice none 0 0):=by kernel_rfl
def Ty.t22:=(And.intro Tryz.underlying22 (And.intro Ty.c22 (And.intro Ty.b22 (And.intro Ty.a22 (And.intro Ty.s22 Ty.z22)))))
theorem Ty.c24:Program.cellsOf Tryz.prog 24=2:=by kernel_rfl
theorem Ty.b24:Program.bytesOf Tryz.prog 24=32:=by kernel_rfl
theorem Ty.a24:Program.isAggT Tryz.prog 24=true:=by simp only [Program.isAggT,Tryz.underlying24]
theorem Ty.s24:scalarT Tryz.prog 24=false:=by simp only [scalarT,Tryz.underlying24]
theorem Ty.z24:Program.zeroOf Tryz.prog 24=some (Value.agg #[Value.int .i64 0,Value.slice none 0 0]):=by kernel_rfl
def Ty.t24:=(And.intro Tryz.underlying24 (And.intro Ty.c24 (And.intro Ty.b24 (And.intro Ty.a24 (And.intro Ty.s24 Ty.z24)))))
theorem Ty.c25:Program.cellsOf Tryz.prog 25=1:=by kernel_rfl
theorem Ty.b25:Program.bytesOf Tryz.prog 25=24:=by kernel_rfl
theorem Ty.a25:Program.isAggT Tryz.prog 25=false:=by simp only [Program.isAggT,Tryz.underlying25]
theorem Ty.s25:scalarT Tryz.prog 25=false:=by simp only [scalarT,Tryz.underlying25]
theorem Ty.z25:Program.zeroOf Tryz.prog 25=some (Value.slice none 0 0):=by kernel_rfl
def Ty.t25:=(And.intro Tryz.underlying25 (And.intro Ty.c25 (And.intro Ty.b25 (And.intro Ty.a25 (And.intro Ty.s25 Ty.z25)))))
theorem Ty.c26:Program.cellsOf Tryz.prog 26=1:=by kernel_rfl
theorem Ty.b26:Program.bytesOf Tryz.prog 26=24:=by kernel_rfl
theorem Ty.a26:Program.isAggT Tryz.prog 26=false:=by simp only [Program.isAggT,Tryz.underlying26]
theorem Ty.s26:scalarT Tryz.prog 26=false:=by simp only [scalarT,Tryz.underlying26]
theorem Ty.z26:Program.zeroOf Tryz.prog 26=some (Value.slice none 0 0):=by kernel_rfl
def Ty.t26:=(And.intro Tryz.underlying26 (And.intro Ty.c26 (And.intro Ty.b26 (And.intro Ty.a26 (And.intro Ty.s26 Ty.z26)))))
theorem Ty.c27:Program.cellsOf Tryz.prog 27=1:=by kernel_rfl
theorem Ty.b27:Program.bytesOf Tryz.prog 27=24:=by kernel_rfl
theorem Ty.a27:Program.isAggT Tryz.prog 27=false:=by simp only [Program.isAggT,Tryz.underlying27]
theorem Ty.s27:scalarT Tryz.prog 27=false:=by simp only [scalarT,Tryz.underlying27]
theorem Ty.z27:Program.zeroOf Tryz.prog 27=some (Value.slice none 0 0):=by kernel_rfl
def Ty.t27:=(And.intro Tryz.underlying27 (And.intro Ty.c27 (And.intro Ty.b27 (And.intro Ty.a27 (And.intro Ty.s27 Ty.z27)))))
theorem Ty.c29:Program.cellsOf Tryz.prog 29=3:=by kernel_rfl
theorem Ty.b29:Program.bytesOf Tryz.prog 29=72:=by kernel_rfl
theorem Ty.a29:Program.isAggT Tryz.prog 29=true:=by simp only [Program.isAggT,Tryz.underlying29]
theorem Ty.s29:scalarT Tryz.prog 29=false:=by simp only [scalarT,Tryz.underlying29]
theorem Ty.z29:Program.zeroOf Tryz.prog 29=some (Value.agg #[Value.slice none 0 0,Value.slice none 0 0,Value.slice none 0 0]):=by kernel_rfl
def Ty.t29:=(And.intro Tryz.underlying29 (And.intro Ty.c29 (And.intro Ty.b29 (And.intro Ty.a29 (And.intro Ty.s29 Ty.z29)))))
theorem Ty.c34:Program.cellsOf Tryz.prog 34=1:=by kernel_rfl
theorem Ty.b34:Program.bytesOf Tryz.prog 34=24:=by kernel_rfl
theorem Ty.a34:Program.isAggT Tryz.prog 34=false:=by simp only [Program.isAggT,Tryz.underlying34]
theorem Ty.s34:scalarT Tryz.prog 34=false:=by simp only [scalarT,Tryz.underlying34]
theorem Ty.z34:Program.zeroOf Tryz.prog 34=some (Value.slice none 0 0):=by kernel_rfl
def Ty.t34:=(And.intro Tryz.underlying34 (And.intro Ty.c34 (And.intro Ty.b34 (And.intro Ty.a34 (And.intro Ty.s34 Ty.z34)))))
theorem Ty.c36:Program.cellsOf Tryz.prog 36=2:=by kernel_rfl
theorem Ty.b36:Program.bytesOf Tryz.prog 36=32:=by kernel_rfl
theorem Ty.a36:Program.isAggT Tryz.prog 36=true:=by simp only [Program.isAggT,Tryz.underlying36]
theorem Ty.s36:scalarT Tryz.prog 36=false:=by simp only [scalarT,Tryz.underlying36]
theorem Ty.z36:Program.zeroOf Tryz.prog 36=some (Value.agg #[Value.int .i64 0,Value.slice none 0 0]):=by kernel_rfl
def Ty.t36:=(And.intro Tryz.underlying36 (And.intro Ty.c36 (And.intro Ty.b36 (And.intro Ty.a36 (And.intro Ty.s36 Ty.z36)))))
theorem Ty.c38:Program.cellsOf Tryz.prog 38=1:=by kernel_rfl
theorem Ty.b38:Program.bytesOf Tryz.prog 38=24:=by kernel_rfl
theorem Ty.a38:Program.isAggT Tryz.prog 38=false:=by simp only [Program.isAggT,Tryz.underlying38]
theorem Ty.s38:scalarT Tryz.prog 38=false:=by simp only [scalarT,Tryz.underlying38]
theorem Ty.z38:Program.zeroOf Tryz.prog 38=some (Value.slice none 0 0):=by kernel_rfl
def Ty.t38:=(And.intro Tryz.underlying38 (And.intro Ty.c38 (And.intro Ty.b38 (And.intro Ty.a38 (And.intro Ty.s38 Ty.z38)))))
theorem Ty.c39:Program.cellsOf Tryz.prog 39=1:=by kernel_rfl
theorem Ty.b39:Program.bytesOf Tryz.prog 39=24:=by kernel_rfl
theorem Ty.a39:Program.isAggT Tryz.prog 39=false:=by simp only [Program.isAggT,Tryz.underlying39]
theorem Ty.s39:scalarT Tryz.prog 39=false:=by simp only [scalarT,Tryz.underlying39]
theorem Ty.z39:Program.zeroOf Tryz.prog 39=some (Value.slice none 0 0):=by kernel_rfl
def Ty.t39:=(And.intro Tryz.underlying39 (And.intro Ty.c39 (And.intro Ty.b39 (And.intro Ty.a39 (And.intro Ty.s39 Ty.z39)))))
theorem Ty.c40:Program.cellsOf Tryz.prog 40=1:=by kernel_rfl
theorem Ty.b40:Program.bytesOf Tryz.prog 40=24:=by kernel_rfl
theorem Ty.a40:Program.isAggT Tryz.prog 40=false:=by simp only [Program.isAggT,Tryz.underlying40]
theorem Ty.s40:scalarT Tryz.prog 40=false:=by simp only [scalarT,Tryz.underlying40]
theorem Ty.z40:Program.zeroOf Tryz.prog 40=some (Value.slice none 0 0):=by kernel_rfl
def Ty.t40:=(And.intro Tryz.underlying40 (And.intro Ty.c40 (And.intro Ty.b40 (And.intro Ty.a40 (And.intro Ty.s40 Ty.z40)))))
theorem Ty.c42:Program.cellsOf Tryz.prog 42=3:=by kernel_rfl
theorem Ty.b42:Program.bytesOf Tryz.prog 42=72:=by kernel_rfl
theorem Ty.a42:Program.isAggT Tryz.prog 42=true:=by simp only [Program.isAggT,Tryz.underlying42]
theorem Ty.s42:scalarT Tryz.prog 42=false:=by simp only [scalarT,Tryz.underlying42]
theorem Ty.z42:Program.zeroOf Tryz.prog 42=some (Value.agg #[Value.slice none 0 0,Value.slice none 0 0,Value.slice none 0 0]):=by kernel_rfl
def Ty.t42:=(And.intro Tryz.underlying42 (And.intro Ty.c42 (And.intro Ty.b42 (And.intro Ty.a42 (And.intro Ty.s42 Ty.z42)))))
theorem Ty.c47:Program.cellsOf Tryz.prog 47=1:=by kernel_rfl
theorem Ty.b47:Program.bytesOf Tryz.prog 47=24:=by kernel_rfl
theorem Ty.a47:Program.isAggT Tryz.prog 47=false:=by simp only [Program.isAggT,Tryz.underlying47]
theorem Ty.s47:scalarT Tryz.prog 47=false:=by simp only [scalarT,Tryz.underlying47]
theorem Ty.z47:Program.zeroOf Tryz.prog 47=some (Value.slice none 0 0):=by kernel_rfl
def Ty.t47:=(And.intro Tryz.underlying47 (And.intro Ty.c47 (And.intro Ty.b47 (And.intro Ty.a47 (And.intro Ty.s47 Ty.z47)))))
theorem Ty.c49:Program.cellsOf Tryz.prog 49=1:=by kernel_rfl
theorem Ty.b49:Program.bytesOf Tryz.prog 49=24:=by kernel_rfl
theorem Ty.a49:Program.isAggT Tryz.prog 49=false:=by simp only [Program.isAggT,Tryz.underlying49]
theorem Ty.s49:scalarT Tryz.prog 49=false:=by simp only [scalarT,Tryz.underlying49]
theorem Ty.z49:Program.zeroOf Tryz.prog 49=some (Value.slice none 0 0):=by kernel_rfl
def Ty.t49:=(And.intro Tryz.underlying49 (And.intro Ty.c49 (And.intro Ty.b49 (And.intro Ty.a49 (And.intro Ty.s49 Ty.z49)))))
theorem Ty.c59:Program.cellsOf Tryz.prog 59=1:=by kernel_rfl
theorem Ty.b59:Program.bytesOf Tryz.prog 59=24:=by kernel_rfl
theorem Ty.a59:Program.isAggT Tryz.prog 59=false:=by simp only [Program.isAggT,Tryz.underlying59]
theorem Ty.s59:scalarT Tryz.prog 59=false:=by simp only [scalarT,Tryz.underlying59]
theorem Ty.z59:Program.zeroOf Tryz.prog 59=some (Value.slice none 0 0):=by kernel_rfl
def Ty.t59:=(And.intro Tryz.underlying59 (And.intro Ty.c59 (And.intro Ty.b59 (And.intro Ty.a59 (And.intro Ty.s59 Ty.z59)))))
theorem Ty.c76:Program.cellsOf Tryz.prog 76=5:=by kernel_rfl
theorem Ty.b76:Program.bytesOf Tryz.prog 76=48:=by kernel_rfl
theorem Ty.a76:Program.isAggT Tryz.prog 76=true:=by simp only [Program.isAggT,Tryz.underlying76]
theorem Ty.s76:scalarT Tryz.prog 76=false:=by simp only [scalarT,Tryz.underlying76]
theorem Ty.z76:Program.zeroOf Tryz.prog 76=some (Value.agg #[Value.string .empty,Value.int .i64 0,Value.int .i64 0,Value.int .i64 0,Value.int .i64 0]):=by kernel_rfl
theorem Ty.q76:eqT Tryz.prog 76=some [.str,.int .i64,.int .i64,.int .i64,.int .i64]:=by kernel_rfl
def Ty.t76:=(And.intro Tryz.underlying76 (And.intro Ty.c76 (And.intro Ty.b76 (And.intro Ty.a76 (And.intro Ty.s76 (And.intro Ty.q76 Ty.z76))))))
theorem Ty.c78:Program.cellsOf Tryz.prog 78=4:=by kernel_rfl
theorem Ty.b78:Program.bytesOf Tryz.prog 78=48:=by kernel_rfl
theorem Ty.a78:Program.isAggT Tryz.prog 78=true:=by simp only [Program.isAggT,Tryz.underlying78]
theorem Ty.s78:scalarT Tryz.prog 78=false:=by simp only [scalarT,Tryz.underlying78]
theorem Ty.z78:Program.zeroOf Tryz.prog 78=some (Value.agg #[Value.int .i64 0,Value.int .i64 0,Value.bool false,Value.slice none 0 0]):=by kernel_rfl
def Ty.t78:=(And.intro Tryz.underlying78 (And.intro Ty.c78 (And.intro Ty.b78 (And.intro Ty.a78 (And.intro Ty.s78 Ty.z78)))))
theorem Ty.c95:Program.cellsOf Tryz.prog 95=2:=by kernel_rfl
theorem Ty.b95:Program.bytesOf Tryz.prog 95=32:=by kernel_rfl
theorem Ty.a95:Program.isAggT Tryz.prog 95=true:=by simp only [Program.isAggT,Tryz.underlying95]
theorem Ty.s95:scalarT Tryz.prog 95=false:=by simp only [scalarT,Tryz.underlying95]
theorem Ty.z95:Program.zeroOf Tryz.prog 95=some (Value.agg #[Value.int .i64 0,Value.slice none 0 0]):=by kernel_rfl
def Ty.t95:=(And.intro Tryz.underlying95 (And.intro Ty.c95 (And.intro Ty.b95 (And.intro Ty.a95 (And.intro Ty.s95 Ty.z95)))))
theorem Ty.c102:Program.cellsOf Tryz.prog 102=1:=by kernel_rfl
theorem Ty.b102:Program.bytesOf Tryz.prog 102=8:=by kernel_rfl
theorem Ty.a102:Program.isAggT Tryz.prog 102=false:=by simp only [Program.isAggT,Tryz.underlying102]
theorem Ty.s102:scalarT Tryz.prog 102=false:=by simp only [scalarT,Tryz.underlying102]
theorem Ty.z102:Program.zeroOf Tryz.prog 102=some (Value.pointer none):=by kernel_rfl
def Ty.t102:=(And.intro Tryz.underlying102 (And.intro Ty.c102 (And.intro Ty.b102 (And.intro Ty.a102 (And.intro Ty.s102 Ty.z102)))))
theorem Ty.c104:Program.cellsOf Tryz.prog 104=1:=by kernel_rfl
theorem Ty.b104:Program.bytesOf Tryz.prog 104=8:=by kernel_rfl
theorem Ty.a104:Program.isAggT Tryz.prog 104=false:=by simp only [Program.isAggT,Tryz.underlying104]
theorem Ty.s104:scalarT Tryz.prog 104=false:=by simp only [scalarT,Tryz.underlying104]
theorem Ty.z104:Program.zeroOf Tryz.prog 104=some (Value.pointer none):=by kernel_rfl
def Ty.t104:=(And.intro Tryz.underlying104 (And.intro Ty.c104 (And.intro Ty.b104 (And.intro Ty.a104 (And.intro Ty.s104 Ty.z104)))))
theorem Ty.c123:Program.cellsOf Tryz.prog 123=1:=by kernel_rfl
theorem Ty.b123:Program.bytesOf Tryz.prog 123=8:=by kernel_rfl
theorem Ty.a123:Program.isAggT Tryz.prog 123=false:=by simp only [Program.isAggT,Tryz.underlying123]
theorem Ty.s123:scalarT Tryz.prog 123=false:=by simp only [scalarT,Tryz.underlying123]
theorem Ty.z123:Program.zeroOf Tryz.prog 123=some (Value.pointer none):=by kernel_rfl
def Ty.t123:=(And.intro Tryz.underlying123 (And.intro Ty.c123 (And.intro Ty.b123 (And.intro Ty.a123 (And.intro Ty.s123 Ty.z123)))))
theorem Ty.c124:Program.cellsOf Tryz.prog 124=1:=by kernel_rfl
theorem Ty.b124:Program.bytesOf Tryz.prog 124=8:=by kernel_rfl
theorem Ty.a124:Program.isAggT Tryz.prog 124=false:=by simp only [Program.isAggT,Tryz.underlying124]
theorem Ty.s124:scalarT Tryz.prog 124=true:=by simp only [scalarT,Tryz.underlying124]
theorem Ty.z124:Program.zeroOf Tryz.prog 124=some (Value.int .u64 0):=by kernel_rfl
def Ty.t124:=(And.intro Tryz.underlying124 (And.intro Ty.c124 (And.intro Ty.b124 (And.intro Ty.a124 (And.intro Ty.s124 Ty.z124)))))
theorem Ty.c126:Program.cellsOf Tryz.prog 126=3:=by kernel_rfl
theorem Ty.b126:Program.bytesOf Tryz.prog 126=40:=by kernel_rfl
theorem Ty.a126:Program.isAggT Tryz.prog 126=true:=by simp only [Program.isAggT,Tryz.underlying126]
theorem Ty.s126:scalarT Tryz.prog 126=false:=by simp only [scalarT,Tryz.underlying126]
theorem Ty.z126:Program.zeroOf Tryz.prog 126=some (Value.agg #[Value.slice none 0 0,Value.int .i64 0,Value.int .u64 0]):=by kernel_rfl
def Ty.t126:=(And.intro Tryz.underlying126 (And.intro Ty.c126 (And.intro Ty.b126 (And.intro Ty.a126 (And.intro Ty.s126 Ty.z126)))))
theorem Ty.c145:Program.cellsOf Tryz.prog 145=5:=by kernel_rfl
theorem Ty.b145:Program.bytesOf Tryz.prog 145=48:=by kernel_rfl
theorem Ty.a145:Program.isAggT Tryz.prog 145=true:=by simp only [Program.isAggT,Tryz.underlying145]
theorem Ty.s145:scalarT Tryz.prog 145=false:=by simp only [scalarT,Tryz.underlying145]
theorem Ty.z145:Program.zeroOf Tryz.prog 145=some (Value.agg #[Value.string .empty,Value.int .i64 0,Value.int .i64 0,Value.int .i64 0,Value.int .i64 0]):=by kernel_rfl
theorem Ty.q145:eqT Tryz.prog 145=some [.str,.int .i64,.int .i64,.int .i64,.int .i64]:=by kernel_rfl
def Ty.t145:=(And.intro Tryz.underlying145 (And.intro Ty.c145 (And.intro Ty.b145 (And.intro Ty.a145 (And.intro Ty.s145 (And.intro Ty.q145 Ty.z145))))))
theorem Ty.c147:Program.cellsOf Tryz.prog 147=4:=by kernel_rfl
theorem Ty.b147:Program.bytesOf Tryz.prog 147=48:=by kernel_rfl
theorem Ty.a147:Program.isAggT Tryz.prog 147=true:=by simp only [Program.isAggT,Tryz.underlying147]
theorem Ty.s147:scalarT Tryz.prog 147=false:=by simp only [scalarT,Tryz.underlying147]
theorem Ty.z147:Program.zeroOf Tryz.prog 147=some (Value.agg #[Value.int .i64 0,Value.int .i64 0,Value.bool false,Value.slice none 0 0]):=by kernel_rfl
def Ty.t147:=(And.intro Tryz.underlying147 (And.intro Ty.c147 (And.intro Ty.b147 (And.intro Ty.a147 (And.intro Ty.s147 Ty.z147)))))
theorem Ty.c149:Program.cellsOf Tryz.prog 149=2:=by kernel_rfl
theorem Ty.b149:Program.bytesOf Tryz.prog 149=32:=by kernel_rfl
theorem Ty.a149:Program.isAggT Tryz.prog 149=true:=by simp only [Program.isAggT,Tryz.underlying149]
theorem Ty.s149:scalarT Tryz.prog 149=false:=by simp only [scalarT,Tryz.underlying149]
theorem Ty.z149:Program.zeroOf Tryz.prog 149=some (Value.agg #[Value.int .i64 0,Value.slice none 0 0]):=by kernel_rfl
def Ty.t149:=(And.intro Tryz.underlying149 (And.intro Ty.c149 (And.intro Ty.b149 (And.intro Ty.a149 (And.intro Ty.s149 Ty.z149)))))
theorem Ty.c153:Program.cellsOf Tryz.prog 153=3:=by kernel_rfl
theorem Ty.b153:Program.bytesOf Tryz.prog 153=24:=by kernel_rfl
theorem Ty.a153:Program.isAggT Tryz.prog 153=true:=by simp only [Program.isAggT,Tryz.underlying153]
theorem Ty.s153:scalarT Tryz.prog 153=false:=by simp only [scalarT,Tryz.underlying153]
theorem Ty.z153:Program.zeroOf Tryz.prog 153=some (Value.agg #[Value.int .i64 0,Value.int .i64 0,Value.int .i64 0]):=by kernel_rfl
theorem Ty.q153:eqT Tryz.prog 153=some [.int .i64,.int .i64,.int .i64]:=by kernel_rfl
def Ty.t153:=(And.intro Tryz.underlying153 (And.intro Ty.c153 (And.intro Ty.b153 (And.intro Ty.a153 (And.intro Ty.s153 (And.intro Ty.q153 Ty.z153))))))
theorem Ty.c155:Program.cellsOf Tryz.prog 155=3:=by kernel_rfl
theorem Ty.b155:Program.bytesOf Tryz.prog 155=24:=by kernel_rfl
theorem Ty.a155:Program.isAggT Tryz.prog 155=true:=by simp only [Program.isAggT,Tryz.underlying155]
theorem Ty.s155:scalarT Tryz.prog 155=false:=by simp only [scalarT,Tryz.underlying155]
theorem Ty.z155:Program.zeroOf Tryz.prog 155=some (Value.agg #[Value.int .i64 0,Value.int .i64 0,Value.int .i64 0]):=by kernel_rfl
theorem Ty.q155:eqT Tryz.prog 155=some [.int .i64,.int .i64,.int .i64]:=by kernel_rfl
def Ty.t155:=(And.intro Tryz.underlying155 (And.intro Ty.c155 (And.intro Ty.b155 (And.intro Ty.a155 (And.intro Ty.s155 (And.intro Ty.q155 Ty.z155))))))
theorem Ty.c163:Program.cellsOf Tryz.prog 163=1:=by kernel_rfl
theorem Ty.b163:Program.bytesOf Tryz.prog 163=8:=by kernel_rfl
theorem Ty.a163:Program.isAggT Tryz.prog 163=false:=by simp only [Program.isAggT,Tryz.underlying163]
theorem Ty.s163:scalarT Tryz.prog 163=false:=by simp only [scalarT,Tryz.underlying163]
theorem Ty.z163:Program.zeroOf Tryz.prog 163=some (Value.pointer none):=by kernel_rfl
def Ty.t163:=(And.intro Tryz.underlying163 (And.intro Ty.c163 (And.intro Ty.b163 (And.intro Ty.a163 (And.intro Ty.s163 Ty.z163)))))
theorem Ty.c165:Program.cellsOf Tryz.prog 165=2:=by kernel_rfl
theorem Ty.b165:Program.bytesOf Tryz.prog 165=32:=by kernel_rfl
theorem Ty.a165:Program.isAggT Tryz.prog 165=true:=by simp only [Program.isAggT,Tryz.underlying165]
theorem Ty.s165:scalarT Tryz.prog 165=false:=by simp only [scalarT,Tryz.underlying165]
theorem Ty.z165:Program.zeroOf Tryz.prog 165=some (Value.agg #[Value.pointer none,Value.slice none 0 0]):=by kernel_rfl
def Ty.t165:=(And.intro Tryz.underlying165 (And.intro Ty.c165 (And.intro Ty.b165 (And.intro Ty.a165 (And.intro Ty.s165 Ty.z165)))))
theorem Ty.c187:Program.cellsOf Tryz.prog 187=7:=by kernel_rfl
theorem Ty.b187:Program.bytesOf Tryz.prog 187=72:=by kernel_rfl
theorem Ty.a187:Program.isAggT Tryz.prog 187=true:=by simp only [Program.isAggT,Tryz.underlying187]
theorem Ty.s187:scalarT Tryz.prog 187=false:=by simp only [scalarT,Tryz.underlying187]
theorem Ty.z187:Program.zeroOf Tryz.prog 187=some (Value.agg #[Value.int .i64 0,Value.int .i64 0,Value.int .i64 0,Value.int .i64 0,Value.int .i64 0,Value.int .i64 0,Value.slice none 0 0]):=by kernel_rfl
def Ty.t187:=(And.intro Tryz.underlying187 (And.intro Ty.c187 (And.intro Ty.b187 (And.intro Ty.a187 (And.intro Ty.s187 Ty.z187)))))
theorem Ty.c188:Program.cellsOf Tryz.prog 188=1:=by kernel_rfl
theorem Ty.b188:Program.bytesOf Tryz.prog 188=24:=by kernel_rfl
theorem Ty.a188:Program.isAggT Tryz.prog 188=false:=by simp only [Program.isAggT,Tryz.underlying188]
theorem Ty.s188:scalarT Tryz.prog 188=false:=by simp only [scalarT,Tryz.underlying188]
theorem Ty.z188:Program.zeroOf Tryz.prog 188=some (Value.slice none 0 0):=by kernel_rfl
def Ty.t188:=(And.intro Tryz.underlying188 (And.intro Ty.c188 (And.intro Ty.b188 (And.intro Ty.a188 (And.intro Ty.s188 Ty.z188)))))
theorem Ty.c192:Program.cellsOf Tryz.prog 192=3:=by kernel_rfl
theorem Ty.b192:Program.bytesOf Tryz.prog 192=24:=by kernel_rfl
theorem Ty.a192:Program.isAggT Tryz.prog 192=true:=by simp only [Program.isAggT,Tryz.underlying192]
theorem Ty.s192:scalarT Tryz.prog 192=false:=by simp only [scalarT,Tryz.underlying192]
theorem Ty.z192:Program.zeroOf Tryz.prog 192=some (Value.agg #[Value.int .i64 0,Value.int .i64 0,Value.int .i64 0]):=by kernel_rfl
theorem Ty.q192:eqT Tryz.prog 192=some [.int .i64,.int .i64,.int .i64]:=by kernel_rfl
def Ty.t192:=(And.intro Tryz.underlying192 (And.intro Ty.c192 (And.intro Ty.b192 (And.intro Ty.a192 (And.intro Ty.s192 (And.intro Ty.q192 Ty.z192))))))
theorem Ty.c203:Program.cellsOf Tryz.prog 203=4:=by kernel_rfl
theorem Ty.b203:Program.bytesOf Tryz.prog 203=32:=by kernel_rfl
theorem Ty.a203:Program.isAggT Tryz.prog 203=true:=by simp only [Program.isAggT,Tryz.underlying203]
theorem Ty.s203:scalarT Tryz.prog 203=false:=by simp only [scalarT,Tryz.underlying203]
theorem Ty.z203:Program.zeroOf Tryz.prog 203=some (Value.agg #[Value.int .i64 0,Value.int .i64 0,Value.int .i64 0,Value.int .i64 0]):=by kernel_rfl
def Ty.t203:=(And.intro Tryz.underlying203 (And.intro Ty.c203 (And.intro Ty.b203 (And.intro Ty.a203 (And.intro Ty.s203 Ty.z203)))))
theorem Ty.c221:Program.cellsOf Tryz.prog 221=1:=by kernel_rfl
theorem Ty.b221:Program.bytesOf Tryz.prog 221=8:=by kernel_rfl
theorem Ty.a221:Program.isAggT Tryz.prog 221=false:=by simp only [Program.isAggT,Tryz.underlying221]
theorem Ty.s221:scalarT Tryz.prog 221=true:=by simp only [scalarT,Tryz.underlying221]
theorem Ty.z221:Program.zeroOf Tryz.prog 221=some (Value.int .u64 0):=by kernel_rfl
def Ty.t221:=(And.intro Tryz.underlying221 (And.intro Ty.c221 (And.intro Ty.b221 (And.intro Ty.a221 (And.intro Ty.s221 Ty.z221)))))
theorem Ty.c238:Program.cellsOf Tryz.prog 238=1:=by kernel_rfl
theorem Ty.b238:Program.bytesOf Tryz.prog 238=8:=by kernel_rfl
theorem Ty.a238:Program.isAggT Tryz.prog 238=false:=by simp only [Program.isAggT,Tryz.underlying238]
theorem Ty.s238:scalarT Tryz.prog 238=false:=by simp only [scalarT,Tryz.underlying238]
theorem Ty.z238:Program.zeroOf Tryz.prog 238=some (Value.pointer none):=by kernel_rfl
def Ty.t238:=(And.intro Tryz.underlying238 (And.intro Ty.c238 (And.intro Ty.b238 (And.intro Ty.a238 (And.intro Ty.s238 Ty.z238)))))
theorem Ty.c263:Program.cellsOf Tryz.prog 263=3:=by kernel_rfl
theorem Ty.b263:Program.bytesOf Tryz.prog 263=48:=by kernel_rfl
theorem Ty.a263:Program.isAggT Tryz.prog 263=true:=by simp only [Program.isAggT,Tryz.underlying263]
theorem Ty.s263:scalarT Tryz.prog 263=false:=by simp only [scalarT,Tryz.underlying263]
def Ty.t263:=(And.intro Tryz.underlying263 (And.intro Ty.c263 (And.intro Ty.b263 (And.intro Ty.a263 Ty.s263))))
theorem Ty.c278:Program.cellsOf Tryz.prog 278=1:=by kernel_rfl
theorem Ty.b278:Program.bytesOf Tryz.prog 278=24:=by kernel_rfl
theorem Ty.a278:Program.isAggT Tryz.prog 278=false:=by simp only [Program.isAggT,Tryz.underlying278]
theorem Ty.s278:scalarT Tryz.prog 278=false:=by simp only [scalarT,Tryz.underlying278]
theorem Ty.z278:Program.zeroOf Tryz.prog 278=some (Value.slice none 0 0):=by kernel_rfl
def Ty.t278:=(And.intro Tryz.underlying278 (And.intro Ty.c278 (And.intro Ty.b278 (And.intro Ty.a278 (And.intro Ty.s278 Ty.z278)))))
end Go.Proofs.YtaefoaghpehbpaaGreatDoor
