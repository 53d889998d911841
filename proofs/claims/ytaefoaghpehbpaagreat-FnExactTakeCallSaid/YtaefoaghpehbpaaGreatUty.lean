/- Facts about types. No condition. -/
import Derived.Test.YtaefoaghpehbpaaGreatChecked
import Derived.Test.YtaefoaghpehbpaaGreatUmF
set_option linter.unusedSimpArgs false
set_option linter.unusedVariables false
set_option linter.defProp false
namespace Go.Proofs.YtaefoaghpehbpaaGreat
open Go Go.Vm
theorem Ty.c3:Program.cellsOf Tryz.prog 3=1:=by kernel_rfl
theorem Ty.b3:Program.bytesOf Tryz.prog 3=8:=by kernel_rfl
theorem Ty.a3:Program.isAggT Tryz.prog 3=false:=by simp only [Program.isAggT,Tryz.underlying3]
theorem Ty.s3:b01 Tryz.prog 3=true:=by simp only [b01,Tryz.underlying3]
theorem Ty.z3:Program.zeroOf Tryz.prog 3=some (Value.int .i64 0):=by kernel_rfl
def Ty.t3:=(And.intro Tryz.underlying3 (And.intro Ty.c3 (And.intro Ty.b3 (And.intro Ty.a3 (And.intro Ty.s3 Ty.z3)))))
theorem Ty.c4:Program.cellsOf Tryz.prog 4=1:=by kernel_rfl
theorem Ty.b4:Program.bytesOf Tryz.prog 4=1:=by kernel_rfl
theorem Ty.a4:Program.isAggT Tryz.prog 4=false:=by simp only [Program.isAggT,Tryz.underlying4]
theorem Ty.s4:b01 Tryz.prog 4=true:=by simp only [b01,Tryz.underlying4]
theorem Ty.z4:Program.zeroOf Tryz.prog 4=some (Value.bool false):=by kernel_rfl
def Ty.t4:=(And.intro Tryz.underlying4 (And.intro Ty.c4 (And.intro Ty.b4 (And.intro Ty.a4 (And.intro Ty.s4 Ty.z4)))))
theorem Ty.c5:Program.cellsOf Tryz.prog 5=1:=by kernel_rfl
theorem Ty.b5:Program.bytesOf Tryz.prog 5=1:=by kernel_rfl
theorem Ty.a5:Program.isAggT Tryz.prog 5=false:=by simp only [Program.isAggT,Tryz.underlying5]
theorem Ty.s5:b01 Tryz.prog 5=true:=by simp only [b01,Tryz.underlying5]
theorem Ty.z5:Program.zeroOf Tryz.prog 5=some (Value.int .u8 0):=by kernel_rfl
def Ty.t5:=(And.intro Tryz.underlying5 (And.intro Ty.c5 (And.intro Ty.b5 (And.intro Ty.a5 (And.intro Ty.s5 Ty.z5)))))
theorem Ty.c9:Program.cellsOf Tryz.prog 9=1:=by kernel_rfl
theorem Ty.b9:Program.bytesOf Tryz.prog 9=16:=by kernel_rfl
theorem Ty.a9:Program.isAggT Tryz.prog 9=false:=by simp only [Program.isAggT,Tryz.underlying9]
theorem Ty.s9:b01 Tryz.prog 9=true:=by simp only [b01,Tryz.underlying9]
theorem Ty.z9:Program.zeroOf Tryz.prog 9=some (Value.string .empty):=by kernel_rfl
def Ty.t9:=(And.intro Tryz.underlying9 (And.intro Ty.c9 (And.intro Ty.b9 (And.intro Ty.a9 (And.intro Ty.s9 Ty.z9)))))
theorem Ty.c22:Program.cellsOf Tryz.prog 22=1:=by kernel_rfl
theorem Ty.b22:Program.bytesOf Tryz.prog 22=24:=by kernel_rfl
theorem Ty.a22:Program.isAggT Tryz.prog 22=false:=by simp only [Program.isAggT,Tryz.underlying22]
theorem Ty.s22:b01 Tryz.prog 22=false:=by simp only [b01,Tryz.underlying22]
theorem Ty.z22:Program.zeroOf Tryz.prog 22=some (Value.slice none 0 0):=by kernel_rfl
def Ty.t22:=(And.intro Tryz.underlying22 (And.intro Ty.c22 (And.intro Ty.b22 (And.intro Ty.a22 (And.intro Ty.s22 Ty.z22)))))
theorem Ty.c24:Program.cellsOf Tryz.prog 24=2:=by kernel_rfl
theorem Ty.b24:Program.bytesOf Tryz.prog 24=32:=by kernel_rfl
theorem Ty.a24:Program.isAggT Tryz.prog 24=true:=by simp only [Program.isAggT,Tryz.underlying24]
theorem Ty.s24:b01 Tryz.prog 24=false:=by simp only [b01,Tryz.underlying24]
theorem Ty.z24:Program.zeroOf Tryz.prog 24=some (Value.agg #[Value.int .i64 0,Value.slice none 0 0]):=by kernel_rfl
def Ty.t24:=(And.intro Tryz.underlying24 (And.intro Ty.c24 (And.intro Ty.b24 (And.intro Ty.a24 (And.intro Ty.s24 Ty.z24)))))
theorem Ty.c25:Program.cellsOf Tryz.prog 25=1:=by kernel_rfl
theorem Ty.b25:Program.bytesOf Tryz.prog 25=24:=by kernel_rfl
theorem Ty.a25:Program.isAggT Tryz.prog 25=false:=by simp only [Program.isAggT,Tryz.underlying25]
theorem Ty.s25:b01 Tryz.prog 25=false:=by simp only [b01,Tryz.underlying25]
theorem Ty.z25:Program.zeroOf Tryz.prog 25=some (Value.slice none 0 0):=by kernel_rfl
def Ty.t25:=(And.intro Tryz.underlying25 (And.intro Ty.c25 (And.intro Ty.b25 (And.intro Ty.a25 (And.intro Ty.s25 Ty.z25)))))
theorem Ty.c26:Program.cellsOf Tryz.prog 26=1:=by kernel_rfl
theorem Ty.b26:Program.bytesOf Tryz.prog 26=24:=by kernel_rfl
theorem Ty.a26:Program.isAggT Tryz.prog 26=false:=by simp only [Program.isAggT,Tryz.underlying26]
theorem Ty.s26:b01 Tryz.prog 26=false:=by simp only [b01,Tryz.underlying26]
theorem Ty.z26:Program.zeroOf Tryz.prog 26=some (Value.slice none 0 0):=by kernel_rfl
def Ty.t26:=(And.intro Tryz.underlying26 (And.intro Ty.c26 (And.intro Ty.b26 (And.intro Ty.a26 (And.intro Ty.s26 Ty.z26)))))
theorem Ty.c27:Program.cellsOf Tryz.prog 27=1:=by kernel_rfl
theorem Ty.b27:Program.bytesOf Tryz.prog 27=24:=by kernel_rfl
theorem Ty.a27:Program.isAggT Tryz.prog 27=false:=by simp only [Program.isAggT,Tryz.underlying27]
theorem Ty.s27:b01 Tryz.prog 27=false:=by simp only [b01,Tryz.underlying27]
theorem Ty.z27:Program.zeroOf Tryz.prog 27=some (Value.slice none 0 0):=by kernel_rfl
def Ty.t27:=(And.intro Tryz.underlying27 (And.intro Ty.c27 (And.intro Ty.b27 (And.intro Ty.a27 (And.intro Ty.s27 Ty.z27)))))
theorem Ty.c29:Program.cellsOf Tryz.prog 29=3:=by kernel_rfl
theorem Ty.b29:Program.bytesOf Tryz.prog 29=72:=by kernel_rfl
theorem Ty.a29:Program.isAggT Tryz.prog 29=true:=by simp only [Program.isAggT,Tryz.underlying29]
theorem Ty.s29:b01 Tryz.prog 29=false:=by simp only [b01,Tryz.underlying29]
theorem Ty.z29:Program.zeroOf Tryz.prog 29=some (Value.agg #[Value.slice none 0 0,Value.slice none 0 0,Value.slice none 0 0]):=by kernel_rfl
def Ty.t29:=(And.intro Tryz.underlying29 (And.intro Ty.c29 (And.intro Ty.b29 (And.intro Ty.a29 (And.intro Ty.s29 Ty.z29)))))
theorem Ty.c32:Program.cellsOf Tryz.prog 32=1:=by kernel_rfl
theorem Ty.b32:Program.bytesOf Tryz.prog 32=24:=by kernel_rfl
theorem Ty.a32:Program.isAggT Tryz.prog 32=false:=by simp only [Program.isAggT,Tryz.underlying32]
theorem Ty.s32:b01 Tryz.prog 32=false:=by simp only [b01,Tryz.underlying32]
theorem Ty.z32:Program.zeroOf Tryz.prog 32=some (Value.slice none 0 0):=by kernel_rfl
def Ty.t32:=(And.intro Tryz.underlying32 (And.intro Ty.c32 (And.intro Ty.b32 (And.intro Ty.a32 (And.intro Ty.s32 Ty.z32)))))
theorem Ty.c33:Program.cellsOf Tryz.prog 33=1:=by kernel_rfl
theorem Ty.b33:Program.bytesOf Tryz.prog 33=24:=by kernel_rfl
theorem Ty.a33:Program.isAggT Tryz.prog 33=false:=by simp only [Program.isAggT,Tryz.underlying33]
theorem Ty.s33:b01 Tryz.prog 33=false:=by simp only [b01,Tryz.underlying33]
theorem Ty.z33:Program.zeroOf Tryz.prog 33=some (Value.slice none 0 0):=by kernel_rfl
def Ty.t33:=(And.intro Tryz.underlying33 (And.intro Ty.c33 (And.intro Ty.b33 (And.intro Ty.a33 (And.intro Ty.s33 Ty.z33)))))
theorem Ty.c34:Program.cellsOf Tryz.prog 34=1:=by kernel_rfl
theorem Ty.b34:Program.bytesOf Tryz.prog 34=24:=by kernel_rfl
theorem Ty.a34:Program.isAggT Tryz.prog 34=false:=by simp only [Program.isAggT,Tryz.underlying34]
theorem Ty.s34:b01 Tryz.prog 34=false:=by simp only [b01,Tryz.underlying34]
theorem Ty.z34:Program.zeroOf Tryz.prog 34=some (Value.slice none 0 0):=by kernel_rfl
def Ty.t34:=(And.intro Tryz.underlying34 (And.intro Ty.c34 (And.intro Ty.b34 (And.intro Ty.a34 (And.intro Ty.s34 Ty.z34)))))
theorem Ty.c36:Program.cellsOf Tryz.prog 36=3:=by kernel_rfl
theorem Ty.b36:Program.bytesOf Tryz.prog 36=72:=by kernel_rfl
theorem Ty.a36:Program.isAggT Tryz.prog 36=true:=by simp only [Program.isAggT,Tryz.underlying36]
theorem Ty.s36:b01 Tryz.prog 36=false:=by simp only [b01,Tryz.underlying36]
theorem Ty.z36:Program.zeroOf Tryz.prog 36=some (Value.agg #[Value.slice none 0 0,Value.slice none 0 0,Value.slice none 0 0]):=by kernel_rfl
def Ty.t36:=(And.intro Tryz.underlying36 (And.intro Ty.c36 (And.intro Ty.b36 (And.intro Ty.a36 (And.intro Ty.s36 Ty.z36)))))
theorem Ty.c39:Program.cellsOf Tryz.prog 39=1:=by kernel_rfl
theorem Ty.b39:Program.bytesOf Tryz.prog 39=24:=by kernel_rfl
theorem Ty.a39:Program.isAggT Tryz.prog 39=false:=by simp only [Program.isAggT,Tryz.underlying39]
theorem Ty.s39:b01 Tryz.prog 39=false:=by simp only [b01,Tryz.underlying39]
theorem Ty.z39:Program.zeroOf Tryz.prog 39=some (Value.slice none 0 0):=by kernel_rfl
def Ty.t39:=(And.intro Tryz.underlying39 (And.intro Ty.c39 (And.intro Ty.b39 (And.intro Ty.a39 (And.intro Ty.s39 Ty.z39)))))
theorem Ty.c41:Program.cellsOf Tryz.prog 41=2:=by kernel_rfl
theorem Ty.b41:Program.bytesOf Tryz.prog 41=32:=by kernel_rfl
theorem Ty.a41:Program.isAggT Tryz.prog 41=true:=by simp only [Program.isAggT,Tryz.underlying41]
theorem Ty.s41:b01 Tryz.prog 41=false:=by simp only [b01,Tryz.underlying41]
theorem Ty.z41:Program.zeroOf Tryz.prog 41=some (Value.agg #[Value.int .i64 0,Value.slice none 0 0]):=by kernel_rfl
def Ty.t41:=(And.intro Tryz.underlying41 (And.intro Ty.c41 (And.intro Ty.b41 (And.intro Ty.a41 (And.intro Ty.s41 Ty.z41)))))
theorem Ty.c51:Program.cellsOf Tryz.prog 51=1:=by kernel_rfl
theorem Ty.b51:Program.bytesOf Tryz.prog 51=24:=by kernel_rfl
theorem Ty.a51:Program.isAggT Tryz.prog 51=false:=by simp only [Program.isAggT,Tryz.underlying51]
theorem Ty.s51:b01 Tryz.prog 51=false:=by simp only [b01,Tryz.underlying51]
theorem Ty.z51:Program.zeroOf Tryz.prog 51=some (Value.slice none 0 0):=by kernel_rfl
def Ty.t51:=(And.intro Tryz.underlying51 (And.intro Ty.c51 (And.intro Ty.b51 (And.intro Ty.a51 (And.intro Ty.s51 Ty.z51)))))
theorem Ty.c57:Program.cellsOf Tryz.prog 57=1:=by kernel_rfl
theorem Ty.b57:Program.bytesOf Tryz.prog 57=24:=by kernel_rfl
theorem Ty.a57:Program.isAggT Tryz.prog 57=false:=by simp only [Program.isAggT,Tryz.underlying57]
theorem Ty.s57:b01 Tryz.prog 57=false:=by simp only [b01,Tryz.underlying57]
theorem Ty.z57:Program.zeroOf Tryz.prog 57=some (Value.slice none 0 0):=by kernel_rfl
def Ty.t57:=(And.intro Tryz.underlying57 (And.intro Ty.c57 (And.intro Ty.b57 (And.intro Ty.a57 (And.intro Ty.s57 Ty.z57)))))
theorem Ty.c59:Program.cellsOf Tryz.prog 59=3:=by kernel_rfl
theorem Ty.b59:Program.bytesOf Tryz.prog 59=24:=by kernel_rfl
theorem Ty.a59:Program.isAggT Tryz.prog 59=true:=by simp only [Program.isAggT,Tryz.underlying59]
theorem Ty.s59:b01 Tryz.prog 59=false:=by simp only [b01,Tryz.underlying59]
theorem Ty.z59:Program.zeroOf Tryz.prog 59=some (Value.agg #[Value.int .i64 0,Value.int .i64 0,Value.int .i64 0]):=by kernel_rfl
theorem Ty.q59:eqT Tryz.prog 59=some [.int .i64,.int .i64,.int .i64]:=by kernel_rfl
def Ty.t59:=(And.intro Tryz.underlying59 (And.intro Ty.c59 (And.intro Ty.b59 (And.intro Ty.a59 (And.intro Ty.s59 (And.intro Ty.q59 Ty.z59))))))
theorem Ty.c63:Program.cellsOf Tryz.prog 63=1:=by kernel_rfl
theorem Ty.b63:Program.bytesOf Tryz.prog 63=24:=by kernel_rfl
theorem Ty.a63:Program.isAggT Tryz.prog 63=false:=by simp only [Program.isAggT,Tryz.underlying63]
theorem Ty.s63:b01 Tryz.prog 63=false:=by simp only [b01,Tryz.underlying63]
theorem Ty.z63:Program.zeroOf Tryz.prog 63=some (Value.slice none 0 0):=by kernel_rfl
def Ty.t63:=(And.intro Tryz.underlying63 (And.intro Ty.c63 (And.intro Ty.b63 (And.intro Ty.a63 (And.intro Ty.s63 Ty.z63)))))
theorem Ty.c65:Program.cellsOf Tryz.prog 65=3:=by kernel_rfl
theorem Ty.b65:Program.bytesOf Tryz.prog 65=24:=by kernel_rfl
theorem Ty.a65:Program.isAggT Tryz.prog 65=true:=by simp only [Program.isAggT,Tryz.underlying65]
theorem Ty.s65:b01 Tryz.prog 65=false:=by simp only [b01,Tryz.underlying65]
theorem Ty.z65:Program.zeroOf Tryz.prog 65=some (Value.agg #[Value.int .i64 0,Value.int .i64 0,Value.int .i64 0]):=by kernel_rfl
theorem Ty.q65:eqT Tryz.prog 65=some [.int .i64,.int .i64,.int .i64]:=by kernel_rfl
def Ty.t65:=(And.intro Tryz.underlying65 (And.intro Ty.c65 (And.intro Ty.b65 (And.intro Ty.a65 (And.intro Ty.s65 (And.intro Ty.q65 Ty.z65))))))
theorem Ty.c70:Program.cellsOf Tryz.prog 70=1:=by kernel_rfl
theorem Ty.b70:Program.bytesOf Tryz.prog 70=24:=by kernel_rfl
theorem Ty.a70:Program.isAggT Tryz.prog 70=false:=by simp only [Program.isAggT,Tryz.underlying70]
theorem Ty.s70:b01 Tryz.prog 70=false:=by simp only [b01,Tryz.underlying70]
theorem Ty.z70:Program.zeroOf Tryz.prog 70=some (Value.slice none 0 0):=by kernel_rfl
def Ty.t70:=(And.intro Tryz.underlying70 (And.intro Ty.c70 (And.intro Ty.b70 (And.intro Ty.a70 (And.intro Ty.s70 Ty.z70)))))
theorem Ty.c75:Program.cellsOf Tryz.prog 75=1:=by kernel_rfl
theorem Ty.b75:Program.bytesOf Tryz.prog 75=24:=by kernel_rfl
theorem Ty.a75:Program.isAggT Tryz.prog 75=false:=by simp only [Program.isAggT,Tryz.underlying75]
theorem Ty.s75:b01 Tryz.prog 75=false:=by simp only [b01,Tryz.underlying75]
theorem Ty.z75:Program.zeroOf Tryz.prog 75=some (Value.slice none 0 0):=by kernel_rfl
def Ty.t75:=(And.intro Tryz.underlying75 (And.intro Ty.c75 (And.intro Ty.b75 (And.intro Ty.a75 (And.intro Ty.s75 Ty.z75)))))
theorem Ty.c96:Program.cellsOf Tryz.prog 96=5:=by kernel_rfl
theorem Ty.b96:Program.bytesOf Tryz.prog 96=48:=by kernel_rfl
theorem Ty.a96:Program.isAggT Tryz.prog 96=true:=by simp only [Program.isAggT,Tryz.underlying96]
theorem Ty.s96:b01 Tryz.prog 96=false:=by simp only [b01,Tryz.underlying96]
theorem Ty.z96:Program.zeroOf Tryz.prog 96=some (Value.agg #[Value.string .empty,Value.int .i64 0,Value.int .i64 0,Value.int .i64 0,Value.int .i64 0]):=by kernel_rfl
theorem Ty.q96:eqT Tryz.prog 96=some [.str,.int .i64,.int .i64,.int .i64,.int .i64]:=by kernel_rfl
def Ty.t96:=(And.intro Tryz.underlying96 (And.intro Ty.c96 (And.intro Ty.b96 (And.intro Ty.a96 (And.intro Ty.s96 (And.intro Ty.q96 Ty.z96))))))
theorem Ty.c99:Program.cellsOf Tryz.prog 99=4:=by kernel_rfl
theorem Ty.b99:Program.bytesOf Tryz.prog 99=48:=by kernel_rfl
theorem Ty.a99:Program.isAggT Tryz.prog 99=true:=by simp only [Program.isAggT,Tryz.underlying99]
theorem Ty.s99:b01 Tryz.prog 99=false:=by simp only [b01,Tryz.underlying99]
theorem Ty.z99:Program.zeroOf Tryz.prog 99=some (Value.agg #[Value.int .i64 0,Value.int .i64 0,Value.bool false,Value.slice none 0 0]):=by kernel_rfl
def Ty.t99:=(And.intro Tryz.underlying99 (And.intro Ty.c99 (And.intro Ty.b99 (And.intro Ty.a99 (And.intro Ty.s99 Ty.z99)))))
theorem Ty.c102:Program.cellsOf Tryz.prog 102=2:=by kernel_rfl
theorem Ty.b102:Program.bytesOf Tryz.prog 102=32:=by kernel_rfl
theorem Ty.a102:Program.isAggT Tryz.prog 102=true:=by simp only [Program.isAggT,Tryz.underlying102]
theorem Ty.s102:b01 Tryz.prog 102=false:=by simp only [b01,Tryz.underlying102]
theorem Ty.z102:Program.zeroOf Tryz.prog 102=some (Value.agg #[Value.int .i64 0,Value.slice none 0 0]):=by kernel_rfl
def Ty.t102:=(And.intro Tryz.underlying102 (And.intro Ty.c102 (And.intro Ty.b102 (And.intro Ty.a102 (And.intro Ty.s102 Ty.z102)))))
theorem Ty.c108:Program.cellsOf Tryz.prog 108=1:=by kernel_rfl
theorem Ty.b108:Program.bytesOf Tryz.prog 108=8:=by kernel_rfl
theorem Ty.a108:Program.isAggT Tryz.prog 108=false:=by simp only [Program.isAggT,Tryz.underlying108]
theorem Ty.s108:b01 Tryz.prog 108=false:=by simp only [b01,Tryz.underlying108]
theorem Ty.z108:Program.zeroOf Tryz.prog 108=some (Value.pointer none):=by kernel_rfl
def Ty.t108:=(And.intro Tryz.underlying108 (And.intro Ty.c108 (And.intro Ty.b108 (And.intro Ty.a108 (And.intro Ty.s108 Ty.z108)))))
theorem Ty.c110:Program.cellsOf Tryz.prog 110=1:=by kernel_rfl
theorem Ty.b110:Program.bytesOf Tryz.prog 110=8:=by kernel_rfl
theorem Ty.a110:Program.isAggT Tryz.prog 110=false:=by simp only [Program.isAggT,Tryz.underlying110]
theorem Ty.s110:b01 Tryz.prog 110=false:=by simp only [b01,Tryz.underlying110]
theorem Ty.z110:Program.zeroOf Tryz.prog 110=some (Value.pointer none):=by kernel_rfl
def Ty.t110:=(And.intro Tryz.underlying110 (And.intro Ty.c110 (And.intro Ty.b110 (And.intro Ty.a110 (And.intro Ty.s110 Ty.z110)))))
theorem Ty.c133:Program.cellsOf Tryz.prog 133=7:=by kernel_rfl
theorem Ty.b133:Program.bytesOf Tryz.prog 133=72:=by kernel_rfl
theorem Ty.a133:Program.isAggT Tryz.prog 133=true:=by simp only [Program.isAggT,Tryz.underlying133]
theorem Ty.s133:b01 Tryz.prog 133=false:=by simp only [b01,Tryz.underlying133]
theorem Ty.z133:Program.zeroOf Tryz.prog 133=some (Value.agg #[Value.int .i64 0,Value.int .i64 0,Value.int .i64 0,Value.int .i64 0,Value.int .i64 0,Value.int .i64 0,Value.slice none 0 0]):=by kernel_rfl
def Ty.t133:=(And.intro Tryz.underlying133 (And.intro Ty.c133 (And.intro Ty.b133 (And.intro Ty.a133 (And.intro Ty.s133 Ty.z133)))))
theorem Ty.c138:Program.cellsOf Tryz.prog 138=7:=by kernel_rfl
theorem Ty.b138:Program.bytesOf Tryz.prog 138=72:=by kernel_rfl
theorem Ty.a138:Program.isAggT Tryz.prog 138=true:=by simp only [Program.isAggT,Tryz.underlying138]
theorem Ty.s138:b01 Tryz.prog 138=false:=by simp only [b01,Tryz.underlying138]
theorem Ty.z138:Program.zeroOf Tryz.prog 138=some (Value.agg #[Value.int .i64 0,Value.int .i64 0,Value.int .i64 0,Value.int .i64 0,Value.int .i64 0,Value.int .i64 0,Value.slice none 0 0]):=by kernel_rfl
def Ty.t138:=(And.intro Tryz.underlying138 (And.intro Ty.c138 (And.intro Ty.b138 (And.intro Ty.a138 (And.intro Ty.s138 Ty.z138)))))
theorem Ty.c145:Program.cellsOf Tryz.prog 145=1:=by kernel_rfl
theorem Ty.b145:Program.bytesOf Tryz.prog 145=8:=by kernel_rfl
theorem Ty.a145:Program.isAggT Tryz.prog 145=false:=by simp only [Program.isAggT,Tryz.underlying145]
theorem Ty.s145:b01 Tryz.prog 145=false:=by simp only [b01,Tryz.underlying145]
theorem Ty.z145:Program.zeroOf Tryz.prog 145=some (Value.pointer none):=by kernel_rfl
def Ty.t145:=(And.intro Tryz.underlying145 (And.intro Ty.c145 (And.intro Ty.b145 (And.intro Ty.a145 (And.intro Ty.s145 Ty.z145)))))
theorem Ty.c146:Program.cellsOf Tryz.prog 146=1:=by kernel_rfl
theorem Ty.b146:Program.bytesOf Tryz.prog 146=8:=by kernel_rfl
theorem Ty.a146:Program.isAggT Tryz.prog 146=false:=by simp only [Program.isAggT,Tryz.underlying146]
theorem Ty.s146:b01 Tryz.prog 146=true:=by simp only [b01,Tryz.underlying146]
theorem Ty.z146:Program.zeroOf Tryz.prog 146=some (Value.int .u64 0):=by kernel_rfl
def Ty.t146:=(And.intro Tryz.underlying146 (And.intro Ty.c146 (And.intro Ty.b146 (And.intro Ty.a146 (And.intro Ty.s146 Ty.z146)))))
theorem Ty.c148:Program.cellsOf Tryz.prog 148=3:=by kernel_rfl
theorem Ty.b148:Program.bytesOf Tryz.prog 148=40:=by kernel_rfl
theorem Ty.a148:Program.isAggT Tryz.prog 148=true:=by simp only [Program.isAggT,Tryz.underlying148]
theorem Ty.s148:b01 Tryz.prog 148=false:=by simp only [b01,Tryz.underlying148]
theorem Ty.z148:Program.zeroOf Tryz.prog 148=some (Value.agg #[Value.slice none 0 0,Value.int .i64 0,Value.int .u64 0]):=by kernel_rfl
def Ty.t148:=(And.intro Tryz.underlying148 (And.intro Ty.c148 (And.intro Ty.b148 (And.intro Ty.a148 (And.intro Ty.s148 Ty.z148)))))
theorem Ty.c158:Program.cellsOf Tryz.prog 158=5:=by kernel_rfl
theorem Ty.b158:Program.bytesOf Tryz.prog 158=48:=by kernel_rfl
theorem Ty.a158:Program.isAggT Tryz.prog 158=true:=by simp only [Program.isAggT,Tryz.underlying158]
theorem Ty.s158:b01 Tryz.prog 158=false:=by simp only [b01,Tryz.underlying158]
theorem Ty.z158:Program.zeroOf Tryz.prog 158=some (Value.agg #[Value.string .empty,Value.int .i64 0,Value.int .i64 0,Value.int .i64 0,Value.int .i64 0]):=by kernel_rfl
theorem Ty.q158:eqT Tryz.prog 158=some [.str,.int .i64,.int .i64,.int .i64,.int .i64]:=by kernel_rfl
def Ty.t158:=(And.intro Tryz.underlying158 (And.intro Ty.c158 (And.intro Ty.b158 (And.intro Ty.a158 (And.intro Ty.s158 (And.intro Ty.q158 Ty.z158))))))
theorem Ty.c160:Program.cellsOf Tryz.prog 160=4:=by kernel_rfl
theorem Ty.b160:Program.bytesOf Tryz.prog 160=48:=by kernel_rfl
theorem Ty.a160:Program.isAggT Tryz.prog 160=true:=by simp only [Program.isAggT,Tryz.underlying160]
theorem Ty.s160:b01 Tryz.prog 160=false:=by simp only [b01,Tryz.underlying160]
theorem Ty.z160:Program.zeroOf Tryz.prog 160=some (Value.agg #[Value.int .i64 0,Value.int .i64 0,Value.bool false,Value.slice none 0 0]):=by kernel_rfl
def Ty.t160:=(And.intro Tryz.underlying160 (And.intro Ty.c160 (And.intro Ty.b160 (And.intro Ty.a160 (And.intro Ty.s160 Ty.z160)))))
theorem Ty.c162:Program.cellsOf Tryz.prog 162=2:=by kernel_rfl
theorem Ty.b162:Program.bytesOf Tryz.prog 162=32:=by kernel_rfl
theorem Ty.a162:Program.isAggT Tryz.prog 162=true:=by simp only [Program.isAggT,Tryz.underlying162]
theorem Ty.s162:b01 Tryz.prog 162=false:=by simp only [b01,Tryz.underlying162]
theorem Ty.z162:Program.zeroOf Tryz.prog 162=some (Value.agg #[Value.int .i64 0,Value.slice none 0 0]):=by kernel_rfl
def Ty.t162:=(And.intro Tryz.underlying162 (And.intro Ty.c162 (And.intro Ty.b162 (And.intro Ty.a162 (And.intro Ty.s162 Ty.z162)))))
theorem Ty.c169:Program.cellsOf Tryz.prog 169=3:=by kernel_rfl
theorem Ty.b169:Program.bytesOf Tryz.prog 169=24:=by kernel_rfl
theorem Ty.a169:Program.isAggT Tryz.prog 169=true:=by simp only [Program.isAggT,Tryz.underlying169]
theorem Ty.s169:b01 Tryz.prog 169=false:=by simp only [b01,Tryz.underlying169]
theorem Ty.z169:Program.zeroOf Tryz.prog 169=some (Value.agg #[Value.int .i64 0,Value.int .i64 0,Value.int .i64 0]):=by kernel_rfl
theorem Ty.q169:eqT Tryz.prog 169=some [.int .i64,.int .i64,.int .i64]:=by kernel_rfl
def Ty.t169:=(And.intro Tryz.underlying169 (And.intro Ty.c169 (And.intro Ty.b169 (And.intro Ty.a169 (And.intro Ty.s169 (And.intro Ty.q169 Ty.z169))))))
theorem Ty.c171:Program.cellsOf Tryz.prog 171=3:=by kernel_rfl
theorem Ty.b171:Program.bytesOf Tryz.prog 171=24:=by kernel_rfl
theorem Ty.a171:Program.isAggT Tryz.prog 171=true:=by simp only [Program.isAggT,Tryz.underlying171]
theorem Ty.s171:b01 Tryz.prog 171=false:=by simp only [b01,Tryz.underlying171]
theorem Ty.z171:Program.zeroOf Tryz.prog 171=some (Value.agg #[Value.int .i64 0,Value.int .i64 0,Value.int .i64 0]):=by kernel_rfl
theorem Ty.q171:eqT Tryz.prog 171=some [.int .i64,.int .i64,.int .i64]:=by kernel_rfl
def Ty.t171:=(And.intro Tryz.underlying171 (And.intro Ty.c171 (And.intro Ty.b171 (And.intro Ty.a171 (And.intro Ty.s171 (And.intro Ty.q171 Ty.z171))))))
theorem Ty.c214:Program.cellsOf Tryz.prog 214=4:=by kernel_rfl
theorem Ty.b214:Program.bytesOf Tryz.prog 214=32:=by kernel_rfl
theorem Ty.a214:Program.isAggT Tryz.prog 214=true:=by simp only [Program.isAggT,Tryz.underlying214]
theorem Ty.s214:b01 Tryz.prog 214=false:=by simp only [b01,Tryz.underlying214]
theorem Ty.z214:Program.zeroOf Tryz.prog 214=some (Value.agg #[Value.int .i64 0,Value.int .i64 0,Value.int .i64 0,Value.int .i64 0]):=by kernel_rfl
def Ty.t214:=(And.intro Tryz.underlying214 (And.intro Ty.c214 (And.intro Ty.b214 (And.intro Ty.a214 (And.intro Ty.s214 Ty.z214)))))
theorem Ty.c231:Program.cellsOf Tryz.prog 231=1:=by kernel_rfl
theorem Ty.b231:Program.bytesOf Tryz.prog 231=8:=by kernel_rfl
theorem Ty.a231:Program.isAggT Tryz.prog 231=false:=by simp only [Program.isAggT,Tryz.underlying231]
theorem Ty.s231:b01 Tryz.prog 231=true:=by simp only [b01,Tryz.underlying231]
theorem Ty.z231:Program.zeroOf Tryz.prog 231=some (Value.int .u64 0):=by kernel_rfl
def Ty.t231:=(And.intro Tryz.underlying231 (And.intro Ty.c231 (And.intro Ty.b231 (And.intro Ty.a231 (And.intro Ty.s231 Ty.z231)))))
theorem Ty.c249:Program.cellsOf Tryz.prog 249=1:=by kernel_rfl
theorem Ty.b249:Program.bytesOf Tryz.prog 249=8:=by kernel_rfl
theorem Ty.a249:Program.isAggT Tryz.prog 249=false:=by simp only [Program.isAggT,Tryz.underlying249]
theorem Ty.s249:b01 Tryz.prog 249=true:=by simp only [b01,Tryz.underlying249]
theorem Ty.z249:Program.zeroOf Tryz.prog 249=some (Value.int .i64 0):=by kernel_rfl
def Ty.t249:=(And.intro Tryz.underlying249 (And.intro Ty.c249 (And.intro Ty.b249 (And.intro Ty.a249 (And.intro Ty.s249 Ty.z249)))))
theorem Ty.c260:Program.cellsOf Tryz.prog 260=1:=by kernel_rfl
theorem Ty.b260:Program.bytesOf Tryz.prog 260=24:=by kernel_rfl
theorem Ty.a260:Program.isAggT Tryz.prog 260=false:=by simp only [Program.isAggT,Tryz.underlying260]
theorem Ty.s260:b01 Tryz.prog 260=false:=by simp only [b01,Tryz.underlying260]
theorem Ty.z260:Program.zeroOf Tryz.prog 260=some (Value.slice none 0 0):=by kernel_rfl
def Ty.t260:=(And.intro Tryz.underlying260 (And.intro Ty.c260 (And.intro Ty.b260 (And.intro Ty.a260 (And.intro Ty.s260 Ty.z260)))))
theorem Ty.c262:Program.cellsOf Tryz.prog 262=2:=by kernel_rfl
theorem Ty.b262:Program.bytesOf Tryz.prog 262=16:=by kernel_rfl
theorem Ty.a262:Program.isAggT Tryz.prog 262=true:=by simp only [Program.isAggT,Tryz.underlying262]
theorem Ty.s262:b01 Tryz.prog 262=false:=by simp only [b01,Tryz.underlying262]
theorem Ty.z262:Program.zeroOf Tryz.prog 262=some (Value.agg #[Value.int .i64 0,Value.int .i64 0]):=by kernel_rfl
def Ty.t262:=(And.intro Tryz.underlying262 (And.intro Ty.c262 (And.intro Ty.b262 (And.intro Ty.a262 (And.intro Ty.s262 Ty.z262)))))
theorem Ty.c263:Program.cellsOf Tryz.prog 263=1:=by kernel_rfl
theorem Ty.b263:Program.bytesOf Tryz.prog 263=24:=by kernel_rfl
theorem Ty.a263:Program.isAggT Tryz.prog 263=false:=by simp only [Program.isAggT,Tryz.underlying263]
theorem Ty.s263:b01 Tryz.prog 263=false:=by simp only [b01,Tryz.underlying263]
theorem Ty.z263:Program.zeroOf Tryz.prog 263=some (Value.slice none 0 0):=by kernel_rfl
def Ty.t263:=(And.intro Tryz.underlying263 (And.intro Ty.c263 (And.intro Ty.b263 (And.intro Ty.a263 (And.intro Ty.s263 Ty.z263)))))
theorem Ty.c265:Program.cellsOf Tryz.prog 265=1:=by kernel_rfl
theorem Ty.b265:Program.bytesOf Tryz.prog 265=8:=by kernel_rfl
theorem Ty.a265:Program.isAggT Tryz.prog 265=false:=by simp only [Program.isAggT,Tryz.underlying265]
theorem Ty.s265:b01 Tryz.prog 265=true:=by simp only [b01,Tryz.underlying265]
theorem Ty.z265:Program.zeroOf Tryz.prog 265=some (Value.int .u64 0):=by kernel_rfl
def Ty.t265:=(And.intro Tryz.underlying265 (And.intro Ty.c265 (And.intro Ty.b265 (And.intro Ty.a265 (And.intro Ty.s265 Ty.z265)))))
theorem Ty.c269:Program.cellsOf Tryz.prog 269=1:=by kernel_rfl
theorem Ty.b269:Program.bytesOf Tryz.prog 269=8:=by kernel_rfl
theorem Ty.a269:Program.isAggT Tryz.prog 269=false:=by simp only [Program.isAggT,Tryz.underlying269]
theorem Ty.s269:b01 Tryz.prog 269=false:=by simp only [b01,Tryz.underlying269]
theorem Ty.z269:Program.zeroOf Tryz.prog 269=some (Value.pointer none):=by kernel_rfl
def Ty.t269:=(And.intro Tryz.underlying269 (And.intro Ty.c269 (And.intro Ty.b269 (And.intro Ty.a269 (And.intro Ty.s269 Ty.z269)))))
end Go.Proofs.YtaefoaghpehbpaaGreat
