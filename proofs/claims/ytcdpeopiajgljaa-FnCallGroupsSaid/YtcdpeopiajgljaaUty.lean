/- Facts about types. No condition. -/
import Derived.Test.YtcdpeopiajgljaaChecked
import Derived.Test.YtcdpeopiajgljaaUmF
set_option linter.unusedSimpArgs false
set_option linter.unusedVariables false
set_option linter.defProp false
namespace Go.Proofs.Ytcdpeopiajgljaa
open Go Go.Vm
theorem Ty.c3:Program.cellsOf Try.prog 3=1:=by kernel_rfl
theorem Ty.b3:Program.bytesOf Try.prog 3=8:=by kernel_rfl
theorem Ty.a3:Program.isAggT Try.prog 3=false:=by simp only [Program.isAggT,Try.underlying3]
theorem Ty.s3:scalarT Try.prog 3=true:=by simp only [scalarT,Try.underlying3]
theorem Ty.z3:Program.zeroOf Try.prog 3=some (Value.int .i64 0):=by kernel_rfl
def Ty.t3:=(And.intro Try.underlying3 (And.intro Ty.c3 (And.intro Ty.b3 (And.intro Ty.a3 (And.intro Ty.s3 Ty.z3)))))
theorem Ty.c4:Program.cellsOf Try.prog 4=1:=by kernel_rfl
theorem Ty.b4:Program.bytesOf Try.prog 4=1:=by kernel_rfl
theorem Ty.a4:Program.isAggT Try.prog 4=false:=by simp only [Program.isAggT,Try.underlying4]
theorem Ty.s4:scalarT Try.prog 4=true:=by simp only [scalarT,Try.underlying4]
theorem Ty.z4:Program.zeroOf Try.prog 4=some (Value.bool false):=by kernel_rfl
def Ty.t4:=(And.intro Try.underlying4 (And.intro Ty.c4 (And.intro Ty.b4 (And.intro Ty.a4 (And.intro Ty.s4 Ty.z4)))))
theorem Ty.c5:Program.cellsOf Try.prog 5=1:=by kernel_rfl
theorem Ty.b5:Program.bytesOf Try.prog 5=1:=by kernel_rfl
theorem Ty.a5:Program.isAggT Try.prog 5=false:=by simp only [Program.isAggT,Try.underlying5]
theorem Ty.s5:scalarT Try.prog 5=true:=by simp only [scalarT,Try.underlying5]
theorem Ty.z5:Program.zeroOf Try.prog 5=some (Value.int .u8 0):=by kernel_rfl
def Ty.t5:=(And.intro Try.underlying5 (And.intro Ty.c5 (And.intro Ty.b5 (And.intro Ty.a5 (And.intro Ty.s5 Ty.z5)))))
theorem Ty.c9:Program.cellsOf Try.prog 9=1:=by kernel_rfl
theorem Ty.b9:Program.bytesOf Try.prog 9=16:=by kernel_rfl
theorem Ty.a9:Program.isAggT Try.prog 9=false:=by simp only [Program.isAggT,Try.underlying9]
theorem Ty.s9:scalarT Try.prog 9=true:=by simp only [scalarT,Try.underlying9]
theorem Ty.z9:Program.zeroOf Try.prog 9=some (Value.string .empty):=by kernel_rfl
def Ty.t9:=(And.intro Try.underlying9 (And.intro Ty.c9 (And.intro Ty.b9 (And.intro Ty.a9 (And.intro Ty.s9 Ty.z9)))))
theorem Ty.c22:Program.cellsOf Try.prog 22=1:=by kernel_rfl
theorem Ty.b22:Program.bytesOf Try.prog 22=24:=by kernel_rfl
theorem Ty.a22:Program.isAggT Try.prog 22=false:=by simp only [Program.isAggT,Try.underlying22]
theorem Ty.s22:scalarT Try.prog 22=false:=by simp only [scalarT,Try.underlying22]
theorem Ty.z22:Program.zeroOf Try.prog 22=some (Value.slice none 0 0):=by kernel_rfl
def Ty.t22:=(And.intro Try.underlying22 (And.intro Ty.c22 (And.intro Ty.b22 (And.intro Ty.a22 (And.intro Ty.s22 Ty.z22)))))
theorem Ty.c24:Program.cellsOf Try.prog 24=2:=by kernel_rfl
theorem Ty.b24:Program.bytesOf Try.prog 24=32:=by kernel_rfl
theorem Ty.a24:Program.isAggT Try.prog 24=true:=by simp only [Program.isAggT,Try.underlying24]
theorem Ty.s24:scalarT Try.prog 24=false:=by simp only [scalarT,Try.underlying24]
theorem Ty.z24:Program.zeroOf Try.prog 24=some (Value.agg #[Value.int .i64 0,Value.slice none 0 0]):=by kernel_rfl
def Ty.t24:=(And.intro Try.underlying24 (And.intro Ty.c24 (And.intro Ty.b24 (And.intro Ty.a24 (And.intro Ty.s24 Ty.z24)))))
theorem Ty.c25:Program.cellsOf Try.prog 25=1:=by kernel_rfl
theorem Ty.b25:Program.bytesOf Try.prog 25=24:=by kernel_rfl
theorem Ty.a25:Program.isAggT Try.prog 25=false:=by simp only [Program.isAggT,Try.underlying25]
theorem Ty.s25:scalarT Try.prog 25=false:=by simp only [scalarT,Try.underlying25]
theorem Ty.z25:Program.zeroOf Try.prog 25=some (Value.slice none 0 0):=by kernel_rfl
def Ty.t25:=(And.intro Try.underlying25 (And.intro Ty.c25 (And.intro Ty.b25 (And.intro Ty.a25 (And.intro Ty.s25 Ty.z25)))))
theorem Ty.c26:Program.cellsOf Try.prog 26=1:=by kernel_rfl
theorem Ty.b26:Program.bytesOf Try.prog 26=24:=by kernel_rfl
theorem Ty.a26:Program.isAggT Try.prog 26=false:=by simp only [Program.isAggT,Try.underlying26]
theorem Ty.s26:scalarT Try.prog 26=false:=by simp only [scalarT,Try.underlying26]
theorem Ty.z26:Program.zeroOf Try.prog 26=some (Value.slice none 0 0):=by kernel_rfl
def Ty.t26:=(And.intro Try.underlying26 (And.intro Ty.c26 (And.intro Ty.b26 (And.intro Ty.a26 (And.intro Ty.s26 Ty.z26)))))
theorem Ty.c29:Program.cellsOf Try.prog 29=1:=by kernel_rfl
theorem Ty.b29:Program.bytesOf Try.prog 29=24:=by kernel_rfl
theorem Ty.a29:Program.isAggT Try.prog 29=false:=by simp only [Program.isAggT,Try.underlying29]
theorem Ty.s29:scalarT Try.prog 29=false:=by simp only [scalarT,Try.underlying29]
theorem Ty.z29:Program.zeroOf Try.prog 29=some (Value.slice none 0 0):=by kernel_rfl
def Ty.t29:=(And.intro Try.underlying29 (And.intro Ty.c29 (And.intro Ty.b29 (And.intro Ty.a29 (And.intro Ty.s29 Ty.z29)))))
theorem Ty.c32:Program.cellsOf Try.prog 32=1:=by kernel_rfl
theorem Ty.b32:Program.bytesOf Try.prog 32=24:=by kernel_rfl
theorem Ty.a32:Program.isAggT Try.prog 32=false:=by simp only [Program.isAggT,Try.underlying32]
theorem Ty.s32:scalarT Try.prog 32=false:=by simp only [scalarT,Try.underlying32]
theorem Ty.z32:Program.zeroOf Try.prog 32=some (Value.slice none 0 0):=by kernel_rfl
def Ty.t32:=(And.intro Try.underlying32 (And.intro Ty.c32 (And.intro Ty.b32 (And.intro Ty.a32 (And.intro Ty.s32 Ty.z32)))))
theorem Ty.c34:Program.cellsOf Try.prog 34=2:=by kernel_rfl
theorem Ty.b34:Program.bytesOf Try.prog 34=32:=by kernel_rfl
theorem Ty.a34:Program.isAggT Try.prog 34=true:=by simp only [Program.isAggT,Try.underlying34]
theorem Ty.s34:scalarT Try.prog 34=false:=by simp only [scalarT,Try.underlying34]
theorem Ty.z34:Program.zeroOf Try.prog 34=some (Value.agg #[Value.int .i64 0,Value.slice none 0 0]):=by kernel_rfl
def Ty.t34:=(And.intro Try.underlying34 (And.intro Ty.c34 (And.intro Ty.b34 (And.intro Ty.a34 (And.intro Ty.s34 Ty.z34)))))
theorem Ty.c36:Program.cellsOf Try.prog 36=1:=by kernel_rfl
theorem Ty.b36:Program.bytesOf Try.prog 36=24:=by kernel_rfl
theorem Ty.a36:Program.isAggT Try.prog 36=false:=by simp only [Program.isAggT,Try.underlying36]
theorem Ty.s36:scalarT Try.prog 36=false:=by simp only [scalarT,Try.underlying36]
theorem Ty.z36:Program.zeroOf Try.prog 36=some (Value.slice none 0 0):=by kernel_rfl
def Ty.t36:=(And.intro Try.underlying36 (And.intro Ty.c36 (And.intro Ty.b36 (And.intro Ty.a36 (And.intro Ty.s36 Ty.z36)))))
theorem Ty.c48:Program.cellsOf Try.prog 48=1:=by kernel_rfl
theorem Ty.b48:Program.bytesOf Try.prog 48=24:=by kernel_rfl
theorem Ty.a48:Program.isAggT Try.prog 48=false:=by simp only [Program.isAggT,Try.underlying48]
theorem Ty.s48:scalarT Try.prog 48=false:=by simp only [scalarT,Try.underlying48]
theorem Ty.z48:Program.zeroOf Try.prog 48=some (Value.slice none 0 0):=by kernel_rfl
def Ty.t48:=(And.intro Try.underlying48 (And.intro Ty.c48 (And.intro Ty.b48 (And.intro Ty.a48 (And.intro Ty.s48 Ty.z48)))))
theorem Ty.c50:Program.cellsOf Try.prog 50=1:=by kernel_rfl
theorem Ty.b50:Program.bytesOf Try.prog 50=24:=by kernel_rfl
theorem Ty.a50:Program.isAggT Try.prog 50=false:=by simp only [Program.isAggT,Try.underlying50]
theorem Ty.s50:scalarT Try.prog 50=false:=by simp only [scalarT,Try.underlying50]
theorem Ty.z50:Program.zeroOf Try.prog 50=some (Value.slice none 0 0):=by kernel_rfl
def Ty.t50:=(And.intro Try.underlying50 (And.intro Ty.c50 (And.intro Ty.b50 (And.intro Ty.a50 (And.intro Ty.s50 Ty.z50)))))
theorem Ty.c53:Program.cellsOf Try.prog 53=1:=by kernel_rfl
theorem Ty.b53:Program.bytesOf Try.prog 53=24:=by kernel_rfl
theorem Ty.a53:Program.isAggT Try.prog 53=false:=by simp only [Program.isAggT,Try.underlying53]
theorem Ty.s53:scalarT Try.prog 53=false:=by simp only [scalarT,Try.underlying53]
theorem Ty.z53:Program.zeroOf Try.prog 53=some (Value.slice none 0 0):=by kernel_rfl
def Ty.t53:=(And.intro Try.underlying53 (And.intro Ty.c53 (And.intro Ty.b53 (And.intro Ty.a53 (And.intro Ty.s53 Ty.z53)))))
theorem Ty.c65:Program.cellsOf Try.prog 65=5:=by kernel_rfl
theorem Ty.b65:Program.bytesOf Try.prog 65=40:=by kernel_rfl
theorem Ty.a65:Program.isAggT Try.prog 65=true:=by simp only [Program.isAggT,Try.underlying65]
theorem Ty.s65:scalarT Try.prog 65=false:=by simp only [scalarT,Try.underlying65]
theorem Ty.z65:Program.zeroOf Try.prog 65=some (Value.agg #[Value.int .i64 0,Value.int .i64 0,Value.int .i64 0,Value.int .i64 0,Value.int .i64 0]):=by kernel_rfl
theorem Ty.q65:eqT Try.prog 65=some [.int .i64,.int .i64,.int .i64,.int .i64,.int .i64]:=by kernel_rfl
def Ty.t65:=(And.intro Try.underlying65 (And.intro Ty.c65 (And.intro Ty.b65 (And.intro Ty.a65 (And.intro Ty.s65 (And.intro Ty.q65 Ty.z65))))))
theorem Ty.c74:Program.cellsOf Try.prog 74=5:=by kernel_rfl
theorem Ty.b74:Program.bytesOf Try.prog 74=48:=by kernel_rfl
theorem Ty.a74:Program.isAggT Try.prog 74=true:=by simp only [Program.isAggT,Try.underlying74]
theorem Ty.s74:scalarT Try.prog 74=false:=by simp only [scalarT,Try.underlying74]
theorem Ty.z74:Program.zeroOf Try.prog 74=some (Value.agg #[Value.string .empty,Value.int .i64 0,Value.int .i64 0,Value.int .i64 0,Value.int .i64 0]):=by kernel_rfl
theorem Ty.q74:eqT Try.prog 74=some [.str,.int .i64,.int .i64,.int .i64,.int .i64]:=by kernel_rfl
def Ty.t74:=(And.intro Try.underlying74 (And.intro Ty.c74 (And.intro Ty.b74 (And.intro Ty.a74 (And.intro Ty.s74 (And.intro Ty.q74 Ty.z74))))))
theorem Ty.c80:Program.cellsOf Try.prog 80=1:=by kernel_rfl
theorem Ty.b80:Program.bytesOf Try.prog 80=24:=by kernel_rfl
theorem Ty.a80:Program.isAggT Try.prog 80=false:=by simp only [Program.isAggT,Try.underlying80]
theorem Ty.s80:scalarT Try.prog 80=false:=by simp only [scalarT,Try.underlying80]
theorem Ty.z80:Program.zeroOf Try.prog 80=some (Value.slice none 0 0):=by kernel_rfl
def Ty.t80:=(And.intro Try.underlying80 (And.intro Ty.c80 (And.intro Ty.b80 (And.intro Ty.a80 (And.intro Ty.s80 Ty.z80)))))
theorem Ty.c83:Program.cellsOf Try.prog 83=5:=by kernel_rfl
theorem Ty.b83:Program.bytesOf Try.prog 83=48:=by kernel_rfl
theorem Ty.a83:Program.isAggT Try.prog 83=true:=by simp only [Program.isAggT,Try.underlying83]
theorem Ty.s83:scalarT Try.prog 83=false:=by simp only [scalarT,Try.underlying83]
theorem Ty.z83:Program.zeroOf Try.prog 83=some (Value.agg #[Value.string .empty,Value.int .i64 0,Value.int .i64 0,Value.int .i64 0,Value.int .i64 0]):=by kernel_rfl
theorem Ty.q83:eqT Try.prog 83=some [.str,.int .i64,.int .i64,.int .i64,.int .i64]:=by kernel_rfl
def Ty.t83:=(And.intro Try.underlying83 (And.intro Ty.c83 (And.intro Ty.b83 (And.intro Ty.a83 (And.intro Ty.s83 (And.intro Ty.q83 Ty.z83))))))
theorem Ty.c86:Program.cellsOf Try.prog 86=1:=by kernel_rfl
theorem Ty.b86:Program.bytesOf Try.prog 86=8:=by kernel_rfl
theorem Ty.a86:Program.isAggT Try.prog 86=false:=by simp only [Program.isAggT,Try.underlying86]
theorem Ty.s86:scalarT Try.prog 86=false:=by simp only [scalarT,Try.underlying86]
theorem Ty.z86:Program.zeroOf Try.prog 86=some (Value.pointer none):=by kernel_rfl
def Ty.t86:=(And.intro Try.underlying86 (And.intro Ty.c86 (And.intro Ty.b86 (And.intro Ty.a86 (And.intro Ty.s86 Ty.z86)))))
theorem Ty.c89:Program.cellsOf Try.prog 89=1:=by kernel_rfl
theorem Ty.b89:Program.bytesOf Try.prog 89=24:=by kernel_rfl
theorem Ty.a89:Program.isAggT Try.prog 89=false:=by simp only [Program.isAggT,Try.underlying89]
theorem Ty.s89:scalarT Try.prog 89=false:=by simp only [scalarT,Try.underlying89]
theorem Ty.z89:Program.zeroOf Try.prog 89=some (Value.slice none 0 0):=by kernel_rfl
def Ty.t89:=(And.intro Try.underlying89 (And.intro Ty.c89 (And.intro Ty.b89 (And.intro Ty.a89 (And.intro Ty.s89 Ty.z89)))))
theorem Ty.c95:Program.cellsOf Try.prog 95=1:=by kernel_rfl
theorem Ty.b95:Program.bytesOf Try.prog 95=8:=by kernel_rfl
theorem Ty.a95:Program.isAggT Try.prog 95=false:=by simp only [Program.isAggT,Try.underlying95]
theorem Ty.s95:scalarT Try.prog 95=false:=by simp only [scalarT,Try.underlying95]
theorem Ty.z95:Program.zeroOf Try.prog 95=some (Value.pointer none):=by kernel_rfl
def Ty.t95:=(And.intro Try.underlying95 (And.intro Ty.c95 (And.intro Ty.b95 (And.intro Ty.a95 (And.intro Ty.s95 Ty.z95)))))
theorem Ty.c96:Program.cellsOf Try.prog 96=1:=by kernel_rfl
theorem Ty.b96:Program.bytesOf Try.prog 96=8:=by kernel_rfl
theorem Ty.a96:Program.isAggT Try.prog 96=false:=by simp only [Program.isAggT,Try.underlying96]
theorem Ty.s96:scalarT Try.prog 96=true:=by simp only [scalarT,Try.underlying96]
theorem Ty.z96:Program.zeroOf Try.prog 96=some (Value.int .u64 0):=by kernel_rfl
def Ty.t96:=(And.intro Try.underlying96 (And.intro Ty.c96 (And.intro Ty.b96 (And.intro Ty.a96 (And.intro Ty.s96 Ty.z96)))))
theorem Ty.c98:Program.cellsOf Try.prog 98=3:=by kernel_rfl
theorem Ty.b98:Program.bytesOf Try.prog 98=40:=by kernel_rfl
theorem Ty.a98:Program.isAggT Try.prog 98=true:=by simp only [Program.isAggT,Try.underlying98]
theorem Ty.s98:scalarT Try.prog 98=false:=by simp only [scalarT,Try.underlying98]
theorem Ty.z98:Program.zeroOf Try.prog 98=some (Value.agg #[Value.slice none 0 0,Value.int .i64 0,Value.int .u64 0]):=by kernel_rfl
def Ty.t98:=(And.intro Try.underlying98 (And.intro Ty.c98 (And.intro Ty.b98 (And.intro Ty.a98 (And.intro Ty.s98 Ty.z98)))))
theorem Ty.c120:Program.cellsOf Try.prog 120=3:=by kernel_rfl
theorem Ty.b120:Program.bytesOf Try.prog 120=24:=by kernel_rfl
theorem Ty.a120:Program.isAggT Try.prog 120=true:=by simp only [Program.isAggT,Try.underlying120]
theorem Ty.s120:scalarT Try.prog 120=false:=by simp only [scalarT,Try.underlying120]
theorem Ty.z120:Program.zeroOf Try.prog 120=some (Value.agg #[Value.int .i64 0,Value.int .i64 0,Value.int .i64 0]):=by kernel_rfl
theorem Ty.q120:eqT Try.prog 120=some [.int .i64,.int .i64,.int .i64]:=by kernel_rfl
def Ty.t120:=(And.intro Try.underlying120 (And.intro Ty.c120 (And.intro Ty.b120 (And.intro Ty.a120 (And.intro Ty.s120 (And.intro Ty.q120 Ty.z120))))))
theorem Ty.c122:Program.cellsOf Try.prog 122=3:=by kernel_rfl
theorem Ty.b122:Program.bytesOf Try.prog 122=24:=by kernel_rfl
theorem Ty.a122:Program.isAggT Try.prog 122=true:=by simp only [Program.isAggT,Try.underlying122]
theorem Ty.s122:scalarT Try.prog 122=false:=by simp only [scalarT,Try.underlying122]
theorem Ty.z122:Program.zeroOf Try.prog 122=some (Value.agg #[Value.int .i64 0,Value.int .i64 0,Value.int .i64 0]):=by kernel_rfl
theorem Ty.q122:eqT Try.prog 122=some [.int .i64,.int .i64,.int .i64]:=by kernel_rfl
def Ty.t122:=(And.intro Try.underlying122 (And.intro Ty.c122 (And.intro Ty.b122 (And.intro Ty.a122 (And.intro Ty.s122 (And.intro Ty.q122 Ty.z122))))))
theorem Ty.c133:Program.cellsOf Try.prog 133=1:=by kernel_rfl
theorem Ty.b133:Program.bytesOf Try.prog 133=8:=by kernel_rfl
theorem Ty.a133:Program.isAggT Try.prog 133=false:=by simp only [Program.isAggT,Try.underlying133]
theorem Ty.s133:scalarT Try.prog 133=true:=by simp only [scalarT,Try.underlying133]
theorem Ty.z133:Program.zeroOf Try.prog 133=some (Value.int .u64 0):=by kernel_rfl
def Ty.t133:=(And.intro Try.underlying133 (And.intro Ty.c133 (And.intro Ty.b133 (And.intro Ty.a133 (And.intro Ty.s133 Ty.z133)))))
theorem Ty.c140:Program.cellsOf Try.prog 140=2:=by kernel_rfl
theorem Ty.b140:Program.bytesOf Try.prog 140=16:=by kernel_rfl
theorem Ty.a140:Program.isAggT Try.prog 140=true:=by simp only [Program.isAggT,Try.underlying140]
theorem Ty.s140:scalarT Try.prog 140=false:=by simp only [scalarT,Try.underlying140]
theorem Ty.z140:Program.zeroOf Try.prog 140=some (Value.agg #[Value.int .i64 0,Value.int .i64 0]):=by kernel_rfl
def Ty.t140:=(And.intro Try.underlying140 (And.intro Ty.c140 (And.intro Ty.b140 (And.intro Ty.a140 (And.intro Ty.s140 Ty.z140)))))
theorem Ty.c141:Program.cellsOf Try.prog 141=1:=by kernel_rfl
theorem Ty.b141:Program.bytesOf Try.prog 141=24:=by kernel_rfl
theorem Ty.a141:Program.isAggT Try.prog 141=false:=by simp only [Program.isAggT,Try.underlying141]
theorem Ty.s141:scalarT Try.prog 141=false:=by simp only [scalarT,Try.underlying141]
theorem Ty.z141:Program.zeroOf Try.prog 141=some (Value.slice none 0 0):=by kernel_rfl
def Ty.t141:=(And.intro Try.underlying141 (And.intro Ty.c141 (And.intro Ty.b141 (And.intro Ty.a141 (And.intro Ty.s141 Ty.z141)))))
theorem Ty.c142:Program.cellsOf Try.prog 142=4:=by kernel_rfl
theorem Ty.b142:Program.bytesOf Try.prog 142=32:=by kernel_rfl
theorem Ty.a142:Program.isAggT Try.prog 142=true:=by simp only [Program.isAggT,Try.underlying142]
theorem Ty.s142:scalarT Try.prog 142=false:=by simp only [scalarT,Try.underlying142]
theorem Ty.z142:Program.zeroOf Try.prog 142=some (Value.agg #[Value.int .i64 0,Value.int .i64 0,Value.int .i64 0,Value.int .i64 0]):=by kernel_rfl
def Ty.t142:=(And.intro Try.underlying142 (And.intro Ty.c142 (And.intro Ty.b142 (And.intro Ty.a142 (And.intro Ty.s142 Ty.z142)))))
theorem Ty.c144:Program.cellsOf Try.prog 144=1:=by kernel_rfl
theorem Ty.b144:Program.bytesOf Try.prog 144=8:=by kernel_rfl
theorem Ty.a144:Program.isAggT Try.prog 144=false:=by simp only [Program.isAggT,Try.underlying144]
theorem Ty.s144:scalarT Try.prog 144=true:=by simp only [scalarT,Try.underlying144]
theorem Ty.z144:Program.zeroOf Try.prog 144=some (Value.int .i64 0):=by kernel_rfl
def Ty.t144:=(And.intro Try.underlying144 (And.intro Ty.c144 (And.intro Ty.b144 (And.intro Ty.a144 (And.intro Ty.s144 Ty.z144)))))
theorem Ty.c157:Program.cellsOf Try.prog 157=1:=by kernel_rfl
theorem Ty.b157:Program.bytesOf Try.prog 157=8:=by kernel_rfl
theorem Ty.a157:Program.isAggT Try.prog 157=false:=by simp only [Program.isAggT,Try.underlying157]
theorem Ty.s157:scalarT Try.prog 157=true:=by simp only [scalarT,Try.underlying157]
theorem Ty.z157:Program.zeroOf Try.prog 157=some (Value.int .u64 0):=by kernel_rfl
def Ty.t157:=(And.intro Try.underlying157 (And.intro Ty.c157 (And.intro Ty.b157 (And.intro Ty.a157 (And.intro Ty.s157 Ty.z157)))))
theorem Ty.c161:Program.cellsOf Try.prog 161=1:=by kernel_rfl
theorem Ty.b161:Program.bytesOf Try.prog 161=8:=by kernel_rfl
theorem Ty.a161:Program.isAggT Try.prog 161=false:=by simp only [Program.isAggT,Try.underlying161]
theorem Ty.s161:scalarT Try.prog 161=false:=by simp only [scalarT,Try.underlying161]
theorem Ty.z161:Program.zeroOf Try.prog 161=some (Value.pointer none):=by kernel_rfl
def Ty.t161:=(And.intro Try.underlying161 (And.intro Ty.c161 (And.intro Ty.b161 (And.intro Ty.a161 (And.intro Ty.s161 Ty.z161)))))
end Go.Proofs.Ytcdpeopiajgljaa
