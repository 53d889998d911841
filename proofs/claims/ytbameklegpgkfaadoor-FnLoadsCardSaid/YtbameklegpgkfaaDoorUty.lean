/- Facts about types. No condition. -/
import Derived.Test.YtbameklegpgkfaaDoorChecked
import Derived.Test.YtbameklegpgkfaaDoorUmF
set_option linter.unusedSimpArgs false
set_option linter.unusedVariables false
set_option linter.defProp false
namespace Go.Proofs.YtbameklegpgkfaaDoor
open Go Go.Vm
theorem Ty.c3:Program.cellsOf Tryd.prog 3=1:=by kernel_rfl
theorem Ty.b3:Program.bytesOf Tryd.prog 3=8:=by kernel_rfl
theorem Ty.a3:Program.isAggT Tryd.prog 3=false:=by simp only [Program.isAggT,Tryd.underlying3]
theorem Ty.s3:scalarT Tryd.prog 3=true:=by simp only [scalarT,Tryd.underlying3]
theorem Ty.z3:Program.zeroOf Tryd.prog 3=some (Value.int .i64 0):=by kernel_rfl
def Ty.t3:=(And.intro Tryd.underlying3 (And.intro Ty.c3 (And.intro Ty.b3 (And.intro Ty.a3 (And.intro Ty.s3 Ty.z3)))))
theorem Ty.c4:Program.cellsOf Tryd.prog 4=1:=by kernel_rfl
theorem Ty.b4:Program.bytesOf Tryd.prog 4=1:=by kernel_rfl
theorem Ty.a4:Program.isAggT Tryd.prog 4=false:=by simp only [Program.isAggT,Tryd.underlying4]
theorem Ty.s4:scalarT Tryd.prog 4=true:=by simp only [scalarT,Tryd.underlying4]
theorem Ty.z4:Program.zeroOf Tryd.prog 4=some (Value.bool false):=by kernel_rfl
def Ty.t4:=(And.intro Tryd.underlying4 (And.intro Ty.c4 (And.intro Ty.b4 (And.intro Ty.a4 (And.intro Ty.s4 Ty.z4)))))
theorem Ty.c5:Program.cellsOf Tryd.prog 5=1:=by kernel_rfl
theorem Ty.b5:Program.bytesOf Tryd.prog 5=1:=by kernel_rfl
theorem Ty.a5:Program.isAggT Tryd.prog 5=false:=by simp only [Program.isAggT,Tryd.underlying5]
theorem Ty.s5:scalarT Tryd.prog 5=true:=by simp only [scalarT,Tryd.underlying5]
theorem Ty.z5:Program.zeroOf Tryd.prog 5=some (Value.int .u8 0):=by kernel_rfl
def Ty.t5:=(And.intro Tryd.underlying5 (And.intro Ty.c5 (And.intro Ty.b5 (And.intro Ty.a5 (And.intro Ty.s5 Ty.z5)))))
theorem Ty.c9:Program.cellsOf Tryd.prog 9=1:=by kernel_rfl
theorem Ty.b9:Program.bytesOf Tryd.prog 9=16:=by kernel_rfl
theorem Ty.a9:Program.isAggT Tryd.prog 9=false:=by simp only [Program.isAggT,Tryd.underlying9]
theorem Ty.s9:scalarT Tryd.prog 9=true:=by simp only [scalarT,Tryd.underlying9]
theorem Ty.z9:Program.zeroOf Tryd.prog 9=some (Value.string .empty):=by kernel_rfl
def Ty.t9:=(And.intro Tryd.underlying9 (And.intro Ty.c9 (And.intro Ty.b9 (And.intro Ty.a9 (And.intro Ty.s9 Ty.z9)))))
theorem Ty.c22:Program.cellsOf Tryd.prog 22=1:=by kernel_rfl
theorem Ty.b22:Program.bytesOf Tryd.prog 22=24:=by kernel_rfl
theorem Ty.a22:Program.isAggT Tryd.prog 22=false:=by simp only [Program.isAggT,Tryd.underlying22]
theorem Ty.s22:scalarT Tryd.prog 22=false:=by simp only [scalarT,Tryd.underlying22]
theorem Ty.z22:Program.zeroOf Tryd.prog 22=some (Value.slice none 0 0):=by kernel_rfl
def Ty.t22:=(And.intro Tryd.underlying22 (And.intro Ty.c22 (And.intro Ty.b22 (And.intro Ty.a22 (And.intro Ty.s22 Ty.z22)))))
theorem Ty.c23:Program.cellsOf Tryd.prog 23=1:=by kernel_rfl
theorem Ty.b23:Program.bytesOf Tryd.prog 23=24:=by kernel_rfl
theorem Ty.a23:Program.isAggT Tryd.prog 23=false:=by simp only [Program.isAggT,Tryd.underlying23]
theorem Ty.s23:scalarT Tryd.prog 23=false:=by simp only [scalarT,Tryd.underlying23]
theorem Ty.z23:Program.zeroOf Tryd.prog 23=some (Value.slice none 0 0):=by kernel_rfl
def Ty.t23:=(And.intro Tryd.underlying23 (And.intro Ty.c23 (And.intro Ty.b23 (And.intro Ty.a23 (And.intro Ty.s23 Ty.z23)))))
theorem Ty.c25:Program.cellsOf Tryd.prog 25=3:=by kernel_rfl
theorem Ty.b25:Program.bytesOf Tryd.prog 25=24:=by kernel_rfl
theorem Ty.a25:Program.isAggT Tryd.prog 25=true:=by simp only [Program.isAggT,Tryd.underlying25]
theorem Ty.s25:scalarT Tryd.prog 25=false:=by simp only [scalarT,Tryd.underlying25]
theorem Ty.z25:Program.zeroOf Tryd.prog 25=some (Value.agg #[Value.int .i64 0,Value.int .i64 0,Value.int .i64 0]):=by kernel_rfl
theorem Ty.q25:eqT Tryd.prog 25=some [.int .i64,.int .i64,.int .i64]:=by kernel_rfl
def Ty.t25:=(And.intro Tryd.underlying25 (And.intro Ty.c25 (And.intro Ty.b25 (And.intro Ty.a25 (And.intro Ty.s25 (And.intro Ty.q25 Ty.z25))))))
theorem Ty.c36:Program.cellsOf Tryd.prog 36=1:=by kernel_rfl
theorem Ty.b36:Program.bytesOf Tryd.prog 36=24:=by kernel_rfl
theorem Ty.a36:Program.isAggT Tryd.prog 36=false:=by simp only [Program.isAggT,Tryd.underlying36]
theorem Ty.s36:scalarT Tryd.prog 36=false:=by simp only [scalarT,Tryd.underlying36]
theorem Ty.z36:Program.zeroOf Tryd.prog 36=some (Value.slice none 0 0):=by kernel_rfl
def Ty.t36:=(And.intro Tryd.underlying36 (And.intro Ty.c36 (And.intro Ty.b36 (And.intro Ty.a36 (And.intro Ty.s36 Ty.z36)))))
theorem Ty.c48:Program.cellsOf Tryd.prog 48=1:=by kernel_rfl
theorem Ty.b48:Program.bytesOf Tryd.prog 48=24:=by kernel_rfl
theorem Ty.a48:Program.isAggT Tryd.prog 48=false:=by simp only [Program.isAggT,Tryd.underlying48]
theorem Ty.s48:scalarT Tryd.prog 48=false:=by simp only [scalarT,Tryd.underlying48]
theorem Ty.z48:Program.zeroOf Tryd.prog 48=some (Value.slice none 0 0):=by kernel_rfl
def Ty.t48:=(And.intro Tryd.underlying48 (And.intro Ty.c48 (And.intro Ty.b48 (And.intro Ty.a48 (And.intro Ty.s48 Ty.z48)))))
theorem Ty.c62:Program.cellsOf Tryd.prog 62=4:=by kernel_rfl
theorem Ty.b62:Program.bytesOf Tryd.prog 62=40:=by kernel_rfl
theorem Ty.a62:Program.isAggT Tryd.prog 62=true:=by simp only [Program.isAggT,Tryd.underlying62]
theorem Ty.s62:scalarT Tryd.prog 62=false:=by simp only [scalarT,Tryd.underlying62]
theorem Ty.z62:Program.zeroOf Tryd.prog 62=some (Value.agg #[Value.int .i64 0,Value.string .empty,Value.int .i64 0,Value.int .i64 0]):=by kernel_rfl
theorem Ty.q62:eqT Tryd.prog 62=some [.int .i64,.str,.int .i64,.int .i64]:=by kernel_rfl
def Ty.t62:=(And.intro Tryd.underlying62 (And.intro Ty.c62 (And.intro Ty.b62 (And.intro Ty.a62 (And.intro Ty.s62 (And.intro Ty.q62 Ty.z62))))))
theorem Ty.c63:Program.cellsOf Tryd.prog 63=1:=by kernel_rfl
theorem Ty.b63:Program.bytesOf Tryd.prog 63=24:=by kernel_rfl
theorem Ty.a63:Program.isAggT Tryd.prog 63=false:=by simp only [Program.isAggT,Tryd.underlying63]
theorem Ty.s63:scalarT Tryd.prog 63=false:=by simp only [scalarT,Tryd.underlying63]
theorem Ty.z63:Program.zeroOf Tryd.prog 63=some (Value.slice none 0 0):=by kernel_rfl
def Ty.t63:=(And.intro Tryd.underlying63 (And.intro Ty.c63 (And.intro Ty.b63 (And.intro Ty.a63 (And.intro Ty.s63 Ty.z63)))))
theorem Ty.c65:Program.cellsOf Tryd.prog 65=2:=by kernel_rfl
theorem Ty.b65:Program.bytesOf Tryd.prog 65=40:=by kernel_rfl
theorem Ty.a65:Program.isAggT Tryd.prog 65=true:=by simp only [Program.isAggT,Tryd.underlying65]
theorem Ty.s65:scalarT Tryd.prog 65=false:=by simp only [scalarT,Tryd.underlying65]
theorem Ty.z65:Program.zeroOf Tryd.prog 65=some (Value.agg #[Value.string .empty,Value.slice none 0 0]):=by kernel_rfl
def Ty.t65:=(And.intro Tryd.underlying65 (And.intro Ty.c65 (And.intro Ty.b65 (And.intro Ty.a65 (And.intro Ty.s65 Ty.z65)))))
theorem Ty.c66:Program.cellsOf Tryd.prog 66=1:=by kernel_rfl
theorem Ty.b66:Program.bytesOf Tryd.prog 66=24:=by kernel_rfl
theorem Ty.a66:Program.isAggT Tryd.prog 66=false:=by simp only [Program.isAggT,Tryd.underlying66]
theorem Ty.s66:scalarT Tryd.prog 66=false:=by simp only [scalarT,Tryd.underlying66]
theorem Ty.z66:Program.zeroOf Tryd.prog 66=some (Value.slice none 0 0):=by kernel_rfl
def Ty.t66:=(And.intro Tryd.underlying66 (And.intro Ty.c66 (And.intro Ty.b66 (And.intro Ty.a66 (And.intro Ty.s66 Ty.z66)))))
theorem Ty.c74:Program.cellsOf Tryd.prog 74=1:=by kernel_rfl
theorem Ty.b74:Program.bytesOf Tryd.prog 74=24:=by kernel_rfl
theorem Ty.a74:Program.isAggT Tryd.prog 74=false:=by simp only [Program.isAggT,Tryd.underlying74]
theorem Ty.s74:scalarT Tryd.prog 74=false:=by simp only [scalarT,Tryd.underlying74]
theorem Ty.z74:Program.zeroOf Tryd.prog 74=some (Value.slice none 0 0):=by kernel_rfl
def Ty.t74:=(And.intro Tryd.underlying74 (And.intro Ty.c74 (And.intro Ty.b74 (And.intro Ty.a74 (And.intro Ty.s74 Ty.z74)))))
theorem Ty.c93:Program.cellsOf Tryd.prog 93=3:=by kernel_rfl
theorem Ty.b93:Program.bytesOf Tryd.prog 93=32:=by kernel_rfl
theorem Ty.a93:Program.isAggT Tryd.prog 93=true:=by simp only [Program.isAggT,Tryd.underlying93]
theorem Ty.s93:scalarT Tryd.prog 93=false:=by simp only [scalarT,Tryd.underlying93]
theorem Ty.z93:Program.zeroOf Tryd.prog 93=some (Value.agg #[Value.string .empty,Value.int .i64 0,Value.int .i64 0]):=by kernel_rfl
theorem Ty.q93:eqT Tryd.prog 93=some [.str,.int .i64,.int .i64]:=by kernel_rfl
def Ty.t93:=(And.intro Tryd.underlying93 (And.intro Ty.c93 (And.intro Ty.b93 (And.intro Ty.a93 (And.intro Ty.s93 (And.intro Ty.q93 Ty.z93))))))
theorem Ty.c95:Program.cellsOf Tryd.prog 95=1:=by kernel_rfl
theorem Ty.b95:Program.bytesOf Tryd.prog 95=8:=by kernel_rfl
theorem Ty.a95:Program.isAggT Tryd.prog 95=false:=by simp only [Program.isAggT,Tryd.underlying95]
theorem Ty.s95:scalarT Tryd.prog 95=false:=by simp only [scalarT,Tryd.underlying95]
theorem Ty.z95:Program.zeroOf Tryd.prog 95=some (Value.pointer none):=by kernel_rfl
def Ty.t95:=(And.intro Tryd.underlying95 (And.intro Ty.c95 (And.intro Ty.b95 (And.intro Ty.a95 (And.intro Ty.s95 Ty.z95)))))
theorem Ty.c96:Program.cellsOf Tryd.prog 96=1:=by kernel_rfl
theorem Ty.b96:Program.bytesOf Tryd.prog 96=8:=by kernel_rfl
theorem Ty.a96:Program.isAggT Tryd.prog 96=false:=by simp only [Program.isAggT,Tryd.underlying96]
theorem Ty.s96:scalarT Tryd.prog 96=true:=by simp only [scalarT,Tryd.underlying96]
theorem Ty.z96:Program.zeroOf Tryd.prog 96=some (Value.int .u64 0):=by kernel_rfl
def Ty.t96:=(And.intro Tryd.underlying96 (And.intro Ty.c96 (And.intro Ty.b96 (And.intro Ty.a96 (And.intro Ty.s96 Ty.z96)))))
theorem Ty.c98:Program.cellsOf Tryd.prog 98=3:=by kernel_rfl
theorem Ty.b98:Program.bytesOf Tryd.prog 98=40:=by kernel_rfl
theorem Ty.a98:Program.isAggT Tryd.prog 98=true:=by simp only [Program.isAggT,Tryd.underlying98]
theorem Ty.s98:scalarT Tryd.prog 98=false:=by simp only [scalarT,Tryd.underlying98]
theorem Ty.z98:Program.zeroOf Tryd.prog 98=some (Value.agg #[Value.slice none 0 0,Value.int .i64 0,Value.int .u64 0]):=by kernel_rfl
def Ty.t98:=(And.intro Tryd.underlying98 (And.intro Ty.c98 (And.intro Ty.b98 (And.intro Ty.a98 (And.intro Ty.s98 Ty.z98)))))
theorem Ty.c141:Program.cellsOf Tryd.prog 141=1:=by kernel_rfl
theorem Ty.b141:Program.bytesOf Tryd.prog 141=8:=by kernel_rfl
theorem Ty.a141:Program.isAggT Tryd.prog 141=false:=by simp only [Program.isAggT,Tryd.underlying141]
theorem Ty.s141:scalarT Tryd.prog 141=true:=by simp only [scalarT,Tryd.underlying141]
theorem Ty.z141:Program.zeroOf Tryd.prog 141=some (Value.int .u64 0):=by kernel_rfl
def Ty.t141:=(And.intro Tryd.underlying141 (And.intro Ty.c141 (And.intro Ty.b141 (And.intro Ty.a141 (And.intro Ty.s141 Ty.z141)))))
theorem Ty.c157:Program.cellsOf Tryd.prog 157=1:=by kernel_rfl
theorem Ty.b157:Program.bytesOf Tryd.prog 157=8:=by kernel_rfl
theorem Ty.a157:Program.isAggT Tryd.prog 157=false:=by simp only [Program.isAggT,Tryd.underlying157]
theorem Ty.s157:scalarT Tryd.prog 157=true:=by simp only [scalarT,Tryd.underlying157]
theorem Ty.z157:Program.zeroOf Tryd.prog 157=some (Value.int .i64 0):=by kernel_rfl
def Ty.t157:=(And.intro Tryd.underlying157 (And.intro Ty.c157 (And.intro Ty.b157 (And.intro Ty.a157 (And.intro Ty.s157 Ty.z157)))))
theorem Ty.c166:Program.cellsOf Tryd.prog 166=1:=by kernel_rfl
theorem Ty.b166:Program.bytesOf Tryd.prog 166=8:=by kernel_rfl
theorem Ty.a166:Program.isAggT Tryd.prog 166=false:=by simp only [Program.isAggT,Tryd.underlying166]
theorem Ty.s166:scalarT Tryd.prog 166=false:=by simp only [scalarT,Tryd.underlying166]
theorem Ty.z166:Program.zeroOf Tryd.prog 166=some (Value.pointer none):=by kernel_rfl
def Ty.t166:=(And.intro Tryd.underlying166 (And.intro Ty.c166 (And.intro Ty.b166 (And.intro Ty.a166 (And.intro Ty.s166 Ty.z166)))))
theorem Ty.c168:Program.cellsOf Tryd.prog 168=2:=by kernel_rfl
theorem Ty.b168:Program.bytesOf Tryd.prog 168=32:=by kernel_rfl
theorem Ty.a168:Program.isAggT Tryd.prog 168=true:=by simp only [Program.isAggT,Tryd.underlying168]
theorem Ty.s168:scalarT Tryd.prog 168=false:=by simp only [scalarT,Tryd.underlying168]
theorem Ty.z168:Program.zeroOf Tryd.prog 168=some (Value.agg #[Value.pointer none,Value.slice none 0 0]):=by kernel_rfl
def Ty.t168:=(And.intro Tryd.underlying168 (And.intro Ty.c168 (And.intro Ty.b168 (And.intro Ty.a168 (And.intro Ty.s168 Ty.z168)))))
theorem Ty.c179:Program.cellsOf Tryd.prog 179=1:=by kernel_rfl
theorem Ty.b179:Program.bytesOf Tryd.prog 179=8:=by kernel_rfl
theorem Ty.a179:Program.isAggT Tryd.prog 179=false:=by simp only [Program.isAggT,Tryd.underlying179]
theorem Ty.s179:scalarT Tryd.prog 179=true:=by simp only [scalarT,Tryd.underlying179]
theorem Ty.z179:Program.zeroOf Tryd.prog 179=some (Value.int .u64 0):=by kernel_rfl
def Ty.t179:=(And.intro Tryd.underlying179 (And.intro Ty.c179 (And.intro Ty.b179 (And.intro Ty.a179 (And.intro Ty.s179 Ty.z179)))))
theorem Ty.c183:Program.cellsOf Tryd.prog 183=1:=by kernel_rfl
theorem Ty.b183:Program.bytesOf Tryd.prog 183=8:=by kernel_rfl
theorem Ty.a183:Program.isAggT Tryd.prog 183=false:=by simp only [Program.isAggT,Tryd.underlying183]
theorem Ty.s183:scalarT Tryd.prog 183=false:=by simp only [scalarT,Tryd.underlying183]
theorem Ty.z183:Program.zeroOf Tryd.prog 183=some (Value.pointer none):=by kernel_rfl
def Ty.t183:=(And.intro Tryd.underlying183 (And.intro Ty.c183 (And.intro Ty.b183 (And.intro Ty.a183 (And.intro Ty.s183 Ty.z183)))))
end Go.Proofs.YtbameklegpgkfaaDoor
