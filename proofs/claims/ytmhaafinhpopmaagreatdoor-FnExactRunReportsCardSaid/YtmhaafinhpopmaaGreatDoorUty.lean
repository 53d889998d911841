/- Facts about types. No condition. -/
import Derived.Test.YtmhaafinhpopmaaGreatDoorChecked
import Derived.Test.YtmhaafinhpopmaaGreatDoorUmF
set_option linter.unusedSimpArgs false
set_option linter.unusedVariables false
set_option linter.defProp false
namespace Go.Proofs.YtmhaafinhpopmaaGreatDoor
open Go Go.Vm
theorem Ty.c3:Program.cellsOf Tryz.prog 3=1:=by kernel_rfl
theorem Ty.b3:Program.bytesOf Tryz.prog 3=8:=by kernel_rfl
theorem Ty.a3:Program.isAggT Tryz.prog 3=false:=by simp only [Program.isAggT,Tryz.underlying3]
theorem Ty.s3:scalarT Tryz.prog 3=true:=by simp only [scalarT,Tryz.underlying3]
theorem Ty.z3:Program.zeroOf Tryz.prog 3=some (Value.int .i64 0):=by kernel_rfl
def Ty.t3:=(And.intro Tryz.underlying3 (And.intro Ty.c3 (And.intro Ty.b3 (And.intro Ty.a3 (And.intro Ty.s3 Ty.z3)))))
theorem Ty.c4:Program.cellsOf Tryz.prog 4=1:=by kernel_rfl
theorem Ty.b4:Program.bytesOf Tryz.prog 4=1:=by kernel_rfl
theorem Ty.a4:Program.isAggT Tryz.prog 4=false:=by simp only [Program.isAggT,Tryz.underlying4]
theorem Ty.s4:scalarT Tryz.prog 4=true:=by simp only [scalarT,Tryz.underlying4]
theorem Ty.z4:Program.zeroOf Tryz.prog 4=some (Value.bool false):=by kernel_rfl
def Ty.t4:=(And.intro Tryz.underlying4 (And.intro Ty.c4 (And.intro Ty.b4 (And.intro Ty.a4 (And.intro Ty.s4 Ty.z4)))))
theorem Ty.c5:Program.cellsOf Tryz.prog 5=1:=by kernel_rfl
theorem Ty.b5:Program.bytesOf Tryz.prog 5=1:=by kernel_rfl
theorem Ty.a5:Program.isAggT Tryz.prog 5=false:=by simp only [Program.isAggT,Tryz.underlying5]
theorem Ty.s5:scalarT Tryz.prog 5=true:=by simp only [scalarT,Tryz.underlying5]
theorem Ty.z5:Program.zeroOf Tryz.prog 5=some (Value.int .u8 0):=by kernel_rfl
def Ty.t5:=(And.intro Tryz.underlying5 (And.intro Ty.c5 (And.intro Ty.b5 (And.intro Ty.a5 (And.intro Ty.s5 Ty.z5)))))
theorem Ty.c9:Program.cellsOf Tryz.prog 9=1:=by kernel_rfl
theorem Ty.b9:Program.bytesOf Tryz.prog 9=16:=by kernel_rfl
theorem Ty.a9:Program.isAggT Tryz.prog 9=false:=by simp only [Program.isAggT,Tryz.underlying9]
theorem Ty.s9:scalarT Tryz.prog 9=true:=by simp only [scalarT,Tryz.underlying9]
theorem Ty.z9:Program.zeroOf Tryz.prog 9=some (Value.string .empty):=by kernel_rfl
def Ty.t9:=(And.intro Tryz.underlying9 (And.intro Ty.c9 (And.intro Ty.b9 (And.intro Ty.a9 (And.intro Ty.s9 Ty.z9)))))
theorem Ty.c22:Program.cellsOf Tryz.prog 22=1:=by kernel_rfl
theorem Ty.b22:Program.bytesOf Tryz.prog 22=24:=by kernel_rfl
theorem Ty.a22:Program.isAggT Tryz.prog 22=false:=by simp only [Program.isAggT,Tryz.underlying22]
theorem Ty.s22:scalarT Tryz.prog 22=false:=by simp only [scalarT,Tryz.underlying22]
theorem Ty.z22:Program.zeroOf Tryz.prog 22=some (Value.slice none 0 0):=by kernel_rfl
def Ty.t22:=(And.intro Tryz.underlying22 (And.intro Ty.c22 (And.intro Ty.b22 (And.intro Ty.a22 (And.intro Ty.s22 Ty.z22)))))
theorem Ty.c24:Program.cellsOf Tryz.prog 24=1:=by kernel_rfl
theorem Ty.b24:Program.bytesOf Tryz.prog 24=24:=by kernel_rfl
theorem Ty.a24:Program.isAggT Tryz.prog 24=false:=by simp only [Program.isAggT,Tryz.underlying24]
theorem Ty.s24:scalarT Tryz.prog 24=false:=by simp only [scalarT,Tryz.underlying24]
theorem Ty.z24:Program.zeroOf Tryz.prog 24=some (Value.slice none 0 0):=by kernel_rfl
def Ty.t24:=(And.intro Tryz.underlying24 (And.intro Ty.c24 (And.intro Ty.b24 (And.intro Ty.a24 (And.intro Ty.s24 Ty.z24)))))
theorem Ty.c26:Program.cellsOf Tryz.prog 26=5:=by kernel_rfl
theorem Ty.b26:Program.bytesOf Tryz.prog 26=40:=by kernel_rfl
theorem Ty.a26:Program.isAggT Tryz.prog 26=true:=by simp only [Program.isAggT,Tryz.underlying26]
theorem Ty.s26:scalarT Tryz.prog 26=false:=by simp only [scalarT,Tryz.underlying26]
theorem Ty.z26:Program.zeroOf Tryz.prog 26=some (Value.agg #[Value.int .i64 0,Value.int .i64 0,Value.int .i64 0,Value.int .i64 0,Value.int .i64 0]):=by kernel_rfl
theorem Ty.q26:eqT Tryz.prog 26=some [.int .i64,.int .i64,.int .i64,.int .i64,.int .i64]:=by kernel_rfl
def Ty.t26:=(And.intro Tryz.underlying26 (And.intro Ty.c26 (And.intro Ty.b26 (And.intro Ty.a26 (And.intro Ty.s26 (And.intro Ty.q26 Ty.z26))))))
theorem Ty.c35:Program.cellsOf Tryz.prog 35=1:=by kernel_rfl
theorem Ty.b35:Program.bytesOf Tryz.prog 35=24:=by kernel_rfl
theorem Ty.a35:Program.isAggT Tryz.prog 35=false:=by simp only [Program.isAggT,Tryz.underlying35]
theorem Ty.s35:scalarT Tryz.prog 35=false:=by simp only [scalarT,Tryz.underlying35]
theorem Ty.z35:Program.zeroOf Tryz.prog 35=some (Value.slice none 0 0):=by kernel_rfl
def Ty.t35:=(And.intro Tryz.underlying35 (And.intro Ty.c35 (And.intro Ty.b35 (And.intro Ty.a35 (And.intro Ty.s35 Ty.z35)))))
theorem Ty.c51:Program.cellsOf Tryz.prog 51=1:=by kernel_rfl
theorem Ty.b51:Program.bytesOf Tryz.prog 51=24:=by kernel_rfl
theorem Ty.a51:Program.isAggT Tryz.prog 51=false:=by simp only [Program.isAggT,Tryz.underlying51]
theorem Ty.s51:scalarT Tryz.prog 51=false:=by simp only [scalarT,Tryz.underlying51]
theorem Ty.z51:Program.zeroOf Tryz.prog 51=some (Value.slice none 0 0):=by kernel_rfl
def Ty.t51:=(And.intro Tryz.underlying51 (And.intro Ty.c51 (And.intro Ty.b51 (And.intro Ty.a51 (And.intro Ty.s51 Ty.z51)))))
theorem Ty.c53:Program.cellsOf Tryz.prog 53=2:=by kernel_rfl
theorem Ty.b53:Program.bytesOf Tryz.prog 53=32:=by kernel_rfl
theorem Ty.a53:Program.isAggT Tryz.prog 53=true:=by simp only [Program.isAggT,Tryz.underlying53]
theorem Ty.s53:scalarT Tryz.prog 53=false:=by simp only [scalarT,Tryz.underlying53]
theorem Ty.z53:Program.zeroOf Tryz.prog 53=some (Value.agg #[Value.int .i64 0,Value.slice none 0 0]):=by kernel_rfl
def Ty.t53:=(And.intro Tryz.underlying53 (And.intro Ty.c53 (And.intro Ty.b53 (And.intro Ty.a53 (And.intro Ty.s53 Ty.z53)))))
theorem Ty.c54:Program.cellsOf Tryz.prog 54=1:=by kernel_rfl
theorem Ty.b54:Program.bytesOf Tryz.prog 54=24:=by kernel_rfl
theorem Ty.a54:Program.isAggT Tryz.prog 54=false:=by simp only [Program.isAggT,Tryz.underlying54]
theorem Ty.s54:scalarT Tryz.prog 54=false:=by simp only [scalarT,Tryz.underlying54]
theorem Ty.z54:Program.zeroOf Tryz.prog 54=some (Value.slice none 0 0):=by kernel_rfl
def Ty.t54:=(And.intro Tryz.underlying54 (And.intro Ty.c54 (And.intro Ty.b54 (And.intro Ty.a54 (And.intro Ty.s54 Ty.z54)))))
theorem Ty.c55:Program.cellsOf Tryz.prog 55=1:=by kernel_rfl
theorem Ty.b55:Program.bytesOf Tryz.prog 55=24:=by kernel_rfl
theorem Ty.a55:Program.isAggT Tryz.prog 55=false:=by simp only [Program.isAggT,Tryz.underlying55]
theorem Ty.s55:scalarT Tryz.prog 55=false:=by simp only [scalarT,Tryz.underlying55]
theorem Ty.z55:Program.zeroOf Tryz.prog 55=some (Value.slice none 0 0):=by kernel_rfl
def Ty.t55:=(And.intro Tryz.underlying55 (And.intro Ty.c55 (And.intro Ty.b55 (And.intro Ty.a55 (And.intro Ty.s55 Ty.z55)))))
theorem Ty.c56:Program.cellsOf Tryz.prog 56=1:=by kernel_rfl
theorem Ty.b56:Program.bytesOf Tryz.prog 56=24:=by kernel_rfl
theorem Ty.a56:Program.isAggT Tryz.prog 56=false:=by simp only [Program.isAggT,Tryz.underlying56]
theorem Ty.s56:scalarT Tryz.prog 56=false:=by simp only [scalarT,Tryz.underlying56]
theorem Ty.z56:Program.zeroOf Tryz.prog 56=some (Value.slice none 0 0):=by kernel_rfl
def Ty.t56:=(And.intro Tryz.underlying56 (And.intro Ty.c56 (And.intro Ty.b56 (And.intro Ty.a56 (And.intro Ty.s56 Ty.z56)))))
theorem Ty.c58:Program.cellsOf Tryz.prog 58=3:=by kernel_rfl
theorem Ty.b58:Program.bytesOf Tryz.prog 58=72:=by kernel_rfl
theorem Ty.a58:Program.isAggT Tryz.prog 58=true:=by simp only [Program.isAggT,Tryz.underlying58]
theorem Ty.s58:scalarT Tryz.prog 58=false:=by simp only [scalarT,Tryz.underlying58]
theorem Ty.z58:Program.zeroOf Tryz.prog 58=some (Value.agg #[Value.slice none 0 0,Value.slice none 0 0,Value.slice none 0 0]):=by kernel_rfl
def Ty.t58:=(And.intro Tryz.underlying58 (And.intro Ty.c58 (And.intro Ty.b58 (And.intro Ty.a58 (And.intro Ty.s58 Ty.z58)))))
theorem Ty.c59:Program.cellsOf Tryz.prog 59=1:=by kernel_rfl
theorem Ty.b59:Program.bytesOf Tryz.prog 59=24:=by kernel_rfl
theorem Ty.a59:Program.isAggT Tryz.prog 59=false:=by simp only [Program.isAggT,Tryz.underlying59]
theorem Ty.s59:scalarT Tryz.prog 59=false:=by simp only [scalarT,Tryz.underlying59]
theorem Ty.z59:Program.zeroOf Tryz.prog 59=some (Value.slice none 0 0):=by kernel_rfl
def Ty.t59:=(And.intro Tryz.underlying59 (And.intro Ty.c59 (And.intro Ty.b59 (And.intro Ty.a59 (And.intro Ty.s59 Ty.z59)))))
theorem Ty.c63:Program.cellsOf Tryz.prog 63=1:=by kernel_rfl
theorem Ty.b63:Program.bytesOf Tryz.prog 63=24:=by kernel_rfl
theorem Ty.a63:Program.isAggT Tryz.prog 63=false:=by simp only [Program.isAggT,Tryz.underlying63]
theorem Ty.s63:scalarT Tryz.prog 63=false:=by simp only [scalarT,Tryz.underlying63]
theorem Ty.z63:Program.zeroOf Tryz.prog 63=some (Value.slice none 0 0):=by kernel_rfl
def Ty.t63:=(And.intro Tryz.underlying63 (And.intro Ty.c63 (And.intro Ty.b63 (And.intro Ty.a63 (And.intro Ty.s63 Ty.z63)))))
theorem Ty.c64:Program.cellsOf Tryz.prog 64=1:=by kernel_rfl
theorem Ty.b64:Program.bytesOf Tryz.prog 64=24:=by kernel_rfl
theorem Ty.a64:Program.isAggT Tryz.prog 64=false:=by simp only [Program.isAggT,Tryz.underlying64]
theorem Ty.s64:scalarT Tryz.prog 64=false:=by simp only [scalarT,Tryz.underlying64]
theorem Ty.z64:Program.zeroOf Tryz.prog 64=some (Value.slice none 0 0):=by kernel_rfl
def Ty.t64:=(And.intro Tryz.underlying64 (And.intro Ty.c64 (And.intro Ty.b64 (And.intro Ty.a64 (And.intro Ty.s64 Ty.z64)))))
theorem Ty.c65:Program.cellsOf Tryz.prog 65=1:=by kernel_rfl
theorem Ty.b65:Program.bytesOf Tryz.prog 65=24:=by kernel_rfl
theorem Ty.a65:Program.isAggT Tryz.prog 65=false:=by simp only [Program.isAggT,Tryz.underlying65]
theorem Ty.s65:scalarT Tryz.prog 65=false:=by simp only [scalarT,Tryz.underlying65]
theorem Ty.z65:Program.zeroOf Tryz.prog 65=some (Value.slice none 0 0):=by kernel_rfl
def Ty.t65:=(And.intro Tryz.underlying65 (And.intro Ty.c65 (And.intro Ty.b65 (And.intro Ty.a65 (And.intro Ty.s65 Ty.z65)))))
theorem Ty.c67:Program.cellsOf Tryz.prog 67=3:=by kernel_rfl
theorem Ty.b67:Program.bytesOf Tryz.prog 67=72:=by kernel_rfl
theorem Ty.a67:Program.isAggT Tryz.prog 67=true:=by simp only [Program.isAggT,Tryz.underlying67]
theorem Ty.s67:scalarT Tryz.prog 67=false:=by simp only [scalarT,Tryz.underlying67]
theorem Ty.z67:Program.zeroOf Tryz.prog 67=some (Value.agg #[Value.slice none 0 0,Value.slice none 0 0,Value.slice none 0 0]):=by kernel_rfl
def Ty.t67:=(And.intro Tryz.underlying67 (And.intro Ty.c67 (And.intro Ty.b67 (And.intro Ty.a67 (And.intro Ty.s67 Ty.z67)))))
theorem Ty.c70:Program.cellsOf Tryz.prog 70=1:=by kernel_rfl
theorem Ty.b70:Program.bytesOf Tryz.prog 70=24:=by kernel_rfl
theorem Ty.a70:Program.isAggT Tryz.prog 70=false:=by simp only [Program.isAggT,Tryz.underlying70]
theorem Ty.s70:scalarT Tryz.prog 70=false:=by simp only [scalarT,Tryz.underlying70]
theorem Ty.z70:Program.zeroOf Tryz.prog 70=some (Value.slice none 0 0):=by kernel_rfl
def Ty.t70:=(And.intro Tryz.underlying70 (And.intro Ty.c70 (And.intro Ty.b70 (And.intro Ty.a70 (And.intro Ty.s70 Ty.z70)))))
theorem Ty.c72:Program.cellsOf Tryz.prog 72=2:=by kernel_rfl
theorem Ty.b72:Program.bytesOf Tryz.prog 72=32:=by kernel_rfl
theorem Ty.a72:Program.isAggT Tryz.prog 72=true:=by simp only [Program.isAggT,Tryz.underlying72]
theorem Ty.s72:scalarT Tryz.prog 72=false:=by simp only [scalarT,Tryz.underlying72]
theorem Ty.z72:Program.zeroOf Tryz.prog 72=some (Value.agg #[Value.int .i64 0,Value.slice none 0 0]):=by kernel_rfl
def Ty.t72:=(And.intro Tryz.underlying72 (And.intro Ty.c72 (And.intro Ty.b72 (And.intro Ty.a72 (And.intro Ty.s72 Ty.z72)))))
theorem Ty.c83:Program.cellsOf Tryz.prog 83=1:=by kernel_rfl
theorem Ty.b83:Program.bytesOf Tryz.prog 83=8:=by kernel_rfl
theorem Ty.a83:Program.isAggT Tryz.prog 83=false:=by simp only [Program.isAggT,Tryz.underlying83]
theorem Ty.s83:scalarT Tryz.prog 83=false:=by simp only [scalarT,Tryz.underlying83]
theorem Ty.z83:Program.zeroOf Tryz.prog 83=some (Value.pointer none):=by kernel_rfl
def Ty.t83:=(And.intro Tryz.underlying83 (And.intro Ty.c83 (And.intro Ty.b83 (And.intro Ty.a83 (And.intro Ty.s83 Ty.z83)))))
theorem Ty.c84:Program.cellsOf Tryz.prog 84=1:=by kernel_rfl
theorem Ty.b84:Program.bytesOf Tryz.prog 84=8:=by kernel_rfl
theorem Ty.a84:Program.isAggT Tryz.prog 84=false:=by simp only [Program.isAggT,Tryz.underlying84]
theorem Ty.s84:scalarT Tryz.prog 84=true:=by simp only [scalarT,Tryz.underlying84]
theorem Ty.z84:Program.zeroOf Tryz.prog 84=some (Value.int .u64 0):=by kernel_rfl
def Ty.t84:=(And.intro Tryz.underlying84 (And.intro Ty.c84 (And.intro Ty.b84 (And.intro Ty.a84 (And.intro Ty.s84 Ty.z84)))))
theorem Ty.c86:Program.cellsOf Tryz.prog 86=3:=by kernel_rfl
theorem Ty.b86:Program.bytesOf Tryz.prog 86=40:=by kernel_rfl
theorem Ty.a86:Program.isAggT Tryz.prog 86=true:=by simp only [Program.isAggT,Tryz.underlying86]
theorem Ty.s86:scalarT Tryz.prog 86=false:=by simp only [scalarT,Tryz.underlying86]
theorem Ty.z86:Program.zeroOf Tryz.prog 86=some (Value.agg #[Value.slice none 0 0,Value.int .i64 0,Value.int .u64 0]):=by kernel_rfl
def Ty.t86:=(And.intro Tryz.underlying86 (And.intro Ty.c86 (And.intro Ty.b86 (And.intro Ty.a86 (And.intro Ty.s86 Ty.z86)))))
theorem Ty.c90:Program.cellsOf Tryz.prog 90=1:=by kernel_rfl
theorem Ty.b90:Program.bytesOf Tryz.prog 90=8:=by kernel_rfl
theorem Ty.a90:Program.isAggT Tryz.prog 90=false:=by simp only [Program.isAggT,Tryz.underlying90]
theorem Ty.s90:scalarT Tryz.prog 90=false:=by simp only [scalarT,Tryz.underlying90]
theorem Ty.z90:Program.zeroOf Tryz.prog 90=some (Value.nilFunc):=by kernel_rfl
def Ty.t90:=(And.intro Tryz.underlying90 (And.intro Ty.c90 (And.intro Ty.b90 (And.intro Ty.a90 (And.intro Ty.s90 Ty.z90)))))
theorem Ty.c120:Program.cellsOf Tryz.prog 120=1:=by kernel_rfl
theorem Ty.b120:Program.bytesOf Tryz.prog 120=8:=by kernel_rfl
theorem Ty.a120:Program.isAggT Tryz.prog 120=false:=by simp only [Program.isAggT,Tryz.underlying120]
theorem Ty.s120:scalarT Tryz.prog 120=false:=by simp only [scalarT,Tryz.underlying120]
theorem Ty.z120:Program.zeroOf Tryz.prog 120=some (Value.pointer none):=by kernel_rfl
def Ty.t120:=(And.intro Tryz.underlying120 (And.intro Ty.c120 (And.intro Ty.b120 (And.intro Ty.a120 (And.intro Ty.s120 Ty.z120)))))
theorem Ty.c122:Program.cellsOf Tryz.prog 122=1:=by kernel_rfl
theorem Ty.b122:Program.bytesOf Tryz.prog 122=8:=by kernel_rfl
theorem Ty.a122:Program.isAggT Tryz.prog 122=false:=by simp only [Program.isAggT,Tryz.underlying122]
theorem Ty.s122:scalarT Tryz.prog 122=false:=by simp only [scalarT,Tryz.underlying122]
theorem Ty.z122:Program.zeroOf Tryz.prog 122=some (Value.pointer none):=by kernel_rfl
def Ty.t122:=(And.intro Tryz.underlying122 (And.intro Ty.c122 (And.intro Ty.b122 (And.intro Ty.a122 (And.intro Ty.s122 Ty.z122)))))
theorem Ty.c145:Program.cellsOf Tryz.prog 145=5:=by kernel_rfl
theorem Ty.b145:Program.bytesOf Tryz.prog 145=48:=by kernel_rfl
theorem Ty.a145:Program.isAggT Tryz.prog 145=true:=by simp only [Program.isAggT,Tryz.underlying145]
theorem Ty.s145:scalarT Tryz.prog 145=false:=by simp only [scalarT,Tryz.underlying145]
theorem Ty.z145:Program.zeroOf Tryz.prog 145=some (Value.agg #[Value.string .empty,Value.int .i64 0,Value.int .i64 0,Value.int .i64 0,Value.int .i64 0]):=by kernel_rfl
theorem Ty.q145:eqT Tryz.prog 145=some [.str,.int .i64,.int .i64,.int .i64,.int .i64]:=by kernel_rfl
def Ty.t145:=(And.intro Tryz.underlying145 (And.intro Ty.c145 (And.intro Ty.b145 (And.intro Ty.a145 (And.intro Ty.s145 (And.intro Ty.q145 Ty.z145))))))
theorem Ty.c148:Program.cellsOf Tryz.prog 148=4:=by kernel_rfl
theorem Ty.b148:Program.bytesOf Tryz.prog 148=48:=by kernel_rfl
theorem Ty.a148:Program.isAggT Tryz.prog 148=true:=by simp only [Program.isAggT,Tryz.underlying148]
theorem Ty.s148:scalarT Tryz.prog 148=false:=by simp only [scalarT,Tryz.underlying148]
theorem Ty.z148:Program.zeroOf Tryz.prog 148=some (Value.agg #[Value.int .i64 0,Value.int .i64 0,Value.bool false,Value.slice none 0 0]):=by kernel_rfl
def Ty.t148:=(And.intro Tryz.underlying148 (And.intro Ty.c148 (And.intro Ty.b148 (And.intro Ty.a148 (And.intro Ty.s148 Ty.z148)))))
theorem Ty.c151:Program.cellsOf Tryz.prog 151=2:=by kernel_rfl
theorem Ty.b151:Program.bytesOf Tryz.prog 151=32:=by kernel_rfl
theorem Ty.a151:Program.isAggT Tryz.prog 151=true:=by simp only [Program.isAggT,Tryz.underlying151]
theorem Ty.s151:scalarT Tryz.prog 151=false:=by simp only [scalarT,Tryz.underlying151]
theorem Ty.z151:Program.zeroOf Tryz.prog 151=some (Value.agg #[Value.int .i64 0,Value.slice none 0 0]):=by kernel_rfl
def Ty.t151:=(And.intro Tryz.underlying151 (And.intro Ty.c151 (And.intro Ty.b151 (And.intro Ty.a151 (And.intro Ty.s151 Ty.z151)))))
theorem Ty.c154:Program.cellsOf Tryz.prog 154=4:=by kernel_rfl
theorem Ty.b154:Program.bytesOf Tryz.prog 154=48:=by kernel_rfl
theorem Ty.a154:Program.isAggT Tryz.prog 154=true:=by simp only [Program.isAggT,Tryz.underlying154]
theorem Ty.s154:scalarT Tryz.prog 154=false:=by simp only [scalarT,Tryz.underlying154]
theorem Ty.z154:Program.zeroOf Tryz.prog 154=some (Value.agg #[Value.int .i64 0,Value.int .i64 0,Value.bool false,Value.slice none 0 0]):=by kernel_rfl
def Ty.t154:=(And.intro Tryz.underlying154 (And.intro Ty.c154 (And.intro Ty.b154 (And.intro Ty.a154 (And.intro Ty.s154 Ty.z154)))))
theorem Ty.c156:Program.cellsOf Tryz.prog 156=5:=by kernel_rfl
theorem Ty.b156:Program.bytesOf Tryz.prog 156=48:=by kernel_rfl
theorem Ty.a156:Program.isAggT Tryz.prog 156=true:=by simp only [Program.isAggT,Tryz.underlying156]
theorem Ty.s156:scalarT Tryz.prog 156=false:=by simp only [scalarT,Tryz.underlying156]
theorem Ty.z156:Program.zeroOf Tryz.prog 156=some (Value.agg #[Value.string .empty,Value.int .i64 0,Value.int .i64 0,Value.int .i64 0,Value.int .i64 0]):=by kernel_rfl
theorem Ty.q156:eqT Tryz.prog 156=some [.str,.int .i64,.int .i64,.int .i64,.int .i64]:=by kernel_rfl
def Ty.t156:=(And.intro Tryz.underlying156 (And.intro Ty.c156 (And.intro Ty.b156 (And.intro Ty.a156 (And.intro Ty.s156 (And.intro Ty.q156 Ty.z156))))))
theorem Ty.c158:Program.cellsOf Tryz.prog 158=2:=by kernel_rfl
theorem Ty.b158:Program.bytesOf Tryz.prog 158=32:=by kernel_rfl
theorem Ty.a158:Program.isAggT Tryz.prog 158=true:=by simp only [Program.isAggT,Tryz.underlying158]
theorem Ty.s158:scalarT Tryz.prog 158=false:=by simp only [scalarT,Tryz.underlying158]
theorem Ty.z158:Program.zeroOf Tryz.prog 158=some (Value.agg #[Value.int .i64 0,Value.slice none 0 0]):=by kernel_rfl
def Ty.t158:=(And.intro Tryz.underlying158 (And.intro Ty.c158 (And.intro Ty.b158 (And.intro Ty.a158 (And.intro Ty.s158 Ty.z158)))))
theorem Ty.c164:Program.cellsOf Tryz.prog 164=3:=by kernel_rfl
theorem Ty.b164:Program.bytesOf Tryz.prog 164=24:=by kernel_rfl
theorem Ty.a164:Program.isAggT Tryz.prog 164=true:=by simp only [Program.isAggT,Tryz.underlying164]
theorem Ty.s164:scalarT Tryz.prog 164=false:=by simp only [scalarT,Tryz.underlying164]
theorem Ty.z164:Program.zeroOf Tryz.prog 164=some (Value.agg #[Value.int .i64 0,Value.int .i64 0,Value.int .i64 0]):=by kernel_rfl
theorem Ty.q164:eqT Tryz.prog 164=some [.int .i64,.int .i64,.int .i64]:=by kernel_rfl
def Ty.t164:=(And.intro Tryz.underlying164 (And.intro Ty.c164 (And.intro Ty.b164 (And.intro Ty.a164 (And.intro Ty.s164 (And.intro Ty.q164 Ty.z164))))))
theorem Ty.c166:Program.cellsOf Tryz.prog 166=3:=by kernel_rfl
theorem Ty.b166:Program.bytesOf Tryz.prog 166=24:=by kernel_rfl
theorem Ty.a166:Program.isAggT Tryz.prog 166=true:=by simp only [Program.isAggT,Tryz.underlying166]
theorem Ty.s166:scalarT Tryz.prog 166=false:=by simp only [scalarT,Tryz.underlying166]
theorem Ty.z166:Program.zeroOf Tryz.prog 166=some (Value.agg #[Value.int .i64 0,Value.int .i64 0,Value.int .i64 0]):=by kernel_rfl
theorem Ty.q166:eqT Tryz.prog 166=some [.int .i64,.int .i64,.int .i64]:=by kernel_rfl
def Ty.t166:=(And.intro Tryz.underlying166 (And.intro Ty.c166 (And.intro Ty.b166 (And.intro Ty.a166 (And.intro Ty.s166 (And.intro Ty.q166 Ty.z166))))))
theorem Ty.c173:Program.cellsOf Tryz.prog 173=1:=by kernel_rfl
theorem Ty.b173:Program.bytesOf Tryz.prog 173=8:=by kernel_rfl
theorem Ty.a173:Program.isAggT Tryz.prog 173=false:=by simp only [Program.isAggT,Tryz.underlying173]
theorem Ty.s173:scalarT Tryz.prog 173=false:=by simp only [scalarT,Tryz.underlying173]
theorem Ty.z173:Program.zeroOf Tryz.prog 173=some (Value.nilFunc):=by kernel_rfl
def Ty.t173:=(And.intro Tryz.underlying173 (And.intro Ty.c173 (And.intro Ty.b173 (And.intro Ty.a173 (And.intro Ty.s173 Ty.z173)))))
theorem Ty.c187:Program.cellsOf Tryz.prog 187=1:=by kernel_rfl
theorem Ty.b187:Program.bytesOf Tryz.prog 187=8:=by kernel_rfl
theorem Ty.a187:Program.isAggT Tryz.prog 187=false:=by simp only [Program.isAggT,Tryz.underlying187]
theorem Ty.s187:scalarT Tryz.prog 187=true:=by simp only [scalarT,Tryz.underlying187]
theorem Ty.z187:Program.zeroOf Tryz.prog 187=some (Value.int .u64 0):=by kernel_rfl
def Ty.t187:=(And.intro Tryz.underlying187 (And.intro Ty.c187 (And.intro Ty.b187 (And.intro Ty.a187 (And.intro Ty.s187 Ty.z187)))))
theorem Ty.c194:Program.cellsOf Tryz.prog 194=1:=by kernel_rfl
theorem Ty.b194:Program.bytesOf Tryz.prog 194=8:=by kernel_rfl
theorem Ty.a194:Program.isAggT Tryz.prog 194=false:=by simp only [Program.isAggT,Tryz.underlying194]
theorem Ty.s194:scalarT Tryz.prog 194=false:=by simp only [scalarT,Tryz.underlying194]
theorem Ty.z194:Program.zeroOf Tryz.prog 194=some (Value.nilFunc):=by kernel_rfl
def Ty.t194:=(And.intro Tryz.underlying194 (And.intro Ty.c194 (And.intro Ty.b194 (And.intro Ty.a194 (And.intro Ty.s194 Ty.z194)))))
theorem Ty.c207:Program.cellsOf Tryz.prog 207=1:=by kernel_rfl
theorem Ty.b207:Program.bytesOf Tryz.prog 207=8:=by kernel_rfl
theorem Ty.a207:Program.isAggT Tryz.prog 207=false:=by simp only [Program.isAggT,Tryz.underlying207]
theorem Ty.s207:scalarT Tryz.prog 207=false:=by simp only [scalarT,Tryz.underlying207]
theorem Ty.z207:Program.zeroOf Tryz.prog 207=some (Value.nilFunc):=by kernel_rfl
def Ty.t207:=(And.intro Tryz.underlying207 (And.intro Ty.c207 (And.intro Ty.b207 (And.intro Ty.a207 (And.intro Ty.s207 Ty.z207)))))
theorem Ty.c209:Program.cellsOf Tryz.prog 209=1:=by kernel_rfl
theorem Ty.b209:Program.bytesOf Tryz.prog 209=8:=by kernel_rfl
theorem Ty.a209:Program.isAggT Tryz.prog 209=false:=by simp only [Program.isAggT,Tryz.underlying209]
theorem Ty.s209:scalarT Tryz.prog 209=false:=by simp only [scalarT,Tryz.underlying209]
theorem Ty.z209:Program.zeroOf Tryz.prog 209=some (Value.pointer none):=by kernel_rfl
def Ty.t209:=(And.intro Tryz.underlying209 (And.intro Ty.c209 (And.intro Ty.b209 (And.intro Ty.a209 (And.intro Ty.s209 Ty.z209)))))
theorem Ty.c211:Program.cellsOf Tryz.prog 211=2:=by kernel_rfl
theorem Ty.b211:Program.bytesOf Tryz.prog 211=32:=by kernel_rfl
theorem Ty.a211:Program.isAggT Tryz.prog 211=true:=by simp only [Program.isAggT,Tryz.underlying211]
theorem Ty.s211:scalarT Tryz.prog 211=false:=by simp only [scalarT,Tryz.underlying211]
theorem Ty.z211:Program.zeroOf Tryz.prog 211=some (Value.agg #[Value.pointer none,Value.slice none 0 0]):=by kernel_rfl
def Ty.t211:=(And.intro Tryz.underlying211 (And.intro Ty.c211 (And.intro Ty.b211 (And.intro Ty.a211 (And.intro Ty.s211 Ty.z211)))))
theorem Ty.c224:Program.cellsOf Tryz.prog 224=1:=by kernel_rfl
theorem Ty.b224:Program.bytesOf Tryz.prog 224=8:=by kernel_rfl
theorem Ty.a224:Program.isAggT Tryz.prog 224=false:=by simp only [Program.isAggT,Tryz.underlying224]
theorem Ty.s224:scalarT Tryz.prog 224=false:=by simp only [scalarT,Tryz.underlying224]
theorem Ty.z224:Program.zeroOf Tryz.prog 224=some (Value.pointer none):=by kernel_rfl
def Ty.t224:=(And.intro Tryz.underlying224 (And.intro Ty.c224 (And.intro Ty.b224 (And.intro Ty.a224 (And.intro Ty.s224 Ty.z224)))))
theorem Ty.c237:Program.cellsOf Tryz.prog 237=3:=by kernel_rfl
theorem Ty.b237:Program.bytesOf Tryz.prog 237=48:=by kernel_rfl
theorem Ty.a237:Program.isAggT Tryz.prog 237=true:=by simp only [Program.isAggT,Tryz.underlying237]
theorem Ty.s237:scalarT Tryz.prog 237=false:=by simp only [scalarT,Tryz.underlying237]
def Ty.t237:=(And.intro Tryz.underlying237 (And.intro Ty.c237 (And.intro Ty.b237 (And.intro Ty.a237 Ty.s237))))
end Go.Proofs.YtmhaafinhpopmaaGreatDoor
