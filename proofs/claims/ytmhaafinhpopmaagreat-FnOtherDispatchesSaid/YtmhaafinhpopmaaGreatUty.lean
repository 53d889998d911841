/- Facts about types. No condition. -/
import Derived.Test.YtmhaafinhpopmaaGreatChecked
import Derived.Test.YtmhaafinhpopmaaGreatUmF
set_option linter.unusedSimpArgs false
set_option linter.unusedVariables false
set_option linter.defProp false
namespace Go.Proofs.YtmhaafinhpopmaaGreat
open Go Go.Vm
theorem Ty.c3:Program.cellsOf Tryz.prog 3=1:=by kernel_rfl
theorem Ty.b3:Program.bytesOf Tryz.prog 3=8:=by kernel_rfl
theorem Ty.a3:Program.isAggT Tryz.prog 3=false:=by simp only [Program.isAggT,Tryz.underlying3]
theorem Ty.s3:scalarT Tryz.prog 3=true:=by simp only [scalarT,Tryz.underlying3]
theorem Ty.z3:Program.zeroOf Tryz.prog 3=some (Value.int .i64 0):=by kernel_rfl
def Ty.t3:=(And.intro Tryz.underlying3 (And.intro Ty.c3 (And.intro Ty.b3 (And.intro Ty.a3 (And.intro Ty.s3 Ty.z3)))))
theorem Ty.c4:Program.cellsOf Tryz.prog 4=1:=by kernel_rfl
theorem Ty.b4:Program.bytesOf Tryz.prog 4=1:=by kernel_rfl
theorem Ty.a4:Program.isAggT Tryz.prog 4=false:=by simp only [Program.isAggT,Tryz.underlying4]
theorem Ty.s4:scalarT Tryz.prog 4=true:=by simp only [scalarT,Tryz.underlying4]
theorem Ty.z4:Program.zeroOf Tryz.prog 4=some (Value.bool false):=by kernel_rfl
def Ty.t4:=(And.intro Tryz.underlying4 (And.intro Ty.c4 (And.intro Ty.b4 (And.intro Ty.a4 (And.intro Ty.s4 Ty.z4)))))
theorem Ty.c5:Program.cellsOf Tryz.prog 5=1:=by kernel_rfl
theorem Ty.b5:Program.bytesOf Tryz.prog 5=1:=by kernel_rfl
theorem Ty.a5:Program.isAggT Tryz.prog 5=false:=by simp only [Program.isAggT,Tryz.underlying5]
theorem Ty.s5:scalarT Tryz.prog 5=true:=by simp only [scalarT,Tryz.underlying5]
theorem Ty.z5:Program.zeroOf Tryz.prog 5=some (Value.int .u8 0):=by kernel_rfl
def Ty.t5:=(And.intro Tryz.underlying5 (And.intro Ty.c5 (And.intro Ty.b5 (And.intro Ty.a5 (And.intro Ty.s5 Ty.z5)))))
theorem Ty.c9:Program.cellsOf Tryz.prog 9=1:=by kernel_rfl
theorem Ty.b9:Program.bytesOf Tryz.prog 9=16:=by kernel_rfl
theorem Ty.a9:Program.isAggT Tryz.prog 9=false:=by simp only [Program.isAggT,Tryz.underlying9]
theorem Ty.s9:scalarT Tryz.prog 9=true:=by simp only [scalarT,Tryz.underlying9]
theorem Ty.z9:Program.zeroOf Tryz.prog 9=some (Value.string .empty):=by kernel_rfl
def Ty.t9:=(And.intro Tryz.underlying9 (And.intro Ty.c9 (And.intro Ty.b9 (And.intro Ty.a9 (And.intro Ty.s9 Ty.z9)))))
theorem Ty.c22:Program.cellsOf Tryz.prog 22=1:=by kernel_rfl
theorem Ty.b22:Program.bytesOf Tryz.prog 22=24:=by kernel_rfl
theorem Ty.a22:Program.isAggT Tryz.prog 22=false:=by simp only [Program.isAggT,Tryz.underlying22]
theorem Ty.s22:scalarT Tryz.prog 22=false:=by simp only [scalarT,Tryz.underlying22]
theorem Ty.z22:Program.zeroOf Tryz.prog 22=some (Value.slice none 0 0):=by kernel_rfl
def Ty.t22:=(And.intro Tryz.underlying22 (And.intro Ty.c22 (And.intro Ty.b22 (And.intro Ty.a22 (And.intro Ty.s22 Ty.z22)))))
theorem Ty.c24:Program.cellsOf Tryz.prog 24=1:=by kernel_rfl
theorem Ty.b24:Program.bytesOf Tryz.prog 24=24:=by kernel_rfl
theorem Ty.a24:Program.isAggT Tryz.prog 24=false:=by simp only [Program.isAggT,Tryz.underlying24]
theorem Ty.s24:scalarT Tryz.prog 24=false:=by simp only [scalarT,Tryz.underlying24]
theorem Ty.z24:Program.zeroOf Tryz.prog 24=some (Value.slice none 0 0):=by kernel_rfl
def Ty.t24:=(And.intro Tryz.underlying24 (And.intro Ty.c24 (And.intro Ty.b24 (And.intro Ty.a24 (And.intro Ty.s24 Ty.z24)))))
theorem Ty.c26:Program.cellsOf Tryz.prog 26=2:=by kernel_rfl
theorem Ty.b26:Program.bytesOf Tryz.prog 26=32:=by kernel_rfl
theorem Ty.a26:Program.isAggT Tryz.prog 26=true:=by simp only [Program.isAggT,Tryz.underlying26]
theorem Ty.s26:scalarT Tryz.prog 26=false:=by simp only [scalarT,Tryz.underlying26]
theorem Ty.z26:Program.zeroOf Tryz.prog 26=some (Value.agg #[Value.int .i64 0,Value.slice none 0 0]):=by kernel_rfl
def Ty.t26:=(And.intro Tryz.underlying26 (And.intro Ty.c26 (And.intro Ty.b26 (And.intro Ty.a26 (And.intro Ty.s26 Ty.z26)))))
theorem Ty.c27:Program.cellsOf Tryz.prog 27=1:=by kernel_rfl
theorem Ty.b27:Program.bytesOf Tryz.prog 27=24:=by kernel_rfl
theorem Ty.a27:Program.isAggT Tryz.prog 27=false:=by simp only [Program.isAggT,Tryz.underlying27]
theorem Ty.s27:scalarT Tryz.prog 27=false:=by simp only [scalarT,Tryz.underlying27]
theorem Ty.z27:Program.zeroOf Tryz.prog 27=some (Value.slice none 0 0):=by kernel_rfl
def Ty.t27:=(And.intro Tryz.underlying27 (And.intro Ty.c27 (And.intro Ty.b27 (And.intro Ty.a27 (And.intro Ty.s27 Ty.z27)))))
theorem Ty.c28:Program.cellsOf Tryz.prog 28=1:=by kernel_rfl
theorem Ty.b28:Program.bytesOf Tryz.prog 28=24:=by kernel_rfl
theorem Ty.a28:Program.isAggT Tryz.prog 28=false:=by simp only [Program.isAggT,Tryz.underlying28]
theorem Ty.s28:scalarT Tryz.prog 28=false:=by simp only [scalarT,Tryz.underlying28]
theorem Ty.z28:Program.zeroOf Tryz.prog 28=some (Value.slice none 0 0):=by kernel_rfl
def Ty.t28:=(And.intro Tryz.underlying28 (And.intro Ty.c28 (And.intro Ty.b28 (And.intro Ty.a28 (And.intro Ty.s28 Ty.z28)))))
theorem Ty.c31:Program.cellsOf Tryz.prog 31=1:=by kernel_rfl
theorem Ty.b31:Program.bytesOf Tryz.prog 31=24:=by kernel_rfl
theorem Ty.a31:Program.isAggT Tryz.prog 31=false:=by simp only [Program.isAggT,Tryz.underlying31]
theorem Ty.s31:scalarT Tryz.prog 31=false:=by simp only [scalarT,Tryz.underlying31]
theorem Ty.z31:Program.zeroOf Tryz.prog 31=some (Value.slice none 0 0):=by kernel_rfl
def Ty.t31:=(And.intro Tryz.underlying31 (And.intro Ty.c31 (And.intro Ty.b31 (And.intro Ty.a31 (And.intro Ty.s31 Ty.z31)))))
theorem Ty.c38:Program.cellsOf Tryz.prog 38=1:=by kernel_rfl
theorem Ty.b38:Program.bytesOf Tryz.prog 38=24:=by kernel_rfl
theorem Ty.a38:Program.isAggT Tryz.prog 38=false:=by simp only [Program.isAggT,Tryz.underlying38]
theorem Ty.s38:scalarT Tryz.prog 38=false:=by simp only [scalarT,Tryz.underlying38]
theorem Ty.z38:Program.zeroOf Tryz.prog 38=some (Value.slice none 0 0):=by kernel_rfl
def Ty.t38:=(And.intro Tryz.underlying38 (And.intro Ty.c38 (And.intro Ty.b38 (And.intro Ty.a38 (And.intro Ty.s38 Ty.z38)))))
theorem Ty.c47:Program.cellsOf Tryz.prog 47=1:=by kernel_rfl
theorem Ty.b47:Program.bytesOf Tryz.prog 47=8:=by kernel_rfl
theorem Ty.a47:Program.isAggT Tryz.prog 47=false:=by simp only [Program.isAggT,Tryz.underlying47]
theorem Ty.s47:scalarT Tryz.prog 47=false:=by simp only [scalarT,Tryz.underlying47]
theorem Ty.z47:Program.zeroOf Tryz.prog 47=some (Value.pointer none):=by kernel_rfl
def Ty.t47:=(And.intro Tryz.underlying47 (And.intro Ty.c47 (And.intro Ty.b47 (And.intro Ty.a47 (And.intro Ty.s47 Ty.z47)))))
theorem Ty.c48:Program.cellsOf Tryz.prog 48=1:=by kernel_rfl
theorem Ty.b48:Program.bytesOf Tryz.prog 48=8:=by kernel_rfl
theorem Ty.a48:Program.isAggT Tryz.prog 48=false:=by simp only [Program.isAggT,Tryz.underlying48]
theorem Ty.s48:scalarT Tryz.prog 48=true:=by simp only [scalarT,Tryz.underlying48]
theorem Ty.z48:Program.zeroOf Tryz.prog 48=some (Value.int .u64 0):=by kernel_rfl
def Ty.t48:=(And.intro Tryz.underlying48 (And.intro Ty.c48 (And.intro Ty.b48 (And.intro Ty.a48 (And.intro Ty.s48 Ty.z48)))))
theorem Ty.c50:Program.cellsOf Tryz.prog 50=3:=by kernel_rfl
theorem Ty.b50:Program.bytesOf Tryz.prog 50=40:=by kernel_rfl
theorem Ty.a50:Program.isAggT Tryz.prog 50=true:=by simp only [Program.isAggT,Tryz.underlying50]
theorem Ty.s50:scalarT Tryz.prog 50=false:=by simp only [scalarT,Tryz.underlying50]
theorem Ty.z50:Program.zeroOf Tryz.prog 50=some (Value.agg #[Value.slice none 0 0,Value.int .i64 0,Value.int .u64 0]):=by kernel_rfl
def Ty.t50:=(And.intro Tryz.underlying50 (And.intro Ty.c50 (And.intro Ty.b50 (And.intro Ty.a50 (And.intro Ty.s50 Ty.z50)))))
theorem Ty.c59:Program.cellsOf Tryz.prog 59=1:=by kernel_rfl
theorem Ty.b59:Program.bytesOf Tryz.prog 59=8:=by kernel_rfl
theorem Ty.a59:Program.isAggT Tryz.prog 59=false:=by simp only [Program.isAggT,Tryz.underlying59]
theorem Ty.s59:scalarT Tryz.prog 59=false:=by simp only [scalarT,Tryz.underlying59]
theorem Ty.z59:Program.zeroOf Tryz.prog 59=some (Value.pointer none):=by kernel_rfl
def Ty.t59:=(And.intro Tryz.underlying59 (And.intro Ty.c59 (And.intro Ty.b59 (And.intro Ty.a59 (And.intro Ty.s59 Ty.z59)))))
theorem Ty.c65:Program.cellsOf Tryz.prog 65=1:=by kernel_rfl
theorem Ty.b65:Program.bytesOf Tryz.prog 65=24:=by kernel_rfl
theorem Ty.a65:Program.isAggT Tryz.prog 65=false:=by simp only [Program.isAggT,Tryz.underlying65]
theorem Ty.s65:scalarT Tryz.prog 65=false:=by simp only [scalarT,Tryz.underlying65]
theorem Ty.z65:Program.zeroOf Tryz.prog 65=some (Value.slice none 0 0):=by kernel_rfl
def Ty.t65:=(And.intro Tryz.underlying65 (And.intro Ty.c65 (And.intro Ty.b65 (And.intro Ty.a65 (And.intro Ty.s65 Ty.z65)))))
theorem Ty.c72:Program.cellsOf Tryz.prog 72=5:=by kernel_rfl
theorem Ty.b72:Program.bytesOf Tryz.prog 72=48:=by kernel_rfl
theorem Ty.a72:Program.isAggT Tryz.prog 72=true:=by simp only [Program.isAggT,Tryz.underlying72]
theorem Ty.s72:scalarT Tryz.prog 72=false:=by simp only [scalarT,Tryz.underlying72]
theorem Ty.z72:Program.zeroOf Tryz.prog 72=some (Value.agg #[Value.string .empty,Value.int .i64 0,Value.int .i64 0,Value.int .i64 0,Value.int .i64 0]):=by kernel_rfl
theorem Ty.q72:eqT Tryz.prog 72=some [.str,.int .i64,.int .i64,.int .i64,.int .i64]:=by kernel_rfl
def Ty.t72:=(And.intro Tryz.underlying72 (And.intro Ty.c72 (And.intro Ty.b72 (And.intro Ty.a72 (And.intro Ty.s72 (And.intro Ty.q72 Ty.z72))))))
theorem Ty.c75:Program.cellsOf Tryz.prog 75=1:=by kernel_rfl
theorem Ty.b75:Program.bytesOf Tryz.prog 75=8:=by kernel_rfl
theorem Ty.a75:Program.isAggT Tryz.prog 75=false:=by simp only [Program.isAggT,Tryz.underlying75]
theorem Ty.s75:scalarT Tryz.prog 75=false:=by simp only [scalarT,Tryz.underlying75]
theorem Ty.z75:Program.zeroOf Tryz.prog 75=some (Value.nilFunc):=by kernel_rfl
def Ty.t75:=(And.intro Tryz.underlying75 (And.intro Ty.c75 (And.intro Ty.b75 (And.intro Ty.a75 (And.intro Ty.s75 Ty.z75)))))
theorem Ty.c88:Program.cellsOf Tryz.prog 88=1:=by kernel_rfl
theorem Ty.b88:Program.bytesOf Tryz.prog 88=8:=by kernel_rfl
theorem Ty.a88:Program.isAggT Tryz.prog 88=false:=by simp only [Program.isAggT,Tryz.underlying88]
theorem Ty.s88:scalarT Tryz.prog 88=false:=by simp only [scalarT,Tryz.underlying88]
theorem Ty.z88:Program.zeroOf Tryz.prog 88=some (Value.nilFunc):=by kernel_rfl
def Ty.t88:=(And.intro Tryz.underlying88 (And.intro Ty.c88 (And.intro Ty.b88 (And.intro Ty.a88 (And.intro Ty.s88 Ty.z88)))))
theorem Ty.c91:Program.cellsOf Tryz.prog 91=1:=by kernel_rfl
theorem Ty.b91:Program.bytesOf Tryz.prog 91=8:=by kernel_rfl
theorem Ty.a91:Program.isAggT Tryz.prog 91=false:=by simp only [Program.isAggT,Tryz.underlying91]
theorem Ty.s91:scalarT Tryz.prog 91=false:=by simp only [scalarT,Tryz.underlying91]
theorem Ty.z91:Program.zeroOf Tryz.prog 91=some (Value.nilFunc):=by kernel_rfl
def Ty.t91:=(And.intro Tryz.underlying91 (And.intro Ty.c91 (And.intro Ty.b91 (And.intro Ty.a91 (And.intro Ty.s91 Ty.z91)))))
theorem Ty.c98:Program.cellsOf Tryz.prog 98=3:=by kernel_rfl
theorem Ty.b98:Program.bytesOf Tryz.prog 98=24:=by kernel_rfl
theorem Ty.a98:Program.isAggT Tryz.prog 98=true:=by simp only [Program.isAggT,Tryz.underlying98]
theorem Ty.s98:scalarT Tryz.prog 98=false:=by simp only [scalarT,Tryz.underlying98]
theorem Ty.z98:Program.zeroOf Tryz.prog 98=some (Value.agg #[Value.int .i64 0,Value.int .i64 0,Value.int .i64 0]):=by kernel_rfl
theorem Ty.q98:eqT Tryz.prog 98=some [.int .i64,.int .i64,.int .i64]:=by kernel_rfl
def Ty.t98:=(And.intro Tryz.underlying98 (And.intro Ty.c98 (And.intro Ty.b98 (And.intro Ty.a98 (And.intro Ty.s98 (And.intro Ty.q98 Ty.z98))))))
theorem Ty.c99:Program.cellsOf Tryz.prog 99=2:=by kernel_rfl
theorem Ty.b99:Program.bytesOf Tryz.prog 99=16:=by kernel_rfl
theorem Ty.a99:Program.isAggT Tryz.prog 99=true:=by simp only [Program.isAggT,Tryz.underlying99]
theorem Ty.s99:scalarT Tryz.prog 99=false:=by simp only [scalarT,Tryz.underlying99]
theorem Ty.z99:Program.zeroOf Tryz.prog 99=some (Value.agg #[Value.int .i64 0,Value.int .i64 0]):=by kernel_rfl
def Ty.t99:=(And.intro Tryz.underlying99 (And.intro Ty.c99 (And.intro Ty.b99 (And.intro Ty.a99 (And.intro Ty.s99 Ty.z99)))))
theorem Ty.c100:Program.cellsOf Tryz.prog 100=1:=by kernel_rfl
theorem Ty.b100:Program.bytesOf Tryz.prog 100=24:=by kernel_rfl
theorem Ty.a100:Program.isAggT Tryz.prog 100=false:=by simp only [Program.isAggT,Tryz.underlying100]
theorem Ty.s100:scalarT Tryz.prog 100=false:=by simp only [scalarT,Tryz.underlying100]
theorem Ty.z100:Program.zeroOf Tryz.prog 100=some (Value.slice none 0 0):=by kernel_rfl
def Ty.t100:=(And.intro Tryz.underlying100 (And.intro Ty.c100 (And.intro Ty.b100 (And.intro Ty.a100 (And.intro Ty.s100 Ty.z100)))))
theorem Ty.c102:Program.cellsOf Tryz.prog 102=1:=by kernel_rfl
theorem Ty.b102:Program.bytesOf Tryz.prog 102=24:=by kernel_rfl
theorem Ty.a102:Program.isAggT Tryz.prog 102=false:=by simp only [Program.isAggT,Tryz.underlying102]
theorem Ty.s102:scalarT Tryz.prog 102=false:=by simp only [scalarT,Tryz.underlying102]
theorem Ty.z102:Program.zeroOf Tryz.prog 102=some (Value.slice none 0 0):=by kernel_rfl
def Ty.t102:=(And.intro Tryz.underlying102 (And.intro Ty.c102 (And.intro Ty.b102 (And.intro Ty.a102 (And.intro Ty.s102 Ty.z102)))))
theorem Ty.c110:Program.cellsOf Tryz.prog 110=1:=by kernel_rfl
theorem Ty.b110:Program.bytesOf Tryz.prog 110=8:=by kernel_rfl
theorem Ty.a110:Program.isAggT Tryz.prog 110=false:=by simp only [Program.isAggT,Tryz.underlying110]
theorem Ty.s110:scalarT Tryz.prog 110=true:=by simp only [scalarT,Tryz.underlying110]
theorem Ty.z110:Program.zeroOf Tryz.prog 110=some (Value.int .u64 0):=by kernel_rfl
def Ty.t110:=(And.intro Tryz.underlying110 (And.intro Ty.c110 (And.intro Ty.b110 (And.intro Ty.a110 (And.intro Ty.s110 Ty.z110)))))
theorem Ty.c113:Program.cellsOf Tryz.prog 113=4:=by kernel_rfl
theorem Ty.b113:Program.bytesOf Tryz.prog 113=32:=by kernel_rfl
theorem Ty.a113:Program.isAggT Tryz.prog 113=true:=by simp only [Program.isAggT,Tryz.underlying113]
theorem Ty.s113:scalarT Tryz.prog 113=false:=by simp only [scalarT,Tryz.underlying113]
theorem Ty.z113:Program.zeroOf Tryz.prog 113=some (Value.agg #[Value.int .i64 0,Value.int .i64 0,Value.int .i64 0,Value.int .i64 0]):=by kernel_rfl
def Ty.t113:=(And.intro Tryz.underlying113 (And.intro Ty.c113 (And.intro Ty.b113 (And.intro Ty.a113 (And.intro Ty.s113 Ty.z113)))))
end Go.Proofs.YtmhaafinhpopmaaGreat
