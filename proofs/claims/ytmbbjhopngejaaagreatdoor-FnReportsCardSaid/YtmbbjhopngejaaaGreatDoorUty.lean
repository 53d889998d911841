/- Facts about types. No condition. -/
import Derived.Test.YtmbbjhopngejaaaGreatDoorChecked
import Derived.Test.YtmbbjhopngejaaaGreatDoorUmF
set_option linter.unusedSimpArgs false
set_option linter.unusedVariables false
set_option linter.defProp false
namespace Go.Proofs.YtmbbjhopngejaaaGreatDoor
open Go Go.Vm
theorem Ty.c3:Program.cellsOf Tryz.prog 3=1:=by kernel_rfl
theorem Ty.b3:Program.bytesOf Tryz.prog 3=8:=by kernel_rfl
theorem Ty.a3:Program.isAggT Tryz.prog 3=false:=by simp only [Program.isAggT,Tryz.underlying3]
theorem Ty.s3:b1e Tryz.prog 3=true:=by simp only [b1e,Tryz.underlying3]
theorem Ty.z3:Program.zeroOf Tryz.prog 3=some (Value.int .i64 0):=by kernel_rfl
def Ty.t3:=(And.intro Tryz.underlying3 (And.intro Ty.c3 (And.intro Ty.b3 (And.intro Ty.a3 (And.intro Ty.s3 Ty.z3)))))
theorem Ty.c4:Program.cellsOf Tryz.prog 4=1:=by kernel_rfl
theorem Ty.b4:Program.bytesOf Tryz.prog 4=1:=by kernel_rfl
theorem Ty.a4:Program.isAggT Tryz.prog 4=false:=by simp only [Program.isAggT,Tryz.underlying4]
theorem Ty.s4:b1e Tryz.prog 4=true:=by simp only [b1e,Tryz.underlying4]
theorem Ty.z4:Program.zeroOf Tryz.prog 4=some (Value.bool false):=by kernel_rfl
def Ty.t4:=(And.intro Tryz.underlying4 (And.intro Ty.c4 (And.intro Ty.b4 (And.intro Ty.a4 (And.intro Ty.s4 Ty.z4)))))
theorem Ty.c5:Program.cellsOf Tryz.prog 5=1:=by kernel_rfl
theorem Ty.b5:Program.bytesOf Tryz.prog 5=1:=by kernel_rfl
theorem Ty.a5:Program.isAggT Tryz.prog 5=false:=by simp only [Program.isAggT,Tryz.underlying5]
theorem Ty.s5:b1e Tryz.prog 5=true:=by simp only [b1e,Tryz.underlying5]
theorem Ty.z5:Program.zeroOf Tryz.prog 5=some (Value.int .u8 0):=by kernel_rfl
def Ty.t5:=(And.intro Tryz.underlying5 (And.intro Ty.c5 (And.intro Ty.b5 (And.intro Ty.a5 (And.intro Ty.s5 Ty.z5)))))
theorem Ty.c9:Program.cellsOf Tryz.prog 9=1:=by kernel_rfl
theorem Ty.b9:Program.bytesOf Tryz.prog 9=16:=by kernel_rfl
theorem Ty.a9:Program.isAggT Tryz.prog 9=false:=by simp only [Program.isAggT,Tryz.underlying9]
theorem Ty.s9:b1e Tryz.prog 9=true:=by simp only [b1e,Tryz.underlying9]
theorem Ty.z9:Program.zeroOf Tryz.prog 9=some (Value.string .empty):=by kernel_rfl
def Ty.t9:=(And.intro Tryz.underlying9 (And.intro Ty.c9 (And.intro Ty.b9 (And.intro Ty.a9 (And.intro Ty.s9 Ty.z9)))))
theorem Ty.c22:Program.cellsOf Tryz.prog 22=1:=by kernel_rfl
theorem Ty.b22:Program.bytesOf Tryz.prog 22=24:=by kernel_rfl
theorem Ty.a22:Program.isAggT Tryz.prog 22=false:=by simp only [Program.isAggT,Tryz.underlying22]
theorem Ty.s22:b1e Tryz.prog 22=false:=by simp only [b1e,Tryz.underlying22]
theorem Ty.z22:Program.zeroOf Tryz.prog 22=some (Value.slice none 0 0):=by kernel_rfl
def Ty.t22:=(And.intro Tryz.underlying22 (And.intro Ty.c22 (And.intro Ty.b22 (And.intro Ty.a22 (And.intro Ty.s22 Ty.z22)))))
theorem Ty.c24:Program.cellsOf Tryz.prog 24=1:=by kernel_rfl
theorem Ty.b24:Program.bytesOf Tryz.prog 24=24:=by kernel_rfl
theorem Ty.a24:Program.isAggT Tryz.prog 24=false:=by simp only [Program.isAggT,Tryz.underlying24]
theorem Ty.s24:b1e Tryz.prog 24=false:=by simp only [b1e,Tryz.underlying24]
theorem Ty.z24:Program.zeroOf Tryz.prog 24=some (Value.slice none 0 0):=by kernel_rfl
def Ty.t24:=(And.intro Tryz.underlying24 (And.intro Ty.c24 (And.intro Ty.b24 (And.intro Ty.a24 (And.intro Ty.s24 Ty.z24)))))
theorem Ty.c26:Program.cellsOf Tryz.prog 26=2:=by kernel_rfl
theorem Ty.b26:Program.bytesOf Tryz.prog 26=32:=by kernel_rfl
theorem Ty.a26:Program.isAggT Tryz.prog 26=true:=by simp only [Program.isAggT,Tryz.underlying26]
theorem Ty.s26:b1e Tryz.prog 26=false:=by simp only [b1e,Tryz.underlying26]
theorem Ty.z26:Program.zeroOf Tryz.prog 26=some (Value.agg #[Value.int .i64 0,Value.slice none 0 0]):=by kernel_rfl
def Ty.t26:=(And.intro Tryz.underlying26 (And.intro Ty.c26 (And.intro Ty.b26 (And.intro Ty.a26 (And.intro Ty.s26 Ty.z26)))))
theorem Ty.c27:Program.cellsOf Tryz.prog 27=1:=by kernel_rfl
theorem Ty.b27:Program.bytesOf Tryz.prog 27=24:=by kernel_rfl
theorem Ty.a27:Program.isAggT Tryz.prog 27=false:=by simp only [Program.isAggT,Tryz.underlying27]
theorem Ty.s27:b1e Tryz.prog 27=false:=by simp only [b1e,Tryz.underlying27]
theorem Ty.z27:Program.zeroOf Tryz.prog 27=some (Value.slice none 0 0):=by kernel_rfl
def Ty.t27:=(And.intro Tryz.underlying27 (And.intro Ty.c27 (And.intro Ty.b27 (And.intro Ty.a27 (And.intro Ty.s27 Ty.z27)))))
theorem Ty.c28:Program.cellsOf Tryz.prog 28=1:=by kernel_rfl
theorem Ty.b28:Program.bytesOf Tryz.prog 28=24:=by kernel_rfl
theorem Ty.a28:Program.isAggT Tryz.prog 28=false:=by simp only [Program.isAggT,Tryz.underlying28]
theorem Ty.s28:b1e Tryz.prog 28=false:=by simp only [b1e,Tryz.underlying28]
theorem Ty.z28:Program.zeroOf Tryz.prog 28=some (Value.slice none 0 0):=by kernel_rfl
def Ty.t28:=(And.intro Tryz.underlying28 (And.intro Ty.c28 (And.intro Ty.b28 (And.intro Ty.a28 (And.intro Ty.s28 Ty.z28)))))
theorem Ty.c29:Program.cellsOf Tryz.prog 29=1:=by kernel_rfl
theorem Ty.b29:Program.bytesOf Tryz.prog 29=24:=by kernel_rfl
theorem Ty.a29:Program.isAggT Tryz.prog 29=false:=by simp only [Program.isAggT,Tryz.underlying29]
theorem Ty.s29:b1e Tryz.prog 29=false:=by simp only [b1e,Tryz.underlying29]
theorem Ty.z29:Program.zeroOf Tryz.prog 29=some (Value.slice none 0 0):=by kernel_rfl
def Ty.t29:=(And.intro Tryz.underlying29 (And.intro Ty.c29 (And.intro Ty.b29 (And.intro Ty.a29 (And.intro Ty.s29 Ty.z29)))))
theorem Ty.c31:Program.cellsOf Tryz.prog 31=3:=by kernel_rfl
theorem Ty.b31:Program.bytesOf Tryz.prog 31=72:=by kernel_rfl
theorem Ty.a31:Program.isAggT Tryz.prog 31=true:=by simp only [Program.isAggT,Tryz.underlying31]
theorem Ty.s31:b1e Tryz.prog 31=false:=by simp only [b1e,Tryz.underlying31]
theorem Ty.z31:Program.zeroOf Tryz.prog 31=some (Value.agg #[Value.slice none 0 0,Value.slice none 0 0,Value.slice none 0 0]):=by kernel_rfl
def Ty.t31:=(And.intro Tryz.underlying31 (And.intro Ty.c31 (And.intro Ty.b31 (And.intro Ty.a31 (And.intro Ty.s31 Ty.z31)))))
theorem Ty.c32:Program.cellsOf Tryz.prog 32=1:=by kernel_rfl
theorem Ty.b32:Program.bytesOf Tryz.prog 32=24:=by kernel_rfl
theorem Ty.a32:Program.isAggT Tryz.prog 32=false:=by simp only [Program.isAggT,Tryz.underlying32]
theorem Ty.s32:b1e Tryz.prog 32=false:=by simp only [b1e,Tryz.underlying32]
theorem Ty.z32:Program.zeroOf Tryz.prog 32=some (Value.slice none 0 0):=by kernel_rfl
def Ty.t32:=(And.intro Tryz.underlying32 (And.intro Ty.c32 (And.intro Ty.b32 (And.intro Ty.a32 (And.intro Ty.s32 Ty.z32)))))
theorem Ty.c35:Program.cellsOf Tryz.prog 35=1:=by kernel_rfl
theorem Ty.b35:Program.bytesOf Tryz.prog 35=24:=by kernel_rfl
theorem Ty.a35:Program.isAggT Tryz.prog 35=false:=by simp only [Program.isAggT,Tryz.underlying35]
theorem Ty.s35:b1e Tryz.prog 35=false:=by simp only [b1e,Tryz.underlying35]
theorem Ty.z35:Program.zeroOf Tryz.prog 35=some (Value.slice none 0 0):=by kernel_rfl
def Ty.t35:=(And.intro Tryz.underlying35 (And.intro Ty.c35 (And.intro Ty.b35 (And.intro Ty.a35 (And.intro Ty.s35 Ty.z35)))))
theorem Ty.c53:Program.cellsOf Tryz.prog 53=5:=by kernel_rfl
theorem Ty.b53:Program.bytesOf Tryz.prog 53=48:=by kernel_rfl
theorem Ty.a53:Program.isAggT Tryz.prog 53=true:=by simp only [Program.isAggT,Tryz.underlying53]
theorem Ty.s53:b1e Tryz.prog 53=false:=by simp only [b1e,Tryz.underlying53]
theorem Ty.z53:Program.zeroOf Tryz.prog 53=some (Value.agg #[Value.string .empty,Value.int .i64 0,Value.int .i64 0,Value.int .i64 0,Value.int .i64 0]):=by kernel_rfl
theorem Ty.q53:eqT Tryz.prog 53=some [.str,.int .i64,.int .i64,.int .i64,.int .i64]:=by kernel_rfl
def Ty.t53:=(And.intro Tryz.underlying53 (And.intro Ty.c53 (And.intro Ty.b53 (And.intro Ty.a53 (And.intro Ty.s53 (And.intro Ty.q53 Ty.z53))))))
theorem Ty.c55:Program.cellsOf Tryz.prog 55=4:=by kernel_rfl
theorem Ty.b55:Program.bytesOf Tryz.prog 55=48:=by kernel_rfl
theorem Ty.a55:Program.isAggT Tryz.prog 55=true:=by simp only [Program.isAggT,Tryz.underlying55]
theorem Ty.s55:b1e Tryz.prog 55=false:=by simp only [b1e,Tryz.underlying55]
theorem Ty.z55:Program.zeroOf Tryz.prog 55=some (Value.agg #[Value.int .i64 0,Value.int .i64 0,Value.bool false,Value.slice none 0 0]):=by kernel_rfl
def Ty.t55:=(And.intro Tryz.underlying55 (And.intro Ty.c55 (And.intro Ty.b55 (And.intro Ty.a55 (And.intro Ty.s55 Ty.z55)))))
theorem Ty.c68:Program.cellsOf Tryz.prog 68=1:=by kernel_rfl
theorem Ty.b68:Program.bytesOf Tryz.prog 68=8:=by kernel_rfl
theorem Ty.a68:Program.isAggT Tryz.prog 68=false:=by simp only [Program.isAggT,Tryz.underlying68]
theorem Ty.s68:b1e Tryz.prog 68=false:=by simp only [b1e,Tryz.underlying68]
theorem Ty.z68:Program.zeroOf Tryz.prog 68=some (Value.pointer none):=by kernel_rfl
def Ty.t68:=(And.intro Tryz.underlying68 (And.intro Ty.c68 (And.intro Ty.b68 (And.intro Ty.a68 (And.intro Ty.s68 Ty.z68)))))
theorem Ty.c69:Program.cellsOf Tryz.prog 69=1:=by kernel_rfl
theorem Ty.b69:Program.bytesOf Tryz.prog 69=8:=by kernel_rfl
theorem Ty.a69:Program.isAggT Tryz.prog 69=false:=by simp only [Program.isAggT,Tryz.underlying69]
theorem Ty.s69:b1e Tryz.prog 69=true:=by simp only [b1e,Tryz.underlying69]
theorem Ty.z69:Program.zeroOf Tryz.prog 69=some (Value.int .u64 0):=by kernel_rfl
def Ty.t69:=(And.intro Tryz.underlying69 (And.intro Ty.c69 (And.intro Ty.b69 (And.intro Ty.a69 (And.intro Ty.s69 Ty.z69)))))
theorem Ty.c71:Program.cellsOf Tryz.prog 71=3:=by kernel_rfl
theorem Ty.b71:Program.bytesOf Tryz.prog 71=40:=by kernel_rfl
theorem Ty.a71:Program.isAggT Tryz.prog 71=true:=by simp only [Program.isAggT,Tryz.underlying71]
theorem Ty.s71:b1e Tryz.prog 71=false:=by simp only [b1e,Tryz.underlying71]
theorem Ty.z71:Program.zeroOf Tryz.prog 71=some (Value.agg #[Value.slice none 0 0,Value.int .i64 0,Value.int .u64 0]):=by kernel_rfl
def Ty.t71:=(And.intro Tryz.underlying71 (And.intro Ty.c71 (And.intro Ty.b71 (And.intro Ty.a71 (And.intro Ty.s71 Ty.z71)))))
theorem Ty.c77:Program.cellsOf Tryz.prog 77=1:=by kernel_rfl
theorem Ty.b77:Program.bytesOf Tryz.prog 77=8:=by kernel_rfl
theorem Ty.a77:Program.isAggT Tryz.prog 77=false:=by simp only [Program.isAggT,Tryz.underlying77]
theorem Ty.s77:b1e Tryz.prog 77=false:=by simp only [b1e,Tryz.underlying77]
theorem Ty.z77:Program.zeroOf Tryz.prog 77=some (Value.pointer none):=by kernel_rfl
def Ty.t77:=(And.intro Tryz.underlying77 (And.intro Ty.c77 (And.intro Ty.b77 (And.intro Ty.a77 (And.intro Ty.s77 Ty.z77)))))
theorem Ty.c79:Program.cellsOf Tryz.prog 79=1:=by kernel_rfl
theorem Ty.b79:Program.bytesOf Tryz.prog 79=8:=by kernel_rfl
theorem Ty.a79:Program.isAggT Tryz.prog 79=false:=by simp only [Program.isAggT,Tryz.underlying79]
theorem Ty.s79:b1e Tryz.prog 79=false:=by simp only [b1e,Tryz.underlying79]
theorem Ty.z79:Program.zeroOf Tryz.prog 79=some (Value.pointer none):=by kernel_rfl
def Ty.t79:=(And.intro Tryz.underlying79 (And.intro Ty.c79 (And.intro Ty.b79 (And.intro Ty.a79 (And.intro Ty.s79 Ty.z79)))))
theorem Ty.c91:Program.cellsOf Tryz.prog 91=2:=by kernel_rfl
theorem Ty.b91:Program.bytesOf Tryz.prog 91=32:=by kernel_rfl
theorem Ty.a91:Program.isAggT Tryz.prog 91=true:=by simp only [Program.isAggT,Tryz.underlying91]
theorem Ty.s91:b1e Tryz.prog 91=false:=by simp only [b1e,Tryz.underlying91]
theorem Ty.z91:Program.zeroOf Tryz.prog 91=some (Value.agg #[Value.int .i64 0,Value.slice none 0 0]):=by kernel_rfl
def Ty.t91:=(And.intro Tryz.underlying91 (And.intro Ty.c91 (And.intro Ty.b91 (And.intro Ty.a91 (And.intro Ty.s91 Ty.z91)))))
theorem Ty.c113:Program.cellsOf Tryz.prog 113=7:=by kernel_rfl
theorem Ty.b113:Program.bytesOf Tryz.prog 113=72:=by kernel_rfl
theorem Ty.a113:Program.isAggT Tryz.prog 113=true:=by simp only [Program.isAggT,Tryz.underlying113]
theorem Ty.s113:b1e Tryz.prog 113=false:=by simp only [b1e,Tryz.underlying113]
theorem Ty.z113:Program.zeroOf Tryz.prog 113=some (Value.agg #[Value.int .i64 0,Value.int .i64 0,Value.int .i64 0,Value.int .i64 0,Value.int .i64 0,Value.int .i64 0,Value.slice none 0 0]):=by kernel_rfl
def Ty.t113:=(And.intro Tryz.underlying113 (And.intro Ty.c113 (And.intro Ty.b113 (And.intro Ty.a113 (And.intro Ty.s113 Ty.z113)))))
theorem Ty.c114:Program.cellsOf Tryz.prog 114=1:=by kernel_rfl
theorem Ty.b114:Program.bytesOf Tryz.prog 114=24:=by kernel_rfl
theorem Ty.a114:Program.isAggT Tryz.prog 114=false:=by simp only [Program.isAggT,Tryz.underlying114]
theorem Ty.s114:b1e Tryz.prog 114=false:=by simp only [b1e,Tryz.underlying114]
theorem Ty.z114:Program.zeroOf Tryz.prog 114=some (Value.slice none 0 0):=by kernel_rfl
def Ty.t114:=(And.intro Tryz.underlying114 (And.intro Ty.c114 (And.intro Ty.b114 (And.intro Ty.a114 (And.intro Ty.s114 Ty.z114)))))
theorem Ty.c118:Program.cellsOf Tryz.prog 118=3:=by kernel_rfl
theorem Ty.b118:Program.bytesOf Tryz.prog 118=24:=by kernel_rfl
theorem Ty.a118:Program.isAggT Tryz.prog 118=true:=by simp only [Program.isAggT,Tryz.underlying118]
theorem Ty.s118:b1e Tryz.prog 118=false:=by simp only [b1e,Tryz.underlying118]
theorem Ty.z118:Program.zeroOf Tryz.prog 118=some (Value.agg #[Value.int .i64 0,Value.int .i64 0,Value.int .i64 0]):=by kernel_rfl
theorem Ty.q118:eqT Tryz.prog 118=some [.int .i64,.int .i64,.int .i64]:=by kernel_rfl
def Ty.t118:=(And.intro Tryz.underlying118 (And.intro Ty.c118 (And.intro Ty.b118 (And.intro Ty.a118 (And.intro Ty.s118 (And.intro Ty.q118 Ty.z118))))))
theorem Ty.c127:Program.cellsOf Tryz.prog 127=3:=by kernel_rfl
theorem Ty.b127:Program.bytesOf Tryz.prog 127=24:=by kernel_rfl
theorem Ty.a127:Program.isAggT Tryz.prog 127=true:=by simp only [Program.isAggT,Tryz.underlying127]
theorem Ty.s127:b1e Tryz.prog 127=false:=by simp only [b1e,Tryz.underlying127]
theorem Ty.z127:Program.zeroOf Tryz.prog 127=some (Value.agg #[Value.int .i64 0,Value.int .i64 0,Value.int .i64 0]):=by kernel_rfl
theorem Ty.q127:eqT Tryz.prog 127=some [.int .i64,.int .i64,.int .i64]:=by kernel_rfl
def Ty.t127:=(And.intro Tryz.underlying127 (And.intro Ty.c127 (And.intro Ty.b127 (And.intro Ty.a127 (And.intro Ty.s127 (And.intro Ty.q127 Ty.z127))))))
theorem Ty.c151:Program.cellsOf Tryz.prog 151=1:=by kernel_rfl
theorem Ty.b151:Program.bytesOf Tryz.prog 151=8:=by kernel_rfl
theorem Ty.a151:Program.isAggT Tryz.prog 151=false:=by simp only [Program.isAggT,Tryz.underlying151]
theorem Ty.s151:b1e Tryz.prog 151=false:=by simp only [b1e,Tryz.underlying151]
theorem Ty.z151:Program.zeroOf Tryz.prog 151=some (Value.pointer none):=by kernel_rfl
def Ty.t151:=(And.intro Tryz.underlying151 (And.intro Ty.c151 (And.intro Ty.b151 (And.intro Ty.a151 (And.intro Ty.s151 Ty.z151)))))
theorem Ty.c153:Program.cellsOf Tryz.prog 153=2:=by kernel_rfl
theorem Ty.b153:Program.bytesOf Tryz.prog 153=32:=by kernel_rfl
theorem Ty.a153:Program.isAggT Tryz.prog 153=true:=by simp only [Program.isAggT,Tryz.underlying153]
theorem Ty.s153:b1e Tryz.prog 153=false:=by simp only [b1e,Tryz.underlying153]
theorem Ty.z153:Program.zeroOf Tryz.prog 153=some (Value.agg #[Value.pointer none,Value.slice none 0 0]):=by kernel_rfl
def Ty.t153:=(And.intro Tryz.underlying153 (And.intro Ty.c153 (And.intro Ty.b153 (And.intro Ty.a153 (And.intro Ty.s153 Ty.z153)))))
theorem Ty.c156:Program.cellsOf Tryz.prog 156=4:=by kernel_rfl
theorem Ty.b156:Program.bytesOf Tryz.prog 156=32:=by kernel_rfl
theorem Ty.a156:Program.isAggT Tryz.prog 156=true:=by simp only [Program.isAggT,Tryz.underlying156]
theorem Ty.s156:b1e Tryz.prog 156=false:=by simp only [b1e,Tryz.underlying156]
theorem Ty.z156:Program.zeroOf Tryz.prog 156=some (Value.agg #[Value.int .i64 0,Value.int .i64 0,Value.int .i64 0,Value.int .i64 0]):=by kernel_rfl
def Ty.t156:=(And.intro Tryz.underlying156 (And.intro Ty.c156 (And.intro Ty.b156 (And.intro Ty.a156 (And.intro Ty.s156 Ty.z156)))))
theorem Ty.c166:Program.cellsOf Tryz.prog 166=1:=by kernel_rfl
theorem Ty.b166:Program.bytesOf Tryz.prog 166=8:=by kernel_rfl
theorem Ty.a166:Program.isAggT Tryz.prog 166=false:=by simp only [Program.isAggT,Tryz.underlying166]
theorem Ty.s166:b1e Tryz.prog 166=true:=by simp only [b1e,Tryz.underlying166]
theorem Ty.z166:Program.zeroOf Tryz.prog 166=some (Value.int .u64 0):=by kernel_rfl
def Ty.t166:=(And.intro Tryz.underlying166 (And.intro Ty.c166 (And.intro Ty.b166 (And.intro Ty.a166 (And.intro Ty.s166 Ty.z166)))))
theorem Ty.c195:Program.cellsOf Tryz.prog 195=1:=by kernel_rfl
theorem Ty.b195:Program.bytesOf Tryz.prog 195=8:=by kernel_rfl
theorem Ty.a195:Program.isAggT Tryz.prog 195=false:=by simp only [Program.isAggT,Tryz.underlying195]
theorem Ty.s195:b1e Tryz.prog 195=false:=by simp only [b1e,Tryz.underlying195]
theorem Ty.z195:Program.zeroOf Tryz.prog 195=some (Value.pointer none):=by kernel_rfl
def Ty.t195:=(And.intro Tryz.underlying195 (And.intro Ty.c195 (And.intro Ty.b195 (And.intro Ty.a195 (And.intro Ty.s195 Ty.z195)))))
theorem Ty.c220:Program.cellsOf Tryz.prog 220=3:=by kernel_rfl
theorem Ty.b220:Program.bytesOf Tryz.prog 220=48:=by kernel_rfl
theorem Ty.a220:Program.isAggT Tryz.prog 220=true:=by simp only [Program.isAggT,Tryz.underlying220]
theorem Ty.s220:b1e Tryz.prog 220=false:=by simp only [b1e,Tryz.underlying220]
def Ty.t220:=(And.intro Tryz.underlying220 (And.intro Ty.c220 (And.intro Ty.b220 (And.intro Ty.a220 Ty.s220))))
theorem Ty.c232:Program.cellsOf Tryz.prog 232=1:=by kernel_rfl
theorem Ty.b232:Program.bytesOf Tryz.prog 232=24:=by kernel_rfl
theorem Ty.a232:Program.isAggT Tryz.prog 232=false:=by simp only [Program.isAggT,Tryz.underlying232]
theorem Ty.s232:b1e Tryz.prog 232=false:=by simp only [b1e,Tryz.underlying232]
theorem Ty.z232:Program.zeroOf Tryz.prog 232=some (Value.slice none 0 0):=by kernel_rfl
def Ty.t232:=(And.intro Tryz.underlying232 (And.intro Ty.c232 (And.intro Ty.b232 (And.intro Ty.a232 (And.intro Ty.s232 Ty.z232)))))
end Go.Proofs.YtmbbjhopngejaaaGreatDoor
