/- Facts about types. No condition. -/
import Derived.Test.YtmbbjhopngejaaaGreatChecked
import Derived.Test.YtmbbjhopngejaaaGreatUmF
set_option linter.all false
open Go.Value renaming int → Za, slice → Zb, agg → Zc, pointer → Zd
namespace Go.Proofs.YtmbbjhopngejaaaGreat
open Go Go.Vm
theorem Ty.c3:Program.cellsOf Tryz.prog 3=1:=by kernel_rfl
theorem Ty.b3:Program.bytesOf Tryz.prog 3=8:=by kernel_rfl
theorem Ty.a3:Program.isAggT Tryz.prog 3=false:=by simp only [Program.isAggT,Tryz.underlying3]
theorem Ty.s3:b1f Tryz.prog 3=true:=by simp only [b1f,Tryz.underlying3]
theorem Ty.z3:Program.zeroOf Tryz.prog 3=some (Za .i64 0):=by kernel_rfl
def Y3:=(And.intro Tryz.underlying3 (And.intro Ty.c3 (And.intro Ty.b3 (And.intro Ty.a3 (And.intro Ty.s3 Ty.z3)))))
theorem Ty.c4:Program.cellsOf Tryz.prog 4=1:=by kernel_rfl
theorem Ty.b4:Program.bytesOf Tryz.prog 4=1:=by kernel_rfl
theorem Ty.a4:Program.isAggT Tryz.prog 4=false:=by simp only [Program.isAggT,Tryz.underlying4]
theorem Ty.s4:b1f Tryz.prog 4=true:=by simp only [b1f,Tryz.underlying4]
theorem Ty.z4:Program.zeroOf Tryz.prog 4=some (Value.bool false):=by kernel_rfl
def Y4:=(And.intro Tryz.underlying4 (And.intro Ty.c4 (And.intro Ty.b4 (And.intro Ty.a4 (And.intro Ty.s4 Ty.z4)))))
theorem Ty.c5:Program.cellsOf Tryz.prog 5=1:=by kernel_rfl
theorem Ty.b5:Program.bytesOf Tryz.prog 5=1:=by kernel_rfl
theorem Ty.a5:Program.isAggT Tryz.prog 5=false:=by simp only [Program.isAggT,Tryz.underlying5]
theorem Ty.s5:b1f Tryz.prog 5=true:=by simp only [b1f,Tryz.underlying5]
theorem Ty.z5:Program.zeroOf Tryz.prog 5=some (Za .u8 0):=by kernel_rfl
def Y5:=(And.intro Tryz.underlying5 (And.intro Ty.c5 (And.intro Ty.b5 (And.intro Ty.a5 (And.intro Ty.s5 Ty.z5)))))
theorem Ty.c9:Program.cellsOf Tryz.prog 9=1:=by kernel_rfl
theorem Ty.b9:Program.bytesOf Tryz.prog 9=16:=by kernel_rfl
theorem Ty.a9:Program.isAggT Tryz.prog 9=false:=by simp only [Program.isAggT,Tryz.underlying9]
theorem Ty.s9:b1f Tryz.prog 9=true:=by simp only [b1f,Tryz.underlying9]
theorem Ty.z9:Program.zeroOf Tryz.prog 9=some (Value.string .empty):=by kernel_rfl
def Y9:=(And.intro Tryz.underlying9 (And.intro Ty.c9 (And.intro Ty.b9 (And.intro Ty.a9 (And.intro Ty.s9 Ty.z9)))))
theorem Ty.c22:Program.cellsOf Tryz.prog 22=1:=by kernel_rfl
theorem Ty.b22:Program.bytesOf Tryz.prog 22=24:=by kernel_rfl
theorem Ty.a22:Program.isAggT Tryz.prog 22=false:=by simp only [Program.isAggT,Tryz.underlying22]
theorem Ty.s22:b1f Tryz.prog 22=false:=by simp only [b1f,Tryz.underlying22]
theorem Ty.z22:Program.zeroOf Tryz.prog 22=some (Zb none 0 0):=by kernel_rfl
def Y22:=(And.intro Tryz.underlying22 (And.intro Ty.c22 (And.intro Ty.b22 (And.intro Ty.a22 (And.intro Ty.s22 Ty.z22)))))
theorem Ty.c24:Program.cellsOf Tryz.prog 24=1:=by kernel_rfl
theorem Ty.b24:Program.bytesOf Tryz.prog 24=24:=by kernel_rfl
theorem Ty.a24:Program.isAggT Tryz.prog 24=false:=by simp only [Program.isAggT,Tryz.underlying24]
theorem Ty.s24:b1f Tryz.prog 24=false:=by simp only [b1f,Tryz.underlying24]
theorem Ty.z24:Program.zeroOf Tryz.prog 24=some (Zb none 0 0):=by kernel_rfl
def Y24:=(And.intro Tryz.underlying24 (And.intro Ty.c24 (And.intro Ty.b24 (And.intro Ty.a24 (And.intro Ty.s24 Ty.z24)))))
theorem Ty.c26:Program.cellsOf Tryz.prog 26=2:=by kernel_rfl
theorem Ty.b26:Program.bytesOf Tryz.prog 26=32:=by kernel_rfl
theorem Ty.a26:Program.isAggT Tryz.prog 26=true:=by simp only [Program.isAggT,Tryz.underlying26]
theorem Ty.s26:b1f Tryz.prog 26=false:=by simp only [b1f,Tryz.underlying26]
theorem Ty.z26:Program.zeroOf Tryz.prog 26=some (Zc #[Za .i64 0,Zb none 0 0]):=by kernel_rfl
def Y26:=(And.intro Tryz.underlying26 (And.intro Ty.c26 (And.intro Ty.b26 (And.intro Ty.a26 (And.intro Ty.s26 Ty.z26)))))
theorem Ty.c27:Program.cellsOf Tryz.prog 27=1:=by kernel_rfl
theorem Ty.b27:Program.bytesOf Tryz.prog 27=24:=by kernel_rfl
theorem Ty.a27:Program.isAggT Tryz.prog 27=false:=by simp only [Program.isAggT,Tryz.underlying27]
theorem Ty.s27:b1f Tryz.prog 27=false:=by simp only [b1f,Tryz.underlying27]
theorem Ty.z27:Program.zeroOf Tryz.prog 27=some (Zb none 0 0):=by kernel_rfl
def Y27:=(And.intro Tryz.underlying27 (And.intro Ty.c27 (And.intro Ty.b27 (And.intro Ty.a27 (And.intro Ty.s27 Ty.z27)))))
theorem Ty.c28:Program.cellsOf Tryz.prog 28=1:=by kernel_rfl
theorem Ty.b28:Program.bytesOf Tryz.prog 28=24:=by kernel_rfl
theorem Ty.a28:Program.isAggT Tryz.prog 28=false:=by simp only [Program.isAggT,Tryz.underlying28]
theorem Ty.s28:b1f Tryz.prog 28=false:=by simp only [b1f,Tryz.underlying28]
theorem Ty.z28:Program.zeroOf Tryz.prog 28=some (Zb none 0 0):=by kernel_rfl
def Y28:=(And.intro Tryz.underlying28 (And.intro Ty.c28 (And.intro Ty.b28 (And.intro Ty.a28 (And.intro Ty.s28 Ty.z28)))))
theorem Ty.c29:Program.cellsOf Tryz.prog 29=1:=by kernel_rfl
theorem Ty.b29:Program.bytesOf Tryz.prog 29=24:=by kernel_rfl
theorem Ty.a29:Program.isAggT Tryz.prog 29=false:=by simp only [Program.isAggT,Tryz.underlying29]
theorem Ty.s29:b1f Tryz.prog 29=false:=by simp only [b1f,Tryz.underlying29]
theorem Ty.z29:Program.zeroOf Tryz.prog 29=some (Zb none 0 0):=by kernel_rfl
def Y29:=(And.intro Tryz.underlying29 (And.intro Ty.c29 (And.intro Ty.b29 (And.intro Ty.a29 (And.intro Ty.s29 Ty.z29)))))
theorem Ty.c30:Program.cellsOf Tryz.prog 30=1:=by kernel_rfl
theorem Ty.b30:Program.bytesOf Tryz.prog 30=24:=by kernel_rfl
theorem Ty.a30:Program.isAggT Tryz.prog 30=false:=by simp only [Program.isAggT,Tryz.underlying30]
theorem Ty.s30:b1f Tryz.prog 30=false:=by simp only [b1f,Tryz.underlying30]
theorem Ty.z30:Program.zeroOf Tryz.prog 30=some (Zb none 0 0):=by kernel_rfl
def Y30:=(And.intro Tryz.underlying30 (And.intro Ty.c30 (And.intro Ty.b30 (And.intro Ty.a30 (And.intro Ty.s30 Ty.z30)))))
theorem Ty.c32:Program.cellsOf Tryz.prog 32=3:=by kernel_rfl
theorem Ty.b32:Program.bytesOf Tryz.prog 32=72:=by kernel_rfl
theorem Ty.a32:Program.isAggT Tryz.prog 32=true:=by simp only [Program.isAggT,Tryz.underlying32]
theorem Ty.s32:b1f Tryz.prog 32=false:=by simp only [b1f,Tryz.underlying32]
theorem Ty.z32:Program.zeroOf Tryz.prog 32=some (Zc #[Zb none 0 0,Zb none 0 0,Zb none 0 0]):=by kernel_rfl
def Y32:=(And.intro Tryz.underlying32 (And.intro Ty.c32 (And.intro Ty.b32 (And.intro Ty.a32 (And.intro Ty.s32 Ty.z32)))))
theorem Ty.c34:Program.cellsOf Tryz.prog 34=3:=by kernel_rfl
theorem Ty.b34:Program.bytesOf Tryz.prog 34=24:=by kernel_rfl
theorem Ty.a34:Program.isAggT Tryz.prog 34=true:=by simp only [Program.isAggT,Tryz.underlying34]
theorem Ty.s34:b1f Tryz.prog 34=false:=by simp only [b1f,Tryz.underlying34]
theorem Ty.z34:Program.zeroOf Tryz.prog 34=some (Zc #[Za .i64 0,Za .i64 0,Za .i64 0]):=by kernel_rfl
theorem Ty.q34:eqT Tryz.prog 34=some [.int .i64,.int .i64,.int .i64]:=by kernel_rfl
def Y34:=(And.intro Tryz.underlying34 (And.intro Ty.c34 (And.intro Ty.b34 (And.intro Ty.a34 (And.intro Ty.s34 (And.intro Ty.q34 Ty.z34))))))
theorem Ty.c41:Program.cellsOf Tryz.prog 41=1:=by kernel_rfl
theorem Ty.b41:Program.bytesOf Tryz.prog 41=24:=by kernel_rfl
theorem Ty.a41:Program.isAggT Tryz.prog 41=false:=by simp only [Program.isAggT,Tryz.underlying41]
theorem Ty.s41:b1f Tryz.prog 41=false:=by simp only [b1f,Tryz.underlying41]
theorem Ty.z41:Program.zeroOf Tryz.prog 41=some (Zb none 0 0):=by kernel_rfl
def Y41:=(And.intro Tryz.underlying41 (And.intro Ty.c41 (And.intro Ty.b41 (And.intro Ty.a41 (And.intro Ty.s41 Ty.z41)))))
theorem Ty.c48:Program.cellsOf Tryz.prog 48=1:=by kernel_rfl
theorem Ty.b48:Program.bytesOf Tryz.prog 48=24:=by kernel_rfl
theorem Ty.a48:Program.isAggT Tryz.prog 48=false:=by simp only [Program.isAggT,Tryz.underlying48]
theorem Ty.s48:b1f Tryz.prog 48=false:=by simp only [b1f,Tryz.underlying48]
theorem Ty.z48:Program.zeroOf Tryz.prog 48=some (Zb none 0 0):=by kernel_rfl
def Y48:=(And.intro Tryz.underlying48 (And.intro Ty.c48 (And.intro Ty.b48 (And.intro Ty.a48 (And.intro Ty.s48 Ty.z48)))))
theorem Ty.c60:Program.cellsOf Tryz.prog 60=1:=by kernel_rfl
theorem Ty.b60:Program.bytesOf Tryz.prog 60=8:=by kernel_rfl
theorem Ty.a60:Program.isAggT Tryz.prog 60=false:=by simp only [Program.isAggT,Tryz.underlying60]
theorem Ty.s60:b1f Tryz.prog 60=false:=by simp only [b1f,Tryz.underlying60]
theorem Ty.z60:Program.zeroOf Tryz.prog 60=some (Zd none):=by kernel_rfl
def Y60:=(And.intro Tryz.underlying60 (And.intro Ty.c60 (And.intro Ty.b60 (And.intro Ty.a60 (And.intro Ty.s60 Ty.z60)))))
theorem Ty.c61:Program.cellsOf Tryz.prog 61=1:=by kernel_rfl
theorem Ty.b61:Program.bytesOf Tryz.prog 61=8:=by kernel_rfl
theorem Ty.a61:Program.isAggT Tryz.prog 61=false:=by simp only [Program.isAggT,Tryz.underlying61]
theorem Ty.s61:b1f Tryz.prog 61=true:=by simp only [b1f,Tryz.underlying61]
theorem Ty.z61:Program.zeroOf Tryz.prog 61=some (Za .u64 0):=by kernel_rfl
def Y61:=(And.intro Tryz.underlying61 (And.intro Ty.c61 (And.intro Ty.b61 (And.intro Ty.a61 (And.intro Ty.s61 Ty.z61)))))
theorem Ty.c63:Program.cellsOf Tryz.prog 63=3:=by kernel_rfl
theorem Ty.b63:Program.bytesOf Tryz.prog 63=40:=by kernel_rfl
theorem Ty.a63:Program.isAggT Tryz.prog 63=true:=by simp only [Program.isAggT,Tryz.underlying63]
theorem Ty.s63:b1f Tryz.prog 63=false:=by simp only [b1f,Tryz.underlying63]
theorem Ty.z63:Program.zeroOf Tryz.prog 63=some (Zc #[Zb none 0 0,Za .i64 0,Za .u64 0]):=by kernel_rfl
def Y63:=(And.intro Tryz.underlying63 (And.intro Ty.c63 (And.intro Ty.b63 (And.intro Ty.a63 (And.intro Ty.s63 Ty.z63)))))
theorem Ty.c69:Program.cellsOf Tryz.prog 69=1:=by kernel_rfl
theorem Ty.b69:Program.bytesOf Tryz.prog 69=8:=by kernel_rfl
theorem Ty.a69:Program.isAggT Tryz.prog 69=false:=by simp only [Program.isAggT,Tryz.underlying69]
theorem Ty.s69:b1f Tryz.prog 69=false:=by simp only [b1f,Tryz.underlying69]
theorem Ty.z69:Program.zeroOf Tryz.prog 69=some (Zd none):=by kernel_rfl
def Y69:=(And.intro Tryz.underlying69 (And.intro Ty.c69 (And.intro Ty.b69 (And.intro Ty.a69 (And.intro Ty.s69 Ty.z69)))))
theorem Ty.c72:Program.cellsOf Tryz.prog 72=1:=by kernel_rfl
theorem Ty.b72:Program.bytesOf Tryz.prog 72=8:=by kernel_rfl
theorem Ty.a72:Program.isAggT Tryz.prog 72=false:=by simp only [Program.isAggT,Tryz.underlying72]
theorem Ty.s72:b1f Tryz.prog 72=false:=by simp only [b1f,Tryz.underlying72]
theorem Ty.z72:Program.zeroOf Tryz.prog 72=some (Zd none):=by kernel_rfl
def Y72:=(And.intro Tryz.underlying72 (And.intro Ty.c72 (And.intro Ty.b72 (And.intro Ty.a72 (And.intro Ty.s72 Ty.z72)))))
theorem Ty.c81:Program.cellsOf Tryz.prog 81=2:=by kernel_rfl
theorem Ty.b81:Program.bytesOf Tryz.prog 81=32:=by kernel_rfl
theorem Ty.a81:Program.isAggT Tryz.prog 81=true:=by simp only [Program.isAggT,Tryz.underlying81]
theorem Ty.s81:b1f Tryz.prog 81=false:=by simp only [b1f,Tryz.underlying81]
theorem Ty.z81:Program.zeroOf Tryz.prog 81=some (Zc #[Za .i64 0,Zb none 0 0]):=by kernel_rfl
def Y81:=(And.intro Tryz.underlying81 (And.intro Ty.c81 (And.intro Ty.b81 (And.intro Ty.a81 (And.intro Ty.s81 Ty.z81)))))
theorem Ty.c93:Program.cellsOf Tryz.prog 93=7:=by kernel_rfl
theorem Ty.b93:Program.bytesOf Tryz.prog 93=72:=by kernel_rfl
theorem Ty.a93:Program.isAggT Tryz.prog 93=true:=by simp only [Program.isAggT,Tryz.underlying93]
theorem Ty.s93:b1f Tryz.prog 93=false:=by simp only [b1f,Tryz.underlying93]
theorem Ty.z93:Program.zeroOf Tryz.prog 93=some (Zc #[Za .i64 0,Za .i64 0,Za .i64 0,Za .i64 0,Za .i64 0,Za .i64 0,Zb none 0 0]):=by kernel_rfl
def Y93:=(And.intro Tryz.underlying93 (And.intro Ty.c93 (And.intro Ty.b93 (And.intro Ty.a93 (And.intro Ty.s93 Ty.z93)))))
theorem Ty.c96:Program.cellsOf Tryz.prog 96=4:=by kernel_rfl
theorem Ty.b96:Program.bytesOf Tryz.prog 96=48:=by kernel_rfl
theorem Ty.a96:Program.isAggT Tryz.prog 96=true:=by simp only [Program.isAggT,Tryz.underlying96]
theorem Ty.s96:b1f Tryz.prog 96=false:=by simp only [b1f,Tryz.underlying96]
theorem Ty.z96:Program.zeroOf Tryz.prog 96=some (Zc #[Za .i64 0,Za .i64 0,Value.bool false,Zb none 0 0]):=by kernel_rfl
def Y96:=(And.intro Tryz.underlying96 (And.intro Ty.c96 (And.intro Ty.b96 (And.intro Ty.a96 (And.intro Ty.s96 Ty.z96)))))
theorem Ty.c98:Program.cellsOf Tryz.prog 98=5:=by kernel_rfl
theorem Ty.b98:Program.bytesOf Tryz.prog 98=48:=by kernel_rfl
theorem Ty.a98:Program.isAggT Tryz.prog 98=true:=by simp only [Program.isAggT,Tryz.underlying98]
theorem Ty.s98:b1f Tryz.prog 98=false:=by simp only [b1f,Tryz.underlying98]
theorem Ty.z98:Program.zeroOf Tryz.prog 98=some (Zc #[Value.string .empty,Za .i64 0,Za .i64 0,Za .i64 0,Za .i64 0]):=by kernel_rfl
theorem Ty.q98:eqT Tryz.prog 98=some [.str,.int .i64,.int .i64,.int .i64,.int .i64]:=by kernel_rfl
def Y98:=(And.intro Tryz.underlying98 (And.intro Ty.c98 (And.intro Ty.b98 (And.intro Ty.a98 (And.intro Ty.s98 (And.intro Ty.q98 Ty.z98))))))
theorem Ty.c121:Program.cellsOf Tryz.prog 121=3:=by kernel_rfl
theorem Ty.b121:Program.bytesOf Tryz.prog 121=24:=by kernel_rfl
theorem Ty.a121:Program.isAggT Tryz.prog 121=true:=by simp only [Program.isAggT,Tryz.underlying121]
theorem Ty.s121:b1f Tryz.prog 121=false:=by simp only [b1f,Tryz.underlying121]
theorem Ty.z121:Program.zeroOf Tryz.prog 121=some (Zc #[Za .i64 0,Za .i64 0,Za .i64 0]):=by kernel_rfl
theorem Ty.q121:eqT Tryz.prog 121=some [.int .i64,.int .i64,.int .i64]:=by kernel_rfl
def b7w:=(And.intro Tryz.underlying121 (And.intro Ty.c121 (And.intro Ty.b121 (And.intro Ty.a121 (And.intro Ty.s121 (And.intro Ty.q121 Ty.z121))))))
theorem Ty.c148:Program.cellsOf Tryz.prog 148=4:=by kernel_rfl
theorem Ty.b148:Program.bytesOf Tryz.prog 148=32:=by kernel_rfl
theorem Ty.a148:Program.isAggT Tryz.prog 148=true:=by simp only [Program.isAggT,Tryz.underlying148]
theorem Ty.s148:b1f Tryz.prog 148=false:=by simp only [b1f,Tryz.underlying148]
theorem Ty.z148:Program.zeroOf Tryz.prog 148=some (Zc #[Za .i64 0,Za .i64 0,Za .i64 0,Za .i64 0]):=by kernel_rfl
def g2t:=(And.intro Tryz.underlying148 (And.intro Ty.c148 (And.intro Ty.b148 (And.intro Ty.a148 (And.intro Ty.s148 Ty.z148)))))
theorem Ty.c165:Program.cellsOf Tryz.prog 165=1:=by kernel_rfl
theorem Ty.b165:Program.bytesOf Tryz.prog 165=8:=by kernel_rfl
theorem Ty.a165:Program.isAggT Tryz.prog 165=false:=by simp only [Program.isAggT,Tryz.underlying165]
theorem Ty.s165:b1f Tryz.prog 165=true:=by simp only [b1f,Tryz.underlying165]
theorem Ty.z165:Program.zeroOf Tryz.prog 165=some (Za .u64 0):=by kernel_rfl
def f8y:=(And.intro Tryz.underlying165 (And.intro Ty.c165 (And.intro Ty.b165 (And.intro Ty.a165 (And.intro Ty.s165 Ty.z165)))))
theorem Ty.c184:Program.cellsOf Tryz.prog 184=1:=by kernel_rfl
theorem Ty.b184:Program.bytesOf Tryz.prog 184=8:=by kernel_rfl
theorem Ty.a184:Program.isAggT Tryz.prog 184=false:=by simp only [Program.isAggT,Tryz.underlying184]
theorem Ty.s184:b1f Tryz.prog 184=true:=by simp only [b1f,Tryz.underlying184]
theorem Ty.z184:Program.zeroOf Tryz.prog 184=some (Za .i64 0):=by kernel_rfl
def g2r:=(And.intro Tryz.underlying184 (And.intro Ty.c184 (And.intro Ty.b184 (And.intro Ty.a184 (And.intro Ty.s184 Ty.z184)))))
theorem Ty.c198:Program.cellsOf Tryz.prog 198=2:=by kernel_rfl
theorem Ty.b198:Program.bytesOf Tryz.prog 198=16:=by kernel_rfl
theorem Ty.a198:Program.isAggT Tryz.prog 198=true:=by simp only [Program.isAggT,Tryz.underlying198]
theorem Ty.s198:b1f Tryz.prog 198=false:=by simp only [b1f,Tryz.underlying198]
theorem Ty.z198:Program.zeroOf Tryz.prog 198=some (Zc #[Za .i64 0,Za .i64 0]):=by kernel_rfl
def g2x:=(And.intro Tryz.underlying198 (And.intro Ty.c198 (And.intro Ty.b198 (And.intro Ty.a198 (And.intro Ty.s198 Ty.z198)))))
theorem Ty.c199:Program.cellsOf Tryz.prog 199=1:=by kernel_rfl
theorem Ty.b199:Program.bytesOf Tryz.prog 199=24:=by kernel_rfl
theorem Ty.a199:Program.isAggT Tryz.prog 199=false:=by simp only [Program.isAggT,Tryz.underlying199]
theorem Ty.s199:b1f Tryz.prog 199=false:=by simp only [b1f,Tryz.underlying199]
theorem Ty.z199:Program.zeroOf Tryz.prog 199=some (Zb none 0 0):=by kernel_rfl
def g2q:=(And.intro Tryz.underlying199 (And.intro Ty.c199 (And.intro Ty.b199 (And.intro Ty.a199 (And.intro Ty.s199 Ty.z199)))))
theorem Ty.c201:Program.cellsOf Tryz.prog 201=1:=by kernel_rfl
theorem Ty.b201:Program.bytesOf Tryz.prog 201=8:=by kernel_rfl
theorem Ty.a201:Program.isAggT Tryz.prog 201=false:=by simp only [Program.isAggT,Tryz.underlying201]
theorem Ty.s201:b1f Tryz.prog 201=true:=by simp only [b1f,Tryz.underlying201]
theorem Ty.z201:Program.zeroOf Tryz.prog 201=some (Za .u64 0):=by kernel_rfl
def g2z:=(And.intro Tryz.underlying201 (And.intro Ty.c201 (And.intro Ty.b201 (And.intro Ty.a201 (And.intro Ty.s201 Ty.z201)))))
theorem Ty.c205:Program.cellsOf Tryz.prog 205=1:=by kernel_rfl
theorem Ty.b205:Program.bytesOf Tryz.prog 205=8:=by kernel_rfl
theorem Ty.a205:Program.isAggT Tryz.prog 205=false:=by simp only [Program.isAggT,Tryz.underlying205]
theorem Ty.s205:b1f Tryz.prog 205=false:=by simp only [b1f,Tryz.underlying205]
theorem Ty.z205:Program.zeroOf Tryz.prog 205=some (Zd none):=by kernel_rfl
def g2y:=(And.intro Tryz.underlying205 (And.intro Ty.c205 (And.intro Ty.b205 (And.intro Ty.a205 (And.intro Ty.s205 Ty.z205)))))
theorem Ty.c207:Program.cellsOf Tryz.prog 207=1:=by kernel_rfl
theorem Ty.b207:Program.bytesOf Tryz.prog 207=24:=by kernel_rfl
theorem Ty.a207:Program.isAggT Tryz.prog 207=false:=by simp only [Program.isAggT,Tryz.underlying207]
theorem Ty.s207:b1f Tryz.prog 207=false:=by simp only [b1f,Tryz.underlying207]
theorem Ty.z207:Program.zeroOf Tryz.prog 207=some (Zb none 0 0):=by kernel_rfl
def g2v:=(And.intro Tryz.underlying207 (And.intro Ty.c207 (And.intro Ty.b207 (And.intro Ty.a207 (And.intro Ty.s207 Ty.z207)))))
end Go.Proofs.YtmbbjhopngejaaaGreat
