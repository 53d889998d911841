/- Facts about types. No condition. -/
import Derived.Test.YtmhaafinhpopmaaChecked
import Derived.Test.YtmhaafinhpopmaaUmF
set_option linter.unusedSimpArgs false
set_option linter.unusedVariables false
set_option linter.defProp false
namespace Go.Proofs.Ytmhaafinhpopmaa
open Go Go.Vm
theorem Ty.c3:Program.cellsOf Try.prog 3=1:=by kernel_rfl
theorem Ty.b3:Program.bytesOf Try.prog 3=8:=by kernel_rfl
theorem Ty.a3:Program.isAggT Try.prog 3=false:=by simp only [Program.isAggT,Try.underlying3]
theorem Ty.s3:scalarT Try.prog 3=true:=by simp only [scalarT,Try.underlying3]
theorem Ty.z3:Program.zeroOf Try.prog 3=some (Value.int .i64 0):=by kernel_rfl
def Ty.t3:=(And.intro Try.underlying3 (And.intro Ty.c3 (And.intro Ty.b3 (And.intro Ty.a3 (And.intro Ty.s3 Ty.z3)))))
theorem Ty.c4:Program.cellsOf Try.prog 4=1:=by kernel_rfl
theorem Ty.b4:Program.bytesOf Try.prog 4=1:=by kernel_rfl
theorem Ty.a4:Program.isAggT Try.prog 4=false:=by simp only [Program.isAggT,Try.underlying4]
theorem Ty.s4:scalarT Try.prog 4=true:=by simp only [scalarT,Try.underlying4]
theorem Ty.z4:Program.zeroOf Try.prog 4=some (Value.bool false):=by kernel_rfl
def Ty.t4:=(And.intro Try.underlying4 (And.intro Ty.c4 (And.intro Ty.b4 (And.intro Ty.a4 (And.intro Ty.s4 Ty.z4)))))
theorem Ty.c5:Program.cellsOf Try.prog 5=1:=by kernel_rfl
theorem Ty.b5:Program.bytesOf Try.prog 5=1:=by kernel_rfl
theorem Ty.a5:Program.isAggT Try.prog 5=false:=by simp only [Program.isAggT,Try.underlying5]
theorem Ty.s5:scalarT Try.prog 5=true:=by simp only [scalarT,Try.underlying5]
theorem Ty.z5:Program.zeroOf Try.prog 5=some (Value.int .u8 0):=by kernel_rfl
def Ty.t5:=(And.intro Try.underlying5 (And.intro Ty.c5 (And.intro Ty.b5 (And.intro Ty.a5 (And.intro Ty.s5 Ty.z5)))))
theorem Ty.c9:Program.cellsOf Try.prog 9=1:=by kernel_rfl
theorem Ty.b9:Program.bytesOf Try.prog 9=16:=by kernel_rfl
theorem Ty.a9:Program.isAggT Try.prog 9=false:=by simp only [Program.isAggT,Try.underlying9]
theorem Ty.s9:scalarT Try.prog 9=true:=by simp only [scalarT,Try.underlying9]
theorem Ty.z9:Program.zeroOf Try.prog 9=some (Value.string .empty):=by kernel_rfl
def Ty.t9:=(And.intro Try.underlying9 (And.intro Ty.c9 (And.intro Ty.b9 (And.intro Ty.a9 (And.intro Ty.s9 Ty.z9)))))
theorem Ty.c22:Program.cellsOf Try.prog 22=1:=by kernel_rfl
theorem Ty.b22:Program.bytesOf Try.prog 22=24:=by kernel_rfl
theorem Ty.a22:Program.isAggT Try.prog 22=false:=by simp only [Program.isAggT,Try.underlying22]
theorem Ty.s22:scalarT Try.prog 22=false:=by simp only [scalarT,Try.underlying22]
theorem Ty.z22:Program.zeroOf Try.prog 22=some (Value.slice none 0 0):=by kernel_rfl
def Ty.t22:=(And.intro Try.underlying22 (And.intro Ty.c22 (And.intro Ty.b22 (And.intro Ty.a22 (And.intro Ty.s22 Ty.z22)))))
theorem Ty.c24:Program.cellsOf Try.prog 24=2:=by kernel_rfl
theorem Ty.b24:Program.bytesOf Try.prog 24=32:=by kernel_rfl
theorem Ty.a24:Program.isAggT Try.prog 24=true:=by simp only [Program.isAggT,Try.underlying24]
theorem Ty.s24:scalarT Try.prog 24=false:=by simp only [scalarT,Try.underlying24]
theorem Ty.z24:Program.zeroOf Try.prog 24=some (Value.agg #[Value.int .i64 0,Value.slice none 0 0]):=by kernel_rfl
def Ty.t24:=(And.intro Try.underlying24 (And.intro Ty.c24 (And.intro Ty.b24 (And.intro Ty.a24 (And.intro Ty.s24 Ty.z24)))))
theorem Ty.c25:Program.cellsOf Try.prog 25=1:=by kernel_rfl
theorem Ty.b25:Program.bytesOf Try.prog 25=24:=by kernel_rfl
theorem Ty.a25:Program.isAggT Try.prog 25=false:=by simp only [Program.isAggT,Try.underlying25]
theorem Ty.s25:scalarT Try.prog 25=false:=by simp only [scalarT,Try.underlying25]
theorem Ty.z25:Program.zeroOf Try.prog 25=some (Value.slice none 0 0):=by kernel_rfl
def Ty.t25:=(And.intro Try.underlying25 (And.intro Ty.c25 (And.intro Ty.b25 (And.intro Ty.a25 (And.intro Ty.s25 Ty.z25)))))
theorem Ty.c26:Program.cellsOf Try.prog 26=1:=by kernel_rfl
theorem Ty.b26:Program.bytesOf Try.prog 26=24:=by kernel_rfl
theorem Ty.a26:Program.isAggT Try.prog 26=false:=by simp only [Program.isAggT,Try.underlying26]
theorem Ty.s26:scalarT Try.prog 26=false:=by simp only [scalarT,Try.underlying26]
theorem Ty.z26:Program.zeroOf Try.prog 26=some (Value.slice none 0 0):=by kernel_rfl
def Ty.t26:=(And.intro Try.underlying26 (And.intro Ty.c26 (And.intro Ty.b26 (And.intro Ty.a26 (And.intro Ty.s26 Ty.z26)))))
theorem Ty.c29:Program.cellsOf Try.prog 29=1:=by kernel_rfl
theorem Ty.b29:Program.bytesOf Try.prog 29=24:=by kernel_rfl
theorem Ty.a29:Program.isAggT Try.prog 29=false:=by simp only [Program.isAggT,Try.underlying29]
theorem Ty.s29:scalarT Try.prog 29=false:=by simp only [scalarT,Try.underlying29]
theorem Ty.z29:Program.zeroOf Try.prog 29=some (Value.slice none 0 0):=by kernel_rfl
def Ty.t29:=(And.intro Try.underlying29 (And.intro Ty.c29 (And.intro Ty.b29 (And.intro Ty.a29 (And.intro Ty.s29 Ty.z29)))))
theorem Ty.c32:Program.cellsOf Try.prog 32=1:=by kernel_rfl
theorem Ty.b32:Program.bytesOf Try.prog 32=24:=by kernel_rfl
theorem Ty.a32:Program.isAggT Try.prog 32=false:=by simp only [Program.isAggT,Try.underlying32]
theorem Ty.s32:scalarT Try.prog 32=false:=by simp only [scalarT,Try.underlying32]
theorem Ty.z32:Program.zeroOf Try.prog 32=some (Value.slice none 0 0):=by kernel_rfl
def Ty.t32:=(And.intro Try.underlying32 (And.intro Ty.c32 (And.intro Ty.b32 (And.intro Ty.a32 (And.intro Ty.s32 Ty.z32)))))
theorem Ty.c34:Program.cellsOf Try.prog 34=2:=by kernel_rfl
theorem Ty.b34:Program.bytesOf Try.prog 34=32:=by kernel_rfl
theorem Ty.a34:Program.isAggT Try.prog 34=true:=by simp only [Program.isAggT,Try.underlying34]
theorem Ty.s34:scalarT Try.prog 34=false:=by simp only [scalarT,Try.underlying34]
theorem Ty.z34:Program.zeroOf Try.prog 34=some (Value.agg #[Value.int .i64 0,Value.slice none 0 0]):=by kernel_rfl
def Ty.t34:=(And.intro Try.underlying34 (And.intro Ty.c34 (And.intro Ty.b34 (And.intro Ty.a34 (And.intro Ty.s34 Ty.z34)))))
theorem Ty.c36:Program.cellsOf Try.prog 36=1:=by kernel_rfl
theorem Ty.b36:Program.bytesOf Try.prog 36=24:=by kernel_rfl
theorem Ty.a36:Program.isAggT Try.prog 36=false:=by simp only [Program.isAggT,Try.underlying36]
theorem Ty.s36:scalarT Try.prog 36=false:=by simp only [scalarT,Try.underlying36]
theorem Ty.z36:Program.zeroOf Try.prog 36=some (Value.slice none 0 0):=by kernel_rfl
def Ty.t36:=(And.intro Try.underlying36 (And.intro Ty.c36 (And.intro Ty.b36 (And.intro Ty.a36 (And.intro Ty.s36 Ty.z36)))))
theorem Ty.c51:Program.cellsOf Try.prog 51=5:=by kernel_rfl
theorem Ty.b51:Program.bytesOf Try.prog 51=48:=by kernel_rfl
theorem Ty.a51:Program.isAggT Try.prog 51=true:=by simp only [Program.isAggT,Try.underlying51]
theorem Ty.s51:scalarT Try.prog 51=false:=by simp only [scalarT,Try.underlying51]
theorem Ty.z51:Program.zeroOf Try.prog 51=some (Value.agg #[Value.string .empty,Value.int .i64 0,Value.int .i64 0,Value.int .i64 0,Value.int .i64 0]):=by kernel_rfl
theorem Ty.q51:eqT Try.prog 51=some [.str,.int .i64,.int .i64,.int .i64,.int .i64]:=by kernel_rfl
def Ty.t51:=(And.intro Try.underlying51 (And.intro Ty.c51 (And.intro Ty.b51 (And.intro Ty.a51 (And.intro Ty.s51 (And.intro Ty.q51 Ty.z51))))))
theorem Ty.c57:Program.cellsOf Try.prog 57=1:=by kernel_rfl
theorem Ty.b57:Program.bytesOf Try.prog 57=24:=by kernel_rfl
theorem Ty.a57:Program.isAggT Try.prog 57=false:=by simp only [Program.isAggT,Try.underlying57]
theorem Ty.s57:scalarT Try.prog 57=false:=by simp only [scalarT,Try.underlying57]
theorem Ty.z57:Program.zeroOf Try.prog 57=some (Value.slice none 0 0):=by kernel_rfl
def Ty.t57:=(And.intro Try.underlying57 (And.intro Ty.c57 (And.intro Ty.b57 (And.intro Ty.a57 (And.intro Ty.s57 Ty.z57)))))
theorem Ty.c60:Program.cellsOf Try.prog 60=5:=by kernel_rfl
theorem Ty.b60:Program.bytesOf Try.prog 60=48:=by kernel_rfl
theorem Ty.a60:Program.isAggT Try.prog 60=true:=by simp only [Program.isAggT,Try.underlying60]
theorem Ty.s60:scalarT Try.prog 60=false:=by simp only [scalarT,Try.underlying60]
theorem Ty.z60:Program.zeroOf Try.prog 60=some (Value.agg #[Value.string .empty,Value.int .i64 0,Value.int .i64 0,Value.int .i64 0,Value.int .i64 0]):=by kernel_rfl
theorem Ty.q60:eqT Try.prog 60=some [.str,.int .i64,.int .i64,.int .i64,.int .i64]:=by kernel_rfl
def Ty.t60:=(And.intro Try.underlying60 (And.intro Ty.c60 (And.intro Ty.b60 (And.intro Ty.a60 (And.intro Ty.s60 (And.intro Ty.q60 Ty.z60))))))
theorem Ty.c63:Program.cellsOf Try.prog 63=1:=by kernel_rfl
theorem Ty.b63:Program.bytesOf Try.prog 63=8:=by kernel_rfl
theorem Ty.a63:Program.isAggT Try.prog 63=false:=by simp only [Program.isAggT,Try.underlying63]
theorem Ty.s63:scalarT Try.prog 63=false:=by simp only [scalarT,Try.underlying63]
theorem Ty.z63:Program.zeroOf Try.prog 63=some (Value.pointer none):=by kernel_rfl
def Ty.t63:=(And.intro Try.underlying63 (And.intro Ty.c63 (And.intro Ty.b63 (And.intro Ty.a63 (And.intro Ty.s63 Ty.z63)))))
theorem Ty.c66:Program.cellsOf Try.prog 66=1:=by kernel_rfl
theorem Ty.b66:Program.bytesOf Try.prog 66=24:=by kernel_rfl
theorem Ty.a66:Program.isAggT Try.prog 66=false:=by simp only [Program.isAggT,Try.underlying66]
theorem Ty.s66:scalarT Try.prog 66=false:=by simp only [scalarT,Try.underlying66]
theorem Ty.z66:Program.zeroOf Try.prog 66=some (Value.slice none 0 0):=by kernel_rfl
def Ty.t66:=(And.intro Try.underlying66 (And.intro Ty.c66 (And.intro Ty.b66 (And.intro Ty.a66 (And.intro Ty.s66 Ty.z66)))))
theorem Ty.c77:Program.cellsOf Try.prog 77=1:=by kernel_rfl
theorem Ty.b77:Program.bytesOf Try.prog 77=8:=by kernel_rfl
theorem Ty.a77:Program.isAggT Try.prog 77=false:=by simp only [Program.isAggT,Try.underlying77]
theorem Ty.s77:scalarT Try.prog 77=false:=by simp only [scalarT,Try.underlying77]
theorem Ty.z77:Program.zeroOf Try.prog 77=some (Value.nilFunc):=by kernel_rfl
def Ty.t77:=(And.intro Try.underlying77 (And.intro Ty.c77 (And.intro Ty.b77 (And.intro Ty.a77 (And.intro Ty.s77 Ty.z77)))))
theorem Ty.c79:Program.cellsOf Try.prog 79=3:=by kernel_rfl
theorem Ty.b79:Program.bytesOf Try.prog 79=24:=by kernel_rfl
theorem Ty.a79:Program.isAggT Try.prog 79=true:=by simp only [Program.isAggT,Try.underlying79]
theorem Ty.s79:scalarT Try.prog 79=false:=by simp only [scalarT,Try.underlying79]
theorem Ty.z79:Program.zeroOf Try.prog 79=some (Value.agg #[Value.int .i64 0,Value.int .i64 0,Value.int .i64 0]):=by kernel_rfl
theorem Ty.q79:eqT Try.prog 79=some [.int .i64,.int .i64,.int .i64]:=by kernel_rfl
def Ty.t79:=(And.intro Try.underlying79 (And.intro Ty.c79 (And.intro Ty.b79 (And.intro Ty.a79 (And.intro Ty.s79 (And.intro Ty.q79 Ty.z79))))))
theorem Ty.c81:Program.cellsOf Try.prog 81=3:=by kernel_rfl
theorem Ty.b81:Program.bytesOf Try.prog 81=24:=by kernel_rfl
theorem Ty.a81:Program.isAggT Try.prog 81=true:=by simp only [Program.isAggT,Try.underlying81]
theorem Ty.s81:scalarT Try.prog 81=false:=by simp only [scalarT,Try.underlying81]
theorem Ty.z81:Program.zeroOf Try.prog 81=some (Value.agg #[Value.int .i64 0,Value.int .i64 0,Value.int .i64 0]):=by kernel_rfl
theorem Ty.q81:eqT Try.prog 81=some [.int .i64,.int .i64,.int .i64]:=by kernel_rfl
def Ty.t81:=(And.intro Try.underlying81 (And.intro Ty.c81 (And.intro Ty.b81 (And.intro Ty.a81 (And.intro Ty.s81 (And.intro Ty.q81 Ty.z81))))))
theorem Ty.c86:Program.cellsOf Try.prog 86=1:=by kernel_rfl
theorem Ty.b86:Program.bytesOf Try.prog 86=8:=by kernel_rfl
theorem Ty.a86:Program.isAggT Try.prog 86=false:=by simp only [Program.isAggT,Try.underlying86]
theorem Ty.s86:scalarT Try.prog 86=false:=by simp only [scalarT,Try.underlying86]
theorem Ty.z86:Program.zeroOf Try.prog 86=some (Value.nilFunc):=by kernel_rfl
def Ty.t86:=(And.intro Try.underlying86 (And.intro Ty.c86 (And.intro Ty.b86 (And.intro Ty.a86 (And.intro Ty.s86 Ty.z86)))))
theorem Ty.c90:Program.cellsOf Try.prog 90=1:=by kernel_rfl
theorem Ty.b90:Program.bytesOf Try.prog 90=24:=by kernel_rfl
theorem Ty.a90:Program.isAggT Try.prog 90=false:=by simp only [Program.isAggT,Try.underlying90]
theorem Ty.s90:scalarT Try.prog 90=false:=by simp only [scalarT,Try.underlying90]
theorem Ty.z90:Program.zeroOf Try.prog 90=some (Value.slice none 0 0):=by kernel_rfl
def Ty.t90:=(And.intro Try.underlying90 (And.intro Ty.c90 (And.intro Ty.b90 (And.intro Ty.a90 (And.intro Ty.s90 Ty.z90)))))
theorem Ty.c92:Program.cellsOf Try.prog 92=1:=by kernel_rfl
theorem Ty.b92:Program.bytesOf Try.prog 92=24:=by kernel_rfl
theorem Ty.a92:Program.isAggT Try.prog 92=false:=by simp only [Program.isAggT,Try.underlying92]
theorem Ty.s92:scalarT Try.prog 92=false:=by simp only [scalarT,Try.underlying92]
theorem Ty.z92:Program.zeroOf Try.prog 92=some (Value.slice none 0 0):=by kernel_rfl
def Ty.t92:=(And.intro Try.underlying92 (And.intro Ty.c92 (And.intro Ty.b92 (And.intro Ty.a92 (And.intro Ty.s92 Ty.z92)))))
theorem Ty.c97:Program.cellsOf Try.prog 97=2:=by kernel_rfl
theorem Ty.b97:Program.bytesOf Try.prog 97=16:=by kernel_rfl
theorem Ty.a97:Program.isAggT Try.prog 97=true:=by simp only [Program.isAggT,Try.underlying97]
theorem Ty.s97:scalarT Try.prog 97=false:=by simp only [scalarT,Try.underlying97]
theorem Ty.z97:Program.zeroOf Try.prog 97=some (Value.agg #[Value.int .i64 0,Value.int .i64 0]):=by kernel_rfl
def Ty.t97:=(And.intro Try.underlying97 (And.intro Ty.c97 (And.intro Ty.b97 (And.intro Ty.a97 (And.intro Ty.s97 Ty.z97)))))
theorem Ty.c98:Program.cellsOf Try.prog 98=1:=by kernel_rfl
theorem Ty.b98:Program.bytesOf Try.prog 98=24:=by kernel_rfl
theorem Ty.a98:Program.isAggT Try.prog 98=false:=by simp only [Program.isAggT,Try.underlying98]
theorem Ty.s98:scalarT Try.prog 98=false:=by simp only [scalarT,Try.underlying98]
theorem Ty.z98:Program.zeroOf Try.prog 98=some (Value.slice none 0 0):=by kernel_rfl
def Ty.t98:=(And.intro Try.underlying98 (And.intro Ty.c98 (And.intro Ty.b98 (And.intro Ty.a98 (And.intro Ty.s98 Ty.z98)))))
theorem Ty.c99:Program.cellsOf Try.prog 99=4:=by kernel_rfl
theorem Ty.b99:Program.bytesOf Try.prog 99=32:=by kernel_rfl
theorem Ty.a99:Program.isAggT Try.prog 99=true:=by simp only [Program.isAggT,Try.underlying99]
theorem Ty.s99:scalarT Try.prog 99=false:=by simp only [scalarT,Try.underlying99]
theorem Ty.z99:Program.zeroOf Try.prog 99=some (Value.agg #[Value.int .i64 0,Value.int .i64 0,Value.int .i64 0,Value.int .i64 0]):=by kernel_rfl
def Ty.t99:=(And.intro Try.underlying99 (And.intro Ty.c99 (And.intro Ty.b99 (And.intro Ty.a99 (And.intro Ty.s99 Ty.z99)))))
theorem Ty.c104:Program.cellsOf Try.prog 104=1:=by kernel_rfl
theorem Ty.b104:Program.bytesOf Try.prog 104=8:=by kernel_rfl
theorem Ty.a104:Program.isAggT Try.prog 104=false:=by simp only [Program.isAggT,Try.underlying104]
theorem Ty.s104:scalarT Try.prog 104=true:=by simp only [scalarT,Try.underlying104]
theorem Ty.z104:Program.zeroOf Try.prog 104=some (Value.int .u64 0):=by kernel_rfl
def Ty.t104:=(And.intro Try.underlying104 (And.intro Ty.c104 (And.intro Ty.b104 (And.intro Ty.a104 (And.intro Ty.s104 Ty.z104)))))
end Go.Proofs.Ytmhaafinhpopmaa
