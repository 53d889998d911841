/- Runs of short steps. No condition. -/
import Derived.Test.YtaefoaghpehbpaaGreatUmG
set_option linter.unusedSimpArgs false
set_option linter.unusedVariables false
set_option linter.defProp false
namespace Go.Proofs.YtaefoaghpehbpaaGreat
open Go Go.Vm
theorem zq1 {A B:Prop} (b:Ho B) (e:Ho B→A:=by intro b;refine zFieldAddr ⟨?_⟩;refine zLoad ⟨?_⟩;exact b.h):A:=e b
theorem zq2 {A B:Prop} (b:Ho B) (e:Ho B→A:=by intro b;refine zMove ⟨?_⟩;refine zMove ⟨?_⟩;exact b.h):A:=e b
theorem zq3 {A B:Prop} (b:Ho B) (e:Ho B→A:=by intro b;refine zBinOpW ⟨?_⟩;refine zAssign ⟨?_⟩;exact b.h):A:=e b
theorem zq4 {A B:Prop} (b:Ho B) (e:Ho B→A:=by intro b;refine zMove ⟨?_⟩;refine zq3 ⟨?_⟩;exact b.h):A:=e b
theorem zq5 {A B:Prop} (b:Ho B) (e:Ho B→A:=by intro b;refine zIndexAddr ⟨?_⟩;refine zLoad ⟨?_⟩;exact b.h):A:=e b
theorem zq6 {A B:Prop} (b:Ho B) (e:Ho B→A:=by intro b;refine zMove ⟨?_⟩;refine zAssign ⟨?_⟩;exact b.h):A:=e b
theorem zq7 {A B:Prop} (b:Ho B) (e:Ho B→A:=by intro b;refine zBinOpW ⟨?_⟩;refine zMove ⟨?_⟩;exact b.h):A:=e b
theorem zq8 {A B:Prop} (b:Ho B) (e:Ho B→A:=by intro b;refine zMove ⟨?_⟩;refine zLen ⟨?_⟩;exact b.h):A:=e b
theorem zq9 {A B:Prop} (b:Ho B) (e:Ho B→A:=by intro b;refine zMove ⟨?_⟩;refine zgMove ⟨?_⟩;exact b.h):A:=e b
theorem zq10 {A B:Prop} (b:Ho B) (e:Ho B→A:=by intro b;refine zMove ⟨?_⟩;refine zBinOp ⟨?_⟩;exact b.h):A:=e b
theorem zq11 {A B:Prop} (b:Ho B) (e:Ho B→A:=by intro b;refine zgFieldAddr ⟨?_⟩;refine zgLoad ⟨?_⟩;exact b.h):A:=e b
theorem zq12 {A B:Prop} (b:Ho B) (e:Ho B→A:=by intro b;refine zBox ⟨?_⟩;refine zAssign ⟨?_⟩;exact b.h):A:=e b
theorem zq13 {A B:Prop} (b:Ho B) (e:Ho B→A:=by intro b;refine zq2 ⟨?_⟩;refine zLen ⟨?_⟩;exact b.h):A:=e b
theorem zq14 {A B:Prop} (b:Ho B) (e:Ho B→A:=by intro b;refine zq5 ⟨?_⟩;refine zAlloc ⟨?_⟩;exact b.h):A:=e b
theorem zq15 {A B:Prop} (b:Ho B) (e:Ho B→A:=by intro b;refine zq13 ⟨?_⟩;refine zBinOp ⟨?_⟩;exact b.h):A:=e b
theorem zq16 {A B:Prop} (b:Ho B) (e:Ho B→A:=by intro b;refine zFieldAddr ⟨?_⟩;refine zStore ⟨?_⟩;exact b.h):A:=e b
theorem zq17 {A B:Prop} (b:Ho B) (e:Ho B→A:=by intro b;refine zgUnOp ⟨?_⟩;refine zPick ⟨?_⟩;exact b.h):A:=e b
theorem zq18 {A B:Prop} (b:Ho B) (e:Ho B→A:=by intro b;refine zq1 ⟨?_⟩;refine zMove ⟨?_⟩;exact b.h):A:=e b
theorem zq19 {A B:Prop} (b:Ho B) (e:Ho B→A:=by intro b;refine zq2 ⟨?_⟩;refine zMove ⟨?_⟩;exact b.h):A:=e b
theorem zq20 {A B:Prop} (b:Ho B) (e:Ho B→A:=by intro b;refine zMove ⟨?_⟩;refine zq11 ⟨?_⟩;exact b.h):A:=e b
theorem zq21 {A B:Prop} (b:Ho B) (e:Ho B→A:=by intro b;refine zgBinOp ⟨?_⟩;refine zPick ⟨?_⟩;exact b.h):A:=e b
theorem zq22 {A B:Prop} (b:Ho B) (e:Ho B→A:=by intro b;refine zq8 ⟨?_⟩;refine zMove ⟨?_⟩;exact b.h):A:=e b
theorem zq23 {A B:Prop} (b:Ho B) (e:Ho B→A:=by intro b;refine zq1 ⟨?_⟩;refine zq1 ⟨?_⟩;exact b.h):A:=e b
theorem zq24 {A B:Prop} (b:Ho B) (e:Ho B→A:=by intro b;refine zLen ⟨?_⟩;refine zMove ⟨?_⟩;exact b.h):A:=e b
theorem zq25 {A B:Prop} (b:Ho B) (e:Ho B→A:=by intro b;refine zq14 ⟨?_⟩;refine zAssign ⟨?_⟩;exact b.h):A:=e b
theorem zq26 {A B:Prop} (b:Ho B) (e:Ho B→A:=by intro b;refine zq25 ⟨?_⟩;refine zStore ⟨?_⟩;exact b.h):A:=e b
theorem zq27 {A B:Prop} (b:Ho B) (e:Ho B→A:=by intro b;refine zMove ⟨?_⟩;refine zq26 ⟨?_⟩;exact b.h):A:=e b
theorem zq28 {A B:Prop} (b:Ho B) (e:Ho B→A:=by intro b;refine zBinOp ⟨?_⟩;refine zAssign ⟨?_⟩;exact b.h):A:=e b
theorem zq29 {A B:Prop} (b:Ho B) (e:Ho B→A:=by intro b;refine zq1 ⟨?_⟩;refine zq24 ⟨?_⟩;exact b.h):A:=e b
theorem zq30 {A B:Prop} (b:Ho B) (e:Ho B→A:=by intro b;refine zq5 ⟨?_⟩;refine zAssign ⟨?_⟩;exact b.h):A:=e b
theorem zq31 {A B:Prop} (b:Ho B) (e:Ho B→A:=by intro b;refine zUnOp ⟨?_⟩;refine zq9 ⟨?_⟩;exact b.h):A:=e b
theorem zq32 {A B:Prop} (b:Ho B) (e:Ho B→A:=by intro b;refine zq23 ⟨?_⟩;refine zBinOp ⟨?_⟩;exact b.h):A:=e b
theorem zq33 {A B:Prop} (b:Ho B) (e:Ho B→A:=by intro b;refine zq14 ⟨?_⟩;refine zStore ⟨?_⟩;exact b.h):A:=e b
theorem zq34 {A B:Prop} (b:Ho B) (e:Ho B→A:=by intro b;refine zAssign ⟨?_⟩;refine zAssign ⟨?_⟩;exact b.h):A:=e b
theorem zq35 {A B:Prop} (b:Ho B) (e:Ho B→A:=by intro b;refine zq9 ⟨?_⟩;refine zgMove ⟨?_⟩;exact b.h):A:=e b
theorem zq36 {A B:Prop} (b:Ho B) (e:Ho B→A:=by intro b;refine zq1 ⟨?_⟩;refine zq16 ⟨?_⟩;exact b.h):A:=e b
theorem zq37 {A B:Prop} (b:Ho B) (e:Ho B→A:=by intro b;refine zLoad ⟨?_⟩;refine zStore ⟨?_⟩;exact b.h):A:=e b
theorem zq38 {A B:Prop} (b:Ho B) (e:Ho B→A:=by intro b;refine zBuildSlice ⟨?_⟩;refine zAssign ⟨?_⟩;exact b.h):A:=e b
theorem zq39 {A B:Prop} (b:Ho B) (e:Ho B→A:=by intro b;refine zq2 ⟨?_⟩;refine zIndexAddr ⟨?_⟩;exact b.h):A:=e b
theorem zq40 {A B:Prop} (b:Ho B) (e:Ho B→A:=by intro b;refine zMove ⟨?_⟩;refine zNilCheck ⟨?_⟩;exact b.h):A:=e b
theorem zq41 {A B:Prop} (b:Ho B) (e:Ho B→A:=by intro b;refine zq2 ⟨?_⟩;refine zBinOp ⟨?_⟩;exact b.h):A:=e b
theorem zq42 {A B:Prop} (b:Ho B) (e:Ho B→A:=by intro b;refine zq1 ⟨?_⟩;refine zq10 ⟨?_⟩;exact b.h):A:=e b
theorem zq43 {A B:Prop} (b:Ho B) (e:Ho B→A:=by intro b;refine zBox ⟨?_⟩;refine zq12 ⟨?_⟩;exact b.h):A:=e b
theorem zq44 {A B:Prop} (b:Ho B) (e:Ho B→A:=by intro b;refine zBox ⟨?_⟩;refine zAlloc ⟨?_⟩;exact b.h):A:=e b
theorem zq45 {A B:Prop} (b:Ho B) (e:Ho B→A:=by intro b;refine zq8 ⟨?_⟩;refine zBinOp ⟨?_⟩;exact b.h):A:=e b
theorem zq46 {A B:Prop} (b:Ho B) (e:Ho B→A:=by intro b;refine zPick ⟨?_⟩;refine zq20 ⟨?_⟩;exact b.h):A:=e b
theorem zq47 {A B:Prop} (b:Ho B) (e:Ho B→A:=by intro b;refine zq39 ⟨?_⟩;refine zq42 ⟨?_⟩;exact b.h):A:=e b
theorem zq48 {A B:Prop} (b:Ho B) (e:Ho B→A:=by intro b;refine zq31 ⟨?_⟩;refine zq21 ⟨?_⟩;exact b.h):A:=e b
theorem zq49 {A B:Prop} (b:Ho B) (e:Ho B→A:=by intro b;refine zq40 ⟨?_⟩;refine zq29 ⟨?_⟩;exact b.h):A:=e b
theorem zq50 {A B:Prop} (b:Ho B) (e:Ho B→A:=by intro b;refine zq19 ⟨?_⟩;refine zq5 ⟨?_⟩;exact b.h):A:=e b
theorem zq51 {A B:Prop} (b:Ho B) (e:Ho B→A:=by intro b;refine zq17 ⟨?_⟩;refine zq35 ⟨?_⟩;exact b.h):A:=e b
theorem zq52 {A B:Prop} (b:Ho B) (e:Ho B→A:=by intro b;refine zgBinOp ⟨?_⟩;refine zgPick ⟨?_⟩;exact b.h):A:=e b
theorem zq53 {A B:Prop} (b:Ho B) (e:Ho B→A:=by intro b;refine zStore ⟨?_⟩;refine zAssign ⟨?_⟩;exact b.h):A:=e b
theorem zq54 {A B:Prop} (b:Ho B) (e:Ho B→A:=by intro b;refine zLoad ⟨?_⟩;refine zMove ⟨?_⟩;exact b.h):A:=e b
theorem zq55 {A B:Prop} (b:Ho B) (e:Ho B→A:=by intro b;refine zAppend ⟨?_⟩;refine zAssign ⟨?_⟩;exact b.h):A:=e b
theorem zq56 {A B:Prop} (b:Ho B) (e:Ho B→A:=by intro b;refine zq8 ⟨?_⟩;refine zq45 ⟨?_⟩;exact b.h):A:=e b
theorem zq57 {A B:Prop} (b:Ho B) (e:Ho B→A:=by intro b;refine zq8 ⟨?_⟩;refine zMakeSlice ⟨?_⟩;exact b.h):A:=e b
theorem zq58 {A B:Prop} (b:Ho B) (e:Ho B→A:=by intro b;refine zq57 ⟨?_⟩;refine zAssign ⟨?_⟩;exact b.h):A:=e b
theorem zq59 {A B:Prop} (b:Ho B) (e:Ho B→A:=by intro b;refine zq52 ⟨?_⟩;refine zPick ⟨?_⟩;exact b.h):A:=e b
theorem zq60 {A B:Prop} (b:Ho B) (e:Ho B→A:=by intro b;refine zq51 ⟨?_⟩;refine zgIndexAddr ⟨?_⟩;exact b.h):A:=e b
theorem zq61 {A B:Prop} (b:Ho B) (e:Ho B→A:=by intro b;refine zq60 ⟨?_⟩;refine zq11 ⟨?_⟩;exact b.h):A:=e b
theorem zq62 {A B:Prop} (b:Ho B) (e:Ho B→A:=by intro b;refine zq48 ⟨?_⟩;refine zq9 ⟨?_⟩;exact b.h):A:=e b
theorem zq63 {A B:Prop} (b:Ho B) (e:Ho B→A:=by intro b;refine zq2 ⟨?_⟩;refine zq2 ⟨?_⟩;exact b.h):A:=e b
theorem zq64 {A B:Prop} (b:Ho B) (e:Ho B→A:=by intro b;refine zq17 ⟨?_⟩;refine zAssign ⟨?_⟩;exact b.h):A:=e b
theorem zq65 {A B:Prop} (b:Ho B) (e:Ho B→A:=by intro b;refine zq13 ⟨?_⟩;refine zq3 ⟨?_⟩;exact b.h):A:=e b
theorem zq66 {A B:Prop} (b:Ho B) (e:Ho B→A:=by intro b;refine zgLen ⟨?_⟩;refine zq21 ⟨?_⟩;exact b.h):A:=e b
end Go.Proofs.YtaefoaghpehbpaaGreat
