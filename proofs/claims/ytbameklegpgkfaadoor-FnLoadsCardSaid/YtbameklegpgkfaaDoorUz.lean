/- Runs of short steps. No condition. -/
import Derived.Test.YtbameklegpgkfaaDoorUmG
set_option linter.unusedSimpArgs false
set_option linter.unusedVariables false
set_option linter.defProp false
namespace Go.Proofs.YtbameklegpgkfaaDoor
open Go Go.Vm
theorem zq1 {A B:Prop} (b:Ho B) (e:Ho B→A:=by intro b;refine zAssign ⟨?_⟩;refine zAssign ⟨?_⟩;exact b.h):A:=e b
theorem zq2 {A B:Prop} (b:Ho B) (e:Ho B→A:=by intro b;refine zFieldAddr ⟨?_⟩;refine zLoad ⟨?_⟩;exact b.h):A:=e b
theorem zq3 {A B:Prop} (b:Ho B) (e:Ho B→A:=by intro b;refine zMove ⟨?_⟩;refine zMove ⟨?_⟩;exact b.h):A:=e b
theorem zq4 {A B:Prop} (b:Ho B) (e:Ho B→A:=by intro b;refine zMove ⟨?_⟩;refine zgMove ⟨?_⟩;exact b.h):A:=e b
theorem zq5 {A B:Prop} (b:Ho B) (e:Ho B→A:=by intro b;refine zMove ⟨?_⟩;refine zLen ⟨?_⟩;exact b.h):A:=e b
theorem zq6 {A B:Prop} (b:Ho B) (e:Ho B→A:=by intro b;refine zBinOpW ⟨?_⟩;refine zMove ⟨?_⟩;exact b.h):A:=e b
theorem zq7 {A B:Prop} (b:Ho B) (e:Ho B→A:=by intro b;refine zExtract ⟨?_⟩;refine zExtract ⟨?_⟩;exact b.h):A:=e b
theorem zq8 {A B:Prop} (b:Ho B) (e:Ho B→A:=by intro b;refine zgBinOp ⟨?_⟩;refine zPick ⟨?_⟩;exact b.h):A:=e b
theorem zq9 {A B:Prop} (b:Ho B) (e:Ho B→A:=by intro b;refine zMove ⟨?_⟩;refine zq7 ⟨?_⟩;exact b.h):A:=e b
theorem zq10 {A B:Prop} (b:Ho B) (e:Ho B→A:=by intro b;refine zAlloc ⟨?_⟩;refine zStore ⟨?_⟩;exact b.h):A:=e b
theorem zq11 {A B:Prop} (b:Ho B) (e:Ho B→A:=by intro b;refine zq2 ⟨?_⟩;refine zMove ⟨?_⟩;exact b.h):A:=e b
theorem zq12 {A B:Prop} (b:Ho B) (e:Ho B→A:=by intro b;refine zgUnOp ⟨?_⟩;refine zPick ⟨?_⟩;exact b.h):A:=e b
theorem zq13 {A B:Prop} (b:Ho B) (e:Ho B→A:=by intro b;refine zIndexAddr ⟨?_⟩;refine zLoad ⟨?_⟩;exact b.h):A:=e b
theorem zq14 {A B:Prop} (b:Ho B) (e:Ho B→A:=by intro b;refine zq5 ⟨?_⟩;refine zMove ⟨?_⟩;exact b.h):A:=e b
theorem zq15 {A B:Prop} (b:Ho B) (e:Ho B→A:=by intro b;refine zq4 ⟨?_⟩;refine zgMove ⟨?_⟩;exact b.h):A:=e b
theorem zq16 {A B:Prop} (b:Ho B) (e:Ho B→A:=by intro b;refine zq9 ⟨?_⟩;refine zq1 ⟨?_⟩;exact b.h):A:=e b
theorem zq17 {A B:Prop} (b:Ho B) (e:Ho B→A:=by intro b;refine zBuild ⟨?_⟩;refine zStore ⟨?_⟩;exact b.h):A:=e b
theorem zq18 {A B:Prop} (b:Ho B) (e:Ho B→A:=by intro b;refine zUnOp ⟨?_⟩;refine zq4 ⟨?_⟩;exact b.h):A:=e b
theorem zq19 {A B:Prop} (b:Ho B) (e:Ho B→A:=by intro b;refine zMove ⟨?_⟩;refine zAssign ⟨?_⟩;exact b.h):A:=e b
theorem zq20 {A B:Prop} (b:Ho B) (e:Ho B→A:=by intro b;refine zAlloc ⟨?_⟩;refine zAssign ⟨?_⟩;exact b.h):A:=e b
theorem zq21 {A B:Prop} (b:Ho B) (e:Ho B→A:=by intro b;refine zBox ⟨?_⟩;refine zAssign ⟨?_⟩;exact b.h):A:=e b
theorem zq22 {A B:Prop} (b:Ho B) (e:Ho B→A:=by intro b;refine zgFieldAddr ⟨?_⟩;refine zgLoad ⟨?_⟩;exact b.h):A:=e b
theorem zq23 {A B:Prop} (b:Ho B) (e:Ho B→A:=by intro b;refine zq13 ⟨?_⟩;refine zq10 ⟨?_⟩;exact b.h):A:=e b
theorem zq24 {A B:Prop} (b:Ho B) (e:Ho B→A:=by intro b;refine zFieldAddr ⟨?_⟩;refine zStore ⟨?_⟩;exact b.h):A:=e b
theorem zq25 {A B:Prop} (b:Ho B) (e:Ho B→A:=by intro b;refine zBinOpW ⟨?_⟩;refine zAssign ⟨?_⟩;exact b.h):A:=e b
theorem zq26 {A B:Prop} (b:Ho B) (e:Ho B→A:=by intro b;refine zMove ⟨?_⟩;refine zBinOp ⟨?_⟩;exact b.h):A:=e b
theorem zq27 {A B:Prop} (b:Ho B) (e:Ho B→A:=by intro b;refine zStore ⟨?_⟩;refine zAssign ⟨?_⟩;exact b.h):A:=e b
theorem zq28 {A B:Prop} (b:Ho B) (e:Ho B→A:=by intro b;refine zBinOp ⟨?_⟩;refine zAssign ⟨?_⟩;exact b.h):A:=e b
theorem zq29 {A B:Prop} (b:Ho B) (e:Ho B→A:=by intro b;refine zAppend ⟨?_⟩;refine zAssign ⟨?_⟩;exact b.h):A:=e b
theorem zq30 {A B:Prop} (b:Ho B) (e:Ho B→A:=by intro b;refine zq15 ⟨?_⟩;refine zq8 ⟨?_⟩;exact b.h):A:=e b
theorem zq31 {A B:Prop} (b:Ho B) (e:Ho B→A:=by intro b;refine zMove ⟨?_⟩;refine zq2 ⟨?_⟩;exact b.h):A:=e b
theorem zq32 {A B:Prop} (b:Ho B) (e:Ho B→A:=by intro b;refine zMove ⟨?_⟩;refine zq13 ⟨?_⟩;exact b.h):A:=e b
theorem zq33 {A B:Prop} (b:Ho B) (e:Ho B→A:=by intro b;refine zLoad ⟨?_⟩;refine zq3 ⟨?_⟩;exact b.h):A:=e b
theorem zq34 {A B:Prop} (b:Ho B) (e:Ho B→A:=by intro b;refine zBox ⟨?_⟩;refine zAlloc ⟨?_⟩;exact b.h):A:=e b
theorem zq35 {A B:Prop} (b:Ho B) (e:Ho B→A:=by intro b;refine zBuildSlice ⟨?_⟩;refine zq29 ⟨?_⟩;exact b.h):A:=e b
theorem zq36 {A B:Prop} (b:Ho B) (e:Ho B→A:=by intro b;refine zq9 ⟨?_⟩;refine zExtract ⟨?_⟩;exact b.h):A:=e b
theorem zq37 {A B:Prop} (b:Ho B) (e:Ho B→A:=by intro b;refine zq32 ⟨?_⟩;refine zq20 ⟨?_⟩;exact b.h):A:=e b
theorem zq38 {A B:Prop} (b:Ho B) (e:Ho B→A:=by intro b;refine zq37 ⟨?_⟩;refine zStore ⟨?_⟩;exact b.h):A:=e b
theorem zq39 {A B:Prop} (b:Ho B) (e:Ho B→A:=by intro b;refine zq17 ⟨?_⟩;refine zq27 ⟨?_⟩;exact b.h):A:=e b
theorem zq40 {A B:Prop} (b:Ho B) (e:Ho B→A:=by intro b;refine zgLen ⟨?_⟩;refine zq8 ⟨?_⟩;exact b.h):A:=e b
theorem zq41 {A B:Prop} (b:Ho B) (e:Ho B→A:=by intro b;refine zMove ⟨?_⟩;refine zq1 ⟨?_⟩;exact b.h):A:=e b
theorem zq42 {A B:Prop} (b:Ho B) (e:Ho B→A:=by intro b;refine zBuild ⟨?_⟩;refine zq39 ⟨?_⟩;exact b.h):A:=e b
theorem zq43 {A B:Prop} (b:Ho B) (e:Ho B→A:=by intro b;refine zBox ⟨?_⟩;refine zq1 ⟨?_⟩;exact b.h):A:=e b
theorem zq44 {A B:Prop} (b:Ho B) (e:Ho B→A:=by intro b;refine zq22 ⟨?_⟩;refine zgMove ⟨?_⟩;exact b.h):A:=e b
theorem zq45 {A B:Prop} (b:Ho B) (e:Ho B→A:=by intro b;refine zq17 ⟨?_⟩;refine zq1 ⟨?_⟩;exact b.h):A:=e b
theorem zq46 {A B:Prop} (b:Ho B) (e:Ho B→A:=by intro b;refine zLen ⟨?_⟩;refine zMove ⟨?_⟩;exact b.h):A:=e b
theorem zq47 {A B:Prop} (b:Ho B) (e:Ho B→A:=by intro b;refine zq36 ⟨?_⟩;refine zq10 ⟨?_⟩;exact b.h):A:=e b
theorem zq48 {A B:Prop} (b:Ho B) (e:Ho B→A:=by intro b;refine zq47 ⟨?_⟩;refine zq1 ⟨?_⟩;exact b.h):A:=e b
theorem zq49 {A B:Prop} (b:Ho B) (e:Ho B→A:=by intro b;refine zq2 ⟨?_⟩;refine zBinOp ⟨?_⟩;exact b.h):A:=e b
theorem zq50 {A B:Prop} (b:Ho B) (e:Ho B→A:=by intro b;refine zq18 ⟨?_⟩;refine zq40 ⟨?_⟩;exact b.h):A:=e b
theorem zq51 {A B:Prop} (b:Ho B) (e:Ho B→A:=by intro b;refine zMove ⟨?_⟩;refine zgLoad ⟨?_⟩;exact b.h):A:=e b
theorem zq52 {A B:Prop} (b:Ho B) (e:Ho B→A:=by intro b;refine zBinOp ⟨?_⟩;refine zq15 ⟨?_⟩;exact b.h):A:=e b
theorem zq53 {A B:Prop} (b:Ho B) (e:Ho B→A:=by intro b;refine zq44 ⟨?_⟩;refine zq8 ⟨?_⟩;exact b.h):A:=e b
theorem zq54 {A B:Prop} (b:Ho B) (e:Ho B→A:=by intro b;refine zq3 ⟨?_⟩;refine zLen ⟨?_⟩;exact b.h):A:=e b
theorem zq55 {A B:Prop} (b:Ho B) (e:Ho B→A:=by intro b;refine zq3 ⟨?_⟩;refine zIndexAddr ⟨?_⟩;exact b.h):A:=e b
theorem zq56 {A B:Prop} (b:Ho B) (e:Ho B→A:=by intro b;refine zq3 ⟨?_⟩;refine zBinOp ⟨?_⟩;exact b.h):A:=e b
theorem zq57 {A B:Prop} (b:Ho B) (e:Ho B→A:=by intro b;refine zq17 ⟨?_⟩;refine zAssign ⟨?_⟩;exact b.h):A:=e b
theorem zq58 {A B:Prop} (b:Ho B) (e:Ho B→A:=by intro b;refine zgIndexAddr ⟨?_⟩;refine zq53 ⟨?_⟩;exact b.h):A:=e b
theorem zq59 {A B:Prop} (b:Ho B) (e:Ho B→A:=by intro b;refine zMove ⟨?_⟩;refine zUnOp ⟨?_⟩;exact b.h):A:=e b
theorem zq60 {A B:Prop} (b:Ho B) (e:Ho B→A:=by intro b;refine zMove ⟨?_⟩;refine zBuildSlice ⟨?_⟩;exact b.h):A:=e b
theorem zq61 {A B:Prop} (b:Ho B) (e:Ho B→A:=by intro b;refine zBox ⟨?_⟩;refine zq20 ⟨?_⟩;exact b.h):A:=e b
end Go.Proofs.YtbameklegpgkfaaDoor
