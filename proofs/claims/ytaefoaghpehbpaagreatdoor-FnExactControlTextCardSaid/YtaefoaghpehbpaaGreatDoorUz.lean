/- Runs of short steps. No condition. -/
import Derived.Test.YtaefoaghpehbpaaGreatDoorUmG
set_option linter.unusedSimpArgs false
set_option linter.unusedVariables false
set_option linter.defProp false
namespace Go.Proofs.YtaefoaghpehbpaaGreatDoor
open Go Go.Vm
theorem zq1 {A B:Prop} (b:Ho B) (e:Ho B→A:=by intro b;refine zFieldAddr ⟨?_⟩;refine zLoad ⟨?_⟩;exact b.h):A:=e b
theorem zq2 {A B:Prop} (b:Ho B) (e:Ho B→A:=by intro b;refine zMove ⟨?_⟩;refine zMove ⟨?_⟩;exact b.h):A:=e b
theorem zq3 {A B:Prop} (b:Ho B) (e:Ho B→A:=by intro b;refine zBinOpW ⟨?_⟩;refine zAssign ⟨?_⟩;exact b.h):A:=e b
theorem zq4 {A B:Prop} (b:Ho B) (e:Ho B→A:=by intro b;refine zIndexAddr ⟨?_⟩;refine zLoad ⟨?_⟩;exact b.h):A:=e b
theorem zq5 {A B:Prop} (b:Ho B) (e:Ho B→A:=by intro b;refine zBinOpW ⟨?_⟩;refine zMove ⟨?_⟩;exact b.h):A:=e b
theorem zq6 {A B:Prop} (b:Ho B) (e:Ho B→A:=by intro b;refine zMove ⟨?_⟩;refine zq3 ⟨?_⟩;exact b.h):A:=e b
theorem zq7 {A B:Prop} (b:Ho B) (e:Ho B→A:=by intro b;refine zLen ⟨?_⟩;refine zMove ⟨?_⟩;exact b.h):A:=e b
theorem zq8 {A B:Prop} (b:Ho B) (e:Ho B→A:=by intro b;refine zMove ⟨?_⟩;refine zAssign ⟨?_⟩;exact b.h):A:=e b
theorem zq9 {A B:Prop} (b:Ho B) (e:Ho B→A:=by intro b;refine zBox ⟨?_⟩;refine zAssign ⟨?_⟩;exact b.h):A:=e b
theorem zq10 {A B:Prop} (b:Ho B) (e:Ho B→A:=by intro b;refine zgFieldAddr ⟨?_⟩;refine zgLoad ⟨?_⟩;exact b.h):A:=e b
theorem zq11 {A B:Prop} (b:Ho B) (e:Ho B→A:=by intro b;refine zLen ⟨?_⟩;refine zBinOp ⟨?_⟩;exact b.h):A:=e b
theorem zq12 {A B:Prop} (b:Ho B) (e:Ho B→A:=by intro b;refine zq4 ⟨?_⟩;refine zAlloc ⟨?_⟩;exact b.h):A:=e b
theorem zq13 {A B:Prop} (b:Ho B) (e:Ho B→A:=by intro b;refine zMove ⟨?_⟩;refine zBinOp ⟨?_⟩;exact b.h):A:=e b
theorem zq14 {A B:Prop} (b:Ho B) (e:Ho B→A:=by intro b;refine zq2 ⟨?_⟩;refine zq11 ⟨?_⟩;exact b.h):A:=e b
theorem zq15 {A B:Prop} (b:Ho B) (e:Ho B→A:=by intro b;refine zMove ⟨?_⟩;refine zq7 ⟨?_⟩;exact b.h):A:=e b
theorem zq16 {A B:Prop} (b:Ho B) (e:Ho B→A:=by intro b;refine zMove ⟨?_⟩;refine zq10 ⟨?_⟩;exact b.h):A:=e b
theorem zq17 {A B:Prop} (b:Ho B) (e:Ho B→A:=by intro b;refine zMove ⟨?_⟩;refine zgMove ⟨?_⟩;exact b.h):A:=e b
theorem zq18 {A B:Prop} (b:Ho B) (e:Ho B→A:=by intro b;refine zq1 ⟨?_⟩;refine zq7 ⟨?_⟩;exact b.h):A:=e b
theorem zq19 {A B:Prop} (b:Ho B) (e:Ho B→A:=by intro b;refine zq1 ⟨?_⟩;refine zq1 ⟨?_⟩;exact b.h):A:=e b
theorem zq20 {A B:Prop} (b:Ho B) (e:Ho B→A:=by intro b;refine zq2 ⟨?_⟩;refine zMove ⟨?_⟩;exact b.h):A:=e b
theorem zq21 {A B:Prop} (b:Ho B) (e:Ho B→A:=by intro b;refine zq12 ⟨?_⟩;refine zAssign ⟨?_⟩;exact b.h):A:=e b
theorem zq22 {A B:Prop} (b:Ho B) (e:Ho B→A:=by intro b;refine zq21 ⟨?_⟩;refine zStore ⟨?_⟩;exact b.h):A:=e b
theorem zq23 {A B:Prop} (b:Ho B) (e:Ho B→A:=by intro b;refine zMove ⟨?_⟩;refine zq22 ⟨?_⟩;exact b.h):A:=e b
theorem zq24 {A B:Prop} (b:Ho B) (e:Ho B→A:=by intro b;refine zFieldAddr ⟨?_⟩;refine zStore ⟨?_⟩;exact b.h):A:=e b
theorem zq25 {A B:Prop} (b:Ho B) (e:Ho B→A:=by intro b;refine zq4 ⟨?_⟩;refine zAssign ⟨?_⟩;exact b.h):A:=e b
theorem zq26 {A B:Prop} (b:Ho B) (e:Ho B→A:=by intro b;refine zq1 ⟨?_⟩;refine zMove ⟨?_⟩;exact b.h):A:=e b
theorem zq27 {A B:Prop} (b:Ho B) (e:Ho B→A:=by intro b;refine zq19 ⟨?_⟩;refine zBinOp ⟨?_⟩;exact b.h):A:=e b
theorem zq28 {A B:Prop} (b:Ho B) (e:Ho B→A:=by intro b;refine zPick ⟨?_⟩;refine zq16 ⟨?_⟩;exact b.h):A:=e b
theorem zq29 {A B:Prop} (b:Ho B) (e:Ho B→A:=by intro b;refine zPick ⟨?_⟩;refine zAssign ⟨?_⟩;exact b.h):A:=e b
theorem zq30 {A B:Prop} (b:Ho B) (e:Ho B→A:=by intro b;refine zq1 ⟨?_⟩;refine zq24 ⟨?_⟩;exact b.h):A:=e b
theorem zq31 {A B:Prop} (b:Ho B) (e:Ho B→A:=by intro b;refine zq12 ⟨?_⟩;refine zStore ⟨?_⟩;exact b.h):A:=e b
theorem zq32 {A B:Prop} (b:Ho B) (e:Ho B→A:=by intro b;refine zBox ⟨?_⟩;refine zq9 ⟨?_⟩;exact b.h):A:=e b
theorem zq33 {A B:Prop} (b:Ho B) (e:Ho B→A:=by intro b;refine zgMove ⟨?_⟩;refine zgBinOp ⟨?_⟩;exact b.h):A:=e b
theorem zq34 {A B:Prop} (b:Ho B) (e:Ho B→A:=by intro b;refine zq2 ⟨?_⟩;refine zBinOp ⟨?_⟩;exact b.h):A:=e b
theorem zq35 {A B:Prop} (b:Ho B) (e:Ho B→A:=by intro b;refine zgLen ⟨?_⟩;refine zgBinOp ⟨?_⟩;exact b.h):A:=e b
theorem zq36 {A B:Prop} (b:Ho B) (e:Ho B→A:=by intro b;refine zMove ⟨?_⟩;refine zLen ⟨?_⟩;exact b.h):A:=e b
theorem zq37 {A B:Prop} (b:Ho B) (e:Ho B→A:=by intro b;refine zLen ⟨?_⟩;refine zq3 ⟨?_⟩;exact b.h):A:=e b
theorem zq38 {A B:Prop} (b:Ho B) (e:Ho B→A:=by intro b;refine zUnOp ⟨?_⟩;refine zq17 ⟨?_⟩;exact b.h):A:=e b
theorem zq39 {A B:Prop} (b:Ho B) (e:Ho B→A:=by intro b;refine zMove ⟨?_⟩;refine zq25 ⟨?_⟩;exact b.h):A:=e b
theorem zq40 {A B:Prop} (b:Ho B) (e:Ho B→A:=by intro b;refine zMove ⟨?_⟩;refine zq11 ⟨?_⟩;exact b.h):A:=e b
theorem zq41 {A B:Prop} (b:Ho B) (e:Ho B→A:=by intro b;refine zq39 ⟨?_⟩;refine zAssign ⟨?_⟩;exact b.h):A:=e b
theorem zq42 {A B:Prop} (b:Ho B) (e:Ho B→A:=by intro b;refine zq36 ⟨?_⟩;refine zMakeSlice ⟨?_⟩;exact b.h):A:=e b
theorem zq43 {A B:Prop} (b:Ho B) (e:Ho B→A:=by intro b;refine zq42 ⟨?_⟩;refine zAssign ⟨?_⟩;exact b.h):A:=e b
theorem zq44 {A B:Prop} (b:Ho B) (e:Ho B→A:=by intro b;refine zq2 ⟨?_⟩;refine zq37 ⟨?_⟩;exact b.h):A:=e b
theorem zq45 {A B:Prop} (b:Ho B) (e:Ho B→A:=by intro b;refine zq2 ⟨?_⟩;refine zq2 ⟨?_⟩;exact b.h):A:=e b
theorem zq46 {A B:Prop} (b:Ho B) (e:Ho B→A:=by intro b;refine zq15 ⟨?_⟩;refine zq11 ⟨?_⟩;exact b.h):A:=e b
theorem zq47 {A B:Prop} (b:Ho B) (e:Ho B→A:=by intro b;refine zgUnOp ⟨?_⟩;refine zq29 ⟨?_⟩;exact b.h):A:=e b
theorem zq48 {A B:Prop} (b:Ho B) (e:Ho B→A:=by intro b;refine zMove ⟨?_⟩;refine zNilCheck ⟨?_⟩;exact b.h):A:=e b
theorem zq49 {A B:Prop} (b:Ho B) (e:Ho B→A:=by intro b;refine zLoad ⟨?_⟩;refine zStore ⟨?_⟩;exact b.h):A:=e b
theorem zq50 {A B:Prop} (b:Ho B) (e:Ho B→A:=by intro b;refine zBox ⟨?_⟩;refine zAlloc ⟨?_⟩;exact b.h):A:=e b
end Go.Proofs.YtaefoaghpehbpaaGreatDoor
