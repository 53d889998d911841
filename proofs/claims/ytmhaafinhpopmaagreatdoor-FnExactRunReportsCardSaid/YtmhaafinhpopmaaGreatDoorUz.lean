/- Runs of short steps. No condition. -/
import Derived.Test.YtmhaafinhpopmaaGreatDoorUmG
set_option linter.unusedSimpArgs false
set_option linter.unusedVariables false
set_option linter.defProp false
namespace Go.Proofs.YtmhaafinhpopmaaGreatDoor
open Go Go.Vm
abbrev TI:=Int×Int×Bool×List ByteArray
abbrev TA:=ByteArray×Int×Int×Int×Int
abbrev TW:=Int×List Int
abbrev TS:=Int×Int×Int
theorem zq1 {A B:Prop} (b:Ho B) (e:Ho B→A:=by intro b;refine zr ⟨?_⟩;refine zCl ⟨?_⟩;exact b.h):A:=e b
theorem zq2 {A B:Prop} (b:Ho B) (e:Ho B→A:=by intro b;refine zPick ⟨?_⟩;refine zMove ⟨?_⟩;exact b.h):A:=e b
theorem zq3 {A B:Prop} (b:Ho B) (e:Ho B→A:=by intro b;refine zgFieldAddr ⟨?_⟩;refine zgLoad ⟨?_⟩;exact b.h):A:=e b
theorem zq4 {A B:Prop} (b:Ho B) (e:Ho B→A:=by intro b;refine zMove ⟨?_⟩;refine zMove ⟨?_⟩;exact b.h):A:=e b
theorem zq5 {A B:Prop} (b:Ho B) (e:Ho B→A:=by intro b;refine zk ⟨?_⟩;refine zq1 ⟨?_⟩;exact b.h):A:=e b
theorem zq6 {A B:Prop} (b:Ho B) (e:Ho B→A:=by intro b;refine zq2 ⟨?_⟩;refine zgMove ⟨?_⟩;exact b.h):A:=e b
theorem zq7 {A B:Prop} (b:Ho B) (e:Ho B→A:=by intro b;refine zq2 ⟨?_⟩;refine zq3 ⟨?_⟩;exact b.h):A:=e b
theorem zq8 {A B:Prop} (b:Ho B) (e:Ho B→A:=by intro b;refine zUnOp ⟨?_⟩;refine zMove ⟨?_⟩;exact b.h):A:=e b
theorem zq9 {A B:Prop} (b:Ho B) (e:Ho B→A:=by intro b;refine zFieldAddr ⟨?_⟩;refine zLoad ⟨?_⟩;exact b.h):A:=e b
theorem zq10 {A B:Prop} (b:Ho B) (e:Ho B→A:=by intro b;refine zq8 ⟨?_⟩;refine zgMove ⟨?_⟩;exact b.h):A:=e b
theorem zq11 {A B:Prop} (b:Ho B) (e:Ho B→A:=by intro b;refine zq6 ⟨?_⟩;refine zgMove ⟨?_⟩;exact b.h):A:=e b
theorem zq12 {A B:Prop} (b:Ho B) (e:Ho B→A:=by intro b;refine zq11 ⟨?_⟩;refine zgIndexAddr ⟨?_⟩;exact b.h):A:=e b
theorem zq13 {A B:Prop} (b:Ho B) (e:Ho B→A:=by intro b;refine zq12 ⟨?_⟩;refine zq3 ⟨?_⟩;exact b.h):A:=e b
theorem zq14 {A B:Prop} (b:Ho B) (e:Ho B→A:=by intro b;refine zq10 ⟨?_⟩;refine zgBinOp ⟨?_⟩;exact b.h):A:=e b
theorem zq15 {A B:Prop} (b:Ho B) (e:Ho B→A:=by intro b;refine zq14 ⟨?_⟩;refine zq6 ⟨?_⟩;exact b.h):A:=e b
theorem zq16 {A B:Prop} (b:Ho B) (e:Ho B→A:=by intro b;refine zgUnOp ⟨?_⟩;refine zq13 ⟨?_⟩;exact b.h):A:=e b
theorem zq17 {A B:Prop} (b:Ho B) (e:Ho B→A:=by intro b;refine zgUnOp ⟨?_⟩;refine zPick ⟨?_⟩;exact b.h):A:=e b
end Go.Proofs.YtmhaafinhpopmaaGreatDoor
