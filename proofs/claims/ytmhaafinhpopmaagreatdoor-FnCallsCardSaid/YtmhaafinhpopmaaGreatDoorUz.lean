/- Runs of short steps. No condition. -/
import Derived.Test.YtmhaafinhpopmaaGreatDoorUmG
set_option linter.unusedSimpArgs false
set_option linter.unusedVariables false
set_option linter.defProp false
namespace Go.Proofs.YtmhaafinhpopmaaGreatDoor
open Go Go.Vm
abbrev TI:=Int×Int×Bool×List ByteArray
abbrev TA:=ByteArray×Int×Int×Int×Int
abbrev TW:=Int×List Int
abbrev TS:=Int×Int×Int
theorem zq1 {A B:Prop} (b:Ho B) (e:Ho B→A:=by intro b;refine zk ⟨?_⟩;refine zr ⟨?_⟩;exact b.h):A:=e b
theorem zq2 {A B:Prop} (b:Ho B) (e:Ho B→A:=by intro b;refine zMove ⟨?_⟩;refine zMove ⟨?_⟩;exact b.h):A:=e b
theorem zq3 {A B:Prop} (b:Ho B) (e:Ho B→A:=by intro b;refine zMove ⟨?_⟩;refine zBuildSlice ⟨?_⟩;exact b.h):A:=e b
theorem zq4 {A B:Prop} (b:Ho B) (e:Ho B→A:=by intro b;refine zr ⟨?_⟩;refine zCl ⟨?_⟩;exact b.h):A:=e b
theorem zq5 {A B:Prop} (b:Ho B) (e:Ho B→A:=by intro b;refine zEl ⟨?_⟩;refine zAssign ⟨?_⟩;exact b.h):A:=e b
theorem zq6 {A B:Prop} (b:Ho B) (e:Ho B→A:=by intro b;refine zgFieldAddr ⟨?_⟩;refine zgLoad ⟨?_⟩;exact b.h):A:=e b
theorem zq7 {A B:Prop} (b:Ho B) (e:Ho B→A:=by intro b;refine zMove ⟨?_⟩;refine zq6 ⟨?_⟩;exact b.h):A:=e b
theorem zq8 {A B:Prop} (b:Ho B) (e:Ho B→A:=by intro b;refine zFieldAddr ⟨?_⟩;refine zStore ⟨?_⟩;exact b.h):A:=e b
theorem zq9 {A B:Prop} (b:Ho B) (e:Ho B→A:=by intro b;refine zPick ⟨?_⟩;refine zq7 ⟨?_⟩;exact b.h):A:=e b
end Go.Proofs.YtmhaafinhpopmaaGreatDoor
