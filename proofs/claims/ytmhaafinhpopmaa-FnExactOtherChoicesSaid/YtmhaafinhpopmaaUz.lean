/- Runs of short steps. No condition. -/
import Derived.Test.YtmhaafinhpopmaaUmG
set_option linter.unusedSimpArgs false
set_option linter.unusedVariables false
set_option linter.defProp false
namespace Go.Proofs.Ytmhaafinhpopmaa
open Go Go.Vm
abbrev TI:=Int×Int×Bool×List ByteArray
abbrev TA:=ByteArray×Int×Int×Int×Int
abbrev TW:=Int×List Int
abbrev TS:=Int×Int×Int
theorem zq1 {A B:Prop} (b:Ho B) (e:Ho B→A:=by intro b;refine zk ⟨?_⟩;refine zr ⟨?_⟩;exact b.h):A:=e b
theorem zq2 {A B:Prop} (b:Ho B) (e:Ho B→A:=by intro b;refine zgFieldAddr ⟨?_⟩;refine zgLoad ⟨?_⟩;exact b.h):A:=e b
theorem zq3 {A B:Prop} (b:Ho B) (e:Ho B→A:=by intro b;refine zPick ⟨?_⟩;refine zMove ⟨?_⟩;exact b.h):A:=e b
theorem zq4 {A B:Prop} (b:Ho B) (e:Ho B→A:=by intro b;refine zq3 ⟨?_⟩;refine zq2 ⟨?_⟩;exact b.h):A:=e b
end Go.Proofs.Ytmhaafinhpopmaa
