/- Runs of short steps. No condition. -/
import Derived.Test.YtaefoaghpehbpaaGreatUmG
set_option linter.unusedSimpArgs false
set_option linter.unusedVariables false
set_option linter.defProp false
namespace Go.Proofs.YtaefoaghpehbpaaGreat
open Go Go.Vm
abbrev TI:=Int×Int×Bool×List ByteArray
abbrev TA:=ByteArray×Int×Int×Int×Int
abbrev TW:=Int×List Int
abbrev TS:=Int×Int×Int
theorem zq1 {A B:Prop} (b:Ho B) (e:Ho B→A:=by intro b;refine zk ⟨?_⟩;refine zr ⟨?_⟩;exact b.h):A:=e b
theorem zq2 {A B:Prop} (b:Ho B) (e:Ho B→A:=by intro b;refine c7t ⟨?_⟩;refine f0t ⟨?_⟩;exact b.h):A:=e b
theorem zq3 {A B:Prop} (b:Ho B) (e:Ho B→A:=by intro b;refine zr ⟨?_⟩;refine zCl ⟨?_⟩;exact b.h):A:=e b
theorem zq4 {A B:Prop} (b:Ho B) (e:Ho B→A:=by intro b;refine b6n ⟨?_⟩;refine zq2 ⟨?_⟩;exact b.h):A:=e b
theorem zq5 {A B:Prop} (b:Ho B) (e:Ho B→A:=by intro b;refine b6n ⟨?_⟩;refine b6n ⟨?_⟩;exact b.h):A:=e b
theorem zq6 {A B:Prop} (b:Ho B) (e:Ho B→A:=by intro b;refine c81 ⟨?_⟩;refine zq4 ⟨?_⟩;exact b.h):A:=e b
theorem zq7 {A B:Prop} (b:Ho B) (e:Ho B→A:=by intro b;refine c00 ⟨?_⟩;refine d5j ⟨?_⟩;exact b.h):A:=e b
theorem zq8 {A B:Prop} (b:Ho B) (e:Ho B→A:=by intro b;refine zq1 ⟨?_⟩;refine zCl ⟨?_⟩;exact b.h):A:=e b
theorem zq9 {A B:Prop} (b:Ho B) (e:Ho B→A:=by intro b;refine zq7 ⟨?_⟩;refine b6n ⟨?_⟩;exact b.h):A:=e b
theorem f8j {A B:Prop} (b:Ho B) (e:Ho B→A:=by intro b;refine zq5 ⟨?_⟩;refine b6a ⟨?_⟩;exact b.h):A:=e b
theorem f6m {A B:Prop} (b:Ho B) (e:Ho B→A:=by intro b;refine f8j ⟨?_⟩;refine zq9 ⟨?_⟩;exact b.h):A:=e b
end Go.Proofs.YtaefoaghpehbpaaGreat
