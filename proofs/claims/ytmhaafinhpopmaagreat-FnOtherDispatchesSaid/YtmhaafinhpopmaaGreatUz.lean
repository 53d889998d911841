/- Runs of short steps. No condition. -/
import Derived.Test.YtmhaafinhpopmaaGreatUmG
set_option linter.unusedSimpArgs false
set_option linter.unusedVariables false
set_option linter.defProp false
namespace Go.Proofs.YtmhaafinhpopmaaGreat
open Go Go.Vm
abbrev TI:=Int×Int×Bool×List ByteArray
abbrev TA:=ByteArray×Int×Int×Int×Int
abbrev TW:=Int×List Int
abbrev TS:=Int×Int×Int
theorem tyk {T:TyG} {dl:List Nat} (h:TyOK T dl:=by
  intro O O2 g g2 hk hg;repeat' first
    | exact id
    | exact fun e=>(hg _ (by decide)).trans e
    | exact fun ⟨n,b⟩=>⟨n,hk _ _ n b⟩
    | refine Exists.imp fun _=> ?_
    | refine And.imp ?_ ?_):TyOK T dl:=h
theorem tyks {l:List TyG} {ds:List (List Nat)} (h:TyOKs l ds:=by
  repeat' first
    | exact trivial
    | refine ⟨?_,?_⟩
    | exact tYes_ok
    | exact tyk):TyOKs l ds:=h
theorem zq1 {A B:Prop} (b:Ho B) (e:Ho B→A:=by intro b;refine zk ⟨?_⟩;refine zr ⟨?_⟩;exact b.h):A:=e b
theorem zq2 {A B:Prop} (b:Ho B) (e:Ho B→A:=by intro b;refine zMove ⟨?_⟩;refine zMove ⟨?_⟩;exact b.h):A:=e b
theorem zq3 {A B:Prop} (b:Ho B) (e:Ho B→A:=by intro b;refine zr ⟨?_⟩;refine zCl ⟨?_⟩;exact b.h):A:=e b
theorem zq4 {A B:Prop} (b:Ho B) (e:Ho B→A:=by intro b;refine zMove ⟨?_⟩;refine zBuildSlice ⟨?_⟩;exact b.h):A:=e b
theorem zq5 {A B:Prop} (b:Ho B) (e:Ho B→A:=by intro b;refine zExtract ⟨?_⟩;refine zExtract ⟨?_⟩;exact b.h):A:=e b
theorem zq6 {A B:Prop} (b:Ho B) (e:Ho B→A:=by intro b;refine zAlloc ⟨?_⟩;refine zStore ⟨?_⟩;exact b.h):A:=e b
theorem zq7 {A B:Prop} (b:Ho B) (e:Ho B→A:=by intro b;refine zEl ⟨?_⟩;refine zMove ⟨?_⟩;exact b.h):A:=e b
theorem zq8 {A B:Prop} (b:Ho B) (e:Ho B→A:=by intro b;refine zgFieldAddr ⟨?_⟩;refine zgLoad ⟨?_⟩;exact b.h):A:=e b
theorem zq9 {A B:Prop} (b:Ho B) (e:Ho B→A:=by intro b;refine zPick ⟨?_⟩;refine zMove ⟨?_⟩;exact b.h):A:=e b
theorem zq10 {A B:Prop} (b:Ho B) (e:Ho B→A:=by intro b;refine zMove ⟨?_⟩;refine zLen ⟨?_⟩;exact b.h):A:=e b
theorem zq11 {A B:Prop} (b:Ho B) (e:Ho B→A:=by intro b;refine zAssign ⟨?_⟩;refine zAssign ⟨?_⟩;exact b.h):A:=e b
theorem zq12 {A B:Prop} (b:Ho B) (e:Ho B→A:=by intro b;refine zq9 ⟨?_⟩;refine zq8 ⟨?_⟩;exact b.h):A:=e b
theorem zq13 {A B:Prop} (b:Ho B) (e:Ho B→A:=by intro b;refine zEl ⟨?_⟩;refine zAssign ⟨?_⟩;exact b.h):A:=e b
end Go.Proofs.YtmhaafinhpopmaaGreat
