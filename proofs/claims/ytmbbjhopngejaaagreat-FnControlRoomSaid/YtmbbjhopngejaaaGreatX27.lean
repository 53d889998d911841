/- What functions compute. No condition. -/
import Derived.Test.YtmbbjhopngejaaaGreatX26
set_option linter.all false
namespace Go.Proofs.YtmbbjhopngejaaaGreat
open Go Go.Vm
set_option maxHeartbeats 8000000
structure SzC (fl:List TA) (ins:List TI) (ws:List TW):Prop where
  hl:fl.length≤1048576
  hls:∀t∈fl,t.1.size≤9223372036854775807
  hil:ins.length≤1048576
  hin:∀x∈ins,x.2.2.2.length≤1048576
  his:∀x∈ins,∀s∈x.2.2.2,s.size≤9223372036854775807
  hwl:ws.length≤1048576
  hwn:∀x∈ws,x.2.length≤1048576
theorem SzC.of {fl:List TA} {ins:List TI} {ws:List TW} (h:CtQ fl ins ws):SzC fl ins ws:=by
  obtain ⟨⟨q1,q2⟩,⟨q3,q4,q5⟩,q6,q7⟩:=h;exact ⟨by omega,fun t h=>by have:=q2 t h;omega,by omega,fun x h=>by have:=q4 x h;omega,fun x h s hs=>by have:=q5 x h s hs;omega,by omega,fun x h=>by have:=q7 x h;omega⟩
theorem SzC.no:SzC [] [] []:=⟨by simp,by simp,by simp,by simp,by simp,by simp,by simp⟩
theorem SzC.or {b:Bool} {fl:List TA} {ins:List TI} {ws:List TW} (h:b=true→CtQ fl ins ws):SzC (b3r b fl) (b3r b ins) (b3r b ws):=by
  cases b with
  | true=>exact SzC.of (h rfl)
  | false=>exact SzC.no
theorem d9o {α:Type} {b:Bool} {l:List α} {n:Nat} (h:l.length≤n):(b3r b l).length≤n:=by
  cases b with
  | true=>exact h
  | false=>exact qle _
end Go.Proofs.YtmbbjhopngejaaaGreat
