/- What functions compute. No condition. -/
import Derived.Test.YtmhaafinhpopmaaGreatDoorX10
import Derived.Test.YtmhaafinhpopmaaGreatDoorX3
set_option linter.unusedSimpArgs false
set_option linter.unusedVariables false
set_option linter.defProp false
namespace Go.Proofs.YtmhaafinhpopmaaGreatDoor
open Go Go.Vm
set_option maxHeartbeats 8000000
inductive Conn (r:Nat→Nat→Bool) (n:Nat):Nat→Nat→Prop
  | refl (i:Nat):Conn r n i i
  | step {i j k:Nat} (hi:i < n) (hj:j < n) (h:r i j=true) (t:Conn r n j k):Conn r n i k
theorem Conn.trans {r:Nat→Nat→Bool} {n i j k:Nat} (h:Conn r n i j) (t:Conn r n j k):Conn r n i k:=by
  induction h with
  | refl=>exact t
  | step h1 h2 h3 _ ih=>exact .step h1 h2 h3 (ih t)
theorem Conn.symm {r:Nat→Nat→Bool} {n i j:Nat} (hs:∀i j,r i j=r j i) (h:Conn r n i j):Conn r n j i:=by
  induction h with
  | refl=>exact .refl _
  | step h1 h2 h3 _ ih=>exact ih.trans (.step h2 h1 (by rw [hs];exact h3) (.refl _))
section
variable {r:Nat→Nat→Bool} {n:Nat}
def MLe (m' m:List Int):Prop:=∀k,m'.getD k 0≤m.getD k 0
end
section
variable {rl:Nat→Nat→Bool} {n:Nat}
end
end Go.Proofs.YtmhaafinhpopmaaGreatDoor
