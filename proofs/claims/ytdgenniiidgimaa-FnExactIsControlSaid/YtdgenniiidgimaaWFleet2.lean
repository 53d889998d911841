/- What functions compute (Fleet2). No condition. -/
import Derived.Test.YtdgenniiidgimaaTy
import Derived.Test.YtdgenniiidgimaaVmG
import Derived.Test.YtdgenniiidgimaaWFleet
set_option linter.unusedSimpArgs false
set_option linter.unusedVariables false
set_option linter.defProp false
namespace Go.Proofs.Ytdgenniiidgimaa
open Go Go.Vm

def crewMin (k : Int) : Int := if k = 0 then 4 else if k = 1 then 2 else if k = 2 then 3 else 2
def availB (x : (ByteArray × Int × Int × Int × Int)) : Bool := (decide (x.2.2.2.2 = 0) || decide (x.2.2.2.2 = 4)) && decide (crewMin x.2.1 ≤ x.2.2.2.1)
theorem avail_no {x : (ByteArray × Int × Int × Int × Int)} (h0 : ¬ x.2.2.2.2 = 0) (h4 : ¬ x.2.2.2.2 = 4) : availB x = false := by rw [availB, decide_eq_false h0, decide_eq_false h4]; rfl
theorem avail_yes {x : (ByteArray × Int × Int × Int × Int)} (h : x.2.2.2.2 = 0 ∨ x.2.2.2.2 = 4) : availB x = decide (crewMin x.2.1 ≤ x.2.2.2.1) := by
  rw [availB]
  rcases h with h | h <;> simp [h]
theorem ap_kind {x : (ByteArray × Int × Int × Int × Int)} (h : apOK x = true) : 0 ≤ x.2.1 ∧ x.2.1 ≤ 3 ∧ 0 ≤ x.2.2.1 ∧ x.2.2.1 ≤ 13 := by
  simp only [apOK, Bool.and_eq_true, decide_eq_true_eq] at h
  omega

end Go.Proofs.Ytdgenniiidgimaa
