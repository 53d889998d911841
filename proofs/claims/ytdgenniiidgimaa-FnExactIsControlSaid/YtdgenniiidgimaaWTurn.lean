/- What functions compute (Turn). No condition. -/
import Derived.Test.YtdgenniiidgimaaTy
import Derived.Test.YtdgenniiidgimaaVmG
import Derived.Test.YtdgenniiidgimaaWNames
import Derived.Test.YtdgenniiidgimaaWChain
import Derived.Test.YtdgenniiidgimaaWCmp
set_option linter.unusedSimpArgs false
set_option linter.unusedVariables false
set_option linter.defProp false
namespace Go.Proofs.Ytdgenniiidgimaa
open Go Go.Vm

def tOne (x : (Int × ByteArray × Int × Int)) : Bool := (decide (1 ≤ x.1) && decide (x.1 ≤ 999)) && nameB x.2.1 && (decide (0 ≤ x.2.2.1) && decide (x.2.2.1 ≤ 999999)) && (decide (x.2.2.1 ≤ x.2.2.2) && decide (x.2.2.2 ≤ 999999))
def tBefore (x y : (Int × ByteArray × Int × Int)) : Bool := if x.2.2.1 ≠ y.2.2.1 then decide (x.2.2.1 < y.2.2.1) else if x.1 ≠ y.1 then decide (x.1 < y.1) else strLt x.2.1 y.2.1
def turnsB (l : List (Int × ByteArray × Int × Int)) : Bool := chainAt tOne tBefore l 0 && decide ((l.length : Int) ≤ 15)
theorem strLt_irrefl (a : ByteArray) : strLt a a = false := by
  unfold strLt
  generalize a.toList = l
  induction l with
  | nil => rfl
  | cons x l ih => simp [Op.bytesLess, ih]
theorem cmp_before (x y : (Int × ByteArray × Int × Int)) : (0 ≤ orL [cmpI x.2.2.1 y.2.2.1, cmpI x.1 y.1, cmpS x.2.1 y.2.1]) ↔ tBefore x y = false := by
  simp only [orL, cmpI, cmpS, tBefore]
  by_cases h1 : x.2.2.1 = y.2.2.1
  · by_cases h2 : x.1 = y.1
    · by_cases h3 : x.2.1 = y.2.1
      · simp [h1, h2, h3, strLt_irrefl]
      · by_cases h4 : strLt x.2.1 y.2.1 = true
        · simp [h1, h2, h3, h4]
        · simp only [Bool.not_eq_true] at h4; simp [h1, h2, h3, h4]
    · rcases Int.lt_or_gt_of_ne h2 with q | q
      · simp [h1, q, h2]
      · have : ¬ x.1 < y.1 := by omega
        simp [h1, q, h2, this]
  · rcases Int.lt_or_gt_of_ne h1 with q | q
    · simp [q, h1]
    · have : ¬ x.2.2.1 < y.2.2.1 := by omega
      simp [q, h1, this]

end Go.Proofs.Ytdgenniiidgimaa
