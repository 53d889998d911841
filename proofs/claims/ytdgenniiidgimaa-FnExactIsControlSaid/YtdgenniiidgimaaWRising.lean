/- What functions compute (Rising). No condition. -/
import Derived.Test.YtdgenniiidgimaaTy
import Derived.Test.YtdgenniiidgimaaVmG
import Derived.Test.YtdgenniiidgimaaWBase
set_option linter.unusedSimpArgs false
set_option linter.unusedVariables false
set_option linter.defProp false
namespace Go.Proofs.Ytdgenniiidgimaa
open Go Go.Vm

def inR (n lo hi : Int) : Bool := decide (lo ≤ n) && decide (n ≤ hi)
def risingFrom (lo hi : Int) : Option Int → List Int → Bool
  | _, [] => true
  | none, x :: xs => inR x lo hi && risingFrom lo hi (some x) xs
  | some p, x :: xs => inR x lo hi && decide (p < x) && risingFrom lo hi (some x) xs
def risingAt (lo hi : Int) (l : List Int) (i : Nat) : Bool := risingFrom lo hi (if i = 0 then none else l[i - 1]?) (l.drop i)
theorem risingAt_zero {lo hi : Int} {l : List Int} {x : Int} (h : l[0]? = some x) : risingAt lo hi l 0 = (inR x lo hi && risingAt lo hi l 1) := by
  simp only [risingAt, getElem_drop_cons h, if_true, risingFrom]
  simp [h]
theorem risingAt_succ {lo hi : Int} {l : List Int} {x y : Int} {i : Nat} (h0 : 0 < i) (hy : l[i - 1]? = some y) (h : l[i]? = some x) : risingAt lo hi l i = (inR x lo hi && decide (y < x) && risingAt lo hi l (i + 1)) := by
  simp only [risingAt, getElem_drop_cons h, hy, show ¬ i = 0 by omega, if_false, risingFrom]
  simp [h]
theorem risingAt_end {lo hi : Int} {l : List Int} {i : Nat} (h : l.length ≤ i) : risingAt lo hi l i = true := by
  simp only [risingAt, List.drop_of_length_le h]
  split <;> rfl
theorem rising_in {lo hi : Int} : ∀ {l : List Int} {p : Option Int}, risingFrom lo hi p l = true → ∀ x ∈ l, lo ≤ x ∧ x ≤ hi
  | [], _, _, x, hx => by cases hx
  | y :: l, p, h, x, hx => by
    have h2 : inR y lo hi = true ∧ risingFrom lo hi (some y) l = true := by
      cases p <;> simp [risingFrom] at h <;> simp [h]
    rcases List.mem_cons.1 hx with rfl | h3
    · simpa [inR] using h2.1
    · exact rising_in h2.2 x h3

end Go.Proofs.Ytdgenniiidgimaa
