/- What functions compute. No condition. -/
import Derived.Test.YtbameklegpgkfaaDoorUty
import Derived.Test.YtbameklegpgkfaaDoorUmG
import Derived.Test.YtbameklegpgkfaaDoorX2
import Derived.Test.YtbameklegpgkfaaDoorX4
import Derived.Test.YtbameklegpgkfaaDoorX1
import Derived.Test.YtbameklegpgkfaaDoorX10
set_option linter.unusedSimpArgs false
set_option linter.unusedVariables false
set_option linter.defProp false
namespace Go.Proofs.YtbameklegpgkfaaDoor
open Go Go.Vm

def needB (l : List Int) : Bool := l.all (fun x => inR x 0 9) && decide ((l.length : Int) ≤ 21)
def openFrom (needs : List Int) : Nat → List (List Int) → List Int
  | _, [] => []
  | i, l :: ll => if (l.length : Int) < needs.getD i 0 then (i : Int) :: openFrom needs (i + 1) ll else openFrom needs (i + 1) ll
theorem open_step {needs : List Int} {d : List (List Int)} {i : Nat} {l : List Int} {z : Int} (h : d[i]? = some l) (hz : needs[i]? = some z) : openFrom needs i (d.drop i) = if (l.length : Int) < z then (i : Int) :: openFrom needs (i + 1) (d.drop (i + 1)) else openFrom needs (i + 1) (d.drop (i + 1)) := by
  rw [getElem_drop_cons h, openFrom, List.getD_eq_getElem?_getD, hz]; rfl
theorem snoc_open {l : List Int} {x : Int} : l.map (V.int .i64) ++ [V.int .i64 x] = (l ++ [x]).map (V.int .i64) := by rw [List.map_append]; rfl
theorem open_end {needs : List Int} {d : List (List Int)} {i k : Nat} (h : d.length ≤ i) : openFrom needs k (d.drop i) = [] := by
  rw [List.drop_of_length_le h, openFrom]
theorem open_len (needs : List Int) : ∀ (d : List (List Int)) (i : Nat), (openFrom needs i d).length ≤ d.length
  | [], _ => Nat.le_refl _
  | l :: d, i => by
    have := open_len needs d (i + 1)
    rw [openFrom]
    split <;> simp <;> omega
def openB (d : List (List Int)) (n : Int) (c : List Int) : Bool := rosterB d n && needB c && decide ((c.length : Int) = d.length)
def openR (d : List (List Int)) (n : Int) (c : List Int) : List Int := if openB d n c = true then openFrom c 0 d else []
theorem openR_len (d : List (List Int)) (n : Int) (c : List Int) : (openR d n c).length ≤ d.length := by
  unfold openR
  split
  · exact open_len c d 0
  · simp
def shiftsR (d : List (List Int)) (n : Int) : List Int := if rosterB d n then shiftsOf d n else []
theorem shiftsR_len (d : List (List Int)) (n : Int) : (shiftsR d n).length ≤ 1048576 := by
  unfold shiftsR
  split
  · rename_i h
    have := roster_in h
    rw [shiftsOf_len]; omega
  · simp
theorem szSS_tot : ∀ {ll : List (List Int)} {n : Int}, 0 ≤ szSS n ll → totSS ll ≤ n
  | [], n, h => by rw [szSS] at h; rw [totSS]; exact h
  | x :: ll, n, h => by
    rw [szSS] at h
    split at h
    · omega
    · rename_i hs
      have hx : szS n x = n - x.length := by
        unfold szS at hs ⊢
        split at hs
        · omega
        · rename_i h2; rw [if_neg h2]
      have := szSS_tot h
      rw [totSS]; omega

end Go.Proofs.YtbameklegpgkfaaDoor
