/- What functions compute (Shifts). No condition. -/
import Derived.Test.YthehbhfjapinnaaTy
import Derived.Test.YthehbhfjapinnaaVm21
set_option linter.unusedSimpArgs false
set_option linter.unusedVariables false
namespace Go.Proofs.Ythehbhfjapinnaa
open Go Go.Vm

def bump (c : List Int) (x : Int) : List Int := c.set x.toNat (IntKind.i64.wrap (c.getD x.toNat 0 + 1))
def shiftsL (d : List (List Int)) (c : List Int) : List Int := d.foldl (fun c l => l.foldl bump c) c
theorem bump_len (c : List Int) (x : Int) : (bump c x).length = c.length := by simp [bump]
theorem bumps_len (l c : List Int) : (l.foldl bump c).length = c.length := by
  induction l generalizing c with
  | nil => rfl
  | cons x l ih => rw [List.foldl_cons, ih, bump_len]
theorem shiftsL_len (d : List (List Int)) (c : List Int) : (shiftsL d c).length = c.length := by
  induction d generalizing c with
  | nil => rfl
  | cons x l ih =>
    have := ih (x.foldl bump c)
    rw [bumps_len] at this
    exact this
def shiftsOf (d : List (List Int)) (n : Int) : List Int := shiftsL d (List.replicate n.toNat 0)
theorem shiftsOf_len (d : List (List Int)) (n : Int) : (shiftsOf d n).length = n.toNat := by rw [shiftsOf, shiftsL_len, List.length_replicate]

end Go.Proofs.Ythehbhfjapinnaa
