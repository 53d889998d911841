/- What functions compute (Has). No condition. -/
import Derived.Test.YtdgenniiidgimaaTy
import Derived.Test.YtdgenniiidgimaaVmG
import Derived.Test.YtdgenniiidgimaaWBase
set_option linter.unusedSimpArgs false
set_option linter.unusedVariables false
set_option linter.defProp false
namespace Go.Proofs.Ytdgenniiidgimaa
open Go Go.Vm

def idxFrom (x : Int) : Nat → List Int → Int
  | _, [] => -1
  | i, y :: l => if x = y then i else idxFrom x (i + 1) l
theorem idx_step {x y : Int} {l : List Int} {i : Nat} (h : l[i]? = some y) : idxFrom x i (l.drop i) = if x = y then (i : Int) else idxFrom x (i + 1) (l.drop (i + 1)) := by
  rw [getElem_drop_cons h, idxFrom]
theorem idx_end {x : Int} {l : List Int} {i k : Nat} (h : l.length ≤ i) : idxFrom x k (l.drop i) = -1 := by
  rw [List.drop_of_length_le h, idxFrom]
theorem idx_mem (x : Int) : ∀ (l : List Int) (i : Nat), (0 ≤ idxFrom x i l) ↔ x ∈ l
  | [], i => by simp [idxFrom]
  | y :: l, i => by
    rw [idxFrom, List.mem_cons]
    split
    · rename_i h; simp [h]
    · rename_i h; rw [idx_mem x l (i + 1)]; simp [h]
theorem any_drop {α : Type} {f : α → Bool} {l : List α} {i : Nat} {x : α} (h : l[i]? = some x) : (l.drop i).any f = (f x || (l.drop (i + 1)).any f) := by
  rw [getElem_drop_cons h, List.any_cons]
theorem any_end {α : Type} {f : α → Bool} {l : List α} {i : Nat} (h : l.length ≤ i) : (l.drop i).any f = false := by
  rw [List.drop_of_length_le h]; rfl
theorem find_step {α : Type} {p : α → Bool} {l : List α} {i : Nat} {x : α} (h : l[i]? = some x) : (l.drop i).find? p = if p x then some x else (l.drop (i + 1)).find? p := by
  rw [getElem_drop_cons h, List.find?_cons]
  cases p x <;> rfl
theorem find_end {α : Type} {p : α → Bool} {l : List α} {i : Nat} (h : l.length ≤ i) : (l.drop i).find? p = none := by
  rw [List.drop_of_length_le h]; rfl

end Go.Proofs.Ytdgenniiidgimaa
