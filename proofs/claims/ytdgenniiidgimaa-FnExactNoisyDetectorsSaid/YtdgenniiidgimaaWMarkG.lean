/- What functions compute (MarkG). No condition. -/
import Derived.Test.YtdgenniiidgimaaTy
import Derived.Test.YtdgenniiidgimaaVmG
import Derived.Test.YtdgenniiidgimaaWBase
set_option linter.unusedSimpArgs false
set_option linter.unusedVariables false
set_option linter.defProp false
namespace Go.Proofs.Ytdgenniiidgimaa
open Go Go.Vm

def markG {α : Type} (g : Nat → α) (n : Nat) : List α := (List.range n).map g
theorem markG_succ {α : Type} (g : Nat → α) (n : Nat) : markG g (n + 1) = markG g n ++ [g n] := by simp [markG, List.range_succ]
theorem markG_len {α : Type} (g : Nat → α) (n : Nat) : (markG g n).length = n := by simp [markG]
theorem markG_step {α : Type} {g : Nat → α} {l : List α} {i : Nat} {x : α} (h : l[i]? = some x) : (markG g i ++ l.drop i).set i (g i) = markG g (i + 1) ++ l.drop (i + 1) := by
  rw [getElem_drop_cons h, markG_succ, List.set_append_right _ _ (by rw [markG_len]; omega), markG_len, Nat.sub_self, List.set_cons_zero, List.append_assoc]
  rfl
theorem markG_get {α : Type} {g : Nat → α} {l : List α} {i : Nat} {x : α} (h : l[i]? = some x) : (markG g i ++ l.drop i)[i]? = some x := by
  rw [List.getElem?_append_right (by rw [markG_len]; omega), markG_len, Nat.sub_self, getElem_drop_cons h]
  rfl
theorem markG_all {α : Type} {g : Nat → α} {l : List α} {i : Nat} (h : i ≤ l.length) : (markG g i ++ l.drop i).length = l.length := by simp [markG_len]; omega
theorem set_all {xs : List V} {i n : Nat} {y : V} (h : ∀ x ∈ xs, x.cells.length = n) (hy : y.cells.length = n) : ∀ x ∈ xs.set i y, x.cells.length = n := by
  intro x hx
  rcases List.mem_or_eq_of_mem_set hx with q | q
  · exact h x q
  · rw [q]; exact hy

end Go.Proofs.Ytdgenniiidgimaa
