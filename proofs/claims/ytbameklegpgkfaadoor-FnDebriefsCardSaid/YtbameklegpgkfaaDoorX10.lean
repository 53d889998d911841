/- What functions compute. No condition. -/
import Derived.Test.YtbameklegpgkfaaDoorUty
import Derived.Test.YtbameklegpgkfaaDoorUmG
import Derived.Test.YtbameklegpgkfaaDoorX3
import Derived.Test.YtbameklegpgkfaaDoorX1
set_option linter.unusedSimpArgs false
set_option linter.unusedVariables false
set_option linter.defProp false
namespace Go.Proofs.YtbameklegpgkfaaDoor
open Go Go.Vm

def markSS : Int → List (List Int) → List (List Int)
  | _, [] => []
  | k, l :: ll => markRow k l.length :: markSS (k + l.length) ll
def totSS : List (List Int) → Int
  | [] => 0
  | l :: ll => l.length + totSS ll
theorem totSS_pos : ∀ ll : List (List Int), 0 ≤ totSS ll
  | [] => Int.le_refl _
  | l :: ll => by have := totSS_pos ll; rw [totSS]; omega
theorem markSS_same : ∀ (ll : List (List Int)) (k : Int), (markSS k ll).map List.isEmpty = ll.map List.isEmpty
  | [], _ => rfl
  | l :: ll, k => by
    rw [markSS, List.map_cons, List.map_cons, markSS_same ll]
    congr 1
    cases l <;> simp [markRow, List.range_succ]
theorem markSS_len : ∀ (ll : List (List Int)) (k : Int), (markSS k ll).length = ll.length
  | [], _ => rfl
  | l :: ll, k => by rw [markSS, List.length_cons, List.length_cons, markSS_len ll]
theorem markRow_zero (k : Int) : markRow k 0 = [] := rfl
theorem set_cons_eq {α : Type} {l l' : List α} {i : Nat} {x : α} (hi : i < l.length) : (l.set i x).take (i + 1) ++ l' = l.take i ++ x :: l' := by
  rw [List.take_add_one, List.getElem?_set_self hi, List.take_set_of_le (Nat.le_refl _)]
  simp
theorem same_set {l : List (List Int)} {i : Nat} {x y : List Int} (h : l[i]? = some x) (he : y.isEmpty = x.isEmpty) : (l.set i y).map List.isEmpty = l.map List.isEmpty := by
  obtain ⟨hi, rfl⟩ := List.getElem?_eq_some_iff.1 h
  rw [List.map_set, he]
  apply List.ext_getElem?
  intro j
  by_cases q : i = j
  · subst q; rw [List.getElem?_set_self (by simpa using hi)]; simp [hi]
  · rw [List.getElem?_set_ne q]
theorem totSS_drop {ll : List (List Int)} {i : Nat} {l : List Int} (h : ll[i]? = some l) : totSS (ll.drop i) = l.length + totSS (ll.drop (i + 1)) := by
  rw [getElem_drop_cons h, totSS]
theorem totSS_end {ll : List (List Int)} {i : Nat} (h : ll.length ≤ i) : totSS (ll.drop i) = 0 := by
  rw [List.drop_of_length_le h]; rfl

theorem news_get {f : Int → V} {b : Blk} {ll : List (List Int)} {i : Nat} {l : List Int} (h : ll[i]? = some l) (hne : l.isEmpty = false) : (b :: newsF f ll)[1 + i]? = some (.arr (l.map f) .flat) := by
  rw [Nat.add_comm, List.getElem?_cons_succ, newsF, List.getElem?_map, h]
  simp [rowB, hne]
theorem news_set {f : Int → V} {b : Blk} {ll : List (List Int)} {i : Nat} {l : List Int} (hne : l.isEmpty = false) : (b :: newsF f ll).set (1 + i) (.arr (l.map f) .flat) = b :: newsF f (ll.set i l) := by
  rw [Nat.add_comm, List.set_cons_succ, newsF, newsF, List.map_set]
  simp [rowB, hne]
theorem row_get0 {α : Type} {ll : List (List α)} {i : Nat} {l : List α} (h : ll[i]? = some l) (he : l.isEmpty = true) : (rowsF 1 ll).getD i .any = .sl [] := by
  rw [List.getD_eq_getElem?_getD, rowsF_get ll 1 i l h, rowV, he]; rfl
theorem row_get1 {α : Type} {ll : List (List α)} {i : Nat} {l : List α} (h : ll[i]? = some l) (he : l.isEmpty = false) : (rowsF 1 ll).getD i .any = .ref (1 + i) := by
  rw [List.getD_eq_getElem?_getD, rowsF_get ll 1 i l h, rowV, he]; rfl

end Go.Proofs.YtbameklegpgkfaaDoor
