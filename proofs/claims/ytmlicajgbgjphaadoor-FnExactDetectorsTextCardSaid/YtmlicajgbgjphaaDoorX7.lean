/- What functions compute. No condition. -/
import Derived.Test.YtmlicajgbgjphaaDoorUty
import Derived.Test.YtmlicajgbgjphaaDoorUmG
import Derived.Test.YtmlicajgbgjphaaDoorX1
set_option linter.unusedSimpArgs false
set_option linter.unusedVariables false
set_option linter.defProp false
namespace Go.Proofs.YtmlicajgbgjphaaDoor
open Go Go.Vm

def chainFrom {α : Type} (ok : α → Bool) (bf : α → α → Bool) : Option α → List α → Bool
  | _, [] => true
  | none, x :: l => ok x && chainFrom ok bf (some x) l
  | some p, x :: l => ok x && bf p x && chainFrom ok bf (some x) l
def chainAt {α : Type} (ok : α → Bool) (bf : α → α → Bool) (l : List α) (i : Nat) : Bool := chainFrom ok bf (if i = 0 then none else l[i - 1]?) (l.drop i)
theorem chain_zero {α : Type} {ok : α → Bool} {bf : α → α → Bool} {l : List α} {x : α} (h : l[0]? = some x) : chainAt ok bf l 0 = (ok x && chainAt ok bf l 1) := by
  simp only [chainAt, getElem_drop_cons h, if_true, chainFrom]
  simp [h]
theorem chain_succ {α : Type} {ok : α → Bool} {bf : α → α → Bool} {l : List α} {x y : α} {i : Nat} (h0 : 0 < i) (hy : l[i - 1]? = some y) (h : l[i]? = some x) : chainAt ok bf l i = (ok x && bf y x && chainAt ok bf l (i + 1)) := by
  simp only [chainAt, getElem_drop_cons h, hy, show ¬ i = 0 by omega, if_false, chainFrom]
  simp [h]
theorem chain_end {α : Type} {ok : α → Bool} {bf : α → α → Bool} {l : List α} {i : Nat} (h : l.length ≤ i) : chainAt ok bf l i = true := by
  simp only [chainAt, List.drop_of_length_le h]
  split <;> rfl
theorem chainFrom_ok {α : Type} {ok : α → Bool} {bf : α → α → Bool} : ∀ {l : List α} {p : Option α}, chainFrom ok bf p l = true → ∀ x ∈ l, ok x = true
  | [], _, _, x, hx => by cases hx
  | y :: l, p, h, x, hx => by
    have h2 : ok y = true ∧ chainFrom ok bf (some y) l = true := by
      cases p <;> simp [chainFrom] at h <;> simp [h]
    rcases List.mem_cons.1 hx with rfl | h3
    · exact h2.1
    · exact chainFrom_ok h2.2 x h3
theorem chain_ok {α : Type} {ok : α → Bool} {bf : α → α → Bool} {l : List α} (h : chainAt ok bf l 0 = true) : ∀ x ∈ l, ok x = true := chainFrom_ok h

end Go.Proofs.YtmlicajgbgjphaaDoor
