/- What functions compute. No condition. -/
import Derived.Test.YtmlicajgbgjphaaDoorUty
import Derived.Test.YtmlicajgbgjphaaDoorUmG
import Derived.Test.YtmlicajgbgjphaaDoorX3
import Derived.Test.YtmlicajgbgjphaaDoorX10
set_option linter.unusedSimpArgs false
set_option linter.unusedVariables false
set_option linter.defProp false
namespace Go.Proofs.YtmlicajgbgjphaaDoor
open Go Go.Vm

theorem szIfSS {n : Int} {ll : List (List Int)} (h0 : 0 ≤ n) (hn : n ≤ 1048576) (h : 0 ≤ (if n - (ll.length : Int) < 0 then -1 else szSS (n - (ll.length : Int)) ll)) :
    ll.length ≤ 1048576 ∧ (∀ l ∈ ll, l.length ≤ 1048576) ∧ totSS ll ≤ 1048576 ∧ (0 ≤ (if n - (ll.length : Int) < 0 then -1 else szSS (n - (ll.length : Int)) ll) ∧ (if n - (ll.length : Int) < 0 then -1 else szSS (n - (ll.length : Int)) ll) ≤ 1048576) := by
  by_cases q : n - (ll.length : Int) < 0
  · rw [if_pos q] at h; omega
  · rw [if_neg q] at h ⊢
    have ht := szSS_tot h
    have key : ∀ (l2 : List (List Int)), ∀ x ∈ l2, (x.length : Int) ≤ totSS l2 := by
      intro l2
      induction l2 with
      | nil => intro x hx; cases hx
      | cons y l2 ih =>
        intro x hx
        have hp := totSS_pos l2
        rw [totSS]
        rcases List.mem_cons.1 hx with e | e
        · subst e; omega
        · have := ih x e; omega
    have hle : ∀ (l2 : List (List Int)) (m : Int), 0 ≤ szSS m l2 → szSS m l2 ≤ m := by
      intro l2
      induction l2 with
      | nil => intro m _; rw [szSS]; omega
      | cons y l2 ih =>
        intro m hm
        rw [szSS] at hm ⊢
        split at hm
        · omega
        · rename_i hs
          rw [if_neg hs]
          have h1 := ih _ hm
          have h2 : szS m y ≤ m := by unfold szS at hs ⊢; split <;> omega
          omega
    refine ⟨by omega, fun l hl => ?_, by omega, h, ?_⟩
    · have := key ll l hl; omega
    · have := hle ll _ h; omega

end Go.Proofs.YtmlicajgbgjphaaDoor
