/- What functions compute. No condition. -/
import Derived.Test.YtmlicajgbgjphaaDoorUty
import Derived.Test.YtmlicajgbgjphaaDoorUmG
set_option linter.unusedSimpArgs false
set_option linter.unusedVariables false
set_option linter.defProp false
namespace Go.Proofs.YtmlicajgbgjphaaDoor
open Go Go.Vm

def szLst {α : Type} (f : Int → α → Int) : Int → List α → Int
  | n, [] => n
  | n, x :: l => if f n x < 0 then -1 else szLst f (f n x) l
theorem szLst_le {α : Type} {f : Int → α → Int} {g : α → Int} (hf : ∀ n x, 0 ≤ n → 0 ≤ f n x → g x ≤ n ∧ f n x ≤ n) : ∀ {ll : List α} {n : Int}, 0 ≤ n → 0 ≤ szLst f n ll → ∀ x ∈ ll, g x ≤ n
  | [], _, _, _, x, hx => by cases hx
  | y :: ll, n, hn, h, x, hx => by
    rw [szLst] at h
    split at h
    · omega
    · rename_i hs
      have hy := hf n y hn (by omega)
      rcases List.mem_cons.1 hx with rfl | h3
      · exact hy.1
      · have := szLst_le hf (by omega) h x h3; omega

end Go.Proofs.YtmlicajgbgjphaaDoor
