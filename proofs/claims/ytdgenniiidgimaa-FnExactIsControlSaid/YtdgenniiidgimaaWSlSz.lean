/- What functions compute (SlSz). No condition. -/
import Derived.Test.YtdgenniiidgimaaTy
import Derived.Test.YtdgenniiidgimaaVmG
import Derived.Test.YtdgenniiidgimaaWLawK
import Derived.Test.YtdgenniiidgimaaWStrs
import Derived.Test.YtdgenniiidgimaaWInts
import Derived.Test.YtdgenniiidgimaaWSzL
set_option linter.unusedSimpArgs false
set_option linter.unusedVariables false
set_option linter.defProp false
namespace Go.Proofs.Ytdgenniiidgimaa
open Go Go.Vm

def szSL (n : Int) (l : List ByteArray) : Int := if n - (l.length : Int) < 0 then -1 else szLst szStr1 (n - (l.length : Int)) l
theorem szLst_neg {α : Type} {f : Int → α → Int} : ∀ {l : List α} {n : Int}, 0 ≤ n → szLst f n l < 0 → szLst f n l = -1
  | [], n, h0, h => by rw [szLst] at h; omega
  | x :: l, n, h0, h => by
    rw [szLst] at h ⊢
    by_cases q : f n x < 0
    · rw [if_pos q]
    · rw [if_neg q] at h ⊢
      exact szLst_neg (by omega) h
theorem szSL_neg {n : Int} {l : List ByteArray} (h : szSL n l < 0) : szSL n l = -1 := by
  unfold szSL at h ⊢
  split at h
  · rename_i q; rw [if_pos q]
  · rename_i q; rw [if_neg q]; exact szLst_neg (by omega) h
theorem szSL_le {n : Int} {l : List ByteArray} (hn : 0 ≤ n) : szSL n l ≤ n := by
  unfold szSL
  split
  · omega
  · by_cases h : 0 ≤ szLst szStr1 (n - (l.length : Int)) l
    · have := szLst_down szStr1_le (by omega) h; omega
    · omega
theorem szSL_len {n : Int} {l : List ByteArray} (h : 0 ≤ szSL n l) : (l.length : Int) ≤ n := by
  unfold szSL at h
  split at h <;> omega
theorem szS_neg {n : Int} {l : List Int} (h : szS n l < 0) : szS n l = -1 := by
  unfold szS at h ⊢
  split at h
  · rename_i q; rw [if_pos q]
  · omega
theorem szS_le {n : Int} {l : List Int} (hn : 0 ≤ n) : szS n l ≤ n := by
  unfold szS; split <;> omega
theorem szS_len {n : Int} {l : List Int} (h : 0 ≤ szS n l) : (l.length : Int) ≤ n := by
  unfold szS at h
  split at h <;> omega

end Go.Proofs.Ytdgenniiidgimaa
