/- What functions compute. No condition. -/
import Derived.Test.YtmhaafinhpopmaaGreatDoorX1
set_option linter.unusedSimpArgs false
set_option linter.unusedVariables false
set_option linter.defProp false
namespace Go.Proofs.YtmhaafinhpopmaaGreatDoor
open Go Go.Vm
set_option maxHeartbeats 8000000
theorem szIf {n:Int} {m:Nat} (hn:n≤1048576) (h:0≤(if n - (m:Int) < 0 then -1 else n - (m:Int))):m≤1048576∧0≤(if n - (m:Int) < 0 then -1 else n - (m:Int))∧(if n - (m:Int) < 0 then -1 else n - (m:Int))≤1048576:=by
  by_cases q:n - (m:Int) < 0
  · rw [if_pos q] at h;omega
  · rw [if_neg q] at h⊢;omega
theorem szIfS {n:Int} {l:List Int} (hn:n≤1048576) (h:0≤szS n l):l.length≤1048576∧0≤szS n l∧szS n l≤1048576:=szIf hn h
theorem szLst_down {α:Type} {f:Int→α→Int} (hf:∀n t,0≤n→f n t≤n):∀{l:List α} {n:Int},0≤n→0≤szLst f n l→szLst f n l≤n
  | [],n,_,_=>Int.le_refl _
  | x ::l,n,h0,h=>by
    rw [szLst] at h⊢
    by_cases q:f n x < 0
    · rw [if_pos q] at h;omega
    · rw [if_neg q] at h⊢
      exact Int.le_trans (szLst_down hf (by omega) h) (hf n x h0)
theorem szIfL {α:Type} {f:Int→α→Int} {n:Int} {l:List α} (hf:∀n t,0≤n→f n t≤n) (h0:0≤n) (hn:n≤1048576) (h:0≤(if n - (l.length:Int) < 0 then -1 else szLst f (n - (l.length:Int)) l)) :
    l.length≤1048576∧0≤(if n - (l.length:Int) < 0 then -1 else szLst f (n - (l.length:Int)) l)∧(if n - (l.length:Int) < 0 then -1 else szLst f (n - (l.length:Int)) l)≤1048576:=by
  by_cases q:n - (l.length:Int) < 0
  · rw [if_pos q] at h;omega
  · rw [if_neg q] at h⊢
    have:=szLst_down hf (by omega) h;omega
end Go.Proofs.YtmhaafinhpopmaaGreatDoor
