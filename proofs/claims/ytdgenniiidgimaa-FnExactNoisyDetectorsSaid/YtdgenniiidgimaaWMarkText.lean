/- What functions compute (MarkText). No condition. -/
import Derived.Test.YtdgenniiidgimaaTy
import Derived.Test.YtdgenniiidgimaaVmG
set_option linter.unusedSimpArgs false
set_option linter.unusedVariables false
set_option linter.defProp false
namespace Go.Proofs.Ytdgenniiidgimaa
open Go Go.Vm

def markD : Nat → Int → ByteArray → ByteArray
  | 0, _, out => out
  | m + 1, k, out => if 0 < k then markD m (k / 10) (strOf [IntKind.u8.wrap (48 + k % 10)] ++ out) else out
def markT (k : Int) : ByteArray := if k ≤ 0 then ⟨#[109, 48]⟩ else ⟨#[109]⟩ ++ markD 19 k ⟨#[]⟩
theorem markD_stop {m : Nat} {k : Int} {out : ByteArray} (h : ¬ 0 < k) : markD m k out = out := by
  cases m with
  | zero => rfl
  | succ m => rw [markD, if_neg h]
theorem str1 (n : Int) : (strOf [n]).size = 1 := rfl

end Go.Proofs.Ytdgenniiidgimaa
