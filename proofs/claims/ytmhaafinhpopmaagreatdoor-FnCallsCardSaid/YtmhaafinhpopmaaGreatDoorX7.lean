/- What functions compute. No condition. -/
import Derived.Test.YtmhaafinhpopmaaGreatDoorX2
set_option linter.unusedSimpArgs false
set_option linter.unusedVariables false
set_option linter.defProp false
namespace Go.Proofs.YtmhaafinhpopmaaGreatDoor
open Go Go.Vm
set_option maxHeartbeats 8000000
def itoaB (n:Int):ByteArray:=⟨(Lib.itoa n).toArray⟩
def rdV (s:ByteArray):Int:=match Lib.atoiAll s.data.toList with
  | .ok v=>v
  | .range=>Lib.atoiSat s.data.toList
  | _=>0
def rdB (s:ByteArray):Bool:=match Lib.atoiAll s.data.toList with
  | .ok v=>decide (itoaB v=s)
  | _=>false
def blk (s:ByteArray):Int:=Lib.indexByte s.data.toList 32
def digAt (s:ByteArray) (k:Nat):Bool:=decide (48≤byteAt s k) && decide (byteAt s k≤57)
def valD (s:ByteArray):Nat→Int
  | 0=>0
  | i+1=>10 * valD s i+(byteAt s i - 48)
def rdH (s:ByteArray):Bool:=(decide (1≤s.size) && decide (s.size≤6)) && !(decide (byteAt s 0=48) && decide (1 < s.size))
def rdN (s:ByteArray):Int:=if rdH s=true∧∀k,k < s.size→digAt s k=true then valD s s.size else -1
theorem dig_ok {s:ByteArray} {k:Nat} (h:digAt s k=true):48≤byteAt s k∧byteAt s k≤57:=by simpa [digAt] using h
theorem valD_bound {s:ByteArray}:∀i,(∀k,k < i→digAt s k=true)→0≤valD s i∧valD s i < 10 ^ i
  | 0,_=>⟨Int.le_refl _,Int.lt_succ 0⟩
  | i+1,h=>by
    have h1:=valD_bound i fun k hk=>h k (by omega)
    have h2:=dig_ok (h i (by omega));rw [valD,Int.pow_succ];omega
theorem pow_le6 {i:Nat} (h:i≤5):(10:Int) ^ i≤100000:=by
  have:i=0∨i=1∨i=2∨i=3∨i=4∨i=5:=by omega
  rcases this with rfl | rfl | rfl | rfl | rfl | rfl<;>decide
theorem byteAt_rng (s:ByteArray) (i:Nat):0≤byteAt s i∧byteAt s i≤255:=by
  unfold byteAt;have:=(s.data.toList.getD i 0).toNat_lt;omega
theorem dig_snoc {s:ByteArray} {i:Nat} (h:∀k,k < i→digAt s k=true) (hi:digAt s i=true):∀k,k < i+1→digAt s k=true:=fun k hk=>by
  rcases Nat.lt_succ_iff_lt_or_eq.1 hk with q | q
  · exact h k q
  · subst q;exact hi
end Go.Proofs.YtmhaafinhpopmaaGreatDoor
