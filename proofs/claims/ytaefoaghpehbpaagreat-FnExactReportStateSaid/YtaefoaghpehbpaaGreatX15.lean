/- What functions compute. No condition. -/
import Derived.Test.YtaefoaghpehbpaaGreatUz
import Derived.Test.YtaefoaghpehbpaaGreatUty
import Derived.Test.YtaefoaghpehbpaaGreatUmG
import Derived.Test.YtaefoaghpehbpaaGreatX14
import Derived.Test.YtaefoaghpehbpaaGreatX6
import Derived.Test.YtaefoaghpehbpaaGreatX1
set_option linter.unusedSimpArgs false
set_option linter.unusedVariables false
set_option linter.defProp false
namespace Go.Proofs.YtaefoaghpehbpaaGreat
open Go Go.Vm
def nextI (s:Int):List Int:=if s=0 then [1,5] else if s=1 then [2,0] else if s=2 then [3,4] else if s=3 then [4] else if s=4 then [0,1,5] else [0]
def nextX (s:Int):List Int:=if s=0 then [1,5] else if s=1 then [0,2] else if s=2 then [3,4] else if s=3 then [4] else if s=4 then [0,1,5] else [0]
theorem next_len (s:Int):(nextI s).length≤3∧(nextX s).length≤3:=by
  unfold nextI nextX
  repeat' split
  all_goals simp
theorem next_mem (s t:Int):t∈nextX s↔t∈nextI s:=by
  unfold nextI nextX
  repeat' split
  all_goals simp [or_comm]
def chgB (fl:List (ByteArray×Int×Int×Int×Int)) (s:ByteArray) (t:Int):Bool:=decide (0≤findA fl s) && (decide (0≤t) && decide (t≤5)) && decide (t∈nextI (stA fl s))
def chgF (fl:List (ByteArray×Int×Int×Int×Int)) (s:ByteArray) (t:Int):List (ByteArray×Int×Int×Int×Int):=match fl[(findA fl s).toNat]? with
  | some a=>fl.set (findA fl s).toNat (a.1,a.2.1,a.2.2.1,a.2.2.2.1,t)
  | none=>fl
theorem chgF_at {fl:List (ByteArray×Int×Int×Int×Int)} {s:ByteArray} {t:Int} {k:Nat} {a:(ByteArray×Int×Int×Int×Int)} (h1:findA fl s=(k:Int)) (h2:fl[k]? =some a):chgF fl s t=fl.set k (a.1,a.2.1,a.2.2.1,a.2.2.2.1,t):=by
  rw [chgF,h1,Int.toNat_natCast,h2]
theorem chgF_len (fl:List (ByteArray×Int×Int×Int×Int)) (s:ByteArray) (t:Int):(chgF fl s t).length=fl.length:=by
  rw [chgF];split
  · rw [List.length_set]
  · rfl
theorem chg_cases (fl:List (ByteArray×Int×Int×Int×Int)) (s:ByteArray) (t:Int):(findA fl s=-1∧chgB fl s t=false)∨(∃(k:Nat) (a:(ByteArray×Int×Int×Int×Int)),findA fl s=(k:Int)∧fl[k]? =some a∧(decide (0≤t) && decide (t≤5))=false∧chgB fl s t=false)∨
    ∃(k:Nat) (a:(ByteArray×Int×Int×Int×Int)),findA fl s=(k:Int)∧fl[k]? =some a∧(decide (0≤t) && decide (t≤5))=true∧chgB fl s t=decide (t∈nextI a.2.2.2.2):=by
  rcases findA_cases fl s with h | ⟨k,a,h1,h2,_⟩
  · exact .inl ⟨h,by rw [chgB,h];rfl⟩
  · right
    cases q:(decide (0≤t) && decide (t≤5)) with
    | false=>exact .inl ⟨k,a,h1,h2,rfl,by rw [chgB,q];simp⟩
    | true=>exact .inr ⟨k,a,h1,h2,rfl,by rw [chgB,q,stA_at h1 h2,h1,decide_eq_true (show (0:Int)≤(k:Int) by omega)];rfl⟩
def repB (fl:List (ByteArray×Int×Int×Int×Int)) (s:ByteArray) (t:Int):Bool:=chgB fl s t && !decide (t=1)
def repI (ins:List (Int×Int×Bool×List ByteArray)) (s:ByteArray) (t:Int):List (Int×Int×Bool×List ByteArray):=if 0≤commF ins s∧¬(1≤t∧t≤3) then (match ins[(commF ins s).toNat]? with
  | some x=>ins.set (commF ins s).toNat (x.1,x.2.1,x.2.2.1,x.2.2.2.filter fun y=> !decide (y=s))
  | none=>ins) else ins
theorem repI_no {ins:List (Int×Int×Bool×List ByteArray)} {s:ByteArray} {t:Int} (h:¬(0≤commF ins s∧¬(1≤t∧t≤3))):repI ins s t=ins:=by rw [repI,if_neg h]
theorem repI_at {ins:List (Int×Int×Bool×List ByteArray)} {s:ByteArray} {t:Int} {k:Nat} {x:(Int×Int×Bool×List ByteArray)} (h:¬(1≤t∧t≤3)) (h1:commF ins s=(k:Int)) (h2:ins[k]? =some x):repI ins s t=ins.set k (x.1,x.2.1,x.2.2.1,x.2.2.2.filter fun y=> !decide (y=s)):=by
  rw [repI,if_pos ⟨by omega,h⟩,h1,Int.toNat_natCast,h2]
theorem repI_len (ins:List (Int×Int×Bool×List ByteArray)) (s:ByteArray) (t:Int):(repI ins s t).length=ins.length:=by
  rw [repI]
  split
  · split
    · rw [List.length_set]
    · rfl
  · rfl
theorem repI_all {ins:List (Int×Int×Bool×List ByteArray)} {n:Nat} (s:ByteArray) (t:Int) (h:∀x∈ins,x.2.2.2.length≤n):∀x∈repI ins s t,x.2.2.2.length≤n:=by
  intro x hx
  rw [repI] at hx
  split at hx
  · split at hx
    · rename_i y hy
      rcases List.mem_or_eq_of_mem_set hx with q | q
      · exact h x q
      · subst q
        exact Nat.le_trans (List.length_filter_le ..) (h y (List.mem_of_getElem? hy))
    · exact h x hx
  · exact h x hx
theorem commF_case (ins:List (Int×Int×Bool×List ByteArray)) (s:ByteArray):(commF ins s < 0)∨∃(k:Nat) (x:(Int×Int×Bool×List ByteArray)),ins[k]? =some x∧inS s x.2.2.2=true∧commF ins s=(k:Int):=by
  rcases Int.lt_or_le (commF ins s) 0 with h | h
  · exact .inl h
  · exact .inr (commF_at h)
theorem fillK_pos {n k:Nat} (h:k < n):fillK n=.deep:=by unfold fillK;rw [if_neg (by omega)]
theorem inS_ne {s:ByteArray} {l:List ByteArray} (h:inS s l=true):l≠[]:=by
  intro e;subst e;simp [inS] at h
theorem toArgs_ptrl {s:St} {ls:List Nat} {id i off j:Nat} {cs cs':List V} (h:idx ls id=some j) (h2:toArgs s ls cs=some cs'):toArgs s ls (.ptr id i off::cs)=some (.ptr j i off::cs'):=by
  have e:toArg s ls (.ptr id i off)=some (.ptr j i off):=by cases i<;>simp [toArg,toCell,h]
  rw [toArgs,e,h2]
def rpvB (n:Int) (ss:List (Int×Int×Int)) (fl:List (ByteArray×Int×Int×Int×Int)) (ins:List (Int×Int×Bool×List ByteArray)) (ws:List (Int×List Int)) (s:ByteArray) (t:Int):Bool:=ctlB n ss fl ins ws && repB fl s t
end Go.Proofs.YtaefoaghpehbpaaGreat
