/- What functions compute. No condition. -/
import Derived.Test.YtmbbjhopngejaaaGreatDoorX17
set_option linter.unusedSimpArgs false
set_option linter.unusedVariables false
set_option linter.defProp false
namespace Go.Proofs.YtmbbjhopngejaaaGreatDoor
open Go Go.Vm
set_option maxHeartbeats 8000000
def b8u (s:Int):List Int:=if s=0 then [1,5] else if s=1 then [2,0] else if s=2 then [3,4] else if s=3 then [4] else if s=4 then [0,1,5] else [0]
def b7o (s:Int):List Int:=if s=0 then [1,5] else if s=1 then [0,2] else if s=2 then [3,4] else if s=3 then [4] else if s=4 then [0,1,5] else [0]
theorem d7s (s:Int):(b8u s).length≤3∧(b7o s).length≤3:=by
  unfold b8u b7o;repeat' split
  all_goals simp
theorem f47 (s t:Int):t∈b7o s↔t∈b8u s:=by
  unfold b8u b7o;repeat' split
  all_goals simp [or_comm]
def c4i (fl:List TA) (s:ByteArray) (t:Int):Bool:=decide (0≤b3o fl s) && (decide (0≤t) && decide (t≤5)) && decide (t∈b8u (stA fl s))
def d7k (fl:List TA) (s:ByteArray) (t:Int):List TA:=match fl[(b3o fl s).toNat]? with
  | some a=>fl.set (b3o fl s).toNat (a.1,a.2.1,a.2.2.1,a.2.2.2.1,t)
  | none=>fl
theorem d2d {fl:List TA} {s:ByteArray} {t:Int} {k:Nat} {a:TA} (h1:b3o fl s=(k:Int)) (h2:fl[k]? =some a):d7k fl s t=fl.set k (a.1,a.2.1,a.2.2.1,a.2.2.2.1,t):=by
  rw [d7k,h1,qli,h2]
theorem d3o (fl:List TA) (s:ByteArray) (t:Int):(b3o fl s=-1∧c4i fl s t=false)∨(∃(k:Nat) (a:TA),b3o fl s=(k:Int)∧fl[k]? =some a∧(decide (0≤t) && decide (t≤5))=false∧c4i fl s t=false)∨
    ∃(k:Nat) (a:TA),b3o fl s=(k:Int)∧fl[k]? =some a∧(decide (0≤t) && decide (t≤5))=true∧c4i fl s t=decide (t∈b8u a.2.2.2.2):=by
  rcases b8h fl s with h | ⟨k,a,h1,h2,_⟩
  · exact .inl ⟨h,by rw [c4i,h];rfl⟩
  · right
    cases q:(decide (0≤t) && decide (t≤5)) with
    | false=>exact .inl ⟨k,a,h1,h2,rfl,by rw [c4i,q];simp⟩
    | true=>exact .inr ⟨k,a,h1,h2,rfl,by rw [c4i,q,c98 h1 h2,h1,decide_eq_true (show (0:Int)≤(k:Int) by omega)];rfl⟩
def c18 (fl:List TA) (s:ByteArray) (t:Int):Bool:=c4i fl s t && !decide (t=1)
def c9m (ins:List TI) (s:ByteArray) (t:Int):List TI:=if 0≤b4v ins s∧¬(1≤t∧t≤3) then (match ins[(b4v ins s).toNat]? with
  | some x=>ins.set (b4v ins s).toNat (x.1,x.2.1,x.2.2.1,x.2.2.2.filter fun y=> !decide (y=s))
  | none=>ins) else ins
theorem d54 {ins:List TI} {s:ByteArray} {t:Int} (h:¬(0≤b4v ins s∧¬(1≤t∧t≤3))):c9m ins s t=ins:=by rw [c9m,if_neg h]
theorem d6v {ins:List TI} {s:ByteArray} {t:Int} {k:Nat} {x:TI} (h:¬(1≤t∧t≤3)) (h1:b4v ins s=(k:Int)) (h2:ins[k]? =some x):c9m ins s t=ins.set k (x.1,x.2.1,x.2.2.1,x.2.2.2.filter fun y=> !decide (y=s)):=by
  rw [c9m,if_pos ⟨by omega,h⟩,h1,qli,h2]
theorem f5v (ins:List TI) (s:ByteArray) (t:Int):(c9m ins s t).length=ins.length:=by
  rw [c9m];split
  · split
    · rw [qlp]
    · rfl
  · rfl
theorem f77 {s:ByteArray} {l:List ByteArray} (h:inS s l=true):l≠[]:=by
  intro e;subst e;simp [inS] at h
theorem d52 {s:St} {ls:List Nat} {id i off j:Nat} {cs cs':List V} (h:idx ls id=some j) (h2:b1w s ls cs=some cs'):b1w s ls (.ptr id i off::cs)=some (.ptr j i off::cs'):=by
  have e:b3e s ls (.ptr id i off)=some (.ptr j i off):=by cases i<;>simp [b3e,b1q,h]
  rw [b1w,e,h2]
def d2s (n:Int) (ss:List TS) (fl:List TA) (ins:List TI) (ws:List TW) (s:ByteArray) (t:Int):Bool:=b2o n ss fl ins ws && c18 fl s t
end Go.Proofs.YtmbbjhopngejaaaGreatDoor
