/- What functions compute. No condition. -/
import Derived.Test.YtmhaafinhpopmaaGreatDoorX1
set_option linter.unusedSimpArgs false
set_option linter.unusedVariables false
set_option linter.defProp false
namespace Go.Proofs.YtmhaafinhpopmaaGreatDoor
open Go Go.Vm
set_option maxHeartbeats 8000000
def firstP {α:Type} (p:α→Bool):Nat→List α→Int
  | _,[]=>-1
  | i,x::l=>if p x=true then i else firstP p (i+1) l
theorem first_step {α:Type} {p:α→Bool} {l:List α} {i:Nat} {x:α} (h:l[i]? =some x):firstP p i (l.drop i)=if p x=true then (i:Int) else firstP p (i+1) (l.drop (i+1)):=by
  rw [getElem_drop_cons h,firstP]
theorem first_end {α:Type} {p:α→Bool} {l:List α} {i k:Nat} (h:l.length≤i):firstP p k (l.drop i)=-1:=by
  rw [qle h,firstP]
theorem first_any {α:Type} (p:α→Bool):∀(l:List α) (i:Nat),decide (0≤firstP p i l)=l.any p
  | [],i=>by rw [firstP];rfl
  | x::l,i=>by
    rw [firstP,List.any_cons]
    by_cases h:p x=true
    · rw [if_pos h,h];simp
    · rw [if_neg h,first_any p l (i+1),Bool.eq_false_iff.2 h];rfl
theorem first_none {α:Type} {p:α→Bool}:∀{l:List α} {i:Nat},firstP p i l=-1→l.filter (fun x=> !p x)=l
  | [],_,_=>rfl
  | x ::l,i,h=>by
    rw [firstP] at h
    by_cases q:p x=true
    · rw [if_pos q] at h;omega
    · rw [if_neg q] at h
      rw [List.filter_cons,if_pos (by simp [q]),first_none h]
theorem first_some {α:Type} {p:α→Bool}:∀{l:List α} {i:Nat},firstP p i l≠-1→∃k,k < l.length∧firstP p i l=((i+k:Nat):Int)∧(l.take (k+1)).filter (fun x=> !p x)=l.take k∧∃x,l[k]? =some x∧p x=true
  | [],i,h=>absurd rfl h
  | x ::l,i,h=>by
    rw [firstP] at h⊢
    by_cases q:p x=true
    · rw [if_pos q]
      exact ⟨0,by simp,by simp,by simp [q],x,rfl,q⟩
    · rw [if_neg q] at h⊢
      obtain ⟨k,h1,h2,h3,y,h4,h5⟩:=first_some (l:=l) h;refine ⟨k+1,by simp;exact h1,by rw [h2];congr 1;omega,?_,y,by simpa using h4,h5⟩;rw [List.take_succ_cons,List.filter_cons,if_pos (by simp [q]),h3,List.take_succ_cons]
theorem del_end {α:Type} {p:α→Bool} {l ys:List α} {i j:Nat} (h1:i≤ys.length) (hj:l.length≤j) (h:ys.take i=(l.take j).filter (fun x=> !p x)):i=(l.filter (fun x=> !p x)).length∧ys.take i=l.filter (fun x=> !p x):=by
  rw [List.take_of_length_le hj] at h;refine ⟨?_,h⟩;rw [←h,qln];omega
theorem del_keep {α:Type} {p:α→Bool} {l ys:List α} {i j:Nat} {x:α} (hij:i≤j) (hjl:ys.length=l.length) (hx:l[j]? =some x) (hp:p x=false) (h:ys.take i=(l.take j).filter (fun x=> !p x)) (hd:ys.drop j=l.drop j) :
    (ys.set i x).take (i+1)=(l.take (j+1)).filter (fun x=> !p x)∧(ys.set i x).drop (j+1)=l.drop (j+1):=by
  have hj:j < l.length:=(qlc.1 hx).1;constructor
  · rw [List.take_add_one,List.take_add_one,hx,List.filter_append,←h,qlm (by omega),List.take_set,List.set_eq_of_length_le (by rw [qln];omega)]
    simp [hp]
  · rw [List.drop_set,if_pos (by omega)]
    have:=congrArg (List.drop 1) hd
    rwa [List.drop_drop,List.drop_drop] at this
theorem del_drop {α:Type} {p:α→Bool} {l ys:List α} {i j:Nat} {x:α} (hx:l[j]? =some x) (hp:p x=true) (h:ys.take i=(l.take j).filter (fun x=> !p x)) (hd:ys.drop j=l.drop j) :
    ys.take i=(l.take (j+1)).filter (fun x=> !p x)∧ys.drop (j+1)=l.drop (j+1):=by
  constructor
  · rw [List.take_add_one,hx,List.filter_append,←h];simp [hp]
  · have:=congrArg (List.drop 1) hd
    rwa [List.drop_drop,List.drop_drop] at this
theorem del_get {α:Type} {l ys:List α} {j:Nat} {x:α} (hx:l[j]? =some x) (hd:ys.drop j=l.drop j):ys[j]? =some x:=by
  have:=congrArg (fun z=>z[0]?) hd;simpa [hx] using this
namespace Tm
def le (a b:Int):Prop:=b < 0∨(0≤a∧a≤b)
theorem le_refl (a:Int):le a a:=by unfold le;omega
theorem le_trans {a b c:Int} (h:le a b) (k:le b c):le a c:=by unfold le at *;omega
def at_ (x:List Int) (v:Nat):Int:=x.getD v (-1)
theorem ext {x y:List Int} (hl:x.length=y.length) (h:∀v,v < x.length→at_ x v=at_ y v):x=y:=by
  apply List.ext_getElem hl;intro v h1 h2;have:=h v h1;simpa [at_,List.getD_eq_getElem?_getD,h1,h2] using this
end Tm
namespace Tm
end Tm
end Go.Proofs.YtmhaafinhpopmaaGreatDoor
