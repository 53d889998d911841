/- What functions compute. No condition. -/
import Derived.Test.YtaefoaghpehbpaaGreatDoorUz
import Derived.Test.YtaefoaghpehbpaaGreatDoorUty
import Derived.Test.YtaefoaghpehbpaaGreatDoorUmG
import Derived.Test.YtaefoaghpehbpaaGreatDoorX1
set_option linter.unusedSimpArgs false
set_option linter.unusedVariables false
set_option linter.defProp false
namespace Go.Proofs.YtaefoaghpehbpaaGreatDoor
open Go Go.Vm
set_option maxHeartbeats 8000000
def firstP {α:Type} (p:α→Bool):Nat→List α→Int
  | _,[]=>-1
  | i,x::l=>if p x=true then i else firstP p (i+1) l
theorem first_step {α:Type} {p:α→Bool} {l:List α} {i:Nat} {x:α} (h:l[i]? =some x):firstP p i (l.drop i)=if p x=true then (i:Int) else firstP p (i+1) (l.drop (i+1)):=by
  rw [getElem_drop_cons h,firstP]
theorem first_end {α:Type} {p:α→Bool} {l:List α} {i k:Nat} (h:l.length≤i):firstP p k (l.drop i)=-1:=by
  rw [List.drop_of_length_le h,firstP]
theorem first_any {α:Type} (p:α→Bool):∀(l:List α) (i:Nat),decide (0≤firstP p i l)=l.any p
  | [],i=>by rw [firstP];rfl
  | x::l,i=>by
    rw [firstP,List.any_cons]
    by_cases h:p x=true
    · rw [if_pos h,h];simp
    · rw [if_neg h,first_any p l (i+1),Bool.eq_false_iff.2 h];rfl
theorem first_none {α:Type} {p:α→Bool}:∀{l:List α} {i:Nat},firstP p i l=-1→l.filter (fun x=> !p x)=l
  | [],_,_=>rfl
  | x ::l,i,h=>by
    rw [firstP] at h
    by_cases q:p x=true
    · rw [if_pos q] at h;omega
    · rw [if_neg q] at h
      rw [List.filter_cons,if_pos (by simp [q]),first_none h]
theorem first_some {α:Type} {p:α→Bool}:∀{l:List α} {i:Nat},firstP p i l≠-1→∃k,k < l.length∧firstP p i l=((i+k:Nat):Int)∧(l.take (k+1)).filter (fun x=> !p x)=l.take k∧∃x,l[k]? =some x∧p x=true
  | [],i,h=>absurd rfl h
  | x ::l,i,h=>by
    rw [firstP] at h⊢
    by_cases q:p x=true
    · rw [if_pos q]
      exact ⟨0,by simp,by simp,by simp [q],x,rfl,q⟩
    · rw [if_neg q] at h⊢
      obtain ⟨k,h1,h2,h3,y,h4,h5⟩:=first_some (l:=l) h
      refine ⟨k+1,by simp;exact h1,by rw [h2];congr 1;omega,?_,y,by simpa using h4,h5⟩
      rw [List.take_succ_cons,List.filter_cons,if_pos (by simp [q]),h3,List.take_succ_cons]
theorem del_end {α:Type} {p:α→Bool} {l ys:List α} {i j:Nat} (h1:i≤ys.length) (hj:l.length≤j) (h:ys.take i=(l.take j).filter (fun x=> !p x)):i=(l.filter (fun x=> !p x)).length∧ys.take i=l.filter (fun x=> !p x):=by
  rw [List.take_of_length_le hj] at h
  refine ⟨?_,h⟩
  rw [←h,List.length_take];omega
theorem del_keep {α:Type} {p:α→Bool} {l ys:List α} {i j:Nat} {x:α} (hij:i≤j) (hjl:ys.length=l.length) (hx:l[j]? =some x) (hp:p x=false) (h:ys.take i=(l.take j).filter (fun x=> !p x)) (hd:ys.drop j=l.drop j) :
    (ys.set i x).take (i+1)=(l.take (j+1)).filter (fun x=> !p x)∧(ys.set i x).drop (j+1)=l.drop (j+1):=by
  have hj:j < l.length:=(List.getElem?_eq_some_iff.1 hx).1
  constructor
  · rw [List.take_add_one,List.take_add_one,hx,List.filter_append,←h,List.getElem?_set_self (by omega),List.take_set,List.set_eq_of_length_le (by rw [List.length_take];omega)]
    simp [hp]
  · rw [List.drop_set,if_pos (by omega)]
    have:=congrArg (List.drop 1) hd
    rwa [List.drop_drop,List.drop_drop] at this
theorem del_drop {α:Type} {p:α→Bool} {l ys:List α} {i j:Nat} {x:α} (hx:l[j]? =some x) (hp:p x=true) (h:ys.take i=(l.take j).filter (fun x=> !p x)) (hd:ys.drop j=l.drop j) :
    ys.take i=(l.take (j+1)).filter (fun x=> !p x)∧ys.drop (j+1)=l.drop (j+1):=by
  constructor
  · rw [List.take_add_one,hx,List.filter_append,←h];simp [hp]
  · have:=congrArg (List.drop 1) hd
    rwa [List.drop_drop,List.drop_drop] at this
theorem del_get {α:Type} {l ys:List α} {j:Nat} {x:α} (hx:l[j]? =some x) (hd:ys.drop j=l.drop j):ys[j]? =some x:=by
  have:=congrArg (fun z=>z[0]?) hd
  simpa [hx] using this
namespace Tm
def le (a b:Int):Prop:=b < 0∨(0≤a∧a≤b)
theorem le_refl (a:Int):le a a:=by unfold le;omega
theorem le_trans {a b c:Int} (h:le a b) (k:le b c):le a c:=by unfold le at *;omega
def at_ (x:List Int) (v:Nat):Int:=x.getD v (-1)
def trig (x:List Int) (e:(Nat×Nat×Int)):Bool:=decide (0≤at_ x e.1) && (decide (at_ x e.2.1 < 0) || decide (at_ x e.1+e.2.2 < at_ x e.2.1))
def relax (x:List Int) (e:(Nat×Nat×Int)):List Int:=if trig x e=true then x.set e.2.1 (at_ x e.1+e.2.2) else x
def Good (n:Nat) (e:(Nat×Nat×Int)):Prop:=e.1 < n∧e.2.1 < n∧e.1≠e.2.1∧1≤e.2.2
theorem at_set (x:List Int) (v u:Nat) (a:Int) (h:v < x.length):at_ (x.set v a) u=if u=v then a else at_ x u:=by
  unfold at_
  by_cases q:u=v
  · subst q;simp [List.getD_eq_getElem?_getD,h]
  · rw [if_neg q,List.getD_eq_getElem?_getD,List.getD_eq_getElem?_getD,List.getElem?_set_ne (fun z=>q z.symm)]
theorem relax_len (x:List Int) (e:(Nat×Nat×Int)):(relax x e).length=x.length:=by
  unfold relax;split<;>simp
theorem relax_le {n:Nat} {x:List Int} {e:(Nat×Nat×Int)} (hx:x.length=n) (he:Good n e) (v:Nat):le (at_ (relax x e) v) (at_ x v):=by
  unfold relax
  split
  · rename_i h
    rw [at_set _ _ _ _ (by rw [hx];exact he.2.1)]
    split
    · rename_i q
      subst q
      simp only [trig,Bool.and_eq_true,Bool.or_eq_true,decide_eq_true_eq] at h
      have:=he.2.2.2
      unfold le;omega
    · exact le_refl _
  · exact le_refl _
structure Inv (n node:Nat) (es:List (Nat×Nat×Int)) (x:List Int):Prop where
  len:x.length=n
  src:at_ x node=0
  low:∀v,-1≤at_ x v
  sup:∀v,v≠node→0≤at_ x v→∃e∈es,e.2.1=v∧0≤at_ x e.1∧at_ x e.1+e.2.2≤at_ x v
theorem Inv.relax {n node:Nat} {es:List (Nat×Nat×Int)} {x:List Int} (h:Inv n node es x) {d:(Nat×Nat×Int)} (hd:d∈es) (hg:∀e∈es,Good n e):Inv n node es (relax x d):=by
  have hgd:=hg d hd
  have hle:=relax_le h.len hgd
  by_cases ht:trig x d=true
  · have hr : Tm.relax x d=x.set d.2.1 (at_ x d.1+d.2.2):=by rw [Tm.relax,if_pos ht]
    have hset:∀u,at_ (Tm.relax x d) u=if u=d.2.1 then at_ x d.1+d.2.2 else at_ x u:=fun u=>by rw [hr];exact at_set _ _ _ _ (by rw [h.len];exact hgd.2.1)
    have ht':=ht
    simp only [trig,Bool.and_eq_true,Bool.or_eq_true,decide_eq_true_eq] at ht'
    have hw:=hgd.2.2.2
    have hne:node≠d.2.1:=by
      intro q
      have:=h.src
      rw [q] at this
      omega
    refine ⟨by rw [relax_len];exact h.len,by rw [hset,if_neg hne];exact h.src,fun v=> ?_,fun v hv h0=> ?_⟩
    · rw [hset];split
      · omega
      · exact h.low v
    · rw [hset] at h0
      by_cases q:v=d.2.1
      · subst q
        refine ⟨d,hd,rfl,?_,?_⟩
        · rw [hset,if_neg hgd.2.2.1];exact ht'.1
        · rw [hset,hset,if_pos rfl,if_neg hgd.2.2.1];exact Int.le_refl _
      · rw [if_neg q] at h0
        obtain ⟨e,e1,e2,e3,e4⟩:=h.sup v hv h0
        refine ⟨e,e1,e2,?_,?_⟩
        · rw [hset];split
          · omega
          · exact e3
        · rw [hset v,if_neg q,hset];split
          · rename_i z
            rw [z] at e3 e4
            omega
          · exact e4
  · have:Tm.relax x d=x:=by rw [Tm.relax,if_neg ht]
    rw [this];exact h
theorem ext {x y:List Int} (hl:x.length=y.length) (h:∀v,v < x.length→at_ x v=at_ y v):x=y:=by
  apply List.ext_getElem hl
  intro v h1 h2
  have:=h v h1
  simpa [at_,List.getD_eq_getElem?_getD,h1,h2] using this
end Tm
namespace Tm
def chgB:List Int→List (Nat×Nat×Int)→Bool
  | _,[]=>false
  | x,e::es=>trig x e || chgB (relax x e) es
def Ub (b:Int) (x:List Int):Prop:=∀v,at_ x v≤b
theorem Ub.relax {n:Nat} {b:Int} {x:List Int} {e:Nat×Nat×Int} (h:Ub b x) (hx:x.length=n) (hg:Good n e) (hw:e.2.2≤3600):Ub (b+3600) (relax x e):=by
  intro v
  have h1:=h v
  have h2:=h e.1
  unfold Tm.relax
  split
  · rw [at_set _ _ _ _ (by rw [hx];exact hg.2.1)];split<;>omega
  · omega
end Tm
end Go.Proofs.YtaefoaghpehbpaaGreatDoor
