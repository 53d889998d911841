/- What functions compute. No condition. -/
import Derived.Test.YtmhaafinhpopmaaGreatDoorUz
import Derived.Test.YtmhaafinhpopmaaGreatDoorUty
set_option linter.unusedSimpArgs false
set_option linter.unusedVariables false
set_option linter.defProp false
namespace Go.Proofs.YtmhaafinhpopmaaGreatDoor
open Go Go.Vm
set_option maxHeartbeats 8000000
theorem inside_con (n lo hi:Int):Con Tryz.prog 57 [.int .i64 n,.int .i64 lo,.int .i64 hi] [] (.bool (decide (lo≤n) && decide (n≤hi))) []:=by
 refine v_con [.tmp 6] [] Tryz.func57 rfl rfl rfl (by simp [Tryz.ntmps57]) ?_;intro Q0 n0 r0;simp only [Tryz.ntmps57,envFrom,Nat.reduceAdd];have T:=Tys.mk Ty.t3;have F:=Fc.mk True.intro;refine yR [0,1,2] ⟨?_⟩;refine yR [6] ⟨?_⟩;refine zr ⟨?_⟩;exact ret_pure rfl (by first | rfl | simp) (.inl rfl)
theorem l1In_con (n lo hi:Int):Con Tryz.prog 61 [.int .i64 n,.int .i64 lo,.int .i64 hi] [] (.bool (decide (lo≤n) && decide (n≤hi))) []:=by
 refine v_con [.tmp 6] [] Tryz.func61 rfl rfl rfl (by simp [Tryz.ntmps61]) ?_;intro Q0 n0 r0;simp only [Tryz.ntmps61,envFrom,Nat.reduceAdd];have T:=Tys.mk Ty.t3;have F:=Fc.mk True.intro;refine yR [0,1,2] ⟨?_⟩;refine yR [6] ⟨?_⟩;refine zr ⟨?_⟩;exact ret_pure rfl (by first | rfl | simp) (.inl rfl)
theorem getElem_drop_cons {α:Type} {l:List α} {i:Nat} {x:α} (h:l[i]? =some x):l.drop i=x::l.drop (i+1):=by
  obtain ⟨hi,rfl⟩:=qlt.1 h;exact List.drop_eq_getElem_cons hi
theorem l1Most_con (a b:Int):Con Tryz.prog 161 [.int .i64 a,.int .i64 b] [] (.int .i64 (if b > a then b else a)) []:=by
 refine v_con [.tmp 4] [] Tryz.func161 rfl rfl rfl (by simp [Tryz.ntmps161]) ?_;intro Q0 n0 r0;simp only [Tryz.ntmps161,envFrom,Nat.reduceAdd];have T:=Tys.mk Ty.t3;have F:=Fc.mk True.intro;refine yR [0,1] ⟨?_⟩;refine v_seq ?_;intros;refine yR [0,1,7] ⟨?_⟩;refine v_condS _ rfl ?_ ?_
 ·intro hc0;refine yR [4] ⟨?_⟩;refine zr ⟨?_⟩;exact ret_pure rfl (by congr 1;split<;>omega) (.inl rfl)
 ·intro hc0;refine zn [1] ⟨?_⟩;refine yR [4] ⟨?_⟩;refine zr ⟨?_⟩;exact ret_pure rfl (by congr 1;split<;>omega) (.inl rfl)
def chainFrom {α:Type} (ok:α→Bool) (bf:α→α→Bool):Option α→List α→Bool
  | _,[]=>true
  | none,x::l=>ok x && chainFrom ok bf (some x) l
  | some p,x::l=>ok x && bf p x && chainFrom ok bf (some x) l
def chainAt {α:Type} (ok:α→Bool) (bf:α→α→Bool) (l:List α) (i:Nat):Bool:=chainFrom ok bf (if i=0 then none else l[i - 1]?) (l.drop i)
theorem chain_zero {α:Type} {ok:α→Bool} {bf:α→α→Bool} {l:List α} {x:α} (h:l[0]? =some x):chainAt ok bf l 0=(ok x && chainAt ok bf l 1):=by
  simp only [chainAt,getElem_drop_cons h,if_true,chainFrom];simp [h]
theorem chain_succ {α:Type} {ok:α→Bool} {bf:α→α→Bool} {l:List α} {x y:α} {i:Nat} (h0:0 < i) (hy:l[i - 1]? =some y) (h:l[i]? =some x):chainAt ok bf l i=(ok x && bf y x && chainAt ok bf l (i+1)):=by
  simp only [chainAt,getElem_drop_cons h,hy,show ¬i=0 by omega,if_false,chainFrom];simp [h]
theorem chain_end {α:Type} {ok:α→Bool} {bf:α→α→Bool} {l:List α} {i:Nat} (h:l.length≤i):chainAt ok bf l i=true:=by
  simp only [chainAt,List.drop_of_length_le h];split<;>rfl
theorem chainFrom_ok {α:Type} {ok:α→Bool} {bf:α→α→Bool}:∀{l:List α} {p:Option α},chainFrom ok bf p l=true→∀x∈l,ok x=true
  | [],_,_,x,hx=>by cases hx
  | y ::l,p,h,x,hx=>by
    have h2:ok y=true∧chainFrom ok bf (some y) l=true:=by
      cases p<;>simp [chainFrom] at h<;>simp [h]
    rcases ql4.1 hx with rfl | h3
    · exact h2.1
    · exact chainFrom_ok h2.2 x h3
theorem chain_ok {α:Type} {ok:α→Bool} {bf:α→α→Bool} {l:List α} (h:chainAt ok bf l 0=true):∀x∈l,ok x=true:=chainFrom_ok h
end Go.Proofs.YtmhaafinhpopmaaGreatDoor
