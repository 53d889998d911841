/- What functions compute. No condition. -/
import Derived.Test.YtcdpeopiajgljaaGreatDoorUz
import Derived.Test.YtcdpeopiajgljaaGreatDoorUty
import Derived.Test.YtcdpeopiajgljaaGreatDoorUmG
import Derived.Test.YtcdpeopiajgljaaGreatDoorX15
import Derived.Test.YtcdpeopiajgljaaGreatDoorX27
set_option linter.unusedSimpArgs false
set_option linter.unusedVariables false
set_option linter.defProp false
namespace Go.Proofs.YtcdpeopiajgljaaGreatDoor
open Go Go.Vm
set_option maxHeartbeats 8000000
theorem chain_ins {α:Type} {ok:α→Bool} {bf:α→α→Bool} {c:α} (hc:ok c=true):∀{A B:List α} {p:Option α},chainFrom ok bf p (A++B)=true→(∀y,(A.getLast?.or p)=some y→bf y c=true)→(∀y,B.head? =some y→bf c y=true)→chainFrom ok bf p (A++c::B)=true
  | [], B,p,h,h1,h2=>by
    have ht:chainFrom ok bf (some c) B=true:=by
      cases B with
      | nil=>rfl
      | cons y B=>
        have hb:=h2 y rfl
        cases p<;>simp [chainFrom] at h⊢<;>simp [h,hb]
    cases p with
    | none=>simp [chainFrom,hc,ht]
    | some q=>simp [chainFrom,hc,ht,h1 q rfl]
  | a ::A,B,p,h,h1,h2=>by
    have hr:chainFrom ok bf (some a) (A++B)=true:=by cases p<;>simp [chainFrom] at h<;>simp [h]
    have ih:=chain_ins hc (A:=A) (B:=B) (p:=some a) hr (fun y hy=>h1 y (by
      cases A with
      | nil=>simpa using hy
      | cons b A=>
        obtain ⟨z,e⟩:∃z,(b::A).getLast? =some z:=⟨_,List.getLast?_eq_some_getLast (by simp)⟩
        rw [e] at hy
        rw [List.getLast?_cons_cons,e]
        exact hy)) h2
    cases p<;>simp [chainFrom] at h⊢<;>simp [h,ih]
theorem add_good {l:List (Int×Int×Int×Int×Int)} {c:(Int×Int×Int×Int×Int)} (h:adB l c=true):csB (addL l c)=true:=by
  rw [adB,Bool.and_eq_true,Bool.and_eq_true,Bool.not_eq_true',decide_eq_false_iff_not] at h
  obtain ⟨⟨h1,h2⟩,h3⟩:=h
  have hl:=cs_len h1
  have hle:=insC_le l c
  have hsp:=insAtC_spec l c.1 l.length (Nat.le_refl _)
  have hch:chainAt cOne cBefore l 0=true:=by
    rw [csB,Bool.and_eq_true] at h1;exact h1.1
  have hf:chainFrom cOne cBefore none (l.take (insC l c)++l.drop (insC l c))=true:=by
    rw [List.take_append_drop];simpa [chainAt] using hch
  have hi : chainFrom cOne cBefore none (addL l c)=true:=by
    rw [addL]
    refine chain_ins h2 hf (fun y hy=> ?_) (fun y hy=> ?_)
    · rw [Option.or_none,List.getLast?_eq_getElem?,List.length_take] at hy
      rcases hsp.2 with e | ⟨z,hz,hzc⟩
      · have e2:insC l c=0:=e
        rw [e2] at hy
        simp at hy
      · have e2:insAtC l c.1 l.length=insC l c:=rfl
        rw [e2] at hz
        rw [show min (insC l c) l.length=insC l c by omega,List.getElem?_take] at hy
        split at hy
        · rw [hz] at hy
          cases hy
          rw [cBefore,decide_eq_true_eq];exact hzc
        · cases hy
    · rw [List.head?_drop] at hy
      have hlt:=(List.getElem?_eq_some_iff.1 hy).1
      have:=hsp.1 (insC l c) y (Nat.le_refl _) hlt hy
      rw [cBefore,decide_eq_true_eq];omega
  rw [csB,Bool.and_eq_true,decide_eq_true_eq,addL_len]
  exact ⟨by simpa [chainAt] using hi,by omega⟩
theorem adR_yes {l:List (Int×Int×Int×Int×Int)} {c:(Int×Int×Int×Int×Int)} (h:adB l c=true):adR l c=addL l c:=if_pos h
theorem adR_len (l:List (Int×Int×Int×Int×Int)) (c:(Int×Int×Int×Int×Int)):(adR l c).length≤l.length+1:=by
  rw [adR];split
  · rw [addL_len];exact Nat.le_refl _
  · exact Nat.zero_le _
theorem rpR_len (l:List (Int×Int×Int×Int×Int)) (w:Int):(rpR l w).length≤l.length:=by
  rw [rpR];split
  · exact rpTo_len _ _ _
  · exact Nat.zero_le _
theorem rpR_has {l:List (Int×Int×Int×Int×Int)} {w:Int} {i:Nat} {x:(Int×Int×Int×Int×Int)} (h:rpB l w=true) (hx:l[i]? =some x):decide ((i:Int)∈rpR l w)=(l.take i).any (befB w x):=by
  have hi:=(List.getElem?_eq_some_iff.1 hx).1
  rw [rpR,if_pos h,←rpAt_at hx,Bool.eq_iff_iff,decide_eq_true_eq,rpTo_mem hi]
theorem bwV_facts {l:List (Int×Int×Int×Int×Int)} {n:Int} (h:bwB l n=true):1≤(bwV l n).2∧(bwV l n).2≤l.length:=by
  have h2:=h
  rw [bwB,Bool.and_eq_true,Bool.and_eq_true,Bool.and_eq_true,decide_eq_true_eq,decide_eq_true_eq,decide_eq_true_eq] at h2
  rw [bwV,if_pos h]
  exact ⟨bwTo_pos h2.1.2.1 h2.2 (Nat.le_refl _),bwTo_le _ _ _⟩
theorem cells_call (x c:(Int×Int×Int×Int×Int)):cellsEq [.int .i64 x.1,.int .i64 x.2.1,.int .i64 x.2.2.1,.int .i64 x.2.2.2.1,.int .i64 x.2.2.2.2] [.int .i64 c.1,.int .i64 c.2.1,.int .i64 c.2.2.1,.int .i64 c.2.2.2.1,.int .i64 c.2.2.2.2]=decide (x=c):=by
  obtain ⟨x0,x1,x2,x3,x4⟩:=x
  obtain ⟨c0,c1,c2,c3,c4⟩:=c
  simp [cellsEq,cellEq,Prod.mk.injEq,Bool.decide_and]
theorem take_has {A:List (Int×Int×Int×Int×Int)} {i:Nat} {x c:(Int×Int×Int×Int×Int)} (h:A[i]? =some x):decide (c∈A.take (i+1))=(decide (c∈A.take i) || decide (x=c)):=by
  rw [List.take_add_one,h,Option.toList_some,Bool.eq_iff_iff,Bool.or_eq_true,decide_eq_true_eq,decide_eq_true_eq,decide_eq_true_eq,List.mem_append,List.mem_singleton]
  exact ⟨fun h=>h.imp id fun e=>e.symm,fun h=>h.imp id fun e=>e.symm⟩
end Go.Proofs.YtcdpeopiajgljaaGreatDoor
