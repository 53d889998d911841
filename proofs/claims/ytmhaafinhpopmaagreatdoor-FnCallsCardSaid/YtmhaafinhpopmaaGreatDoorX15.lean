/- What functions compute. No condition. -/
import Derived.Test.YtmhaafinhpopmaaGreatDoorX10
set_option linter.unusedSimpArgs false
set_option linter.unusedVariables false
set_option linter.defProp false
namespace Go.Proofs.YtmhaafinhpopmaaGreatDoor
open Go Go.Vm
set_option maxHeartbeats 8000000
def insAtC (l:List (Int×Int×Int×Int×Int)) (m:Int):Nat→Nat
  | 0=>0
  | k+1=>match l[k]? with
    | some y=>if m < y.1 then insAtC l m k else k+1
    | none=>k+1
theorem insAtC_hi {l:List (Int×Int×Int×Int×Int)} {m:Int} {k:Nat} {y:(Int×Int×Int×Int×Int)} (hy:l[k]? =some y) (h:m < y.1):insAtC l m (k+1)=insAtC l m k:=by rw [insAtC,hy];simp only [if_pos h]
theorem insAtC_lo {l:List (Int×Int×Int×Int×Int)} {m:Int} {k:Nat} {y:(Int×Int×Int×Int×Int)} (hy:l[k]? =some y) (h:¬m < y.1):insAtC l m (k+1)=k+1:=by rw [insAtC,hy];simp only [if_neg h]
theorem insAtC_le (l:List (Int×Int×Int×Int×Int)) (m:Int):∀k,insAtC l m k≤k
  | 0=>qlf _
  | k + 1=>by
    rw [insAtC];cases l[k]? with
    | none=>exact qlf _
    | some y=>
      show (if m < y.1 then _ else _)≤_;split
      · exact Nat.le_succ_of_le (insAtC_le l m k)
      · exact qlf _
def insC (l:List (Int×Int×Int×Int×Int)) (c:(Int×Int×Int×Int×Int)):Nat:=insAtC l c.1 l.length
theorem insC_le (l:List (Int×Int×Int×Int×Int)) (c:(Int×Int×Int×Int×Int)):insC l c≤l.length:=insAtC_le _ _ _
def addL (l:List (Int×Int×Int×Int×Int)) (c:(Int×Int×Int×Int×Int)):List (Int×Int×Int×Int×Int):=l.take (insC l c)++c::l.drop (insC l c)
def adB (l:List (Int×Int×Int×Int×Int)) (c:(Int×Int×Int×Int×Int)):Bool:=csB l && cOne c && !decide ((l.length:Int)=20)
def adR (l:List (Int×Int×Int×Int×Int)) (c:(Int×Int×Int×Int×Int)):List (Int×Int×Int×Int×Int):=if adB l c=true then addL l c else []
theorem addL_len (l:List (Int×Int×Int×Int×Int)) (c:(Int×Int×Int×Int×Int)):(addL l c).length=l.length+1:=by
  have:=insC_le l c;rw [addL,qlg,List.length_cons,qlk,List.length_drop];omega
theorem addL_mem (l:List (Int×Int×Int×Int×Int)) (c:(Int×Int×Int×Int×Int)):c∈addL l c:=qlw _ (qle ..)
theorem insAtC_spec (l:List (Int×Int×Int×Int×Int)) (m:Int):∀k,k≤l.length→(∀j y,insAtC l m k≤j→j < k→l[j]? =some y→m < y.1)∧(insAtC l m k=0∨∃y,l[insAtC l m k - 1]? =some y∧y.1≤m)
  | 0,_=>⟨fun j y _ h=>absurd h (Nat.not_lt_zero _),.inl rfl⟩
  | k + 1,hk=>by
    have hy:l[k]? =some l[k]:=qla (by omega)
    by_cases h:m < (l[k]).1
    · rw [insAtC_hi hy h]
      obtain ⟨h1,h2⟩:=insAtC_spec l m k (by omega);refine ⟨fun j y q1 q2 q3=> ?_,h2⟩
      by_cases e:j=k
      · subst e;rw [hy] at q3;cases q3;exact h
      · exact h1 j y q1 (by omega) q3
    · rw [insAtC_lo hy h]
      exact ⟨fun j y q1 q2=>by omega,.inr ⟨l[k],by rw [Nat.add_sub_cancel];exact hy,by omega⟩⟩
def befB (w:Int) (x y:(Int×Int×Int×Int×Int)):Bool:=decide (y.2.2.2.2=x.2.2.2.2) && decide (x.1 - y.1≤w)
def rpAt (l:List (Int×Int×Int×Int×Int)) (w:Int) (i:Nat):Bool:=match l[i]? with
  | some x=>(l.take i).any (befB w x)
  | none=>false
theorem rpAt_at {l:List (Int×Int×Int×Int×Int)} {w:Int} {i:Nat} {x:(Int×Int×Int×Int×Int)} (h:l[i]? =some x):rpAt l w i=(l.take i).any (befB w x):=by rw [rpAt,h]
def rpTo (l:List (Int×Int×Int×Int×Int)) (w:Int) (n:Nat):List Int:=((List.range n).filter (rpAt l w)).map fun j:Nat=>(j:Int)
theorem rpTo_step (l:List (Int×Int×Int×Int×Int)) (w:Int) (n:Nat):rpTo l w (n+1)=rpTo l w n++(if rpAt l w n=true then [(n:Int)] else []):=by
  rw [rpTo,List.range_succ,List.filter_append,ql5,rpTo]
  by_cases h:rpAt l w n=true
  · rw [List.filter_cons,if_pos h,if_pos h];rfl
  · rw [List.filter_cons,if_neg h,if_neg h];rfl
theorem rpTo_len (l:List (Int×Int×Int×Int×Int)) (w:Int) (n:Nat):(rpTo l w n).length≤n:=by
  rw [rpTo,qln];exact ql1 (List.length_filter_le ..) (by rw [List.length_range];exact qlf _)
theorem rpTo_mem {l:List (Int×Int×Int×Int×Int)} {w:Int} {n i:Nat} (hi:i < n):(i:Int)∈rpTo l w n↔rpAt l w i=true:=by
  rw [rpTo,List.mem_map];constructor
  · rintro ⟨j,hj,e⟩
    rw [List.mem_filter] at hj;have:j=i:=by omega
    subst this;exact hj.2
  · intro h
    exact ⟨i,by rw [List.mem_filter,List.mem_range];exact ⟨hi,h⟩,rfl⟩
def rpB (l:List (Int×Int×Int×Int×Int)) (w:Int):Bool:=csB l && (decide (0≤w) && decide (w≤120))
def rpR (l:List (Int×Int×Int×Int×Int)) (w:Int):List Int:=if rpB l w=true then rpTo l w l.length else []
def inW (m n:Int) (y:(Int×Int×Int×Int×Int)):Bool:=decide (m≤y.1) && decide (y.1≤m+n - 1)
def bwTo (l:List (Int×Int×Int×Int×Int)) (n:Int):Nat→Int×Nat
  | 0=>(0,0)
  | i+1=>match l[i]? with
    | some a=>if (bwTo l n i).2 < l.countP (inW a.1 n) then (a.1,l.countP (inW a.1 n)) else bwTo l n i
    | none=>bwTo l n i
theorem bwTo_step {l:List (Int×Int×Int×Int×Int)} {n:Int} {i:Nat} {a:(Int×Int×Int×Int×Int)} (h:l[i]? =some a):bwTo l n (i+1)=if (bwTo l n i).2 < l.countP (inW a.1 n) then (a.1,l.countP (inW a.1 n)) else bwTo l n i:=by rw [bwTo,h]
theorem bwTo_le (l:List (Int×Int×Int×Int×Int)) (n:Int):∀i,(bwTo l n i).2≤l.length
  | 0=>qlo _
  | i + 1=>by
    rw [bwTo];cases l[i]? with
    | none=>exact bwTo_le l n i
    | some a=>
      show (if _ then _ else _:Int×Nat).2≤_;split
      · exact List.countP_le_length
      · exact bwTo_le l n i
theorem bwTo_pos {l:List (Int×Int×Int×Int×Int)} {n:Int} (hn:1≤n):∀{i:Nat},0 < i→i≤l.length→1≤(bwTo l n i).2
  | i+1,_,hi=>by
    have hy:l[i]? =some l[i]:=qla (by omega);rw [bwTo_step hy];have:0 < l.countP (inW (l[i]).1 n):=List.countP_pos_iff.2 ⟨l[i],List.getElem_mem _,by rw [inW,qlc,decide_eq_true_eq,decide_eq_true_eq];omega⟩;split
    · exact this
    · omega
theorem take_cnt {l:List (Int×Int×Int×Int×Int)} {p:(Int×Int×Int×Int×Int)→Bool} {j:Nat} {y:(Int×Int×Int×Int×Int)} (h:l[j]? =some y):(l.take (j+1)).countP p=(l.take j).countP p+if p y=true then 1 else 0:=by
  rw [List.take_add_one,h,List.countP_append];show _+List.countP p [y]=_;rw [List.countP_cons,List.countP_nil,Nat.zero_add]
def bwB (l:List (Int×Int×Int×Int×Int)) (n:Int):Bool:=csB l && (decide (1≤n) && decide (n≤1000)) && decide (0 < l.length)
def bwV (l:List (Int×Int×Int×Int×Int)) (n:Int):Int×Nat:=if bwB l n=true then bwTo l n l.length else (0,0)
def diB (x y:(Int×Int×Int×Int×Int)):Bool:=cOne x && cOne y
def diV (x y:(Int×Int×Int×Int×Int)):Int:=if diB x y=true then farC x y else 0
theorem farC_comm (x y:(Int×Int×Int×Int×Int)):farC x y=farC y x:=by rw [farC,farC,absI_comm x.2.1,absI_comm x.2.2.1]
theorem diB_comm (x y:(Int×Int×Int×Int×Int)):diB x y=diB y x:=Bool.and_comm ..
theorem diV_comm (x y:(Int×Int×Int×Int×Int)):diV x y=diV y x:=by rw [diV,diV,diB_comm,farC_comm]
end Go.Proofs.YtmhaafinhpopmaaGreatDoor
