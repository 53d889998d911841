/- What functions compute. No condition. -/
import Derived.Test.YtcdpeopiajgljaaUz
import Derived.Test.YtcdpeopiajgljaaUty
import Derived.Test.YtcdpeopiajgljaaUmG
import Derived.Test.YtcdpeopiajgljaaX3
import Derived.Test.YtcdpeopiajgljaaX1
set_option linter.unusedSimpArgs false
set_option linter.unusedVariables false
set_option linter.defProp false
namespace Go.Proofs.Ytcdpeopiajgljaa
open Go Go.Vm
set_option maxHeartbeats 8000000
theorem gsort_perm (zs:List Int):(sortL zs).Perm zs:=List.mergeSort_perm ..
theorem gsort_srt (zs:List Int):(sortL zs).Pairwise (·≤·):=by
  refine (List.pairwise_mergeSort (le:=fun x y=>decide (x≤y)) (fun a b c h k=> ?_) (fun a b=> ?_) zs).imp fun h=>by simpa using h
  · simp only [decide_eq_true_eq] at h k⊢;omega
  · simp only [Bool.or_eq_true,decide_eq_true_eq];omega
def lst (a b:Int):Int:=if b < a then b else a
def relB (r:Nat→Nat→Bool) (m:List Int) (i j:Nat):List Int:=if r i j=true then m.set i (lst (m.getD i 0) (m.getD j 0)) else m
def rowTo (r:Nat→Nat→Bool) (m:List Int) (i:Nat):Nat→List Int
  | 0=>m
  | j+1=>relB r (rowTo r m i j) i j
def rndTo (r:Nat→Nat→Bool) (n:Nat) (m:List Int):Nat→List Int
  | 0=>m
  | i+1=>rowTo r (rndTo r n m i) i n
def mark0 (n:Nat):List Int:=(List.range n).map fun i:Nat=>(i:Int)
def markN (r:Nat→Nat→Bool) (n:Nat):Nat→List Int
  | 0=>mark0 n
  | k+1=>rndTo r n (markN r n k) n
inductive Conn (r:Nat→Nat→Bool) (n:Nat):Nat→Nat→Prop
  | refl (i:Nat):Conn r n i i
  | step {i j k:Nat} (hi:i < n) (hj:j < n) (h:r i j=true) (t:Conn r n j k):Conn r n i k
theorem Conn.trans {r:Nat→Nat→Bool} {n i j k:Nat} (h:Conn r n i j) (t:Conn r n j k):Conn r n i k:=by
  induction h with
  | refl=>exact t
  | step h1 h2 h3 _ ih=>exact .step h1 h2 h3 (ih t)
theorem Conn.symm {r:Nat→Nat→Bool} {n i j:Nat} (hs:∀i j,r i j=r j i) (h:Conn r n i j):Conn r n j i:=by
  induction h with
  | refl=>exact .refl _
  | step h1 h2 h3 _ ih=>exact ih.trans (.step h2 h1 (by rw [hs];exact h3) (.refl _))
structure MOK (r:Nat→Nat→Bool) (n:Nat) (m:List Int):Prop where
  len:m.length=n
  at_:∀i,i < n→∃k:Nat,m.getD i 0=(k:Int)∧k≤i∧Conn r n i k
theorem getD_set_self {m:List Int} {i:Nat} {x:Int} (h:i < m.length):(m.set i x).getD i 0=x:=by
  rw [List.getD_eq_getElem?_getD,List.getElem?_set_self h];rfl
theorem getD_set_ne2 {m:List Int} {i j:Nat} {x:Int} (h:i≠j):(m.set i x).getD j 0=m.getD j 0:=by
  rw [List.getD_eq_getElem?_getD,List.getElem?_set_ne h,←List.getD_eq_getElem?_getD]
theorem lst_le (a b:Int):lst a b≤a∧lst a b≤b∧(lst a b=a∨lst a b=b):=by
  unfold lst;split<;>omega
section
variable {r:Nat→Nat→Bool} {n:Nat}
theorem relB_ok {m:List Int} {i j:Nat} (h:MOK r n m) (hs:∀i j,r i j=r j i) (hi:i < n) (hj:j < n):MOK r n (relB r m i j):=by
  unfold relB
  split
  · rename_i hr
    refine ⟨by rw [List.length_set];exact h.len,fun k hk=> ?_⟩
    by_cases e:i=k
    · subst e
      rw [getD_set_self (by rw [h.len];exact hi)]
      obtain ⟨a,ha1,ha2,ha3⟩:=h.at_ i hi
      obtain ⟨b,hb1,hb2,hb3⟩:=h.at_ j hj
      rw [ha1,hb1]
      obtain ⟨h1,_,h3⟩:=lst_le (a:Int) (b:Int)
      rcases h3 with q | q
      · exact ⟨a,q,ha2,ha3⟩
      · exact ⟨b,q,by omega,.step hi hj hr hb3⟩
    · rw [getD_set_ne2 e];exact h.at_ k hk
  · exact h
def MLe (m' m:List Int):Prop:=∀k,m'.getD k 0≤m.getD k 0
theorem relB_le {m:List Int} {i j:Nat}:MLe (relB r m i j) m:=by
  intro k
  unfold relB
  split
  · by_cases e:i=k
    · subst e
      by_cases hl:i < m.length
      · rw [getD_set_self hl];exact (lst_le _ _).1
      · rw [List.set_eq_of_length_le (by omega)];exact Int.le_refl _
    · rw [getD_set_ne2 e];exact Int.le_refl _
  · exact Int.le_refl _
theorem rowTo_ok {m:List Int} {i:Nat} (h:MOK r n m) (hs:∀i j,r i j=r j i) (hi:i < n):∀j,j≤n→MOK r n (rowTo r m i j)
  | 0,_=>h
  | j+1,hj=>relB_ok (rowTo_ok h hs hi j (by omega)) hs hi (by omega)
theorem rowTo_le {m:List Int} {i:Nat}:∀j,MLe (rowTo r m i j) m
  | 0=>fun _=>Int.le_refl _
  | j+1=>fun k=>Int.le_trans (relB_le k) (rowTo_le j k)
theorem rowTo_at {m:List Int} {i:Nat} (h:MOK r n m) (hs:∀i j,r i j=r j i) (hi:i < n):∀j,j≤n→∀x,x < j→r i x=true→(rowTo r m i j).getD i 0≤m.getD x 0
  | 0,_,x,hx,_=>by omega
  | j + 1,hj,x,hx,hr=>by
    have hok:=rowTo_ok h hs hi j (by omega)
    by_cases e:x=j
    · subst e
      rw [rowTo,relB,if_pos hr,getD_set_self (by rw [hok.len];exact hi)]
      exact Int.le_trans (lst_le _ _).2.1 (rowTo_le x x)
    · exact Int.le_trans (relB_le i) (rowTo_at h hs hi j (by omega) x (by omega) hr)
theorem rndTo_ok {m:List Int} (h:MOK r n m) (hs:∀i j,r i j=r j i):∀i,i≤n→MOK r n (rndTo r n m i)
  | 0,_=>h
  | i+1,hi=>rowTo_ok (rndTo_ok h hs i (by omega)) hs (by omega) n (Nat.le_refl _)
theorem rndTo_le {m:List Int}:∀i,MLe (rndTo r n m i) m
  | 0=>fun _=>Int.le_refl _
  | i+1=>fun k=>Int.le_trans (rowTo_le n k) (rndTo_le i k)
theorem rndTo_at {m:List Int} (h:MOK r n m) (hs:∀i j,r i j=r j i):∀i,i≤n→∀a x,a < i→x < n→r a x=true→(rndTo r n m i).getD a 0≤m.getD x 0
  | 0,_,a,x,ha,_,_=>by omega
  | i + 1,hi,a,x,ha,hx,hr=>by
    have hok:=rndTo_ok h hs i (by omega)
    by_cases e:a=i
    · subst e
      exact Int.le_trans (rowTo_at hok hs (by omega) n (Nat.le_refl _) x hx hr) (rndTo_le a x)
    · exact Int.le_trans (rowTo_le n a) (rndTo_at h hs i (by omega) a x (by omega) hx hr)
theorem mark0_get {i:Nat} (h:i < n):(mark0 n).getD i 0=(i:Int):=by
  unfold mark0
  rw [List.getD_eq_getElem?_getD,List.getElem?_map,List.getElem?_range h];rfl
theorem markN_ok (hs:∀i j,r i j=r j i):∀k,MOK r n (markN r n k)
  | 0=>⟨by simp [markN,mark0],fun i hi=>⟨i,mark0_get hi,Nat.le_refl _,.refl _⟩⟩
  | k+1=>rndTo_ok (markN_ok hs k) hs n (Nat.le_refl _)
theorem markN_le (k:Nat):MLe (markN r n (k+1)) (markN r n k):=rndTo_le n
theorem cross {p:Nat→Prop} {i k:Nat} (h:Conn r n i k) (hk:k < n) (hi:¬p i) (hp:p k):∃a b,a < n∧b < n∧r a b=true∧¬p a∧p b∧Conn r n i a:=by
  induction h with
  | refl=>exact absurd hp hi
  | step h1 h2 h3 t ih=>
    rename_i a b c
    by_cases q:p b
    · exact ⟨a,b,h1,h2,h3,hi,q,.refl _⟩
    · obtain ⟨x,y,q1,q2,q3,q4,q5,q6⟩:=ih hk q hp
      exact ⟨x,y,q1,q2,q3,q4,q5,.step h1 h2 h3 q6⟩
def cntM (m:List Int) (c:Nat) (n:Nat):Nat:=(List.range n).countP fun i=>decide (m.getD i 0=(c:Int))
theorem countP_lt {α:Type} {l:List α} {p q:α→Bool} (h:∀x∈l,p x=true→q x=true) {a:α} (ha:a∈l) (hp:p a=false) (hq:q a=true):l.countP p < l.countP q:=by
  induction l with
  | nil=>cases ha
  | cons b l ih=>
    have hle:l.countP p≤l.countP q:=List.countP_mono_left fun x hx=>h x (List.mem_cons_of_mem _ hx)
    rcases List.mem_cons.1 ha with e | e
    · subst e
      rw [List.countP_cons_of_neg (by rw [hp];decide),List.countP_cons_of_pos hq];omega
    · have hlt:=ih (fun x hx=>h x (List.mem_cons_of_mem _ hx)) e
      by_cases q1:p b=true
      · rw [List.countP_cons_of_pos q1,List.countP_cons_of_pos (h b (List.mem_cons_self ..) q1)];omega
      · rw [List.countP_cons_of_neg q1]
        have:=List.countP_le_length (p:=q) (l:=[b])
        by_cases q2:q b=true
        · rw [List.countP_cons_of_pos q2];omega
        · rw [List.countP_cons_of_neg q2];omega
theorem mark_count (hs:∀i j,r i j=r j i) {c i0:Nat} (hc:c < n) (hmin:∀x,x < n→Conn r n c x→c≤x) (hi0:i0 < n) (hic:Conn r n i0 c):∀k,(markN r n k).getD i0 0≠(c:Int)→k+1≤cntM (markN r n k) c n
  | 0,_=>by
    have h1:c∈(List.range n).filter fun i=>decide ((markN r n 0).getD i 0=(c:Int)):=by
      rw [List.mem_filter,decide_eq_true_eq]
      exact ⟨List.mem_range.2 hc,mark0_get hc⟩
    rw [cntM,List.countP_eq_length_filter]
    exact List.length_pos_of_mem h1
  | k + 1,hne=>by
    have hle:=markN_le (r:=r) (n:=n) k
    have hok:=markN_ok (n:=n) hs k
    have hok1:=markN_ok (n:=n) hs (k+1)
    have hlow:∀(m:List Int),MOK r n m→∀x,x < n→Conn r n c x→(c:Int)≤m.getD x 0:=fun m hm x hx hcx=>by
      obtain ⟨y,hy1,hy2,hy3⟩:=hm.at_ x hx
      rw [hy1]
      have:=hmin y (by omega) (hcx.trans hy3)
      omega
    have hne0:(markN r n k).getD i0 0≠(c:Int):=by
      intro e
      have h1:=hle i0
      have h2:=hlow _ hok1 i0 hi0 (hic.symm hs)
      rw [e] at h1
      exact hne (Int.le_antisymm h1 h2)
    have ih:=mark_count hs hc hmin hi0 hic k hne0
    have hcc:(markN r n k).getD c 0=(c:Int):=by
      obtain ⟨y,hy1,hy2,hy3⟩:=hok.at_ c hc
      have:=hmin y (by omega) hy3
      rw [hy1];congr 1;omega
    obtain ⟨a,b,ha,hb,hr,hna,hpb,hia⟩:=cross (p:=fun x=>(markN r n k).getD x 0=(c:Int)) hic hc hne0 hcc
    have hca:Conn r n c a:=(hic.symm hs).trans hia
    have ha1:(markN r n (k+1)).getD a 0=(c:Int):=by
      have h1:=rndTo_at hok hs n (Nat.le_refl _) a b ha hb hr
      rw [hpb] at h1
      exact Int.le_antisymm h1 (hlow _ hok1 a ha hca)
    have hlt:cntM (markN r n k) c n < cntM (markN r n (k+1)) c n:=by
      refine countP_lt (fun x hx hp=> ?_) (List.mem_range.2 ha) (decide_eq_false hna) (decide_eq_true ha1)
      rw [decide_eq_true_eq] at hp⊢
      have hxn:=List.mem_range.1 hx
      have h1:=hle x
      rw [hp] at h1
      obtain ⟨y,hy1,hy2,hy3⟩:=hok.at_ x hxn
      rw [hp] at hy1
      have hyc:y=c:=by omega
      subst hyc
      exact Int.le_antisymm h1 (hlow _ hok1 x hxn (hy3.symm hs))
    omega
def markF (r:Nat→Nat→Bool) (n:Nat):List Int:=markN r n n
theorem cntM_le (m:List Int) (c:Nat):cntM m c n≤n:=by
  have:=List.countP_le_length (p:=fun i=>decide (m.getD i 0=(c:Int))) (l:=List.range n)
  rwa [List.length_range] at this
theorem exists_least {p:Nat→Prop}:∀k,p k→∃c,p c∧∀x,p x→c≤x:=by
  intro k
  induction k using Nat.strongRecOn with
  | ind k ih=>
    intro hk
    by_cases h:∃x,x < k∧p x
    · obtain ⟨x,h1,h2⟩:=h
      exact ih x h1 h2
    · exact ⟨k,hk,fun x hx=>Nat.le_of_not_lt fun q=>h ⟨x,q,hx⟩⟩
theorem markF_spec (hs:∀i j,r i j=r j i) {i:Nat} (hi:i < n):∃c:Nat,(markF r n).getD i 0=(c:Int)∧c≤i∧Conn r n i c∧∀x,x < n→Conn r n i x→c≤x:=by
  obtain ⟨c,⟨hc1,hc2⟩,hc3⟩:=exists_least (p:=fun x=>x < n∧Conn r n i x) i ⟨hi,.refl _⟩
  have hmin:∀x,x < n→Conn r n c x→c≤x:=fun x hx h=>hc3 x ⟨hx,hc2.trans h⟩
  have hm:(markF r n).getD i 0=(c:Int):=by
    apply Classical.byContradiction
    intro hne
    have h1:=mark_count hs hc1 hmin hi hc2 n hne
    have h2:=cntM_le (n:=n) (markN r n n) c
    omega
  exact ⟨c,hm,hc3 i ⟨hi,.refl _⟩,hc2,fun x hx h=>hc3 x ⟨hx,h⟩⟩
theorem markF_conn (hs:∀i j,r i j=r j i) {i j:Nat} (hi:i < n) (hj:j < n):(markF r n).getD i 0=(markF r n).getD j 0↔Conn r n i j:=by
  obtain ⟨c,c1,c2,c3,c4⟩:=markF_spec hs hi
  obtain ⟨d,d1,d2,d3,d4⟩:=markF_spec hs hj
  constructor
  · intro h
    rw [c1,d1] at h
    have:c=d:=by omega
    subst this
    exact c3.trans (d3.symm hs)
  · intro h
    rw [c1,d1]
    have h1:=c4 d (by omega) (h.trans d3)
    have h2:=d4 c (by omega) ((h.symm hs).trans c3)
    congr 1;omega
end
theorem relB_len (rl:Nat→Nat→Bool) (m:List Int) (i j:Nat):(relB rl m i j).length=m.length:=by
  unfold relB;split<;>simp
theorem relB_at {rl:Nat→Nat→Bool} {m:List Int} {i j:Nat} {a b:Int} (hi:m[i]? =some a) (hj:m[j]? =some b):relB rl m i j=if rl i j=true then m.set i (lst a b) else m:=by
  rw [relB,List.getD_eq_getElem?_getD,List.getD_eq_getElem?_getD,hi,hj];rfl
theorem rowTo_len (rl:Nat→Nat→Bool) (m:List Int) (i:Nat):∀j,(rowTo rl m i j).length=m.length
  | 0=>rfl
  | j+1=>by rw [rowTo,relB_len,rowTo_len rl m i j]
theorem rndTo_len (rl:Nat→Nat→Bool) (n:Nat) (m:List Int):∀i,(rndTo rl n m i).length=m.length
  | 0=>rfl
  | i+1=>by rw [rndTo,rowTo_len,rndTo_len rl n m i]
theorem markN_len (rl:Nat→Nat→Bool) (n:Nat):∀k,(markN rl n k).length=n
  | 0=>by rw [markN,mark0,List.length_map,List.length_range]
  | k+1=>by rw [markN,rndTo_len,markN_len rl n k]
theorem mark0_row (n:Nat):mark0 n=markRow 0 n:=by
  rw [mark0,markRow]
  exact List.map_congr_left fun a _=>(Int.zero_add _).symm
def relC (l:List (Int×Int×Int×Int×Int)) (w r:Int) (i j:Nat):Bool:=match l[i]?,l[j]? with
  | some x,some y=>nearB w r x y
  | _,_=>false
theorem relC_comm (l:List (Int×Int×Int×Int×Int)) (w r:Int) (i j:Nat):relC l w r i j=relC l w r j i:=by
  unfold relC
  cases l[i]? with
  | none=>cases l[j]?<;>rfl
  | some x=>cases l[j]? with
    | none=>rfl
    | some y=>exact near_comm w r x y
theorem relC_at {l:List (Int×Int×Int×Int×Int)} {w r:Int} {i j:Nat} {x y:(Int×Int×Int×Int×Int)} (hx:l[i]? =some x) (hy:l[j]? =some y):relC l w r i j=nearB w r x y:=by rw [relC,hx,hy]
def mkC (l:List (Int×Int×Int×Int×Int)) (w r:Int):List Int:=markF (relC l w r) l.length
def grpTo (m:List Int) (c n:Nat):List Int:=((List.range n).filter fun j=>decide (m.getD j 0=(c:Int))).map fun j:Nat=>(j:Int)
theorem grpTo_step (m:List Int) (c n:Nat):grpTo m c (n+1)=grpTo m c n++(if m.getD n 0=(c:Int) then [(n:Int)] else []):=by
  rw [grpTo,List.range_succ,List.filter_append,List.map_append,grpTo]
  by_cases h:m.getD n 0=(c:Int)
  · rw [List.filter_cons,if_pos (decide_eq_true h),if_pos h];rfl
  · rw [List.filter_cons,if_neg (by rw [decide_eq_false h];exact Bool.false_ne_true),if_neg h];rfl
theorem grpTo_at {m:List Int} {c n:Nat} {a:Int} (h:m[n]? =some a):grpTo m c (n+1)=grpTo m c n++(if a=(c:Int) then [(n:Int)] else []):=by
  rw [grpTo_step,List.getD_eq_getElem?_getD,h];rfl
theorem grpTo_mem {m:List Int} {c n:Nat} {x:Int}:x∈grpTo m c n↔∃j:Nat,x=(j:Int)∧j < n∧m.getD j 0=(c:Int):=by
  rw [grpTo,List.mem_map]
  constructor
  · rintro ⟨j,hj,rfl⟩
    rw [List.mem_filter,List.mem_range,decide_eq_true_eq] at hj
    exact ⟨j,rfl,hj⟩
  · rintro ⟨j,rfl,hj⟩
    exact ⟨j,by rw [List.mem_filter,List.mem_range,decide_eq_true_eq];exact hj,rfl⟩
theorem grpTo_len (m:List Int) (c n:Nat):(grpTo m c n).length≤n:=by
  rw [grpTo,List.length_map]
  exact Nat.le_trans (List.length_filter_le ..) (by rw [List.length_range];exact Nat.le_refl _)
def outTo (m:List Int) (n:Nat):Nat→List (List Int)
  | 0=>[]
  | i+1=>outTo m n i++(if 0 < (grpTo m i n).length then [grpTo m i n] else [])
theorem outTo_len (m:List Int) (n:Nat):∀i,(outTo m n i).length≤i
  | 0=>Nat.le_refl _
  | i+1=>by
    have:=outTo_len m n i
    rw [outTo,List.length_append]
    split<;>simp<;>omega
def groupsC (l:List (Int×Int×Int×Int×Int)) (w r:Int):List (List Int):=outTo (mkC l w r) l.length l.length
structure BI (m:List Int) (n f:Nat) (seen:List Bool) (g:List Int):Prop where
  len:seen.length=n
  mem:∀x∈g,∃k:Nat,x=(k:Int)∧k < n∧m.getD k 0=(f:Int)
  sn:∀k,k < n→(seen.getD k false=true↔m.getD k 0 < (f:Int)∨(k:Int)∈g)
  nd:g.Nodup
  fst:(f:Int)∈g
  cnt:g.length+seen.countP (fun b=> !b)≤n
def CloT (rl:Nat→Nat→Bool) (n:Nat) (g:List Int) (k:Nat):Prop:=∀t,t < k→∀x:Nat,g[t]? =some (x:Int)→∀y,y < n→rl x y=true→(y:Int)∈g
def CloI (rl:Nat→Nat→Bool) (g:List Int) (k i:Nat):Prop:=∀x:Nat,g[k]? =some (x:Int)→∀y,y < i→rl x y=true→(y:Int)∈g
def BO (m:List Int) (n f:Nat) (seen:List Bool):Prop:=seen.length=n∧∀k,k < n→(seen.getD k false=true↔m.getD k 0 < (f:Int))
theorem cnt_set {s:List Bool} {i:Nat} (h:i < s.length) (h0:s.getD i false=false):(s.set i true).countP (fun b=> !b)+1=s.countP (fun b=> !b):=by
  have he:s[i]=false:=by rw [List.getD_eq_getElem?_getD,List.getElem?_eq_getElem h] at h0;exact h0
  have h1:0 < s.countP (fun b=> !b):=List.countP_pos_iff.2 ⟨s[i],List.getElem_mem h,by rw [he];rfl⟩
  rw [List.countP_set (h:=h),he]
  simp
  omega
theorem getD_setB {s:List Bool} {i k:Nat} (h:i < s.length):(s.set i true).getD k false=(decide (k=i) || s.getD k false):=by
  rw [List.getD_eq_getElem?_getD,List.getElem?_set,List.getD_eq_getElem?_getD]
  by_cases e:i=k
  · subst e;simp [h]
  · rw [if_neg e,decide_eq_false (fun q:k=i=>e q.symm),Bool.false_or]
section
variable {rl:Nat→Nat→Bool} {n:Nat}
theorem mk_nn (hs:∀i j,rl i j=rl j i) {k:Nat} (hk:k < n):0≤(markF rl n).getD k 0:=by
  obtain ⟨c,h,_⟩:=markF_spec hs hk
  rw [h];omega
theorem mk_self (hs:∀i j,rl i j=rl j i) {k f:Nat} (hk:k < n) (hf:f < n) (h:(markF rl n).getD k 0=(f:Int)):(markF rl n).getD f 0=(f:Int):=by
  obtain ⟨c,h1,_,h3,_⟩:=markF_spec hs hk
  have e:c=f:=by omega
  subst e
  rw [←h,h1]
  exact ((markF_conn hs hk hf).2 h3).symm.trans h1
theorem mk_le (hs:∀i j,rl i j=rl j i) {k:Nat} (hk:k < n):(markF rl n).getD k 0≤(k:Int):=by
  obtain ⟨c,h1,h2,_⟩:=markF_spec hs hk
  omega
theorem mk_rel (hs:∀i j,rl i j=rl j i) {a b:Nat} (ha:a < n) (hb:b < n) (h:rl a b=true):(markF rl n).getD b 0=(markF rl n).getD a 0:=
  ((markF_conn hs ha hb).2 (.step ha hb h (.refl _))).symm
theorem bo_zero (hs:∀i j,rl i j=rl j i):BO (markF rl n) n 0 (List.replicate n false):=by
  refine ⟨List.length_replicate,fun k hk=> ?_⟩
  have:=mk_nn hs hk
  rw [List.getD_eq_getElem?_getD,List.getElem?_replicate,if_pos hk]
  simp only [Option.getD_some,Bool.false_eq_true,false_iff]
  omega
theorem bo_skip (hs:∀i j,rl i j=rl j i) {f:Nat} {seen:List Bool} (h:BO (markF rl n) n f seen) (hf:f < n) (h0:seen.getD f false=true):BO (markF rl n) n (f+1) seen∧grpTo (markF rl n) f n=[]:=by
  have hm:=(h.2 f hf).1 h0
  have hno:∀k,k < n→(markF rl n).getD k 0≠(f:Int):=fun k hk e=>by
    have:=mk_self hs hk hf e
    omega
  refine ⟨⟨h.1,fun k hk=>(h.2 k hk).trans ?_⟩,?_⟩
  · have:=hno k hk
    omega
  · rw [grpTo,List.filter_eq_nil_iff.2 (fun j hj=>by rw [List.mem_range] at hj;rw [decide_eq_false (hno j hj)];exact Bool.false_ne_true)];rfl
theorem bi_start (hs:∀i j,rl i j=rl j i) {f:Nat} {seen:List Bool} (h:BO (markF rl n) n f seen) (hf:f < n) (h0:seen.getD f false=false):BI (markF rl n) n f (seen.set f true) [(f:Int)]∧CloT rl n [(f:Int)] 0:=by
  have hl:f < seen.length:=by rw [h.1];exact hf
  have hm:(markF rl n).getD f 0=(f:Int):=by
    have h1:=mk_le hs hf
    have h2:¬(markF rl n).getD f 0 < (f:Int):=fun q=>by rw [(h.2 f hf).2 q] at h0;cases h0
    omega
  refine ⟨⟨by rw [List.length_set];exact h.1,?_,fun k hk=> ?_,by simp,by simp,?_⟩,fun t ht=>absurd ht (Nat.not_lt_zero _)⟩
  · intro x hx
    rw [List.mem_singleton] at hx
    exact ⟨f,hx,hf,hm⟩
  · rw [getD_setB hl,Bool.or_eq_true,decide_eq_true_eq,h.2 k hk,List.mem_singleton]
    omega
  · have:=cnt_set hl h0
    have h2:seen.countP (fun b=> !b)≤seen.length:=List.countP_le_length
    rw [h.1] at h2
    simp only [List.length_singleton]
    omega
theorem bi_push (hs:∀i j,rl i j=rl j i) {f k i x:Nat} {seen:List Bool} {g:List Int} (h:BI (markF rl n) n f seen g) (ht:CloT rl n g k) (hk:g[k]? =some (x:Int)) (hc:CloI rl g k i) (hi:i < n) (h0:seen.getD i false=false) (hr:rl x i=true):BI (markF rl n) n f (seen.set i true) (g++[(i:Int)])∧CloT rl n (g++[(i:Int)]) k∧CloI rl (g++[(i:Int)]) k (i+1):=by
  have hl:i < seen.length:=by rw [h.len];exact hi
  have hkl:k < g.length:=(List.getElem?_eq_some_iff.1 hk).1
  obtain ⟨x',hx',hxn,hxm⟩:=h.mem _ (List.mem_of_getElem? hk)
  have ex:x'=x:=by omega
  subst ex
  have hni:¬(i:Int)∈g:=fun q=>by rw [(h.sn i hi).2 (.inr q)] at h0;cases h0
  refine ⟨⟨by rw [List.length_set];exact h.len,?_,fun j hj=> ?_,?_,?_,?_⟩,?_,?_⟩
  · intro z hz
    rcases List.mem_append.1 hz with q | q
    · exact h.mem z q
    · rw [List.mem_singleton] at q
      exact ⟨i,q,hi,by rw [mk_rel hs hxn hi hr];exact hxm⟩
  · rw [getD_setB hl,Bool.or_eq_true,decide_eq_true_eq,h.sn j hj,List.mem_append,List.mem_singleton,Int.ofNat_inj]
    exact ⟨fun q=>q.elim (fun e=>.inr (.inr e)) (fun e=>e.elim .inl (fun e=>.inr (.inl e))),fun q=>q.elim (fun e=>.inr (.inl e)) (fun e=>e.elim (fun e=>.inr (.inr e)) .inl)⟩
  · rw [List.nodup_append]
    refine ⟨h.nd,by simp,fun a ha b hb e=> ?_⟩
    rw [List.mem_singleton] at hb
    subst hb;subst e
    exact hni ha
  · exact List.mem_append_left _ h.fst
  · have:=cnt_set hl h0
    have h2:=h.cnt
    rw [List.length_append,List.length_singleton]
    omega
  · intro t q a ha y hy hay
    rw [List.getElem?_append_left (by omega)] at ha
    exact List.mem_append_left _ (ht t q a ha y hy hay)
  · intro a ha y hy hay
    rw [List.getElem?_append_left hkl] at ha
    rcases Nat.lt_or_ge y i with q | q
    · exact List.mem_append_left _ (hc a ha y q hay)
    · have e:y=i:=by omega
      subst e
      exact List.mem_append_right _ (by simp)
theorem bi_pass {f k i x:Nat} {seen:List Bool} {g:List Int} {m:List Int} (h:BI m n f seen g) (hk:g[k]? =some (x:Int)) (hm:∀y,y < n→rl x y=true→m.getD y 0=(f:Int)) (hc:CloI rl g k i) (hi:i < n) (hq:¬(seen.getD i false=false∧rl x i=true)):CloI rl g k (i+1):=by
  intro a ha y hy hay
  rcases Nat.lt_or_ge y i with q | q
  · exact hc a ha y q hay
  · have e:y=i:=by omega
    subst e
    rw [hk,Option.some.injEq] at ha
    have ea:x=a:=by omega
    subst ea
    have hsn:seen.getD y false=true:=by
      cases q2:seen.getD y false with
      | true=>rfl
      | false=>exact absurd ⟨q2,hay⟩ hq
    rcases (h.sn y hi).1 hsn with q3 | q3
    · have:=hm y hi hay
      omega
    · exact q3
theorem clo_next {k:Nat} {g:List Int} (ht:CloT rl n g k) (hc:CloI rl g k n):CloT rl n g (k+1):=by
  intro t q a ha y hy hay
  rcases Nat.lt_or_ge t k with q2 | q2
  · exact ht t q2 a ha y hy hay
  · have e:t=k:=by omega
    subst e
    exact hc a ha y hy hay
theorem bi_mem (hs:∀i j,rl i j=rl j i) {f:Nat} {seen:List Bool} {g:List Int} (h:BI (markF rl n) n f seen g) (hc:CloT rl n g g.length) {y:Nat} (hy:y < n):(y:Int)∈g↔(markF rl n).getD y 0=(f:Int):=by
  constructor
  · intro q
    obtain ⟨k,e,_,h2⟩:=h.mem _ q
    have:k=y:=by omega
    subst this
    exact h2
  · intro q
    obtain ⟨f',e,hfn,hfm⟩:=h.mem _ h.fst
    have ef:f'=f:=by omega
    subst ef
    rcases Decidable.em ((y:Int)∈g) with d | d
    · exact d
    · exfalso
      have hcn:Conn rl n f' y:=(markF_conn hs hfn hy).1 (by rw [hfm,q])
      obtain ⟨a,b,ha,hb,hab,hpa,hpb,_⟩:=cross (p:=fun z=>¬(z:Int)∈g) hcn hy (fun k=>k h.fst) d
      have ha2:(a:Int)∈g:=by
        rcases Decidable.em ((a:Int)∈g) with d2 | d2
        · exact d2
        · exact absurd d2 hpa
      obtain ⟨t,htl,hta⟩:=List.getElem_of_mem ha2
      exact hpb (hc t htl a (by rw [List.getElem?_eq_getElem htl,hta]) b hb hab)
theorem bi_end (hs:∀i j,rl i j=rl j i) {f:Nat} {seen:List Bool} {g:List Int} (h:BI (markF rl n) n f seen g) (hc:CloT rl n g g.length):BO (markF rl n) n (f+1) seen∧sortL g=grpTo (markF rl n) f n∧0 < (grpTo (markF rl n) f n).length:=by
  have hp:(sortL g).Perm (grpTo (markF rl n) f n):=by
    refine (gsort_perm g).trans ((List.perm_ext_iff_of_nodup h.nd ?_).2 fun x=> ?_)
    · rw [grpTo]
      exact List.Pairwise.map _ (fun a b q=>by omega) (List.Pairwise.filter _ List.nodup_range)
    · rw [grpTo_mem]
      constructor
      · intro q
        obtain ⟨k,rfl,hk,hm⟩:=h.mem _ q
        exact ⟨k,rfl,hk,hm⟩
      · rintro ⟨j,rfl,hj,hm⟩
        exact (bi_mem hs h hc hj).2 hm
  have hE:sortL g=grpTo (markF rl n) f n:=by
    refine List.Perm.eq_of_pairwise (le:=(·≤·)) (fun a b _ _ h1 h2=>by omega) (gsort_srt g) ?_ hp
    rw [grpTo]
    exact List.Pairwise.map _ (fun a b q=>Int.ofNat_le.2 (Nat.le_of_lt q)) (List.Pairwise.filter _ List.pairwise_lt_range)
  refine ⟨⟨h.len,fun k hk=>(h.sn k hk).trans ?_⟩,hE,?_⟩
  · rw [bi_mem hs h hc hk];omega
  · rw [←hE,(gsort_perm g).length_eq]
    exact List.length_pos_of_mem h.fst
end
theorem snoc_G {L:List (List Int)} {g:List Int}:L.map (fun l:List Int=>V.sl (l.map (V.int .i64)))++[V.sl (g.map (V.int .i64))]=(L++[g]).map (fun l:List Int=>V.sl (l.map (V.int .i64))):=by rw [List.map_append];rfl
theorem fillK_snocG {α:Type} {l:List α} {x:α}:fillK (l++[x]).length=fillK (l.length+1):=by simp
theorem out_step {m:List Int} {n i:Nat} (h:0 < (grpTo m i n).length):outTo m n (i+1)=outTo m n i++[grpTo m i n]:=by rw [outTo,if_pos h]
theorem out_same {m:List Int} {n i:Nat} (h:¬0 < (grpTo m i n).length):outTo m n (i+1)=outTo m n i:=by rw [outTo,if_neg h,List.append_nil]
set_option maxRecDepth 8000 in
theorem clGroups_con (l:List (Int×Int×Int×Int×Int)) (wn rd:Int) (hb:csB l=true):Con Try.prog 66 [.sl (l.map (fun t:Int×Int×Int×Int×Int=>V.agg [V.int .i64 t.1,V.int .i64 t.2.1,V.int .i64 t.2.2.1,V.int .i64 t.2.2.2.1,V.int .i64 t.2.2.2.2])),.int .i64 wn,.int .i64 rd] [] (.ref 0) [.arr ((groupsC l wn rd).map (fun l:List Int=>V.sl (l.map (V.int .i64)))) (fillK (groupsC l wn rd).length)]:=by
 have hl20:=cs_len hb
 have hea:=cs_each hb
 have hsy:=relC_comm l wn rd
 have hml:(mkC l wn rd).length=l.length:=markN_len _ _ _
 refine v_con [.tmp 6] [] Try.func66 rfl rfl rfl (by simp [Try.ntmps66]) ?_
 intro Q0 n0 r0
 simp only [Try.ntmps66,envFrom,Nat.reduceAdd]
 have T:=Tys.mk (ai Ty.t3 (ai Ty.t4 (ai Ty.t26 (ai Ty.t50 (ai Ty.t53 Ty.t65)))))
 have F:=Fc.mk True.intro
 have F:=Fc.mk hml
 refine yR [0,1,2] ⟨?_⟩;refine yR [0,1,2,7] ⟨?_⟩;refine v_seq ?_;intros;refine yR [0,1,2,7,23,24] ⟨?_⟩;refine v_block ?_;intros;refine v_loop (fun i=>⟨[(0,.sl (l.map (fun t:Int×Int×Int×Int×Int=>V.agg [V.int .i64 t.1,V.int .i64 t.2.1,V.int .i64 t.2.2.1,V.int .i64 t.2.2.2.1,V.int .i64 t.2.2.2.2]))),(1,.int .i64 wn),(2,.int .i64 rd),(7,.ref 0),(23,.int .i64 l.length),(24,.int .i64 (Nat.cast i))],[.arr ((markRow 0 i++(List.replicate l.length (0:Int)).drop i).map (V.int .i64)) .flat],false,100,0⟩) (fun i=>i≤l.length) (fun i=>l.length - i) 0 ?_ ?_ ?_
 ·refine weak_bothS [0,1,2,7,23,24] [1] ⟨?_⟩
  simp [markRow]
 ·exact Nat.zero_le _
 ·rintro i hok6 Q6 n6 e6 r6
  have hi1:i≤l.length:=hok6
  refine yR [0,1,2,7,23,24,25] ⟨?_⟩;refine v_seq ?_;intros;refine v_condS _ rfl ?_ ?_
  ·intro hc0
   have hlt:i < l.length:=by first | (simp at hc0;omega) | omega
   obtain ⟨z0,hz0⟩:∃z,(List.replicate l.length (0:Int))[i]? =some z:=⟨0,by rw [List.getElem?_replicate,if_pos hlt]⟩
   have hmg:=mark_get (k:=0) hz0
   have hms:=mark_step (k:=0) hz0
   rw [Int.zero_add] at hms
   have hmw:(markRow 0 i++(List.replicate l.length (0:Int)).drop i).length=l.length:=by rw [mark_all (by rw [List.length_replicate];omega),List.length_replicate]
   refine zn [0,1,2,7,23,24] ⟨?_⟩;refine v_seq ?_;intros;refine v_block ?_;intros
   have F:=Fc.mk (ai hml (ai (gdm hmg) (ai @set_map (ai hms hmw))))
   refine yR [0,1,2,7,8,23,24] ⟨?_⟩;refine yQ [0,1,2,7,23,24] ⟨?_⟩;refine yV ⟨?_⟩;refine n6 _ (i+1) ?_ ?_ ?_
   ·refine weak_bothS [0,1,2,7,23,24] [0] ⟨?_⟩
    rfl
   ·exact hlt
   ·show _ < _;omega
  ·intro hc0
   have hm0:markRow 0 i++(List.replicate l.length (0:Int)).drop i=markN (relC l wn rd) l.length 0:=by rw [List.drop_of_length_le (by rw [List.length_replicate];omega),List.append_nil,show i=l.length by omega,markN,mark0_row]
   refine zn [0,1,2,7] ⟨?_⟩;refine v_seq ?_;intros;refine yR [0,1,2,7,9] ⟨?_⟩;refine v_block ?_;intros;refine v_loop (fun ka=>⟨[(0,.sl (l.map (fun t:Int×Int×Int×Int×Int=>V.agg [V.int .i64 t.1,V.int .i64 t.2.1,V.int .i64 t.2.2.1,V.int .i64 t.2.2.2.1,V.int .i64 t.2.2.2.2]))),(1,.int .i64 wn),(2,.int .i64 rd),(7,.ref 0),(9,.int .i64 (Nat.cast ka))],[.arr ((markN (relC l wn rd) l.length ka).map (V.int .i64)) .flat],false,100,0⟩) (fun ka=>ka≤l.length) (fun ka=>l.length - ka) (0:Nat) ?_ ?_ ?_
   ·refine weak_bothS [0,1,2,7,9] [0] ⟨?_⟩
    rw [hm0];rfl
   ·exact Nat.zero_le _
   ·rintro ka hok18 Q18 n18 e18 r18
    have hk9:ka≤l.length:=hok18
    refine v_seq ?_;intros;refine yR [0,1,2,7,9,35] ⟨?_⟩;refine v_condS _ rfl ?_ ?_
    ·intro hc1
     have hlk:ka < l.length:=by omega
     refine zn [0,1,2,7,9] ⟨?_⟩;refine v_seq ?_;intros;refine v_block ?_;intros;refine yR [0,1,2,7,9,38,39,40] ⟨?_⟩;refine v_block ?_;intros;refine v_loop (fun ia=>⟨[(0,.sl (l.map (fun t:Int×Int×Int×Int×Int=>V.agg [V.int .i64 t.1,V.int .i64 t.2.1,V.int .i64 t.2.2.1,V.int .i64 t.2.2.2.1,V.int .i64 t.2.2.2.2]))),(1,.int .i64 wn),(2,.int .i64 rd),(7,.ref 0),(9,.int .i64 (Nat.cast ka)),(38,.sl (l.map (fun t:Int×Int×Int×Int×Int=>V.agg [V.int .i64 t.1,V.int .i64 t.2.1,V.int .i64 t.2.2.1,V.int .i64 t.2.2.2.1,V.int .i64 t.2.2.2.2]))),(39,.int .i64 l.length),(40,.int .i64 (Nat.cast ia))],[.arr ((rndTo (relC l wn rd) l.length (markN (relC l wn rd) l.length ka) ia).map (V.int .i64)) .flat],false,100,0⟩) (fun ia=>ia≤l.length) (fun ia=>l.length - ia) (0:Nat) ?_ ?_ ?_
     ·refine weak_bothS [0,1,2,7,9,38,39,40] [0] ⟨?_⟩
      rfl
     ·exact Nat.zero_le _
     ·rintro ia hok26 Q26 n26 e26 r26
      have hi2:ia≤l.length:=hok26
      refine yR [0,1,2,7,9,38,39,40,41] ⟨?_⟩;refine v_seq ?_;intros;refine v_condS _ rfl ?_ ?_
      ·intro hc2
       have hlt:ia < l.length:=by omega
       obtain ⟨⟨x0,x1,x2,x3,x4⟩,hx⟩:∃x:Int×Int×Int×Int×Int,l[ia]? =some x:=⟨l[ia]'(by omega),List.getElem?_eq_getElem (by omega)⟩
       have hxo:=hea _ (List.mem_of_getElem? hx)
       refine zn [0,1,2,7,9,38,39,40] ⟨?_⟩;refine v_seq ?_;intros;refine v_block ?_;intros
       have F:=Fc.mk (ai hml (gdm hx))
       refine yR [0,1,2,7,9,10,11,38,39,40] ⟨?_⟩;refine yR [0,1,2,7,9,10,11,38,39,40,45,46,47] ⟨?_⟩;refine v_block ?_;intros;refine v_loop (fun ja=>⟨[(0,.sl (l.map (fun t:Int×Int×Int×Int×Int=>V.agg [V.int .i64 t.1,V.int .i64 t.2.1,V.int .i64 t.2.2.1,V.int .i64 t.2.2.2.1,V.int .i64 t.2.2.2.2]))),(1,.int .i64 wn),(2,.int .i64 rd),(7,.ref 0),(9,.int .i64 (Nat.cast ka)),(10,.int .i64 (Nat.cast ia)),(11,.ptr 1 0 0),(38,.sl (l.map (fun t:Int×Int×Int×Int×Int=>V.agg [V.int .i64 t.1,V.int .i64 t.2.1,V.int .i64 t.2.2.1,V.int .i64 t.2.2.2.1,V.int .i64 t.2.2.2.2]))),(39,.int .i64 l.length),(40,.int .i64 (Nat.cast ia)),(45,.sl (l.map (fun t:Int×Int×Int×Int×Int=>V.agg [V.int .i64 t.1,V.int .i64 t.2.1,V.int .i64 t.2.2.1,V.int .i64 t.2.2.2.1,V.int .i64 t.2.2.2.2]))),(46,.int .i64 l.length),(47,.int .i64 (Nat.cast ja))],[.arr ((rowTo (relC l wn rd) (rndTo (relC l wn rd) l.length (markN (relC l wn rd) l.length ka) ia) ia ja).map (V.int .i64)) .flat,.box (.agg [V.int .i64 x0,V.int .i64 x1,V.int .i64 x2,V.int .i64 x3,V.int .i64 x4]) .flat],false,100,0⟩) (fun ja=>ja≤l.length) (fun ja=>l.length - ja) (0:Nat) ?_ ?_ ?_
       ·refine weak_bothS [0,1,2,7,9,10,11,38,39,40,45,46,47] [0,1] ⟨?_⟩
        rfl
       ·exact Nat.zero_le _
       ·rintro ja hok35 Q35 n35 e35 r35
        have hj2:ja≤l.length:=hok35
        refine yR [0,1,2,7,9,10,11,38,39,40,45,46,47,48] ⟨?_⟩;refine v_seq ?_;intros;refine v_condS _ rfl ?_ ?_
        ·intro hc3
         have hltj:ja < l.length:=by omega
         obtain ⟨⟨y0,y1,y2,y3,y4⟩,hy⟩:∃x:Int×Int×Int×Int×Int,l[ja]? =some x:=⟨l[ja]'(by omega),List.getElem?_eq_getElem (by omega)⟩
         have hyo:=hea _ (List.mem_of_getElem? hy)
         have hrel:(relC l wn rd) ia ja=nearB wn rd (x0,x1,x2,x3,x4) (y0,y1,y2,y3,y4):=relC_at hx hy
         have hrl:(rowTo (relC l wn rd) (rndTo (relC l wn rd) l.length (markN (relC l wn rd) l.length ka) ia) ia ja).length=l.length:=by rw [rowTo_len,rndTo_len,markN_len]
         obtain ⟨mi,hmi⟩:∃x,(rowTo (relC l wn rd) (rndTo (relC l wn rd) l.length (markN (relC l wn rd) l.length ka) ia) ia ja)[ia]? =some x:=⟨(rowTo (relC l wn rd) (rndTo (relC l wn rd) l.length (markN (relC l wn rd) l.length ka) ia) ia ja)[ia]'(by omega),List.getElem?_eq_getElem (by omega)⟩
         obtain ⟨mj,hmj⟩:∃x,(rowTo (relC l wn rd) (rndTo (relC l wn rd) l.length (markN (relC l wn rd) l.length ka) ia) ia ja)[ja]? =some x:=⟨(rowTo (relC l wn rd) (rndTo (relC l wn rd) l.length (markN (relC l wn rd) l.length ka) ia) ia ja)[ja]'(by omega),List.getElem?_eq_getElem (by omega)⟩
         have hst:=relB_at (rl:=(relC l wn rd)) hmi hmj
         rw [hrel] at hst
         refine zn [0,1,2,7,9,10,11,38,39,40,45,46,47] ⟨?_⟩;refine v_seq ?_;intro Q39 n39 e39 r39;refine v_block ?_;intro Q40 n40 x40 e40 r40
         have F:=Fc.mk (ai hml (ai (gdm hx) (ai (gdm hy) (ai (gdm hmi) (ai (gdm hmj) hrl)))))
         refine yR [0,1,2,7,9,10,11,12,13,38,39,40,45,46,47] ⟨?_⟩;refine yRc [0,1,2,7,9,10,11,12,38,39,40,45,46,47,56] (clSame_con x0 x1 x2 x3 x4 y0 y1 y2 y3 y4 hxo hyo wn rd) ⟨?_⟩;refine v_condS _ rfl ?_ ?_
         ·intro hc4
          have hst2:rowTo (relC l wn rd) (rndTo (relC l wn rd) l.length (markN (relC l wn rd) l.length ka) ia) ia (ja+1)=(rowTo (relC l wn rd) (rndTo (relC l wn rd) l.length (markN (relC l wn rd) l.length ka) ia) ia ja).set ia (if mj < mi then mj else mi):=by rw [rowTo,hst,if_pos hc4];rfl
          refine v_draw (by kernel_rfl) ?_;intro K44 q44 k44
          show aAny _ _ _ _ 13 (Array.replicate 13 false) _
          have F:=Fc.mk (ai hml (ai (gdm hx) (ai (gdm hy) (ai (gdm hmi) (ai (gdm hmj) (ai hrl @set_map))))))
          refine zdMove q44 true 0 57 ?_;refine zdMove q44 true 1 58 ?_;refine zdMove q44 true 2 59 ?_;refine zdMove q44 true 3 60 ?_;refine zdIndexAddr q44 true 4 61 ?_;refine zdLoad q44 true 5 62 ?_;refine zdMove q44 true 6 63 ?_;refine zdMove q44 true 7 64 ?_;refine zdIndexAddr q44 true 8 65 ?_;refine zdLoad q44 true 9 66 ?_;refine zoc 10 (l1Least_con mi mj) ⟨?_⟩;refine zdIndexAddr q44 true 11 68 ?_;refine zoStore 12 ⟨?_⟩;refine aAny_done (by kernel_rfl) ?_;refine k44 _ ?_;refine n40 _ ?_;refine n39 _ _ (weak_keep [0,1,2,7,9,10,11,38,39,40,45,46,47] _) ?_;refine zk ⟨?_⟩;refine yV ⟨?_⟩;refine n35 _ (ja+1) ?_ ?_ ?_
          ·refine weak_bothS [0,1,2,7,9,10,11,38,39,40,45,46,47] [0,1] ⟨?_⟩
           rw [hst2];rfl
          ·exact hltj
          ·show _ < _;omega
         ·intro hc4
          have hst2:rowTo (relC l wn rd) (rndTo (relC l wn rd) l.length (markN (relC l wn rd) l.length ka) ia) ia (ja+1)=(rowTo (relC l wn rd) (rndTo (relC l wn rd) l.length (markN (relC l wn rd) l.length ka) ia) ia ja):=by rw [rowTo,hst,if_neg (by simp [hc4])]
          refine zn [0,1,2,7,9,10,11,38,39,40,45,46,47] ⟨?_⟩;refine yV ⟨?_⟩;refine n35 _ (ja+1) ?_ ?_ ?_
          ·refine weak_bothS [0,1,2,7,9,10,11,38,39,40,45,46,47] [0,1] ⟨?_⟩
           rw [hst2];rfl
          ·exact hltj
          ·show _ < _;omega
        ·intro hc3
         have hk3:(rowTo (relC l wn rd) (rndTo (relC l wn rd) l.length (markN (relC l wn rd) l.length ka) ia) ia ja)=rndTo (relC l wn rd) l.length (markN (relC l wn rd) l.length ka) (ia+1):=by rw [show ja=l.length by omega];rfl
         refine zn [0,1,2,7,9,38,39,40] ⟨?_⟩;refine yV ⟨?_⟩;refine n26 _ (ia+1) ?_ ?_ ?_
         ·refine weak_bothS [0,1,2,7,9,38,39,40] [0] ⟨?_⟩
          rw [hk3];rfl
         ·exact hlt
         ·show _ < _;omega
      ·intro hc2
       have hk2:rndTo (relC l wn rd) l.length (markN (relC l wn rd) l.length ka) ia=markN (relC l wn rd) l.length (ka+1):=by rw [show ia=l.length by omega];rfl
       refine zn [0,1,2,7,9] ⟨?_⟩;refine yV ⟨?_⟩;refine n18 _ (ka+1) ?_ ?_ ?_
       ·refine weak_bothS [0,1,2,7,9] [0] ⟨?_⟩
        rw [hk2];rfl
       ·exact hlk
       ·show _ < _;omega
    ·intro hc1
     have hk1:markN (relC l wn rd) l.length ka=(mkC l wn rd):=by rw [show ka=l.length by omega];rfl
     refine zn [0,7] ⟨?_⟩;refine yR [0,7,14] ⟨?_⟩;refine v_seq ?_;intros;refine yR [7,14,72,73] ⟨?_⟩;refine v_block ?_;intros;refine v_loop (fun ib=>⟨[(7,.ref 0),(14,.ref 1),(72,.int .i64 l.length),(73,.int .i64 (Nat.cast ib))],[.arr ((mkC l wn rd).map (V.int .i64)) .flat,.arr ((outTo (mkC l wn rd) l.length ib).map (fun l:List Int=>V.sl (l.map (V.int .i64)))) (fillK (outTo (mkC l wn rd) l.length ib).length)],false,100,0⟩) (fun ib=>ib≤l.length) (fun ib=>l.length - ib) (0:Nat) ?_ ?_ ?_
     ·refine weak_bothS [7,14,72,73] [0,1] ⟨?_⟩
      rw [hk1];rfl
     ·exact Nat.zero_le _
     ·rintro ib hok53 Q53 n53 e53 r53
      have hb1:ib≤l.length:=hok53
      refine yR [7,14,72,73,74] ⟨?_⟩;refine v_seq ?_;intros;refine v_condS _ rfl ?_ ?_
      ·intro hc5
       have hltb:ib < l.length:=by omega
       refine zn [7,14,72,73] ⟨?_⟩;refine v_seq ?_;intros;refine v_block ?_;intros;refine yR [7,14,15,72,73] ⟨?_⟩;refine yR [7,14,15,16,72,73] ⟨?_⟩;refine v_seq ?_;intros;refine yR [7,14,15,16,72,73,76,77,78] ⟨?_⟩;refine v_block ?_;intros;refine v_loop (fun jb=>⟨[(7,.ref 0),(14,.ref 1),(15,.int .i64 (Nat.cast ib)),(16,.ref 2),(72,.int .i64 l.length),(73,.int .i64 (Nat.cast ib)),(76,.ref 0),(77,.int .i64 l.length),(78,.int .i64 (Nat.cast jb))],[.arr ((mkC l wn rd).map (V.int .i64)) .flat,.arr ((outTo (mkC l wn rd) l.length ib).map (fun l:List Int=>V.sl (l.map (V.int .i64)))) (fillK (outTo (mkC l wn rd) l.length ib).length),.arr ((grpTo (mkC l wn rd) ib jb).map (V.int .i64)) .flat],false,100,0⟩) (fun jb=>jb≤l.length) (fun jb=>l.length - jb) (0:Nat) ?_ ?_ ?_
       ·refine weak_bothS [7,14,15,16,72,73,76,77,78] [0,1,2] ⟨?_⟩
        rfl
       ·exact Nat.zero_le _
       ·rintro jb hok64 Q64 n64 e64 r64
        have hj1:jb≤l.length:=hok64
        refine yR [7,14,15,16,72,73,76,77,78,79] ⟨?_⟩;refine v_seq ?_;intros;refine v_condS _ rfl ?_ ?_
        ·intro hc6
         have hltj:jb < l.length:=by omega
         obtain ⟨mj,hmj⟩:∃x,(mkC l wn rd)[jb]? =some x:=⟨(mkC l wn rd)[jb]'(by omega),List.getElem?_eq_getElem (by omega)⟩
         have hst:=grpTo_at (c:=ib) hmj
         have hgl:=grpTo_len (mkC l wn rd) ib jb
         refine zn [7,14,15,16,72,73,76,77,78] ⟨?_⟩;refine v_seq ?_;intros;refine v_block ?_;intros
         have F:=Fc.mk (ai hml (gdm hmj))
         refine yR [7,14,15,16,17,18,72,73,76,77,78] ⟨?_⟩;refine yR [7,14,15,16,17,72,73,76,77,78,85] ⟨?_⟩;refine v_condS _ rfl ?_ ?_
         ·intro hc7
          have hst2:grpTo (mkC l wn rd) ib (jb+1)=(grpTo (mkC l wn rd) ib jb)++[(jb:Int)]:=by rw [hst,if_pos hc7]
          refine yQ [7,14,15,16,72,73,76,77,78] ⟨?_⟩;refine yV ⟨?_⟩;refine n64 _ (jb+1) ?_ ?_ ?_
          ·refine weak_bothS [7,14,15,16,72,73,76,77,78] [0,1,4] ⟨?_⟩
           rw [hst2,List.map_append];rfl
          ·exact hltj
          ·show _ < _;omega
         ·intro hc7
          have hst2:grpTo (mkC l wn rd) ib (jb+1)=(grpTo (mkC l wn rd) ib jb):=by rw [hst,if_neg hc7,List.append_nil]
          refine zn [7,14,15,16,72,73,76,77,78] ⟨?_⟩;refine yV ⟨?_⟩;refine n64 _ (jb+1) ?_ ?_ ?_
          ·refine weak_bothS [7,14,15,16,72,73,76,77,78] [0,1,2] ⟨?_⟩
           rw [hst2];rfl
          ·exact hltj
          ·show _ < _;omega
        ·intro hc6
         have hgn:(grpTo (mkC l wn rd) ib jb)=grpTo (mkC l wn rd) ib l.length:=by rw [show jb=l.length by omega]
         refine zn [7,14,16,72,73] ⟨?_⟩;refine yR [7,14,16,72,73,93] ⟨?_⟩;refine v_condS _ rfl ?_ ?_
         ·intro hc8
          have hol:=outTo_len (mkC l wn rd) l.length ib
          have hgl:=grpTo_len (mkC l wn rd) ib jb
          have hot:outTo (mkC l wn rd) l.length (ib+1)=(outTo (mkC l wn rd) l.length ib)++[(grpTo (mkC l wn rd) ib jb)]:=by rw [hgn];exact out_step (by rw [←hgn];omega)
          refine yQ [7,14,72,73] ⟨?_⟩;refine yV ⟨?_⟩;refine n53 _ (ib+1) ?_ ?_ ?_
          ·refine weak_bothS [7,14,72,73] [0,4] ⟨?_⟩
           rw [hot,←snoc_G,fillK_snocG];rfl
          ·exact hltb
          ·show _ < _;omega
         ·intro hc8
          have hot:outTo (mkC l wn rd) l.length (ib+1)=(outTo (mkC l wn rd) l.length ib):=out_same (by rw [←hgn];omega)
          refine zn [7,14,72,73] ⟨?_⟩;refine yV ⟨?_⟩;refine n53 _ (ib+1) ?_ ?_ ?_
          ·refine weak_bothS [7,14,72,73] [0,1] ⟨?_⟩
           rw [hot];rfl
          ·exact hltb
          ·show _ < _;omega
      ·intro hc5
       refine zn [14] ⟨?_⟩;refine yR [6] ⟨?_⟩;refine zr ⟨?_⟩
       have hend:(outTo (mkC l wn rd) l.length ib)=groupsC l wn rd:=by rw [show ib=l.length by omega];rfl
       rw [←hend]
       exact ret_ref rfl (fillK_or _)
set_option maxRecDepth 8000 in
theorem groupCalls_con (l:List (Int×Int×Int×Int×Int)) (wn rd:Int) (hb:csB l=true):Con Try.prog 63 [.sl (l.map (fun t:Int×Int×Int×Int×Int=>V.agg [V.int .i64 t.1,V.int .i64 t.2.1,V.int .i64 t.2.2.1,V.int .i64 t.2.2.2.1,V.int .i64 t.2.2.2.2])),.int .i64 wn,.int .i64 rd] [] (.ref 0) [.arr ((groupsC l wn rd).map (fun l:List Int=>V.sl (l.map (V.int .i64)))) (fillK (groupsC l wn rd).length)]:=by
 have hl20:=cs_len hb
 have hea:=cs_each hb
 have hsy:=relC_comm l wn rd
 refine v_con [.tmp 6] [(71,[0])] Try.func63 rfl rfl rfl (by simp [Try.ntmps63]) ?_
 intro Q0 n0 r0
 simp only [Try.ntmps63,envFrom,Nat.reduceAdd]
 have T:=Tys.mk (ai Ty.t3 (ai Ty.t4 (ai Ty.t26 (ai Ty.t50 (ai Ty.t53 (ai Ty.t65 Ty.t80))))))
 have F:=Fc.mk True.intro
 refine yR [0,1,2] ⟨?_⟩;refine yR [0,1,2,7] ⟨?_⟩;refine yR [0,1,2,7,8] ⟨?_⟩;refine v_seq ?_;intros;refine yR [0,1,2,7,8,17,18] ⟨?_⟩;refine v_block ?_;intros;refine v_loop (fun p=>⟨[(0,.sl (l.map (fun t:Int×Int×Int×Int×Int=>V.agg [V.int .i64 t.1,V.int .i64 t.2.1,V.int .i64 t.2.2.1,V.int .i64 t.2.2.2.1,V.int .i64 t.2.2.2.2]))),(1,.int .i64 wn),(2,.int .i64 rd),(7,.ref 0),(8,.ref 1),(17,.int .i64 l.length),(18,.int .i64 (Nat.cast p.1))],[.arr (p.2.map V.bool) .flat,.arr ((outTo (mkC l wn rd) l.length p.1).map (fun l:List Int=>V.sl (l.map (V.int .i64)))) (fillK (outTo (mkC l wn rd) l.length p.1).length)],false,78,0⟩) (fun p=>p.1≤l.length∧BO (mkC l wn rd) l.length p.1 p.2) (fun p=>l.length - p.1) ((0,List.replicate l.length false):Nat×List Bool) ?_ ?_ ?_
 ·refine weak_bothS [0,1,2,7,8,17,18] [1,2] ⟨?_⟩
  rw [List.map_replicate];rfl
 ·exact ⟨Nat.zero_le _,bo_zero hsy⟩
 ·rintro ⟨f,sn⟩ hok7 Q7 n7 e7 r7
  obtain ⟨hf1,hbo⟩:=hok7
  simp only [] at hf1 hbo⊢
  refine yR [0,1,2,7,8,17,18,19] ⟨?_⟩;refine v_seq ?_;intros;refine v_condS _ rfl ?_ ?_
  ·intro hc0
   have hlt:f < l.length:=by omega
   have hsl:=hbo.1
   obtain ⟨bf,hbf⟩:∃b,sn[f]? =some b:=⟨sn[f]'(by omega),List.getElem?_eq_getElem (by omega)⟩
   have hgd:sn.getD f false=bf:=by rw [List.getD_eq_getElem?_getD,hbf];rfl
   refine zn [0,1,2,7,8,17,18] ⟨?_⟩;refine v_seq ?_;intros;refine v_block ?_;intros
   have F:=Fc.mk (ai (gdm hbf) hsl)
   refine yR [0,1,2,7,8,9,17,18] ⟨?_⟩;refine v_seq ?_;intros;refine yR [0,1,2,7,8,9,17,18,24] ⟨?_⟩;refine v_condS _ rfl ?_ ?_
   ·intro hc1
    have hsk:=bo_skip hsy hbo hlt (by rw [hgd];exact hc1)
    have hot:outTo (mkC l wn rd) l.length (f+1)=(outTo (mkC l wn rd) l.length f):=out_same (by show ¬0 < (grpTo (markF (relC l wn rd) l.length) f l.length).length;rw [hsk.2];exact Nat.lt_irrefl _)
    refine zn [0,1,2,7,8,17,18] ⟨?_⟩;refine yV ⟨?_⟩;refine n7 _ (f+1,sn) ?_ ?_ ?_
    ·refine weak_bothS [0,1,2,7,8,17,18] [0,1] ⟨?_⟩
     rw [hot];rfl
    ·exact ⟨hlt,hsk.1⟩
    ·show _ < _;show l.length - (f+1) < l.length - f;omega
   ·intro hc1
    have hst0:=bi_start hsy hbo hlt (by rw [hgd];first | exact hc1 | simpa using hc1)
    refine zn [0,1,2,7,8,9,17,18] ⟨?_⟩
    have F:=Fc.mk (ai (gdm hbf) (ai hsl @set_map))
    refine yR [0,1,2,7,8,9,17,18] ⟨?_⟩;refine yR [0,1,2,7,8,10,17,18] ⟨?_⟩;refine v_seq ?_;intros;refine yR [0,1,2,7,8,10,11,17,18] ⟨?_⟩;refine v_block ?_;intros;refine v_loop (fun q=>⟨[(0,.sl (l.map (fun t:Int×Int×Int×Int×Int=>V.agg [V.int .i64 t.1,V.int .i64 t.2.1,V.int .i64 t.2.2.1,V.int .i64 t.2.2.2.1,V.int .i64 t.2.2.2.2]))),(1,.int .i64 wn),(2,.int .i64 rd),(7,.ref 0),(8,.ref 1),(10,.ref 2),(11,.int .i64 (Nat.cast q.1)),(17,.int .i64 l.length),(18,.int .i64 (Nat.cast f))],[.arr (q.2.1.map V.bool) .flat,.arr ((outTo (mkC l wn rd) l.length f).map (fun l:List Int=>V.sl (l.map (V.int .i64)))) (fillK (outTo (mkC l wn rd) l.length f).length),.arr (q.2.2.map (V.int .i64)) .flat],false,78,0⟩) (fun q=>q.1≤q.2.2.length∧BI (mkC l wn rd) l.length f q.2.1 q.2.2∧CloT (relC l wn rd) l.length q.2.2 q.1) (fun q=>l.length - q.1) ((0,sn.set f true,[(f:Int)]):Nat×List Bool×List Int) ?_ ?_ ?_
    ·refine weak_bothS [0,1,2,7,8,10,11,17,18] [0,1,2] ⟨?_⟩
     rfl
    ·exact ⟨Nat.zero_le _,hst0⟩
    ·rintro ⟨ka,s1,g1⟩ hok23 Q23 n23 e23 r23
     obtain ⟨hk9,hbi,hct⟩:=hok23
     simp only [] at hk9 hbi hct⊢
     refine v_seq ?_;intros;refine yR [0,1,2,7,8,10,11,17,18,33] ⟨?_⟩;refine v_condS _ rfl ?_ ?_
     ·intro hc2
      have hlk:ka < g1.length:=by omega
      have hgl:=hbi.cnt
      obtain ⟨xg,hxg⟩:∃x,g1[ka]? =some x:=⟨g1[ka],List.getElem?_eq_getElem hlk⟩
      obtain ⟨xn,rfl,hxn,hxm⟩:=hbi.mem _ (List.mem_of_getElem? hxg)
      obtain ⟨⟨x0,x1,x2,x3,x4⟩,hx⟩:∃x:Int×Int×Int×Int×Int,l[xn]? =some x:=⟨l[xn]'(by omega),List.getElem?_eq_getElem (by omega)⟩
      have hxo:=hea _ (List.mem_of_getElem? hx)
      refine zn [0,1,2,7,8,10,11,17,18] ⟨?_⟩;refine v_seq ?_;intros;refine v_block ?_;intros;refine yR [0,1,2,7,8,10,11,17,18,37,38] ⟨?_⟩;refine v_block ?_;intros;refine v_loop (fun u=>⟨[(0,.sl (l.map (fun t:Int×Int×Int×Int×Int=>V.agg [V.int .i64 t.1,V.int .i64 t.2.1,V.int .i64 t.2.2.1,V.int .i64 t.2.2.2.1,V.int .i64 t.2.2.2.2]))),(1,.int .i64 wn),(2,.int .i64 rd),(7,.ref 0),(8,.ref 1),(10,.ref 2),(11,.int .i64 (Nat.cast ka)),(17,.int .i64 l.length),(18,.int .i64 (Nat.cast f)),(37,.int .i64 l.length),(38,.int .i64 (Nat.cast u.1))],[.arr (u.2.1.map V.bool) .flat,.arr ((outTo (mkC l wn rd) l.length f).map (fun l:List Int=>V.sl (l.map (V.int .i64)))) (fillK (outTo (mkC l wn rd) l.length f).length),.arr (u.2.2.map (V.int .i64)) .flat],false,78,0⟩) (fun u=>u.1≤l.length∧u.2.2[ka]? =some (xn:Int)∧BI (mkC l wn rd) l.length f u.2.1 u.2.2∧CloT (relC l wn rd) l.length u.2.2 ka∧CloI (relC l wn rd) u.2.2 ka u.1) (fun u=>l.length - u.1) ((0,s1,g1):Nat×List Bool×List Int) ?_ ?_ ?_
      ·refine weak_bothS [0,1,2,7,8,10,11,17,18,37,38] [0,1,2] ⟨?_⟩
       rfl
      ·exact ⟨Nat.zero_le _,hxg,hbi,hct,fun x hx y hy=>absurd hy (Nat.not_lt_zero _)⟩
      ·rintro ⟨ib,s2,g2⟩ hok31 Q31 n31 e31 r31
       obtain ⟨hi2,hgk,hbi2,hct2,hci2⟩:=hok31
       simp only [] at hi2 hgk hbi2 hct2 hci2⊢
       refine yR [0,1,2,7,8,10,11,17,18,37,38,39] ⟨?_⟩;refine v_seq ?_;intros;refine v_condS _ rfl ?_ ?_
       ·intro hc3
        have hlt2:ib < l.length:=by omega
        obtain ⟨⟨y0,y1,y2,y3,y4⟩,hy⟩:∃x:Int×Int×Int×Int×Int,l[ib]? =some x:=⟨l[ib]'(by omega),List.getElem?_eq_getElem (by omega)⟩
        have hyo:=hea _ (List.mem_of_getElem? hy)
        have hrel:(relC l wn rd) xn ib=nearB wn rd (x0,x1,x2,x3,x4) (y0,y1,y2,y3,y4):=relC_at hx hy
        have hsl2:=hbi2.len
        obtain ⟨sb,hsb⟩:∃b,s2[ib]? =some b:=⟨s2[ib]'(by omega),List.getElem?_eq_getElem (by omega)⟩
        have hgd2:s2.getD ib false=sb:=by rw [List.getD_eq_getElem?_getD,hsb];rfl
        have hgkl:ka < g2.length:=(List.getElem?_eq_some_iff.1 hgk).1
        rcases Bool.eq_false_or_eq_true sb with hsv | hsv
        ·skip
         subst hsv
         refine zn [0,1,2,7,8,10,11,17,18,37,38] ⟨?_⟩;refine v_seq ?_;intros;refine v_block ?_;intros
         have F:=Fc.mk (ai (gdm hbf) (ai hsl (ai @set_map (ai (gdm hsb) (ai (gdm hgk) (ai @Int.toNat_natCast (ai (gdm hx) (ai (gdm hy) hsl2))))))))
         refine yR [0,1,2,7,8,10,11,12,17,18,37,38] ⟨?_⟩;refine v_seq ?_;intro Q38 n38 e38 r38;refine v_draw (by kernel_rfl) ?_;intro K39 q39 k39
         show aAny _ _ _ _ 21 (Array.replicate 21 false) _
         refine zdMove q39 true 0 41 ?_;refine zdMove q39 true 1 42 ?_;refine zdIndexAddr q39 true 2 43 ?_;refine zdLoad q39 true 3 44 ?_;refine zdUnOp q39 true 4 45 ?_;refine zdMove q39 true 5 46 ?_;refine zdgMove q39 true 6 47 ?_;refine zdgMove q39 true 7 48 ?_;refine zdgMove q39 true 8 49 ?_;refine zdgIndexAddr q39 true 9 50 ?_;refine zdgLoad q39 true 10 51 ?_;refine zdgIndexAddr q39 true 11 52 ?_;refine zdgLoad q39 true 12 53 ?_;refine zdgMove q39 true 13 54 ?_;refine zdgMove q39 true 14 55 ?_;refine zdgIndexAddr q39 true 15 56 ?_;refine zdgLoad q39 true 16 57 ?_;refine zdgMove q39 true 17 58 ?_;refine zdgMove q39 true 18 59 ?_
         first
         |refine zogc 19 (oneEvent_con x0 x1 x2 x3 x4 y0 y1 y2 y3 y4 hxo hyo wn rd) ⟨?_⟩
         |(refine aAny_pass 19 60 5 true rfl rfl (show 60 < 78 by decide) (by kernel_rfl) rfl ?_ ?_;(focus first | rfl | (simp only [zV,guardV,Nat.reduceEqDiff,reduceIte];done));simp only [zW,set_some,Nat.reduceEqDiff,reduceIte])
         refine zdPick q39 true 20 61 ?_;refine aAny_done (by kernel_rfl) ?_;refine k39 _ ?_;refine n38 _ _ (weak_keep [0,1,2,7,8,10,11,12,17,18,37,38,61] _) ?_;refine zk ⟨?_⟩;refine v_cond _ rfl ?_ ?_
         ·intro hc4
          exfalso;simp at hc4
         ·intro hc4
          try simp only [zC,reduceCtorEq] at hc4
          refine zn [0,1,2,7,8,10,11,17,18,37,38] ⟨?_⟩;refine yV ⟨?_⟩;refine n31 _ (ib+1,s2,g2) ?_ ?_ ?_
          ·refine weak_bothS [0,1,2,7,8,10,11,17,18,37,38] [0,1,2] ⟨?_⟩
           rfl
          ·exact ⟨hlt2,hgk,hbi2,hct2,bi_pass hbi2 hgk (fun y hy hr=>(mk_rel hsy hxn hy hr).trans hxm) hci2 hlt2 (fun q=>by rw [hgd2] at q;cases q.1)⟩
          ·show _ < _;show l.length - (ib+1) < l.length - ib;omega
        ·skip
         subst hsv
         refine zn [0,1,2,7,8,10,11,17,18,37,38] ⟨?_⟩;refine v_seq ?_;intros;refine v_block ?_;intros
         have F:=Fc.mk (ai (gdm hbf) (ai hsl (ai @set_map (ai (gdm hsb) (ai (gdm hgk) (ai @Int.toNat_natCast (ai (gdm hx) (ai (gdm hy) hsl2))))))))
         refine yR [0,1,2,7,8,10,11,12,17,18,37,38] ⟨?_⟩;refine v_seq ?_;intro Q45 n45 e45 r45;refine v_draw (by kernel_rfl) ?_;intro K46 q46 k46
         show aAny _ _ _ _ 21 (Array.replicate 21 false) _
         refine zdMove q46 true 0 41 ?_;refine zdMove q46 true 1 42 ?_;refine zdIndexAddr q46 true 2 43 ?_;refine zdLoad q46 true 3 44 ?_;refine zdUnOp q46 true 4 45 ?_;refine zdMove q46 true 5 46 ?_;refine zdgMove q46 true 6 47 ?_;refine zdgMove q46 true 7 48 ?_;refine zdgMove q46 true 8 49 ?_;refine zdgIndexAddr q46 true 9 50 ?_;refine zdgLoad q46 true 10 51 ?_;refine zdgIndexAddr q46 true 11 52 ?_;refine zdgLoad q46 true 12 53 ?_;refine zdgMove q46 true 13 54 ?_;refine zdgMove q46 true 14 55 ?_;refine zdgIndexAddr q46 true 15 56 ?_;refine zdgLoad q46 true 16 57 ?_;refine zdgMove q46 true 17 58 ?_;refine zdgMove q46 true 18 59 ?_
         first
         |refine zogc 19 (oneEvent_con x0 x1 x2 x3 x4 y0 y1 y2 y3 y4 hxo hyo wn rd) ⟨?_⟩
         |(refine aAny_pass 19 60 5 true rfl rfl (show 60 < 78 by decide) (by kernel_rfl) rfl ?_ ?_;(focus first | rfl | (simp only [zV,guardV,Nat.reduceEqDiff,reduceIte];done));simp only [zW,set_some,Nat.reduceEqDiff,reduceIte])
         refine zdPick q46 true 20 61 ?_;refine aAny_done (by kernel_rfl) ?_;refine k46 _ ?_;refine n45 _ _ (weak_keep [0,1,2,7,8,10,11,12,17,18,37,38,61] _) ?_;refine zk ⟨?_⟩;refine v_condS _ rfl ?_ ?_
         ·intro hc4
          have hgl2:=hbi2.cnt
          have hnr:=hc4
          refine yR [0,1,2,7,8,10,11,12,17,18,37,38] ⟨?_⟩;refine yQ [0,1,2,7,8,10,11,17,18,37,38] ⟨?_⟩;refine yV ⟨?_⟩;refine n31 _ (ib+1,s2.set ib true,g2++[(ib:Int)]) ?_ ?_ ?_
          ·refine weak_bothS [0,1,2,7,8,10,11,17,18,37,38] [0,1,4] ⟨?_⟩
           rw [List.map_append];rfl
          ·have hp:=bi_push hsy hbi2 hct2 hgk hci2 hlt2 hgd2 (by rw [hrel];first | exact hnr | simpa using hnr)
           exact ⟨hlt2,by show (g2++_)[ka]? =_;rw [List.getElem?_append_left hgkl];exact hgk,hp⟩
          ·show _ < _;show l.length - (ib+1) < l.length - ib;omega
         ·intro hc4
          refine zn [0,1,2,7,8,10,11,17,18,37,38] ⟨?_⟩;refine yV ⟨?_⟩;refine n31 _ (ib+1,s2,g2) ?_ ?_ ?_
          ·refine weak_bothS [0,1,2,7,8,10,11,17,18,37,38] [0,1,2] ⟨?_⟩
           rfl
          ·exact ⟨hlt2,hgk,hbi2,hct2,bi_pass hbi2 hgk (fun y hy hr=>(mk_rel hsy hxn hy hr).trans hxm) hci2 hlt2 (fun q=>by rw [hrel] at q;have:=q.2;simp_all)⟩
          ·show _ < _;show l.length - (ib+1) < l.length - ib;omega
       ·intro hc3
        have hie:ib=l.length:=by omega
        have hgkl:ka < g2.length:=(List.getElem?_eq_some_iff.1 hgk).1
        refine zn [0,1,2,7,8,10,11,17,18] ⟨?_⟩;refine yV ⟨?_⟩;refine n23 _ (ka+1,s2,g2) ?_ ?_ ?_
        ·refine weak_bothS [0,1,2,7,8,10,11,17,18] [0,1,2] ⟨?_⟩
         rfl
        ·exact ⟨hgkl,hbi2,clo_next hct2 (by rw [←hie];exact hci2)⟩
        ·show _ < _;show l.length - (ka+1) < l.length - ka;omega
     ·intro hc2
      have hke:ka=g1.length:=by omega
      have hol:=outTo_len (mkC l wn rd) l.length f
      have hgl:=hbi.cnt
      have hfin:=bi_end hsy hbi (by rw [←hke];exact hct)
      have hot:outTo (mkC l wn rd) l.length (f+1)=(outTo (mkC l wn rd) l.length f)++[sortL g1]:=by rw [hfin.2.1];exact out_step hfin.2.2
      refine zn [0,1,2,7,8,10,17,18] ⟨?_⟩;refine yRl [0,1,2,7,8,10,17,18] (sortAny_con g1 (by omega)) ⟨?_⟩;refine yQ [0,1,2,7,8,17,18] ⟨?_⟩;refine yV ⟨?_⟩;refine n7 _ (f+1,s1) ?_ ?_ ?_
      ·refine weak_bothS [0,1,2,7,8,17,18] [0,4] ⟨?_⟩
       rw [hot,←snoc_G,fillK_snocG];rfl
      ·exact ⟨hlt,hfin.1⟩
      ·show _ < _;show l.length - (f+1) < l.length - f;omega
  ·intro hc0
   refine zn [8] ⟨?_⟩;refine yR [6] ⟨?_⟩;refine zr ⟨?_⟩
   have hend:(outTo (mkC l wn rd) l.length f)=groupsC l wn rd:=by rw [show f=l.length by omega];rfl
   rw [←hend]
   exact ret_ref rfl (fillK_or _)
end Go.Proofs.Ytcdpeopiajgljaa
