/- What functions compute. No condition. -/
import Derived.Test.YtmhaafinhpopmaaGreatX1
set_option linter.unusedSimpArgs false
set_option linter.unusedVariables false
set_option linter.defProp false
namespace Go.Proofs.YtmhaafinhpopmaaGreat
open Go Go.Vm
set_option maxHeartbeats 8000000
def firstP {α:Type} (p:α→Bool):Nat→List α→Int
  | _,[]=>-1
  | i,x::l=>if p x=true then i else firstP p (i+1) l
theorem first_step {α:Type} {p:α→Bool} {l:List α} {i:Nat} {x:α} (h:l[i]? =some x):firstP p i (l.drop i)=if p x=true then (i:Int) else firstP p (i+1) (l.drop (i+1)):=by
  rw [getElem_drop_cons h,firstP]
theorem first_end {α:Type} {p:α→Bool} {l:List α} {i k:Nat} (h:l.length≤i):firstP p k (l.drop i)=-1:=by
  rw [qlt h,firstP]
theorem first_any {α:Type} (p:α→Bool):∀(l:List α) (i:Nat),decide (0≤firstP p i l)=l.any p
  | [],i=>by rw [firstP];rfl
  | x::l,i=>by
    rw [firstP,List.any_cons]
    by_cases h:p x=true
    · rw [if_pos h,h];simp
    · rw [if_neg h,first_any p l (i+1),Bool.eq_false_iff.2 h];rfl
theorem first_some {α:Type} {p:α→Bool}:∀{l:List α} {i:Nat},firstP p i l≠-1→∃k,k < l.length∧firstP p i l=((i+k:Nat):Int)∧(l.take (k+1)).filter (fun x=> !p x)=l.take k∧∃x,l[k]? =some x∧p x=true
  | [],i,h=>absurd rfl h
  | x ::l,i,h=>by
    rw [firstP] at h⊢
    by_cases q:p x=true
    · rw [if_pos q]
      exact ⟨0,by simp,by simp,by simp [q],x,rfl,q⟩
    · rw [if_neg q] at h⊢
      obtain ⟨k,h1,h2,h3,y,h4,h5⟩:=first_some (l:=l) h;refine ⟨k+1,by simp;exact h1,by rw [h2];congr 1;omega,?_,y,by simpa using h4,h5⟩;rw [List.take_succ_cons,qmd,if_pos (by simp [q]),h3,List.take_succ_cons]
def insPos (lt:Int→Int→Bool) (x:Int) (p:List Int):Nat→Nat
  | 0=>0
  | k+1=>if lt x (p.getD k 0)=true then insPos lt x p k else k+1
def insR (lt:Int→Int→Bool) (p:List Int) (x:Int):List Int:=p.take (insPos lt x p p.length)++x::p.drop (insPos lt x p p.length)
def isort (lt:Int→Int→Bool) (l:List Int):List Int:=l.foldl (insR lt) []
theorem insPos_le (lt:Int→Int→Bool) (x:Int) (p:List Int):∀k,insPos lt x p k≤k
  | 0=>qlu _
  | k+1=>by
    have:=insPos_le lt x p k;rw [insPos];split<;>omega
theorem insPos_yes {lt:Int→Int→Bool} {x y:Int} {p:List Int} {k:Nat} (hy:p[k]? =some y) (h:lt x y=true):insPos lt x p (k+1)=insPos lt x p k:=by
  rw [insPos,qld,hy,Option.getD_some,if_pos h]
theorem insPos_no {lt:Int→Int→Bool} {x y:Int} {p:List Int} {k:Nat} (hy:p[k]? =some y) (h:lt x y=false):insPos lt x p (k+1)=k+1:=by
  rw [insPos,qld,hy,Option.getD_some,if_neg (by rw [h];decide)]
theorem isort_snoc (lt:Int→Int→Bool) (l:List Int) (x:Int):isort lt (l++[x])=insR lt (isort lt l) x:=by rw [isort,List.foldl_append];rfl
theorem isort_step {lt:Int→Int→Bool} {l:List Int} {i:Nat} {x:Int} (h:l[i]? =some x):isort lt (l.take (i+1))=insR lt (isort lt (l.take i)) x:=by
  rw [qme,h];exact isort_snoc ..
theorem isort_perm (lt:Int→Int→Bool) (l:List Int):(isort lt l).Perm l:=by
  have key:∀(l acc:List Int),(l.foldl (insR lt) acc).Perm (acc++l):=by
    intro l
    induction l with
    | nil=>intro acc;rw [ql6];exact List.Perm.refl _
    | cons x l ih=>
      intro acc;refine (ih (insR lt acc x)).trans ?_;have h1:(insR lt acc x).Perm (x::acc):=by
        rw [insR];refine List.perm_middle.trans ?_;rw [List.take_append_drop]
      refine (h1.append_right l).trans ?_;rw [List.cons_append];exact List.perm_middle.symm
  have h:=key l [];rw [List.nil_append] at h;exact h
theorem isort_len (lt:Int→Int→Bool) (l:List Int):(isort lt l).length=l.length:=(isort_perm lt l).length_eq
theorem isort_mem {lt:Int→Int→Bool} {l:List Int} {x:Int}:x∈isort lt l↔x∈l:=(isort_perm lt l).mem_iff
def insAt (p:List Int) (x:Int) (r:List Int) (j:Nat):List Int:=p.take j++x::(p.drop j++r)
theorem insAt_len {p r:List Int} {x:Int} {j:Nat} (h:j≤p.length):(insAt p x r j).length=p.length+1+r.length:=by
  rw [insAt,qlm,qmf,qlm,qls,qmh];omega
theorem insAt_get {p r:List Int} {x:Int} {j:Nat} (h:j≤p.length):(insAt p x r j)[j]? =some x:=by
  rw [insAt,qlr (by rw [qls];omega),qls,show j - min j p.length=0 by omega];rfl
theorem insAt_prev {p r:List Int} {x y:Int} {j:Nat} (hy:p[j]? =some y):(insAt p x r (j+1))[j]? =some y:=by
  have hj:j < p.length:=(qlc.1 hy).1;rw [insAt,qlv (by rw [qls];omega),List.getElem?_take,if_pos (Nat.lt_succ_self j),hy]
theorem insAt_swap {p r:List Int} {x y:Int} {j:Nat} (hy:p[j]? =some y):((insAt p x r (j+1)).set (j+1) y).set j x=insAt p x r j:=by
  have hj:j < p.length:=(qlc.1 hy).1;have ht:(p.take (j+1))=p.take j++[y]:=by rw [qme,hy];rfl
  have hl:(p.take j).length=j:=by rw [qls];omega
  rw [insAt,insAt,ht];rw [List.set_append_right _ _ (by simp [hl]),List.set_append_left _ _ (by simp [hl]),List.set_append_right _ _ (by omega)];simp only [hl,List.length_append,List.length_singleton,Nat.sub_self,List.set_cons_zero,List.append_assoc]
  congr 1
  rw [List.singleton_append]
  congr 1
  have hd:p.drop j=y::p.drop (j+1):=by
    rw [List.drop_eq_getElem_cons hj]
    congr 1
    exact (qlc.1 hy).2
  rw [hd];rfl
theorem insAt_start {p r:List Int} {x:Int}:insAt p x r p.length=p++x::r:=by rw [insAt,List.take_length,List.drop_length];rfl
theorem insAt_end {lt:Int→Int→Bool} {p r:List Int} {x:Int} {j:Nat} (h:insPos lt x p p.length=j):insAt p x r j=insR lt p x++r:=by
  rw [insAt,insR,h,qlw,List.cons_append]
theorem take_cons_drop {l:List Int} {i:Nat} {x:Int} (h:l[i]? =some x):l.drop i=x::l.drop (i+1):=by
  have hj:i < l.length:=(qlc.1 h).1;rw [List.drop_eq_getElem_cons hj]
  congr 1
  exact (qlc.1 h).2
namespace Tm
def le (a b:Int):Prop:=b < 0∨(0≤a∧a≤b)
theorem le_refl (a:Int):le a a:=by unfold le;omega
theorem le_trans {a b c:Int} (h:le a b) (k:le b c):le a c:=by unfold le at *;omega
theorem le_antisymm {a b:Int} (h:le a b) (k:le b a) (ha:-1≤a) (hb:-1≤b):a=b:=by unfold le at *;omega
def at_ (x:List Int) (v:Nat):Int:=x.getD v (-1)
def trig (x:List Int) (e:(Nat×Nat×Int)):Bool:=decide (0≤at_ x e.1) && (decide (at_ x e.2.1 < 0) || decide (at_ x e.1+e.2.2 < at_ x e.2.1))
def relax (x:List Int) (e:(Nat×Nat×Int)):List Int:=if trig x e=true then x.set e.2.1 (at_ x e.1+e.2.2) else x
def round (es:List (Nat×Nat×Int)) (x:List Int):List Int:=es.foldl relax x
def Good (n:Nat) (e:(Nat×Nat×Int)):Prop:=e.1 < n∧e.2.1 < n∧e.1≠e.2.1∧1≤e.2.2
theorem at_set (x:List Int) (v u:Nat) (a:Int) (h:v < x.length):at_ (x.set v a) u=if u=v then a else at_ x u:=by
  unfold at_
  by_cases q:u=v
  · subst q;simp [List.getD_eq_getElem?_getD,h]
  · rw [if_neg q,qld,qld,qlq (fun z=>q z.symm)]
theorem relax_len (x:List Int) (e:(Nat×Nat×Int)):(relax x e).length=x.length:=by
  unfold relax;split<;>simp
theorem round_len (es:List (Nat×Nat×Int)):∀x:List Int,(round es x).length=x.length:=by
  induction es with
  | nil=>intro x;rfl
  | cons e es ih=>intro x;show (round es (relax x e)).length=_;rw [ih,relax_len]
theorem relax_le {n:Nat} {x:List Int} {e:(Nat×Nat×Int)} (hx:x.length=n) (he:Good n e) (v:Nat):le (at_ (relax x e) v) (at_ x v):=by
  unfold relax;split
  · rename_i h
    rw [at_set _ _ _ _ (by rw [hx];exact he.2.1)];split
    · rename_i q
      subst q;simp only [trig,Bool.and_eq_true,Bool.or_eq_true,decide_eq_true_eq] at h;have:=he.2.2.2;unfold le;omega
    · exact le_refl _
  · exact le_refl _
theorem round_le {n:Nat}:∀{es:List (Nat×Nat×Int)} {x:List Int},x.length=n→(∀e∈es,Good n e)→∀v,le (at_ (round es x) v) (at_ x v)
  | [],_,_,_,v=>le_refl _
  | e::es,x,hx,he,v=>by
    have h1:=round_le (es:=es) (x:=relax x e) (by rw [relax_len,hx]) (fun e' h=>he e' (qlg _ h)) v;exact le_trans h1 (relax_le hx (he e (qle ..)) v)
theorem relax_edge {n:Nat} {x:List Int} {e:(Nat×Nat×Int)} (hx:x.length=n) (he:Good n e) (h0:0≤at_ x e.1):le (at_ (relax x e) e.2.1) (at_ x e.1+e.2.2):=by
  have hw:=he.2.2.2;unfold relax;split
  · rw [at_set _ _ _ _ (by rw [hx];exact he.2.1),if_pos rfl];exact le_refl _
  · rename_i h
    simp only [trig,Bool.and_eq_true,Bool.or_eq_true,decide_eq_true_eq] at h;unfold le;omega
theorem round_edge {n:Nat}:∀{es:List (Nat×Nat×Int)} {x:List Int} {e:(Nat×Nat×Int)},x.length=n→(∀e∈es,Good n e)→e∈es→0≤at_ x e.1→le (at_ (round es x) e.2.1) (at_ x e.1+e.2.2)
  | [],_,_,_,_,h,_=>by cases h
  | d ::es,x,e,hx,he,h,h0=>by
    have hd:=he d (qle ..);have hes:∀e∈es,Good n e:=fun e' h=>he e' (qlg _ h)
    have hxl:(relax x d).length=n:=by rw [relax_len,hx]
    rcases ql0.1 h with rfl | h'
    · exact le_trans (round_le hxl hes _) (relax_edge hx hd h0)
    · have hm:=relax_le hx hd e.1
      have h0':0≤at_ (relax x d) e.1:=by unfold le at hm;omega
      have:=round_edge (x:=relax x d) hxl hes h' h0';show le (at_ (round es (relax x d)) e.2.1) _;unfold le at this hm⊢;have hw:=(he e h).2.2.2;omega
def iter (es:List (Nat×Nat×Int)):Nat→List Int→List Int
  | 0,x=>x
  | k+1,x=>round es (iter es k x)
structure Inv (n node:Nat) (es:List (Nat×Nat×Int)) (x:List Int):Prop where
  len:x.length=n
  src:at_ x node=0
  low:∀v,-1≤at_ x v
  sup:∀v,v≠node→0≤at_ x v→∃e∈es,e.2.1=v∧0≤at_ x e.1∧at_ x e.1+e.2.2≤at_ x v
theorem Inv.relax {n node:Nat} {es:List (Nat×Nat×Int)} {x:List Int} (h:Inv n node es x) {d:(Nat×Nat×Int)} (hd:d∈es) (hg:∀e∈es,Good n e):Inv n node es (relax x d):=by
  have hgd:=hg d hd;have hle:=relax_le h.len hgd
  by_cases ht:trig x d=true
  · have hr : Tm.relax x d=x.set d.2.1 (at_ x d.1+d.2.2):=by rw [Tm.relax,if_pos ht]
    have hset:∀u,at_ (Tm.relax x d) u=if u=d.2.1 then at_ x d.1+d.2.2 else at_ x u:=fun u=>by rw [hr];exact at_set _ _ _ _ (by rw [h.len];exact hgd.2.1)
    have ht':=ht;simp only [trig,Bool.and_eq_true,Bool.or_eq_true,decide_eq_true_eq] at ht';have hw:=hgd.2.2.2;have hne:node≠d.2.1:=by
      intro q;have:=h.src;rw [q] at this;omega
    refine ⟨by rw [relax_len];exact h.len,by rw [hset,if_neg hne];exact h.src,fun v=> ?_,fun v hv h0=> ?_⟩
    · rw [hset];split
      · omega
      · exact h.low v
    · rw [hset] at h0
      by_cases q:v=d.2.1
      · subst q
        refine ⟨d,hd,rfl,?_,?_⟩
        · rw [hset,if_neg hgd.2.2.1];exact ht'.1
        · rw [hset,hset,if_pos rfl,if_neg hgd.2.2.1];exact Int.le_refl _
      · rw [if_neg q] at h0
        obtain ⟨e,e1,e2,e3,e4⟩:=h.sup v hv h0;refine ⟨e,e1,e2,?_,?_⟩
        · rw [hset];split
          · omega
          · exact e3
        · rw [hset v,if_neg q,hset];split
          · rename_i z
            rw [z] at e3 e4;omega
          · exact e4
  · have:Tm.relax x d=x:=by rw [Tm.relax,if_neg ht]
    rw [this];exact h
theorem Inv.round {n node:Nat} {es:List (Nat×Nat×Int)} (hg:∀e∈es,Good n e):∀{l:List (Nat×Nat×Int)} {x:List Int},(∀e∈l,e∈es)→Inv n node es x→Inv n node es (Tm.round l x)
  | [],_,_,h=>h
  | d::l,x,hl,h=>Inv.round hg (l:=l) (fun e he=>hl e (qlg _ he)) (h.relax (hl d (qle ..)) hg)
theorem Inv.iter {n node:Nat} {es:List (Nat×Nat×Int)} {x:List Int} (hg:∀e∈es,Good n e) (h:Inv n node es x):∀k,Inv n node es (iter es k x)
  | 0=>h
  | k+1=>Inv.round hg (fun _ he=>he) (Inv.iter hg h k)
theorem iter_le {n:Nat} {es:List (Nat×Nat×Int)} {x:List Int} (hx:x.length=n) (hg:∀e∈es,Good n e) (v:Nat):∀(k d:Nat),le (at_ (iter es (k+d) x) v) (at_ (iter es k x) v)
  | k,0=>le_refl _
  | k,d+1=>by
    have hl:(iter es (k+d) x).length=n:=by
      have:∀m,(iter es m x).length=n:=by
        intro m
        induction m with
        | zero=>exact hx
        | succ m ih=>show (Tm.round es (iter es m x)).length=n;rw [round_len,ih]
      exact this _
    exact le_trans (round_le hl hg v) (iter_le hx hg v k d)
theorem iter_fix {es:List (Nat×Nat×Int)} {x:List Int} {m:Nat} (h:Tm.round es (iter es m x)=iter es m x):∀d,iter es (m+d) x=iter es m x
  | 0=>rfl
  | d+1=>by show Tm.round es (iter es (m+d) x)=_;rw [iter_fix h d,h]
theorem still (s:Nat→Int) (hle:∀k d,le (s (k+d)) (s k)) (hlow:∀k,-1≤s k):∃m,∀d,s (m+d)=s m:=by
  have key:∀(N k:Nat),0≤s k→(s k).toNat=N→∃m,∀d,s (m+d)=s m:=by
    intro N
    induction N using Nat.strongRecOn with
    | _ N ih=>
      intro k h0 hN
      by_cases q:∀d,s (k+d)=s k
      · exact ⟨k,q⟩
      · obtain ⟨d,hd⟩:=Classical.not_forall.1 q
        have h1:=hle k d;have h2:0≤s (k+d)∧s (k+d) < s k:=by unfold le at h1;omega
        exact ih (s (k+d)).toNat (by omega) (k+d) h2.1 rfl
  by_cases q:∃k,0≤s k
  · obtain ⟨k,hk⟩:=q
    exact key _ k hk rfl
  · refine ⟨0,fun d=> ?_⟩
    have h1:∀k,s k=-1:=fun k=>by
      have:=hlow k;have h2:¬0≤s k:=fun z=>q ⟨k,z⟩
      omega
    rw [h1,h1]
theorem stillAll (s:Nat→Nat→Int) (hle:∀v k d,le (s (k+d) v) (s k v)) (hlow:∀v k,-1≤s k v):∀n,∃m,∀v,v < n→∀d,s (m+d) v=s m v
  | 0=>⟨0,fun v h=>absurd h (Nat.not_lt_zero _)⟩
  | n + 1=>by
    obtain ⟨m,hm⟩:=stillAll s hle hlow n;obtain ⟨m',hm'⟩:=still (fun k=>s k n) (hle n) (hlow n);refine ⟨m+m',fun v hv d=> ?_⟩
    by_cases q:v=n
    · subst q
      have h1:=hm' (m+d);have h2:=hm' m;rw [show m+m'+d=m'+(m+d) by omega,show m+m'=m'+m by omega];exact h1.trans h2.symm
    · have hv':v < n:=by omega
      rw [show m+m'+d=m+(m'+d) by omega,hm v hv',hm v hv']
theorem ext {x y:List Int} (hl:x.length=y.length) (h:∀v,v < x.length→at_ x v=at_ y v):x=y:=by
  apply List.ext_getElem hl;intro v h1 h2;have:=h v h1;simpa [at_,List.getD_eq_getElem?_getD,h1,h2] using this
theorem fix_exists {n node:Nat} {es:List (Nat×Nat×Int)} {x:List Int} (hg:∀e∈es,Good n e) (h:Inv n node es x):∃m,round es (iter es m x)=iter es m x:=by
  obtain ⟨m,hm⟩:=stillAll (fun k v=>at_ (iter es k x) v) (fun v k d=>iter_le h.len hg v k d) (fun v k=>(h.iter hg k).low v) n;refine ⟨m,ext (round_len ..) fun v hv=> ?_⟩;rw [round_len,(h.iter hg m).len] at hv;exact hm v hv 1
theorem filter_less {l:List Nat} {p q:Nat→Bool} (hpq:∀v,q v=true→p v=true):(l.filter q).length≤(l.filter p).length:=by
  induction l with
  | nil=>simp
  | cons a l ih=>
    rw [qmd,qmd]
    by_cases hq:q a=true
    · rw [if_pos hq,if_pos (hpq a hq)];simp;exact ih
    · rw [if_neg hq];split
      · simp;omega
      · exact ih
theorem filter_lt {l:List Nat} {p q:Nat→Bool} (hpq:∀v,q v=true→p v=true) {v:Nat} (hv:v∈l) (hp:p v=true) (hq:q v=false):(l.filter q).length < (l.filter p).length:=by
  induction l with
  | nil=>cases hv
  | cons a l ih=>
    rw [qmd,qmd];rcases ql0.1 hv with rfl | h
    · rw [if_pos hp,if_neg (by simp [hq])]
      have:=filter_less (l:=l) hpq;simp;omega
    · have:=ih h
      by_cases hqa:q a=true
      · rw [if_pos hqa,if_pos (hpq a hqa)];simp;exact this
      · rw [if_neg hqa];split
        · simp;omega
        · exact this
theorem fix_at {n node:Nat} {es:List (Nat×Nat×Int)} {x:List Int} (hg:∀e∈es,Good n e) (h:Inv n node es x):round es (iter es n x)=iter es n x:=by
  obtain ⟨m,hm⟩:=fix_exists hg h;let f:=iter es m x;have hf:Inv n node es f:=h.iter hg m;have hfx:∀k v,le (at_ f v) (at_ (iter es k x) v):=by
    intro k v;rcases Nat.le_total k m with q | q
    · obtain ⟨d,rfl⟩:=Nat.le.dest q
      exact iter_le h.len hg v k d
    · obtain ⟨d,rfl⟩:=Nat.le.dest q
      rw [iter_fix hm d];exact le_refl _
  let bad:Nat→Nat→Bool:=fun k v=> !decide (at_ (iter es k x) v=at_ f v)
  have keep:∀k v,bad (k+1) v=true→bad k v=true:=by
    intro k v hb;simp only [bad,Bool.not_eq_true',decide_eq_false_iff_not] at hb⊢;intro q;have h1:=hfx (k+1) v;have h2:=iter_le h.len hg v k 1;rw [q] at h2;exact hb (le_antisymm h2 h1 ((h.iter hg _).low v) (hf.low v))
  have step:∀k (N v:Nat),bad k v=true→v < n→(at_ f v).toNat=N→∃v',v' < n∧bad k v'=true∧bad (k+1) v'=false:=by
    intro k N
    induction N using Nat.strongRecOn with
    | _ N ih=>
      intro v hb hv hN;have hb':=hb;simp only [bad,Bool.not_eq_true',decide_eq_false_iff_not] at hb';have hxk:=h.iter hg k;have hne:v≠node:=by intro q;subst q;exact hb' (by rw [hxk.src,hf.src])
      have h0:0≤at_ f v:=by
        have h1:=hfx k v;have h2:=hxk.low v;have h3:=hf.low v;unfold le at h1;omega
      obtain ⟨e,he,he1,he2,he3⟩:=hf.sup v hne h0;have hw:=(hg e he).2.2.2
      by_cases q:bad k e.1=true
      · exact ih (at_ f e.1).toNat (by omega) e.1 q (hg e he).1 rfl
      · have q':at_ (iter es k x) e.1=at_ f e.1:=by
          cases z:decide (at_ (iter es k x) e.1=at_ f e.1) with
          | true=>exact of_decide_eq_true z
          | false=>exact absurd (by simp only [bad,z];rfl) q
        refine ⟨v,hv,hb,?_⟩;have h1:=round_edge hxk.len hg he (by rw [q'];exact he2);rw [he1,q'] at h1;have h2:=hfx (k+1) v;have h3:le (at_ (iter es (k+1) x) v) (at_ f v):=by
          show le (at_ (round es (iter es k x)) v) _;unfold le at h1⊢;omega
        simp only [bad,Bool.not_eq_false',decide_eq_true_eq];exact le_antisymm h3 h2 ((h.iter hg _).low v) (hf.low v)
  have count:∀k,((List.range n).filter (bad k)).length≤n - k:=by
    intro k
    induction k with
    | zero=>have:=List.length_filter_le (bad 0) (List.range n);simpa using this
    | succ k ih=>
      by_cases q:∃v,v < n∧bad k v=true
      · obtain ⟨v,hv,hb⟩:=q
        obtain ⟨v',h1,h2,h3⟩:=step k _ v hb hv rfl;have:=filter_lt (keep k) (qmi.2 h1) h2 h3;omega
      · have:(List.range n).filter (bad (k+1))=[]:=by
          rw [List.filter_eq_nil_iff];intro v hv hb;exact q ⟨v,qmi.1 hv,keep k v hb⟩
        rw [this];exact qlk _
  have hn:∀v,v < n→at_ (iter es n x) v=at_ f v:=by
    intro v hv;have h0:=count n;rw [Nat.sub_self] at h0;have h1:(List.range n).filter (bad n)=[]:=qlx.1 (by omega);rw [List.filter_eq_nil_iff] at h1;have:=h1 v (qmi.2 hv);simpa [bad] using this
  have e:iter es n x=f:=ext (by rw [(h.iter hg n).len,hf.len]) fun v hv=>hn v (by rwa [(h.iter hg n).len] at hv)
  rw [e];exact hm
end Tm
namespace Tm
theorem round_step {es:List (Nat×Nat×Int)} {x:List Int} {j:Nat} {e:Nat×Nat×Int} (h:es[j]? =some e):round (es.take (j+1)) x=relax (round (es.take j) x) e:=by
  rw [round,qme,h,List.foldl_append];rfl
theorem round_all {es:List (Nat×Nat×Int)} {x:List Int} {j:Nat} (h:es.length≤j):round (es.take j) x=round es x:=by rw [qmg h]
def chgR:List Int→List (Nat×Nat×Int)→Bool
  | _,[]=>false
  | x,e::es=>trig x e || chgR (relax x e) es
theorem chg_app (es fs:List (Nat×Nat×Int)):∀x:List Int,chgR x (es++fs)=(chgR x es || chgR (round es x) fs):=by
  induction es with
  | nil=>intro x;rfl
  | cons e es ih=>intro x;rw [List.cons_append,chgR,ih,chgR,Bool.or_assoc];rfl
theorem chg_step {es:List (Nat×Nat×Int)} {x:List Int} {j:Nat} {e:Nat×Nat×Int} (h:es[j]? =some e):chgR x (es.take (j+1))=(chgR x (es.take j) || trig (round (es.take j) x) e):=by
  rw [qme,h,chg_app,Option.toList,chgR,chgR,Bool.or_false]
theorem chg_no:∀{es:List (Nat×Nat×Int)} {x:List Int},chgR x es=false→round es x=x
  | [],_,_=>rfl
  | e::es,x,h=>by
    rw [chgR,Bool.or_eq_false_iff] at h;have hr:relax x e=x:=by rw [relax,if_neg (by rw [h.1];decide)]
    show round es (relax x e)=x;rw [hr] at h⊢;exact chg_no h.2
theorem chg_fix {n:Nat}:∀{es:List (Nat×Nat×Int)} {x:List Int},x.length=n→(∀v,-1≤at_ x v)→(∀e∈es,Good n e)→round es x=x→chgR x es=false
  | [],_,_,_,_,_=>rfl
  | e ::es,x,hx,hlow,he,h=>by
    have hg:=he e (qle ..);have hes:∀e∈es,Good n e:=fun e' h'=>he e' (qlg _ h')
    have ht:trig x e=false:=by
      cases q:trig x e with
      | false=>rfl
      | true=>
        exfalso;have h1:=round_le (es:=es) (x:=relax x e) (by rw [relax_len,hx]) hes e.2.1;have h2:round es (relax x e)=x:=h;rw [h2] at h1;have h3:at_ (relax x e) e.2.1=at_ x e.1+e.2.2:=by rw [relax,if_pos q,at_set _ _ _ _ (by rw [hx];exact hg.2.1),if_pos rfl]
        rw [h3] at h1;simp only [trig,Bool.and_eq_true,Bool.or_eq_true,decide_eq_true_eq] at q;have hw:=hg.2.2.2;unfold le at h1;omega
    have hr:relax x e=x:=by rw [relax,if_neg (by rw [ht];decide)]
    rw [chgR,ht,Bool.false_or,hr];have h2:round es (relax x e)=x:=h;rw [hr] at h2;exact chg_fix hx hlow hes h2
def Ub (b:Int) (x:List Int):Prop:=∀v,at_ x v≤b
theorem Ub.relax {n:Nat} {b:Int} {x:List Int} {e:Nat×Nat×Int} (h:Ub b x) (hx:x.length=n) (hg:Good n e) (hw:e.2.2≤3600):Ub (b+3600) (relax x e):=by
  intro v;have h1:=h v;have h2:=h e.1;unfold Tm.relax;split
  · rw [at_set _ _ _ _ (by rw [hx];exact hg.2.1)];split<;>omega
  · omega
theorem Ub.round {n:Nat}:∀{es:List (Nat×Nat×Int)} {b:Int} {x:List Int},Ub b x→x.length=n→(∀e∈es,Good n e∧e.2.2≤3600)→Ub (b+3600 * es.length) (round es x)
  | [],b,x,h,_,_=>by
    intro v;have:=h v;show at_ x v≤_;simp only [List.length_nil];omega
  | e::es,b,x,h,hx,hg=>by
    have h1:=h.relax hx (hg e (qle ..)).1 (hg e (qle ..)).2;have h2:=Ub.round h1 (by rw [relax_len,hx]) (fun e' h'=>hg e' (qlg _ h'));intro v;have:=h2 v;show at_ (Tm.round es (Tm.relax x e)) v≤_;simp only [List.length_cons];omega
theorem iter_len {es:List (Nat×Nat×Int)} {x:List Int} {n:Nat} (hx:x.length=n):∀k,(iter es k x).length=n
  | 0=>hx
  | k+1=>by show (Tm.round es (iter es k x)).length=n;rw [round_len,iter_len hx k]
theorem Ub.iter {n:Nat} {es:List (Nat×Nat×Int)} {x:List Int} (h:Ub 0 x) (hx:x.length=n) (hg:∀e∈es,Good n e∧e.2.2≤3600) (hl:es.length≤80):∀k:Nat,Ub (288000 * k) (Tm.iter es k x)
  | 0=>by intro v;have:=h v;show at_ x v≤_;omega
  | k+1=>by
    intro v;have:=Ub.round (Ub.iter h hx hg hl k) (iter_len hx k) hg v;show at_ (Tm.round es (Tm.iter es k x)) v≤_;omega
def start (n node:Nat):List Int:=(List.replicate n (-1)).set node 0
theorem start_len (n node:Nat):(start n node).length=n:=by simp [start]
theorem start_at {n node:Nat} (h:node < n) (v:Nat):at_ (start n node) v=if v=node then 0 else -1:=by
  rw [start,at_set _ _ _ _ (by simp [h])];split
  · rfl
  · unfold at_
    rw [qld,List.getElem?_replicate];split<;>rfl
theorem start_inv {n node:Nat} {es:List (Nat×Nat×Int)} (h:node < n):Inv n node es (start n node):=by
  refine ⟨start_len ..,by rw [start_at h,if_pos rfl],fun v=> ?_,fun v hv h0=> ?_⟩
  · rw [start_at h];split<;>omega
  · rw [start_at h,if_neg hv] at h0;omega
theorem start_ub {n node:Nat} (h:node < n):Ub 0 (start n node):=by
  intro v;rw [start_at h];split<;>omega
def within (n node:Nat) (es:List (Nat×Nat×Int)) (k j:Nat):List Int:=round (es.take j) (iter es k (start n node))
theorem within_facts {n node:Nat} {es:List (Nat×Nat×Int)} (h:node < n) (hg:∀e∈es,Good n e∧e.2.2≤3600) (hl:es.length≤80) (k j:Nat) (hk:k≤15):(within n node es k j).length=n∧∀v,-1≤at_ (within n node es k j) v∧at_ (within n node es k j) v≤4608000:=by
  have hg1:∀e∈es,Good n e:=fun e he=>(hg e he).1
  have hi:=(start_inv (es:=es) h).iter hg1 k;refine ⟨by rw [within,round_len,iter_len (start_len ..)],fun v=>⟨(Inv.round hg1 (l:=es.take j) (fun e he=>ql3 he) hi).low v,?_⟩⟩;have h1:=Ub.round (es:=es.take j) (Ub.iter (start_ub h) (start_len ..) hg hl k) (iter_len (start_len ..) k) (fun e he=>hg e (ql3 he)) v;have h2:(es.take j).length≤80:=by rw [qls];omega
  rw [within];omega
theorem within_end {n node:Nat} {es:List (Nat×Nat×Int)} {k j:Nat} (h:es.length≤j):within n node es k j=iter es (k+1) (start n node):=by rw [within,round_all h];rfl
theorem within_step {n node:Nat} {es:List (Nat×Nat×Int)} {k j:Nat} {e:Nat×Nat×Int} (h:es[j]? =some e):within n node es k (j+1)=relax (within n node es k j) e:=round_step h
def chg (n node:Nat) (es:List (Nat×Nat×Int)) (k j:Nat):Bool:=chgR (iter es k (start n node)) (es.take j)
theorem chg_next {n node:Nat} {es:List (Nat×Nat×Int)} {k j:Nat} {e:Nat×Nat×Int} (h:es[j]? =some e):chg n node es k (j+1)=(chg n node es k j || trig (within n node es k j) e):=chg_step h
theorem relax_yes {x:List Int} {u v:Nat} {w a b:Int} (hu:x[u]? =some a) (hv:x[v]? =some b) (h:0≤a∧(b < 0∨a+w < b)):trig x (u,v,w)=true∧relax x (u,v,w)=x.set v (a+w):=by
  have h1:at_ x u=a:=by rw [at_,qld,hu];rfl
  have h2:at_ x v=b:=by rw [at_,qld,hv];rfl
  have ht:trig x (u,v,w)=true:=by simp only [trig,h1,h2,Bool.and_eq_true,Bool.or_eq_true,decide_eq_true_eq];exact h
  exact ⟨ht,by rw [relax,if_pos ht,h1]⟩
theorem relax_no {x:List Int} {u v:Nat} {w a b:Int} (hu:x[u]? =some a) (hv:x[v]? =some b) (h:¬(0≤a∧(b < 0∨a+w < b))):trig x (u,v,w)=false∧relax x (u,v,w)=x:=by
  have h1:at_ x u=a:=by rw [at_,qld,hu];rfl
  have h2:at_ x v=b:=by rw [at_,qld,hv];rfl
  have ht:trig x (u,v,w)=false:=by
    rw [Bool.eq_false_iff];intro q;simp only [trig,h1,h2,Bool.and_eq_true,Bool.or_eq_true,decide_eq_true_eq] at q;exact h q
  exact ⟨ht,by rw [relax,if_neg (by rw [ht];decide)]⟩
theorem at_get {x:List Int} {v:Nat} {a:Int} (h:x[v]? =some a):at_ x v=a:=by rw [at_,qld,h];rfl
theorem end_of {n node:Nat} {es:List (Nat×Nat×Int)} {k:Nat} (h:node < n) (hg:∀e∈es,Good n e) (hk:k≤n) :
    (chg n node es k es.length=true→k+1≤n)∧(chg n node es k es.length=false→iter es (k+1) (start n node)=iter es n (start n node)):=by
  have hi:=start_inv (es:=es) h;rw [chg,List.take_length];constructor
  · intro hc
    rcases qly k n with q | q
    · omega
    · have e:k=n:=by omega
      rw [e,chg_fix (n:=n) (iter_len (start_len ..) _) (hi.iter hg _).low hg (fix_at hg hi)] at hc;cases hc
  · intro hc
    have h1:=chg_no hc;obtain ⟨d,rfl⟩:=Nat.le.dest hk;rw [iter_fix h1 d];exact h1
def edges (ss:List TS):List (Nat×Nat×Int):=ss.flatMap fun s=>[(s.1.toNat,s.2.1.toNat,s.2.2),(s.2.1.toNat,s.1.toNat,s.2.2)]
theorem edges_len:∀ss:List TS,(edges ss).length=2 * ss.length
  | []=>rfl
  | s::ss=>by
    have:=edges_len ss;rw [edges,qlz,qlm,←edges,this];simp;omega
theorem edges_at:∀{ss:List TS} {i:Nat} {s:TS},ss[i]? =some s→(edges ss)[2 * i]? =some (s.1.toNat,s.2.1.toNat,s.2.2)∧(edges ss)[2 * i+1]? =some (s.2.1.toNat,s.1.toNat,s.2.2)
  | [],i,s,h=>by simp at h
  | t::ss,0,s,h=>by
    obtain rfl:t=s:=by simpa using h
    rw [edges,qlz];exact ⟨rfl,rfl⟩
  | t::ss,i+1,s,h=>by
    have h':ss[i]? =some s:=by simpa using h
    obtain ⟨h1,h2⟩:=edges_at h';rw [edges,qlz,←edges];exact ⟨by rw [show 2 * (i+1)=2 * i+2 by omega,qlr (by simp)];simpa using h1,by rw [show 2 * (i+1)+1=2 * i+1+2 by omega,qlr (by simp)];simpa using h2⟩
theorem edges_mem {ss:List TS} {e:Nat×Nat×Int} (h:e∈edges ss):∃s∈ss,e=(s.1.toNat,s.2.1.toNat,s.2.2)∨e=(s.2.1.toNat,s.1.toNat,s.2.2):=by
  obtain ⟨s,hs,he⟩:=List.mem_flatMap.1 h;exact ⟨s,hs,by simpa using he⟩
def times (n:Nat) (ss:List TS) (node:Nat):List Int:=iter (edges ss) n (start n node)
end Tm
end Go.Proofs.YtmhaafinhpopmaaGreat
