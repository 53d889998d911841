/- What functions compute. No condition. -/
import Derived.Test.YtmbbjhopngejaaaGreatX1
set_option linter.all false
open Bool renaming and_eq_true → Za, or_eq_true → Zb, not_eq_true' → Ze
open List renaming getD_eq_getElem?_getD → Zc, drop_eq_getElem_cons → Zg, getElem?_eq_some_iff → Zh, length_take → Zi, filter_eq_nil_iff → Zj
open Array renaming replicate → Zd
open Go.Vm.V renaming int → Zf
namespace Go.Proofs.YtmbbjhopngejaaaGreat
open Go Go.Vm Tryz
set_option maxHeartbeats 8000000
def b2r {α:Type} (p:α→Bool):Nat→List α→Int
  | _,[]=>-1
  | i,x::l=>if p x=true then i else b2r p (i+1) l
theorem b5j {α:Type} {p:α→Bool} {l:List α} {i:Nat} {x:α} (h:l[i]? =some x):b2r p i (l.drop i)=if p x=true then (i:Int) else b2r p (i+1) (l.drop (i+1)):=by
  rw [b1p h,b2r]
theorem b6g {α:Type} {p:α→Bool} {l:List α} {i k:Nat} (h:l.length≤i):b2r p k (l.drop i)=-1:=by
  rw [ql4 h,b2r]
theorem c2a {α:Type} (p:α→Bool):∀(l:List α) (i:Nat),decide (0≤b2r p i l)=l.any p
  | [],i=>by rfl
  | x::l,i=>by
    rw [b2r,List.any_cons]
    by_cases h:p x=true
    · grind
    · rw [if_neg h,c2a p l (i+1),Bool.eq_false_iff.2 h];rfl
theorem d1a {α:Type} {p:α→Bool}:∀{l:List α} {i:Nat},b2r p i l=-1→l.filter (fun x=> !p x)=l
  | [],_,_=>rfl
  | x ::l,i,h=>by
    rw [b2r] at h
    by_cases q:p x=true
    · grind
    · rw [if_neg q] at h
      rw [qms,if_pos (by grind),d1a h]
theorem c2o {α:Type} {p:α→Bool}:∀{l:List α} {i:Nat},b2r p i l≠-1→∃k,k < l.length∧b2r p i l=((i+k:Nat):Int)∧(l.take (k+1)).filter (fun x=> !p x)=l.take k∧∃x,l[k]? =some x∧p x=true
  | [],i,h=>absurd rfl h
  | x ::l,i,h=>by
    rw [b2r] at h⊢
    by_cases q:p x=true
    · rw [if_pos q]
      exact ⟨0,by simp,by simp,by grind,x,rfl,q⟩
    · rw [if_neg q] at h⊢
      obtain ⟨k,h1,h2,h3,y,h4,h5⟩:=c2o (l:=l) h;refine ⟨k+1,by grind,by omega,?_,y,by grind,h5⟩
      grind
def b9d (lt:Int→Int→Bool) (x:Int) (p:List Int):Nat→Nat
  | 0=>0
  | k+1=>if lt x (p.getD k 0)=true then b9d lt x p k else k+1
def g3g (lt:Int→Int→Bool) (p:List Int) (x:Int):List Int:=p.take (b9d lt x p p.length)++x::p.drop (b9d lt x p p.length)
def b3m (lt:Int→Int→Bool) (l:List Int):List Int:=l.foldl (g3g lt) []
section
variable {lt:Int→Int→Bool} {x y:Int} {p:List Int} {k:Nat} (hy:p[k]? =some y)
include hy
theorem d18 (h:lt x y=true):b9d lt x p (k+1)=b9d lt x p k:=by
  rw [b9d,qlo,hy,Option.getD_some,if_pos h]
theorem c8u (h:lt x y=false):b9d lt x p (k+1)=k+1:=by
  simp_all[b9d,Zc,Option.getD_some,if_neg]
end
theorem b5o (lt:Int→Int→Bool) (l:List Int) (x:Int):b3m lt (l++[x])=g3g lt (b3m lt l) x:=by rw [b3m,List.foldl_append];rfl
theorem c2i {lt:Int→Int→Bool} {l:List Int} {i:Nat} {x:Int} (h:l[i]? =some x):b3m lt (l.take (i+1))=g3g lt (b3m lt (l.take i)) x:=by
  grind[List.take_add_one,b5o]
theorem c6j (lt:Int→Int→Bool) (l:List Int):(b3m lt l).Perm l:=by
  have key:∀(l acc:List Int),(l.foldl (g3g lt) acc).Perm (acc++l):=by
    intro l
    induction l with
    | nil=>simp
    | cons x l ih=>
      intro acc;refine (ih (g3g lt acc x)).trans ?_;have h1:(g3g lt acc x).Perm (x::acc):=by
        rw [g3g];refine List.perm_middle.trans ?_;rw [List.take_append_drop]
      refine (h1.append_right l).trans ?_;rw [qm3];exact List.perm_middle.symm
  have h:=key l [];rw [List.nil_append] at h;exact h
theorem d0l (lt:Int→Int→Bool) (l:List Int):(b3m lt l).length=l.length:=(c6j lt l).length_eq
theorem c4s {lt:Int→Int→Bool} {l:List Int} {x:Int}:x∈b3m lt l↔x∈l:=(c6j lt l).mem_iff
def b8x (p:List Int) (x:Int) (r:List Int) (j:Nat):List Int:=p.take j++x::(p.drop j++r)
theorem f2g {p r:List Int} {x:Int} {j:Nat} (h:j≤p.length):(b8x p x r j).length=p.length+1+r.length:=by
  grind[b8x,List.length_append,List.length_cons,Zi,List.length_drop]
theorem f5z {p r:List Int} {x:Int} {j:Nat} (h:j≤p.length):(b8x p x r j)[j]? =some x:=by
  grind[b8x,List.getElem?_append_right,Zi,min]
theorem g3b {p r:List Int} {x y:Int} {j:Nat} (hy:p[j]? =some y):(b8x p x r (j+1))[j]? =some y:=by
  have hj:j < p.length:=(qlc.1 hy).1;rw [b8x,qls (by grind),List.getElem?_take,if_pos (Nat.lt_succ_self j),hy]
theorem g3f {p r:List Int} {x y:Int} {j:Nat} (hy:p[j]? =some y):((b8x p x r (j+1)).set (j+1) y).set j x=b8x p x r j:=by
  have hj:j < p.length:=(qlc.1 hy).1;have ht:(p.take (j+1))=p.take j++[y]:=by rw [qlx,hy];rfl
  have hl:(p.take j).length=j:=by grind
  rw [b8x,b8x,ht];rw [qmn _ _ (by grind),List.set_append_left _ _ (by grind),qmn _ _ (by omega)]
  simp_all[List.length_append,List.length_singleton,Nat.sub_self,List.set_cons_zero,List.append_assoc,List.singleton_append,Zg,Zh]
theorem d6k {p r:List Int} {x:Int}:b8x p x r p.length=p++x::r:=by rw [b8x,ql9,List.drop_length];rfl
theorem c4k {lt:Int→Int→Bool} {p r:List Int} {x:Int} {j:Nat} (h:b9d lt x p p.length=j):b8x p x r j=g3g lt p x++r:=by
  rw [b8x,g3g,h,ql5,qm3]
theorem d0z {l:List Int} {i:Nat} {x:Int} (h:l[i]? =some x):l.drop i=x::l.drop (i+1):=by
  grind[Zh,Zg]
namespace Tm
def le (a b:Int):Prop:=b < 0∨(0≤a∧a≤b)
theorem le_refl (a:Int):le a a:=by unfold le;omega
theorem le_trans {a b c:Int} (h:le a b) (k:le b c):le a c:=by unfold le at *;omega
theorem c91 {a b:Int} (h:le a b) (k:le b a) (ha:-1≤a) (hb:-1≤b):a=b:=by unfold le at *;omega
def at_ (x:List Int) (v:Nat):Int:=x.getD v (-1)
def trig (x:List Int) (e:(Nat×Nat×Int)):Bool:=decide (0≤at_ x e.1) && (decide (at_ x e.2.1 < 0) || decide (at_ x e.1+e.2.2 < at_ x e.2.1))
def relax (x:List Int) (e:(Nat×Nat×Int)):List Int:=if trig x e=true then x.set e.2.1 (at_ x e.1+e.2.2) else x
def round (es:List (Nat×Nat×Int)) (x:List Int):List Int:=es.foldl relax x
def Good (n:Nat) (e:(Nat×Nat×Int)):Prop:=e.1 < n∧e.2.1 < n∧e.1≠e.2.1∧1≤e.2.2
theorem d1y (x:List Int) (v u:Nat) (a:Int) (h:v < x.length):at_ (x.set v a) u=if u=v then a else at_ x u:=by
  unfold at_
  grind
theorem b90 (x:List Int) (e:(Nat×Nat×Int)):(relax x e).length=x.length:=by
  grind[relax]
theorem c2b (es:List (Nat×Nat×Int)):∀x:List Int,(round es x).length=x.length:=by
  induction es with
  | nil=>intro x;rfl
  | cons e es ih=>grind[round,relax,b90]
theorem d2w {n:Nat} {x:List Int} {e:(Nat×Nat×Int)} (hx:x.length=n) (he:Good n e) (v:Nat):le (at_ (relax x e) v) (at_ x v):=by
  unfold relax;split
  · rename_i h
    rw [d1y _ _ _ _ (by rw [hx];exact he.2.1)];split
    · rename_i q
      subst q;simp only [trig,Za,Zb,decide_eq_true_eq] at h;have:=he.2.2.2;unfold le;omega
    · exact le_refl _
  · exact le_refl _
theorem c8f {n:Nat}:∀{es:List (Nat×Nat×Int)} {x:List Int},x.length=n→(∀e∈es,Good n e)→∀v,le (at_ (round es x) v) (at_ x v)
  | [],_,_,_,v=>le_refl _
  | e::es,x,hx,he,v=>by
    have h1:=c8f (es:=es) (x:=relax x e) (by rw [b90,hx]) (fun e' h=>he e' (qlq _ h)) v;exact le_trans h1 (d2w hx (he e (qlp ..)) v)
theorem f1o {n:Nat} {x:List Int} {e:(Nat×Nat×Int)} (hx:x.length=n) (he:Good n e) (h0:0≤at_ x e.1):le (at_ (relax x e) e.2.1) (at_ x e.1+e.2.2):=by
  have hw:=he.2.2.2;unfold relax;split
  · rw [d1y _ _ _ _ (by rw [hx];exact he.2.1),if_pos rfl];exact le_refl _
  simp_all[trig,Za,Zb,decide_eq_true_eq,le]
theorem d2d {n:Nat}:∀{es:List (Nat×Nat×Int)} {x:List Int} {e:(Nat×Nat×Int)},x.length=n→(∀e∈es,Good n e)→e∈es→0≤at_ x e.1→le (at_ (round es x) e.2.1) (at_ x e.1+e.2.2)
  | [],_,_,_,_,h,_=>by cases h
  | d ::es,x,e,hx,he,h,h0=>by
    have hd:=he d (qlp ..);have hes:∀e∈es,Good n e:=fun e' h=>he e' (qlq _ h)
    have hxl:(relax x d).length=n:=by rw [b90,hx]
    rcases qlv.1 h with rfl | h'
    · exact le_trans (c8f hxl hes _) (f1o hx hd h0)
    · have hm:=d2w hx hd e.1
      have h0':0≤at_ (relax x d) e.1:=by unfold le at hm;omega
      have:=d2d (x:=relax x d) hxl hes h' h0';show le (at_ (round es (relax x d)) e.2.1) _;unfold le at this hm⊢;have hw:=(he e h).2.2.2;omega
def iter (es:List (Nat×Nat×Int)):Nat→List Int→List Int
  | 0,x=>x
  | k+1,x=>round es (iter es k x)
structure Inv (n node:Nat) (es:List (Nat×Nat×Int)) (x:List Int):Prop where
  len:x.length=n
  src:at_ x node=0
  low:∀v,-1≤at_ x v
  sup:∀v,v≠node→0≤at_ x v→∃e∈es,e.2.1=v∧0≤at_ x e.1∧at_ x e.1+e.2.2≤at_ x v
theorem Inv.relax {n node:Nat} {es:List (Nat×Nat×Int)} {x:List Int} (h:Inv n node es x) {d:(Nat×Nat×Int)} (hd:d∈es) (hg:∀e∈es,Good n e):Inv n node es (relax x d):=by
  have hgd:=hg d hd;have hle:=d2w h.len hgd
  by_cases ht:trig x d=true
  · have hr:Tm.relax x d=x.set d.2.1 (at_ x d.1+d.2.2):=by rw [Tm.relax,if_pos ht]
    have hset:∀u,at_ (Tm.relax x d) u=if u=d.2.1 then at_ x d.1+d.2.2 else at_ x u:=fun u=>by rw [hr];exact d1y _ _ _ _ (by rw [h.len];exact hgd.2.1)
    have ht':=ht;simp only [trig,Za,Zb,decide_eq_true_eq] at ht';have hw:=hgd.2.2.2;have hne:node≠d.2.1:=by
      intro q;have:=h.src
      grind
    refine ⟨by rw [b90];exact h.len,by rw [hset,if_neg hne];exact h.src,fun v=> ?_,fun v hv h0=> ?_⟩
    · rw [hset];split
      · omega
      · exact h.low v
    · rw [hset] at h0
      by_cases q:v=d.2.1
      · grind
      · rw [if_neg q] at h0
        obtain ⟨e,e1,e2,e3,e4⟩:=h.sup v hv h0
        grind
  simp_all[Tm.relax,if_neg]
theorem Inv.round {n node:Nat} {es:List (Nat×Nat×Int)} (hg:∀e∈es,Good n e):∀{l:List (Nat×Nat×Int)} {x:List Int},(∀e∈l,e∈es)→Inv n node es x→Inv n node es (Tm.round l x)
  | [],_,_,h=>h
  | d::l,x,hl,h=>Inv.round hg (l:=l) (fun e he=>hl e (qlq _ he)) (h.relax (hl d (qlp ..)) hg)
theorem Inv.iter {n node:Nat} {es:List (Nat×Nat×Int)} {x:List Int} (hg:∀e∈es,Good n e) (h:Inv n node es x):∀k,Inv n node es (iter es k x)
  | 0=>h
  | k+1=>Inv.round hg (fun _ he=>he) (Inv.iter hg h k)
theorem d3q {n:Nat} {es:List (Nat×Nat×Int)} {x:List Int} (hx:x.length=n) (hg:∀e∈es,Good n e) (v:Nat):∀(k d:Nat),le (at_ (iter es (k+d) x) v) (at_ (iter es k x) v)
  | k,0=>le_refl _
  | k,d+1=>by
    have hl:(iter es (k+d) x).length=n:=by
      have:∀m,(iter es m x).length=n:=by
        intro m
        induction m with
        | zero=>exact hx
        | succ m ih=>grind[Tm.round,iter,c2b]
      grind
    exact le_trans (c8f hl hg v) (d3q hx hg v k d)
theorem d2p {es:List (Nat×Nat×Int)} {x:List Int} {m:Nat} (h:Tm.round es (iter es m x)=iter es m x):∀d,iter es (m+d) x=iter es m x
  | 0=>rfl
  | d+1=>by show Tm.round es (iter es (m+d) x)=_;rw [d2p h d,h]
theorem f3n (s:Nat→Int) (hle:∀k d,le (s (k+d)) (s k)) (hlow:∀k,-1≤s k):∃m,∀d,s (m+d)=s m:=by
  have key:∀(N k:Nat),0≤s k→(s k).toNat=N→∃m,∀d,s (m+d)=s m:=by
    intro N
    induction N using Nat.strongRecOn with
    | _ N ih=>
      intro k _ _
      by_cases q:∀d,s (k+d)=s k
      · exact ⟨k,q⟩
      · obtain ⟨d,hd⟩:=Classical.not_forall.1 q
        have h1:=hle k d;have h2:0≤s (k+d)∧s (k+d) < s k:=by unfold le at h1;omega
        exact ih (s (k+d)).toNat (by omega) (k+d) h2.1 rfl
  by_cases q:∃k,0≤s k
  · obtain ⟨k,hk⟩:=q
    exact key _ k hk rfl
  · refine ⟨0,fun d=> ?_⟩
    grind
theorem d8s (s:Nat→Nat→Int) (hle:∀v k d,le (s (k+d) v) (s k v)) (hlow:∀v k,-1≤s k v):∀n,∃m,∀v,v < n→∀d,s (m+d) v=s m v
  | 0=>⟨0,fun v h=>absurd h (Nat.not_lt_zero _)⟩
  | n + 1=>by
    obtain ⟨m,hm⟩:=d8s s hle hlow n;obtain ⟨m',hm'⟩:=f3n (fun k=>s k n) (hle n) (hlow n);refine ⟨m+m',fun v hv d=> ?_⟩
    by_cases q:v=n
    · subst q
      have h1:=hm' (m+d);have h2:=hm' m
      grind
    · have hv':v < n:=by omega
      rw [show m+m'+d=m+(m'+d) by omega,hm v hv',hm v hv']
theorem ext {x y:List Int} (hl:x.length=y.length) (h:∀v,v < x.length→at_ x v=at_ y v):x=y:=by
  apply List.ext_getElem hl;intro v h1 h2;have:=h v h1;simpa [at_,Zc,h1,h2] using this
theorem f0k {n node:Nat} {es:List (Nat×Nat×Int)} {x:List Int} (hg:∀e∈es,Good n e) (h:Inv n node es x):∃m,round es (iter es m x)=iter es m x:=by
  obtain ⟨m,hm⟩:=d8s (fun k v=>at_ (iter es k x) v) (fun v k d=>d3q h.len hg v k d) (fun v k=>(h.iter hg k).low v) n;refine ⟨m,ext (c2b ..) fun v hv=> ?_⟩;rw [c2b,(h.iter hg m).len] at hv;exact hm v hv 1
section
variable {l:List Nat} {p q:Nat→Bool} (hpq:∀v,q v=true→p v=true)
include hpq
theorem d6l:(l.filter q).length≤(l.filter p).length:=by
  induction l with
  | nil=>simp
  | cons a l ih=>
    grind
theorem g35 {v:Nat} (hv:v∈l) (hp:p v=true) (hq:q v=false):(l.filter q).length < (l.filter p).length:=by
  induction l with
  | nil=>grind
  | cons a l ih=>
    rw [qms,qms];rcases qlv.1 hv with rfl | h
    · rw [if_pos hp,if_neg (by grind)]
      have:=d6l (l:=l) hpq
      grind
    grind
end
theorem g0x {n node:Nat} {es:List (Nat×Nat×Int)} {x:List Int} (hg:∀e∈es,Good n e) (h:Inv n node es x):round es (iter es n x)=iter es n x:=by
  obtain ⟨m,hm⟩:=f0k hg h;let f:=iter es m x;have hf:Inv n node es f:=h.iter hg m;have hfx:∀k v,le (at_ f v) (at_ (iter es k x) v):=by
    intro k v;rcases Nat.le_total k m with q | q
    · obtain ⟨d,rfl⟩:=Nat.le.dest q
      exact d3q h.len hg v k d
    · obtain ⟨d,rfl⟩:=Nat.le.dest q
      grind[d2p,le_refl]
  let bad:Nat→Nat→Bool:=fun k v=> !decide (at_ (iter es k x) v=at_ f v)
  have keep:∀k v,bad (k+1) v=true→bad k v=true:=by
    intro k v hb;simp only [bad,Ze,decide_eq_false_iff_not] at hb⊢;intro q;have h1:=hfx (k+1) v;have h2:=d3q h.len hg v k 1;rw [q] at h2;exact hb (c91 h2 h1 ((h.iter hg _).low v) (hf.low v))
  have step:∀k (N v:Nat),bad k v=true→v < n→(at_ f v).toNat=N→∃v',v' < n∧bad k v'=true∧bad (k+1) v'=false:=by
    intro k N
    induction N using Nat.strongRecOn with
    | _ N ih=>
      intro v hb hv _;have hb':=hb;simp only [bad,Ze,decide_eq_false_iff_not] at hb';have hxk:=h.iter hg k;have hne:v≠node:=by intro q;subst q;exact hb' (by rw [hxk.src,hf.src])
      have h0:0≤at_ f v:=by
        have h1:=hfx k v;have h2:=hxk.low v;have h3:=hf.low v;unfold le at h1;omega
      obtain ⟨e,he,he1,he2,he3⟩:=hf.sup v hne h0;have hw:=(hg e he).2.2.2
      by_cases q:bad k e.1=true
      · exact ih (at_ f e.1).toNat (by omega) e.1 q (hg e he).1 rfl
      · have q':at_ (iter es k x) e.1=at_ f e.1:=by
          grind
        refine ⟨v,hv,hb,?_⟩;have h1:=d2d hxk.len hg he (by omega);rw [he1,q'] at h1;have h2:=hfx (k+1) v;have h3:le (at_ (iter es (k+1) x) v) (at_ f v):=by
          show le (at_ (round es (iter es k x)) v) _;unfold le at h1⊢;omega
        simp only [bad,Bool.not_eq_false',decide_eq_true_eq];exact c91 h3 h2 ((h.iter hg _).low v) (hf.low v)
  have count:∀k,((List.range n).filter (bad k)).length≤n - k:=by
    intro k
    induction k with
    | zero=>grind
    | succ k ih=>
      by_cases q:∃v,v < n∧bad k v=true
      · obtain ⟨v,hv,hb⟩:=q
        obtain ⟨v',h1,h2,h3⟩:=step k _ v hb hv rfl;have:=g35 (keep k) (qmc.2 h1) h2 h3;omega
      · have:(List.range n).filter (bad (k+1))=[]:=by
          rw [Zj];intro v hv hb;exact q ⟨v,qmc.1 hv,keep k v hb⟩
        grind
  have hn:∀v,v < n→at_ (iter es n x) v=at_ f v:=by
    intro v hv;have h0:=count n;rw [qmz] at h0;have h1:(List.range n).filter (bad n)=[]:=qlt.1 (by omega);rw [Zj] at h1;have:=h1 v (qmc.2 hv);simpa [bad] using this
  have e:iter es n x=f:=ext (by rw [(h.iter hg n).len,hf.len]) fun v hv=>hn v (by rwa [(h.iter hg n).len] at hv)
  grind
end Tm
namespace Tm
theorem f0g {es:List (Nat×Nat×Int)} {x:List Int} {j:Nat} {e:Nat×Nat×Int} (h:es[j]? =some e):round (es.take (j+1)) x=relax (round (es.take j) x) e:=by
  rw [round,qlx,h,List.foldl_append];rfl
theorem f2y {es:List (Nat×Nat×Int)} {x:List Int} {j:Nat} (h:es.length≤j):round (es.take j) x=round es x:=by rw [ql3 h]
def d7y:List Int→List (Nat×Nat×Int)→Bool
  | _,[]=>false
  | x,e::es=>trig x e || d7y (relax x e) es
theorem f9g (es fs:List (Nat×Nat×Int)):∀x:List Int,d7y x (es++fs)=(d7y x es || d7y (round es x) fs):=by
  induction es with
  | nil=>intro x;rfl
  | cons e es ih=>intro x;rw [qm3,d7y,ih,d7y,Bool.or_assoc];rfl
theorem f7i {es:List (Nat×Nat×Int)} {x:List Int} {j:Nat} {e:Nat×Nat×Int} (h:es[j]? =some e):d7y x (es.take (j+1))=(d7y x (es.take j) || trig (round (es.take j) x) e):=by
  rw [qlx,h,f9g,Option.toList,d7y,d7y,Bool.or_false]
theorem f8z:∀{es:List (Nat×Nat×Int)} {x:List Int},d7y x es=false→round es x=x
  | [],_,_=>rfl
  | e::es,x,h=>by
    rw [d7y,Bool.or_eq_false_iff] at h;have hr:relax x e=x:=by rw [relax,if_neg (by rw [h.1];decide)]
    show round es (relax x e)=x;rw [hr] at h⊢;exact f8z h.2
theorem f2m {n:Nat}:∀{es:List (Nat×Nat×Int)} {x:List Int},x.length=n→(∀v,-1≤at_ x v)→(∀e∈es,Good n e)→round es x=x→d7y x es=false
  | [],_,_,_,_,_=>rfl
  | e ::es,x,hx,hlow,he,h=>by
    have hg:=he e (qlp ..);have hes:∀e∈es,Good n e:=fun e' h'=>he e' (qlq _ h')
    have ht:trig x e=false:=by
      cases q:trig x e with
      | false=>rfl
      | true=>
        exfalso;have h1:=c8f (es:=es) (x:=relax x e) (by rw [b90,hx]) hes e.2.1;have h2:round es (relax x e)=x:=h;rw [h2] at h1;have h3:at_ (relax x e) e.2.1=at_ x e.1+e.2.2:=by rw [relax,if_pos q,d1y _ _ _ _ (by rw [hx];exact hg.2.1),if_pos rfl]
        rw [h3] at h1;simp only [trig,Za,Zb,decide_eq_true_eq] at q;have hw:=hg.2.2.2;unfold le at h1;omega
    have hr:relax x e=x:=by rw [relax,if_neg (by rw [ht];decide)]
    rw [d7y,ht,Bool.false_or,hr];have h2:round es (relax x e)=x:=h;rw [hr] at h2;exact f2m hx hlow hes h2
def Ub (b:Int) (x:List Int):Prop:=∀v,at_ x v≤b
theorem Ub.relax {n:Nat} {b:Int} {x:List Int} {e:Nat×Nat×Int} (h:Ub b x) (hx:x.length=n) (hg:Good n e) (hw:e.2.2≤3600):Ub (b+3600) (relax x e):=by
  intro v;have h1:=h v;have h2:=h e.1;unfold Tm.relax;split
  · rw [d1y _ _ _ _ (by rw [hx];exact hg.2.1)];split<;>omega
  omega
theorem Ub.round {n:Nat}:∀{es:List (Nat×Nat×Int)} {b:Int} {x:List Int},Ub b x→x.length=n→(∀e∈es,Good n e∧e.2.2≤3600)→Ub (b+3600 * es.length) (round es x)
  | [],b,x,h,_,_=>by
    intro v;have:=h v;show at_ x v≤_;omega
  | e::es,b,x,h,hx,hg=>by
    have h1:=h.relax hx (hg e (qlp ..)).1 (hg e (qlp ..)).2;have h2:=Ub.round h1 (by rw [b90,hx]) (fun e' h'=>hg e' (qlq _ h'))
    grind[at_,Tm.round,Tm.relax,List.length_cons]
theorem iter_len {es:List (Nat×Nat×Int)} {x:List Int} {n:Nat} (hx:x.length=n):∀k,(iter es k x).length=n
  | 0=>hx
  | k+1=>by show (Tm.round es (iter es k x)).length=n;rw [c2b,iter_len hx k]
theorem Ub.iter {n:Nat} {es:List (Nat×Nat×Int)} {x:List Int} (h:Ub 0 x) (hx:x.length=n) (hg:∀e∈es,Good n e∧e.2.2≤3600) (hl:es.length≤80):∀k:Nat,Ub (288000 * k) (Tm.iter es k x)
  | 0=>by intro v;have:=h v;show at_ x v≤_;omega
  | k+1=>by
    intro v;have:=Ub.round (Ub.iter h hx hg hl k) (iter_len hx k) hg v
    grind[at_,Tm.round,Tm.iter]
def start (n node:Nat):List Int:=(List.replicate n (-1)).set node 0
theorem start_len (n node:Nat):(start n node).length=n:=by simp [start]
theorem c8d {n node:Nat} (h:node < n) (v:Nat):at_ (start n node) v=if v=node then 0 else -1:=by
  rw [start,d1y _ _ _ _ (by simp [h])];split
  · rfl
  · unfold at_
    rw [qlo,List.getElem?_replicate];split<;>rfl
theorem d5w {n node:Nat} {es:List (Nat×Nat×Int)} (h:node < n):Inv n node es (start n node):=by
  refine ⟨start_len ..,by rw [c8d h,if_pos rfl],fun v=> ?_,fun v hv h0=> ?_⟩
  · grind[c8d]
  simp_all[c8d,if_neg]
theorem f6s {n node:Nat} (h:node < n):Ub 0 (start n node):=by
  intro _;grind[c8d]
def within (n node:Nat) (es:List (Nat×Nat×Int)) (k j:Nat):List Int:=round (es.take j) (iter es k (start n node))
theorem within_facts {n node:Nat} {es:List (Nat×Nat×Int)} (h:node < n) (hg:∀e∈es,Good n e∧e.2.2≤3600) (hl:es.length≤80) (k j:Nat) (hk:k≤15):(within n node es k j).length=n∧∀v,-1≤at_ (within n node es k j) v∧at_ (within n node es k j) v≤4608000:=by
  have hg1:∀e∈es,Good n e:=fun e he=>(hg e he).1
  have hi:=(d5w (es:=es) h).iter hg1 k;refine ⟨by rw [within,c2b,iter_len (start_len ..)],fun v=>⟨(Inv.round hg1 (l:=es.take j) (fun e he=>qlz he) hi).low v,?_⟩⟩;have h1:=Ub.round (es:=es.take j) (Ub.iter (f6s h) (start_len ..) hg hl k) (iter_len (start_len ..) k) (fun e he=>hg e (qlz he)) v
  grind[Zi,within]
theorem within_end {n node:Nat} {es:List (Nat×Nat×Int)} {k j:Nat} (h:es.length≤j):within n node es k j=iter es (k+1) (start n node):=by rw [within,f2y h];rfl
theorem within_step {n node:Nat} {es:List (Nat×Nat×Int)} {k j:Nat} {e:Nat×Nat×Int} (h:es[j]? =some e):within n node es k (j+1)=relax (within n node es k j) e:=f0g h
def chg (n node:Nat) (es:List (Nat×Nat×Int)) (k j:Nat):Bool:=d7y (iter es k (start n node)) (es.take j)
theorem chg_next {n node:Nat} {es:List (Nat×Nat×Int)} {k j:Nat} {e:Nat×Nat×Int} (h:es[j]? =some e):chg n node es k (j+1)=(chg n node es k j || trig (within n node es k j) e):=f7i h
section
variable {x:List Int} {u v:Nat} {w a b:Int} (hu:x[u]? =some a) (hv:x[v]? =some b)
include hu hv
theorem relax_yes (h:0≤a∧(b < 0∨a+w < b)):trig x (u,v,w)=true∧relax x (u,v,w)=x.set v (a+w):=by
  simp_all[at_,Zc,trig,Za,Zb,decide_eq_true_eq,relax,if_pos]
theorem relax_no (h:¬(0≤a∧(b < 0∨a+w < b))):trig x (u,v,w)=false∧relax x (u,v,w)=x:=by
  have h1:at_ x u=a:=by rw [at_,qlo,hu];rfl
  have h2:at_ x v=b:=by rw [at_,qlo,hv];rfl
  simp_all[trig,Bool.eq_false_iff,Za,Zb,decide_eq_true_eq,relax,if_neg]
end
theorem at_get {x:List Int} {v:Nat} {a:Int} (h:x[v]? =some a):at_ x v=a:=by rw [at_,qlo,h];rfl
theorem end_of {n node:Nat} {es:List (Nat×Nat×Int)} {k:Nat} (h:node < n) (hg:∀e∈es,Good n e) (hk:k≤n) :
    (chg n node es k es.length=true→k+1≤n)∧(chg n node es k es.length=false→iter es (k+1) (start n node)=iter es n (start n node)):=by
  have hi:=d5w (es:=es) h;rw [chg,ql9];constructor
  · intro hc
    rcases qmk k n with q | q
    · omega
    · have e:k=n:=by omega
      rw [e,f2m (n:=n) (iter_len (start_len ..) _) (hi.iter hg _).low hg (g0x hg hi)] at hc
      grind
  · intro hc
    have h1:=f8z hc;obtain ⟨d,rfl⟩:=Nat.le.dest hk
    grind[d2p]
def edges (ss:List TS):List (Nat×Nat×Int):=ss.flatMap fun s=>[(s.1.toNat,s.2.1.toNat,s.2.2),(s.2.1.toNat,s.1.toNat,s.2.2)]
theorem edges_len:∀ss:List TS,(edges ss).length=2 * ss.length
  | []=>rfl
  | s::ss=>by
    have:=edges_len ss;rw [edges,ql2,qln,←edges,this];simp;omega
theorem edges_at:∀{ss:List TS} {i:Nat} {s:TS},ss[i]? =some s→(edges ss)[2 * i]? =some (s.1.toNat,s.2.1.toNat,s.2.2)∧(edges ss)[2 * i+1]? =some (s.2.1.toNat,s.1.toNat,s.2.2)
  | [],i,s,h=>by grind
  | t::ss,0,s,h=>by
    obtain rfl:t=s:=by grind
    rw [edges,ql2];simp
  | t::ss,i+1,s,h=>by
    have h':ss[i]? =some s:=by grind
    obtain ⟨h1,h2⟩:=edges_at h';rw [edges,ql2,←edges];exact ⟨by rw [show 2 * (i+1)=2 * i+2 by omega,qli (by simp)];simpa using h1,by rw [show 2 * (i+1)+1=2 * i+1+2 by omega,qli (by simp)];simpa using h2⟩
theorem edges_mem {ss:List TS} {e:Nat×Nat×Int} (h:e∈edges ss):∃s∈ss,e=(s.1.toNat,s.2.1.toNat,s.2.2)∨e=(s.2.1.toNat,s.1.toNat,s.2.2):=by
  obtain ⟨s,hs,he⟩:=List.mem_flatMap.1 h
  grind
def times (n:Nat) (ss:List TS) (node:Nat):List Int:=iter (edges ss) n (start n node)
end Tm
def c1m (n x:Int):Bool:=decide (0≤x) && decide (x≤IntKind.i64.wrap (n - 1))
def b7j (n:Int) (x:TS):Bool:=c1m n x.1 && c1m n x.2.1 && decide (x.1 < x.2.1) && (decide (1≤x.2.2) && decide (x.2.2≤3600))
def d98 (n:Int) (x:TS):Bool:=c1m n x.1 && c1m n x.2.1 && !decide (x.1=x.2.1) && (decide (1≤x.2.2) && decide (x.2.2≤3600))
def c3s (x y:TS):Bool:=decide (x.1 < y.1) || (decide (x.1=y.1) && decide (x.2.1 < y.2.1))
def c6o (n:Int) (ss:List TS):Bool:=(decide (1≤n) && decide (n≤14)) && !decide (40 < (ss.length:Int))
def c0c (n:Int) (ss:List TS):Bool:=c6o n ss && b11 (b7j n) c3s ss 0
def f9o (x y:TS):Int:=orL [g22 x.1 y.1,g22 x.2.1 y.2.1]
theorem d86 (x y:TS):decide (0≤f9o x y)= !c3s x y:=by
  obtain ⟨x0,x1,x2⟩:=x;obtain ⟨y0,y1,y2⟩:=y;simp only [f9o,orL,g22,c3s]
  by_cases h1:x0 < y0
  · simp [h1]
  · by_cases h2:y0 < x0
    · have:¬x0=y0:=by omega
      simp [h1,h2,this]
    · have:x0=y0:=by omega
      subst this
      by_cases h3:x1 < y1
      · simp [h3]
      · by_cases h4:y1 < x1
        · simp [h3,h4]
        · simp [h3,h4]
theorem f7l (n:Int) (x:TS):(d98 n x && !decide (x.2.1 < x.1))=b7j n x:=by
  obtain ⟨x0,x1,x2⟩:=x;simp only [d98,b7j]
  by_cases h:x0 < x1
  · have h1:¬x0=x1:=by omega
    have h2:¬x1 < x0:=by omega
    simp [h,h1,h2]
  · by_cases h1:x0=x1
    · simp [h1]
    · have h2:x1 < x0:=by omega
      simp [h,h2]
theorem c8e (n:Int) (x:TS):(!d98 n x || decide (x.2.1 < x.1))= !b7j n x:=by
  rw [←f7l];cases d98 n x<;>cases decide (x.2.1 < x.1)<;>rfl
theorem c4n (n:Int) (ss:List TS) (x:Int):Con prog 34 [.pv [tQ n ss] 0 0,.int .i64 x] [] (.bool (c1m n x)) []:=by
 apply zcn [.tmp 4] [] func34 ntmps34;intro _ _ _;have T:=tq5 Y3 Y4 Y24 Y26 b7w;have F:=Fc.mk True.intro;apply yR [0,1];apply yRc [4] (b2p _ _ _);apply (zr);exact b0h rfl rfl (.inl rfl)
theorem d5n (n:Int) (ss:List TS) (x0:Int) (x1:Int) (x2:Int):Con prog 85 [.pv [tQ n ss] 0 0,.agg [Zf .i64 x0,Zf .i64 x1,Zf .i64 x2]] [] (.bool (b7j n (x0,x1,x2))) []:=by
 apply zcn [.tmp 4] [] func85 ntmps85;intro _ _ _;have T:=tq6 Y3 Y4 Y24 Y26 Y69 b7w;have F:=Fc.mk True.intro;apply yR [0,3];apply c5h [4] (c4n n ss x0) (c4n n ss x1) (b2p _ _ _);apply (zr);exact b0h rfl (by simp [b7j]) (.inl rfl)
theorem c3g (x0:Int) (x1:Int) (x2:Int) (y0:Int) (y1:Int) (y2:Int):Con prog 86 [.agg [Zf .i64 x0,Zf .i64 x1,Zf .i64 x2],.agg [Zf .i64 y0,Zf .i64 y1,Zf .i64 y2]] [] (.int .i64 (f9o (x0,x1,x2) (y0,y1,y2))) []:=by
 apply zcn [.tmp 4] [] func86 ntmps86;intro _ _ _;have T:=tq3 Y3 Y41 b7w;have F:=Fc.mk True.intro;apply yR [2,3];apply b0e;intro _ n2 _ _;apply b1b (by kernel_rfl);intro _ q3 k3;show b13 _ _ _ _ 13 (Zd 13 false) _;refine zdU q3 true 0 5 ?_;refine b08 q3 true 1 6 ?_;refine zdU q3 true 2 7 ?_;refine b08 q3 true 3 8 ?_;refine zdU q3 true 5 10 ?_;refine b08 q3 true 6 11 ?_;refine zdU q3 true 7 12 ?_;refine b08 q3 true 8 13 ?_;apply zoc 4 (c50 x0 y0);apply zoc 9 (c50 x1 y1);apply b1j 10;apply zoc 11 (f2v [g22 x0 y0,g22 x1 y1] (by simp));apply b0q 12;apply b0b (by kernel_rfl);apply k3 _;apply n2 _ _ (b0a [4] _);apply (zq1);exact b0h rfl rfl (.inl rfl)
theorem c01 (x0:Int) (x1:Int) (x2:Int) (n:Int):Con prog 148 [.agg [Zf .i64 x0,Zf .i64 x1,Zf .i64 x2],.int .i64 n] [] (.bool (d98 n (x0,x1,x2))) []:=by
 apply zcn [.tmp 4] [] func148 ntmps148;intro _ _ _;have T:=tq3 Y3 Y4 b7w;have F:=Fc.mk True.intro;apply yR [1,2];apply c5h [4] (b21 _ _ _) (b21 _ _ _) (b21 _ _ _);apply (zr);exact b0h rfl (by simp [d98,c1m]) (.inl rfl)
theorem b87 (x0:Int) (x1:Int) (x2:Int) (y0:Int) (y1:Int) (y2:Int):Con prog 149 [.agg [Zf .i64 x0,Zf .i64 x1,Zf .i64 x2],.agg [Zf .i64 y0,Zf .i64 y1,Zf .i64 y2]] [] (.bool (c3s (x0,x1,x2) (y0,y1,y2))) []:=by
 apply zcn [.tmp 4] [] func149 ntmps149;intro _ _ _;have T:=tq2 Y3 b7w;have F:=Fc.mk True.intro;apply yR [2,3];apply yR [4];apply (zr);exact b0h rfl (by simp [c3s]) (.inl rfl)
set_option maxRecDepth 8000 in
theorem b45 (n:Int) (ss:List TS) (hs:ss.length≤1048576):Con prog 31 [.pv [tQ n ss] 0 0] [] (.bool (c0c n ss)) []:=by
 apply zcn [.tmp 2] [] func31 ntmps31;intro _ _ _;have T:=tq6 Y3 Y4 Y24 Y26 Y69 b7w;have F:=Fc.mk True.intro;apply yR [0];apply b0e;intros;apply yRc [0,18] (b2p _ _ _);apply b0c _ rfl
 ·intro hc0;have hh:c6o n ss=false:=by cases hq:c6o n ss with | false=>rfl | true=>(exfalso;simp [c6o] at hq;(try simp at hc0);omega)
  apply yR [2];apply (zr);exact b0h rfl (by rw [c0c,hh];rfl) (.inl rfl)
 ·intro hc0;have hh:c6o n ss=true:=by simp only [c6o,Za,Ze,decide_eq_true_eq,decide_eq_false_iff_not];(try simp at hc0);omega
  apply zn [0];apply b0e;intros;apply yR [0,22,23,24];apply b0g;intros;apply b05 (fun i=>⟨[(0,.pv [tQ n ss] 0 0),(22,sQ rQd ss),(23,.int .i64 ss.length),(24,.int .i64 (Nat.cast i))],[],false,51,0⟩) (fun i=>i≤ss.length∧b11 (b7j n) c3s ss i=b11 (b7j n) c3s ss 0) (fun i=>ss.length - i) 0
  ·apply b0d [0,22,23,24] [];rfl
  ·exact ⟨qle _,rfl⟩
  ·rintro i hok9 Q9 n9 e9 r9;obtain ⟨hi1,hR⟩:=hok9;apply yR [0,22,23,24,25];apply b0e;intros;apply b0c _ rfl
   ·intro hc1;have hlt:i < ss.length:=by omega
    obtain ⟨⟨x0,x1,x2⟩,hx⟩:∃x:TS,ss[i]? =some x:=⟨ss[i]'(by omega),qla (by omega)⟩;rcases ql8 i with h0 | h0
    ·skip;have y0:Int:=0;have y1:Int:=0;have y2:Int:=0;have hi0:¬((0:Int) < (i:Int)):=by omega
     have hst:b11 (b7j n) c3s ss i=(b7j n (x0,x1,x2) && b11 (b7j n) c3s ss (i+1)):=by subst h0;exact b77 hx
     have hts:=c8e n (x0,x1,x2);simp only [] at hts;apply zn [0,22,23,24];apply b0e;intros;apply b0g;intros;have F:=fq5 (gdm hx) hi0 @decide_false @qmo hts;apply yR [0,3,4,22,23,24];apply b0e;intro _ n16 _ _;apply b1b (by kernel_rfl);intro _ q17 k17;show b13 _ _ _ _ 21 (Zd 21 false) _;refine zdU q17 true 0 29 ?_;refine b08 q17 true 1 30 ?_;apply zoc 2 (d5n n ss x0 x1 x2);refine zdU q17 true 3 32 ?_;refine zdU q17 true 4 33 ?_;refine b1n q17 true 5 34 ?_;refine b0y q17 true 6 35 ?_;refine b1n q17 true 7 36 ?_;refine b1n q17 true 8 37 ?_;refine b1n q17 true 9 38 ?_;refine b1n q17 true 10 39 ?_;refine b0p q17 true 11 40 ?_;refine b1n q17 true 12 41 ?_;refine b2s q17 true 13 42 ?_;refine b0u q17 true 14 43 ?_;refine b0p q17 true 15 44 ?_;refine b0p q17 true 16 45 ?_;first
     |apply d3v 17 (c3g y0 y1 y2 x0 x1 x2)
     |(apply b2w 17 46 7 true rfl rfl (show 46 < 51 by decide) (by kernel_rfl) rfl;(focus first | rfl | (simp only [zV,b01,Nat.reduceEqDiff,reduceIte];done));simp only [zW,b0j,Nat.reduceEqDiff,reduceIte])
     refine b0y q17 true 18 47 ?_;refine b4s q17 true 19 48 ?_;refine b1s q17 true 20 49 ?_;apply b0b (by kernel_rfl);apply k17 _;apply n16 _ _ (b0a [0,22,23,24,49] _);apply (zk);apply b0c _ rfl
     ·intro hc2;apply yR [2];apply (zr);exact b0h rfl (by rw [c0c,hh,←hR,hst];(try simp at hc2);first | (simp [hc2];done) | (rcases hc2 with h | h<;>simp [h];done) | (simp_all;done)) (.inl rfl)
     ·intro hc2;apply zn [0,22,23,24];apply (yV);apply n9 _ (i+1)
      ·apply b0d [0,22,23,24] [];rfl
      ·exact ⟨by omega,by rw [←hR,hst];(try simp at hc2);first | (simp [hc2];done) | (simp_all;done)⟩
      ·show _ < _;omega
    ·skip;obtain ⟨⟨y0,y1,y2⟩,hy⟩:∃x:TS,ss[i - 1]? =some x:=⟨ss[i - 1]'(by omega),qla (by omega)⟩;have hi0:(0:Int) < i:=by omega
     have hk:((i:Int) - 1).toNat=i - 1:=by omega
     have hst:=b78 (ok:=b7j n) (bf:=c3s) h0 hy hx;have hcb:=d86 (y0,y1,y2) (x0,x1,x2);have hts:=c8e n (x0,x1,x2);simp only [] at hts;apply zn [0,22,23,24];apply b0e;intros;apply b0g;intros;have F:=fq8 (gdm hx) hi0 hk (gdm hy) @decide_true @qm0 hcb hts;apply yR [0,3,4,22,23,24];apply b0e;intro _ n24 _ _;apply b1b (by kernel_rfl);intro _ q25 k25;show b13 _ _ _ _ 21 (Zd 21 false) _;refine zdU q25 true 0 29 ?_;refine b08 q25 true 1 30 ?_;apply zoc 2 (d5n n ss x0 x1 x2);refine zdU q25 true 3 32 ?_;refine zdU q25 true 4 33 ?_;refine b1n q25 true 5 34 ?_;refine b0y q25 true 6 35 ?_;refine b1n q25 true 7 36 ?_;refine b1n q25 true 8 37 ?_;refine b1n q25 true 9 38 ?_;refine b1n q25 true 10 39 ?_;refine b0p q25 true 11 40 ?_;refine b1n q25 true 12 41 ?_;refine b2s q25 true 13 42 ?_;refine b0u q25 true 14 43 ?_;refine b0p q25 true 15 44 ?_;refine b0p q25 true 16 45 ?_;first
     |apply d3v 17 (c3g y0 y1 y2 x0 x1 x2)
     |(apply b2w 17 46 7 true rfl rfl (show 46 < 51 by decide) (by kernel_rfl) rfl;(focus first | rfl | (simp only [zV,b01,Nat.reduceEqDiff,reduceIte];done));simp only [zW,b0j,Nat.reduceEqDiff,reduceIte])
     refine b0y q25 true 18 47 ?_;refine b4s q25 true 19 48 ?_;refine b1s q25 true 20 49 ?_;apply b0b (by kernel_rfl);apply k25 _;apply n24 _ _ (b0a [0,22,23,24,49] _);apply (zk);apply b0c _ rfl
     ·intro hc2;apply yR [2];apply (zr);exact b0h rfl (by rw [c0c,hh,←hR,hst];(try simp at hc2);first | (simp [hc2];done) | (rcases hc2 with h | h<;>simp [h];done) | (simp_all;done)) (.inl rfl)
     ·intro hc2;apply zn [0,22,23,24];apply (yV);apply n9 _ (i+1)
      ·apply b0d [0,22,23,24] [];rfl
      ·exact ⟨by omega,by rw [←hR,hst];(try simp at hc2);first | (simp [hc2];done) | (simp_all;done)⟩
      ·show _ < _;omega
   ·intro hc1;apply zn [];apply yR [2];apply (zr);exact b0h rfl (by rw [c0c,hh,←hR,b9u (by omega)];rfl) (.inl rfl)
set_option maxRecDepth 8000 in
theorem c2q (n:Int) (ss:List TS) (hs:ss.length≤1048576):Con prog 105 [tQ n ss] [] (.bool (c0c n ss)) []:=by
 apply zcn [.tmp 2] [] func105 ntmps105;intro _ _ _;have T:=tq5 Y3 Y4 Y24 Y26 b7w;have F:=Fc.mk True.intro;apply yR [1];apply b0e;intros;apply yRc [1,14] (b21 _ _ _);apply b0c _ rfl
 ·intro hc0;have hh:c6o n ss=false:=by cases hq:c6o n ss with | false=>rfl | true=>(exfalso;simp [c6o] at hq;(try simp at hc0);omega)
  apply yR [2];apply (zr);exact b0h rfl (by rw [c0c,hh];rfl) (.inl rfl)
 ·intro hc0;have hh:c6o n ss=true:=by simp only [c6o,Za,Ze,decide_eq_true_eq,decide_eq_false_iff_not];(try simp at hc0);omega
  apply zn [1];apply b0e;intros;apply yR [1,16,17,18];apply b0g;intros;apply b05 (fun i=>⟨[(1,.ptr 0 0 0),(16,sQ rQd ss),(17,.int .i64 ss.length),(18,.int .i64 (Nat.cast i))],[.box (tQ n ss) .shal],false,51,0⟩) (fun i=>i≤ss.length∧b11 (b7j n) c3s ss i=b11 (b7j n) c3s ss 0) (fun i=>ss.length - i) 0
  ·apply b0d [1,16,17,18] [0];rfl
  ·exact ⟨qle _,rfl⟩
  ·rintro i hok9 Q9 n9 e9 r9;obtain ⟨hi1,hR⟩:=hok9;apply yR [1,16,17,18,19];apply b0e;intros;apply b0c _ rfl
   ·intro hc1;have hlt:i < ss.length:=by omega
    obtain ⟨⟨x0,x1,x2⟩,hx⟩:∃x:TS,ss[i]? =some x:=⟨ss[i]'(by omega),qla (by omega)⟩;rcases ql8 i with h0 | h0
    ·skip;have y0:Int:=0;have y1:Int:=0;have y2:Int:=0;have hi0:¬((0:Int) < (i:Int)):=by omega
     have hst:b11 (b7j n) c3s ss i=(b7j n (x0,x1,x2) && b11 (b7j n) c3s ss (i+1)):=by subst h0;exact b77 hx
     have hts:=c8e n (x0,x1,x2);simp only [] at hts;apply zn [1,16,17,18];apply b0e;intros;apply b0g;intros;have F:=fq5 (gdm hx) hi0 @decide_false @qmo hts;apply yR [1,3,4,16,17,18];apply b0e;intro _ n16 _ _;apply b1b (by kernel_rfl);intro _ q17 k17;show b13 _ _ _ _ 27 (Zd 27 false) _;refine b08 q17 true 0 23 ?_;refine zdU q17 true 1 24 ?_;refine b08 q17 true 2 25 ?_;apply zoc 3 (c01 x0 x1 x2 n);refine zdU q17 true 4 27 ?_;refine zdU q17 true 5 28 ?_;refine b1n q17 true 6 29 ?_;refine b0p q17 true 7 30 ?_;refine b1n q17 true 8 31 ?_;refine b0p q17 true 9 32 ?_;refine b0y q17 true 10 33 ?_;refine b1s q17 true 11 34 ?_;refine zdU q17 true 12 35 ?_;refine b1n q17 true 13 36 ?_;refine b0y q17 true 14 37 ?_;refine b1n q17 true 15 38 ?_;refine b1n q17 true 16 39 ?_;refine b0p q17 true 17 40 ?_;refine b1n q17 true 18 41 ?_;refine b2s q17 true 19 42 ?_;refine b0u q17 true 20 43 ?_;refine b0p q17 true 21 44 ?_;refine b0p q17 true 22 45 ?_;first
     |apply d3v 23 (b87 y0 y1 y2 x0 x1 x2)
     |(apply b2w 23 46 15 true rfl rfl (show 46 < 51 by decide) (by kernel_rfl) rfl;(focus first | rfl | (simp only [zV,b01,Nat.reduceEqDiff,reduceIte];done));simp only [zW,b0j,Nat.reduceEqDiff,reduceIte])
     refine b1n q17 true 24 47 ?_;refine b4s q17 true 25 48 ?_;refine b1s q17 true 26 49 ?_;apply b0b (by kernel_rfl);apply k17 _;apply n16 _ _ (b0a [1,16,17,18,49] _);apply (zk);apply b0c _ rfl
     ·intro hc2;apply yR [2];apply (zr);exact b0h rfl (by rw [c0c,hh,←hR,hst];(try simp at hc2);first | (simp [hc2];done) | (rcases hc2 with h | h<;>simp [h];done) | (simp_all;done)) (.inl rfl)
     ·intro hc2;apply zn [1,16,17,18];apply (yV);apply n9 _ (i+1)
      ·apply b0d [1,16,17,18] [0];rfl
      ·exact ⟨by omega,by rw [←hR,hst];(try simp at hc2);first | (simp [hc2];done) | (simp_all;done)⟩
      ·show _ < _;omega
    ·skip;obtain ⟨⟨y0,y1,y2⟩,hy⟩:∃x:TS,ss[i - 1]? =some x:=⟨ss[i - 1]'(by omega),qla (by omega)⟩;have hi0:(0:Int) < i:=by omega
     have hk:((i:Int) - 1).toNat=i - 1:=by omega
     have hst:=b78 (ok:=b7j n) (bf:=c3s) h0 hy hx;have hcb:=d86 (y0,y1,y2) (x0,x1,x2);have hts:=c8e n (x0,x1,x2);simp only [] at hts;apply zn [1,16,17,18];apply b0e;intros;apply b0g;intros;have F:=fq8 (gdm hx) hi0 hk (gdm hy) @decide_true @qm0 hcb hts;apply yR [1,3,4,16,17,18];apply b0e;intro _ n24 _ _;apply b1b (by kernel_rfl);intro _ q25 k25;show b13 _ _ _ _ 27 (Zd 27 false) _;refine b08 q25 true 0 23 ?_;refine zdU q25 true 1 24 ?_;refine b08 q25 true 2 25 ?_;apply zoc 3 (c01 x0 x1 x2 n);refine zdU q25 true 4 27 ?_;refine zdU q25 true 5 28 ?_;refine b1n q25 true 6 29 ?_;refine b0p q25 true 7 30 ?_;refine b1n q25 true 8 31 ?_;refine b0p q25 true 9 32 ?_;refine b0y q25 true 10 33 ?_;refine b1s q25 true 11 34 ?_;refine zdU q25 true 12 35 ?_;refine b1n q25 true 13 36 ?_;refine b0y q25 true 14 37 ?_;refine b1n q25 true 15 38 ?_;refine b1n q25 true 16 39 ?_;refine b0p q25 true 17 40 ?_;refine b1n q25 true 18 41 ?_;refine b2s q25 true 19 42 ?_;refine b0u q25 true 20 43 ?_;refine b0p q25 true 21 44 ?_;refine b0p q25 true 22 45 ?_;first
     |apply d3v 23 (b87 y0 y1 y2 x0 x1 x2)
     |(apply b2w 23 46 15 true rfl rfl (show 46 < 51 by decide) (by kernel_rfl) rfl;(focus first | rfl | (simp only [zV,b01,Nat.reduceEqDiff,reduceIte];done));simp only [zW,b0j,Nat.reduceEqDiff,reduceIte])
     refine b1n q25 true 24 47 ?_;refine b4s q25 true 25 48 ?_;refine b1s q25 true 26 49 ?_;apply b0b (by kernel_rfl);apply k25 _;apply n24 _ _ (b0a [1,16,17,18,49] _);apply (zk);apply b0c _ rfl
     ·intro hc2;apply yR [2];apply (zr);exact b0h rfl (by rw [c0c,hh,←hR,hst];(try simp at hc2);first | (simp [hc2];done) | (rcases hc2 with h | h<;>simp [h];done) | (simp_all;done)) (.inl rfl)
     ·intro hc2;apply zn [1,16,17,18];apply (yV);apply n9 _ (i+1)
      ·apply b0d [1,16,17,18] [0];rfl
      ·exact ⟨by omega,by rw [←hR,hst];(try simp at hc2);first | (simp [hc2];done) | (simp_all;done)⟩
      ·show _ < _;omega
   ·intro hc1;apply zn [];apply yR [2];apply (zr);exact b0h rfl (by rw [c0c,hh,←hR,b9u (by omega)];rfl) (.inl rfl)
theorem f0f (n:Int) (ss:List TS) (x:Int) (hs:ss.length≤1048576):Con prog 42 [tQ n ss,.int .i64 x] [] (.bool (c0c n ss && c1m n x)) []:=by
 apply zcn [.tmp 4] [] func42 ntmps42;intro _ _ _;have T:=tq5 Y3 Y4 Y24 Y26 b7w;have F:=Fc.mk True.intro;apply yR [1,2];apply d6n [4] (c2q n ss hs) (b21 _ _ _);apply (zr);exact b0h rfl (by simp [c1m]) (.inl rfl)
end Go.Proofs.YtmbbjhopngejaaaGreat
