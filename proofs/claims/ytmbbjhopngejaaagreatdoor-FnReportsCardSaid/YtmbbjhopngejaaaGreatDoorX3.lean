/- What functions compute. No condition. -/
import Derived.Test.YtmbbjhopngejaaaGreatDoorX1
set_option linter.unusedSimpArgs false
set_option linter.unusedVariables false
set_option linter.defProp false
namespace Go.Proofs.YtmbbjhopngejaaaGreatDoor
open Go Go.Vm
set_option maxHeartbeats 8000000
def b3b {α:Type} (p:α→Bool):Nat→List α→Int
  | _,[]=>-1
  | i,x::l=>if p x=true then i else b3b p (i+1) l
theorem b50 {α:Type} {p:α→Bool} {l:List α} {i:Nat} {x:α} (h:l[i]? =some x):b3b p i (l.drop i)=if p x=true then (i:Int) else b3b p (i+1) (l.drop (i+1)):=by
  rw [b1h h,b3b]
theorem b7h {α:Type} {p:α→Bool} {l:List α} {i k:Nat} (h:l.length≤i):b3b p k (l.drop i)=-1:=by
  rw [ql5 h,b3b]
theorem c0u {α:Type} (p:α→Bool):∀(l:List α) (i:Nat),decide (0≤b3b p i l)=l.any p
  | [],i=>by rw [b3b];rfl
  | x::l,i=>by
    rw [b3b,List.any_cons]
    by_cases h:p x=true
    · rw [if_pos h,h];simp
    · rw [if_neg h,c0u p l (i+1),Bool.eq_false_iff.2 h];rfl
theorem d0s {α:Type} {p:α→Bool}:∀{l:List α} {i:Nat},b3b p i l=-1→l.filter (fun x=> !p x)=l
  | [],_,_=>rfl
  | x ::l,i,h=>by
    rw [b3b] at h
    by_cases q:p x=true
    · rw [if_pos q] at h;omega
    · rw [if_neg q] at h
      rw [List.filter_cons,if_pos (by simp [q]),d0s h]
theorem c1w {α:Type} {p:α→Bool}:∀{l:List α} {i:Nat},b3b p i l≠-1→∃k,k < l.length∧b3b p i l=((i+k:Nat):Int)∧(l.take (k+1)).filter (fun x=> !p x)=l.take k∧∃x,l[k]? =some x∧p x=true
  | [],i,h=>absurd rfl h
  | x ::l,i,h=>by
    rw [b3b] at h⊢
    by_cases q:p x=true
    · rw [if_pos q]
      exact ⟨0,by simp,by simp,by simp [q],x,rfl,q⟩
    · rw [if_neg q] at h⊢
      obtain ⟨k,h1,h2,h3,y,h4,h5⟩:=c1w (l:=l) h;refine ⟨k+1,by simp;exact h1,by rw [h2];congr 1;omega,?_,y,by simpa using h4,h5⟩;rw [List.take_succ_cons,List.filter_cons,if_pos (by simp [q]),h3,List.take_succ_cons]
theorem f7m {α:Type} {p:α→Bool} {l ys:List α} {i j:Nat} (h1:i≤ys.length) (hj:l.length≤j) (h:ys.take i=(l.take j).filter (fun x=> !p x)):i=(l.filter (fun x=> !p x)).length∧ys.take i=l.filter (fun x=> !p x):=by
  rw [qlx hj] at h;refine ⟨?_,h⟩;rw [←h,qlr];omega
theorem d7c {α:Type} {p:α→Bool} {l ys:List α} {i j:Nat} {x:α} (hij:i≤j) (hjl:ys.length=l.length) (hx:l[j]? =some x) (hp:p x=false) (h:ys.take i=(l.take j).filter (fun x=> !p x)) (hd:ys.drop j=l.drop j) :
    (ys.set i x).take (i+1)=(l.take (j+1)).filter (fun x=> !p x)∧(ys.set i x).drop (j+1)=l.drop (j+1):=by
  have hj:j < l.length:=(qlc.1 hx).1;constructor
  · rw [ql2,ql2,hx,List.filter_append,←h,qlo (by omega),List.take_set,List.set_eq_of_length_le (by rw [qlr];omega)]
    simp [hp]
  · rw [List.drop_set,if_pos (by omega)]
    have:=congrArg (List.drop 1) hd
    rwa [List.drop_drop,List.drop_drop] at this
theorem d8h {α:Type} {p:α→Bool} {l ys:List α} {i j:Nat} {x:α} (hx:l[j]? =some x) (hp:p x=true) (h:ys.take i=(l.take j).filter (fun x=> !p x)) (hd:ys.drop j=l.drop j) :
    ys.take i=(l.take (j+1)).filter (fun x=> !p x)∧ys.drop (j+1)=l.drop (j+1):=by
  constructor
  · rw [ql2,hx,List.filter_append,←h];simp [hp]
  · have:=congrArg (List.drop 1) hd
    rwa [List.drop_drop,List.drop_drop] at this
theorem f64 {α:Type} {l ys:List α} {j:Nat} {x:α} (hx:l[j]? =some x) (hd:ys.drop j=l.drop j):ys[j]? =some x:=by
  have:=congrArg (fun z=>z[0]?) hd;simpa [hx] using this
def c1h (lt:Int→Int→Bool) (x:Int) (p:List Int):Nat→Nat
  | 0=>0
  | k+1=>if lt x (p.getD k 0)=true then c1h lt x p k else k+1
def f5o (lt:Int→Int→Bool) (p:List Int) (x:Int):List Int:=p.take (c1h lt x p p.length)++x::p.drop (c1h lt x p p.length)
def b6t (lt:Int→Int→Bool) (l:List Int):List Int:=l.foldl (f5o lt) []
theorem f0l {lt:Int→Int→Bool} {x y:Int} {p:List Int} {k:Nat} (hy:p[k]? =some y) (h:lt x y=true):c1h lt x p (k+1)=c1h lt x p k:=by
  rw [c1h,qlm,hy,Option.getD_some,if_pos h]
theorem f3s {lt:Int→Int→Bool} {x y:Int} {p:List Int} {k:Nat} (hy:p[k]? =some y) (h:lt x y=false):c1h lt x p (k+1)=k+1:=by
  rw [c1h,qlm,hy,Option.getD_some,if_neg (by rw [h];decide)]
theorem b5v (lt:Int→Int→Bool) (l:List Int) (x:Int):b6t lt (l++[x])=f5o lt (b6t lt l) x:=by rw [b6t,List.foldl_append];rfl
theorem d0n (lt:Int→Int→Bool) (l:List Int):(b6t lt l).Perm l:=by
  have key:∀(l acc:List Int),(l.foldl (f5o lt) acc).Perm (acc++l):=by
    intro l
    induction l with
    | nil=>intro acc;rw [List.append_nil];exact List.Perm.refl _
    | cons x l ih=>
      intro acc;refine (ih (f5o lt acc x)).trans ?_;have h1:(f5o lt acc x).Perm (x::acc):=by
        rw [f5o];refine List.perm_middle.trans ?_;rw [List.take_append_drop]
      refine (h1.append_right l).trans ?_;rw [List.cons_append];exact List.perm_middle.symm
  have h:=key l [];rw [List.nil_append] at h;exact h
theorem d4d (lt:Int→Int→Bool) (l:List Int):(b6t lt l).length=l.length:=(d0n lt l).length_eq
theorem d4n {lt:Int→Int→Bool} {l:List Int} {x:Int}:x∈b6t lt l↔x∈l:=(d0n lt l).mem_iff
namespace Tm
def le (a b:Int):Prop:=b < 0∨(0≤a∧a≤b)
theorem le_refl (a:Int):le a a:=by unfold le;omega
theorem le_trans {a b c:Int} (h:le a b) (k:le b c):le a c:=by unfold le at *;omega
def at_ (x:List Int) (v:Nat):Int:=x.getD v (-1)
def f34 (x:List Int) (e:(Nat×Nat×Int)):Bool:=decide (0≤at_ x e.1) && (decide (at_ x e.2.1 < 0) || decide (at_ x e.1+e.2.2 < at_ x e.2.1))
def relax (x:List Int) (e:(Nat×Nat×Int)):List Int:=if f34 x e=true then x.set e.2.1 (at_ x e.1+e.2.2) else x
def round (es:List (Nat×Nat×Int)) (x:List Int):List Int:=es.foldl relax x
def Good (n:Nat) (e:(Nat×Nat×Int)):Prop:=e.1 < n∧e.2.1 < n∧e.1≠e.2.1∧1≤e.2.2
theorem d70 (x:List Int) (v u:Nat) (a:Int) (h:v < x.length):at_ (x.set v a) u=if u=v then a else at_ x u:=by
  unfold at_
  by_cases q:u=v
  · subst q;simp [List.getD_eq_getElem?_getD,h]
  · rw [if_neg q,qlm,qlm,qlg (fun z=>q z.symm)]
theorem c8z (x:List Int) (e:(Nat×Nat×Int)):(relax x e).length=x.length:=by
  unfold relax;split<;>simp
theorem d3j (es:List (Nat×Nat×Int)):∀x:List Int,(round es x).length=x.length:=by
  induction es with
  | nil=>intro x;rfl
  | cons e es ih=>intro x;show (round es (relax x e)).length=_;rw [ih,c8z]
theorem f44 {n:Nat} {x:List Int} {e:(Nat×Nat×Int)} (hx:x.length=n) (he:Good n e) (v:Nat):le (at_ (relax x e) v) (at_ x v):=by
  unfold relax;split
  · rename_i h
    rw [d70 _ _ _ _ (by rw [hx];exact he.2.1)];split
    · rename_i q
      subst q;simp only [f34,Bool.and_eq_true,Bool.or_eq_true,decide_eq_true_eq] at h;have:=he.2.2.2;unfold le;omega
    · exact le_refl _
  · exact le_refl _
def iter (es:List (Nat×Nat×Int)):Nat→List Int→List Int
  | 0,x=>x
  | k+1,x=>round es (iter es k x)
structure Inv (n node:Nat) (es:List (Nat×Nat×Int)) (x:List Int):Prop where
  len:x.length=n
  src:at_ x node=0
  low:∀v,-1≤at_ x v
  sup:∀v,v≠node→0≤at_ x v→∃e∈es,e.2.1=v∧0≤at_ x e.1∧at_ x e.1+e.2.2≤at_ x v
theorem Inv.relax {n node:Nat} {es:List (Nat×Nat×Int)} {x:List Int} (h:Inv n node es x) {d:(Nat×Nat×Int)} (hd:d∈es) (hg:∀e∈es,Good n e):Inv n node es (relax x d):=by
  have hgd:=hg d hd;have hle:=f44 h.len hgd
  by_cases ht:f34 x d=true
  · have hr : Tm.relax x d=x.set d.2.1 (at_ x d.1+d.2.2):=by rw [Tm.relax,if_pos ht]
    have hset:∀u,at_ (Tm.relax x d) u=if u=d.2.1 then at_ x d.1+d.2.2 else at_ x u:=fun u=>by rw [hr];exact d70 _ _ _ _ (by rw [h.len];exact hgd.2.1)
    have ht':=ht;simp only [f34,Bool.and_eq_true,Bool.or_eq_true,decide_eq_true_eq] at ht';have hw:=hgd.2.2.2;have hne:node≠d.2.1:=by
      intro q;have:=h.src;rw [q] at this;omega
    refine ⟨by rw [c8z];exact h.len,by rw [hset,if_neg hne];exact h.src,fun v=> ?_,fun v hv h0=> ?_⟩
    · rw [hset];split
      · omega
      · exact h.low v
    · rw [hset] at h0
      by_cases q:v=d.2.1
      · subst q
        refine ⟨d,hd,rfl,?_,?_⟩
        · rw [hset,if_neg hgd.2.2.1];exact ht'.1
        · rw [hset,hset,if_pos rfl,if_neg hgd.2.2.1];exact Int.le_refl _
      · rw [if_neg q] at h0
        obtain ⟨e,e1,e2,e3,e4⟩:=h.sup v hv h0;refine ⟨e,e1,e2,?_,?_⟩
        · rw [hset];split
          · omega
          · exact e3
        · rw [hset v,if_neg q,hset];split
          · rename_i z
            rw [z] at e3 e4;omega
          · exact e4
  · have:Tm.relax x d=x:=by rw [Tm.relax,if_neg ht]
    rw [this];exact h
theorem Inv.round {n node:Nat} {es:List (Nat×Nat×Int)} (hg:∀e∈es,Good n e):∀{l:List (Nat×Nat×Int)} {x:List Int},(∀e∈l,e∈es)→Inv n node es x→Inv n node es (Tm.round l x)
  | [],_,_,h=>h
  | d::l,x,hl,h=>Inv.round hg (l:=l) (fun e he=>hl e (qll _ he)) (h.relax (hl d (qlh ..)) hg)
theorem Inv.iter {n node:Nat} {es:List (Nat×Nat×Int)} {x:List Int} (hg:∀e∈es,Good n e) (h:Inv n node es x):∀k,Inv n node es (iter es k x)
  | 0=>h
  | k+1=>Inv.round hg (fun _ he=>he) (Inv.iter hg h k)
theorem ext {x y:List Int} (hl:x.length=y.length) (h:∀v,v < x.length→at_ x v=at_ y v):x=y:=by
  apply List.ext_getElem hl;intro v h1 h2;have:=h v h1;simpa [at_,List.getD_eq_getElem?_getD,h1,h2] using this
end Tm
namespace Tm
theorem f0g {es:List (Nat×Nat×Int)} {x:List Int} {j:Nat} {e:Nat×Nat×Int} (h:es[j]? =some e):round (es.take (j+1)) x=relax (round (es.take j) x) e:=by
  rw [round,ql2,h,List.foldl_append];rfl
theorem f1s {es:List (Nat×Nat×Int)} {x:List Int} {j:Nat} (h:es.length≤j):round (es.take j) x=round es x:=by rw [qlx h]
def Ub (b:Int) (x:List Int):Prop:=∀v,at_ x v≤b
theorem Ub.relax {n:Nat} {b:Int} {x:List Int} {e:Nat×Nat×Int} (h:Ub b x) (hx:x.length=n) (hg:Good n e) (hw:e.2.2≤3600):Ub (b+3600) (relax x e):=by
  intro v;have h1:=h v;have h2:=h e.1;unfold Tm.relax;split
  · rw [d70 _ _ _ _ (by rw [hx];exact hg.2.1)];split<;>omega
  · omega
theorem Ub.round {n:Nat}:∀{es:List (Nat×Nat×Int)} {b:Int} {x:List Int},Ub b x→x.length=n→(∀e∈es,Good n e∧e.2.2≤3600)→Ub (b+3600 * es.length) (round es x)
  | [],b,x,h,_,_=>by
    intro v;have:=h v;show at_ x v≤_;simp only [aQ,fQ,List.length_nil];omega
  | e::es,b,x,h,hx,hg=>by
    have h1:=h.relax hx (hg e (qlh ..)).1 (hg e (qlh ..)).2;have h2:=Ub.round h1 (by rw [c8z,hx]) (fun e' h'=>hg e' (qll _ h'));intro v;have:=h2 v;show at_ (Tm.round es (Tm.relax x e)) v≤_;simp only [List.length_cons];omega
theorem iter_len {es:List (Nat×Nat×Int)} {x:List Int} {n:Nat} (hx:x.length=n):∀k,(iter es k x).length=n
  | 0=>hx
  | k+1=>by show (Tm.round es (iter es k x)).length=n;rw [d3j,iter_len hx k]
theorem Ub.iter {n:Nat} {es:List (Nat×Nat×Int)} {x:List Int} (h:Ub 0 x) (hx:x.length=n) (hg:∀e∈es,Good n e∧e.2.2≤3600) (hl:es.length≤80):∀k:Nat,Ub (288000 * k) (Tm.iter es k x)
  | 0=>by intro v;have:=h v;show at_ x v≤_;omega
  | k+1=>by
    intro v;have:=Ub.round (Ub.iter h hx hg hl k) (iter_len hx k) hg v;show at_ (Tm.round es (Tm.iter es k x)) v≤_;omega
def d2g (n node:Nat):List Int:=(List.replicate n (-1)).set node 0
theorem start_len (n node:Nat):(d2g n node).length=n:=by simp [d2g]
theorem c6v {n node:Nat} (h:node < n) (v:Nat):at_ (d2g n node) v=if v=node then 0 else -1:=by
  rw [d2g,d70 _ _ _ _ (by simp [h])];split
  · rfl
  · unfold at_
    rw [qlm,List.getElem?_replicate];split<;>rfl
theorem f2w {n node:Nat} {es:List (Nat×Nat×Int)} (h:node < n):Inv n node es (d2g n node):=by
  refine ⟨start_len ..,by rw [c6v h,if_pos rfl],fun v=> ?_,fun v hv h0=> ?_⟩
  · rw [c6v h];split<;>omega
  · rw [c6v h,if_neg hv] at h0;omega
theorem f4e {n node:Nat} (h:node < n):Ub 0 (d2g n node):=by
  intro v;rw [c6v h];split<;>omega
def within (n node:Nat) (es:List (Nat×Nat×Int)) (k j:Nat):List Int:=round (es.take j) (iter es k (d2g n node))
theorem within_facts {n node:Nat} {es:List (Nat×Nat×Int)} (h:node < n) (hg:∀e∈es,Good n e∧e.2.2≤3600) (hl:es.length≤80) (k j:Nat) (hk:k≤15):(within n node es k j).length=n∧∀v,-1≤at_ (within n node es k j) v∧at_ (within n node es k j) v≤4608000:=by
  have hg1:∀e∈es,Good n e:=fun e he=>(hg e he).1
  have hi:=(f2w (es:=es) h).iter hg1 k;refine ⟨by rw [within,d3j,iter_len (start_len ..)],fun v=>⟨(Inv.round hg1 (l:=es.take j) (fun e he=>ql0 he) hi).low v,?_⟩⟩;have h1:=Ub.round (es:=es.take j) (Ub.iter (f4e h) (start_len ..) hg hl k) (iter_len (start_len ..) k) (fun e he=>hg e (ql0 he)) v;have h2:(es.take j).length≤80:=by rw [qlr];omega
  rw [within];omega
theorem within_end {n node:Nat} {es:List (Nat×Nat×Int)} {k j:Nat} (h:es.length≤j):within n node es k j=iter es (k+1) (d2g n node):=by rw [within,f1s h];rfl
theorem within_step {n node:Nat} {es:List (Nat×Nat×Int)} {k j:Nat} {e:Nat×Nat×Int} (h:es[j]? =some e):within n node es k (j+1)=relax (within n node es k j) e:=f0g h
theorem relax_yes {x:List Int} {u v:Nat} {w a b:Int} (hu:x[u]? =some a) (hv:x[v]? =some b) (h:0≤a∧(b < 0∨a+w < b)):f34 x (u,v,w)=true∧relax x (u,v,w)=x.set v (a+w):=by
  have h1:at_ x u=a:=by rw [at_,qlm,hu];rfl
  have h2:at_ x v=b:=by rw [at_,qlm,hv];rfl
  have ht:f34 x (u,v,w)=true:=by simp only [f34,h1,h2,Bool.and_eq_true,Bool.or_eq_true,decide_eq_true_eq];exact h
  exact ⟨ht,by rw [relax,if_pos ht,h1]⟩
theorem relax_no {x:List Int} {u v:Nat} {w a b:Int} (hu:x[u]? =some a) (hv:x[v]? =some b) (h:¬(0≤a∧(b < 0∨a+w < b))):f34 x (u,v,w)=false∧relax x (u,v,w)=x:=by
  have h1:at_ x u=a:=by rw [at_,qlm,hu];rfl
  have h2:at_ x v=b:=by rw [at_,qlm,hv];rfl
  have ht:f34 x (u,v,w)=false:=by
    rw [Bool.eq_false_iff];intro q;simp only [f34,h1,h2,Bool.and_eq_true,Bool.or_eq_true,decide_eq_true_eq] at q;exact h q
  exact ⟨ht,by rw [relax,if_neg (by rw [ht];decide)]⟩
theorem at_get {x:List Int} {v:Nat} {a:Int} (h:x[v]? =some a):at_ x v=a:=by rw [at_,qlm,h];rfl
def edges (ss:List TS):List (Nat×Nat×Int):=ss.flatMap fun s=>[(s.1.toNat,s.2.1.toNat,s.2.2),(s.2.1.toNat,s.1.toNat,s.2.2)]
theorem edges_len:∀ss:List TS,(edges ss).length=2 * ss.length
  | []=>rfl
  | s::ss=>by
    have:=edges_len ss;rw [edges,ql3,qls,←edges,this];simp;omega
theorem edges_at:∀{ss:List TS} {i:Nat} {s:TS},ss[i]? =some s→(edges ss)[2 * i]? =some (s.1.toNat,s.2.1.toNat,s.2.2)∧(edges ss)[2 * i+1]? =some (s.2.1.toNat,s.1.toNat,s.2.2)
  | [],i,s,h=>by simp at h
  | t::ss,0,s,h=>by
    obtain rfl:t=s:=by simpa using h
    rw [edges,ql3];exact ⟨rfl,rfl⟩
  | t::ss,i+1,s,h=>by
    have h':ss[i]? =some s:=by simpa using h
    obtain ⟨h1,h2⟩:=edges_at h';rw [edges,ql3,←edges];exact ⟨by rw [show 2 * (i+1)=2 * i+2 by omega,qlq (by simp)];simpa using h1,by rw [show 2 * (i+1)+1=2 * i+1+2 by omega,qlq (by simp)];simpa using h2⟩
theorem edges_mem {ss:List TS} {e:Nat×Nat×Int} (h:e∈edges ss):∃s∈ss,e=(s.1.toNat,s.2.1.toNat,s.2.2)∨e=(s.2.1.toNat,s.1.toNat,s.2.2):=by
  obtain ⟨s,hs,he⟩:=List.mem_flatMap.1 h;exact ⟨s,hs,by simpa using he⟩
def times (n:Nat) (ss:List TS) (node:Nat):List Int:=iter (edges ss) n (d2g n node)
end Tm
end Go.Proofs.YtmbbjhopngejaaaGreatDoor
