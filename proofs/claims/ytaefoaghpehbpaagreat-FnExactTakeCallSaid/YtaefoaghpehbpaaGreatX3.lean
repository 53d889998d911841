/- What functions compute. No condition. -/
import Derived.Test.YtaefoaghpehbpaaGreatUz
import Derived.Test.YtaefoaghpehbpaaGreatUty
import Derived.Test.YtaefoaghpehbpaaGreatUmG
import Derived.Test.YtaefoaghpehbpaaGreatX1
set_option linter.unusedSimpArgs false
set_option linter.unusedVariables false
set_option linter.defProp false
namespace Go.Proofs.YtaefoaghpehbpaaGreat
open Go Go.Vm
set_option maxHeartbeats 8000000
theorem c44 (k:Int):b19 k 0=[]:=rfl
theorem b6f {α:Type} {l l':List α} {i:Nat} {x:α} (hi:i < l.length):(l.set i x).take (i+1)++l'=l.take i++x::l':=by
  rw [List.take_add_one,List.getElem?_set_self hi,List.take_set_of_le (Nat.le_refl _)]
  simp
theorem c7d (l:List Int) (lo hi:Int) (hl:l.length≤1048576):Con Tryz.prog 85 [.sl (l.map (V.int .i64)),.int .i64 lo,.int .i64 hi] [] (.bool (l.all (fun x=>inR x lo hi))) []:=by
 refine b05 [.tmp 6] [] Tryz.func85 rfl rfl rfl (by simp [Tryz.ntmps85]) ?_
 intro Q0 n0 r0
 simp only [Tryz.ntmps85,b0l,Nat.reduceAdd]
 have T:=Tys.mk (ai Ty.t3 (ai Ty.t4 Ty.t75))
 have F:=Fc.mk True.intro
 refine yR [0,1,2] ⟨?_⟩;refine b0c ?_;intros;refine yR [1,2,9,10,11] ⟨?_⟩;refine b0g ?_;intros;refine b08 (fun i=>⟨[(1,.int .i64 lo),(2,.int .i64 hi),(9,.sl (l.map (V.int .i64))),(10,.int .i64 l.length),(11,.int .i64 (Nat.cast i))],[],false,21,0⟩) (fun i=>i≤l.length∧l.all (fun x=>inR x lo hi)=(l.drop i).all (fun x=>inR x lo hi)) (fun i=>l.length - i) 0 ?_ ?_ ?_
 ·refine b1a [1,2,9,10,11] ?_
  simp only [b0s,b0k,b0h,b0i,b0n,Nat.reduceEqDiff,reduceIte]
  rfl
 ·exact ⟨Nat.zero_le _,by simp⟩
 ·rintro i hok5 Q5 n5 e5 r5
  obtain ⟨hi1,hR⟩:=hok5
  refine yR [1,2,9,10,11,12] ⟨?_⟩;refine b0c ?_;intros;refine b0d _ rfl ?_ ?_
  ·intro hc0
   have hlt:i < l.length:=by omega
   obtain ⟨x,hx⟩:∃x,l[i]? =some x:=⟨l[i],List.getElem?_eq_getElem hlt⟩
   have hst:=f25 (f:=(fun x=>inR x lo hi)) hx
   refine zn [1,2,9,10,11] ⟨?_⟩;refine b0c ?_;intros;refine b0g ?_;intros
   have F:=Fc.mk (gdm hx)
   refine yR [1,2,8,9,10,11] ⟨?_⟩;refine yRc [1,2,9,10,11,19] (b2o _ _ _) ⟨?_⟩;refine b0d _ rfl ?_ ?_
   ·intro hc1
    have hb:inR x lo hi=false:=by cases hq:inR x lo hi with | false=>rfl | true=>(exfalso;simp [inR] at hq;have:=hc1 hq.1;omega)
    refine yR [6] ⟨?_⟩;refine zr ⟨?_⟩
    exact b0a rfl (by rw [hR,hst,hb];rfl) (.inl rfl)
   ·intro hc1
    have hb:inR x lo hi=true:=by rw [inR,decide_eq_true hc1.1,decide_eq_true hc1.2];rfl
    refine zn [1,2,9,10,11] ⟨?_⟩;refine yV ⟨?_⟩;refine n5 _ (i+1) ?_ ?_ ?_
    ·refine b1a [1,2,9,10,11] ?_
     simp only [b0s,b0k,b0h,b0i,b0n,Nat.reduceEqDiff,reduceIte]
     rfl
    ·exact ⟨by omega,by rw [hR,hst,hb];simp⟩
    ·show _ < _;omega
  ·intro hc0
   refine zn [] ⟨?_⟩;refine yR [6] ⟨?_⟩;refine zr ⟨?_⟩
   exact b0a rfl (by rw [hR,List.drop_of_length_le (by omega)];rfl) (.inl rfl)
def b20 {α:Type} (p:α→Bool):Nat→List α→Int
  | _,[]=>-1
  | i,x::l=>if p x=true then i else b20 p (i+1) l
theorem b54 {α:Type} {p:α→Bool} {l:List α} {i:Nat} {x:α} (h:l[i]? =some x):b20 p i (l.drop i)=if p x=true then (i:Int) else b20 p (i+1) (l.drop (i+1)):=by
  rw [b0r h,b20]
theorem b7a {α:Type} {p:α→Bool} {l:List α} {i k:Nat} (h:l.length≤i):b20 p k (l.drop i)=-1:=by
  rw [List.drop_of_length_le h,b20]
theorem c0w {α:Type} (p:α→Bool):∀(l:List α) (i:Nat),decide (0≤b20 p i l)=l.any p
  | [],i=>by rw [b20];rfl
  | x::l,i=>by
    rw [b20,List.any_cons]
    by_cases h:p x=true
    · rw [if_pos h,h];simp
    · rw [if_neg h,c0w p l (i+1),Bool.eq_false_iff.2 h];rfl
theorem c3y {α:Type} {p:α→Bool}:∀{l:List α} {i:Nat},b20 p i l≠-1→∃k,k < l.length∧b20 p i l=((i+k:Nat):Int)∧(l.take (k+1)).filter (fun x=> !p x)=l.take k∧∃x,l[k]? =some x∧p x=true
  | [],i,h=>absurd rfl h
  | x ::l,i,h=>by
    rw [b20] at h⊢
    by_cases q:p x=true
    · rw [if_pos q]
      exact ⟨0,by simp,by simp,by simp [q],x,rfl,q⟩
    · rw [if_neg q] at h⊢
      obtain ⟨k,h1,h2,h3,y,h4,h5⟩:=c3y (l:=l) h
      refine ⟨k+1,by simp;exact h1,by rw [h2];congr 1;omega,?_,y,by simpa using h4,h5⟩
      rw [List.take_succ_cons,List.filter_cons,if_pos (by simp [q]),h3,List.take_succ_cons]
def b72 (lt:Int→Int→Bool) (x:Int) (p:List Int):Nat→Nat
  | 0=>0
  | k+1=>if lt x (p.getD k 0)=true then b72 lt x p k else k+1
def d95 (lt:Int→Int→Bool) (p:List Int) (x:Int):List Int:=p.take (b72 lt x p p.length)++x::p.drop (b72 lt x p p.length)
def b2z (lt:Int→Int→Bool) (l:List Int):List Int:=l.foldl (d95 lt) []
theorem c9y {lt:Int→Int→Bool} {x y:Int} {p:List Int} {k:Nat} (hy:p[k]? =some y) (h:lt x y=true):b72 lt x p (k+1)=b72 lt x p k:=by
  rw [b72,List.getD_eq_getElem?_getD,hy,Option.getD_some,if_pos h]
theorem c8p {lt:Int→Int→Bool} {x y:Int} {p:List Int} {k:Nat} (hy:p[k]? =some y) (h:lt x y=false):b72 lt x p (k+1)=k+1:=by
  rw [b72,List.getD_eq_getElem?_getD,hy,Option.getD_some,if_neg (by rw [h];decide)]
theorem b4w (lt:Int→Int→Bool) (l:List Int) (x:Int):b2z lt (l++[x])=d95 lt (b2z lt l) x:=by rw [b2z,List.foldl_append];rfl
theorem c0z {lt:Int→Int→Bool} {l:List Int} {i:Nat} {x:Int} (h:l[i]? =some x):b2z lt (l.take (i+1))=d95 lt (b2z lt (l.take i)) x:=by
  rw [List.take_add_one,h];exact b4w ..
theorem c4b (lt:Int→Int→Bool) (l:List Int):(b2z lt l).Perm l:=by
  have key:∀(l acc:List Int),(l.foldl (d95 lt) acc).Perm (acc++l):=by
    intro l
    induction l with
    | nil=>intro acc;rw [List.append_nil];exact List.Perm.refl _
    | cons x l ih=>
      intro acc
      refine (ih (d95 lt acc x)).trans ?_
      have h1:(d95 lt acc x).Perm (x::acc):=by
        rw [d95]
        refine List.perm_middle.trans ?_
        rw [List.take_append_drop]
      refine (h1.append_right l).trans ?_
      rw [List.cons_append]
      exact List.perm_middle.symm
  have h:=key l []
  rw [List.nil_append] at h
  exact h
theorem c61 (lt:Int→Int→Bool) (l:List Int):(b2z lt l).length=l.length:=(c4b lt l).length_eq
theorem c6r {lt:Int→Int→Bool} {l:List Int} {x:Int}:x∈b2z lt l↔x∈l:=(c4b lt l).mem_iff
def b7u (p:List Int) (x:Int) (r:List Int) (j:Nat):List Int:=p.take j++x::(p.drop j++r)
theorem f2o {p r:List Int} {x:Int} {j:Nat} (h:j≤p.length):(b7u p x r j).length=p.length+1+r.length:=by
  rw [b7u,List.length_append,List.length_cons,List.length_append,List.length_take,List.length_drop];omega
theorem f1h {p r:List Int} {x:Int} {j:Nat} (h:j≤p.length):(b7u p x r j)[j]? =some x:=by
  rw [b7u,List.getElem?_append_right (by rw [List.length_take];omega),List.length_take,show j - min j p.length=0 by omega];rfl
theorem d76 {p r:List Int} {x y:Int} {j:Nat} (hy:p[j]? =some y):(b7u p x r (j+1))[j]? =some y:=by
  have hj:j < p.length:=(List.getElem?_eq_some_iff.1 hy).1
  rw [b7u,List.getElem?_append_left (by rw [List.length_take];omega),List.getElem?_take,if_pos (Nat.lt_succ_self j),hy]
theorem d74 {p r:List Int} {x y:Int} {j:Nat} (hy:p[j]? =some y):((b7u p x r (j+1)).set (j+1) y).set j x=b7u p x r j:=by
  have hj:j < p.length:=(List.getElem?_eq_some_iff.1 hy).1
  have ht:(p.take (j+1))=p.take j++[y]:=by rw [List.take_add_one,hy];rfl
  have hl:(p.take j).length=j:=by rw [List.length_take];omega
  rw [b7u,b7u,ht]
  rw [List.set_append_right _ _ (by simp [hl]),List.set_append_left _ _ (by simp [hl]),List.set_append_right _ _ (by omega)]
  simp only [hl,List.length_append,List.length_singleton,Nat.sub_self,List.set_cons_zero,List.append_assoc]
  congr 1
  rw [List.singleton_append]
  congr 1
  have hd:p.drop j=y::p.drop (j+1):=by
    rw [List.drop_eq_getElem_cons hj]
    congr 1
    exact (List.getElem?_eq_some_iff.1 hy).2
  rw [hd];rfl
theorem d4j {p r:List Int} {x:Int}:b7u p x r p.length=p++x::r:=by rw [b7u,List.take_length,List.drop_length];rfl
theorem c2y {lt:Int→Int→Bool} {p r:List Int} {x:Int} {j:Nat} (h:b72 lt x p p.length=j):b7u p x r j=d95 lt p x++r:=by
  rw [b7u,d95,h,List.append_assoc,List.cons_append]
theorem c84 {l:List Int} {i:Nat} {x:Int} (h:l[i]? =some x):l.drop i=x::l.drop (i+1):=by
  have hj:i < l.length:=(List.getElem?_eq_some_iff.1 h).1
  rw [List.drop_eq_getElem_cons hj]
  congr 1
  exact (List.getElem?_eq_some_iff.1 h).2
namespace Tm
def le (a b:Int):Prop:=b < 0∨(0≤a∧a≤b)
theorem le_refl (a:Int):le a a:=by unfold le;omega
theorem le_trans {a b c:Int} (h:le a b) (k:le b c):le a c:=by unfold le at *;omega
theorem c7w {a b:Int} (h:le a b) (k:le b a) (ha:-1≤a) (hb:-1≤b):a=b:=by unfold le at *;omega
def at_ (x:List Int) (v:Nat):Int:=x.getD v (-1)
def trig (x:List Int) (e:(Nat×Nat×Int)):Bool:=decide (0≤at_ x e.1) && (decide (at_ x e.2.1 < 0) || decide (at_ x e.1+e.2.2 < at_ x e.2.1))
def relax (x:List Int) (e:(Nat×Nat×Int)):List Int:=if trig x e=true then x.set e.2.1 (at_ x e.1+e.2.2) else x
def round (es:List (Nat×Nat×Int)) (x:List Int):List Int:=es.foldl relax x
def Good (n:Nat) (e:(Nat×Nat×Int)):Prop:=e.1 < n∧e.2.1 < n∧e.1≠e.2.1∧1≤e.2.2
theorem c88 (x:List Int) (v u:Nat) (a:Int) (h:v < x.length):at_ (x.set v a) u=if u=v then a else at_ x u:=by
  unfold at_
  by_cases q:u=v
  · subst q;simp [List.getD_eq_getElem?_getD,h]
  · rw [if_neg q,List.getD_eq_getElem?_getD,List.getD_eq_getElem?_getD,List.getElem?_set_ne (fun z=>q z.symm)]
theorem b8r (x:List Int) (e:(Nat×Nat×Int)):(relax x e).length=x.length:=by
  unfold relax;split<;>simp
theorem c0k (es:List (Nat×Nat×Int)):∀x:List Int,(round es x).length=x.length:=by
  induction es with
  | nil=>intro x;rfl
  | cons e es ih=>intro x;show (round es (relax x e)).length=_;rw [ih,b8r]
theorem d1p {n:Nat} {x:List Int} {e:(Nat×Nat×Int)} (hx:x.length=n) (he:Good n e) (v:Nat):le (at_ (relax x e) v) (at_ x v):=by
  unfold relax
  split
  · rename_i h
    rw [c88 _ _ _ _ (by rw [hx];exact he.2.1)]
    split
    · rename_i q
      subst q
      simp only [trig,Bool.and_eq_true,Bool.or_eq_true,decide_eq_true_eq] at h
      have:=he.2.2.2
      unfold le;omega
    · exact le_refl _
  · exact le_refl _
theorem c52 {n:Nat}:∀{es:List (Nat×Nat×Int)} {x:List Int},x.length=n→(∀e∈es,Good n e)→∀v,le (at_ (round es x) v) (at_ x v)
  | [],_,_,_,v=>le_refl _
  | e::es,x,hx,he,v=>by
    have h1:=c52 (es:=es) (x:=relax x e) (by rw [b8r,hx]) (fun e' h=>he e' (List.mem_cons_of_mem _ h)) v
    exact le_trans h1 (d1p hx (he e (List.mem_cons_self ..)) v)
theorem d9w {n:Nat} {x:List Int} {e:(Nat×Nat×Int)} (hx:x.length=n) (he:Good n e) (h0:0≤at_ x e.1):le (at_ (relax x e) e.2.1) (at_ x e.1+e.2.2):=by
  have hw:=he.2.2.2
  unfold relax
  split
  · rw [c88 _ _ _ _ (by rw [hx];exact he.2.1),if_pos rfl];exact le_refl _
  · rename_i h
    simp only [trig,Bool.and_eq_true,Bool.or_eq_true,decide_eq_true_eq] at h
    unfold le;omega
theorem c9z {n:Nat}:∀{es:List (Nat×Nat×Int)} {x:List Int} {e:(Nat×Nat×Int)},x.length=n→(∀e∈es,Good n e)→e∈es→0≤at_ x e.1→le (at_ (round es x) e.2.1) (at_ x e.1+e.2.2)
  | [],_,_,_,_,h,_=>by cases h
  | d ::es,x,e,hx,he,h,h0=>by
    have hd:=he d (List.mem_cons_self ..)
    have hes:∀e∈es,Good n e:=fun e' h=>he e' (List.mem_cons_of_mem _ h)
    have hxl:(relax x d).length=n:=by rw [b8r,hx]
    rcases List.mem_cons.1 h with rfl | h'
    · exact le_trans (c52 hxl hes _) (d9w hx hd h0)
    · have hm:=d1p hx hd e.1
      have h0':0≤at_ (relax x d) e.1:=by unfold le at hm;omega
      have:=c9z (x:=relax x d) hxl hes h' h0'
      show le (at_ (round es (relax x d)) e.2.1) _
      unfold le at this hm⊢
      have hw:=(he e h).2.2.2
      omega
def iter (es:List (Nat×Nat×Int)):Nat→List Int→List Int
  | 0,x=>x
  | k+1,x=>round es (iter es k x)
structure Inv (n node:Nat) (es:List (Nat×Nat×Int)) (x:List Int):Prop where
  len:x.length=n
  src:at_ x node=0
  low:∀v,-1≤at_ x v
  sup:∀v,v≠node→0≤at_ x v→∃e∈es,e.2.1=v∧0≤at_ x e.1∧at_ x e.1+e.2.2≤at_ x v
theorem Inv.relax {n node:Nat} {es:List (Nat×Nat×Int)} {x:List Int} (h:Inv n node es x) {d:(Nat×Nat×Int)} (hd:d∈es) (hg:∀e∈es,Good n e):Inv n node es (relax x d):=by
  have hgd:=hg d hd
  have hle:=d1p h.len hgd
  by_cases ht:trig x d=true
  · have hr : Tm.relax x d=x.set d.2.1 (at_ x d.1+d.2.2):=by rw [Tm.relax,if_pos ht]
    have hset:∀u,at_ (Tm.relax x d) u=if u=d.2.1 then at_ x d.1+d.2.2 else at_ x u:=fun u=>by rw [hr];exact c88 _ _ _ _ (by rw [h.len];exact hgd.2.1)
    have ht':=ht
    simp only [trig,Bool.and_eq_true,Bool.or_eq_true,decide_eq_true_eq] at ht'
    have hw:=hgd.2.2.2
    have hne:node≠d.2.1:=by
      intro q
      have:=h.src
      rw [q] at this
      omega
    refine ⟨by rw [b8r];exact h.len,by rw [hset,if_neg hne];exact h.src,fun v=> ?_,fun v hv h0=> ?_⟩
    · rw [hset];split
      · omega
      · exact h.low v
    · rw [hset] at h0
      by_cases q:v=d.2.1
      · subst q
        refine ⟨d,hd,rfl,?_,?_⟩
        · rw [hset,if_neg hgd.2.2.1];exact ht'.1
        · rw [hset,hset,if_pos rfl,if_neg hgd.2.2.1];exact Int.le_refl _
      · rw [if_neg q] at h0
        obtain ⟨e,e1,e2,e3,e4⟩:=h.sup v hv h0
        refine ⟨e,e1,e2,?_,?_⟩
        · rw [hset];split
          · omega
          · exact e3
        · rw [hset v,if_neg q,hset];split
          · rename_i z
            rw [z] at e3 e4
            omega
          · exact e4
  · have:Tm.relax x d=x:=by rw [Tm.relax,if_neg ht]
    rw [this];exact h
theorem Inv.round {n node:Nat} {es:List (Nat×Nat×Int)} (hg:∀e∈es,Good n e):∀{l:List (Nat×Nat×Int)} {x:List Int},(∀e∈l,e∈es)→Inv n node es x→Inv n node es (Tm.round l x)
  | [],_,_,h=>h
  | d::l,x,hl,h=>Inv.round hg (l:=l) (fun e he=>hl e (List.mem_cons_of_mem _ he)) (h.relax (hl d (List.mem_cons_self ..)) hg)
theorem Inv.iter {n node:Nat} {es:List (Nat×Nat×Int)} {x:List Int} (hg:∀e∈es,Good n e) (h:Inv n node es x):∀k,Inv n node es (iter es k x)
  | 0=>h
  | k+1=>Inv.round hg (fun _ he=>he) (Inv.iter hg h k)
theorem d00 {n:Nat} {es:List (Nat×Nat×Int)} {x:List Int} (hx:x.length=n) (hg:∀e∈es,Good n e) (v:Nat):∀(k d:Nat),le (at_ (iter es (k+d) x) v) (at_ (iter es k x) v)
  | k,0=>le_refl _
  | k,d+1=>by
    have hl:(iter es (k+d) x).length=n:=by
      have:∀m,(iter es m x).length=n:=by
        intro m
        induction m with
        | zero=>exact hx
        | succ m ih=>show (Tm.round es (iter es m x)).length=n;rw [c0k,ih]
      exact this _
    exact le_trans (c52 hl hg v) (d00 hx hg v k d)
theorem d1t {es:List (Nat×Nat×Int)} {x:List Int} {m:Nat} (h:Tm.round es (iter es m x)=iter es m x):∀d,iter es (m+d) x=iter es m x
  | 0=>rfl
  | d+1=>by show Tm.round es (iter es (m+d) x)=_;rw [d1t h d,h]
theorem d91 (s:Nat→Int) (hle:∀k d,le (s (k+d)) (s k)) (hlow:∀k,-1≤s k):∃m,∀d,s (m+d)=s m:=by
  have key:∀(N k:Nat),0≤s k→(s k).toNat=N→∃m,∀d,s (m+d)=s m:=by
    intro N
    induction N using Nat.strongRecOn with
    | _ N ih=>
      intro k h0 hN
      by_cases q:∀d,s (k+d)=s k
      · exact ⟨k,q⟩
      · obtain ⟨d,hd⟩:=Classical.not_forall.1 q
        have h1:=hle k d
        have h2:0≤s (k+d)∧s (k+d) < s k:=by unfold le at h1;omega
        exact ih (s (k+d)).toNat (by omega) (k+d) h2.1 rfl
  by_cases q:∃k,0≤s k
  · obtain ⟨k,hk⟩:=q
    exact key _ k hk rfl
  · refine ⟨0,fun d=> ?_⟩
    have h1:∀k,s k=-1:=fun k=>by
      have:=hlow k
      have h2:¬0≤s k:=fun z=>q ⟨k,z⟩
      omega
    rw [h1,h1]
theorem d6z (s:Nat→Nat→Int) (hle:∀v k d,le (s (k+d) v) (s k v)) (hlow:∀v k,-1≤s k v):∀n,∃m,∀v,v < n→∀d,s (m+d) v=s m v
  | 0=>⟨0,fun v h=>absurd h (Nat.not_lt_zero _)⟩
  | n + 1=>by
    obtain ⟨m,hm⟩:=d6z s hle hlow n
    obtain ⟨m',hm'⟩:=d91 (fun k=>s k n) (hle n) (hlow n)
    refine ⟨m+m',fun v hv d=> ?_⟩
    by_cases q:v=n
    · subst q
      have h1:=hm' (m+d);have h2:=hm' m
      rw [show m+m'+d=m'+(m+d) by omega,show m+m'=m'+m by omega]
      exact h1.trans h2.symm
    · have hv':v < n:=by omega
      rw [show m+m'+d=m+(m'+d) by omega,hm v hv',hm v hv']
theorem ext {x y:List Int} (hl:x.length=y.length) (h:∀v,v < x.length→at_ x v=at_ y v):x=y:=by
  apply List.ext_getElem hl
  intro v h1 h2
  have:=h v h1
  simpa [at_,List.getD_eq_getElem?_getD,h1,h2] using this
theorem d8a {n node:Nat} {es:List (Nat×Nat×Int)} {x:List Int} (hg:∀e∈es,Good n e) (h:Inv n node es x):∃m,round es (iter es m x)=iter es m x:=by
  obtain ⟨m,hm⟩:=d6z (fun k v=>at_ (iter es k x) v) (fun v k d=>d00 h.len hg v k d) (fun v k=>(h.iter hg k).low v) n
  refine ⟨m,ext (c0k ..) fun v hv=> ?_⟩
  rw [c0k,(h.iter hg m).len] at hv
  exact hm v hv 1
theorem d5n {l:List Nat} {p q:Nat→Bool} (hpq:∀v,q v=true→p v=true):(l.filter q).length≤(l.filter p).length:=by
  induction l with
  | nil=>simp
  | cons a l ih=>
    rw [List.filter_cons,List.filter_cons]
    by_cases hq:q a=true
    · rw [if_pos hq,if_pos (hpq a hq)];simp;exact ih
    · rw [if_neg hq];split
      · simp;omega
      · exact ih
theorem f1n {l:List Nat} {p q:Nat→Bool} (hpq:∀v,q v=true→p v=true) {v:Nat} (hv:v∈l) (hp:p v=true) (hq:q v=false):(l.filter q).length < (l.filter p).length:=by
  induction l with
  | nil=>cases hv
  | cons a l ih=>
    rw [List.filter_cons,List.filter_cons]
    rcases List.mem_cons.1 hv with rfl | h
    · rw [if_pos hp,if_neg (by simp [hq])]
      have:=d5n (l:=l) hpq
      simp;omega
    · have:=ih h
      by_cases hqa:q a=true
      · rw [if_pos hqa,if_pos (hpq a hqa)];simp;exact this
      · rw [if_neg hqa];split
        · simp;omega
        · exact this
theorem f67 {n node:Nat} {es:List (Nat×Nat×Int)} {x:List Int} (hg:∀e∈es,Good n e) (h:Inv n node es x):round es (iter es n x)=iter es n x:=by
  obtain ⟨m,hm⟩:=d8a hg h
  let f:=iter es m x
  have hf:Inv n node es f:=h.iter hg m
  have hfx:∀k v,le (at_ f v) (at_ (iter es k x) v):=by
    intro k v
    rcases Nat.le_total k m with q | q
    · obtain ⟨d,rfl⟩:=Nat.le.dest q
      exact d00 h.len hg v k d
    · obtain ⟨d,rfl⟩:=Nat.le.dest q
      rw [d1t hm d];exact le_refl _
  let bad:Nat→Nat→Bool:=fun k v=> !decide (at_ (iter es k x) v=at_ f v)
  have keep:∀k v,bad (k+1) v=true→bad k v=true:=by
    intro k v hb
    simp only [bad,Bool.not_eq_true',decide_eq_false_iff_not] at hb⊢
    intro q
    have h1:=hfx (k+1) v
    have h2:=d00 h.len hg v k 1
    rw [q] at h2
    exact hb (c7w h2 h1 ((h.iter hg _).low v) (hf.low v))
  have step:∀k (N v:Nat),bad k v=true→v < n→(at_ f v).toNat=N→∃v',v' < n∧bad k v'=true∧bad (k+1) v'=false:=by
    intro k N
    induction N using Nat.strongRecOn with
    | _ N ih=>
      intro v hb hv hN
      have hb':=hb
      simp only [bad,Bool.not_eq_true',decide_eq_false_iff_not] at hb'
      have hxk:=h.iter hg k
      have hne:v≠node:=by intro q;subst q;exact hb' (by rw [hxk.src,hf.src])
      have h0:0≤at_ f v:=by
        have h1:=hfx k v
        have h2:=hxk.low v
        have h3:=hf.low v
        unfold le at h1;omega
      obtain ⟨e,he,he1,he2,he3⟩:=hf.sup v hne h0
      have hw:=(hg e he).2.2.2
      by_cases q:bad k e.1=true
      · exact ih (at_ f e.1).toNat (by omega) e.1 q (hg e he).1 rfl
      · have q':at_ (iter es k x) e.1=at_ f e.1:=by
          cases z:decide (at_ (iter es k x) e.1=at_ f e.1) with
          | true=>exact of_decide_eq_true z
          | false=>exact absurd (by simp only [bad,z];rfl) q
        refine ⟨v,hv,hb,?_⟩
        have h1:=c9z hxk.len hg he (by rw [q'];exact he2)
        rw [he1,q'] at h1
        have h2:=hfx (k+1) v
        have h3:le (at_ (iter es (k+1) x) v) (at_ f v):=by
          show le (at_ (round es (iter es k x)) v) _
          unfold le at h1⊢;omega
        simp only [bad,Bool.not_eq_false',decide_eq_true_eq]
        exact c7w h3 h2 ((h.iter hg _).low v) (hf.low v)
  have count:∀k,((List.range n).filter (bad k)).length≤n - k:=by
    intro k
    induction k with
    | zero=>have:=List.length_filter_le (bad 0) (List.range n);simpa using this
    | succ k ih=>
      by_cases q:∃v,v < n∧bad k v=true
      · obtain ⟨v,hv,hb⟩:=q
        obtain ⟨v',h1,h2,h3⟩:=step k _ v hb hv rfl
        have:=f1n (keep k) (List.mem_range.2 h1) h2 h3
        omega
      · have:(List.range n).filter (bad (k+1))=[]:=by
          rw [List.filter_eq_nil_iff]
          intro v hv hb
          exact q ⟨v,List.mem_range.1 hv,keep k v hb⟩
        rw [this];exact Nat.zero_le _
  have hn:∀v,v < n→at_ (iter es n x) v=at_ f v:=by
    intro v hv
    have h0:=count n
    rw [Nat.sub_self] at h0
    have h1:(List.range n).filter (bad n)=[]:=List.length_eq_zero_iff.1 (by omega)
    rw [List.filter_eq_nil_iff] at h1
    have:=h1 v (List.mem_range.2 hv)
    simpa [bad] using this
  have e:iter es n x=f:=ext (by rw [(h.iter hg n).len,hf.len]) fun v hv=>hn v (by rwa [(h.iter hg n).len] at hv)
  rw [e];exact hm
end Tm
namespace Tm
theorem d9k {es:List (Nat×Nat×Int)} {x:List Int} {j:Nat} {e:Nat×Nat×Int} (h:es[j]? =some e):round (es.take (j+1)) x=relax (round (es.take j) x) e:=by
  rw [round,List.take_add_one,h,List.foldl_append];rfl
theorem f2h {es:List (Nat×Nat×Int)} {x:List Int} {j:Nat} (h:es.length≤j):round (es.take j) x=round es x:=by rw [List.take_of_length_le h]
def d4g:List Int→List (Nat×Nat×Int)→Bool
  | _,[]=>false
  | x,e::es=>trig x e || d4g (relax x e) es
theorem f58 (es fs:List (Nat×Nat×Int)):∀x:List Int,d4g x (es++fs)=(d4g x es || d4g (round es x) fs):=by
  induction es with
  | nil=>intro x;rfl
  | cons e es ih=>intro x;rw [List.cons_append,d4g,ih,d4g,Bool.or_assoc];rfl
theorem f3s {es:List (Nat×Nat×Int)} {x:List Int} {j:Nat} {e:Nat×Nat×Int} (h:es[j]? =some e):d4g x (es.take (j+1))=(d4g x (es.take j) || trig (round (es.take j) x) e):=by
  rw [List.take_add_one,h,f58,Option.toList,d4g,d4g,Bool.or_false]
theorem f5g:∀{es:List (Nat×Nat×Int)} {x:List Int},d4g x es=false→round es x=x
  | [],_,_=>rfl
  | e::es,x,h=>by
    rw [d4g,Bool.or_eq_false_iff] at h
    have hr:relax x e=x:=by rw [relax,if_neg (by rw [h.1];decide)]
    show round es (relax x e)=x
    rw [hr] at h⊢
    exact f5g h.2
theorem f2y {n:Nat}:∀{es:List (Nat×Nat×Int)} {x:List Int},x.length=n→(∀v,-1≤at_ x v)→(∀e∈es,Good n e)→round es x=x→d4g x es=false
  | [],_,_,_,_,_=>rfl
  | e ::es,x,hx,hlow,he,h=>by
    have hg:=he e (List.mem_cons_self ..)
    have hes:∀e∈es,Good n e:=fun e' h'=>he e' (List.mem_cons_of_mem _ h')
    have ht:trig x e=false:=by
      cases q:trig x e with
      | false=>rfl
      | true=>
        exfalso
        have h1:=c52 (es:=es) (x:=relax x e) (by rw [b8r,hx]) hes e.2.1
        have h2:round es (relax x e)=x:=h
        rw [h2] at h1
        have h3:at_ (relax x e) e.2.1=at_ x e.1+e.2.2:=by rw [relax,if_pos q,c88 _ _ _ _ (by rw [hx];exact hg.2.1),if_pos rfl]
        rw [h3] at h1
        simp only [trig,Bool.and_eq_true,Bool.or_eq_true,decide_eq_true_eq] at q
        have hw:=hg.2.2.2
        unfold le at h1
        omega
    have hr:relax x e=x:=by rw [relax,if_neg (by rw [ht];decide)]
    rw [d4g,ht,Bool.false_or,hr]
    have h2:round es (relax x e)=x:=h
    rw [hr] at h2
    exact f2y hx hlow hes h2
def Ub (b:Int) (x:List Int):Prop:=∀v,at_ x v≤b
theorem Ub.relax {n:Nat} {b:Int} {x:List Int} {e:Nat×Nat×Int} (h:Ub b x) (hx:x.length=n) (hg:Good n e) (hw:e.2.2≤3600):Ub (b+3600) (relax x e):=by
  intro v
  have h1:=h v
  have h2:=h e.1
  unfold Tm.relax
  split
  · rw [c88 _ _ _ _ (by rw [hx];exact hg.2.1)];split<;>omega
  · omega
theorem Ub.round {n:Nat}:∀{es:List (Nat×Nat×Int)} {b:Int} {x:List Int},Ub b x→x.length=n→(∀e∈es,Good n e∧e.2.2≤3600)→Ub (b+3600 * es.length) (round es x)
  | [],b,x,h,_,_=>by
    intro v
    have:=h v
    show at_ x v≤_
    simp only [List.length_nil];omega
  | e::es,b,x,h,hx,hg=>by
    have h1:=h.relax hx (hg e (List.mem_cons_self ..)).1 (hg e (List.mem_cons_self ..)).2
    have h2:=Ub.round h1 (by rw [b8r,hx]) (fun e' h'=>hg e' (List.mem_cons_of_mem _ h'))
    intro v
    have:=h2 v
    show at_ (Tm.round es (Tm.relax x e)) v≤_
    simp only [List.length_cons];omega
theorem iter_len {es:List (Nat×Nat×Int)} {x:List Int} {n:Nat} (hx:x.length=n):∀k,(iter es k x).length=n
  | 0=>hx
  | k+1=>by show (Tm.round es (iter es k x)).length=n;rw [c0k,iter_len hx k]
theorem Ub.iter {n:Nat} {es:List (Nat×Nat×Int)} {x:List Int} (h:Ub 0 x) (hx:x.length=n) (hg:∀e∈es,Good n e∧e.2.2≤3600) (hl:es.length≤80):∀k:Nat,Ub (288000 * k) (Tm.iter es k x)
  | 0=>by intro v;have:=h v;show at_ x v≤_;omega
  | k+1=>by
    intro v
    have:=Ub.round (Ub.iter h hx hg hl k) (iter_len hx k) hg v
    show at_ (Tm.round es (Tm.iter es k x)) v≤_
    omega
def start (n node:Nat):List Int:=(List.replicate n (-1)).set node 0
theorem start_len (n node:Nat):(start n node).length=n:=by simp [start]
theorem c55 {n node:Nat} (h:node < n) (v:Nat):at_ (start n node) v=if v=node then 0 else -1:=by
  rw [start,c88 _ _ _ _ (by simp [h])]
  split
  · rfl
  · unfold at_
    rw [List.getD_eq_getElem?_getD,List.getElem?_replicate]
    split<;>rfl
theorem d25 {n node:Nat} {es:List (Nat×Nat×Int)} (h:node < n):Inv n node es (start n node):=by
  refine ⟨start_len ..,by rw [c55 h,if_pos rfl],fun v=> ?_,fun v hv h0=> ?_⟩
  · rw [c55 h];split<;>omega
  · rw [c55 h,if_neg hv] at h0;omega
theorem f3j {n node:Nat} (h:node < n):Ub 0 (start n node):=by
  intro v;rw [c55 h];split<;>omega
def within (n node:Nat) (es:List (Nat×Nat×Int)) (k j:Nat):List Int:=round (es.take j) (iter es k (start n node))
theorem within_facts {n node:Nat} {es:List (Nat×Nat×Int)} (h:node < n) (hg:∀e∈es,Good n e∧e.2.2≤3600) (hl:es.length≤80) (k j:Nat) (hk:k≤15):(within n node es k j).length=n∧∀v,-1≤at_ (within n node es k j) v∧at_ (within n node es k j) v≤4608000:=by
  have hg1:∀e∈es,Good n e:=fun e he=>(hg e he).1
  have hi:=(d25 (es:=es) h).iter hg1 k
  refine ⟨by rw [within,c0k,iter_len (start_len ..)],fun v=>⟨(Inv.round hg1 (l:=es.take j) (fun e he=>List.mem_of_mem_take he) hi).low v,?_⟩⟩
  have h1:=Ub.round (es:=es.take j) (Ub.iter (f3j h) (start_len ..) hg hl k) (iter_len (start_len ..) k) (fun e he=>hg e (List.mem_of_mem_take he)) v
  have h2:(es.take j).length≤80:=by rw [List.length_take];omega
  rw [within]
  omega
theorem within_end {n node:Nat} {es:List (Nat×Nat×Int)} {k j:Nat} (h:es.length≤j):within n node es k j=iter es (k+1) (start n node):=by rw [within,f2h h];rfl
theorem within_step {n node:Nat} {es:List (Nat×Nat×Int)} {k j:Nat} {e:Nat×Nat×Int} (h:es[j]? =some e):within n node es k (j+1)=relax (within n node es k j) e:=d9k h
def chg (n node:Nat) (es:List (Nat×Nat×Int)) (k j:Nat):Bool:=d4g (iter es k (start n node)) (es.take j)
theorem chg_next {n node:Nat} {es:List (Nat×Nat×Int)} {k j:Nat} {e:Nat×Nat×Int} (h:es[j]? =some e):chg n node es k (j+1)=(chg n node es k j || trig (within n node es k j) e):=f3s h
theorem relax_yes {x:List Int} {u v:Nat} {w a b:Int} (hu:x[u]? =some a) (hv:x[v]? =some b) (h:0≤a∧(b < 0∨a+w < b)):trig x (u,v,w)=true∧relax x (u,v,w)=x.set v (a+w):=by
  have h1:at_ x u=a:=by rw [at_,List.getD_eq_getElem?_getD,hu];rfl
  have h2:at_ x v=b:=by rw [at_,List.getD_eq_getElem?_getD,hv];rfl
  have ht:trig x (u,v,w)=true:=by simp only [trig,h1,h2,Bool.and_eq_true,Bool.or_eq_true,decide_eq_true_eq];exact h
  exact ⟨ht,by rw [relax,if_pos ht,h1]⟩
theorem relax_no {x:List Int} {u v:Nat} {w a b:Int} (hu:x[u]? =some a) (hv:x[v]? =some b) (h:¬(0≤a∧(b < 0∨a+w < b))):trig x (u,v,w)=false∧relax x (u,v,w)=x:=by
  have h1:at_ x u=a:=by rw [at_,List.getD_eq_getElem?_getD,hu];rfl
  have h2:at_ x v=b:=by rw [at_,List.getD_eq_getElem?_getD,hv];rfl
  have ht:trig x (u,v,w)=false:=by
    rw [Bool.eq_false_iff]
    intro q
    simp only [trig,h1,h2,Bool.and_eq_true,Bool.or_eq_true,decide_eq_true_eq] at q
    exact h q
  exact ⟨ht,by rw [relax,if_neg (by rw [ht];decide)]⟩
theorem at_get {x:List Int} {v:Nat} {a:Int} (h:x[v]? =some a):at_ x v=a:=by rw [at_,List.getD_eq_getElem?_getD,h];rfl
theorem end_of {n node:Nat} {es:List (Nat×Nat×Int)} {k:Nat} (h:node < n) (hg:∀e∈es,Good n e) (hk:k≤n) :
    (chg n node es k es.length=true→k+1≤n)∧(chg n node es k es.length=false→iter es (k+1) (start n node)=iter es n (start n node)):=by
  have hi:=d25 (es:=es) h
  rw [chg,List.take_length]
  constructor
  · intro hc
    rcases Nat.lt_or_ge k n with q | q
    · omega
    · have e:k=n:=by omega
      rw [e,f2y (n:=n) (iter_len (start_len ..) _) (hi.iter hg _).low hg (f67 hg hi)] at hc
      cases hc
  · intro hc
    have h1:=f5g hc
    obtain ⟨d,rfl⟩:=Nat.le.dest hk
    rw [d1t h1 d]
    exact h1
def edges (ss:List TS):List (Nat×Nat×Int):=ss.flatMap fun s=>[(s.1.toNat,s.2.1.toNat,s.2.2),(s.2.1.toNat,s.1.toNat,s.2.2)]
theorem edges_len:∀ss:List TS,(edges ss).length=2 * ss.length
  | []=>rfl
  | s::ss=>by
    have:=edges_len ss
    rw [edges,List.flatMap_cons,List.length_append,←edges,this]
    simp;omega
theorem edges_at:∀{ss:List TS} {i:Nat} {s:TS},ss[i]? =some s→(edges ss)[2 * i]? =some (s.1.toNat,s.2.1.toNat,s.2.2)∧(edges ss)[2 * i+1]? =some (s.2.1.toNat,s.1.toNat,s.2.2)
  | [],i,s,h=>by simp at h
  | t::ss,0,s,h=>by
    obtain rfl:t=s:=by simpa using h
    rw [edges,List.flatMap_cons]
    exact ⟨rfl,rfl⟩
  | t::ss,i+1,s,h=>by
    have h':ss[i]? =some s:=by simpa using h
    obtain ⟨h1,h2⟩:=edges_at h'
    rw [edges,List.flatMap_cons,←edges]
    exact ⟨by rw [show 2 * (i+1)=2 * i+2 by omega,List.getElem?_append_right (by simp)];simpa using h1,by rw [show 2 * (i+1)+1=2 * i+1+2 by omega,List.getElem?_append_right (by simp)];simpa using h2⟩
theorem edges_mem {ss:List TS} {e:Nat×Nat×Int} (h:e∈edges ss):∃s∈ss,e=(s.1.toNat,s.2.1.toNat,s.2.2)∨e=(s.2.1.toNat,s.1.toNat,s.2.2):=by
  obtain ⟨s,hs,he⟩:=List.mem_flatMap.1 h
  exact ⟨s,hs,by simpa using he⟩
def times (n:Nat) (ss:List TS) (node:Nat):List Int:=iter (edges ss) n (start n node)
end Tm
theorem d07 (n:Int) (ll:List TS) (hn:0≤n∧n≤1048576) (hl:ll.length≤9223372036854775807):Con Tryz.prog 50 [.sl (ll.map (fun t:TS=>V.agg [V.int .i64 t.1,V.int .i64 t.2.1,V.int .i64 t.2.2])),.int .i64 n] [] (.int .i64 (if n - ll.length < 0 then -1 else n - ll.length)) []:=by
 refine b05 [.tmp 4] [] Tryz.func50 rfl rfl rfl (by simp [Tryz.ntmps50]) ?_
 intro Q0 n0 r0
 simp only [Tryz.ntmps50,b0l,Nat.reduceAdd]
 have T:=Tys.mk (ai Ty.t3 (ai Ty.t22 Ty.t171))
 have F:=Fc.mk True.intro
 refine yR [0,1] ⟨?_⟩;refine yR [1] ⟨?_⟩;refine b0c ?_;intros;refine yR [1,10] ⟨?_⟩;refine b0d _ rfl ?_ ?_
 ·intro hc0
  refine yR [4] ⟨?_⟩;refine zr ⟨?_⟩
  exact b0a rfl (by rw [if_pos (by omega)]) (.inl rfl)
 ·intro hc0
  refine zn [1] ⟨?_⟩;refine yR [4] ⟨?_⟩;refine zr ⟨?_⟩
  exact b0a rfl (by rw [if_neg (by omega)]) (.inl rfl)
theorem d4f (x0:Int) (x1:Int) (x2:Int):Con Tryz.prog 125 [.agg [V.int .i64 x0,V.int .i64 x1,V.int .i64 x2]] [] (.agg [V.int .i64 x0,V.int .i64 x1,V.int .i64 x2]) []:=by
 refine b05 [.cell 2 169] [] Tryz.func125 rfl rfl rfl (by simp [Tryz.ntmps125]) ?_
 intro Q0 n0 r0
 simp only [Tryz.ntmps125,b0l,Nat.reduceAdd]
 have T:=Tys.mk (ai Ty.t3 (ai Ty.t169 Ty.t171))
 have F:=Fc.mk True.intro
 refine yR [1,2] ⟨?_⟩;refine yR [1,2,3] ⟨?_⟩;refine yR [1,2,3] ⟨?_⟩;refine yR [1,2,3] ⟨?_⟩;refine yR [2,3] ⟨?_⟩;refine yR [2] ⟨?_⟩;refine zq3 ⟨?_⟩
 exact b0a rfl (by first | rfl | simp) (.inl rfl)
theorem d1r (l:List TS) (hl:l.length≤1048576):Con Tryz.prog 60 [.sl (l.map (fun t:TS=>V.agg [V.int .i64 t.1,V.int .i64 t.2.1,V.int .i64 t.2.2]))] [] (.ref 0) [.arr (l.map (fun t:TS=>V.agg [V.int .i64 t.1,V.int .i64 t.2.1,V.int .i64 t.2.2])) .flat]:=by
 refine b05 [.tmp 2] [] Tryz.func60 rfl rfl rfl (by simp [Tryz.ntmps60]) ?_
 intro Q0 n0 r0
 simp only [Tryz.ntmps60,b0l,Nat.reduceAdd]
 have T:=Tys.mk (ai Ty.t3 (ai Ty.t22 (ai Ty.t39 (ai Ty.t169 Ty.t171))))
 have F:=Fc.mk True.intro
 refine yR [0] ⟨?_⟩;refine yR [0,3] ⟨?_⟩;refine b0c ?_;intros;refine yR [0,3,4] ⟨?_⟩;refine b0g ?_;intros;refine b08 (fun i=>⟨[(0,.sl (l.map (fun t:TS=>V.agg [V.int .i64 t.1,V.int .i64 t.2.1,V.int .i64 t.2.2]))),(3,.ref 0),(4,.int .i64 (Nat.cast i))],[.arr (b4z (fun t:TS=>V.agg [V.int .i64 t.1,V.int .i64 t.2.1,V.int .i64 t.2.2]) (V.agg [V.int .i64 0,V.int .i64 0,V.int .i64 0]) l i) .flat],false,23,0⟩) (fun i=>i≤l.length) (fun i=>l.length - i) 0 ?_ ?_ ?_
 ·refine b0b [0,3,4] [1] ⟨?_⟩
  rw [b7c];rfl
 ·exact Nat.zero_le _
 ·rintro i hok6 Q6 n6 e6 r6
  have hi1:i≤l.length:=hok6
  refine b0c ?_;intros;refine yR [0,3,4,11] ⟨?_⟩;refine b0d _ rfl ?_ ?_
  ·intro hc0
   have hlt:i < l.length:=by omega
   obtain ⟨⟨x0,x1,x2⟩,hx⟩:∃x:TS,l[i]? =some x:=⟨l[i]'(by omega),List.getElem?_eq_getElem (by omega)⟩
   refine zn [0,3,4] ⟨?_⟩;refine b0c ?_;intros;refine b0g ?_;intros
   have F:=Fc.mk (ai (gdm hx) (ai (fun f z=>b9c (f:=f) (z:=z) hi1) (ai (fun f z=>b9i (f:=f) (z:=z) hlt) (fun f z=>b9e (f:=f) (z:=z) hx))))
   refine yQc [0,3,4] (d4f x0 x1 x2) ⟨?_⟩;refine yV ⟨?_⟩;refine n6 _ (i+1) ?_ ?_ ?_
   ·refine b0b [0,3,4] [0] ⟨?_⟩
    rfl
   ·exact hlt
   ·show _ < _;omega
  ·intro hc0
   refine zn [3] ⟨?_⟩;refine yR [2] ⟨?_⟩;refine zr ⟨?_⟩
   rw [←b87 (f:=(fun t:TS=>V.agg [V.int .i64 t.1,V.int .i64 t.2.1,V.int .i64 t.2.2])) (z:=(V.agg [V.int .i64 0,V.int .i64 0,V.int .i64 0])) (show l.length≤i by omega)]
   exact b9p rfl (.inl rfl)
theorem d3n (x0:Int) (x1:Int) (x2:Int) (y0:Int) (y1:Int) (y2:Int):Con Tryz.prog 148 [.agg [V.int .i64 x0,V.int .i64 x1,V.int .i64 x2],.agg [V.int .i64 y0,V.int .i64 y1,V.int .i64 y2]] [] (.bool (decide ((x0,x1,x2)=(y0,y1,y2)))) []:=by
 refine b05 [.tmp 4] [] Tryz.func148 rfl rfl rfl (by simp [Tryz.ntmps148]) ?_
 intro Q0 n0 r0
 simp only [Tryz.ntmps148,b0l,Nat.reduceAdd]
 have T:=Tys.mk (ai Ty.t3 Ty.t169)
 have F:=Fc.mk True.intro
 refine yR [2,3] ⟨?_⟩;refine b0c ?_;intros;refine yR [2,3,9] ⟨?_⟩;refine b0d _ rfl ?_ ?_
 ·intro hc0
  refine yR [4] ⟨?_⟩;refine zr ⟨?_⟩
  exact b0a rfl (by rw [decide_eq_false (by intro h;simp only [Prod.mk.injEq] at h;exact hc0 h.1)]) (.inl rfl)
 ·intro hc0
  refine zn [2,3] ⟨?_⟩;refine b0c ?_;intros;refine yR [2,3,14] ⟨?_⟩;refine b0d _ rfl ?_ ?_
  ·intro hc1
   refine yR [4] ⟨?_⟩;refine zr ⟨?_⟩
   exact b0a rfl (by rw [decide_eq_false (by intro h;simp only [Prod.mk.injEq] at h;exact hc1 h.2.1)]) (.inl rfl)
  ·intro hc1
   refine zn [2,3] ⟨?_⟩;refine b0c ?_;intros;refine yR [19] ⟨?_⟩;refine b0d _ rfl ?_ ?_
   ·intro hc2
    refine yR [4] ⟨?_⟩;refine zr ⟨?_⟩
    exact b0a rfl (by rw [decide_eq_false (by intro h;simp only [Prod.mk.injEq] at h;exact hc2 h.2.2)]) (.inl rfl)
   ·intro hc2
    refine zn [] ⟨?_⟩;refine yR [4] ⟨?_⟩;refine zr ⟨?_⟩
    exact b0a rfl (by rw [decide_eq_true (by rw [hc0,hc1,hc2])]) (.inl rfl)
theorem d05 (a b:List TS) (ha:a.length≤1048576):Con Tryz.prog 74 [.sl (a.map (fun t:TS=>V.agg [V.int .i64 t.1,V.int .i64 t.2.1,V.int .i64 t.2.2])),.sl (b.map (fun t:TS=>V.agg [V.int .i64 t.1,V.int .i64 t.2.1,V.int .i64 t.2.2]))] [] (.bool (decide (a=b))) []:=by
 refine b05 [.tmp 4] [] Tryz.func74 rfl rfl rfl (by simp [Tryz.ntmps74]) ?_
 intro Q0 n0 r0
 simp only [Tryz.ntmps74,b0l,Nat.reduceAdd]
 have T:=Tys.mk (ai Ty.t3 (ai Ty.t4 (ai Ty.t39 Ty.t169)))
 have F:=Fc.mk True.intro
 refine yR [0,1] ⟨?_⟩;refine b0c ?_;intros;refine yR [0,1,10] ⟨?_⟩;refine b0d _ rfl ?_ ?_
 ·intro hc0
  refine yR [4] ⟨?_⟩;refine zr ⟨?_⟩
  exact b0a rfl (by rw [decide_eq_false (fun h=>by subst h;simp at hc0)]) (.inl rfl)
 ·intro hc0
  have hab:a.length=b.length:=by omega
  refine zn [0,1] ⟨?_⟩;refine b0c ?_;intros;refine yR [0,1,5] ⟨?_⟩;refine b0g ?_;intros;refine b08 (fun i=>⟨[(0,.sl (a.map (fun t:TS=>V.agg [V.int .i64 t.1,V.int .i64 t.2.1,V.int .i64 t.2.2]))),(1,.sl (b.map (fun t:TS=>V.agg [V.int .i64 t.1,V.int .i64 t.2.1,V.int .i64 t.2.2]))),(5,.int .i64 (Nat.cast i))],[],false,27,0⟩) (fun i=>i≤a.length∧((a=b)↔(a.drop i=b.drop i))) (fun i=>a.length - i) 0 ?_ ?_ ?_
  ·refine b1a [0,1,5] ?_
   simp only [b0s,b0k,b0h,b0i,b0n,Nat.reduceEqDiff,reduceIte]
   rfl
  ·exact ⟨Nat.zero_le _,by simp⟩
  ·rintro i hok9 Q9 n9 e9 r9
   obtain ⟨hi1,hR⟩:=hok9
   refine b0c ?_;intros;refine yR [0,1,5,14] ⟨?_⟩;refine b0d _ rfl ?_ ?_
   ·intro hc1
    have hlt:i < a.length:=by omega
    obtain ⟨⟨x0,x1,x2⟩,hx⟩:∃x:TS,a[i]? =some x:=⟨a[i]'(by omega),List.getElem?_eq_getElem (by omega)⟩
    obtain ⟨⟨y0,y1,y2⟩,hy⟩:∃x:TS,b[i]? =some x:=⟨b[i]'(by omega),List.getElem?_eq_getElem (by omega)⟩
    have hstep:=c2b hab hx hy
    refine zn [0,1,5] ⟨?_⟩;refine b0c ?_;intros;refine b0g ?_;intros;refine b0c ?_;intro Q15 n15 e15 r15;refine b1p (by kernel_rfl) ?_;intro K16 q16 k16
    show b14 _ _ _ _ 10 (Array.replicate 10 false) _
    have F:=Fc.mk (ai (gdm hx) (gdm hy))
    refine b0o q16 true 0 17 ?_;refine b0o q16 true 1 18 ?_;refine b07 q16 true 2 19 ?_;refine b1h q16 true 3 20 ?_;refine b0o q16 true 4 21 ?_;refine b0o q16 true 5 22 ?_;refine b07 q16 true 6 23 ?_;refine b1h q16 true 7 24 ?_;refine zoc 8 (d3n x0 x1 x2 y0 y1 y2) ⟨?_⟩;refine b5q q16 true 9 26 ?_;refine b0j (by kernel_rfl) ?_;refine k16 _ ?_;refine n15 _ _ (b0f [0,1,5,26] _) ?_;refine zk ⟨?_⟩;refine b0d _ rfl ?_ ?_
    ·intro hc2
     refine yR [4] ⟨?_⟩;refine zr ⟨?_⟩
     exact b0a rfl (by rw [decide_eq_false (fun h=>hc2 (hstep.1 (hR.1 h)).1)]) (.inl rfl)
    ·intro hc2
     refine zn [0,1,5] ⟨?_⟩;refine yV ⟨?_⟩;refine n9 _ (i+1) ?_ ?_ ?_
     ·refine b1a [0,1,5] ?_
      simp only [b0s,b0k,b0h,b0i,b0n,Nat.reduceEqDiff,reduceIte]
      rfl
     ·exact ⟨by omega,hR.trans (hstep.trans ⟨fun h=>h.2,fun h=>⟨hc2,h⟩⟩)⟩
     ·show _ < _;omega
   ·intro hc1
    refine zn [] ⟨?_⟩;refine yR [4] ⟨?_⟩;refine zr ⟨?_⟩
    exact b0a rfl (by rw [decide_eq_true (hR.2 (by rw [List.drop_of_length_le (by omega),List.drop_of_length_le (by omega)]))]) (.inl rfl)
def b04 (n:Int) (t:TA):Int:=(if (n - (t.1.size:Int)) < 0 then -1 else (n - (t.1.size:Int)))
theorem b7t (n:Int) (t:TA) (hn:0≤n):b04 n t≤n:=by
  unfold b04
  repeat' split
  all_goals omega
theorem c6g (x0:ByteArray) (x1:Int) (x2:Int) (x3:Int) (x4:Int) (n:Int) (hn:0≤n∧n≤1048576) (hs0:x0.size≤9223372036854775807):Con Tryz.prog 116 [.agg [V.str x0,V.int .i64 x1,V.int .i64 x2,V.int .i64 x3,V.int .i64 x4],.int .i64 n] [] (.int .i64 (b04 n (x0,x1,x2,x3,x4))) []:=by
 refine b05 [.tmp 4] [] Tryz.func116 rfl rfl rfl (by simp [Tryz.ntmps116]) ?_
 intro Q0 n0 r0
 simp only [Tryz.ntmps116,b0l,Nat.reduceAdd]
 have T:=Tys.mk (ai Ty.t3 (ai Ty.t9 Ty.t158))
 have F:=Fc.mk True.intro
 refine yR [1,2] ⟨?_⟩;refine yR [1] ⟨?_⟩;refine b0c ?_;intros;refine yR [1,11] ⟨?_⟩;refine b0d _ rfl ?_ ?_
 ·intro hc0
  refine yR [4] ⟨?_⟩;refine zr ⟨?_⟩
  exact b0a rfl (by simp only [b04];repeat (first | rw [if_pos (by omega)] | rw [if_neg (by omega)])) (.inl rfl)
 ·intro hc0
  refine zn [1] ⟨?_⟩;refine yR [4] ⟨?_⟩;refine zr ⟨?_⟩
  exact b0a rfl (by simp only [b04];repeat (first | rw [if_pos (by omega)] | rw [if_neg (by omega)])) (.inl rfl)
theorem szApplianceS_con (n:Int) (ll:List TA) (hn:0≤n∧n≤1048576) (hl:ll.length≤9223372036854775807) (hls:∀t∈ll,t.1.size≤9223372036854775807):Con Tryz.prog 51 [.sl (ll.map (fun t:TA=>V.agg [V.str t.1,V.int .i64 t.2.1,V.int .i64 t.2.2.1,V.int .i64 t.2.2.2.1,V.int .i64 t.2.2.2.2])),.int .i64 n] [] (.int .i64 (if n - ll.length < 0 then -1 else b28 b04 (n - ll.length) ll)) []:=by
 refine b05 [.tmp 4] [] Tryz.func51 rfl rfl rfl (by simp [Tryz.ntmps51]) ?_
 intro Q0 n0 r0
 simp only [Tryz.ntmps51,b0l,Nat.reduceAdd]
 have T:=Tys.mk (ai Ty.t3 (ai Ty.t9 (ai Ty.t25 Ty.t158)))
 have F:=Fc.mk True.intro
 refine yR [0,1] ⟨?_⟩;refine yR [0,1] ⟨?_⟩;refine b0c ?_;intros;refine yR [0,1,11] ⟨?_⟩;refine b0d _ rfl ?_ ?_
 ·intro hc0
  refine yR [4] ⟨?_⟩;refine zr ⟨?_⟩
  exact b0a rfl (by rw [if_pos (by omega)]) (.inl rfl)
 ·intro hc0
  refine zn [0,1] ⟨?_⟩;refine b0c ?_;intros;refine yR [0,1,5] ⟨?_⟩;refine b0g ?_;intros;refine b08 (fun p=>⟨[(0,.sl (ll.map (fun t:TA=>V.agg [V.str t.1,V.int .i64 t.2.1,V.int .i64 t.2.2.1,V.int .i64 t.2.2.2.1,V.int .i64 t.2.2.2.2]))),(1,.int .i64 p.2),(5,.int .i64 (Nat.cast p.1))],[],false,27,0⟩) (fun p=>p.1≤ll.length∧0≤p.2∧p.2≤1048576∧b28 b04 p.2 (ll.drop p.1)=b28 b04 (n - ll.length) ll) (fun p=>ll.length - p.1) (0,n - ll.length) ?_ ?_ ?_
  ·refine b1a [0,1,5] ?_
   simp only [b0s,b0k,b0h,b0i,b0n,Nat.reduceEqDiff,reduceIte]
   rfl
  ·exact ⟨Nat.zero_le _,by omega,by omega,by simp⟩
  ·rintro ⟨i,m⟩ hok10 Q10 n10 e10 r10
   obtain ⟨hi1,hm0,hm1,hR⟩:=hok10
   simp only [] at hi1 hm0 hm1 hR⊢
   refine b0c ?_;intros;refine yR [0,1,5,15] ⟨?_⟩;refine b0d _ rfl ?_ ?_
   ·intro hc1
    have hlt:i < ll.length:=by omega
    obtain ⟨⟨x0,x1,x2,x3,x4⟩,hx⟩:∃x:TA,ll[i]? =some x:=⟨ll[i]'(by omega),List.getElem?_eq_getElem (by omega)⟩
    have hlx:=hls _ (List.mem_of_getElem? hx)
    have hstep:b28 b04 m (ll.drop i)=if b04 m (x0,x1,x2,x3,x4) < 0 then -1 else b28 b04 (b04 m (x0,x1,x2,x3,x4)) (ll.drop (i+1)):=by rw [b0r hx,b28]
    have hzle:=b7t m (x0,x1,x2,x3,x4) hm0
    refine zn [0,1,5] ⟨?_⟩;refine b0c ?_;intros;refine b0g ?_;intros
    have F:=Fc.mk (gdm hx)
    refine yRc [0,1,5] (c6g x0 x1 x2 x3 x4 m ⟨hm0,hm1⟩ (hlx)) ⟨?_⟩;refine yR [0,1,5,25] ⟨?_⟩;refine b0d _ rfl ?_ ?_
    ·intro hc2
     refine yR [4] ⟨?_⟩;refine zr ⟨?_⟩
     exact b0a rfl (by rw [if_neg (by omega),←hR,hstep,if_pos hc2]) (.inl rfl)
    ·intro hc2
     refine zn [0,1,5] ⟨?_⟩;refine yV ⟨?_⟩;refine n10 _ (i+1,b04 m (x0,x1,x2,x3,x4)) ?_ ?_ ?_
     ·refine b1a [0,1,5] ?_
      simp only [b0s,b0k,b0h,b0i,b0n,Nat.reduceEqDiff,reduceIte]
      rfl
     ·exact ⟨by simp only [];omega,by simp only [];omega,by simp only [];omega,by simp only [];rw [←hR,hstep,if_neg (by omega)]⟩
     ·show _ < _;simp only [];omega
   ·intro hc1
    refine zn [1] ⟨?_⟩;refine yR [4] ⟨?_⟩;refine zr ⟨?_⟩
    exact b0a rfl (by rw [if_neg (by omega),←hR,List.drop_of_length_le (by omega)];rfl) (.inl rfl)
theorem c8l (x0:ByteArray) (x1:Int) (x2:Int) (x3:Int) (x4:Int):Con Tryz.prog 126 [.agg [V.str x0,V.int .i64 x1,V.int .i64 x2,V.int .i64 x3,V.int .i64 x4]] [] (.agg [V.str x0,V.int .i64 x1,V.int .i64 x2,V.int .i64 x3,V.int .i64 x4]) []:=by
 refine b05 [.cell 2 96] [] Tryz.func126 rfl rfl rfl (by simp [Tryz.ntmps126]) ?_
 intro Q0 n0 r0
 simp only [Tryz.ntmps126,b0l,Nat.reduceAdd]
 have T:=Tys.mk (ai Ty.t3 (ai Ty.t9 (ai Ty.t96 Ty.t158)))
 have F:=Fc.mk True.intro
 refine yR [1,2] ⟨?_⟩;refine yR [1,2,3] ⟨?_⟩;refine yR [1,2,3] ⟨?_⟩;refine yR [1,2,3] ⟨?_⟩;refine yR [1,2,3] ⟨?_⟩;refine yR [1,2,3] ⟨?_⟩;refine yR [2,3] ⟨?_⟩;refine yR [2] ⟨?_⟩;refine zq3 ⟨?_⟩
 exact b0a rfl (by first | rfl | simp) (.inl rfl)
theorem c5o (l:List TA) (hl:l.length≤1048576):Con Tryz.prog 61 [.sl (l.map (fun t:TA=>V.agg [V.str t.1,V.int .i64 t.2.1,V.int .i64 t.2.2.1,V.int .i64 t.2.2.2.1,V.int .i64 t.2.2.2.2]))] [] (.ref 0) [.arr (l.map (fun t:TA=>V.agg [V.str t.1,V.int .i64 t.2.1,V.int .i64 t.2.2.1,V.int .i64 t.2.2.2.1,V.int .i64 t.2.2.2.2])) .flat]:=by
 refine b05 [.tmp 2] [] Tryz.func61 rfl rfl rfl (by simp [Tryz.ntmps61]) ?_
 intro Q0 n0 r0
 simp only [Tryz.ntmps61,b0l,Nat.reduceAdd]
 have T:=Tys.mk (ai Ty.t3 (ai Ty.t9 (ai Ty.t25 (ai Ty.t32 (ai Ty.t96 Ty.t158)))))
 have F:=Fc.mk True.intro
 refine yR [0] ⟨?_⟩;refine yR [0,3] ⟨?_⟩;refine b0c ?_;intros;refine yR [0,3,4] ⟨?_⟩;refine b0g ?_;intros;refine b08 (fun i=>⟨[(0,.sl (l.map (fun t:TA=>V.agg [V.str t.1,V.int .i64 t.2.1,V.int .i64 t.2.2.1,V.int .i64 t.2.2.2.1,V.int .i64 t.2.2.2.2]))),(3,.ref 0),(4,.int .i64 (Nat.cast i))],[.arr (b4z (fun t:TA=>V.agg [V.str t.1,V.int .i64 t.2.1,V.int .i64 t.2.2.1,V.int .i64 t.2.2.2.1,V.int .i64 t.2.2.2.2]) (V.agg [V.str .empty,V.int .i64 0,V.int .i64 0,V.int .i64 0,V.int .i64 0]) l i) .flat],false,23,0⟩) (fun i=>i≤l.length) (fun i=>l.length - i) 0 ?_ ?_ ?_
 ·refine b0b [0,3,4] [1] ⟨?_⟩
  rw [b7c];rfl
 ·exact Nat.zero_le _
 ·rintro i hok6 Q6 n6 e6 r6
  have hi1:i≤l.length:=hok6
  refine b0c ?_;intros;refine yR [0,3,4,11] ⟨?_⟩;refine b0d _ rfl ?_ ?_
  ·intro hc0
   have hlt:i < l.length:=by omega
   obtain ⟨⟨x0,x1,x2,x3,x4⟩,hx⟩:∃x:TA,l[i]? =some x:=⟨l[i]'(by omega),List.getElem?_eq_getElem (by omega)⟩
   refine zn [0,3,4] ⟨?_⟩;refine b0c ?_;intros;refine b0g ?_;intros
   have F:=Fc.mk (ai (gdm hx) (ai (fun f z=>b9c (f:=f) (z:=z) hi1) (ai (fun f z=>b9i (f:=f) (z:=z) hlt) (fun f z=>b9e (f:=f) (z:=z) hx))))
   refine yQc [0,3,4] (c8l x0 x1 x2 x3 x4) ⟨?_⟩;refine yV ⟨?_⟩;refine n6 _ (i+1) ?_ ?_ ?_
   ·refine b0b [0,3,4] [0] ⟨?_⟩
    rfl
   ·exact hlt
   ·show _ < _;omega
  ·intro hc0
   refine zn [3] ⟨?_⟩;refine yR [2] ⟨?_⟩;refine zr ⟨?_⟩
   rw [←b87 (f:=(fun t:TA=>V.agg [V.str t.1,V.int .i64 t.2.1,V.int .i64 t.2.2.1,V.int .i64 t.2.2.2.1,V.int .i64 t.2.2.2.2])) (z:=(V.agg [V.str .empty,V.int .i64 0,V.int .i64 0,V.int .i64 0,V.int .i64 0])) (show l.length≤i by omega)]
   exact b9p rfl (.inl rfl)
end Go.Proofs.YtaefoaghpehbpaaGreat
