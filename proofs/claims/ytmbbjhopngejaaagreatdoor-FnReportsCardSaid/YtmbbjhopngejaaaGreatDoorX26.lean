/- What functions compute. No condition. -/
import Derived.Test.YtmbbjhopngejaaaGreatDoorX25
set_option linter.unusedSimpArgs false
set_option linter.unusedVariables false
set_option linter.defProp false
namespace Go.Proofs.YtmbbjhopngejaaaGreatDoor
open Go Go.Vm
set_option maxHeartbeats 8000000
def d6q (x:(Int×Int×Int×Int×Int×Int×List Int)):Bool:=inR x.1 0 x.2.1 && decide (x.2.1≤5) && inR x.2.2.1 0 x.2.2.2.1 && decide (x.2.2.2.1≤3) && inR x.2.2.2.2.1 0 x.2.2.2.2.2.1 && decide (x.2.2.2.2.2.1≤23) && c3u x.2.2.2.2.2.2
def c90 (x:(Int×Int×Int×Int×Int×Int×List Int)) (a b c:Int):Bool:=inR a x.1 x.2.1 && inR b x.2.2.1 x.2.2.2.1 && inR c x.2.2.2.2.1 x.2.2.2.2.2.1
def c7d (l:List (Int×Int×Int×Int×Int×Int×List Int)):Bool:=l.all d6q && decide ((l.length:Int)≤10)
def f5a (a b c:Int):Bool:=inR a 0 5 && inR b 0 3 && inR c 0 23
def f33 (l:List (Int×Int×Int×Int×Int×Int×List Int)) (a b c:Int):Int:=b3b (fun x:(Int×Int×Int×Int×Int×Int×List Int)=>c90 x a b c) 0 l
def nfL (l:List (Int×Int×Int×Int×Int×Int×List Int)) (a b c:Int):List Int:=match l[(f33 l a b c).toNat]? with | some x=>x.2.2.2.2.2.2 | none=>[]
def nfB (l:List (Int×Int×Int×Int×Int×Int×List Int)) (a b c:Int):Bool:=c7d l && f5a a b c && decide (0≤f33 l a b c)
theorem f03 {l:List (Int×Int×Int×Int×Int×Int×List Int)} {a b c:Int} (h:0≤f33 l a b c):∃(k:Nat) (x:(Int×Int×Int×Int×Int×Int×List Int)),l[k]? =some x∧f33 l a b c=(k:Int)∧nfL l a b c=x.2.2.2.2.2.2:=by
  obtain ⟨k,x,h1,_,h3⟩:=c78 h;have h4:f33 l a b c=(k:Int):=h3;refine ⟨k,x,h1,h4,?_⟩;rw [nfL,h4,qli,h1]
theorem d92 {l:List (Int×Int×Int×Int×Int×Int×List Int)} {a b c:Int} (ht:c7d l=true) (h:0≤f33 l a b c):(nfL l a b c).length=4∧∀v∈nfL l a b c,0≤v∧v≤6:=by
  obtain ⟨k,x,h1,_,h3⟩:=f03 h;rw [c7d,qld,qlf] at ht;have q:=ht.1 x (qlb h1);rw [d6q,qld] at q;rw [h3];exact b6u q.2
set_option maxRecDepth 8000 in
theorem f2c (x0:Int) (x1:Int) (x2:Int) (x3:Int) (x4:Int) (x5:Int) (x6:List Int) (hlx:x6.length≤1048576):Con Tryz.prog 192 [.agg [V.int .i64 x0,V.int .i64 x1,V.int .i64 x2,V.int .i64 x3,V.int .i64 x4,V.int .i64 x5,V.sl (x6.map (V.int .i64))]] [] (.bool (d6q (x0,x1,x2,x3,x4,x5,x6))) []:=by
 refine zcn [.tmp 2] [] Tryz.func192 Tryz.ntmps192 ⟨?_⟩;intro Q0 n0 r0;have T:=tq4 Ty.t3 Ty.t4 Ty.t35 Ty.t113;have F:=Fc.mk True.intro;refine yR [1] ⟨?_⟩;refine b1l [2] ?_;intro K2 k2;refine f0s ⟨?_⟩;refine zc (b2w _ _ _) ⟨?_⟩;refine b15 ⟨?_⟩;refine zq4 ⟨?_⟩;refine zq4 ⟨?_⟩;refine zgc (b2w _ _ _) ⟨?_⟩;refine zq9 ⟨?_⟩;refine zgc (b2w _ _ _) ⟨?_⟩;refine zq9 ⟨?_⟩;refine zq4 ⟨?_⟩;refine zgc (b2w _ _ _) ⟨?_⟩;refine zq9 ⟨?_⟩;refine zgc (b2w _ _ _) ⟨?_⟩;refine zq9 ⟨?_⟩;refine zq4 ⟨?_⟩;refine zgc (b2w _ _ _) ⟨?_⟩;refine zq9 ⟨?_⟩;refine zgc (c9x x6 hlx) ⟨?_⟩;refine c5l ⟨?_⟩;refine b2l ⟨?_⟩;refine k2 _ ?_;refine zq2 ⟨?_⟩;exact b0g rfl (congrArg V.bool (by rw [Bool.eq_iff_iff];simp only [d6q,inR,Bool.and_eq_true,decide_eq_true_eq];generalize c3u x6=t;cases t<;>simp<;>omega)) (.inl rfl)
set_option maxRecDepth 8000 in
theorem d93 (l:List (Int×Int×Int×Int×Int×Int×List Int)) (hl:l.length≤1048576) (hls:∀t∈l,t.2.2.2.2.2.2.length≤1048576):Con Tryz.prog 166 [sQ rQe l] [] (.bool (c7d l)) []:=by
 refine zcn [.tmp 2] [] Tryz.func166 Tryz.ntmps166 ⟨?_⟩;intro Q0 n0 r0;have T:=tq5 Ty.t3 Ty.t4 Ty.t35 Ty.t113 Ty.t114;have F:=Fc.mk True.intro;refine yR [0] ⟨?_⟩;refine b0e ?_;intros;refine yR [0,5,6,7] ⟨?_⟩;refine b0i ?_;intro Q4 n4 x4 e4 r4;refine b08 (fun i=>⟨[(0,sQ rQe l),(5,sQ rQe l),(6,.int .i64 l.length),(7,.int .i64 (Nat.cast i))],[],false,18,0⟩) (fun i=>i≤l.length∧(l.drop i).all d6q=l.all d6q) (fun i=>l.length - i) 0 ?_ ?_ ?_
 ·refine b2a [0,5,6,7] ?_;simp only [b02,b0n,b0l,b0j,b0u,Nat.reduceEqDiff,reduceIte];rfl
 ·exact ⟨qle _,rfl⟩
 ·rintro i hok5 Q5 n5 e5 r5;obtain ⟨hi1,hR⟩:=hok5;refine yR [0,5,6,7,8] ⟨?_⟩;refine b0e ?_;intros;refine b0a _ rfl ?_ ?_
  ·intro hc0;have hlt:i < l.length:=by omega
   obtain ⟨⟨x0,x1,x2,x3,x4,x5,x6⟩,hx⟩:∃x:Int×Int×Int×Int×Int×Int×List Int,l[i]? =some x:=⟨l[i]'(by omega),qla (by omega)⟩;have hlx:=hls _ (qlb hx);simp only [] at hlx;have hst:=b65 (p:=d6q) hx;refine zn [0,5,6,7] ⟨?_⟩;refine b0e ?_;intros;refine b0i ?_;intros;have F:=Fc.mk (gdm hx);refine yR [0,4,5,6,7] ⟨?_⟩;refine yRc [0,5,6,7,13] (f2c x0 x1 x2 x3 x4 x5 x6 hlx) ⟨?_⟩;refine b0a _ rfl ?_ ?_
   ·intro hc1;refine yR [2] ⟨?_⟩;refine zr ⟨?_⟩;exact b0g rfl (by rw [c7d,←hR,hst,hc1];simp) (.inl rfl)
   ·intro hc1;refine zn [0,5,6,7] ⟨?_⟩;refine yV ⟨?_⟩;refine n5 _ (i+1) ?_ ?_ ?_
    ·refine b0d [0,5,6,7] [] ⟨?_⟩;rfl
    ·exact ⟨hlt,by rw [←hR,hst,hc1];simp⟩
    ·show _ < _;omega
  ·intro hc0;refine zn [0] ⟨?_⟩;refine yR [2] ⟨?_⟩;refine zr ⟨?_⟩;exact b0g rfl (by rw [c7d,←hR,b9c (by omega)];simp) (.inl rfl)
theorem d9b (a b c:Int):Con Tryz.prog 167 [.agg [.int .i64 a,.int .i64 b,.int .i64 c]] [] (.bool (f5a a b c)) []:=by
 refine zcn [.tmp 2] [] Tryz.func167 Tryz.ntmps167 ⟨?_⟩;intro Q0 n0 r0;have T:=tq3 Ty.t3 Ty.t4 Ty.t118;have F:=Fc.mk True.intro;refine yR [1] ⟨?_⟩;refine c6c [2] (b2w _ _ _) (b2w _ _ _) (b2w _ _ _) ⟨?_⟩;refine zr ⟨?_⟩;exact b0g rfl (by simp [f5a,inR,Bool.and_assoc]) (.inl rfl)
set_option maxRecDepth 8000 in
theorem d1r (x0:Int) (x1:Int) (x2:Int) (x3:Int) (x4:Int) (x5:Int) (x6:List Int) (a b c:Int):Con Tryz.prog 193 [.agg [V.int .i64 x0,V.int .i64 x1,V.int .i64 x2,V.int .i64 x3,V.int .i64 x4,V.int .i64 x5,V.sl (x6.map (V.int .i64))],.agg [.int .i64 a,.int .i64 b,.int .i64 c]] [] (.bool (c90 (x0,x1,x2,x3,x4,x5,x6) a b c)) []:=by
 refine zcn [.tmp 4] [] Tryz.func193 Tryz.ntmps193 ⟨?_⟩;intro Q0 n0 r0;have T:=tq5 Ty.t3 Ty.t4 Ty.t35 Ty.t113 Ty.t118;have F:=Fc.mk True.intro;refine yR [2,3] ⟨?_⟩;refine c6c [4] (b2w _ _ _) (b2w _ _ _) (b2w _ _ _) ⟨?_⟩;refine zr ⟨?_⟩;exact b0g rfl (by simp [c90,inR,Bool.and_assoc]) (.inl rfl)
set_option maxRecDepth 8000 in
theorem d3w (l:List (Int×Int×Int×Int×Int×Int×List Int)) (a b c:Int) (hl:l.length≤1048576):Con Tryz.prog 168 [sQ rQe l,.agg [.int .i64 a,.int .i64 b,.int .i64 c]] [] (.int .i64 (f33 l a b c)) []:=by
 refine zcn [.tmp 4] [] Tryz.func168 Tryz.ntmps168 ⟨?_⟩;intro Q0 n0 r0;have T:=tq6 Ty.t3 Ty.t4 Ty.t35 Ty.t113 Ty.t114 Ty.t118;have F:=Fc.mk True.intro;refine yR [0,3] ⟨?_⟩;refine b0e ?_;intros;refine yR [3,7,8,9] ⟨?_⟩;refine b0i ?_;intro Q4 n4 x4 e4 r4;refine b08 (fun i=>⟨[(3,.ptr 0 0 0),(7,sQ rQe l),(8,.int .i64 l.length),(9,.int .i64 (Nat.cast i))],[.box (.agg [.int .i64 a,.int .i64 b,.int .i64 c]) .flat],false,19,0⟩) (fun i=>i≤l.length∧b3b (fun x:(Int×Int×Int×Int×Int×Int×List Int)=>c90 x a b c) i (l.drop i)=b3b (fun x:(Int×Int×Int×Int×Int×Int×List Int)=>c90 x a b c) 0 l) (fun i=>l.length - i) 0 ?_ ?_ ?_
 ·refine b0d [3,7,8,9] [0] ⟨?_⟩;rfl
 ·exact ⟨qle _,rfl⟩
 ·rintro i hok5 Q5 n5 e5 r5;obtain ⟨hi1,hR⟩:=hok5;refine yR [3,7,8,9,10] ⟨?_⟩;refine b0e ?_;intros;refine b0a _ rfl ?_ ?_
  ·intro hc0;have hlt:i < l.length:=by omega
   obtain ⟨⟨x0,x1,x2,x3,x4,x5,x6⟩,hx⟩:∃x:Int×Int×Int×Int×Int×Int×List Int,l[i]? =some x:=⟨l[i]'(by omega),qla (by omega)⟩;have hst:=b50 (p:=fun x:(Int×Int×Int×Int×Int×Int×List Int)=>c90 x a b c) hx;refine zn [3,7,8,9] ⟨?_⟩;refine b0e ?_;intros;refine b0i ?_;intros;have F:=Fc.mk (gdm hx);refine yR [3,5,6,7,8,9] ⟨?_⟩;refine yRc [3,5,7,8,9,16] (d1r x0 x1 x2 x3 x4 x5 x6 a b c) ⟨?_⟩;refine b0a _ rfl ?_ ?_
   ·intro hc1;refine yR [4] ⟨?_⟩;refine zr ⟨?_⟩;exact b0g rfl (by rw [f33,←hR,hst,if_pos hc1]) (.inl rfl)
   ·intro hc1;refine zn [3,7,8,9] ⟨?_⟩;refine yV ⟨?_⟩;refine n5 _ (i+1) ?_ ?_ ?_
    ·refine b0d [3,7,8,9] [0] ⟨?_⟩;rfl
    ·exact ⟨hlt,by rw [←hR,hst,if_neg (by simp [hc1])]⟩
    ·show _ < _;omega
  ·intro hc0;refine zn [] ⟨?_⟩;refine yR [4] ⟨?_⟩;refine zr ⟨?_⟩;exact b0g rfl (by rw [f33,←hR,b7h (by omega)]) (.inl rfl)
set_option maxRecDepth 8000 in
theorem c7p (l:List (Int×Int×Int×Int×Int×Int×List Int)) (a b c:Int) (hl:l.length≤1048576) (hls:∀t∈l,t.2.2.2.2.2.2.length≤1048576):Con Tryz.prog 135 [sQ rQe l,.agg [.int .i64 a,.int .i64 b,.int .i64 c]] [] (.tup [.ref 0,.bool (nfB l a b c)]) [.arr ((b3j (nfB l a b c) (nfL l a b c)).map (V.int .i64)) .flat]:=by
 refine zcn [.tmp 4,.tmp 5] [] Tryz.func135 Tryz.ntmps135 ⟨?_⟩;intro Q0 n0 r0;have T:=tq6 Ty.t3 Ty.t4 Ty.t35 Ty.t113 Ty.t114 Ty.t118;have F:=Fc.mk True.intro;refine yR [0,3] ⟨?_⟩;refine b0e ?_;intros;refine c6c [0,3,19] (d93 l hl hls) (d9b a b c) (d3w l a b c hl) ⟨?_⟩;refine b0a _ rfl ?_ ?_
 ·intro hc0;have hB:(nfB l a b c)=false:=by
   cases hq:(nfB l a b c) with
   |false=>rfl
   |true=>
    exfalso;rw [nfB,qld,qld,decide_eq_true_eq] at hq;simp [hq.1.1,hq.1.2] at hc0;omega
  refine yR [4,5] ⟨?_⟩;refine zr ⟨?_⟩;simp only [aQ,fQ,hB,b2s,List.map_nil];exact rta
 ·intro hc0;have hq:c7d l=true∧f5a a b c=true∧0≤f33 l a b c:=by
   (try simp at hc0)
   first | exact ⟨hc0.1.1,hc0.1.2,hc0.2⟩ | exact ⟨hc0.1,hc0.2.1,hc0.2.2⟩ | (refine ⟨?_,?_,?_⟩<;>simp_all)
  have h0:=hq.2.2;have hB:(nfB l a b c)=true:=by rw [nfB,hq.1,hq.2.1,decide_eq_true h0];rfl
  obtain ⟨k,⟨x0,x1,x2,x3,x4,x5,x6⟩,hk1,hk2,hk3⟩:=f03 h0;have hlx:=hls _ (qlb hk1);simp only [] at hlx hk3;have hkl:=(qlc.1 hk1).1;refine zn [0,3] ⟨?_⟩;have F:=fq3 hk2 @qli (gdm hk1);refine f86 [4,5] (d3w l a b c hl) (c3x x6 hlx) ⟨?_⟩;refine zr ⟨?_⟩;simp only [hB,b2r,hk3];exact rta
theorem d28 {ins:List TI} {node:Int} {q:TI→Prop} (h:∀x∈ins,q x) (h0:q (c0o ins node)):∀x∈ins++[c0o ins node],q x:=fun x hx=>by
  rcases qlj.1 hx with e | e
  · exact h x e
  · rw [qlk] at e;subst e;exact h0
theorem c95 {α:Type} (l:List α) (x:α):b2h (l++[x]).length=.deep:=by
  unfold b2h;rw [if_neg (by simp)]
theorem f6g (ins:List TI) (node:Int):WkL ((ins.map rQb++[V.agg [V.int .i64 (c3y ins),V.int .i64 node,V.bool false,V.nsl]]).flatMap V.cells) (((ins++[(c0o ins node)]).map rQb).flatMap V.cells):=by
  rw [List.map_append,List.flatMap_append,List.flatMap_append];exact WkL.append (WkL.refl _) ⟨.inl rfl,.inl rfl,.inl rfl,.inr (.inl ⟨rfl,rfl⟩),trivial⟩
theorem f6f (ins:List TI) (node:Int):∀n,(∀x∈(ins.map rQb++[V.agg [V.int .i64 (c3y ins),V.int .i64 node,V.bool false,V.nsl]]),x.cells.length=n)→∀y∈(ins++[(c0o ins node)]).map rQb,y.cells.length=n:=by
  intro n hn y hy;have h4:n=4:=(hn (V.agg [V.int .i64 (c3y ins),V.int .i64 node,V.bool false,V.nsl]) (by simp)).symm;obtain ⟨x,hx,rfl⟩:=qmo.1 hy;rw [h4];rfl
theorem f3n {P:Program} {f:FuncId} {ins:List TI} {node:Int} {rest:List V} {O O2:List Blk} {r:V} (hc:Con P f (sQ rQb (ins++[(c0o ins node)])::rest) O r O2):Con P f (.sl (ins.map rQb++[V.agg [V.int .i64 (c3y ins),V.int .i64 node,V.bool false,V.nsl]])::rest) O r O2:=
  f3m hc (f6g ins node) (by simp) (f6f ins node)
theorem f41 {m:Nat} {s:St} (id:Nat) (ins:List TI) (node:Int) (k:Kd) (hO:s.O[id]? =some (.arr (ins.map rQb++[V.agg [V.int .i64 (c3y ins),V.int .i64 node,V.bool false,V.nsl]]) k)):b6j m s {s with O:=s.O.set id (.arr ((ins++[(c0o ins node)]).map rQb) k)}:=
  d8n id _ _ (ins.map rQb++[V.agg [V.int .i64 (c3y ins),V.int .i64 node,V.bool false,V.nsl]]) ((ins++[(c0o ins node)]).map rQb) k hO (.inl ⟨rfl,rfl⟩) (f6g ins node) (by simp) (f6f ins node)
theorem f4q (ins:List TI) (node:Int) (hl:(ins++[c0o ins node]).length≤1048576) (hin:∀x∈ins++[c0o ins node],x.2.2.2.length≤1048576) (his:∀x∈ins++[c0o ins node],∀s∈x.2.2.2,s.size≤9223372036854775807) (hB:b8d (ins++[(c0o ins node)])=true):Con Tryz.prog 169 [.ref 0] [.arr (ins.map rQb++[V.agg [V.int .i64 (c3y ins),V.int .i64 node,V.bool false,V.nsl]]) (b2h ins.length)] (.tup [.ref 0,.bool true]) [.arr (ins.map rQb++[V.agg [V.int .i64 (c3y ins),V.int .i64 node,V.bool false,V.nsl]]) (b2h ins.length)]:=by
 refine zcn [.tmp 2,.tmp 3] [] Tryz.func169 Tryz.ntmps169 ⟨?_⟩;intro Q0 n0 r0;have T:=tq6 Ty.t3 Ty.t4 Ty.t9 Ty.t28 Ty.t32 Ty.t55;have F:=Fc.mk True.intro;refine yR [0] ⟨?_⟩;refine b0e ?_;intros;refine yRc [0,6] (f3n (b9s (ins++[(c0o ins node)]) hl hin his)) ⟨?_⟩;refine b18 _ rfl ?_ ?_
 ·intro hc0;exfalso;simp [hB] at hc0
 ·intro hc0;try simp only [zC,reduceCtorEq] at hc0
  refine zn [0] ⟨?_⟩;refine yR [2,3] ⟨?_⟩;refine zr ⟨?_⟩;exact rta
theorem f61 (ins:List TI) (node:Int) (hl:(ins++[c0o ins node]).length≤1048576) (hin:∀x∈ins++[c0o ins node],x.2.2.2.length≤1048576) (his:∀x∈ins++[c0o ins node],∀s∈x.2.2.2,s.size≤9223372036854775807) (hB:b8d (ins++[(c0o ins node)])=false):Con Tryz.prog 169 [.ref 0] [.arr (ins.map rQb++[V.agg [V.int .i64 (c3y ins),V.int .i64 node,V.bool false,V.nsl]]) (b2h ins.length)] (.tup [.ref 1,.bool false]) [.arr (ins.map rQb++[V.agg [V.int .i64 (c3y ins),V.int .i64 node,V.bool false,V.nsl]]) (b2h ins.length),eQ]:=by
 refine zcn [.tmp 2,.tmp 3] [] Tryz.func169 Tryz.ntmps169 ⟨?_⟩;intro Q0 n0 r0;have T:=tq6 Ty.t3 Ty.t4 Ty.t9 Ty.t28 Ty.t32 Ty.t55;have F:=Fc.mk True.intro;refine yR [0] ⟨?_⟩;refine b0e ?_;intros;refine yRc [0,6] (f3n (b9s (ins++[(c0o ins node)]) hl hin his)) ⟨?_⟩;refine b18 _ rfl ?_ ?_
 ·intro hc0;try simp only [zC,reduceCtorEq] at hc0
  refine yR [2,3] ⟨?_⟩;refine zr ⟨?_⟩;exact rta
 ·intro hc0;exfalso;simp [hB] at hc0
set_option maxRecDepth 8000 in
theorem d4k (ins:List TI) (node:Int) (hp:IncsProp ins) (hil:ins.length≤1048576) (hin:∀x∈ins,x.2.2.2.length≤1048576) (hn:0≤node∧node≤13) (his:∀x∈ins,∀s∈x.2.2.2,s.size≤9223372036854775807):Con Tryz.prog 137 [sQ rQb ins,.int .i64 node] [] (.tup [.ref 0,.int .i64 (bif (opB ins) then c3y ins else 0),.bool (opB ins)]) [fQ rQb (b3j (opB ins) (ins++[(c0o ins node)]))]:=by
 have hB0:b8d ins=true:=(c1r _).2 hp;have hap:((decide (0≤node) && decide (node≤13)))=true:=by simp [hn]
 have hoi:=f2l hp hn;refine zcn [.tmp 4,.tmp 5,.tmp 6] [(169,[0])] Tryz.func137 Tryz.ntmps137 ⟨?_⟩;intro Q0 n0 r0;have T:=tq6 Ty.t3 Ty.t4 Ty.t9 Ty.t28 Ty.t32 Ty.t55;have F:=Fc.mk True.intro;refine yR [0,1] ⟨?_⟩;refine b0e ?_;intros;refine d2w [0,1,18] (b9s ins hil hin his) (c5b node) ⟨?_⟩;refine b18 _ rfl ?_ ?_
 ·intro hc0;exfalso;simp [hB0,hn] at hc0
 ·intro hc0;try simp only [zC,reduceCtorEq] at hc0
  refine zn [0,1] ⟨?_⟩;refine yR [0,1,7] ⟨?_⟩;refine b3u (A:=Unit) (fun u=>⟨[(0,sQ rQb ins),(1,.int .i64 node),(7,.int .i64 (c3y ins))],[],false,45,0⟩) (fun u=>True) ?_ ?_
  ·intro Q6 n6 e6 r6;refine yR [0,1,7,8] ⟨?_⟩;refine yR [0,1,7,8,22] ⟨?_⟩;refine b0a _ rfl ?_ ?_
   ·intro hc1;have hlt:ins.length - 1 < ins.length:=by omega
    obtain ⟨⟨x0,x1,x2,x3⟩,hx⟩:∃x:TI,ins[ins.length - 1]? =some x:=⟨ins[ins.length - 1]'(by omega),qla (by omega)⟩;have hnm:c3y ins=x0+1:=by rw [c3y,hx]
    have hxb:=(hp.each _ (qlb hx)).num;simp only [] at hxb;have hkn:((ins.length:Int) - 1).toNat=ins.length - 1:=by omega
    have F:=fq2 hkn (gdm hx);refine yV ⟨?_⟩;refine n6 () _ ?_ ?_
    ·trivial
    ·refine b0d [0,1,7] [] ⟨?_⟩;rw [hnm]
   ·intro hc1;have hn0:c3y ins=1:=by
     have h0:ins.length=0:=by omega
     obtain rfl:ins=[]:=qlv.1 h0;rfl
    refine b5z ?_;refine n6 () _ ?_ ?_
    ·trivial
    ·refine b0d [0,1,7] [] ⟨?_⟩;rw [hn0]
  ·rintro u hok6;have hu:True:=hok6;rcases Bool.eq_false_or_eq_true (opB ins) with hB | hB
   ·skip;have hif:=f4q ins node (by rw [qls,ql1];have:=hp.len;omega) (d28 hin (qle _)) (d28 his (fun _ h=>nomatch h)) (by rw [hoi,hB]);refine b1l [7,9,10] ?_;intro K11 k11;have F:=Fc.mk True.intro;refine b15 ⟨?_⟩;refine zc (b3v ins hil hin) ⟨?_⟩;refine zq5 ⟨?_⟩;refine d0b ⟨?_⟩;refine f7w ⟨?_⟩;refine zcl (hif) ⟨?_⟩;refine f0q ⟨?_⟩;refine b2l ⟨?_⟩;refine b2l ⟨?_⟩;refine k11 _ ?_;refine zk ⟨?_⟩;refine b0e ?_;intros;refine yR [7,9,42] ⟨?_⟩;refine b18 _ rfl ?_ ?_
    ·intro hc2;exfalso;simp at hc2
    ·intro hc2;try simp only [zC,reduceCtorEq] at hc2
     refine zn [7,9] ⟨?_⟩;refine b0e ?_;intro Q15 n15 e15 r15;refine yV ⟨?_⟩;apply n15
     ·apply b00 (b0f [4,5,6] _);simp only [b02,b0n,b0l,b0j,b0u,Nat.reduceEqDiff,reduceIte];exact b00 (f41 2 ins node _ rfl) (d13 2 ins.length _ rfl)
     try simp only [b2f,b2q,Nat.reduceEqDiff,reduceIte,List.set_cons_zero,List.set_cons_succ]
     refine zr ⟨?_⟩;simp only [hB,b2r,cond_true];simp only [aQ,fQ,c95];exact rta
   ·skip;have hif:=f61 ins node (by rw [qls,ql1];have:=hp.len;omega) (d28 hin (qle _)) (d28 his (fun _ h=>nomatch h)) (by rw [hoi,hB]);refine b1l [7,9,10] ?_;intro K17 k17;have F:=Fc.mk True.intro;refine b15 ⟨?_⟩;refine zc (b3v ins hil hin) ⟨?_⟩;refine zq5 ⟨?_⟩;refine d0b ⟨?_⟩;refine f7w ⟨?_⟩;refine zcl (hif) ⟨?_⟩;refine f0q ⟨?_⟩;refine b2l ⟨?_⟩;refine b2l ⟨?_⟩;refine k17 _ ?_;refine zk ⟨?_⟩;refine b0e ?_;intros;refine yR [7,9,42] ⟨?_⟩;refine b18 _ rfl ?_ ?_
    ·intro hc2;try simp only [zC,reduceCtorEq] at hc2
     refine b0e ?_;intro Q21 n21 e21 r21;refine yV ⟨?_⟩;apply n21
     ·apply b00 (b0f [4,5,6] _);simp only [b02,b0n,b0l,b0j,b0u,Nat.reduceEqDiff,reduceIte];exact b36 _ _
     try simp only [b2f,b2q,Nat.reduceEqDiff,reduceIte,List.set_cons_zero,List.set_cons_succ]
     refine zr ⟨?_⟩;simp only [aQ,fQ,hB,b2s,List.map_nil,List.length_nil,f0f,cond_false];exact rta
    ·intro hc2;exfalso;simp at hc2
def tkB (n:Int) (ss:List TS) (fl:List TA) (ins:List TI) (ws:List TW) (tb:List (Int×Int×Int×Int×Int×Int×List Int)) (node a b c:Int):Bool:=b2o n ss fl ins ws && nfB tb a b c && c2e n node && opB ins && (tkZ n ss fl node (nfL tb a b c) || decide (ws.length < 8))
structure TkOK (n:Int) (ss:List TS) (fl:List TA) (ins:List TI) (ws:List TW) (tb:List (Int×Int×Int×Int×Int×Int×List Int)) (node a b c:Int):Prop where
  p:CtlProp n ss fl ins ws
  nf:nfB tb a b c=true
  nd:0≤node∧node < n
  nn:n≤14
  need:(nfL tb a b c).length=4∧∀v∈(nfL tb a b c),0≤v∧v≤6
theorem f8t {n:Int} {ss:List TS} {fl:List TA} {ins:List TI} {ws:List TW} {tb:List (Int×Int×Int×Int×Int×Int×List Int)} {node a b c:Int} (h1:b2o n ss fl ins ws=true) (h2:nfB tb a b c=true) (h3:c2e n node=true):TkOK n ss fl ins ws tb node a b c:=by
  have hp:=(b5q n ss fl ins ws).1 h1;have ht:=b6f h1;have hn:1≤n∧n≤14:=by
    simp only [b9g,c4w,Bool.and_eq_true,decide_eq_true_eq] at ht;exact ht.1.1
  have h2b:=h2;rw [nfB,qld,qld,decide_eq_true_eq] at h2b;simp only [c2e,Bool.and_eq_true,decide_eq_true_eq,IntKind.wrap_i64] at h3;exact ⟨hp,h2,⟨h3.1,by omega⟩,hn.2,d92 h2b.1.1 h2b.2⟩
theorem f8y {n:Int} {ss:List TS} {fl:List TA} {ins:List TI} {ws:List TW} {node:Int} {need:List Int} (h:tkZ n ss fl node need=true):tkW n ss fl ins ws node need=ws:=by rw [tkW,if_pos h]
theorem f74 {n:Int} {ss:List TS} {fl:List TA} {ins:List TI} {ws:List TW} {node:Int} {need:List Int} (h:tkZ n ss fl node need=false):tkW n ss fl ins ws node need=ws++[(c3y ins,chL n ss fl node need)]:=by rw [tkW,if_neg (by rw [h];decide)]
theorem f07 {s:ByteArray} (h:b4t s=true):s.size≤9223372036854775807:=by simp [b4t] at h;omega
theorem f10 {n:Int} {ss:List TS} {fl:List TA} {ins:List TI} {ws:List TW} (h:CtlProp n ss fl ins ws):fl.length≤1048576∧(∀t∈fl,t.1.size≤9223372036854775807)∧ins.length≤1048576∧(∀x∈ins,x.2.2.2.length≤1048576)∧∀x∈ins,∀s∈x.2.2.2,s.size≤9223372036854775807:=by
  have h1:=h.fl12;have h2:=h.inc.len;refine ⟨by omega,fun t ht=> ?_,by omega,fun x hx=> ?_,fun x hx s hs=>f07 ((h.inc.each x hx).nm s hs)⟩
  · have:=h.ap t ht
    simp only [c0r,Bool.and_eq_true] at this;exact f07 this.1.1.1.1
  · have:=(h.inc.each x hx).len;omega
theorem f9t {n:Int} {ss:List TS} {fl:List TA} {ins:List TI} {ws:List TW} {node:Int} {need:List Int} (h:ws.length≤8) (hw:∀x∈ws,x.2.length≤1048576) (hd:need.length=4∧∀v∈need,0≤v∧v≤6):(tkW n ss fl ins ws node need).length≤1048576∧∀x∈tkW n ss fl ins ws node need,x.2.length≤1048576:=by
  cases hz:tkZ n ss fl node need with
  | true=>rw [f8y hz];exact ⟨by omega,hw⟩
  | false=>
    rw [f74 hz];refine ⟨by rw [qls,ql1];omega,fun x hx=> ?_⟩;rcases qlj.1 hx with e | e
    · exact hw x e
    · rw [qlk] at e;subst e
      have:=(c8s (n:=n) (ss:=ss) (fl:=fl) (node:=node) hd).1;show (chL n ss fl node need).length≤_;omega
end Go.Proofs.YtmbbjhopngejaaaGreatDoor
