/- What functions compute. No condition. -/
import Derived.Test.YtaefoaghpehbpaaGreatUz
import Derived.Test.YtaefoaghpehbpaaGreatUty
import Derived.Test.YtaefoaghpehbpaaGreatUmG
import Derived.Test.YtaefoaghpehbpaaGreatX19
import Derived.Test.YtaefoaghpehbpaaGreatX13
import Derived.Test.YtaefoaghpehbpaaGreatX8
import Derived.Test.YtaefoaghpehbpaaGreatX18
import Derived.Test.YtaefoaghpehbpaaGreatX14
import Derived.Test.YtaefoaghpehbpaaGreatX10
import Derived.Test.YtaefoaghpehbpaaGreatX5
import Derived.Test.YtaefoaghpehbpaaGreatX16
import Derived.Test.YtaefoaghpehbpaaGreatX11
import Derived.Test.YtaefoaghpehbpaaGreatX17
import Derived.Test.YtaefoaghpehbpaaGreatX4
import Derived.Test.YtaefoaghpehbpaaGreatX3
set_option linter.unusedSimpArgs false
set_option linter.unusedVariables false
set_option linter.defProp false
namespace Go.Proofs.YtaefoaghpehbpaaGreat
open Go Go.Vm
set_option maxHeartbeats 8000000
set_option maxRecDepth 8000 in
theorem c8t (l:List (Int×Int×Int×Int×Int×Int×List Int)) (a b c:Int) (hl:l.length≤1048576) (hls:∀t∈l,t.2.2.2.2.2.2.length≤1048576):Con Tryz.prog 37 [.sl (l.map (fun t:Int×Int×Int×Int×Int×Int×List Int=>V.agg [V.int .i64 t.1,V.int .i64 t.2.1,V.int .i64 t.2.2.1,V.int .i64 t.2.2.2.1,V.int .i64 t.2.2.2.2.1,V.int .i64 t.2.2.2.2.2.1,V.sl (t.2.2.2.2.2.2.map (V.int .i64))])),.agg [.int .i64 a,.int .i64 b,.int .i64 c]] [] (.tup [.ref 0,.bool (nfB l a b c)]) [.arr ((b3l (nfB l a b c) (nfL l a b c)).map (V.int .i64)) .flat]:=by
 refine b05 [.tmp 4,.tmp 5] [] Tryz.func37 rfl rfl rfl (by simp [Tryz.ntmps37]) ?_
 intro Q0 n0 r0
 simp only [Tryz.ntmps37,b0l,Nat.reduceAdd]
 have T:=Tys.mk (ai Ty.t3 (ai Ty.t4 (ai Ty.t63 (ai Ty.t65 (ai Ty.t75 Ty.t138)))))
 have F:=Fc.mk True.intro
 refine yR [0,3] ⟨?_⟩;refine b0c ?_;intros;refine c7e [0,3,19] (d8e l hl hls) (d8c a b c) (d2u l a b c hl) ⟨?_⟩;refine b0d _ rfl ?_ ?_
 ·intro hc0
  have hB:(nfB l a b c)=false:=by
   cases hq:(nfB l a b c) with
   |false=>rfl
   |true=>
    exfalso
    rw [nfB,Bool.and_eq_true,Bool.and_eq_true,decide_eq_true_eq] at hq
    simp [hq.1.1,hq.1.2] at hc0
    omega
  refine yR [4,5] ⟨?_⟩;refine zr ⟨?_⟩
  simp only [hB,b7b,List.map_nil]
  exact rta
 ·intro hc0
  have hq:b9q l=true∧d3b a b c=true∧0≤d1k l a b c:=by
   (try simp at hc0)
   first | exact ⟨hc0.1.1,hc0.1.2,hc0.2⟩ | exact ⟨hc0.1,hc0.2.1,hc0.2.2⟩ | (refine ⟨?_,?_,?_⟩<;>simp_all)
  have h0:=hq.2.2
  have hB:(nfB l a b c)=true:=by rw [nfB,hq.1,hq.2.1,decide_eq_true h0];rfl
  obtain ⟨k,⟨x0,x1,x2,x3,x4,x5,x6⟩,hk1,hk2,hk3⟩:=d6f h0
  have hlx:=hls _ (List.mem_of_getElem? hk1)
  simp only [] at hlx hk3
  have hkl:=(List.getElem?_eq_some_iff.1 hk1).1
  refine zn [0,3] ⟨?_⟩
  have F:=Fc.mk (ai hk2 (ai @Int.toNat_natCast (gdm hk1)))
  refine f8d [4,5] (d2u l a b c hl) (c3l x6 hlx) ⟨?_⟩;refine zr ⟨?_⟩
  simp only [hB,b6i,hk3]
  exact rta
set_option maxRecDepth 8000 in
theorem c8g (l:List (Int×Int×Int×Int×Int×Int×List Int)) (a b c:Int) (hl:l.length≤1048576) (hls:∀t∈l,t.2.2.2.2.2.2.length≤1048576):Con Tryz.prog 97 [.sl (l.map (fun t:Int×Int×Int×Int×Int×Int×List Int=>V.agg [V.int .i64 t.1,V.int .i64 t.2.1,V.int .i64 t.2.2.1,V.int .i64 t.2.2.2.1,V.int .i64 t.2.2.2.2.1,V.int .i64 t.2.2.2.2.2.1,V.sl (t.2.2.2.2.2.2.map (V.int .i64))])),.agg [.int .i64 a,.int .i64 b,.int .i64 c]] [] (.tup [.ref 0,.bool (decide (0≤d1k l a b c))]) [.arr ((b3l (decide (0≤d1k l a b c)) (nfL l a b c)).map (V.int .i64)) .flat]:=by
 refine b05 [.tmp 4,.tmp 5] [] Tryz.func97 rfl rfl rfl (by simp [Tryz.ntmps97]) ?_
 intro Q0 n0 r0
 simp only [Tryz.ntmps97,b0l,Nat.reduceAdd]
 have T:=Tys.mk (ai Ty.t3 (ai Ty.t63 (ai Ty.t65 (ai Ty.t75 Ty.t138))))
 have F:=Fc.mk True.intro
 refine yR [0,3] ⟨?_⟩;refine yRc [0,6] (d8s l a b c hl) ⟨?_⟩;refine b0c ?_;intros;refine yR [0,6,11] ⟨?_⟩;refine b0d _ rfl ?_ ?_
 ·intro hc0
  have hB:(decide (0≤d1k l a b c))=false:=decide_eq_false (by omega)
  refine yR [4,5] ⟨?_⟩;refine zr ⟨?_⟩
  simp only [hB,b7b,List.map_nil]
  exact rta
 ·intro hc0
  have h0:0≤d1k l a b c:=by omega
  have hB:(decide (0≤d1k l a b c))=true:=decide_eq_true h0
  obtain ⟨k,⟨x0,x1,x2,x3,x4,x5,x6⟩,hk1,hk2,hk3⟩:=d6f h0
  have hlx:=hls _ (List.mem_of_getElem? hk1)
  simp only [] at hlx hk3
  have hkl:=(List.getElem?_eq_some_iff.1 hk1).1
  refine zn [0,6] ⟨?_⟩
  have F:=Fc.mk (ai hk2 (ai @Int.toNat_natCast (gdm hk1)))
  refine yRc [4,5] (b5c x6 hlx) ⟨?_⟩;refine zr ⟨?_⟩
  simp only [hB,b6i,hk3]
  exact rta
theorem c98 {ins:List TI} {node:Int} {q:TI→Prop} (h:∀x∈ins,q x) (h0:q (b7h ins node)):∀x∈ins++[b7h ins node],q x:=fun x hx=>by
  rcases List.mem_append.1 hx with e | e
  · exact h x e
  · rw [List.mem_singleton] at e;subst e;exact h0
theorem c08 {α:Type} (l:List α) (x:α):b1v (l++[x]).length=.deep:=by
  unfold b1v;rw [if_neg (by simp)]
theorem f44 (ins:List TI) (node:Int):WkL ((ins.map (fun t:TI=>V.agg [V.int .i64 t.1,V.int .i64 t.2.1,V.bool t.2.2.1,V.sl (t.2.2.2.map V.str)])++[V.agg [V.int .i64 (b8l ins),V.int .i64 node,V.bool false,V.nsl]]).flatMap V.cells) (((ins++[(b7h ins node)]).map (fun t:TI=>V.agg [V.int .i64 t.1,V.int .i64 t.2.1,V.bool t.2.2.1,V.sl (t.2.2.2.map V.str)])).flatMap V.cells):=by
  rw [List.map_append,List.flatMap_append,List.flatMap_append]
  exact WkL.append (WkL.refl _) ⟨.inl rfl,.inl rfl,.inl rfl,.inr (.inl ⟨rfl,rfl⟩),trivial⟩
theorem f43 (ins:List TI) (node:Int):∀n,(∀x∈(ins.map (fun t:TI=>V.agg [V.int .i64 t.1,V.int .i64 t.2.1,V.bool t.2.2.1,V.sl (t.2.2.2.map V.str)])++[V.agg [V.int .i64 (b8l ins),V.int .i64 node,V.bool false,V.nsl]]),x.cells.length=n)→∀y∈(ins++[(b7h ins node)]).map (fun t:TI=>V.agg [V.int .i64 t.1,V.int .i64 t.2.1,V.bool t.2.2.1,V.sl (t.2.2.2.map V.str)]),y.cells.length=n:=by
  intro n hn y hy
  have h4:n=4:=(hn (V.agg [V.int .i64 (b8l ins),V.int .i64 node,V.bool false,V.nsl]) (by simp)).symm
  obtain ⟨x,hx,rfl⟩:=List.mem_map.1 hy
  rw [h4];rfl
theorem f0k {P:Program} {f:FuncId} {ins:List TI} {node:Int} {rest:List V} {O O2:List Blk} {r:V} (hc:Con P f (.sl ((ins++[(b7h ins node)]).map (fun t:TI=>V.agg [V.int .i64 t.1,V.int .i64 t.2.1,V.bool t.2.2.1,V.sl (t.2.2.2.map V.str)]))::rest) O r O2):Con P f (.sl (ins.map (fun t:TI=>V.agg [V.int .i64 t.1,V.int .i64 t.2.1,V.bool t.2.2.1,V.sl (t.2.2.2.map V.str)])++[V.agg [V.int .i64 (b8l ins),V.int .i64 node,V.bool false,V.nsl]])::rest) O r O2:=
  f1u hc (f44 ins node) (by simp) (f43 ins node)
theorem f32 {m:Nat} {s:St} (id:Nat) (ins:List TI) (node:Int) (k:Kd) (hO:s.O[id]? =some (.arr (ins.map (fun t:TI=>V.agg [V.int .i64 t.1,V.int .i64 t.2.1,V.bool t.2.2.1,V.sl (t.2.2.2.map V.str)])++[V.agg [V.int .i64 (b8l ins),V.int .i64 node,V.bool false,V.nsl]]) k)):b5i m s {s with O:=s.O.set id (.arr ((ins++[(b7h ins node)]).map (fun t:TI=>V.agg [V.int .i64 t.1,V.int .i64 t.2.1,V.bool t.2.2.1,V.sl (t.2.2.2.map V.str)])) k)}:=
  d0b id _ _ (ins.map (fun t:TI=>V.agg [V.int .i64 t.1,V.int .i64 t.2.1,V.bool t.2.2.1,V.sl (t.2.2.2.map V.str)])++[V.agg [V.int .i64 (b8l ins),V.int .i64 node,V.bool false,V.nsl]]) ((ins++[(b7h ins node)]).map (fun t:TI=>V.agg [V.int .i64 t.1,V.int .i64 t.2.1,V.bool t.2.2.1,V.sl (t.2.2.2.map V.str)])) k hO (.inl ⟨rfl,rfl⟩) (f44 ins node) (by simp) (f43 ins node)
set_option maxRecDepth 8000 in
theorem d24 (ins:List TI) (node:Int) (hp:IncsProp ins) (hil:ins.length≤1048576) (hin:∀x∈ins,x.2.2.2.length≤1048576):Con Tryz.prog 98 [.sl (ins.map (fun t:TI=>V.agg [V.int .i64 t.1,V.int .i64 t.2.1,V.bool t.2.2.1,V.sl (t.2.2.2.map V.str)])),.int .i64 node] [] (.tup [.ref 0,.int .i64 (bif (opB ins) then b8l ins else 0),.bool (opB ins)]) [.arr ((b3l (opB ins) (ins++[(b7h ins node)])).map (fun t:TI=>V.agg [V.int .i64 t.1,V.int .i64 t.2.1,V.bool t.2.2.1,slN (t.2.2.2.map V.str)])) (b1v (b3l (opB ins) (ins++[(b7h ins node)])).length)]:=by
 refine b05 [.tmp 4,.tmp 5,.tmp 6] [] Tryz.func98 rfl rfl rfl (by simp [Tryz.ntmps98]) ?_
 intro Q0 n0 r0
 simp only [Tryz.ntmps98,b0l,Nat.reduceAdd]
 have T:=Tys.mk (ai Ty.t3 (ai Ty.t4 (ai Ty.t9 (ai Ty.t33 (ai Ty.t51 Ty.t99)))))
 have F:=Fc.mk True.intro
 refine yR [0,1] ⟨?_⟩;refine yR [0,1,7] ⟨?_⟩;refine f1r (A:=Unit) (fun u=>⟨[(0,.sl (ins.map (fun t:TI=>V.agg [V.int .i64 t.1,V.int .i64 t.2.1,V.bool t.2.2.1,V.sl (t.2.2.2.map V.str)]))),(1,.int .i64 node),(7,.int .i64 (b8l ins))],[],false,34,0⟩) (fun u=>True) ?_ ?_
 ·intro Q3 n3 e3 r3
  refine yR [0,1,7,10] ⟨?_⟩;refine b0d _ rfl ?_ ?_
  ·intro hc0
   have hlt:ins.length - 1 < ins.length:=by omega
   obtain ⟨⟨x0,x1,x2,x3⟩,hx⟩:∃x:TI,ins[ins.length - 1]? =some x:=⟨ins[ins.length - 1]'(by omega),List.getElem?_eq_getElem (by omega)⟩
   have hnm:b8l ins=x0+1:=by rw [b8l,hx]
   have hxb:=(hp.each _ (List.mem_of_getElem? hx)).num
   simp only [] at hxb
   have hkn:((ins.length:Int) - 1).toNat=ins.length - 1:=by omega
   have F:=Fc.mk (ai hkn (gdm hx))
   refine yV ⟨?_⟩;refine n3 () _ ?_ ?_
   ·trivial
   ·refine b0b [0,1,7] [] ⟨?_⟩
    rw [hnm]
  ·intro hc0
   have hn0:b8l ins=1:=by
    have h0:ins.length=0:=by omega
    obtain rfl:ins=[]:=List.length_eq_zero_iff.1 h0
    rfl
   refine c9s ?_;refine n3 () _ ?_ ?_
   ·trivial
   ·refine b0b [0,1,7] [] ⟨?_⟩
    rw [hn0]
 ·rintro u hok3
  have hu:True:=hok3
  refine b0c ?_;intros
  have F:=Fc.mk True.intro
  refine yR [0,1,7,25] ⟨?_⟩;refine b0d _ rfl ?_ ?_
  ·intro hc1
   have hB:(opB ins)=false:=by
    cases hq:(opB ins) with
    |false=>rfl
    |true=>
     exfalso
     rw [opB,Bool.and_eq_true,decide_eq_true_eq,decide_eq_true_eq] at hq
     first | omega | (simp at hc1;omega)
   refine b0c ?_;intro Q10 n10 e10 r10;refine yV ⟨?_⟩
   apply n10
   ·apply b1i (b0f [4,5,6] _)
    simp only [b0s,b0k,b0h,b0i,b0n,Nat.reduceEqDiff,reduceIte]
    exact b2s _ _
   try simp only [b1r,b1y,Nat.reduceEqDiff,reduceIte,List.set_cons_zero,List.set_cons_succ]
   refine zr ⟨?_⟩
   simp only [hB,b7b,List.map_nil,List.length_nil,c9k,cond_false]
   exact rta
  ·intro hc1
   have hB:(opB ins)=true:=by
    have h8:=hp.len
    have hq:ins.length < 8∧b8l ins≤999:=by first | omega | (simp at hc1;omega)
    rw [opB,decide_eq_true hq.1,decide_eq_true hq.2];rfl
   refine zn [0,1,7] ⟨?_⟩;refine b0c ?_;intro Q12 n12 e12 r12;refine yVc (c3a ins hil hin) ⟨?_⟩
   apply n12
   ·apply b1i (b0f [4,5,6] _)
    simp only [b0s,b0k,b0h,b0i,b0n,Nat.reduceEqDiff,reduceIte]
    first | exact d0n 2 ins.length _ rfl | exact b2s _ _
   try simp only [b1r,b1y,Nat.reduceEqDiff,reduceIte,List.set_cons_zero,List.set_cons_succ]
   refine zr ⟨?_⟩
   simp only [hB,b6i,cond_true]
   have hsn:ins.map (fun t:TI=>V.agg [V.int .i64 t.1,V.int .i64 t.2.1,V.bool t.2.2.1,slN (t.2.2.2.map V.str)])++[V.agg [V.int .i64 (b8l ins),V.int .i64 node,V.bool false,V.nsl]]=(ins++[(b7h ins node)]).map (fun t:TI=>V.agg [V.int .i64 t.1,V.int .i64 t.2.1,V.bool t.2.2.1,slN (t.2.2.2.map V.str)]):=by rw [List.map_append];rfl
   rw [←hsn,c08]
   exact rta
theorem f36 (ins:List TI) (node:Int) (hl:(ins++[b7h ins node]).length≤1048576) (hin:∀x∈ins++[b7h ins node],x.2.2.2.length≤1048576) (his:∀x∈ins++[b7h ins node],∀s∈x.2.2.2,s.size≤9223372036854775807) (hB:c2g (ins++[(b7h ins node)])=true):Con Tryz.prog 165 [.ref 0] [.arr (ins.map (fun t:TI=>V.agg [V.int .i64 t.1,V.int .i64 t.2.1,V.bool t.2.2.1,V.sl (t.2.2.2.map V.str)])++[V.agg [V.int .i64 (b8l ins),V.int .i64 node,V.bool false,V.nsl]]) (b1v ins.length)] (.tup [.ref 0,.bool true]) [.arr (ins.map (fun t:TI=>V.agg [V.int .i64 t.1,V.int .i64 t.2.1,V.bool t.2.2.1,V.sl (t.2.2.2.map V.str)])++[V.agg [V.int .i64 (b8l ins),V.int .i64 node,V.bool false,V.nsl]]) (b1v ins.length)]:=by
 refine b05 [.tmp 2,.tmp 3] [] Tryz.func165 rfl rfl rfl (by simp [Tryz.ntmps165]) ?_
 intro Q0 n0 r0
 simp only [Tryz.ntmps165,b0l,Nat.reduceAdd]
 have T:=Tys.mk (ai Ty.t3 (ai Ty.t4 (ai Ty.t9 (ai Ty.t33 (ai Ty.t51 Ty.t99)))))
 have F:=Fc.mk True.intro
 refine yR [0] ⟨?_⟩;refine b0c ?_;intros;refine yRc [0,6] (f0k (c06 (ins++[(b7h ins node)]) hl hin his)) ⟨?_⟩;refine b1z _ rfl ?_ ?_
 ·intro hc0
  exfalso;simp [hB] at hc0
 ·intro hc0
  try simp only [zC,reduceCtorEq] at hc0
  refine zn [0] ⟨?_⟩;refine yR [2,3] ⟨?_⟩;refine zr ⟨?_⟩
  exact rta
theorem f5y (ins:List TI) (node:Int) (hl:(ins++[b7h ins node]).length≤1048576) (hin:∀x∈ins++[b7h ins node],x.2.2.2.length≤1048576) (his:∀x∈ins++[b7h ins node],∀s∈x.2.2.2,s.size≤9223372036854775807) (hB:c2g (ins++[(b7h ins node)])=false):Con Tryz.prog 165 [.ref 0] [.arr (ins.map (fun t:TI=>V.agg [V.int .i64 t.1,V.int .i64 t.2.1,V.bool t.2.2.1,V.sl (t.2.2.2.map V.str)])++[V.agg [V.int .i64 (b8l ins),V.int .i64 node,V.bool false,V.nsl]]) (b1v ins.length)] (.tup [.ref 1,.bool false]) [.arr (ins.map (fun t:TI=>V.agg [V.int .i64 t.1,V.int .i64 t.2.1,V.bool t.2.2.1,V.sl (t.2.2.2.map V.str)])++[V.agg [V.int .i64 (b8l ins),V.int .i64 node,V.bool false,V.nsl]]) (b1v ins.length),.arr [] .flat]:=by
 refine b05 [.tmp 2,.tmp 3] [] Tryz.func165 rfl rfl rfl (by simp [Tryz.ntmps165]) ?_
 intro Q0 n0 r0
 simp only [Tryz.ntmps165,b0l,Nat.reduceAdd]
 have T:=Tys.mk (ai Ty.t3 (ai Ty.t4 (ai Ty.t9 (ai Ty.t33 (ai Ty.t51 Ty.t99)))))
 have F:=Fc.mk True.intro
 refine yR [0] ⟨?_⟩;refine b0c ?_;intros;refine yRc [0,6] (f0k (c06 (ins++[(b7h ins node)]) hl hin his)) ⟨?_⟩;refine b1z _ rfl ?_ ?_
 ·intro hc0
  try simp only [zC,reduceCtorEq] at hc0
  refine yR [2,3] ⟨?_⟩;refine zr ⟨?_⟩
  exact rta
 ·intro hc0
  exfalso;simp [hB] at hc0
set_option maxRecDepth 8000 in
theorem d27 (ins:List TI) (node:Int) (hp:IncsProp ins) (hil:ins.length≤1048576) (hin:∀x∈ins,x.2.2.2.length≤1048576) (hn:0≤node∧node≤13) (his:∀x∈ins,∀s∈x.2.2.2,s.size≤9223372036854775807):Con Tryz.prog 91 [.sl (ins.map (fun t:TI=>V.agg [V.int .i64 t.1,V.int .i64 t.2.1,V.bool t.2.2.1,V.sl (t.2.2.2.map V.str)])),.int .i64 node] [] (.tup [.ref 0,.int .i64 (bif (opB ins) then b8l ins else 0),.bool (opB ins)]) [.arr ((b3l (opB ins) (ins++[(b7h ins node)])).map (fun t:TI=>V.agg [V.int .i64 t.1,V.int .i64 t.2.1,V.bool t.2.2.1,V.sl (t.2.2.2.map V.str)])) (b1v (b3l (opB ins) (ins++[(b7h ins node)])).length)]:=by
 have hB0:c2g ins=true:=(c6e _).2 hp
 have hap:((decide (0≤node) && decide (node≤13)))=true:=by simp [hn]
 have hoi:=f05 hp hn
 refine b05 [.tmp 4,.tmp 5,.tmp 6] [(165,[0])] Tryz.func91 rfl rfl rfl (by simp [Tryz.ntmps91]) ?_
 intro Q0 n0 r0
 simp only [Tryz.ntmps91,b0l,Nat.reduceAdd]
 have T:=Tys.mk (ai Ty.t3 (ai Ty.t4 (ai Ty.t9 (ai Ty.t33 (ai Ty.t51 Ty.t99)))))
 have F:=Fc.mk True.intro
 refine yR [0,1] ⟨?_⟩;refine b0c ?_;intros;refine f4g [0,1,18] (c06 ins hil hin his) (c3z node) ⟨?_⟩;refine b1z _ rfl ?_ ?_
 ·intro hc0
  exfalso;simp [hB0,hn] at hc0
 ·intro hc0
  try simp only [zC,reduceCtorEq] at hc0
  refine zn [0,1] ⟨?_⟩;refine yR [0,1,7] ⟨?_⟩;refine f1r (A:=Unit) (fun u=>⟨[(0,.sl (ins.map (fun t:TI=>V.agg [V.int .i64 t.1,V.int .i64 t.2.1,V.bool t.2.2.1,V.sl (t.2.2.2.map V.str)]))),(1,.int .i64 node),(7,.int .i64 (b8l ins))],[],false,45,0⟩) (fun u=>True) ?_ ?_
  ·intro Q6 n6 e6 r6
   refine yR [0,1,7,8] ⟨?_⟩;refine yR [0,1,7,8,22] ⟨?_⟩;refine b0d _ rfl ?_ ?_
   ·intro hc1
    have hlt:ins.length - 1 < ins.length:=by omega
    obtain ⟨⟨x0,x1,x2,x3⟩,hx⟩:∃x:TI,ins[ins.length - 1]? =some x:=⟨ins[ins.length - 1]'(by omega),List.getElem?_eq_getElem (by omega)⟩
    have hnm:b8l ins=x0+1:=by rw [b8l,hx]
    have hxb:=(hp.each _ (List.mem_of_getElem? hx)).num
    simp only [] at hxb
    have hkn:((ins.length:Int) - 1).toNat=ins.length - 1:=by omega
    have F:=Fc.mk (ai hkn (gdm hx))
    refine yV ⟨?_⟩;refine n6 () _ ?_ ?_
    ·trivial
    ·refine b0b [0,1,7] [] ⟨?_⟩
     rw [hnm]
   ·intro hc1
    have hn0:b8l ins=1:=by
     have h0:ins.length=0:=by omega
     obtain rfl:ins=[]:=List.length_eq_zero_iff.1 h0
     rfl
    refine c9s ?_;refine n6 () _ ?_ ?_
    ·trivial
    ·refine b0b [0,1,7] [] ⟨?_⟩
     rw [hn0]
  ·rintro u hok6
   have hu:True:=hok6
   rcases Bool.eq_false_or_eq_true (opB ins) with hB | hB
   ·skip
    have hif:=f36 ins node (by rw [List.length_append,List.length_singleton];have:=hp.len;omega) (c98 hin (Nat.zero_le _)) (c98 his (fun _ h=>nomatch h)) (by rw [hoi,hB])
    refine b4y [7,9,10] ?_;intro K11 k11
    have F:=Fc.mk True.intro
    refine b6n ⟨?_⟩;refine zc (b3p ins hil hin) ⟨?_⟩;refine zq5 ⟨?_⟩;refine f0r ⟨?_⟩;refine b9d ⟨?_⟩;refine d52 ⟨?_⟩;refine zcl (hif) ⟨?_⟩;refine b6n ⟨?_⟩;refine b9j ⟨?_⟩;refine b9j ⟨?_⟩;refine b30 ⟨?_⟩;refine b30 ⟨?_⟩;refine k11 _ ?_;refine zk ⟨?_⟩;refine b0c ?_;intros;refine yR [7,9,42] ⟨?_⟩;refine b1z _ rfl ?_ ?_
    ·intro hc2
     exfalso;simp at hc2
    ·intro hc2
     try simp only [zC,reduceCtorEq] at hc2
     refine zn [7,9] ⟨?_⟩;refine b0c ?_;intro Q15 n15 e15 r15;refine yV ⟨?_⟩
     apply n15
     ·apply b1i (b0f [4,5,6] _)
      simp only [b0s,b0k,b0h,b0i,b0n,Nat.reduceEqDiff,reduceIte]
      exact b1i (f32 2 ins node _ rfl) (d0n 2 ins.length _ rfl)
     try simp only [b1r,b1y,Nat.reduceEqDiff,reduceIte,List.set_cons_zero,List.set_cons_succ]
     refine zr ⟨?_⟩
     simp only [hB,b6i,cond_true]
     rw [c08]
     exact rta
   ·skip
    have hif:=f5y ins node (by rw [List.length_append,List.length_singleton];have:=hp.len;omega) (c98 hin (Nat.zero_le _)) (c98 his (fun _ h=>nomatch h)) (by rw [hoi,hB])
    refine b4y [7,9,10] ?_;intro K17 k17
    have F:=Fc.mk True.intro
    refine b6n ⟨?_⟩;refine zc (b3p ins hil hin) ⟨?_⟩;refine zq5 ⟨?_⟩;refine f0r ⟨?_⟩;refine b9d ⟨?_⟩;refine d52 ⟨?_⟩;refine zcl (hif) ⟨?_⟩;refine b6n ⟨?_⟩;refine b9j ⟨?_⟩;refine b9j ⟨?_⟩;refine b30 ⟨?_⟩;refine b30 ⟨?_⟩;refine k17 _ ?_;refine zk ⟨?_⟩;refine b0c ?_;intros;refine yR [7,9,42] ⟨?_⟩;refine b1z _ rfl ?_ ?_
    ·intro hc2
     try simp only [zC,reduceCtorEq] at hc2
     refine b0c ?_;intro Q21 n21 e21 r21;refine yV ⟨?_⟩
     apply n21
     ·apply b1i (b0f [4,5,6] _)
      simp only [b0s,b0k,b0h,b0i,b0n,Nat.reduceEqDiff,reduceIte]
      exact b2s _ _
     try simp only [b1r,b1y,Nat.reduceEqDiff,reduceIte,List.set_cons_zero,List.set_cons_succ]
     refine zr ⟨?_⟩
     simp only [hB,b7b,List.map_nil,List.length_nil,c9k,cond_false]
     exact rta
    ·intro hc2
     exfalso;simp at hc2
set_option maxRecDepth 100000 in
theorem f18 (n:Int) (ss:List TS) (fl:List TA) (ins:List TI) (q:Nat) (x0:Int) (x1:Int) (x2:Bool) (x3:List ByteArray) (need:List Int) (hS:SendOK n ss fl ins q (x0,x1,x2,x3) need) (ws:List TW):Con Tryz.prog 86 [.ptr 0 0 0,.pv [.agg [.int .i64 n,.sl (ss.map (fun t:TS=>V.agg [V.int .i64 t.1,V.int .i64 t.2.1,V.int .i64 t.2.2]))]] 0 0,.int .i64 (Nat.cast q),.sl (need.map (V.int .i64))] [.box (.agg [slN (fl.map (fun t:TA=>V.agg [V.str t.1,V.int .i64 t.2.1,V.int .i64 t.2.2.1,V.int .i64 t.2.2.2.1,V.int .i64 t.2.2.2.2])),slN (ins.map (fun t:TI=>V.agg [V.int .i64 t.1,V.int .i64 t.2.1,V.bool t.2.2.1,slN (t.2.2.2.map V.str)])),slN (ws.map (fun t:TW=>V.agg [V.int .i64 t.1,V.sl (t.2.map (V.int .i64))]))]) .deep] (.tup [.ref 1,.ref 2]) [.box (.agg [slN ((chF n ss fl x1 need).map (fun t:TA=>V.agg [V.str t.1,V.int .i64 t.2.1,V.int .i64 t.2.2.1,V.int .i64 t.2.2.2.1,V.int .i64 t.2.2.2.2])),slN ((b5u q ins (chN n ss fl x1 need)).map (fun t:TI=>V.agg [V.int .i64 t.1,V.int .i64 t.2.1,V.bool t.2.2.1,slN (t.2.2.2.map V.str)])),slN (ws.map (fun t:TW=>V.agg [V.int .i64 t.1,V.sl (t.2.map (V.int .i64))]))]) .deep,.arr ((chN n ss fl x1 need).map V.str) .flat,.arr ((chL n ss fl x1 need).map (V.int .i64)) .flat]:=by
 have hil:=hS.il
 have hfl12:=hS.ds.hfl
 have hkl:=(List.getElem?_eq_some_iff.1 hS.at_).1
 have hin:∀x∈ins,x.2.2.2.length≤1048576:=fun x hx=>Nat.le_trans (hS.nl x hx) (by decide)
 have hnd2:=hS.node
 have hne2:=hS.nd4
 simp only [] at hnd2
 have hcl:=d5k (node:=x1) (need:=need) hS.ds
 have hco:=f5d (node:=x1) hS.ds hne2
 have hfk:b1v ins.length=.deep:=by unfold b1v;rw [if_neg (by omega)]
 have hnsf:(fl.map (fun t:TA=>V.agg [V.str t.1,V.int .i64 t.2.1,V.int .i64 t.2.2.1,V.int .i64 t.2.2.2.1,V.int .i64 t.2.2.2.2])).all V.noSl=true:=by rw [List.all_map,List.all_eq_true];intro a _;rfl
 have hine:ins.map (fun t:TI=>V.agg [V.int .i64 t.1,V.int .i64 t.2.1,V.bool t.2.2.1,slN (t.2.2.2.map V.str)])≠[]:=fun e=>by
  have e2:=congrArg List.length e
  rw [List.length_map,List.length_nil] at e2
  omega
 have hms:(chO n ss fl x1 need).foldl (c5l fl) need=(chL n ss fl x1 need):=f2n fl need _
 have hok:∀i∈(chO n ss fl x1 need),∃(k:Nat) (a:TA),i=(k:Int)∧fl[k]? =some a∧0≤a.2.1∧a.2.1≤3:=fun i hi=>by
  obtain ⟨q,a,q1,q2,_,_,q5,q6⟩:=f17 hS.ds hne2 hi
  exact ⟨q,a,q1,q2,q5,q6⟩
 have hcn:=f3r hS
 have hce:=f4e hS
 simp only [] at hcn hce
 have hso12:(b4l (chO n ss fl x1 need)).length≤12:=by rw [hcn];exact hcl
 refine f45 [.tmp 8,.tmp 9] [(160,[0]),(161,[0])] Tryz.func86 rfl rfl rfl (by simp [Tryz.ntmps86]) _ (d30 0 (fl.map (fun t:TA=>V.agg [V.str t.1,V.int .i64 t.2.1,V.int .i64 t.2.2.1,V.int .i64 t.2.2.2.1,V.int .i64 t.2.2.2.2])) (ins.map (fun t:TI=>V.agg [V.int .i64 t.1,V.int .i64 t.2.1,V.bool t.2.2.1,slN (t.2.2.2.map V.str)])) (ws.map (fun t:TW=>V.agg [V.int .i64 t.1,V.sl (t.2.map (V.int .i64))])) .deep (b1v ws.length) rfl hnsf (fun e=>absurd e hine) (fun _=>rfl) d58 d4v rfl) ?_
 intro Q0 n0 r0
 simp only [Tryz.ntmps86,b0l,Nat.reduceAdd,List.set_cons_zero,List.set_cons_succ,List.cons_append,List.nil_append,List.length_cons,List.length_nil]
 have T:=Tys.mk (ai Ty.t3 (ai Ty.t4 (ai Ty.t9 (ai Ty.t32 (ai Ty.t33 (ai Ty.t34 (ai Ty.t36 (ai Ty.t39 (ai Ty.t41 (ai Ty.t51 (ai Ty.t75 (ai Ty.t96 (ai Ty.t99 (ai Ty.t102 (ai Ty.t108 Ty.t169)))))))))))))))
 have F:=Fc.mk True.intro
 have F:=Fc.mk (ai @Int.toNat_natCast (gdm hS.at_))
 refine yR [0,1,2,3] ⟨?_⟩;refine b0c ?_;intro Q2 n2 e2 r2;refine b1p (by kernel_rfl) ?_;intro K3 q3 k3
 show b14 _ _ _ _ 16 (Array.replicate 16 false) _
 refine b0o q3 true 0 15 ?_;refine b0o q3 true 1 16 ?_;refine b37 q3 true 2 17 ?_;refine b0p q3 true 3 18 ?_;refine b2w q3 true 4 19 ?_;refine b0o q3 true 5 20 ?_;refine b37 q3 true 6 21 ?_;refine b0p q3 true 7 22 ?_;refine b2w q3 true 8 23 ?_;refine b0o q3 true 9 24 ?_;refine b07 q3 true 10 25 ?_;refine b0p q3 true 11 26 ?_;refine b2w q3 true 12 27 ?_;refine b0o q3 true 13 28 ?_;refine zoc 14 (d9s n ss fl x1 need hS.ds hnd2 hne2) ⟨?_⟩;refine b0t 15 ⟨?_⟩;refine b0j (by kernel_rfl) ?_;refine k3 _ ?_;refine n2 _ _ (b0f [0,2,3,10] _) ?_;refine zk ⟨?_⟩;refine yRc [0,2,10,11] (d44 fl (chO n ss fl x1 need) need (by omega) hco hok hne2) ⟨?_⟩;refine yRl [0,2,10,11] (d6h (chO n ss fl x1 need) (by omega)) ⟨?_⟩;refine yR [0,2,10,11,12] ⟨?_⟩;refine b0c ?_;intros;refine yR [0,2,11,12,39,40,41] ⟨?_⟩;refine b0g ?_;intros;refine b08 (fun j=>⟨[(0,.ptr 0 0 0),(2,.int .i64 (Nat.cast q)),(11,.ref 4),(12,.ref 5),(39,.ref 6),(40,.int .i64 (b4l (chO n ss fl x1 need)).length),(41,.int .i64 (Nat.cast j))],[.box (.agg [.ref 1,.ref 2,.ref 3]) .mix,.arr ((b7p fl ((b4l (chO n ss fl x1 need)).take j)).map (fun t:TA=>V.agg [V.str t.1,V.int .i64 t.2.1,V.int .i64 t.2.2.1,V.int .i64 t.2.2.2.1,V.int .i64 t.2.2.2.2])) .flat,.arr ((b5u q ins ((chN n ss fl x1 need).take j)).map (fun t:TI=>V.agg [V.int .i64 t.1,V.int .i64 t.2.1,V.bool t.2.2.1,slN (t.2.2.2.map V.str)])) .deep,.arr (ws.map (fun t:TW=>V.agg [V.int .i64 t.1,V.sl (t.2.map (V.int .i64))])) (b1v ws.length),.arr ((chL n ss fl x1 need).map (V.int .i64)) .flat,.arr (((chN n ss fl x1 need).take j).map V.str) .flat,.arr ((b4l (chO n ss fl x1 need)).map (V.int .i64)) .flat],false,81,0⟩) (fun j=>j≤(b4l (chO n ss fl x1 need)).length) (fun j=>(b4l (chO n ss fl x1 need)).length - j) 0 ?_ ?_ ?_
 ·refine b4j [0,2,11,12,39,40,41] [0,1,2,3,7,8,6] ⟨?_⟩
  rw [List.take_zero,List.take_zero,d3m hS.at_,hms];rfl
 ·exact Nat.zero_le _
 ·rintro j hok10 Q10 n10 e10 r10
  have hj1:j≤(b4l (chO n ss fl x1 need)).length:=hok10
  refine yR [0,2,11,12,39,40,41,42] ⟨?_⟩;refine b0c ?_;intros;refine b0d _ rfl ?_ ?_
  ·intro hc0
   have hlt:j < (b4l (chO n ss fl x1 need)).length:=by omega
   obtain ⟨i,hi⟩:∃i,(b4l (chO n ss fl x1 need))[j]? =some i:=⟨_,List.getElem?_eq_getElem hlt⟩
   obtain ⟨m,⟨a0,a1,a2,a3,a4⟩,rfl,hm,ha,hst,hs⟩:=f0o hS hi
   simp only [] at hs hst ha
   obtain ⟨h1,h2,h3,h4,h5,h6,h7⟩:=d13 hS hs
   have hal:(b5u q ins ((chN n ss fl x1 need).take j)).length=ins.length:=c8s ..
   have hcp:(b7p fl ((b4l (chO n ss fl x1 need)).take j)).length=fl.length:=d2a ..
   have hcp2:(b7p fl ((b4l (chO n ss fl x1 need)).take (j+1))).length=fl.length:=d2a ..
   have hsm:((b7p fl ((b4l (chO n ss fl x1 need)).take j)).map (fun t:TA=>V.agg [V.str t.1,V.int .i64 t.2.1,V.int .i64 t.2.2.1,V.int .i64 t.2.2.2.1,V.int .i64 t.2.2.2.2])).set m (V.agg [V.str a0,V.int .i64 a1,V.int .i64 a2,V.int .i64 a3,V.int .i64 1])=(b7p fl ((b4l (chO n ss fl x1 need)).take (j+1))).map (fun t:TA=>V.agg [V.str t.1,V.int .i64 t.2.1,V.int .i64 t.2.2.1,V.int .i64 t.2.2.2.1,V.int .i64 t.2.2.2.2]):=by rw [hst,List.map_set];rfl
   have hgN:(b7p fl ((b4l (chO n ss fl x1 need)).take (j+1)))[m]? =some (a0,a1,a2,a3,1):=by rw [hst];exact List.getElem?_set_self (by omega)
   have htn:((chN n ss fl x1 need).take j).map V.str++[V.str a0]=((chN n ss fl x1 need).take (j+1)).map V.str:=(b3n (f:=V.str) hs).symm
   refine zn [0,2,11,12,39,40,41] ⟨?_⟩;refine b0c ?_;intros;refine b0g ?_;intros
   have F:=Fc.mk (ai @Int.toNat_natCast (ai (gdm hS.at_) (ai (gdm hi) (ai hcp (ai (gdm ha) (ai hsm (ai hcp2 (ai (gdm hgN) hal))))))))
   refine yR [0,2,11,12,14,39,40,41] ⟨?_⟩;refine yR [0,2,11,12,14,39,40,41] ⟨?_⟩;refine b0c ?_;intro Q18 n18 e18 r18;refine b1p (by kernel_rfl) ?_;intro K19 q19 k19
   show b14 _ _ _ _ 15 (Array.replicate 15 false) _
   refine b0o q19 true 0 52 ?_;refine b37 q19 true 1 53 ?_;refine b0p q19 true 2 54 ?_;refine b2w q19 true 3 55 ?_;refine b0o q19 true 4 56 ?_;refine b07 q19 true 5 57 ?_;refine b0o q19 true 6 58 ?_;refine b37 q19 true 7 59 ?_;refine b0p q19 true 8 60 ?_;refine b2w q19 true 9 61 ?_;refine b0o q19 true 10 62 ?_;refine b07 q19 true 11 63 ?_;refine b0p q19 true 12 64 ?_;refine b2w q19 true 13 65 ?_;refine b4r 14 rfl (by kernel_rfl) ?_;intro K k
   simp only [zE,zM,b03,b0w,b0m,Nat.reduceEqDiff,reduceIte,Nat.reduceLT,implies_true,forall_const,reduceCtorEq,V.ofValue,V.ofScalar,V.un,V.gd,b1k,b3s,b4p,Tryz.underlying3,Ty.c3,Ty.a3,Ty.b3,Ty.s3,Tryz.underlying4,Ty.c4,Ty.a4,Ty.b4,Ty.s4,Tryz.underlying9,Ty.c9,Ty.a9,Ty.b9,Ty.s9,Tryz.underlying51,Ty.c51,Ty.a51,Ty.b51,Ty.s51,Tryz.underlying99,Ty.c99,Ty.a99,Ty.b99,Ty.s99]
   repeat (refine ai (by first | rfl | (intros;simp_all;done)) ?_)
   refine b4x _ (f5t (b5u q ins ((chN n ss fl x1 need).take j)) q a0 x0 x1 x2 (b3y x3 ((chN n ss fl x1 need).take j)) h4 h2 h1 (by omega)) (d4i rfl rfl) rfl ⟨by simp [Blk.kindIs,b0v,b09],by simp⟩ (by first | exact .inl rfl | exact .inr (by simp [Blk.kindIs])) ⟨rfl,by simp [Blk.kindIs,b2g,b44]⟩ ?_;refine k _ ?_;clear k K
   simp only [zY,zW,b0m,Nat.reduceEqDiff,reduceIte,b7f,c8k,V.ren,V.renL,List.set_cons_zero,List.set_cons_succ,Nat.reduceAdd]
   refine b0j (by kernel_rfl) ?_;refine k19 _ ?_;refine n18 _ _ (b0f [0,2,11,12,14,39,40,41] _) ?_;refine zk ⟨?_⟩;refine yQ [0,2,11,12,39,40,41] ⟨?_⟩;refine yV ⟨?_⟩;refine n10 _ (j+1) ?_ ?_ ?_
   ·refine b4j [0,2,11,12,39,40,41] [0,1,2,3,4,8,6] ⟨?_⟩
    rw [h7,htn];rfl
   ·exact hlt
   ·show _ < _;omega
  ·intro hc0
   have hje:(chN n ss fl x1 need).take j=(chN n ss fl x1 need):=List.take_of_length_le (by omega)
   have hjs:(b4l (chO n ss fl x1 need)).take j=(b4l (chO n ss fl x1 need)):=List.take_of_length_le (by omega)
   refine zn [11,12] ⟨?_⟩;refine yR [8,9] ⟨?_⟩;refine f65 ?_;refine r0 _ _ (d7r (c9d 0 1 2 3 _ _ _ .deep (b1v _) rfl rfl rfl rfl (.inr rfl) (b9n _) (by decide) (by decide) (by decide) (by decide) (by decide) (by decide))) ?_
   try simp only [List.set_cons_zero,List.set_cons_succ,List.cons_append,List.nil_append,List.length_cons,List.length_nil,Nat.reduceAdd]
   refine zf ⟨?_⟩
   rw [hje,hjs,hce]
   exact rta
def tkB (n:Int) (ss:List TS) (fl:List TA) (ins:List TI) (ws:List TW) (tb:List (Int×Int×Int×Int×Int×Int×List Int)) (node a b c:Int):Bool:=c2h n ss fl ins ws && nfB tb a b c && c0p n node && opB ins && (tkZ n ss fl node (nfL tb a b c) || decide (ws.length < 8))
structure TkOK (n:Int) (ss:List TS) (fl:List TA) (ins:List TI) (ws:List TW) (tb:List (Int×Int×Int×Int×Int×Int×List Int)) (node a b c:Int):Prop where
  p:CtlProp n ss fl ins ws
  nf:nfB tb a b c=true
  nd:0≤node∧node < n
  nn:n≤14
  need:(nfL tb a b c).length=4∧∀v∈(nfL tb a b c),0≤v∧v≤6
theorem f5m {n:Int} {ss:List TS} {fl:List TA} {ins:List TI} {ws:List TW} {tb:List (Int×Int×Int×Int×Int×Int×List Int)} {node a b c:Int} (h1:c2h n ss fl ins ws=true) (h2:nfB tb a b c=true) (h3:c0p n node=true):TkOK n ss fl ins ws tb node a b c:=by
  have hp:=(d04 n ss fl ins ws).1 h1
  have ht:=d1u h1
  have hn:1≤n∧n≤14:=by
    simp only [b8o,c30,Bool.and_eq_true,decide_eq_true_eq] at ht
    exact ht.1.1
  have h2b:=h2
  rw [nfB,Bool.and_eq_true,Bool.and_eq_true,decide_eq_true_eq] at h2b
  simp only [c0p,Bool.and_eq_true,decide_eq_true_eq,IntKind.wrap_i64] at h3
  exact ⟨hp,h2,⟨h3.1,by omega⟩,hn.2,d9l h2b.1.1 h2b.2⟩
theorem f5z {n:Int} {ss:List TS} {fl:List TA} {ins:List TI} {ws:List TW} {node:Int} {need:List Int} (h:tkZ n ss fl node need=true):tkW n ss fl ins ws node need=ws:=by rw [tkW,if_pos h]
theorem f52 {n:Int} {ss:List TS} {fl:List TA} {ins:List TI} {ws:List TW} {node:Int} {need:List Int} (h:tkZ n ss fl node need=false):tkW n ss fl ins ws node need=ws++[(b8l ins,chL n ss fl node need)]:=by rw [tkW,if_neg (by rw [h];decide)]
theorem f1e {s:ByteArray} (h:b5t s=true):s.size≤9223372036854775807:=by simp [b5t] at h;omega
theorem d2w {n:Int} {ss:List TS} {fl:List TA} {ins:List TI} {ws:List TW} (h:CtlProp n ss fl ins ws):fl.length≤1048576∧(∀t∈fl,t.1.size≤9223372036854775807)∧ins.length≤1048576∧(∀x∈ins,x.2.2.2.length≤1048576)∧∀x∈ins,∀s∈x.2.2.2,s.size≤9223372036854775807:=by
  have h1:=h.fl12
  have h2:=h.inc.len
  refine ⟨by omega,fun t ht=> ?_,by omega,fun x hx=> ?_,fun x hx s hs=>f1e ((h.inc.each x hx).nm s hs)⟩
  · have:=h.ap t ht
    simp only [c49,Bool.and_eq_true] at this
    exact f1e this.1.1.1.1
  · have:=(h.inc.each x hx).len;omega
theorem f6v {n:Int} {ss:List TS} {fl:List TA} {ins:List TI} {ws:List TW} {node:Int} {need:List Int} (h:ws.length≤8) (hw:∀x∈ws,x.2.length≤1048576) (hd:need.length=4∧∀v∈need,0≤v∧v≤6):(tkW n ss fl ins ws node need).length≤1048576∧∀x∈tkW n ss fl ins ws node need,x.2.length≤1048576:=by
  cases hz:tkZ n ss fl node need with
  | true=>rw [f5z hz];exact ⟨by omega,hw⟩
  | false=>
    rw [f52 hz]
    refine ⟨by rw [List.length_append,List.length_singleton];omega,fun x hx=> ?_⟩
    rcases List.mem_append.1 hx with e | e
    · exact hw x e
    · rw [List.mem_singleton] at e;subst e
      have:=(c2o (n:=n) (ss:=ss) (fl:=fl) (node:=node) hd).1
      show (chL n ss fl node need).length≤_
      omega
theorem d3j (n:Int) (ss:List TS) (fl:List TA) (ins:List TI) (ws:List TW) (hs:ss.length≤1048576) (hl:fl.length≤1048576) (hls:∀t∈fl,t.1.size≤9223372036854775807) (hil:ins.length≤1048576) (hin:∀x∈ins,x.2.2.2.length≤1048576) (his:∀x∈ins,∀s∈x.2.2.2,s.size≤9223372036854775807) (hwl:ws.length≤1048576) (hwn:∀x∈ws,x.2.length≤1048576) (hB:(c2h n ss fl ins ws)=true):Con Tryz.prog 92 [.agg [.int .i64 n,.sl (ss.map (fun t:TS=>V.agg [V.int .i64 t.1,V.int .i64 t.2.1,V.int .i64 t.2.2]))],.agg [.ref 0,.ref 1,.ref 2]] [.arr (fl.map (fun t:TA=>V.agg [V.str t.1,V.int .i64 t.2.1,V.int .i64 t.2.2.1,V.int .i64 t.2.2.2.1,V.int .i64 t.2.2.2.2])) .flat,.arr (ins.map (fun t:TI=>V.agg [V.int .i64 t.1,V.int .i64 t.2.1,V.bool t.2.2.1,V.sl (t.2.2.2.map V.str)])) (b1v ins.length),.arr (ws.map (fun t:TW=>V.agg [V.int .i64 t.1,V.sl (t.2.map (V.int .i64))])) (b1v ws.length)] (.tup [.agg [.ref 0,.ref 1,.ref 2],.bool true]) [.arr (fl.map (fun t:TA=>V.agg [V.str t.1,V.int .i64 t.2.1,V.int .i64 t.2.2.1,V.int .i64 t.2.2.2.1,V.int .i64 t.2.2.2.2])) .flat,.arr (ins.map (fun t:TI=>V.agg [V.int .i64 t.1,V.int .i64 t.2.1,V.bool t.2.2.1,V.sl (t.2.2.2.map V.str)])) (b1v ins.length),.arr (ws.map (fun t:TW=>V.agg [V.int .i64 t.1,V.sl (t.2.map (V.int .i64))])) (b1v ws.length)]:=by
 refine b05 [.cell 4 36,.tmp 5] [] Tryz.func92 rfl rfl rfl (by simp [Tryz.ntmps92]) ?_
 intro Q0 n0 r0
 simp only [Tryz.ntmps92,b0l,Nat.reduceAdd]
 have T:=Tys.mk (ai Ty.t3 (ai Ty.t4 (ai Ty.t9 (ai Ty.t32 (ai Ty.t33 (ai Ty.t34 (ai Ty.t36 (ai Ty.t39 (ai Ty.t41 (ai Ty.t51 (ai Ty.t75 (ai Ty.t96 (ai Ty.t99 (ai Ty.t102 Ty.t169))))))))))))))
 have F:=Fc.mk True.intro
 refine yR [2,3,4] ⟨?_⟩;refine b0c ?_;intros;refine yRc [3,4,9] (c4x n ss fl ins ws hs hl hls hil hin his hwl hwn) ⟨?_⟩;refine b1z _ rfl ?_ ?_
 ·intro hc0
  exfalso;simp [hB] at hc0
 ·intro hc0
  try simp only [zC,reduceCtorEq] at hc0
  refine zn [3,4] ⟨?_⟩;refine yR [4,5] ⟨?_⟩;refine zq3 ⟨?_⟩
  exact rta
theorem f4c (n:Int) (ss:List TS) (fl:List TA) (ins:List TI) (ws:List TW) (hs:ss.length≤1048576) (hl:fl.length≤1048576) (hls:∀t∈fl,t.1.size≤9223372036854775807) (hil:ins.length≤1048576) (hin:∀x∈ins,x.2.2.2.length≤1048576) (his:∀x∈ins,∀s∈x.2.2.2,s.size≤9223372036854775807) (hwl:ws.length≤1048576) (hwn:∀x∈ws,x.2.length≤1048576) (hB:(c2h n ss fl ins ws)=false):Con Tryz.prog 92 [.agg [.int .i64 n,.sl (ss.map (fun t:TS=>V.agg [V.int .i64 t.1,V.int .i64 t.2.1,V.int .i64 t.2.2]))],.agg [.ref 0,.ref 1,.ref 2]] [.arr (fl.map (fun t:TA=>V.agg [V.str t.1,V.int .i64 t.2.1,V.int .i64 t.2.2.1,V.int .i64 t.2.2.2.1,V.int .i64 t.2.2.2.2])) .flat,.arr (ins.map (fun t:TI=>V.agg [V.int .i64 t.1,V.int .i64 t.2.1,V.bool t.2.2.1,V.sl (t.2.2.2.map V.str)])) (b1v ins.length),.arr (ws.map (fun t:TW=>V.agg [V.int .i64 t.1,V.sl (t.2.map (V.int .i64))])) (b1v ws.length)] (.tup [.agg [.ref 3,.ref 4,.ref 5],.bool false]) [.arr (fl.map (fun t:TA=>V.agg [V.str t.1,V.int .i64 t.2.1,V.int .i64 t.2.2.1,V.int .i64 t.2.2.2.1,V.int .i64 t.2.2.2.2])) .flat,.arr (ins.map (fun t:TI=>V.agg [V.int .i64 t.1,V.int .i64 t.2.1,V.bool t.2.2.1,V.sl (t.2.2.2.map V.str)])) (b1v ins.length),.arr (ws.map (fun t:TW=>V.agg [V.int .i64 t.1,V.sl (t.2.map (V.int .i64))])) (b1v ws.length),.arr [] .flat,.arr [] .flat,.arr [] .flat]:=by
 refine b05 [.cell 4 36,.tmp 5] [] Tryz.func92 rfl rfl rfl (by simp [Tryz.ntmps92]) ?_
 intro Q0 n0 r0
 simp only [Tryz.ntmps92,b0l,Nat.reduceAdd]
 have T:=Tys.mk (ai Ty.t3 (ai Ty.t4 (ai Ty.t9 (ai Ty.t32 (ai Ty.t33 (ai Ty.t34 (ai Ty.t36 (ai Ty.t39 (ai Ty.t41 (ai Ty.t51 (ai Ty.t75 (ai Ty.t96 (ai Ty.t99 (ai Ty.t102 Ty.t169))))))))))))))
 have F:=Fc.mk True.intro
 refine yR [2,3,4] ⟨?_⟩;refine b0c ?_;intros;refine yRc [3,4,9] (c4x n ss fl ins ws hs hl hls hil hin his hwl hwn) ⟨?_⟩;refine b1z _ rfl ?_ ?_
 ·intro hc0
  try simp only [zC,reduceCtorEq] at hc0
  refine yR [4,5] ⟨?_⟩;refine zq3 ⟨?_⟩
  exact rta
 ·intro hc0
  exfalso;simp [hB] at hc0
set_option maxRecDepth 100000 in
theorem d3e (n:Int) (ss:List TS) (fl:List TA) (ins:List TI) (ws:List TW) (tb:List (Int×Int×Int×Int×Int×Int×List Int)) (node a b c:Int) (htb:tb.length≤1048576) (htbs:∀t∈tb,t.2.2.2.2.2.2.length≤1048576) (hs:ss.length≤1048576) (hl:fl.length≤1048576) (hls:∀t∈fl,t.1.size≤9223372036854775807) (hil:ins.length≤1048576) (hin:∀x∈ins,x.2.2.2.length≤1048576) (his:∀x∈ins,∀s∈x.2.2.2,s.size≤9223372036854775807) (hwl:ws.length≤1048576) (hwn:∀x∈ws,x.2.length≤1048576):Con Tryz.prog 27 [.agg [.int .i64 n,.sl (ss.map (fun t:TS=>V.agg [V.int .i64 t.1,V.int .i64 t.2.1,V.int .i64 t.2.2]))],.sl (tb.map (fun t:Int×Int×Int×Int×Int×Int×List Int=>V.agg [V.int .i64 t.1,V.int .i64 t.2.1,V.int .i64 t.2.2.1,V.int .i64 t.2.2.2.1,V.int .i64 t.2.2.2.2.1,V.int .i64 t.2.2.2.2.2.1,V.sl (t.2.2.2.2.2.2.map (V.int .i64))])),.agg [.sl (fl.map (fun t:TA=>V.agg [V.str t.1,V.int .i64 t.2.1,V.int .i64 t.2.2.1,V.int .i64 t.2.2.2.1,V.int .i64 t.2.2.2.2])),.sl (ins.map (fun t:TI=>V.agg [V.int .i64 t.1,V.int .i64 t.2.1,V.bool t.2.2.1,V.sl (t.2.2.2.map V.str)])),.sl (ws.map (fun t:TW=>V.agg [V.int .i64 t.1,V.sl (t.2.map (V.int .i64))]))],.int .i64 node,.agg [.int .i64 a,.int .i64 b,.int .i64 c]] [] (.tup [.agg [.ref 0,.ref 1,.ref 2],.int .i64 (bif (tkB n ss fl ins ws tb node a b c) then b8l ins else 0),.bool (tkB n ss fl ins ws tb node a b c)]) [.arr ((b3l (tkB n ss fl ins ws tb node a b c) (chF n ss fl node (nfL tb a b c))).map (fun t:TA=>V.agg [V.str t.1,V.int .i64 t.2.1,V.int .i64 t.2.2.1,V.int .i64 t.2.2.2.1,V.int .i64 t.2.2.2.2])) .flat,.arr ((b3l (tkB n ss fl ins ws tb node a b c) (tkI n ss fl ins node (nfL tb a b c))).map (fun t:TI=>V.agg [V.int .i64 t.1,V.int .i64 t.2.1,V.bool t.2.2.1,V.sl (t.2.2.2.map V.str)])) (b1v (b3l (tkB n ss fl ins ws tb node a b c) (tkI n ss fl ins node (nfL tb a b c))).length),.arr ((b3l (tkB n ss fl ins ws tb node a b c) (tkW n ss fl ins ws node (nfL tb a b c))).map (fun t:TW=>V.agg [V.int .i64 t.1,V.sl (t.2.map (V.int .i64))])) (b1v (b3l (tkB n ss fl ins ws tb node a b c) (tkW n ss fl ins ws node (nfL tb a b c))).length)]:=by
 refine b05 [.cell 10 36,.tmp 11,.tmp 12] [(92,[1])] Tryz.func27 rfl rfl rfl (by simp [Tryz.ntmps27]) ?_
 intro Q0 n0 r0
 simp only [Tryz.ntmps27,b0l,Nat.reduceAdd]
 have T:=Tys.mk (ai Ty.t3 (ai Ty.t4 (ai Ty.t9 (ai Ty.t32 (ai Ty.t33 (ai Ty.t34 (ai Ty.t36 (ai Ty.t39 (ai Ty.t41 (ai Ty.t51 (ai Ty.t63 (ai Ty.t65 (ai Ty.t75 (ai Ty.t96 (ai Ty.t99 (ai Ty.t102 (ai Ty.t138 Ty.t169)))))))))))))))))
 have F:=Fc.mk True.intro
 refine yR [1,3,5,7,9,10] ⟨?_⟩;refine yRc [3,5,7,10,13,14] (c8t tb a b c htb htbs) ⟨?_⟩;refine b0c ?_;intros;refine f4g [3,5,7,10,13,41] (c4x n ss fl ins ws hs hl hls hil hin his hwl hwn) (d7y n ss node hs) ⟨?_⟩;refine b0d _ rfl ?_ ?_
 ·intro hc0
  have hB:(tkB n ss fl ins ws tb node a b c)=false:=by
   cases hq:(tkB n ss fl ins ws tb node a b c) with
   |false=>rfl
   |true=>
    exfalso
    simp only [tkB,Bool.and_eq_true] at hq
    have q6:=d1u hq.1.1.1.1
    simp [hq.1.1.1.1,hq.1.1.1.2,hq.1.1.2,q6] at hc0
  refine yR [10,11,12] ⟨?_⟩;refine zq3 ⟨?_⟩
  simp only [hB,b7b,List.map_nil,List.length_nil,c3u,cond_false]
  exact rta
 ·intro hc0
  have hq:(c2h n ss fl ins ws)=true∧nfB tb a b c=true∧c0p n node=true:=by
   cases q1:(c2h n ss fl ins ws)<;>cases q2:nfB tb a b c<;>cases q3:c0p n node<;>simp [q1,q2,q3] at hc0⊢
  have hK:=f5m (n:=n) (ss:=ss) (fl:=fl) (ins:=ins) (ws:=ws) (tb:=tb) (node:=node) (a:=a) (b:=b) (c:=c) hq.1 hq.2.1 hq.2.2
  have h8:=hK.p.ws8
  have hi8:=hK.p.inc.len
  have hni:=hK.p.inc
  have h12:=hK.p.fl12
  have hnd:=hK.need
  have hNF:=hK.nf
  simp only [hNF,b6i]
  refine zn [3,5,7,10,13] ⟨?_⟩;refine yRc [5,7,10,13,15,16,17] (d27 ins node hni hil hin ⟨hK.nd.1,by have:=hK.nd.2;have:=hK.nn;omega⟩ his) ⟨?_⟩;refine b0c ?_;intros;refine yR [5,7,10,13,15,16,52] ⟨?_⟩;refine b0d _ rfl ?_ ?_
  ·intro hc1
   have hB:(tkB n ss fl ins ws tb node a b c)=false:=by
    have q:opB ins=false:=by simpa using hc1
    rw [tkB,q];simp
   refine yR [10,11,12] ⟨?_⟩;refine zq3 ⟨?_⟩
   simp only [hB,b7b,List.map_nil,List.length_nil,c3u,cond_false]
   exact rta
  ·intro hc1
   have ho:opB ins=true:=by
    cases q:opB ins<;>simp [q] at hc1⊢
   obtain ⟨hSx,hkp,hck⟩:SendOK n ss fl (ins++[b7h ins node]) ins.length (b8l ins,node,false,[]) (nfL tb a b c)∧CtlProp n ss (chF n ss fl node (nfL tb a b c)) (tkI n ss fl ins node (nfL tb a b c)) ws∧c2h n ss (chF n ss fl node (nfL tb a b c)) (tkI n ss fl ins node (nfL tb a b c)) (tkW n ss fl ins ws node (nfL tb a b c))=(tkZ n ss fl node (nfL tb a b c) || decide (ws.length < 8)):=⟨f22 hK.p hK.nd hK.nn ho hnd,d0d hK.p hK.nd hK.nn ho hnd,d68 hK.p hK.nd hK.nn ho hnd⟩
   have hBZ:(tkB n ss fl ins ws tb node a b c)=(tkZ n ss fl node (nfL tb a b c) || decide (ws.length < 8)):=by rw [tkB,hq.1,hq.2.1,hq.2.2,ho];rfl
   have hjl:(ins++[b7h ins node]).length=ins.length+1:=by rw [List.length_append,List.length_singleton]
   have hjs:=c08 ins (b7h ins node)
   have hti:(tkI n ss fl ins node (nfL tb a b c))=b5u ins.length (ins++[b7h ins node]) (chN n ss fl node (nfL tb a b c)):=rfl
   have htl:(tkI n ss fl ins node (nfL tb a b c)).length=ins.length+1:=f5b
   have hcl:=c2o (n:=n) (ss:=ss) (fl:=fl) (node:=node) hnd
   have hin2:∀x∈ins++[b7h ins node],x.2.2.2.length≤1048576:=c98 hin (Nat.zero_le _)
   simp only [ho,b6i,cond_true]
   generalize hjn:ins++[b7h ins node]=jn at hSx hjl hjs hti hin2⊢
   have hlm:(jn.length:Int) - 1=(ins.length:Int):=by omega
   obtain ⟨hl2,hls2,hil2,hin3,his3⟩:=d2w hkp
   obtain ⟨hwl3,hwn3⟩:=f6v (n:=n) (ss:=ss) (fl:=fl) (ins:=ins) (node:=node) h8 hwn hnd
   refine zn [5,7,10,13,15,16] ⟨?_⟩
   have F:=Fc.mk hlm
   refine yRc [5,10,13,15,16,18] (d19 fl ins ws hl hil hin hwl hwn) ⟨?_⟩;refine yR [5,10,13,15,16,18] ⟨?_⟩;refine yRc [5,10,16,18,20] (d71 n ss fl jn ws ins.length (b8l ins) node false [] (nfL tb a b c) hSx hwl hwn) ⟨?_⟩;refine b0c ?_;intro Q15 n15 e15 r15;refine yRc [5,10,16,18,20,71] (c7d (chL n ss fl node (nfL tb a b c)) 0 0 (by omega)) ⟨?_⟩;refine b0d _ rfl ?_ ?_
   ·intro hc2
    have hz:tkZ n ss fl node (nfL tb a b c)=false:=by
     rw [tkZ]
     first | exact hc2 | simpa using hc2 | simpa [inR] using hc2
    have hW:=f52 (ins:=ins) (ws:=ws) hz
    have hsn:ws.map (fun t:TW=>V.agg [V.int .i64 t.1,V.sl (t.2.map (V.int .i64))])++[V.agg [V.int .i64 (b8l ins),V.sl ((chL n ss fl node (nfL tb a b c)).map (V.int .i64))]]=(ws++[(b8l ins,chL n ss fl node (nfL tb a b c))]).map (fun t:TW=>V.agg [V.int .i64 t.1,V.sl (t.2.map (V.int .i64))]):=by rw [List.map_append];rfl
    have hwl2:(ws++[(b8l ins,chL n ss fl node (nfL tb a b c))]).length=ws.length+1:=by rw [List.length_append,List.length_singleton]
    rcases Nat.lt_or_ge ws.length 8 with h9 | h9
    ·skip
     have hB:(tkB n ss fl ins ws tb node a b c)=true:=by rw [hBZ,hz,decide_eq_true (show ws.length < 8 by omega)];rfl
     have hif:=d3j n ss (chF n ss fl node (nfL tb a b c)) (tkI n ss fl ins node (nfL tb a b c)) (tkW n ss fl ins ws node (nfL tb a b c)) hs hl2 hls2 hil2 hin3 his3 hwl3 hwn3 (by rw [hck,hz,decide_eq_true h9];rfl)
     simp only [hW] at hif
     have F:=Fc.mk hlm
     refine yV ⟨?_⟩
     apply n15
     ·apply b1i (b0f [5,10,16,18] _)
      simp only [b0s,b0k,b0h,b0i,b0n,Nat.reduceEqDiff,reduceIte]
      first | (rw [hsn,←hwl2,←hti,hjl,←htl];exact b2s _ _) | (rw [←hti,hjl,←htl];exact b2s _ _)
     try simp only [b1r,b1y,Nat.reduceEqDiff,reduceIte,List.set_cons_zero,List.set_cons_succ]
     refine yR3 [10,16,18,21] (hif) ⟨?_⟩;refine b0c ?_;intros;refine yR [10,16,18,87] ⟨?_⟩;refine b1z _ rfl ?_ ?_
     ·intro hc3
      exfalso;simp at hc3
     ·intro hc3
      try simp only [zC,reduceCtorEq] at hc3
      refine zn [10,16,18] ⟨?_⟩;refine yR [10,11,12] ⟨?_⟩;refine zq3 ⟨?_⟩
      simp only [hB,b6i,cond_true,hW]
      exact rta
    ·skip
     have hB:(tkB n ss fl ins ws tb node a b c)=false:=by rw [hBZ,hz,decide_eq_false (by omega)];rfl
     have hif:=f4c n ss (chF n ss fl node (nfL tb a b c)) (tkI n ss fl ins node (nfL tb a b c)) (tkW n ss fl ins ws node (nfL tb a b c)) hs hl2 hls2 hil2 hin3 his3 hwl3 hwn3 (by rw [hck,hz,decide_eq_false (by omega)];rfl)
     simp only [hW] at hif
     have F:=Fc.mk hlm
     refine yV ⟨?_⟩
     apply n15
     ·apply b1i (b0f [5,10,16,18] _)
      simp only [b0s,b0k,b0h,b0i,b0n,Nat.reduceEqDiff,reduceIte]
      first | (rw [hsn,←hwl2,←hti,hjl,←htl];exact b2s _ _) | (rw [←hti,hjl,←htl];exact b2s _ _)
     try simp only [b1r,b1y,Nat.reduceEqDiff,reduceIte,List.set_cons_zero,List.set_cons_succ]
     refine yR3 [10,16,18,21] (hif) ⟨?_⟩;refine b0c ?_;intros;refine yR [10,16,18,87] ⟨?_⟩;refine b1z _ rfl ?_ ?_
     ·intro hc3
      try simp only [zC,reduceCtorEq] at hc3
      refine yR [10,11,12] ⟨?_⟩;refine zq3 ⟨?_⟩
      simp only [hB,b7b,List.map_nil,List.length_nil,c3u,cond_false]
      exact rta
     ·intro hc3
      exfalso;simp at hc3
   ·intro hc2
    have hz:tkZ n ss fl node (nfL tb a b c)=true:=by
     rw [tkZ]
     first | exact hc2 | simpa using hc2 | simpa [inR] using hc2
    have hW:=f5z (ins:=ins) (ws:=ws) hz
    have hB:(tkB n ss fl ins ws tb node a b c)=true:=by rw [hBZ,hz];rfl
    have hif:=d3j n ss (chF n ss fl node (nfL tb a b c)) (tkI n ss fl ins node (nfL tb a b c)) (tkW n ss fl ins ws node (nfL tb a b c)) hs hl2 hls2 hil2 hin3 his3 hwl3 hwn3 (by rw [hck,hz];rfl)
    simp only [hW] at hif
    refine c9s ?_
    apply n15
    ·apply b1i (b0f [5,10,16,18] _)
     simp only [b0s,b0k,b0h,b0i,b0n,Nat.reduceEqDiff,reduceIte]
     first | (rw [hsn,←hwl2,←hti,hjl,←htl];exact b2s _ _) | (rw [←hti,hjl,←htl];exact b2s _ _)
    try simp only [b1r,b1y,Nat.reduceEqDiff,reduceIte,List.set_cons_zero,List.set_cons_succ]
    refine yR3 [10,16,18,21] (hif) ⟨?_⟩;refine b0c ?_;intros;refine yR [10,16,18,87] ⟨?_⟩;refine b1z _ rfl ?_ ?_
    ·intro hc4
     exfalso;simp at hc4
    ·intro hc4
     try simp only [zC,reduceCtorEq] at hc4
     refine zn [10,16,18] ⟨?_⟩;refine yR [10,11,12] ⟨?_⟩;refine zq3 ⟨?_⟩
     simp only [hB,b6i,cond_true,hW]
     exact rta
end Go.Proofs.YtaefoaghpehbpaaGreat
