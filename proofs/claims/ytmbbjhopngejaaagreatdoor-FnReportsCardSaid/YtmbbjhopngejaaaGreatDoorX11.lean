/- What functions compute. No condition. -/
import Derived.Test.YtmbbjhopngejaaaGreatDoorX10
set_option linter.unusedSimpArgs false
set_option linter.unusedVariables false
set_option linter.defProp false
namespace Go.Proofs.YtmbbjhopngejaaaGreatDoor
open Go Go.Vm
set_option maxHeartbeats 8000000
set_option maxRecDepth 8000 in
theorem c0k (l:List TI) (hl:l.length≤1048576) (hli:∀x∈l,x.2.2.2.length≤1048576) (hls:∀x∈l,∀s∈x.2.2.2,s.size≤9223372036854775807):Con Tryz.prog 55 [sQ rQb l] [] (.bool (b8d l)) []:=by
 refine zcn [.tmp 2] [] Tryz.func55 Tryz.ntmps55 ⟨?_⟩;intro Q0 n0 r0;have T:=tq6 Ty.t3 Ty.t4 Ty.t9 Ty.t28 Ty.t32 Ty.t55;have F:=Fc.mk True.intro;refine yR [0] ⟨?_⟩;refine b0e ?_;intros;refine yR [0,7,8,9] ⟨?_⟩;refine b0i ?_;intros;refine b08 (fun i=>⟨[(0,sQ rQb l),(7,sQ rQb l),(8,.int .i64 l.length),(9,.int .i64 (Nat.cast i))],[],false,50,0⟩) (fun i=>i≤l.length∧∀j,j < i→c2b l j=true) (fun i=>l.length - i) 0 ?_ ?_ ?_
 ·refine b2a [0,7,8,9] ?_;simp only [b02,b0n,b0l,b0j,b0u,Nat.reduceEqDiff,reduceIte];rfl
 ·exact ⟨qle _,fun j h=>absurd h (Nat.not_lt_zero _)⟩
 ·rintro i hok5 Q5 n5 e5 r5;obtain ⟨hi1,hR⟩:=hok5;refine yR [0,7,8,9,10] ⟨?_⟩;refine b0e ?_;intros;refine b0a _ rfl ?_ ?_
  ·intro hc0;have hlt:i < l.length:=by omega
   obtain ⟨⟨x0,x1,x2,x3⟩,hx⟩:∃x:TI,l[i]? =some x:=⟨l[i]'(by omega),qla (by omega)⟩;have hlx:=hli _ (qlb hx);have hsx:=hls _ (qlb hx);simp only [] at hlx hsx;have hlt1:(l.take i).length≤1048576:=ql6 (List.length_take_le ..) (by omega);have hlti:(l.take i).length=i:=by rw [qlr];omega
   have hmi:∀x∈l.take i,x.2.2.2.length≤1048576:=fun x h=>hli x (ql0 h)
   have hcl:b8y (l.take i) (x0,x1,x2,x3)=x3.any (fun s=>(l.take i).any fun y=>inS s y.2.2.2):=rfl;rcases ql8 i with h0 | h0
   ·skip;have hi0:¬((0:Int) < (i:Int)):=by omega
    have hpi:c2b l i=(c04 (x0,x1,x2,x3) && !b8y (l.take i) (x0,x1,x2,x3)):=by subst h0;exact d4r hx
    refine zn [0,7,8,9] ⟨?_⟩;refine b0e ?_;intros;refine b0i ?_;intros;have F:=fq5 (gdm hx) hlti hi0 @decide_false @qmh;refine yR [0,3,4,7,8,9] ⟨?_⟩;refine b0e ?_;intros;refine b0e ?_;intro Q13 n13 e13 r13;refine b1f (by kernel_rfl) ?_;intro K14 q14 k14;show b1r _ _ _ _ 18 (Array.replicate 18 false) _;refine b1d q14 true 0 14 ?_;refine zoc 1 (c2c x0 x1 x2 x3 hsx hlx) ⟨?_⟩;refine b9r q14 true 2 16 ?_;refine b0t q14 true 3 17 ?_;refine b0z q14 true 4 18 ?_;refine b0y q14 true 5 19 ?_;refine b0z q14 true 6 20 ?_;refine b0z q14 true 7 21 ?_;refine b0z q14 true 8 22 ?_;refine b2u q14 true 9 23 ?_;refine b0x q14 true 10 24 ?_;refine b0c q14 true 11 25 ?_;refine b0r q14 true 12 26 ?_;refine b0c q14 true 13 27 ?_;refine b0r q14 true 14 28 ?_;refine b0y q14 true 15 29 ?_;refine b4m q14 true 16 30 ?_;refine b1p q14 true 17 31 ?_;refine b0b (by kernel_rfl) ?_;refine k14 _ ?_;refine n13 _ _ (b0f [0,3,4,7,8,9,31] _) ?_;refine zk ⟨?_⟩;refine b0a _ rfl ?_ ?_
    ·intro hc1;have hbad:c2b l i=false:=by
      rw [hpi]
      (try simp at hc1)
      first | (simp [hc1];done) | (rcases hc1 with h | h<;>first | (simp [h];done) | (rw [decide_eq_false (show ¬y0 < x0 by omega)];simp;done)) | (rcases hc1 with h | h<;>simp [h];done) | (simp_all;done) | (simp;intros;simp_all;omega)
     refine yR [2] ⟨?_⟩;refine zr ⟨?_⟩;exact b0g rfl (by rw [b87 hlt hbad]) (.inl rfl)
    ·intro hc1;have hgd:c2b l i= !b8y (l.take i) (x0,x1,x2,x3):=by
      rw [hpi]
      (try simp at hc1)
      first | (simp [hc1];done) | (simp_all;done) | (simp;intros;simp_all;omega)
     refine zn [0,3,4,7,8,9] ⟨?_⟩;refine yR [0,3,7,8,9,33,34,35] ⟨?_⟩;refine b0i ?_;intros;refine b08 (fun j=>⟨[(0,sQ rQb l),(3,.int .i64 (Nat.cast i)),(7,sQ rQb l),(8,.int .i64 l.length),(9,.int .i64 (Nat.cast i)),(33,.sl (x3.map V.str)),(34,.int .i64 x3.length),(35,.int .i64 (Nat.cast j))],[],false,50,0⟩) (fun j=>j≤x3.length∧(x3.drop j).any (fun s=>(l.take i).any fun y=>inS s y.2.2.2)=x3.any (fun s=>(l.take i).any fun y=>inS s y.2.2.2)) (fun j=>x3.length - j) 0 ?_ ?_ ?_
     ·refine b0d [0,3,7,8,9,33,34,35] [] ⟨?_⟩;rfl
     ·exact ⟨qle _,rfl⟩
     ·rintro j hok19 Q19 n19 e19 r19;obtain ⟨hj1,hR2⟩:=hok19;refine yR [0,3,7,8,9,33,34,35,36] ⟨?_⟩;refine b0e ?_;intros;refine b0a _ rfl ?_ ?_
      ·intro hc2;have hlj:j < x3.length:=by omega
       obtain ⟨s,hs⟩:∃s,x3[j]? =some s:=⟨_,qla hlj⟩;have hst:=c14 (f:=(fun s=>(l.take i).any fun y=>inS s y.2.2.2)) hs;have hca:=d2m (l.take i) s;refine zn [0,3,7,8,9,33,34,35] ⟨?_⟩;refine b0e ?_;intros;refine b0i ?_;intros;have F:=fq6 (gdm hx) hlti hi0 @decide_false @qmh (gdm hs);refine yR [0,3,6,7,8,9,33,34,35] ⟨?_⟩;refine yRc [0,3,7,8,9,33,34,35,44] (b37 (l.take i) s hlt1 hmi) ⟨?_⟩;refine b0a _ rfl ?_ ?_
       ·intro hc3;have hbad:c2b l i=false:=by rw [hgd,hcl,←hR2,hst];simp only [←hca];(try simp at hc3);simp [hc3]
        refine yR [2] ⟨?_⟩;refine zr ⟨?_⟩;exact b0g rfl (by rw [b87 hlt hbad]) (.inl rfl)
       ·intro hc3;have hno:((l.take i).any fun y=>inS s y.2.2.2)=false:=by rw [←hca];(try simp at hc3);simp;omega
        refine zn [0,3,7,8,9,33,34,35] ⟨?_⟩;refine yV ⟨?_⟩;refine n19 _ (j+1) ?_ ?_ ?_
        ·refine b0d [0,3,7,8,9,33,34,35] [] ⟨?_⟩;rfl
        ·exact ⟨by omega,by rw [←hR2,hst];simp only [hno];rfl⟩
        ·show _ < _;omega
      ·intro hc2;have hgood:c2b l i=true:=by rw [hgd,hcl,←hR2,c5g (by omega)];rfl
       refine zn [0,7,8,9] ⟨?_⟩;refine yV ⟨?_⟩;refine n5 _ (i+1) ?_ ?_ ?_
       ·refine b0d [0,7,8,9] [] ⟨?_⟩;rfl
       ·exact ⟨by omega,b7k hR hgood⟩
       ·show _ < _;omega
   ·skip;obtain ⟨⟨y0,y1,y2,y3⟩,hy⟩:∃x:TI,l[i - 1]? =some x:=⟨l[i - 1]'(by omega),qla (by omega)⟩;have hi0:(0:Int) < i:=by omega
    have hk:((i:Int) - 1).toNat=i - 1:=by omega
    have hpi:=d3p h0 hy hx;refine zn [0,7,8,9] ⟨?_⟩;refine b0e ?_;intros;refine b0i ?_;intros;have F:=fq7 (gdm hx) hlti hi0 hk (gdm hy) @decide_true @qmm;refine yR [0,3,4,7,8,9] ⟨?_⟩;refine b0e ?_;intros;refine b0e ?_;intro Q35 n35 e35 r35;refine b1f (by kernel_rfl) ?_;intro K36 q36 k36;show b1r _ _ _ _ 18 (Array.replicate 18 false) _;refine b1d q36 true 0 14 ?_;refine zoc 1 (c2c x0 x1 x2 x3 hsx hlx) ⟨?_⟩;refine b9r q36 true 2 16 ?_;refine b0t q36 true 3 17 ?_;refine b0z q36 true 4 18 ?_;refine b0y q36 true 5 19 ?_;refine b0z q36 true 6 20 ?_;refine b0z q36 true 7 21 ?_;refine b0z q36 true 8 22 ?_;refine b2u q36 true 9 23 ?_;refine b0x q36 true 10 24 ?_;refine b0c q36 true 11 25 ?_;refine b0r q36 true 12 26 ?_;refine b0c q36 true 13 27 ?_;refine b0r q36 true 14 28 ?_;refine b0y q36 true 15 29 ?_;refine b4m q36 true 16 30 ?_;refine b1p q36 true 17 31 ?_;refine b0b (by kernel_rfl) ?_;refine k36 _ ?_;refine n35 _ _ (b0f [0,3,4,7,8,9,31] _) ?_;refine zk ⟨?_⟩;refine b0a _ rfl ?_ ?_
    ·intro hc1;have hbad:c2b l i=false:=by
      rw [hpi]
      (try simp at hc1)
      first | (simp [hc1];done) | (rcases hc1 with h | h<;>first | (simp [h];done) | (rw [decide_eq_false (show ¬y0 < x0 by omega)];simp;done)) | (rcases hc1 with h | h<;>simp [h];done) | (simp_all;done) | (simp;intros;simp_all;omega)
     refine yR [2] ⟨?_⟩;refine zr ⟨?_⟩;exact b0g rfl (by rw [b87 hlt hbad]) (.inl rfl)
    ·intro hc1;have hgd:c2b l i= !b8y (l.take i) (x0,x1,x2,x3):=by
      rw [hpi]
      (try simp at hc1)
      first | (simp [hc1];done) | (simp_all;done) | (simp;intros;simp_all;omega)
     refine zn [0,3,4,7,8,9] ⟨?_⟩;refine yR [0,3,7,8,9,33,34,35] ⟨?_⟩;refine b0i ?_;intros;refine b08 (fun j=>⟨[(0,sQ rQb l),(3,.int .i64 (Nat.cast i)),(7,sQ rQb l),(8,.int .i64 l.length),(9,.int .i64 (Nat.cast i)),(33,.sl (x3.map V.str)),(34,.int .i64 x3.length),(35,.int .i64 (Nat.cast j))],[],false,50,0⟩) (fun j=>j≤x3.length∧(x3.drop j).any (fun s=>(l.take i).any fun y=>inS s y.2.2.2)=x3.any (fun s=>(l.take i).any fun y=>inS s y.2.2.2)) (fun j=>x3.length - j) 0 ?_ ?_ ?_
     ·refine b0d [0,3,7,8,9,33,34,35] [] ⟨?_⟩;rfl
     ·exact ⟨qle _,rfl⟩
     ·rintro j hok41 Q41 n41 e41 r41;obtain ⟨hj1,hR2⟩:=hok41;refine yR [0,3,7,8,9,33,34,35,36] ⟨?_⟩;refine b0e ?_;intros;refine b0a _ rfl ?_ ?_
      ·intro hc2;have hlj:j < x3.length:=by omega
       obtain ⟨s,hs⟩:∃s,x3[j]? =some s:=⟨_,qla hlj⟩;have hst:=c14 (f:=(fun s=>(l.take i).any fun y=>inS s y.2.2.2)) hs;have hca:=d2m (l.take i) s;refine zn [0,3,7,8,9,33,34,35] ⟨?_⟩;refine b0e ?_;intros;refine b0i ?_;intros;have F:=fq8 (gdm hx) hlti hi0 hk (gdm hy) @decide_true @qmm (gdm hs);refine yR [0,3,6,7,8,9,33,34,35] ⟨?_⟩;refine yRc [0,3,7,8,9,33,34,35,44] (b37 (l.take i) s hlt1 hmi) ⟨?_⟩;refine b0a _ rfl ?_ ?_
       ·intro hc3;have hbad:c2b l i=false:=by rw [hgd,hcl,←hR2,hst];simp only [←hca];(try simp at hc3);simp [hc3]
        refine yR [2] ⟨?_⟩;refine zr ⟨?_⟩;exact b0g rfl (by rw [b87 hlt hbad]) (.inl rfl)
       ·intro hc3;have hno:((l.take i).any fun y=>inS s y.2.2.2)=false:=by rw [←hca];(try simp at hc3);simp;omega
        refine zn [0,3,7,8,9,33,34,35] ⟨?_⟩;refine yV ⟨?_⟩;refine n41 _ (j+1) ?_ ?_ ?_
        ·refine b0d [0,3,7,8,9,33,34,35] [] ⟨?_⟩;rfl
        ·exact ⟨by omega,by rw [←hR2,hst];simp only [hno];rfl⟩
        ·show _ < _;omega
      ·intro hc2;have hgood:c2b l i=true:=by rw [hgd,hcl,←hR2,c5g (by omega)];rfl
       refine zn [0,7,8,9] ⟨?_⟩;refine yV ⟨?_⟩;refine n5 _ (i+1) ?_ ?_ ?_
       ·refine b0d [0,7,8,9] [] ⟨?_⟩;rfl
       ·exact ⟨by omega,b7k hR hgood⟩
       ·show _ < _;omega
  ·intro hc0;refine zn [0] ⟨?_⟩;refine yR [2] ⟨?_⟩;refine zr ⟨?_⟩;exact b0g rfl (by rw [d3z (by omega) hR]) (.inl rfl)
set_option maxRecDepth 8000 in
theorem b9s (l:List TI) (hl:l.length≤1048576) (hli:∀x∈l,x.2.2.2.length≤1048576) (hls:∀x∈l,∀s∈x.2.2.2,s.size≤9223372036854775807):Con Tryz.prog 59 [sQ rQb l] [] (.bool (b8d l)) []:=by
 refine zcn [.tmp 2] [] Tryz.func59 Tryz.ntmps59 ⟨?_⟩;intro Q0 n0 r0;have T:=tq6 Ty.t3 Ty.t4 Ty.t9 Ty.t28 Ty.t32 Ty.t55;have F:=Fc.mk True.intro;refine yR [0] ⟨?_⟩;refine b0e ?_;intros;refine yR [0,9,10,11] ⟨?_⟩;refine b0i ?_;intros;refine b08 (fun i=>⟨[(0,sQ rQb l),(9,sQ rQb l),(10,.int .i64 l.length),(11,.int .i64 (Nat.cast i))],[],false,59,0⟩) (fun i=>i≤l.length∧∀j,j < i→c2b l j=true) (fun i=>l.length - i) 0 ?_ ?_ ?_
 ·refine b2a [0,9,10,11] ?_;simp only [b02,b0n,b0l,b0j,b0u,Nat.reduceEqDiff,reduceIte];rfl
 ·exact ⟨qle _,fun j h=>absurd h (Nat.not_lt_zero _)⟩
 ·rintro i hok5 Q5 n5 e5 r5;obtain ⟨hi1,hR⟩:=hok5;refine yR [0,9,10,11,12] ⟨?_⟩;refine b0e ?_;intros;refine b0a _ rfl ?_ ?_
  ·intro hc0;have hlt:i < l.length:=by omega
   obtain ⟨⟨x0,x1,x2,x3⟩,hx⟩:∃x:TI,l[i]? =some x:=⟨l[i]'(by omega),qla (by omega)⟩;have hlx:=hli _ (qlb hx);have hsx:=hls _ (qlb hx);simp only [] at hlx hsx;have hlt1:(l.take i).length≤1048576:=ql6 (List.length_take_le ..) (by omega);have hlti:(l.take i).length=i:=by rw [qlr];omega
   have hmi:∀x∈l.take i,x.2.2.2.length≤1048576:=fun x h=>hli x (ql0 h)
   have hcl:b8y (l.take i) (x0,x1,x2,x3)=x3.any (fun s=>(l.take i).any fun y=>inS s y.2.2.2):=rfl;have hcl2:b8y (l.take i) (x0,x1,x2,x3)=(l.take i).any (fun y:TI=>x3.any fun s=>inS s y.2.2.2):=by rw [hcl];exact f5l (fun s (y:TI)=>inS s y.2.2.2) x3 (l.take i)
   rcases ql8 i with h0 | h0
   ·skip;have hi0:¬((0:Int) < (i:Int)):=by omega
    have hpi:c2b l i=(c04 (x0,x1,x2,x3) && !b8y (l.take i) (x0,x1,x2,x3)):=by subst h0;exact d4r hx
    refine zn [0,9,10,11] ⟨?_⟩;refine b0e ?_;intros;refine b0i ?_;intros;have F:=fq5 (gdm hx) hlti hi0 @decide_false @qmh;refine yR [0,3,4,9,10,11] ⟨?_⟩;refine b0e ?_;intros;refine b0e ?_;intro Q13 n13 e13 r13;refine b1f (by kernel_rfl) ?_;intro K14 q14 k14;show b1r _ _ _ _ 18 (Array.replicate 18 false) _;refine b1d q14 true 0 16 ?_;refine zoc 1 (d4x x0 x1 x2 x3 hsx hlx) ⟨?_⟩;refine b9r q14 true 2 18 ?_;refine b0t q14 true 3 19 ?_;refine b0z q14 true 4 20 ?_;refine b0y q14 true 5 21 ?_;refine b0z q14 true 6 22 ?_;refine b0z q14 true 7 23 ?_;refine b0z q14 true 8 24 ?_;refine b2u q14 true 9 25 ?_;refine b0x q14 true 10 26 ?_;refine b0c q14 true 11 27 ?_;refine b0r q14 true 12 28 ?_;refine b0c q14 true 13 29 ?_;refine b0r q14 true 14 30 ?_;refine b0y q14 true 15 31 ?_;refine b4m q14 true 16 32 ?_;refine b1p q14 true 17 33 ?_;refine b0b (by kernel_rfl) ?_;refine k14 _ ?_;refine n13 _ _ (b0f [0,3,4,9,10,11,33] _) ?_;refine zk ⟨?_⟩;refine b0a _ rfl ?_ ?_
    ·intro hc1;have hbad:c2b l i=false:=by
      rw [hpi]
      (try simp at hc1)
      first | (simp [hc1];done) | (rcases hc1 with h | h<;>first | (simp [h];done) | (rw [decide_eq_false (show ¬y0 < x0 by omega)];simp;done)) | (rcases hc1 with h | h<;>simp [h];done) | (simp_all;done) | (simp;intros;simp_all;omega)
     refine yR [2] ⟨?_⟩;refine zr ⟨?_⟩;exact b0g rfl (by rw [b87 hlt hbad]) (.inl rfl)
    ·intro hc1;have hgd:c2b l i= !b8y (l.take i) (x0,x1,x2,x3):=by
      rw [hpi]
      (try simp at hc1)
      first | (simp [hc1];done) | (simp_all;done) | (simp;intros;simp_all;omega)
     refine zn [0,3,4,9,10,11] ⟨?_⟩;refine yR [0,4,9,10,11,36,37,38] ⟨?_⟩;refine b0i ?_;intros;refine b08 (fun j=>⟨[(0,sQ rQb l),(4,.ptr 0 0 0),(9,sQ rQb l),(10,.int .i64 l.length),(11,.int .i64 (Nat.cast i)),(36,sQ rQb (l.take i)),(37,.int .i64 (Nat.cast i)),(38,.int .i64 (Nat.cast j))],[.box (.agg [V.int .i64 x0,V.int .i64 x1,V.bool x2,V.sl (x3.map V.str)]) .shal],false,59,0⟩) (fun j=>j≤(l.take i).length∧((l.take i).drop j).any (fun y:TI=>x3.any fun s=>inS s y.2.2.2)=(l.take i).any (fun y:TI=>x3.any fun s=>inS s y.2.2.2)) (fun j=>(l.take i).length - j) 0 ?_ ?_ ?_
     ·refine b0d [0,4,9,10,11,36,37,38] [1] ⟨?_⟩;rfl
     ·exact ⟨qle _,rfl⟩
     ·rintro j hok19 Q19 n19 e19 r19;obtain ⟨hj1,hR2⟩:=hok19;refine yR [0,4,9,10,11,36,37,38,39] ⟨?_⟩;refine b0e ?_;intros;refine b0a _ rfl ?_ ?_
      ·intro hc2;have hlj:j < (l.take i).length:=by omega
       obtain ⟨⟨z0,z1,z2,z3⟩,hz⟩:∃x:TI,(l.take i)[j]? =some x:=⟨(l.take i)[j]'(by omega),qla (by omega)⟩;have hst:=c14 (f:=(fun y:TI=>x3.any fun s=>inS s y.2.2.2)) hz;have hlz:=hmi _ (qlb hz);simp only [] at hlz;refine zn [0,4,9,10,11,36,37,38] ⟨?_⟩;refine b0e ?_;intros;refine b0i ?_;intros;have F:=fq6 (gdm hx) hlti hi0 @decide_false @qmh (gdm hz);refine yR [0,4,6,9,10,11,36,37,38] ⟨?_⟩;refine yR [0,4,6,9,10,11,36,37,38,43,44,45] ⟨?_⟩;refine b0i ?_;intros;refine b08 (fun m=>⟨[(0,sQ rQb l),(4,.ptr 0 0 0),(6,.ptr 1 0 0),(9,sQ rQb l),(10,.int .i64 l.length),(11,.int .i64 (Nat.cast i)),(36,sQ rQb (l.take i)),(37,.int .i64 (Nat.cast i)),(38,.int .i64 (Nat.cast j)),(43,.sl (x3.map V.str)),(44,.int .i64 x3.length),(45,.int .i64 (Nat.cast m))],[.box (.agg [V.int .i64 x0,V.int .i64 x1,V.bool x2,V.sl (x3.map V.str)]) .shal,.box (.agg [V.int .i64 z0,V.int .i64 z1,V.bool z2,V.sl (z3.map V.str)]) .shal],false,59,0⟩) (fun m=>m≤x3.length∧(x3.drop m).any (fun s=>inS s z3)=x3.any fun s=>inS s z3) (fun m=>x3.length - m) 0 ?_ ?_ ?_
       ·refine b0d [0,4,6,9,10,11,36,37,38,43,44,45] [0,2] ⟨?_⟩;rfl
       ·exact ⟨qle _,rfl⟩
       ·rintro m hok28 Q28 n28 e28 r28;obtain ⟨hm1,hR3⟩:=hok28;refine yR [0,4,6,9,10,11,36,37,38,43,44,45,46] ⟨?_⟩;refine b0e ?_;intros;refine b0a _ rfl ?_ ?_
        ·intro hc3;have hlm:m < x3.length:=by omega
         obtain ⟨s,hs⟩:∃s,x3[m]? =some s:=⟨_,qla hlm⟩;have hst3:=c14 (f:=fun s=>inS s z3) hs;refine zn [0,4,6,9,10,11,36,37,38,43,44,45] ⟨?_⟩;refine b0e ?_;intros;refine b0i ?_;intros;have F:=fq7 (gdm hx) hlti hi0 @decide_false @qmh (gdm hz) (gdm hs);refine yR [0,4,6,8,9,10,11,36,37,38,43,44,45] ⟨?_⟩;refine yRc [0,4,6,9,10,11,36,37,38,43,44,45,52] (c8h z3 s hlz) ⟨?_⟩;refine b0a _ rfl ?_ ?_
         ·intro hc4;have hbad:c2b l i=false:=by
           have h3:(x3.any fun s=>inS s z3)=true:=by rw [←hR3,hst3];simp [hc4]
           rw [hgd,hcl2,←hR2,hst];simp only [h3];rfl
          refine yR [2] ⟨?_⟩;refine zr ⟨?_⟩;exact b0g rfl (by rw [b87 hlt hbad]) (.inl rfl)
         ·intro hc4;refine zn [0,4,6,9,10,11,36,37,38,43,44,45] ⟨?_⟩;refine yV ⟨?_⟩;refine n28 _ (m+1) ?_ ?_ ?_
          ·refine b0d [0,4,6,9,10,11,36,37,38,43,44,45] [0,1] ⟨?_⟩;rfl
          ·exact ⟨by omega,by rw [←hR3,hst3];simp [hc4]⟩
          ·show _ < _;omega
        ·intro hc3;have hno:(x3.any fun s=>inS s z3)=false:=by rw [←hR3,c5g (by omega)]
         refine zn [0,4,9,10,11,36,37,38] ⟨?_⟩;refine yV ⟨?_⟩;refine n19 _ (j+1) ?_ ?_ ?_
         ·refine b0d [0,4,9,10,11,36,37,38] [0] ⟨?_⟩;rfl
         ·exact ⟨by omega,by rw [←hR2,hst];simp only [hno];rfl⟩
         ·show _ < _;show (l.take i).length - (j+1) < (l.take i).length - j;omega
      ·intro hc2;have hgood:c2b l i=true:=by rw [hgd,hcl2,←hR2,c5g (by omega)];rfl
       refine zn [0,9,10,11] ⟨?_⟩;refine yV ⟨?_⟩;refine n5 _ (i+1) ?_ ?_ ?_
       ·refine b0d [0,9,10,11] [] ⟨?_⟩;rfl
       ·exact ⟨by omega,b7k hR hgood⟩
       ·show _ < _;omega
   ·skip;obtain ⟨⟨y0,y1,y2,y3⟩,hy⟩:∃x:TI,l[i - 1]? =some x:=⟨l[i - 1]'(by omega),qla (by omega)⟩;have hi0:(0:Int) < i:=by omega
    have hk:((i:Int) - 1).toNat=i - 1:=by omega
    have hpi:=d3p h0 hy hx;refine zn [0,9,10,11] ⟨?_⟩;refine b0e ?_;intros;refine b0i ?_;intros;have F:=fq7 (gdm hx) hlti hi0 hk (gdm hy) @decide_true @qmm;refine yR [0,3,4,9,10,11] ⟨?_⟩;refine b0e ?_;intros;refine b0e ?_;intro Q45 n45 e45 r45;refine b1f (by kernel_rfl) ?_;intro K46 q46 k46;show b1r _ _ _ _ 18 (Array.replicate 18 false) _;refine b1d q46 true 0 16 ?_;refine zoc 1 (d4x x0 x1 x2 x3 hsx hlx) ⟨?_⟩;refine b9r q46 true 2 18 ?_;refine b0t q46 true 3 19 ?_;refine b0z q46 true 4 20 ?_;refine b0y q46 true 5 21 ?_;refine b0z q46 true 6 22 ?_;refine b0z q46 true 7 23 ?_;refine b0z q46 true 8 24 ?_;refine b2u q46 true 9 25 ?_;refine b0x q46 true 10 26 ?_;refine b0c q46 true 11 27 ?_;refine b0r q46 true 12 28 ?_;refine b0c q46 true 13 29 ?_;refine b0r q46 true 14 30 ?_;refine b0y q46 true 15 31 ?_;refine b4m q46 true 16 32 ?_;refine b1p q46 true 17 33 ?_;refine b0b (by kernel_rfl) ?_;refine k46 _ ?_;refine n45 _ _ (b0f [0,3,4,9,10,11,33] _) ?_;refine zk ⟨?_⟩;refine b0a _ rfl ?_ ?_
    ·intro hc1;have hbad:c2b l i=false:=by
      rw [hpi]
      (try simp at hc1)
      first | (simp [hc1];done) | (rcases hc1 with h | h<;>first | (simp [h];done) | (rw [decide_eq_false (show ¬y0 < x0 by omega)];simp;done)) | (rcases hc1 with h | h<;>simp [h];done) | (simp_all;done) | (simp;intros;simp_all;omega)
     refine yR [2] ⟨?_⟩;refine zr ⟨?_⟩;exact b0g rfl (by rw [b87 hlt hbad]) (.inl rfl)
    ·intro hc1;have hgd:c2b l i= !b8y (l.take i) (x0,x1,x2,x3):=by
      rw [hpi]
      (try simp at hc1)
      first | (simp [hc1];done) | (simp_all;done) | (simp;intros;simp_all;omega)
     refine zn [0,3,4,9,10,11] ⟨?_⟩;refine yR [0,4,9,10,11,36,37,38] ⟨?_⟩;refine b0i ?_;intros;refine b08 (fun j=>⟨[(0,sQ rQb l),(4,.ptr 0 0 0),(9,sQ rQb l),(10,.int .i64 l.length),(11,.int .i64 (Nat.cast i)),(36,sQ rQb (l.take i)),(37,.int .i64 (Nat.cast i)),(38,.int .i64 (Nat.cast j))],[.box (.agg [V.int .i64 x0,V.int .i64 x1,V.bool x2,V.sl (x3.map V.str)]) .shal],false,59,0⟩) (fun j=>j≤(l.take i).length∧((l.take i).drop j).any (fun y:TI=>x3.any fun s=>inS s y.2.2.2)=(l.take i).any (fun y:TI=>x3.any fun s=>inS s y.2.2.2)) (fun j=>(l.take i).length - j) 0 ?_ ?_ ?_
     ·refine b0d [0,4,9,10,11,36,37,38] [1] ⟨?_⟩;rfl
     ·exact ⟨qle _,rfl⟩
     ·rintro j hok51 Q51 n51 e51 r51;obtain ⟨hj1,hR2⟩:=hok51;refine yR [0,4,9,10,11,36,37,38,39] ⟨?_⟩;refine b0e ?_;intros;refine b0a _ rfl ?_ ?_
      ·intro hc2;have hlj:j < (l.take i).length:=by omega
       obtain ⟨⟨z0,z1,z2,z3⟩,hz⟩:∃x:TI,(l.take i)[j]? =some x:=⟨(l.take i)[j]'(by omega),qla (by omega)⟩;have hst:=c14 (f:=(fun y:TI=>x3.any fun s=>inS s y.2.2.2)) hz;have hlz:=hmi _ (qlb hz);simp only [] at hlz;refine zn [0,4,9,10,11,36,37,38] ⟨?_⟩;refine b0e ?_;intros;refine b0i ?_;intros;have F:=fq8 (gdm hx) hlti hi0 hk (gdm hy) @decide_true @qmm (gdm hz);refine yR [0,4,6,9,10,11,36,37,38] ⟨?_⟩;refine yR [0,4,6,9,10,11,36,37,38,43,44,45] ⟨?_⟩;refine b0i ?_;intros;refine b08 (fun m=>⟨[(0,sQ rQb l),(4,.ptr 0 0 0),(6,.ptr 1 0 0),(9,sQ rQb l),(10,.int .i64 l.length),(11,.int .i64 (Nat.cast i)),(36,sQ rQb (l.take i)),(37,.int .i64 (Nat.cast i)),(38,.int .i64 (Nat.cast j)),(43,.sl (x3.map V.str)),(44,.int .i64 x3.length),(45,.int .i64 (Nat.cast m))],[.box (.agg [V.int .i64 x0,V.int .i64 x1,V.bool x2,V.sl (x3.map V.str)]) .shal,.box (.agg [V.int .i64 z0,V.int .i64 z1,V.bool z2,V.sl (z3.map V.str)]) .shal],false,59,0⟩) (fun m=>m≤x3.length∧(x3.drop m).any (fun s=>inS s z3)=x3.any fun s=>inS s z3) (fun m=>x3.length - m) 0 ?_ ?_ ?_
       ·refine b0d [0,4,6,9,10,11,36,37,38,43,44,45] [0,2] ⟨?_⟩;rfl
       ·exact ⟨qle _,rfl⟩
       ·rintro m hok60 Q60 n60 e60 r60;obtain ⟨hm1,hR3⟩:=hok60;refine yR [0,4,6,9,10,11,36,37,38,43,44,45,46] ⟨?_⟩;refine b0e ?_;intros;refine b0a _ rfl ?_ ?_
        ·intro hc3;have hlm:m < x3.length:=by omega
         obtain ⟨s,hs⟩:∃s,x3[m]? =some s:=⟨_,qla hlm⟩;have hst3:=c14 (f:=fun s=>inS s z3) hs;refine zn [0,4,6,9,10,11,36,37,38,43,44,45] ⟨?_⟩;refine b0e ?_;intros;refine b0i ?_;intros;have F:=fq9 (gdm hx) hlti hi0 hk (gdm hy) @decide_true @qmm (gdm hz) (gdm hs);refine yR [0,4,6,8,9,10,11,36,37,38,43,44,45] ⟨?_⟩;refine yRc [0,4,6,9,10,11,36,37,38,43,44,45,52] (c8h z3 s hlz) ⟨?_⟩;refine b0a _ rfl ?_ ?_
         ·intro hc4;have hbad:c2b l i=false:=by
           have h3:(x3.any fun s=>inS s z3)=true:=by rw [←hR3,hst3];simp [hc4]
           rw [hgd,hcl2,←hR2,hst];simp only [h3];rfl
          refine yR [2] ⟨?_⟩;refine zr ⟨?_⟩;exact b0g rfl (by rw [b87 hlt hbad]) (.inl rfl)
         ·intro hc4;refine zn [0,4,6,9,10,11,36,37,38,43,44,45] ⟨?_⟩;refine yV ⟨?_⟩;refine n60 _ (m+1) ?_ ?_ ?_
          ·refine b0d [0,4,6,9,10,11,36,37,38,43,44,45] [0,1] ⟨?_⟩;rfl
          ·exact ⟨by omega,by rw [←hR3,hst3];simp [hc4]⟩
          ·show _ < _;omega
        ·intro hc3;have hno:(x3.any fun s=>inS s z3)=false:=by rw [←hR3,c5g (by omega)]
         refine zn [0,4,9,10,11,36,37,38] ⟨?_⟩;refine yV ⟨?_⟩;refine n51 _ (j+1) ?_ ?_ ?_
         ·refine b0d [0,4,9,10,11,36,37,38] [0] ⟨?_⟩;rfl
         ·exact ⟨by omega,by rw [←hR2,hst];simp only [hno];rfl⟩
         ·show _ < _;show (l.take i).length - (j+1) < (l.take i).length - j;omega
      ·intro hc2;have hgood:c2b l i=true:=by rw [hgd,hcl2,←hR2,c5g (by omega)];rfl
       refine zn [0,9,10,11] ⟨?_⟩;refine yV ⟨?_⟩;refine n5 _ (i+1) ?_ ?_ ?_
       ·refine b0d [0,9,10,11] [] ⟨?_⟩;rfl
       ·exact ⟨by omega,b7k hR hgood⟩
       ·show _ < _;omega
  ·intro hc0;refine zn [0] ⟨?_⟩;refine yR [2] ⟨?_⟩;refine zr ⟨?_⟩;exact b0g rfl (by rw [d3z (by omega) hR]) (.inl rfl)
end Go.Proofs.YtmbbjhopngejaaaGreatDoor
