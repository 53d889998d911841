/- What functions compute. No condition. -/
import Derived.Test.YtmbbjhopngejaaaGreatX7
set_option linter.all false
open Nat renaming cast → Za
open Array renaming replicate → Zb
open Go.Vm.V renaming int → Zc, str → Zd, bool → Ze
namespace Go.Proofs.YtmbbjhopngejaaaGreat
open Go Go.Vm Tryz
set_option maxHeartbeats 8000000
set_option maxRecDepth 8000 in
theorem c7v (l:List TI) (hl:l.length≤1048576) (hli:∀x∈l,x.2.2.2.length≤1048576) (hls:∀x∈l,∀s∈x.2.2.2,s.size≤9223372036854775807):Con prog 89 [sQ rQb l] [] (.bool (c4a l)) []:=by
 apply zcn [.tmp 2] [] func89 ntmps89;intro _ _ _;have T:=tq6 Y3 Y4 Y9 Y29 Y48 Y96;have F:=Fc.mk True.intro;apply yR [0];apply b0e;intros;apply yR [0,7,8,9];apply b0g;intros;apply b05 (fun i=>⟨[(0,sQ rQb l),(7,sQ rQb l),(8,.int .i64 l.length),(9,.int .i64 (Za i))],[],false,50,0⟩) (fun i=>i≤l.length∧∀j,j < i→c3a l j=true) (fun i=>l.length - i) 0
 ·refine b18 [0,7,8,9] ?_;simp only [b0r,b0k,b0i,b0f,b0n,Nat.reduceEqDiff,reduceIte];rfl
 ·exact ⟨qle _,fun j h=>absurd h (Nat.not_lt_zero _)⟩
 ·rintro i hok5 Q5 n5 e5 r5;obtain ⟨hi1,hR⟩:=hok5;apply yR [0,7,8,9,10];apply b0e;intros;apply b0c _ rfl
  ·intro hc0;have hlt:i < l.length:=by omega
   obtain ⟨⟨x0,x1,x2,x3⟩,hx⟩:∃x:TI,l[i]? =some x:=⟨l[i]'(by omega),qla (by omega)⟩;have hlx:=hli _ (qlb hx);have hsx:=hls _ (qlb hx);simp only [] at hlx hsx;have hlt1:(l.take i).length≤1048576:=ql7 (List.length_take_le ..) (by omega);have hlti:(l.take i).length=i:=by rw [qlj];omega
   have hmi:∀x∈l.take i,x.2.2.2.length≤1048576:=fun x h=>hli x (qlz h)
   have hcl:b89 (l.take i) (x0,x1,x2,x3)=x3.any (fun s=>(l.take i).any fun y=>inS s y.2.2.2):=rfl;rcases ql8 i with h0 | h0
   ·skip;have hi0:¬((0:Int) < (i:Int)):=by omega
    have hpi:c3a l i=(c21 (x0,x1,x2,x3) && !b89 (l.take i) (x0,x1,x2,x3)):=by subst h0;exact d4b hx
    apply zn [0,7,8,9];apply b0e;intros;apply b0g;intros;have F:=fq5 (gdm hx) hlti hi0 @decide_false @qmo;apply yR [0,3,4,7,8,9];apply b0e;intros;apply b0e;intro _ n13 _ _;apply b1b (by kernel_rfl);intro _ q14 k14;show b13 _ _ _ _ 18 (Zb 18 false) _;refine b08 q14 true 0 14 ?_;apply zoc 1 (c3l x0 x1 x2 x3 hsx hlx);refine zdU q14 true 2 16 ?_;refine zdU q14 true 3 17 ?_;refine b1n q14 true 4 18 ?_;refine b0y q14 true 5 19 ?_;refine b1n q14 true 6 20 ?_;refine b1n q14 true 7 21 ?_;refine b1n q14 true 8 22 ?_;refine b2s q14 true 9 23 ?_;refine b0u q14 true 10 24 ?_;refine b1n q14 true 11 25 ?_;refine b0p q14 true 12 26 ?_;refine b1n q14 true 13 27 ?_;refine b0p q14 true 14 28 ?_;refine b0y q14 true 15 29 ?_;refine b4s q14 true 16 30 ?_;refine b1s q14 true 17 31 ?_;apply b0b (by kernel_rfl);apply k14 _;apply n13 _ _ (b0a [0,3,4,7,8,9,31] _);apply (zk);apply b0c _ rfl
    ·intro hc1;have hbad:c3a l i=false:=by
      rw [hpi]
      (try simp at hc1)
      first | (simp [hc1];done) | (rcases hc1 with h | h<;>first | (simp [h];done) | (rw [decide_eq_false (show ¬y0 < x0 by omega)];simp;done)) | (rcases hc1 with h | h<;>simp [h];done) | (simp_all;done) | (simp;intros;simp_all;omega)
     apply yR [2];apply (zr);exact b0h rfl (by rw [b86 hlt hbad]) (.inl rfl)
    ·intro hc1;have hgd:c3a l i= !b89 (l.take i) (x0,x1,x2,x3):=by
      rw [hpi]
      (try simp at hc1)
      first | (simp [hc1];done) | (simp_all;done) | (simp;intros;simp_all;omega)
     apply zn [0,3,4,7,8,9];apply yR [0,3,7,8,9,33,34,35];apply b0g;intros;apply b05 (fun j=>⟨[(0,sQ rQb l),(3,.int .i64 (Za i)),(7,sQ rQb l),(8,.int .i64 l.length),(9,.int .i64 (Za i)),(33,.sl (x3.map Zd)),(34,.int .i64 x3.length),(35,.int .i64 (Za j))],[],false,50,0⟩) (fun j=>j≤x3.length∧(x3.drop j).any (fun s=>(l.take i).any fun y=>inS s y.2.2.2)=x3.any (fun s=>(l.take i).any fun y=>inS s y.2.2.2)) (fun j=>x3.length - j) 0
     ·apply b0d [0,3,7,8,9,33,34,35] [];rfl
     ·exact ⟨qle _,rfl⟩
     ·rintro j hok19 Q19 n19 e19 r19;obtain ⟨hj1,hR2⟩:=hok19;apply yR [0,3,7,8,9,33,34,35,36];apply b0e;intros;apply b0c _ rfl
      ·intro hc2;have hlj:j < x3.length:=by omega
       obtain ⟨s,hs⟩:∃s,x3[j]? =some s:=⟨_,qla hlj⟩;have hst:=c2u (f:=(fun s=>(l.take i).any fun y=>inS s y.2.2.2)) hs;have hca:=d3n (l.take i) s;apply zn [0,3,7,8,9,33,34,35];apply b0e;intros;apply b0g;intros;have F:=fq6 (gdm hx) hlti hi0 @decide_false @qmo (gdm hs);apply yR [0,3,6,7,8,9,33,34,35];apply yRc [0,3,7,8,9,33,34,35,44] (b8q (l.take i) s hlt1 hmi);apply b0c _ rfl
       ·intro hc3;have hbad:c3a l i=false:=by rw [hgd,hcl,←hR2,hst];simp only [←hca];(try simp at hc3);simp [hc3]
        apply yR [2];apply (zr);exact b0h rfl (by rw [b86 hlt hbad]) (.inl rfl)
       ·intro hc3;have hno:((l.take i).any fun y=>inS s y.2.2.2)=false:=by rw [←hca];(try simp at hc3);simp;omega
        apply zn [0,3,7,8,9,33,34,35];apply (yV);apply n19 _ (j+1)
        ·apply b0d [0,3,7,8,9,33,34,35] [];rfl
        ·exact ⟨by omega,by rw [←hR2,hst];simp only [hno];rfl⟩
        ·show _ < _;omega
      ·intro hc2;have hgood:c3a l i=true:=by rw [hgd,hcl,←hR2,c6f (by omega)];rfl
       apply zn [0,7,8,9];apply (yV);apply n5 _ (i+1)
       ·apply b0d [0,7,8,9] [];rfl
       ·exact ⟨by omega,b7f hR hgood⟩
       ·show _ < _;omega
   ·skip;obtain ⟨⟨y0,y1,y2,y3⟩,hy⟩:∃x:TI,l[i - 1]? =some x:=⟨l[i - 1]'(by omega),qla (by omega)⟩;have hi0:(0:Int) < i:=by omega
    have hk:((i:Int) - 1).toNat=i - 1:=by omega
    have hpi:=d5f h0 hy hx;apply zn [0,7,8,9];apply b0e;intros;apply b0g;intros;have F:=fq7 (gdm hx) hlti hi0 hk (gdm hy) @decide_true @qm0;apply yR [0,3,4,7,8,9];apply b0e;intros;apply b0e;intro _ n35 _ _;apply b1b (by kernel_rfl);intro _ q36 k36;show b13 _ _ _ _ 18 (Zb 18 false) _;refine b08 q36 true 0 14 ?_;apply zoc 1 (c3l x0 x1 x2 x3 hsx hlx);refine zdU q36 true 2 16 ?_;refine zdU q36 true 3 17 ?_;refine b1n q36 true 4 18 ?_;refine b0y q36 true 5 19 ?_;refine b1n q36 true 6 20 ?_;refine b1n q36 true 7 21 ?_;refine b1n q36 true 8 22 ?_;refine b2s q36 true 9 23 ?_;refine b0u q36 true 10 24 ?_;refine b1n q36 true 11 25 ?_;refine b0p q36 true 12 26 ?_;refine b1n q36 true 13 27 ?_;refine b0p q36 true 14 28 ?_;refine b0y q36 true 15 29 ?_;refine b4s q36 true 16 30 ?_;refine b1s q36 true 17 31 ?_;apply b0b (by kernel_rfl);apply k36 _;apply n35 _ _ (b0a [0,3,4,7,8,9,31] _);apply (zk);apply b0c _ rfl
    ·intro hc1;have hbad:c3a l i=false:=by
      rw [hpi]
      (try simp at hc1)
      first | (simp [hc1];done) | (rcases hc1 with h | h<;>first | (simp [h];done) | (rw [decide_eq_false (show ¬y0 < x0 by omega)];simp;done)) | (rcases hc1 with h | h<;>simp [h];done) | (simp_all;done) | (simp;intros;simp_all;omega)
     apply yR [2];apply (zr);exact b0h rfl (by rw [b86 hlt hbad]) (.inl rfl)
    ·intro hc1;have hgd:c3a l i= !b89 (l.take i) (x0,x1,x2,x3):=by
      rw [hpi]
      (try simp at hc1)
      first | (simp [hc1];done) | (simp_all;done) | (simp;intros;simp_all;omega)
     apply zn [0,3,4,7,8,9];apply yR [0,3,7,8,9,33,34,35];apply b0g;intros;apply b05 (fun j=>⟨[(0,sQ rQb l),(3,.int .i64 (Za i)),(7,sQ rQb l),(8,.int .i64 l.length),(9,.int .i64 (Za i)),(33,.sl (x3.map Zd)),(34,.int .i64 x3.length),(35,.int .i64 (Za j))],[],false,50,0⟩) (fun j=>j≤x3.length∧(x3.drop j).any (fun s=>(l.take i).any fun y=>inS s y.2.2.2)=x3.any (fun s=>(l.take i).any fun y=>inS s y.2.2.2)) (fun j=>x3.length - j) 0
     ·apply b0d [0,3,7,8,9,33,34,35] [];rfl
     ·exact ⟨qle _,rfl⟩
     ·rintro j hok41 Q41 n41 e41 r41;obtain ⟨hj1,hR2⟩:=hok41;apply yR [0,3,7,8,9,33,34,35,36];apply b0e;intros;apply b0c _ rfl
      ·intro hc2;have hlj:j < x3.length:=by omega
       obtain ⟨s,hs⟩:∃s,x3[j]? =some s:=⟨_,qla hlj⟩;have hst:=c2u (f:=(fun s=>(l.take i).any fun y=>inS s y.2.2.2)) hs;have hca:=d3n (l.take i) s;apply zn [0,3,7,8,9,33,34,35];apply b0e;intros;apply b0g;intros;have F:=fq8 (gdm hx) hlti hi0 hk (gdm hy) @decide_true @qm0 (gdm hs);apply yR [0,3,6,7,8,9,33,34,35];apply yRc [0,3,7,8,9,33,34,35,44] (b8q (l.take i) s hlt1 hmi);apply b0c _ rfl
       ·intro hc3;have hbad:c3a l i=false:=by rw [hgd,hcl,←hR2,hst];simp only [←hca];(try simp at hc3);simp [hc3]
        apply yR [2];apply (zr);exact b0h rfl (by rw [b86 hlt hbad]) (.inl rfl)
       ·intro hc3;have hno:((l.take i).any fun y=>inS s y.2.2.2)=false:=by rw [←hca];(try simp at hc3);simp;omega
        apply zn [0,3,7,8,9,33,34,35];apply (yV);apply n41 _ (j+1)
        ·apply b0d [0,3,7,8,9,33,34,35] [];rfl
        ·exact ⟨by omega,by rw [←hR2,hst];simp only [hno];rfl⟩
        ·show _ < _;omega
      ·intro hc2;have hgood:c3a l i=true:=by rw [hgd,hcl,←hR2,c6f (by omega)];rfl
       apply zn [0,7,8,9];apply (yV);apply n5 _ (i+1)
       ·apply b0d [0,7,8,9] [];rfl
       ·exact ⟨by omega,b7f hR hgood⟩
       ·show _ < _;omega
  ·intro hc0;apply zn [0];apply yR [2];apply (zr);exact b0h rfl (by rw [d4f (by omega) hR]) (.inl rfl)
set_option maxRecDepth 8000 in
theorem c2m (l:List TI) (hl:l.length≤1048576) (hli:∀x∈l,x.2.2.2.length≤1048576) (hls:∀x∈l,∀s∈x.2.2.2,s.size≤9223372036854775807):Con prog 102 [sQ rQb l] [] (.bool (c4a l)) []:=by
 apply zcn [.tmp 2] [] func102 ntmps102;intro _ _ _;have T:=tq6 Y3 Y4 Y9 Y29 Y48 Y96;have F:=Fc.mk True.intro;apply yR [0];apply b0e;intros;apply yR [0,9,10,11];apply b0g;intros;apply b05 (fun i=>⟨[(0,sQ rQb l),(9,sQ rQb l),(10,.int .i64 l.length),(11,.int .i64 (Za i))],[],false,59,0⟩) (fun i=>i≤l.length∧∀j,j < i→c3a l j=true) (fun i=>l.length - i) 0
 ·refine b18 [0,9,10,11] ?_;simp only [b0r,b0k,b0i,b0f,b0n,Nat.reduceEqDiff,reduceIte];rfl
 ·exact ⟨qle _,fun j h=>absurd h (Nat.not_lt_zero _)⟩
 ·rintro i hok5 Q5 n5 e5 r5;obtain ⟨hi1,hR⟩:=hok5;apply yR [0,9,10,11,12];apply b0e;intros;apply b0c _ rfl
  ·intro hc0;have hlt:i < l.length:=by omega
   obtain ⟨⟨x0,x1,x2,x3⟩,hx⟩:∃x:TI,l[i]? =some x:=⟨l[i]'(by omega),qla (by omega)⟩;have hlx:=hli _ (qlb hx);have hsx:=hls _ (qlb hx);simp only [] at hlx hsx;have hlt1:(l.take i).length≤1048576:=ql7 (List.length_take_le ..) (by omega);have hlti:(l.take i).length=i:=by rw [qlj];omega
   have hmi:∀x∈l.take i,x.2.2.2.length≤1048576:=fun x h=>hli x (qlz h)
   have hcl:b89 (l.take i) (x0,x1,x2,x3)=x3.any (fun s=>(l.take i).any fun y=>inS s y.2.2.2):=rfl;have hcl2:b89 (l.take i) (x0,x1,x2,x3)=(l.take i).any (fun y:TI=>x3.any fun s=>inS s y.2.2.2):=by rw [hcl];exact f7f (fun s (y:TI)=>inS s y.2.2.2) x3 (l.take i)
   rcases ql8 i with h0 | h0
   ·skip;have hi0:¬((0:Int) < (i:Int)):=by omega
    have hpi:c3a l i=(c21 (x0,x1,x2,x3) && !b89 (l.take i) (x0,x1,x2,x3)):=by subst h0;exact d4b hx
    apply zn [0,9,10,11];apply b0e;intros;apply b0g;intros;have F:=fq5 (gdm hx) hlti hi0 @decide_false @qmo;apply yR [0,3,4,9,10,11];apply b0e;intros;apply b0e;intro _ n13 _ _;apply b1b (by kernel_rfl);intro _ q14 k14;show b13 _ _ _ _ 18 (Zb 18 false) _;refine b08 q14 true 0 16 ?_;apply zoc 1 (d46 x0 x1 x2 x3 hsx hlx);refine zdU q14 true 2 18 ?_;refine zdU q14 true 3 19 ?_;refine b1n q14 true 4 20 ?_;refine b0y q14 true 5 21 ?_;refine b1n q14 true 6 22 ?_;refine b1n q14 true 7 23 ?_;refine b1n q14 true 8 24 ?_;refine b2s q14 true 9 25 ?_;refine b0u q14 true 10 26 ?_;refine b1n q14 true 11 27 ?_;refine b0p q14 true 12 28 ?_;refine b1n q14 true 13 29 ?_;refine b0p q14 true 14 30 ?_;refine b0y q14 true 15 31 ?_;refine b4s q14 true 16 32 ?_;refine b1s q14 true 17 33 ?_;apply b0b (by kernel_rfl);apply k14 _;apply n13 _ _ (b0a [0,3,4,9,10,11,33] _);apply (zk);apply b0c _ rfl
    ·intro hc1;have hbad:c3a l i=false:=by
      rw [hpi]
      (try simp at hc1)
      first | (simp [hc1];done) | (rcases hc1 with h | h<;>first | (simp [h];done) | (rw [decide_eq_false (show ¬y0 < x0 by omega)];simp;done)) | (rcases hc1 with h | h<;>simp [h];done) | (simp_all;done) | (simp;intros;simp_all;omega)
     apply yR [2];apply (zr);exact b0h rfl (by rw [b86 hlt hbad]) (.inl rfl)
    ·intro hc1;have hgd:c3a l i= !b89 (l.take i) (x0,x1,x2,x3):=by
      rw [hpi]
      (try simp at hc1)
      first | (simp [hc1];done) | (simp_all;done) | (simp;intros;simp_all;omega)
     apply zn [0,3,4,9,10,11];apply yR [0,4,9,10,11,36,37,38];apply b0g;intros;apply b05 (fun j=>⟨[(0,sQ rQb l),(4,.ptr 0 0 0),(9,sQ rQb l),(10,.int .i64 l.length),(11,.int .i64 (Za i)),(36,sQ rQb (l.take i)),(37,.int .i64 (Za i)),(38,.int .i64 (Za j))],[.box (.agg [Zc .i64 x0,Zc .i64 x1,Ze x2,V.sl (x3.map Zd)]) .shal],false,59,0⟩) (fun j=>j≤(l.take i).length∧((l.take i).drop j).any (fun y:TI=>x3.any fun s=>inS s y.2.2.2)=(l.take i).any (fun y:TI=>x3.any fun s=>inS s y.2.2.2)) (fun j=>(l.take i).length - j) 0
     ·apply b0d [0,4,9,10,11,36,37,38] [1];rfl
     ·exact ⟨qle _,rfl⟩
     ·rintro j hok19 Q19 n19 e19 r19;obtain ⟨hj1,hR2⟩:=hok19;apply yR [0,4,9,10,11,36,37,38,39];apply b0e;intros;apply b0c _ rfl
      ·intro hc2;have hlj:j < (l.take i).length:=by omega
       obtain ⟨⟨z0,z1,z2,z3⟩,hz⟩:∃x:TI,(l.take i)[j]? =some x:=⟨(l.take i)[j]'(by omega),qla (by omega)⟩;have hst:=c2u (f:=(fun y:TI=>x3.any fun s=>inS s y.2.2.2)) hz;have hlz:=hmi _ (qlb hz);simp only [] at hlz;apply zn [0,4,9,10,11,36,37,38];apply b0e;intros;apply b0g;intros;have F:=fq6 (gdm hx) hlti hi0 @decide_false @qmo (gdm hz);apply yR [0,4,6,9,10,11,36,37,38];apply yR [0,4,6,9,10,11,36,37,38,43,44,45];apply b0g;intros;apply b05 (fun m=>⟨[(0,sQ rQb l),(4,.ptr 0 0 0),(6,.ptr 1 0 0),(9,sQ rQb l),(10,.int .i64 l.length),(11,.int .i64 (Za i)),(36,sQ rQb (l.take i)),(37,.int .i64 (Za i)),(38,.int .i64 (Za j)),(43,.sl (x3.map Zd)),(44,.int .i64 x3.length),(45,.int .i64 (Za m))],[.box (.agg [Zc .i64 x0,Zc .i64 x1,Ze x2,V.sl (x3.map Zd)]) .shal,.box (.agg [Zc .i64 z0,Zc .i64 z1,Ze z2,V.sl (z3.map Zd)]) .shal],false,59,0⟩) (fun m=>m≤x3.length∧(x3.drop m).any (fun s=>inS s z3)=x3.any fun s=>inS s z3) (fun m=>x3.length - m) 0
       ·apply b0d [0,4,6,9,10,11,36,37,38,43,44,45] [0,2];rfl
       ·exact ⟨qle _,rfl⟩
       ·rintro m hok28 Q28 n28 e28 r28;obtain ⟨hm1,hR3⟩:=hok28;apply yR [0,4,6,9,10,11,36,37,38,43,44,45,46];apply b0e;intros;apply b0c _ rfl
        ·intro hc3;have hlm:m < x3.length:=by omega
         obtain ⟨s,hs⟩:∃s,x3[m]? =some s:=⟨_,qla hlm⟩;have hst3:=c2u (f:=fun s=>inS s z3) hs;apply zn [0,4,6,9,10,11,36,37,38,43,44,45];apply b0e;intros;apply b0g;intros;have F:=fq7 (gdm hx) hlti hi0 @decide_false @qmo (gdm hz) (gdm hs);apply yR [0,4,6,8,9,10,11,36,37,38,43,44,45];apply yRc [0,4,6,9,10,11,36,37,38,43,44,45,52] (c47 z3 s hlz);apply b0c _ rfl
         ·intro hc4;have hbad:c3a l i=false:=by
           have h3:(x3.any fun s=>inS s z3)=true:=by rw [←hR3,hst3];simp [hc4]
           rw [hgd,hcl2,←hR2,hst];simp only [h3];rfl
          apply yR [2];apply (zr);exact b0h rfl (by rw [b86 hlt hbad]) (.inl rfl)
         ·intro hc4;apply zn [0,4,6,9,10,11,36,37,38,43,44,45];apply (yV);apply n28 _ (m+1)
          ·apply b0d [0,4,6,9,10,11,36,37,38,43,44,45] [0,1];rfl
          ·exact ⟨by omega,by rw [←hR3,hst3];simp [hc4]⟩
          ·show _ < _;omega
        ·intro hc3;have hno:(x3.any fun s=>inS s z3)=false:=by rw [←hR3,c6f (by omega)]
         apply zn [0,4,9,10,11,36,37,38];apply (yV);apply n19 _ (j+1)
         ·apply b0d [0,4,9,10,11,36,37,38] [0];rfl
         ·exact ⟨by omega,by rw [←hR2,hst];simp only [hno];rfl⟩
         ·show _ < _;show (l.take i).length - (j+1) < (l.take i).length - j;omega
      ·intro hc2;have hgood:c3a l i=true:=by rw [hgd,hcl2,←hR2,c6f (by omega)];rfl
       apply zn [0,9,10,11];apply (yV);apply n5 _ (i+1)
       ·apply b0d [0,9,10,11] [];rfl
       ·exact ⟨by omega,b7f hR hgood⟩
       ·show _ < _;omega
   ·skip;obtain ⟨⟨y0,y1,y2,y3⟩,hy⟩:∃x:TI,l[i - 1]? =some x:=⟨l[i - 1]'(by omega),qla (by omega)⟩;have hi0:(0:Int) < i:=by omega
    have hk:((i:Int) - 1).toNat=i - 1:=by omega
    have hpi:=d5f h0 hy hx;apply zn [0,9,10,11];apply b0e;intros;apply b0g;intros;have F:=fq7 (gdm hx) hlti hi0 hk (gdm hy) @decide_true @qm0;apply yR [0,3,4,9,10,11];apply b0e;intros;apply b0e;intro _ n45 _ _;apply b1b (by kernel_rfl);intro _ q46 k46;show b13 _ _ _ _ 18 (Zb 18 false) _;refine b08 q46 true 0 16 ?_;apply zoc 1 (d46 x0 x1 x2 x3 hsx hlx);refine zdU q46 true 2 18 ?_;refine zdU q46 true 3 19 ?_;refine b1n q46 true 4 20 ?_;refine b0y q46 true 5 21 ?_;refine b1n q46 true 6 22 ?_;refine b1n q46 true 7 23 ?_;refine b1n q46 true 8 24 ?_;refine b2s q46 true 9 25 ?_;refine b0u q46 true 10 26 ?_;refine b1n q46 true 11 27 ?_;refine b0p q46 true 12 28 ?_;refine b1n q46 true 13 29 ?_;refine b0p q46 true 14 30 ?_;refine b0y q46 true 15 31 ?_;refine b4s q46 true 16 32 ?_;refine b1s q46 true 17 33 ?_;apply b0b (by kernel_rfl);apply k46 _;apply n45 _ _ (b0a [0,3,4,9,10,11,33] _);apply (zk);apply b0c _ rfl
    ·intro hc1;have hbad:c3a l i=false:=by
      rw [hpi]
      (try simp at hc1)
      first | (simp [hc1];done) | (rcases hc1 with h | h<;>first | (simp [h];done) | (rw [decide_eq_false (show ¬y0 < x0 by omega)];simp;done)) | (rcases hc1 with h | h<;>simp [h];done) | (simp_all;done) | (simp;intros;simp_all;omega)
     apply yR [2];apply (zr);exact b0h rfl (by rw [b86 hlt hbad]) (.inl rfl)
    ·intro hc1;have hgd:c3a l i= !b89 (l.take i) (x0,x1,x2,x3):=by
      rw [hpi]
      (try simp at hc1)
      first | (simp [hc1];done) | (simp_all;done) | (simp;intros;simp_all;omega)
     apply zn [0,3,4,9,10,11];apply yR [0,4,9,10,11,36,37,38];apply b0g;intros;apply b05 (fun j=>⟨[(0,sQ rQb l),(4,.ptr 0 0 0),(9,sQ rQb l),(10,.int .i64 l.length),(11,.int .i64 (Za i)),(36,sQ rQb (l.take i)),(37,.int .i64 (Za i)),(38,.int .i64 (Za j))],[.box (.agg [Zc .i64 x0,Zc .i64 x1,Ze x2,V.sl (x3.map Zd)]) .shal],false,59,0⟩) (fun j=>j≤(l.take i).length∧((l.take i).drop j).any (fun y:TI=>x3.any fun s=>inS s y.2.2.2)=(l.take i).any (fun y:TI=>x3.any fun s=>inS s y.2.2.2)) (fun j=>(l.take i).length - j) 0
     ·apply b0d [0,4,9,10,11,36,37,38] [1];rfl
     ·exact ⟨qle _,rfl⟩
     ·rintro j hok51 Q51 n51 e51 r51;obtain ⟨hj1,hR2⟩:=hok51;apply yR [0,4,9,10,11,36,37,38,39];apply b0e;intros;apply b0c _ rfl
      ·intro hc2;have hlj:j < (l.take i).length:=by omega
       obtain ⟨⟨z0,z1,z2,z3⟩,hz⟩:∃x:TI,(l.take i)[j]? =some x:=⟨(l.take i)[j]'(by omega),qla (by omega)⟩;have hst:=c2u (f:=(fun y:TI=>x3.any fun s=>inS s y.2.2.2)) hz;have hlz:=hmi _ (qlb hz);simp only [] at hlz;apply zn [0,4,9,10,11,36,37,38];apply b0e;intros;apply b0g;intros;have F:=fq8 (gdm hx) hlti hi0 hk (gdm hy) @decide_true @qm0 (gdm hz);apply yR [0,4,6,9,10,11,36,37,38];apply yR [0,4,6,9,10,11,36,37,38,43,44,45];apply b0g;intros;apply b05 (fun m=>⟨[(0,sQ rQb l),(4,.ptr 0 0 0),(6,.ptr 1 0 0),(9,sQ rQb l),(10,.int .i64 l.length),(11,.int .i64 (Za i)),(36,sQ rQb (l.take i)),(37,.int .i64 (Za i)),(38,.int .i64 (Za j)),(43,.sl (x3.map Zd)),(44,.int .i64 x3.length),(45,.int .i64 (Za m))],[.box (.agg [Zc .i64 x0,Zc .i64 x1,Ze x2,V.sl (x3.map Zd)]) .shal,.box (.agg [Zc .i64 z0,Zc .i64 z1,Ze z2,V.sl (z3.map Zd)]) .shal],false,59,0⟩) (fun m=>m≤x3.length∧(x3.drop m).any (fun s=>inS s z3)=x3.any fun s=>inS s z3) (fun m=>x3.length - m) 0
       ·apply b0d [0,4,6,9,10,11,36,37,38,43,44,45] [0,2];rfl
       ·exact ⟨qle _,rfl⟩
       ·rintro m hok60 Q60 n60 e60 r60;obtain ⟨hm1,hR3⟩:=hok60;apply yR [0,4,6,9,10,11,36,37,38,43,44,45,46];apply b0e;intros;apply b0c _ rfl
        ·intro hc3;have hlm:m < x3.length:=by omega
         obtain ⟨s,hs⟩:∃s,x3[m]? =some s:=⟨_,qla hlm⟩;have hst3:=c2u (f:=fun s=>inS s z3) hs;apply zn [0,4,6,9,10,11,36,37,38,43,44,45];apply b0e;intros;apply b0g;intros;have F:=fq9 (gdm hx) hlti hi0 hk (gdm hy) @decide_true @qm0 (gdm hz) (gdm hs);apply yR [0,4,6,8,9,10,11,36,37,38,43,44,45];apply yRc [0,4,6,9,10,11,36,37,38,43,44,45,52] (c47 z3 s hlz);apply b0c _ rfl
         ·intro hc4;have hbad:c3a l i=false:=by
           have h3:(x3.any fun s=>inS s z3)=true:=by rw [←hR3,hst3];simp [hc4]
           rw [hgd,hcl2,←hR2,hst];simp only [h3];rfl
          apply yR [2];apply (zr);exact b0h rfl (by rw [b86 hlt hbad]) (.inl rfl)
         ·intro hc4;apply zn [0,4,6,9,10,11,36,37,38,43,44,45];apply (yV);apply n60 _ (m+1)
          ·apply b0d [0,4,6,9,10,11,36,37,38,43,44,45] [0,1];rfl
          ·exact ⟨by omega,by rw [←hR3,hst3];simp [hc4]⟩
          ·show _ < _;omega
        ·intro hc3;have hno:(x3.any fun s=>inS s z3)=false:=by rw [←hR3,c6f (by omega)]
         apply zn [0,4,9,10,11,36,37,38];apply (yV);apply n51 _ (j+1)
         ·apply b0d [0,4,9,10,11,36,37,38] [0];rfl
         ·exact ⟨by omega,by rw [←hR2,hst];simp only [hno];rfl⟩
         ·show _ < _;show (l.take i).length - (j+1) < (l.take i).length - j;omega
      ·intro hc2;have hgood:c3a l i=true:=by rw [hgd,hcl2,←hR2,c6f (by omega)];rfl
       apply zn [0,9,10,11];apply (yV);apply n5 _ (i+1)
       ·apply b0d [0,9,10,11] [];rfl
       ·exact ⟨by omega,b7f hR hgood⟩
       ·show _ < _;omega
  ·intro hc0;apply zn [0];apply yR [2];apply (zr);exact b0h rfl (by rw [d4f (by omega) hR]) (.inl rfl)
def c19 (x:TA):Bool:=decide (1≤x.2.2.2.2) && decide (x.2.2.2.2≤3)
def b3c (l:List Int):Bool:=c3t l && !l.all (fun x:Int=>inR x 0 0)
def b6j (ins:List TI) (ws:List TW) (i:Nat):Bool:=match ws[i]? with
  | none=>true
  | some w=>decide (0≤b3j ins w.1) && b3c w.2 && (decide (i=0) || match ws[i - 1]? with | some y=>decide (y.1 < w.1) | none=>true)
def inP (n:Int) (fl:List TA) (x:TI):Bool:=c1m n x.2.1 && x.2.2.2.all fun s=>decide (0≤b4l fl s)
def b57 (ins:List TI) (a:TA):Bool:= !(c19 a != decide (0≤b6k ins a.1))
def d3r (n:Int) (ss:List TS) (fl:List TA) (ins:List TI) (ws:List TW):Bool:=dsB n ss fl && c4a ins && !decide (8 < (ws.length:Int))
def b3g (n:Int) (ss:List TS) (fl:List TA) (ins:List TI) (ws:List TW):Bool:=d3r n ss fl ins ws && ins.all (inP n fl) && fl.all (b57 ins) && (List.range ws.length).all (b6j ins ws)
section
variable {n:Int} {ss:List TS} {fl:List TA} {ins:List TI} {ws:List TW}
theorem g1c (h:d3r n ss fl ins ws=false):b3g n ss fl ins ws=false:=by rw [b3g,h];rfl
theorem g47 (h:ins.all (inP n fl)=false):b3g n ss fl ins ws=false:=by rw [b3g,h];simp
theorem g1k (h:fl.all (b57 ins)=false):b3g n ss fl ins ws=false:=by rw [b3g,h];simp
theorem f0h {i:Nat} (hi:i < ws.length) (h:b6j ins ws i=false):b3g n ss fl ins ws=false:=by
  have:(List.range ws.length).all (b6j ins ws)=false:=by
    rw [List.all_eq_false];exact ⟨i,qmc.2 hi,by rw [h];simp⟩
  rw [b3g,this];simp
theorem f4d {i:Nat} (h1:d3r n ss fl ins ws=true) (h2:ins.all (inP n fl)=true) (h3:fl.all (b57 ins)=true) (hi:ws.length≤i) (h4:∀j,j < i→b6j ins ws j=true):b3g n ss fl ins ws=true:=by
  have:(List.range ws.length).all (b6j ins ws)=true:=by
    rw [qlk];intro j hj;exact h4 j (qm1 (qmc.1 hj) hi)
  rw [b3g,h1,h2,h3,this];rfl
end
theorem c5z {ins:List TI} {ws:List TW} {w:TW} (h:ws[0]? =some w):b6j ins ws 0=(decide (0≤b3j ins w.1) && b3c w.2):=by
  rw [b6j,h];simp
theorem c6g {ins:List TI} {ws:List TW} {w y:TW} {i:Nat} (h0:0 < i) (hy:ws[i - 1]? =some y) (h:ws[i]? =some w):b6j ins ws i=(decide (0≤b3j ins w.1) && b3c w.2 && decide (y.1 < w.1)):=by
  rw [b6j,h];simp only [hy,decide_eq_false (show ¬i=0 by omega),Bool.false_or]
theorem d1x {n:Int} {ss:List TS} {fl:List TA} {ins:List TI} {ws:List TW} (h:d3r n ss fl ins ws=true):DsFacts n ss fl∧(∀x∈ins,0≤x.2.1):=by
  simp only [d3r,Bool.and_eq_true] at h;refine ⟨d8z h.1.1,fun x hx=> ?_⟩;obtain ⟨i,hi,rfl⟩:=List.getElem_of_mem hx;have h2:=h.1.2;simp only [c4a,Bool.and_eq_true,List.all_eq_true,List.mem_range] at h2;have h3:=h2.1 i hi;rw [c3a,qla hi] at h3;simp only [Bool.and_eq_true,c21,decide_eq_true_eq] at h3;omega
theorem d2n {x:Int} {l:List Int} (h:c3t (x::l)=true):decide (b9o l x=0)=(x::l).all (fun x:Int=>inR x 0 0):=by
  obtain ⟨_,hb⟩:=b5i h;have key:∀(l:List Int) (a:Int),0≤a→(∀y∈l,0≤y)→decide (b9o l a=0)=(decide (a=0) && l.all (fun x:Int=>inR x 0 0)):=by
    intro l
    induction l with
    | nil=>intro a _ _;simp [b9o]
    | cons y l ih=>
      intro a _ hl;have hy:=hl y (qlp ..);have hs:b9o (y::l) a=b9o l (if y > a then y else a):=rfl;rw [hs,ih _ (by split<;>omega) fun z hz=>hl z (qlq _ hz),List.all_cons]
      have e:decide ((if y > a then y else a)=0)=(decide (a=0) && inR y 0 0):=by
        rw [inR]
        by_cases h1:y > a
        · rw [if_pos h1,decide_eq_false (show ¬y=0 by omega),decide_eq_false (show ¬y≤0 by omega)];simp
        · rw [if_neg h1]
          by_cases h2:a=0
          · rw [decide_eq_true h2,decide_eq_true (show 0≤y by omega),decide_eq_true (show y≤0 by omega)];rfl
          · rw [decide_eq_false h2];rfl
      rw [e,Bool.and_assoc]
  rw [key l x (hb x (qlp ..)).1 fun y hy=>(hb y (qlq _ hy)).1,List.all_cons]
  congr 1
  have:=(hb x (qlp ..)).1;rw [inR,decide_eq_true this,Bool.true_and];exact decide_eq_decide.2 (by omega)
theorem g24 (x0:ByteArray) (x1:Int) (x2:Int) (x3:Int) (x4:Int):Con prog 90 [.agg [Zd x0,Zc .i64 x1,Zc .i64 x2,Zc .i64 x3,Zc .i64 x4]] [] (.bool (c19 (x0,x1,x2,x3,x4))) []:=by
 apply zcn [.tmp 2] [] func90 ntmps90;intro _ _ _;have T:=tq4 Y3 Y4 Y9 Y98;have F:=Fc.mk True.intro;apply yR [1];apply yRc [2] (b2p _ _ _);apply (zr);exact b0h rfl rfl (.inl rfl)
theorem c2e (n:Int):Con prog 69 [.int .i64 n] [] (.bool (decide (1≤n) && decide (n≤3))) []:=by
 apply zcn [.tmp 2] [] func69 ntmps69;intro _ _ _;have T:=tq2 Y3 Y4;have F:=Fc.mk True.intro;apply yR [0];apply yRc [2] (b21 _ _ _);apply (zr);exact b0h rfl (by first | rfl | simp) (.inl rfl)
theorem d1q (l:List Int) (hl:l.length≤1048576):Con prog 104 [.sl (l.map (Zc .i64))] [] (.bool (b3c l)) []:=by
 apply zcn [.tmp 2] [] func104 ntmps104;intro _ _ _;have T:=tq3 Y3 Y4 Y41;have F:=Fc.mk True.intro;apply yR [0];apply d6n [2] (d1m l hl) (c5f l 0 0 hl);apply (zr);exact b0h rfl rfl (.inl rfl)
end Go.Proofs.YtmbbjhopngejaaaGreat
