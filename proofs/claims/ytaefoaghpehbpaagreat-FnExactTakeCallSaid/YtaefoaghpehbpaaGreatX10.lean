/- What functions compute. No condition. -/
import Derived.Test.YtaefoaghpehbpaaGreatUz
import Derived.Test.YtaefoaghpehbpaaGreatUty
import Derived.Test.YtaefoaghpehbpaaGreatUmG
import Derived.Test.YtaefoaghpehbpaaGreatX9
import Derived.Test.YtaefoaghpehbpaaGreatX1
import Derived.Test.YtaefoaghpehbpaaGreatX8
import Derived.Test.YtaefoaghpehbpaaGreatX7
import Derived.Test.YtaefoaghpehbpaaGreatX3
set_option linter.unusedSimpArgs false
set_option linter.unusedVariables false
set_option linter.defProp false
namespace Go.Proofs.YtaefoaghpehbpaaGreat
open Go Go.Vm
set_option maxHeartbeats 8000000
set_option maxRecDepth 8000 in
theorem c5s (l:List TI) (hl:l.length≤1048576) (hli:∀x∈l,x.2.2.2.length≤1048576) (hls:∀x∈l,∀s∈x.2.2.2,s.size≤9223372036854775807):Con Tryz.prog 133 [.sl (l.map (fun t:TI=>V.agg [V.int .i64 t.1,V.int .i64 t.2.1,V.bool t.2.2.1,V.sl (t.2.2.2.map V.str)]))] [] (.bool (c2g l)) []:=by
 refine b05 [.tmp 2] [] Tryz.func133 rfl rfl rfl (by simp [Tryz.ntmps133]) ?_
 intro Q0 n0 r0
 simp only [Tryz.ntmps133,b0l,Nat.reduceAdd]
 have T:=Tys.mk (ai Ty.t3 (ai Ty.t4 (ai Ty.t9 (ai Ty.t33 (ai Ty.t51 Ty.t99)))))
 have F:=Fc.mk True.intro
 refine yR [0] ⟨?_⟩;refine b0c ?_;intros;refine yR [0,7,8,9] ⟨?_⟩;refine b0g ?_;intros;refine b08 (fun i=>⟨[(0,.sl (l.map (fun t:TI=>V.agg [V.int .i64 t.1,V.int .i64 t.2.1,V.bool t.2.2.1,V.sl (t.2.2.2.map V.str)]))),(7,.sl (l.map (fun t:TI=>V.agg [V.int .i64 t.1,V.int .i64 t.2.1,V.bool t.2.2.1,V.sl (t.2.2.2.map V.str)]))),(8,.int .i64 l.length),(9,.int .i64 (Nat.cast i))],[],false,50,0⟩) (fun i=>i≤l.length∧∀j,j < i→c1l l j=true) (fun i=>l.length - i) 0 ?_ ?_ ?_
 ·refine b1a [0,7,8,9] ?_
  simp only [b0s,b0k,b0h,b0i,b0n,Nat.reduceEqDiff,reduceIte]
  rfl
 ·exact ⟨Nat.zero_le _,fun j h=>absurd h (Nat.not_lt_zero _)⟩
 ·rintro i hok5 Q5 n5 e5 r5
  obtain ⟨hi1,hR⟩:=hok5
  refine yR [0,7,8,9,10] ⟨?_⟩;refine b0c ?_;intros;refine b0d _ rfl ?_ ?_
  ·intro hc0
   have hlt:i < l.length:=by omega
   obtain ⟨⟨x0,x1,x2,x3⟩,hx⟩:∃x:TI,l[i]? =some x:=⟨l[i]'(by omega),List.getElem?_eq_getElem (by omega)⟩
   have hlx:=hli _ (List.mem_of_getElem? hx)
   have hsx:=hls _ (List.mem_of_getElem? hx)
   simp only [] at hlx hsx
   have hlt1:(l.take i).length≤1048576:=Nat.le_trans (List.length_take_le ..) (by omega)
   have hlti:(l.take i).length=i:=by rw [List.length_take];omega
   have hmi:∀x∈l.take i,x.2.2.2.length≤1048576:=fun x h=>hli x (List.mem_of_mem_take h)
   have hcl:b7v (l.take i) (x0,x1,x2,x3)=x3.any (fun s=>(l.take i).any fun y=>inS s y.2.2.2):=rfl
   rcases Nat.eq_zero_or_pos i with h0 | h0
   ·skip
    have hi0:¬((0:Int) < (i:Int)):=by omega
    have hpi:c1l l i=(c1h (x0,x1,x2,x3) && !b7v (l.take i) (x0,x1,x2,x3)):=by subst h0;exact d3r hx
    refine zn [0,7,8,9] ⟨?_⟩;refine b0c ?_;intros;refine b0g ?_;intros
    have F:=Fc.mk (ai (gdm hx) (ai hlti (ai hi0 (ai @decide_false @Bool.and_false))))
    refine yR [0,3,4,7,8,9] ⟨?_⟩;refine b0c ?_;intros;refine b0c ?_;intro Q13 n13 e13 r13;refine b1p (by kernel_rfl) ?_;intro K14 q14 k14
    show b14 _ _ _ _ 18 (Array.replicate 18 false) _
    refine b1h q14 true 0 14 ?_;refine zoc 1 (c1k x0 x1 x2 x3 hsx hlx) ⟨?_⟩;refine b5q q14 true 2 16 ?_;refine b0o q14 true 3 17 ?_;refine b0y q14 true 4 18 ?_;refine b0z q14 true 5 19 ?_;refine b0y q14 true 6 20 ?_;refine b0y q14 true 7 21 ?_;refine b0y q14 true 8 22 ?_;refine b2e q14 true 9 23 ?_;refine b0x q14 true 10 24 ?_;refine b0e q14 true 11 25 ?_;refine b0q q14 true 12 26 ?_;refine b0e q14 true 13 27 ?_;refine b0q q14 true 14 28 ?_;refine b0z q14 true 15 29 ?_;refine b38 q14 true 16 30 ?_;refine b1w q14 true 17 31 ?_;refine b0j (by kernel_rfl) ?_;refine k14 _ ?_;refine n13 _ _ (b0f [0,3,4,7,8,9,31] _) ?_;refine zk ⟨?_⟩;refine b0d _ rfl ?_ ?_
    ·intro hc1
     have hbad:c1l l i=false:=by
      rw [hpi]
      (try simp at hc1)
      first | (simp [hc1];done) | (rcases hc1 with h | h<;>first | (simp [h];done) | (rw [decide_eq_false (show ¬y0 < x0 by omega)];simp;done)) | (rcases hc1 with h | h<;>simp [h];done) | (simp_all;done) | (simp;intros;simp_all;omega)
     refine yR [2] ⟨?_⟩;refine zr ⟨?_⟩
     exact b0a rfl (by rw [b8d hlt hbad]) (.inl rfl)
    ·intro hc1
     have hgd:c1l l i= !b7v (l.take i) (x0,x1,x2,x3):=by
      rw [hpi]
      (try simp at hc1)
      first | (simp [hc1];done) | (simp_all;done) | (simp;intros;simp_all;omega)
     refine zn [0,3,4,7,8,9] ⟨?_⟩;refine yR [0,3,7,8,9,33,34,35] ⟨?_⟩;refine b0g ?_;intros;refine b08 (fun j=>⟨[(0,.sl (l.map (fun t:TI=>V.agg [V.int .i64 t.1,V.int .i64 t.2.1,V.bool t.2.2.1,V.sl (t.2.2.2.map V.str)]))),(3,.int .i64 (Nat.cast i)),(7,.sl (l.map (fun t:TI=>V.agg [V.int .i64 t.1,V.int .i64 t.2.1,V.bool t.2.2.1,V.sl (t.2.2.2.map V.str)]))),(8,.int .i64 l.length),(9,.int .i64 (Nat.cast i)),(33,.sl (x3.map V.str)),(34,.int .i64 x3.length),(35,.int .i64 (Nat.cast j))],[],false,50,0⟩) (fun j=>j≤x3.length∧(x3.drop j).any (fun s=>(l.take i).any fun y=>inS s y.2.2.2)=x3.any (fun s=>(l.take i).any fun y=>inS s y.2.2.2)) (fun j=>x3.length - j) 0 ?_ ?_ ?_
     ·refine b0b [0,3,7,8,9,33,34,35] [] ⟨?_⟩
      rfl
     ·exact ⟨Nat.zero_le _,rfl⟩
     ·rintro j hok19 Q19 n19 e19 r19
      obtain ⟨hj1,hR2⟩:=hok19
      refine yR [0,3,7,8,9,33,34,35,36] ⟨?_⟩;refine b0c ?_;intros;refine b0d _ rfl ?_ ?_
      ·intro hc2
       have hlj:j < x3.length:=by omega
       obtain ⟨s,hs⟩:∃s,x3[j]? =some s:=⟨_,List.getElem?_eq_getElem hlj⟩
       have hst:=c1a (f:=(fun s=>(l.take i).any fun y=>inS s y.2.2.2)) hs
       have hca:=d0h (l.take i) s
       refine zn [0,3,7,8,9,33,34,35] ⟨?_⟩;refine b0c ?_;intros;refine b0g ?_;intros
       have F:=Fc.mk (ai (gdm hx) (ai hlti (ai hi0 (ai @decide_false (ai @Bool.and_false (gdm hs))))))
       refine yR [0,3,6,7,8,9,33,34,35] ⟨?_⟩;refine yRc [0,3,7,8,9,33,34,35,44] (b7r (l.take i) s hlt1 hmi) ⟨?_⟩;refine b0d _ rfl ?_ ?_
       ·intro hc3
        have hbad:c1l l i=false:=by rw [hgd,hcl,←hR2,hst];simp only [←hca];(try simp at hc3);simp [hc3]
        refine yR [2] ⟨?_⟩;refine zr ⟨?_⟩
        exact b0a rfl (by rw [b8d hlt hbad]) (.inl rfl)
       ·intro hc3
        have hno:((l.take i).any fun y=>inS s y.2.2.2)=false:=by rw [←hca];(try simp at hc3);simp;omega
        refine zn [0,3,7,8,9,33,34,35] ⟨?_⟩;refine yV ⟨?_⟩;refine n19 _ (j+1) ?_ ?_ ?_
        ·refine b0b [0,3,7,8,9,33,34,35] [] ⟨?_⟩
         rfl
        ·exact ⟨by omega,by rw [←hR2,hst];simp only [hno];rfl⟩
        ·show _ < _;omega
      ·intro hc2
       have hgood:c1l l i=true:=by rw [hgd,hcl,←hR2,c4c (by omega)];rfl
       refine zn [0,7,8,9] ⟨?_⟩;refine yV ⟨?_⟩;refine n5 _ (i+1) ?_ ?_ ?_
       ·refine b0b [0,7,8,9] [] ⟨?_⟩
        rfl
       ·exact ⟨by omega,b6p hR hgood⟩
       ·show _ < _;omega
   ·skip
    obtain ⟨⟨y0,y1,y2,y3⟩,hy⟩:∃x:TI,l[i - 1]? =some x:=⟨l[i - 1]'(by omega),List.getElem?_eq_getElem (by omega)⟩
    have hi0:(0:Int) < i:=by omega
    have hk:((i:Int) - 1).toNat=i - 1:=by omega
    have hpi:=d3i h0 hy hx
    refine zn [0,7,8,9] ⟨?_⟩;refine b0c ?_;intros;refine b0g ?_;intros
    have F:=Fc.mk (ai (gdm hx) (ai hlti (ai hi0 (ai hk (ai (gdm hy) (ai @decide_true @Bool.and_true))))))
    refine yR [0,3,4,7,8,9] ⟨?_⟩;refine b0c ?_;intros;refine b0c ?_;intro Q35 n35 e35 r35;refine b1p (by kernel_rfl) ?_;intro K36 q36 k36
    show b14 _ _ _ _ 18 (Array.replicate 18 false) _
    refine b1h q36 true 0 14 ?_;refine zoc 1 (c1k x0 x1 x2 x3 hsx hlx) ⟨?_⟩;refine b5q q36 true 2 16 ?_;refine b0o q36 true 3 17 ?_;refine b0y q36 true 4 18 ?_;refine b0z q36 true 5 19 ?_;refine b0y q36 true 6 20 ?_;refine b0y q36 true 7 21 ?_;refine b0y q36 true 8 22 ?_;refine b2e q36 true 9 23 ?_;refine b0x q36 true 10 24 ?_;refine b0e q36 true 11 25 ?_;refine b0q q36 true 12 26 ?_;refine b0e q36 true 13 27 ?_;refine b0q q36 true 14 28 ?_;refine b0z q36 true 15 29 ?_;refine b38 q36 true 16 30 ?_;refine b1w q36 true 17 31 ?_;refine b0j (by kernel_rfl) ?_;refine k36 _ ?_;refine n35 _ _ (b0f [0,3,4,7,8,9,31] _) ?_;refine zk ⟨?_⟩;refine b0d _ rfl ?_ ?_
    ·intro hc1
     have hbad:c1l l i=false:=by
      rw [hpi]
      (try simp at hc1)
      first | (simp [hc1];done) | (rcases hc1 with h | h<;>first | (simp [h];done) | (rw [decide_eq_false (show ¬y0 < x0 by omega)];simp;done)) | (rcases hc1 with h | h<;>simp [h];done) | (simp_all;done) | (simp;intros;simp_all;omega)
     refine yR [2] ⟨?_⟩;refine zr ⟨?_⟩
     exact b0a rfl (by rw [b8d hlt hbad]) (.inl rfl)
    ·intro hc1
     have hgd:c1l l i= !b7v (l.take i) (x0,x1,x2,x3):=by
      rw [hpi]
      (try simp at hc1)
      first | (simp [hc1];done) | (simp_all;done) | (simp;intros;simp_all;omega)
     refine zn [0,3,4,7,8,9] ⟨?_⟩;refine yR [0,3,7,8,9,33,34,35] ⟨?_⟩;refine b0g ?_;intros;refine b08 (fun j=>⟨[(0,.sl (l.map (fun t:TI=>V.agg [V.int .i64 t.1,V.int .i64 t.2.1,V.bool t.2.2.1,V.sl (t.2.2.2.map V.str)]))),(3,.int .i64 (Nat.cast i)),(7,.sl (l.map (fun t:TI=>V.agg [V.int .i64 t.1,V.int .i64 t.2.1,V.bool t.2.2.1,V.sl (t.2.2.2.map V.str)]))),(8,.int .i64 l.length),(9,.int .i64 (Nat.cast i)),(33,.sl (x3.map V.str)),(34,.int .i64 x3.length),(35,.int .i64 (Nat.cast j))],[],false,50,0⟩) (fun j=>j≤x3.length∧(x3.drop j).any (fun s=>(l.take i).any fun y=>inS s y.2.2.2)=x3.any (fun s=>(l.take i).any fun y=>inS s y.2.2.2)) (fun j=>x3.length - j) 0 ?_ ?_ ?_
     ·refine b0b [0,3,7,8,9,33,34,35] [] ⟨?_⟩
      rfl
     ·exact ⟨Nat.zero_le _,rfl⟩
     ·rintro j hok41 Q41 n41 e41 r41
      obtain ⟨hj1,hR2⟩:=hok41
      refine yR [0,3,7,8,9,33,34,35,36] ⟨?_⟩;refine b0c ?_;intros;refine b0d _ rfl ?_ ?_
      ·intro hc2
       have hlj:j < x3.length:=by omega
       obtain ⟨s,hs⟩:∃s,x3[j]? =some s:=⟨_,List.getElem?_eq_getElem hlj⟩
       have hst:=c1a (f:=(fun s=>(l.take i).any fun y=>inS s y.2.2.2)) hs
       have hca:=d0h (l.take i) s
       refine zn [0,3,7,8,9,33,34,35] ⟨?_⟩;refine b0c ?_;intros;refine b0g ?_;intros
       have F:=Fc.mk (ai (gdm hx) (ai hlti (ai hi0 (ai hk (ai (gdm hy) (ai @decide_true (ai @Bool.and_true (gdm hs))))))))
       refine yR [0,3,6,7,8,9,33,34,35] ⟨?_⟩;refine yRc [0,3,7,8,9,33,34,35,44] (b7r (l.take i) s hlt1 hmi) ⟨?_⟩;refine b0d _ rfl ?_ ?_
       ·intro hc3
        have hbad:c1l l i=false:=by rw [hgd,hcl,←hR2,hst];simp only [←hca];(try simp at hc3);simp [hc3]
        refine yR [2] ⟨?_⟩;refine zr ⟨?_⟩
        exact b0a rfl (by rw [b8d hlt hbad]) (.inl rfl)
       ·intro hc3
        have hno:((l.take i).any fun y=>inS s y.2.2.2)=false:=by rw [←hca];(try simp at hc3);simp;omega
        refine zn [0,3,7,8,9,33,34,35] ⟨?_⟩;refine yV ⟨?_⟩;refine n41 _ (j+1) ?_ ?_ ?_
        ·refine b0b [0,3,7,8,9,33,34,35] [] ⟨?_⟩
         rfl
        ·exact ⟨by omega,by rw [←hR2,hst];simp only [hno];rfl⟩
        ·show _ < _;omega
      ·intro hc2
       have hgood:c1l l i=true:=by rw [hgd,hcl,←hR2,c4c (by omega)];rfl
       refine zn [0,7,8,9] ⟨?_⟩;refine yV ⟨?_⟩;refine n5 _ (i+1) ?_ ?_ ?_
       ·refine b0b [0,7,8,9] [] ⟨?_⟩
        rfl
       ·exact ⟨by omega,b6p hR hgood⟩
       ·show _ < _;omega
  ·intro hc0
   refine zn [0] ⟨?_⟩;refine yR [2] ⟨?_⟩;refine zr ⟨?_⟩
   exact b0a rfl (by rw [d2b (by omega) hR]) (.inl rfl)
set_option maxRecDepth 8000 in
theorem c06 (l:List TI) (hl:l.length≤1048576) (hli:∀x∈l,x.2.2.2.length≤1048576) (hls:∀x∈l,∀s∈x.2.2.2,s.size≤9223372036854775807):Con Tryz.prog 120 [.sl (l.map (fun t:TI=>V.agg [V.int .i64 t.1,V.int .i64 t.2.1,V.bool t.2.2.1,V.sl (t.2.2.2.map V.str)]))] [] (.bool (c2g l)) []:=by
 refine b05 [.tmp 2] [] Tryz.func120 rfl rfl rfl (by simp [Tryz.ntmps120]) ?_
 intro Q0 n0 r0
 simp only [Tryz.ntmps120,b0l,Nat.reduceAdd]
 have T:=Tys.mk (ai Ty.t3 (ai Ty.t4 (ai Ty.t9 (ai Ty.t33 (ai Ty.t51 Ty.t99)))))
 have F:=Fc.mk True.intro
 refine yR [0] ⟨?_⟩;refine b0c ?_;intros;refine yR [0,9,10,11] ⟨?_⟩;refine b0g ?_;intros;refine b08 (fun i=>⟨[(0,.sl (l.map (fun t:TI=>V.agg [V.int .i64 t.1,V.int .i64 t.2.1,V.bool t.2.2.1,V.sl (t.2.2.2.map V.str)]))),(9,.sl (l.map (fun t:TI=>V.agg [V.int .i64 t.1,V.int .i64 t.2.1,V.bool t.2.2.1,V.sl (t.2.2.2.map V.str)]))),(10,.int .i64 l.length),(11,.int .i64 (Nat.cast i))],[],false,59,0⟩) (fun i=>i≤l.length∧∀j,j < i→c1l l j=true) (fun i=>l.length - i) 0 ?_ ?_ ?_
 ·refine b1a [0,9,10,11] ?_
  simp only [b0s,b0k,b0h,b0i,b0n,Nat.reduceEqDiff,reduceIte]
  rfl
 ·exact ⟨Nat.zero_le _,fun j h=>absurd h (Nat.not_lt_zero _)⟩
 ·rintro i hok5 Q5 n5 e5 r5
  obtain ⟨hi1,hR⟩:=hok5
  refine yR [0,9,10,11,12] ⟨?_⟩;refine b0c ?_;intros;refine b0d _ rfl ?_ ?_
  ·intro hc0
   have hlt:i < l.length:=by omega
   obtain ⟨⟨x0,x1,x2,x3⟩,hx⟩:∃x:TI,l[i]? =some x:=⟨l[i]'(by omega),List.getElem?_eq_getElem (by omega)⟩
   have hlx:=hli _ (List.mem_of_getElem? hx)
   have hsx:=hls _ (List.mem_of_getElem? hx)
   simp only [] at hlx hsx
   have hlt1:(l.take i).length≤1048576:=Nat.le_trans (List.length_take_le ..) (by omega)
   have hlti:(l.take i).length=i:=by rw [List.length_take];omega
   have hmi:∀x∈l.take i,x.2.2.2.length≤1048576:=fun x h=>hli x (List.mem_of_mem_take h)
   have hcl:b7v (l.take i) (x0,x1,x2,x3)=x3.any (fun s=>(l.take i).any fun y=>inS s y.2.2.2):=rfl
   have hcl2:b7v (l.take i) (x0,x1,x2,x3)=(l.take i).any (fun y:TI=>x3.any fun s=>inS s y.2.2.2):=by rw [hcl];exact f3m (fun s (y:TI)=>inS s y.2.2.2) x3 (l.take i)
   rcases Nat.eq_zero_or_pos i with h0 | h0
   ·skip
    have hi0:¬((0:Int) < (i:Int)):=by omega
    have hpi:c1l l i=(c1h (x0,x1,x2,x3) && !b7v (l.take i) (x0,x1,x2,x3)):=by subst h0;exact d3r hx
    refine zn [0,9,10,11] ⟨?_⟩;refine b0c ?_;intros;refine b0g ?_;intros
    have F:=Fc.mk (ai (gdm hx) (ai hlti (ai hi0 (ai @decide_false @Bool.and_false))))
    refine yR [0,3,4,9,10,11] ⟨?_⟩;refine b0c ?_;intros;refine b0c ?_;intro Q13 n13 e13 r13;refine b1p (by kernel_rfl) ?_;intro K14 q14 k14
    show b14 _ _ _ _ 18 (Array.replicate 18 false) _
    refine b1h q14 true 0 16 ?_;refine zoc 1 (d35 x0 x1 x2 x3 hsx hlx) ⟨?_⟩;refine b5q q14 true 2 18 ?_;refine b0o q14 true 3 19 ?_;refine b0y q14 true 4 20 ?_;refine b0z q14 true 5 21 ?_;refine b0y q14 true 6 22 ?_;refine b0y q14 true 7 23 ?_;refine b0y q14 true 8 24 ?_;refine b2e q14 true 9 25 ?_;refine b0x q14 true 10 26 ?_;refine b0e q14 true 11 27 ?_;refine b0q q14 true 12 28 ?_;refine b0e q14 true 13 29 ?_;refine b0q q14 true 14 30 ?_;refine b0z q14 true 15 31 ?_;refine b38 q14 true 16 32 ?_;refine b1w q14 true 17 33 ?_;refine b0j (by kernel_rfl) ?_;refine k14 _ ?_;refine n13 _ _ (b0f [0,3,4,9,10,11,33] _) ?_;refine zk ⟨?_⟩;refine b0d _ rfl ?_ ?_
    ·intro hc1
     have hbad:c1l l i=false:=by
      rw [hpi]
      (try simp at hc1)
      first | (simp [hc1];done) | (rcases hc1 with h | h<;>first | (simp [h];done) | (rw [decide_eq_false (show ¬y0 < x0 by omega)];simp;done)) | (rcases hc1 with h | h<;>simp [h];done) | (simp_all;done) | (simp;intros;simp_all;omega)
     refine yR [2] ⟨?_⟩;refine zr ⟨?_⟩
     exact b0a rfl (by rw [b8d hlt hbad]) (.inl rfl)
    ·intro hc1
     have hgd:c1l l i= !b7v (l.take i) (x0,x1,x2,x3):=by
      rw [hpi]
      (try simp at hc1)
      first | (simp [hc1];done) | (simp_all;done) | (simp;intros;simp_all;omega)
     refine zn [0,3,4,9,10,11] ⟨?_⟩;refine yR [0,4,9,10,11,36,37,38] ⟨?_⟩;refine b0g ?_;intros;refine b08 (fun j=>⟨[(0,.sl (l.map (fun t:TI=>V.agg [V.int .i64 t.1,V.int .i64 t.2.1,V.bool t.2.2.1,V.sl (t.2.2.2.map V.str)]))),(4,.ptr 0 0 0),(9,.sl (l.map (fun t:TI=>V.agg [V.int .i64 t.1,V.int .i64 t.2.1,V.bool t.2.2.1,V.sl (t.2.2.2.map V.str)]))),(10,.int .i64 l.length),(11,.int .i64 (Nat.cast i)),(36,.sl ((l.take i).map (fun t:TI=>V.agg [V.int .i64 t.1,V.int .i64 t.2.1,V.bool t.2.2.1,V.sl (t.2.2.2.map V.str)]))),(37,.int .i64 (Nat.cast i)),(38,.int .i64 (Nat.cast j))],[.box (.agg [V.int .i64 x0,V.int .i64 x1,V.bool x2,V.sl (x3.map V.str)]) .shal],false,59,0⟩) (fun j=>j≤(l.take i).length∧((l.take i).drop j).any (fun y:TI=>x3.any fun s=>inS s y.2.2.2)=(l.take i).any (fun y:TI=>x3.any fun s=>inS s y.2.2.2)) (fun j=>(l.take i).length - j) 0 ?_ ?_ ?_
     ·refine b0b [0,4,9,10,11,36,37,38] [1] ⟨?_⟩
      rfl
     ·exact ⟨Nat.zero_le _,rfl⟩
     ·rintro j hok19 Q19 n19 e19 r19
      obtain ⟨hj1,hR2⟩:=hok19
      refine yR [0,4,9,10,11,36,37,38,39] ⟨?_⟩;refine b0c ?_;intros;refine b0d _ rfl ?_ ?_
      ·intro hc2
       have hlj:j < (l.take i).length:=by omega
       obtain ⟨⟨z0,z1,z2,z3⟩,hz⟩:∃x:TI,(l.take i)[j]? =some x:=⟨(l.take i)[j]'(by omega),List.getElem?_eq_getElem (by omega)⟩
       have hst:=c1a (f:=(fun y:TI=>x3.any fun s=>inS s y.2.2.2)) hz
       have hlz:=hmi _ (List.mem_of_getElem? hz)
       simp only [] at hlz
       refine zn [0,4,9,10,11,36,37,38] ⟨?_⟩;refine b0c ?_;intros;refine b0g ?_;intros
       have F:=Fc.mk (ai (gdm hx) (ai hlti (ai hi0 (ai @decide_false (ai @Bool.and_false (gdm hz))))))
       refine yR [0,4,6,9,10,11,36,37,38] ⟨?_⟩;refine yR [0,4,6,9,10,11,36,37,38,43,44,45] ⟨?_⟩;refine b0g ?_;intros;refine b08 (fun m=>⟨[(0,.sl (l.map (fun t:TI=>V.agg [V.int .i64 t.1,V.int .i64 t.2.1,V.bool t.2.2.1,V.sl (t.2.2.2.map V.str)]))),(4,.ptr 0 0 0),(6,.ptr 1 0 0),(9,.sl (l.map (fun t:TI=>V.agg [V.int .i64 t.1,V.int .i64 t.2.1,V.bool t.2.2.1,V.sl (t.2.2.2.map V.str)]))),(10,.int .i64 l.length),(11,.int .i64 (Nat.cast i)),(36,.sl ((l.take i).map (fun t:TI=>V.agg [V.int .i64 t.1,V.int .i64 t.2.1,V.bool t.2.2.1,V.sl (t.2.2.2.map V.str)]))),(37,.int .i64 (Nat.cast i)),(38,.int .i64 (Nat.cast j)),(43,.sl (x3.map V.str)),(44,.int .i64 x3.length),(45,.int .i64 (Nat.cast m))],[.box (.agg [V.int .i64 x0,V.int .i64 x1,V.bool x2,V.sl (x3.map V.str)]) .shal,.box (.agg [V.int .i64 z0,V.int .i64 z1,V.bool z2,V.sl (z3.map V.str)]) .shal],false,59,0⟩) (fun m=>m≤x3.length∧(x3.drop m).any (fun s=>inS s z3)=x3.any fun s=>inS s z3) (fun m=>x3.length - m) 0 ?_ ?_ ?_
       ·refine b0b [0,4,6,9,10,11,36,37,38,43,44,45] [0,2] ⟨?_⟩
        rfl
       ·exact ⟨Nat.zero_le _,rfl⟩
       ·rintro m hok28 Q28 n28 e28 r28
        obtain ⟨hm1,hR3⟩:=hok28
        refine yR [0,4,6,9,10,11,36,37,38,43,44,45,46] ⟨?_⟩;refine b0c ?_;intros;refine b0d _ rfl ?_ ?_
        ·intro hc3
         have hlm:m < x3.length:=by omega
         obtain ⟨s,hs⟩:∃s,x3[m]? =some s:=⟨_,List.getElem?_eq_getElem hlm⟩
         have hst3:=c1a (f:=fun s=>inS s z3) hs
         refine zn [0,4,6,9,10,11,36,37,38,43,44,45] ⟨?_⟩;refine b0c ?_;intros;refine b0g ?_;intros
         have F:=Fc.mk (ai (gdm hx) (ai hlti (ai hi0 (ai @decide_false (ai @Bool.and_false (ai (gdm hz) (gdm hs)))))))
         refine yR [0,4,6,8,9,10,11,36,37,38,43,44,45] ⟨?_⟩;refine yRc [0,4,6,9,10,11,36,37,38,43,44,45,52] (c7z z3 s hlz) ⟨?_⟩;refine b0d _ rfl ?_ ?_
         ·intro hc4
          have hbad:c1l l i=false:=by
           have h3:(x3.any fun s=>inS s z3)=true:=by rw [←hR3,hst3];simp [hc4]
           rw [hgd,hcl2,←hR2,hst]
           simp only [h3];rfl
          refine yR [2] ⟨?_⟩;refine zr ⟨?_⟩
          exact b0a rfl (by rw [b8d hlt hbad]) (.inl rfl)
         ·intro hc4
          refine zn [0,4,6,9,10,11,36,37,38,43,44,45] ⟨?_⟩;refine yV ⟨?_⟩;refine n28 _ (m+1) ?_ ?_ ?_
          ·refine b0b [0,4,6,9,10,11,36,37,38,43,44,45] [0,1] ⟨?_⟩
           rfl
          ·exact ⟨by omega,by rw [←hR3,hst3];simp [hc4]⟩
          ·show _ < _;omega
        ·intro hc3
         have hno:(x3.any fun s=>inS s z3)=false:=by rw [←hR3,c4c (by omega)]
         refine zn [0,4,9,10,11,36,37,38] ⟨?_⟩;refine yV ⟨?_⟩;refine n19 _ (j+1) ?_ ?_ ?_
         ·refine b0b [0,4,9,10,11,36,37,38] [0] ⟨?_⟩
          rfl
         ·exact ⟨by omega,by rw [←hR2,hst];simp only [hno];rfl⟩
         ·show _ < _;show (l.take i).length - (j+1) < (l.take i).length - j;omega
      ·intro hc2
       have hgood:c1l l i=true:=by rw [hgd,hcl2,←hR2,c4c (by omega)];rfl
       refine zn [0,9,10,11] ⟨?_⟩;refine yV ⟨?_⟩;refine n5 _ (i+1) ?_ ?_ ?_
       ·refine b0b [0,9,10,11] [] ⟨?_⟩
        rfl
       ·exact ⟨by omega,b6p hR hgood⟩
       ·show _ < _;omega
   ·skip
    obtain ⟨⟨y0,y1,y2,y3⟩,hy⟩:∃x:TI,l[i - 1]? =some x:=⟨l[i - 1]'(by omega),List.getElem?_eq_getElem (by omega)⟩
    have hi0:(0:Int) < i:=by omega
    have hk:((i:Int) - 1).toNat=i - 1:=by omega
    have hpi:=d3i h0 hy hx
    refine zn [0,9,10,11] ⟨?_⟩;refine b0c ?_;intros;refine b0g ?_;intros
    have F:=Fc.mk (ai (gdm hx) (ai hlti (ai hi0 (ai hk (ai (gdm hy) (ai @decide_true @Bool.and_true))))))
    refine yR [0,3,4,9,10,11] ⟨?_⟩;refine b0c ?_;intros;refine b0c ?_;intro Q45 n45 e45 r45;refine b1p (by kernel_rfl) ?_;intro K46 q46 k46
    show b14 _ _ _ _ 18 (Array.replicate 18 false) _
    refine b1h q46 true 0 16 ?_;refine zoc 1 (d35 x0 x1 x2 x3 hsx hlx) ⟨?_⟩;refine b5q q46 true 2 18 ?_;refine b0o q46 true 3 19 ?_;refine b0y q46 true 4 20 ?_;refine b0z q46 true 5 21 ?_;refine b0y q46 true 6 22 ?_;refine b0y q46 true 7 23 ?_;refine b0y q46 true 8 24 ?_;refine b2e q46 true 9 25 ?_;refine b0x q46 true 10 26 ?_;refine b0e q46 true 11 27 ?_;refine b0q q46 true 12 28 ?_;refine b0e q46 true 13 29 ?_;refine b0q q46 true 14 30 ?_;refine b0z q46 true 15 31 ?_;refine b38 q46 true 16 32 ?_;refine b1w q46 true 17 33 ?_;refine b0j (by kernel_rfl) ?_;refine k46 _ ?_;refine n45 _ _ (b0f [0,3,4,9,10,11,33] _) ?_;refine zk ⟨?_⟩;refine b0d _ rfl ?_ ?_
    ·intro hc1
     have hbad:c1l l i=false:=by
      rw [hpi]
      (try simp at hc1)
      first | (simp [hc1];done) | (rcases hc1 with h | h<;>first | (simp [h];done) | (rw [decide_eq_false (show ¬y0 < x0 by omega)];simp;done)) | (rcases hc1 with h | h<;>simp [h];done) | (simp_all;done) | (simp;intros;simp_all;omega)
     refine yR [2] ⟨?_⟩;refine zr ⟨?_⟩
     exact b0a rfl (by rw [b8d hlt hbad]) (.inl rfl)
    ·intro hc1
     have hgd:c1l l i= !b7v (l.take i) (x0,x1,x2,x3):=by
      rw [hpi]
      (try simp at hc1)
      first | (simp [hc1];done) | (simp_all;done) | (simp;intros;simp_all;omega)
     refine zn [0,3,4,9,10,11] ⟨?_⟩;refine yR [0,4,9,10,11,36,37,38] ⟨?_⟩;refine b0g ?_;intros;refine b08 (fun j=>⟨[(0,.sl (l.map (fun t:TI=>V.agg [V.int .i64 t.1,V.int .i64 t.2.1,V.bool t.2.2.1,V.sl (t.2.2.2.map V.str)]))),(4,.ptr 0 0 0),(9,.sl (l.map (fun t:TI=>V.agg [V.int .i64 t.1,V.int .i64 t.2.1,V.bool t.2.2.1,V.sl (t.2.2.2.map V.str)]))),(10,.int .i64 l.length),(11,.int .i64 (Nat.cast i)),(36,.sl ((l.take i).map (fun t:TI=>V.agg [V.int .i64 t.1,V.int .i64 t.2.1,V.bool t.2.2.1,V.sl (t.2.2.2.map V.str)]))),(37,.int .i64 (Nat.cast i)),(38,.int .i64 (Nat.cast j))],[.box (.agg [V.int .i64 x0,V.int .i64 x1,V.bool x2,V.sl (x3.map V.str)]) .shal],false,59,0⟩) (fun j=>j≤(l.take i).length∧((l.take i).drop j).any (fun y:TI=>x3.any fun s=>inS s y.2.2.2)=(l.take i).any (fun y:TI=>x3.any fun s=>inS s y.2.2.2)) (fun j=>(l.take i).length - j) 0 ?_ ?_ ?_
     ·refine b0b [0,4,9,10,11,36,37,38] [1] ⟨?_⟩
      rfl
     ·exact ⟨Nat.zero_le _,rfl⟩
     ·rintro j hok51 Q51 n51 e51 r51
      obtain ⟨hj1,hR2⟩:=hok51
      refine yR [0,4,9,10,11,36,37,38,39] ⟨?_⟩;refine b0c ?_;intros;refine b0d _ rfl ?_ ?_
      ·intro hc2
       have hlj:j < (l.take i).length:=by omega
       obtain ⟨⟨z0,z1,z2,z3⟩,hz⟩:∃x:TI,(l.take i)[j]? =some x:=⟨(l.take i)[j]'(by omega),List.getElem?_eq_getElem (by omega)⟩
       have hst:=c1a (f:=(fun y:TI=>x3.any fun s=>inS s y.2.2.2)) hz
       have hlz:=hmi _ (List.mem_of_getElem? hz)
       simp only [] at hlz
       refine zn [0,4,9,10,11,36,37,38] ⟨?_⟩;refine b0c ?_;intros;refine b0g ?_;intros
       have F:=Fc.mk (ai (gdm hx) (ai hlti (ai hi0 (ai hk (ai (gdm hy) (ai @decide_true (ai @Bool.and_true (gdm hz))))))))
       refine yR [0,4,6,9,10,11,36,37,38] ⟨?_⟩;refine yR [0,4,6,9,10,11,36,37,38,43,44,45] ⟨?_⟩;refine b0g ?_;intros;refine b08 (fun m=>⟨[(0,.sl (l.map (fun t:TI=>V.agg [V.int .i64 t.1,V.int .i64 t.2.1,V.bool t.2.2.1,V.sl (t.2.2.2.map V.str)]))),(4,.ptr 0 0 0),(6,.ptr 1 0 0),(9,.sl (l.map (fun t:TI=>V.agg [V.int .i64 t.1,V.int .i64 t.2.1,V.bool t.2.2.1,V.sl (t.2.2.2.map V.str)]))),(10,.int .i64 l.length),(11,.int .i64 (Nat.cast i)),(36,.sl ((l.take i).map (fun t:TI=>V.agg [V.int .i64 t.1,V.int .i64 t.2.1,V.bool t.2.2.1,V.sl (t.2.2.2.map V.str)]))),(37,.int .i64 (Nat.cast i)),(38,.int .i64 (Nat.cast j)),(43,.sl (x3.map V.str)),(44,.int .i64 x3.length),(45,.int .i64 (Nat.cast m))],[.box (.agg [V.int .i64 x0,V.int .i64 x1,V.bool x2,V.sl (x3.map V.str)]) .shal,.box (.agg [V.int .i64 z0,V.int .i64 z1,V.bool z2,V.sl (z3.map V.str)]) .shal],false,59,0⟩) (fun m=>m≤x3.length∧(x3.drop m).any (fun s=>inS s z3)=x3.any fun s=>inS s z3) (fun m=>x3.length - m) 0 ?_ ?_ ?_
       ·refine b0b [0,4,6,9,10,11,36,37,38,43,44,45] [0,2] ⟨?_⟩
        rfl
       ·exact ⟨Nat.zero_le _,rfl⟩
       ·rintro m hok60 Q60 n60 e60 r60
        obtain ⟨hm1,hR3⟩:=hok60
        refine yR [0,4,6,9,10,11,36,37,38,43,44,45,46] ⟨?_⟩;refine b0c ?_;intros;refine b0d _ rfl ?_ ?_
        ·intro hc3
         have hlm:m < x3.length:=by omega
         obtain ⟨s,hs⟩:∃s,x3[m]? =some s:=⟨_,List.getElem?_eq_getElem hlm⟩
         have hst3:=c1a (f:=fun s=>inS s z3) hs
         refine zn [0,4,6,9,10,11,36,37,38,43,44,45] ⟨?_⟩;refine b0c ?_;intros;refine b0g ?_;intros
         have F:=Fc.mk (ai (gdm hx) (ai hlti (ai hi0 (ai hk (ai (gdm hy) (ai @decide_true (ai @Bool.and_true (ai (gdm hz) (gdm hs)))))))))
         refine yR [0,4,6,8,9,10,11,36,37,38,43,44,45] ⟨?_⟩;refine yRc [0,4,6,9,10,11,36,37,38,43,44,45,52] (c7z z3 s hlz) ⟨?_⟩;refine b0d _ rfl ?_ ?_
         ·intro hc4
          have hbad:c1l l i=false:=by
           have h3:(x3.any fun s=>inS s z3)=true:=by rw [←hR3,hst3];simp [hc4]
           rw [hgd,hcl2,←hR2,hst]
           simp only [h3];rfl
          refine yR [2] ⟨?_⟩;refine zr ⟨?_⟩
          exact b0a rfl (by rw [b8d hlt hbad]) (.inl rfl)
         ·intro hc4
          refine zn [0,4,6,9,10,11,36,37,38,43,44,45] ⟨?_⟩;refine yV ⟨?_⟩;refine n60 _ (m+1) ?_ ?_ ?_
          ·refine b0b [0,4,6,9,10,11,36,37,38,43,44,45] [0,1] ⟨?_⟩
           rfl
          ·exact ⟨by omega,by rw [←hR3,hst3];simp [hc4]⟩
          ·show _ < _;omega
        ·intro hc3
         have hno:(x3.any fun s=>inS s z3)=false:=by rw [←hR3,c4c (by omega)]
         refine zn [0,4,9,10,11,36,37,38] ⟨?_⟩;refine yV ⟨?_⟩;refine n51 _ (j+1) ?_ ?_ ?_
         ·refine b0b [0,4,9,10,11,36,37,38] [0] ⟨?_⟩
          rfl
         ·exact ⟨by omega,by rw [←hR2,hst];simp only [hno];rfl⟩
         ·show _ < _;show (l.take i).length - (j+1) < (l.take i).length - j;omega
      ·intro hc2
       have hgood:c1l l i=true:=by rw [hgd,hcl2,←hR2,c4c (by omega)];rfl
       refine zn [0,9,10,11] ⟨?_⟩;refine yV ⟨?_⟩;refine n5 _ (i+1) ?_ ?_ ?_
       ·refine b0b [0,9,10,11] [] ⟨?_⟩
        rfl
       ·exact ⟨by omega,b6p hR hgood⟩
       ·show _ < _;omega
  ·intro hc0
   refine zn [0] ⟨?_⟩;refine yR [2] ⟨?_⟩;refine zr ⟨?_⟩
   exact b0a rfl (by rw [d2b (by omega) hR]) (.inl rfl)
def c3o (x:TA):Bool:=decide (1≤x.2.2.2.2) && decide (x.2.2.2.2≤3)
def b3b (l:List Int):Bool:=c2f l && !l.all (fun x:Int=>inR x 0 0)
def b5w (ins:List TI) (ws:List TW) (i:Nat):Bool:=match ws[i]? with
  | none=>true
  | some w=>decide (0≤b5y ins w.1) && b3b w.2 && (decide (i=0) || match ws[i - 1]? with | some y=>decide (y.1 < w.1) | none=>true)
def inP (n:Int) (fl:List TA) (x:TI):Bool:=c0p n x.2.1 && x.2.2.2.all fun s=>decide (0≤b5a fl s)
def b5d (ins:List TI) (a:TA):Bool:= !(c3o a != decide (0≤c74 ins a.1))
def d1y (n:Int) (ss:List TS) (fl:List TA) (ins:List TI) (ws:List TW):Bool:=dsB n ss fl && c2g ins && !decide (8 < (ws.length:Int))
def c2h (n:Int) (ss:List TS) (fl:List TA) (ins:List TI) (ws:List TW):Bool:=d1y n ss fl ins ws && ins.all (inP n fl) && fl.all (b5d ins) && (List.range ws.length).all (b5w ins ws)
theorem f7d {n:Int} {ss:List TS} {fl:List TA} {ins:List TI} {ws:List TW} (h:d1y n ss fl ins ws=false):c2h n ss fl ins ws=false:=by rw [c2h,h];rfl
theorem f3v {n:Int} {ss:List TS} {fl:List TA} {ins:List TI} {ws:List TW} (h:ins.all (inP n fl)=false):c2h n ss fl ins ws=false:=by rw [c2h,h];simp
theorem f62 {n:Int} {ss:List TS} {fl:List TA} {ins:List TI} {ws:List TW} (h:fl.all (b5d ins)=false):c2h n ss fl ins ws=false:=by rw [c2h,h];simp
theorem d8x {n:Int} {ss:List TS} {fl:List TA} {ins:List TI} {ws:List TW} {i:Nat} (hi:i < ws.length) (h:b5w ins ws i=false):c2h n ss fl ins ws=false:=by
  have:(List.range ws.length).all (b5w ins ws)=false:=by
    rw [List.all_eq_false]
    exact ⟨i,List.mem_range.2 hi,by rw [h];simp⟩
  rw [c2h,this];simp
theorem f2p {n:Int} {ss:List TS} {fl:List TA} {ins:List TI} {ws:List TW} {i:Nat} (h1:d1y n ss fl ins ws=true) (h2:ins.all (inP n fl)=true) (h3:fl.all (b5d ins)=true) (hi:ws.length≤i) (h4:∀j,j < i→b5w ins ws j=true):c2h n ss fl ins ws=true:=by
  have:(List.range ws.length).all (b5w ins ws)=true:=by
    rw [List.all_eq_true]
    intro j hj
    exact h4 j (Nat.lt_of_lt_of_le (List.mem_range.1 hj) hi)
  rw [c2h,h1,h2,h3,this];rfl
theorem c4y {ins:List TI} {ws:List TW} {w:TW} (h:ws[0]? =some w):b5w ins ws 0=(decide (0≤b5y ins w.1) && b3b w.2):=by
  rw [b5w,h];simp
theorem c4j {ins:List TI} {ws:List TW} {w y:TW} {i:Nat} (h0:0 < i) (hy:ws[i - 1]? =some y) (h:ws[i]? =some w):b5w ins ws i=(decide (0≤b5y ins w.1) && b3b w.2 && decide (y.1 < w.1)):=by
  rw [b5w,h]
  simp only [hy,decide_eq_false (show ¬i=0 by omega),Bool.false_or]
theorem c9x {n:Int} {ss:List TS} {fl:List TA} {ins:List TI} {ws:List TW} (h:d1y n ss fl ins ws=true):DsFacts n ss fl∧(∀x∈ins,0≤x.2.1):=by
  simp only [d1y,Bool.and_eq_true] at h
  refine ⟨d61 h.1.1,fun x hx=> ?_⟩
  obtain ⟨i,hi,rfl⟩:=List.getElem_of_mem hx
  have h2:=h.1.2
  simp only [c2g,Bool.and_eq_true,List.all_eq_true,List.mem_range] at h2
  have h3:=h2.1 i hi
  rw [c1l,List.getElem?_eq_getElem hi] at h3
  simp only [Bool.and_eq_true,c1h,decide_eq_true_eq] at h3
  omega
theorem d01 {x:Int} {l:List Int} (h:c2f (x::l)=true):decide (b8q l x=0)=(x::l).all (fun x:Int=>inR x 0 0):=by
  obtain ⟨_,hb⟩:=b7n h
  have key:∀(l:List Int) (a:Int),0≤a→(∀y∈l,0≤y)→decide (b8q l a=0)=(decide (a=0) && l.all (fun x:Int=>inR x 0 0)):=by
    intro l
    induction l with
    | nil=>intro a _ _;simp [b8q]
    | cons y l ih=>
      intro a ha hl
      have hy:=hl y (List.mem_cons_self ..)
      have hs:b8q (y::l) a=b8q l (if y > a then y else a):=rfl
      rw [hs,ih _ (by split<;>omega) fun z hz=>hl z (List.mem_cons_of_mem _ hz),List.all_cons]
      have e:decide ((if y > a then y else a)=0)=(decide (a=0) && inR y 0 0):=by
        rw [inR]
        by_cases h1:y > a
        · rw [if_pos h1,decide_eq_false (show ¬y=0 by omega),decide_eq_false (show ¬y≤0 by omega)];simp
        · rw [if_neg h1]
          by_cases h2:a=0
          · rw [decide_eq_true h2,decide_eq_true (show 0≤y by omega),decide_eq_true (show y≤0 by omega)];rfl
          · rw [decide_eq_false h2];rfl
      rw [e,Bool.and_assoc]
  rw [key l x (hb x (List.mem_cons_self ..)).1 fun y hy=>(hb y (List.mem_cons_of_mem _ hy)).1,List.all_cons]
  congr 1
  have:=(hb x (List.mem_cons_self ..)).1
  rw [inR,decide_eq_true this,Bool.true_and]
  exact decide_eq_decide.2 (by omega)
theorem d9b (x0:ByteArray) (x1:Int) (x2:Int) (x3:Int) (x4:Int):Con Tryz.prog 134 [.agg [V.str x0,V.int .i64 x1,V.int .i64 x2,V.int .i64 x3,V.int .i64 x4]] [] (.bool (c3o (x0,x1,x2,x3,x4))) []:=by
 refine b05 [.tmp 2] [] Tryz.func134 rfl rfl rfl (by simp [Tryz.ntmps134]) ?_
 intro Q0 n0 r0
 simp only [Tryz.ntmps134,b0l,Nat.reduceAdd]
 have T:=Tys.mk (ai Ty.t3 (ai Ty.t4 (ai Ty.t9 Ty.t96)))
 have F:=Fc.mk True.intro
 refine yR [1] ⟨?_⟩;refine yRc [2] (b2b _ _ _) ⟨?_⟩;refine zr ⟨?_⟩
 exact b0a rfl rfl (.inl rfl)
theorem d9i (n:Int):Con Tryz.prog 121 [.int .i64 n] [] (.bool (decide (1≤n) && decide (n≤3))) []:=by
 refine b05 [.tmp 2] [] Tryz.func121 rfl rfl rfl (by simp [Tryz.ntmps121]) ?_
 intro Q0 n0 r0
 simp only [Tryz.ntmps121,b0l,Nat.reduceAdd]
 have T:=Tys.mk (ai Ty.t3 Ty.t4)
 have F:=Fc.mk True.intro
 refine yR [0] ⟨?_⟩;refine yRc [2] (b2o _ _ _) ⟨?_⟩;refine zr ⟨?_⟩
 exact b0a rfl (by first | rfl | simp) (.inl rfl)
theorem c9h (l:List Int) (hl:l.length≤1048576):Con Tryz.prog 123 [.sl (l.map (V.int .i64))] [] (.bool (b3b l)) []:=by
 refine b05 [.tmp 2] [] Tryz.func123 rfl rfl rfl (by simp [Tryz.ntmps123]) ?_
 intro Q0 n0 r0
 simp only [Tryz.ntmps123,b0l,Nat.reduceAdd]
 have T:=Tys.mk (ai Ty.t3 (ai Ty.t4 Ty.t75))
 have F:=Fc.mk True.intro
 refine yR [0] ⟨?_⟩;refine f4g [2] (c9t l hl) (c7d l 0 0 hl) ⟨?_⟩;refine zr ⟨?_⟩
 exact b0a rfl rfl (.inl rfl)
end Go.Proofs.YtaefoaghpehbpaaGreat
