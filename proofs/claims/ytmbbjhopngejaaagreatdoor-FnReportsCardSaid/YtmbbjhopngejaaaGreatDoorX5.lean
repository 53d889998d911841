/- What functions compute. No condition. -/
import Derived.Test.YtmbbjhopngejaaaGreatDoorX3
import Derived.Test.YtmbbjhopngejaaaGreatDoorX4
set_option linter.unusedSimpArgs false
set_option linter.unusedVariables false
set_option linter.defProp false
namespace Go.Proofs.YtmbbjhopngejaaaGreatDoor
open Go Go.Vm
set_option maxHeartbeats 8000000
def c0r (x:TA):Bool:=b4t x.1 && (decide (0≤x.2.1) && decide (x.2.1≤3)) && (decide (0≤x.2.2.1) && decide (x.2.2.1≤13)) && (decide (1≤x.2.2.2.1) && decide (x.2.2.2.1≤9)) && (decide (0≤x.2.2.2.2) && decide (x.2.2.2.2≤5))
def c4h (x y:TA):Bool:=b2x x.1 y.1
def b4x (l:List TA):Bool:=b1v c0r c4h l 0 && decide ((l.length:Int)≤12)
theorem f04 {l:List TA} (h:b4x l=true):l.length≤12:=by
  simp only [b4x,Bool.and_eq_true,decide_eq_true_eq] at h;omega
theorem b8q (n:Int):Con Tryz.prog 112 [.int .i64 n] [] (.bool (decide (0≤n) && decide (n≤5))) []:=by
 refine zcn [.tmp 2] [] Tryz.func112 Tryz.ntmps112 ⟨?_⟩;intro Q0 n0 r0;have T:=tq2 Ty.t3 Ty.t4;have F:=Fc.mk True.intro;refine yR [0] ⟨?_⟩;refine yRc [2] (b2w _ _ _) ⟨?_⟩;refine zr ⟨?_⟩;exact b0g rfl (by first | rfl | simp) (.inl rfl)
theorem c0f (n:Int):Con Tryz.prog 148 [.int .i64 n] [] (.bool (decide (0≤n) && decide (n≤5))) []:=by
 refine zcn [.tmp 2] [] Tryz.func148 Tryz.ntmps148 ⟨?_⟩;intro Q0 n0 r0;have T:=tq2 Ty.t3 Ty.t4;have F:=Fc.mk True.intro;refine yR [0] ⟨?_⟩;refine yRc [2] (b4d _ _ _) ⟨?_⟩;refine zr ⟨?_⟩;exact b0g rfl (by first | rfl | simp) (.inl rfl)
theorem c5b (n:Int):Con Tryz.prog 115 [.int .i64 n] [] (.bool (decide (0≤n) && decide (n≤13))) []:=by
 refine zcn [.tmp 2] [] Tryz.func115 Tryz.ntmps115 ⟨?_⟩;intro Q0 n0 r0;have T:=tq2 Ty.t3 Ty.t4;have F:=Fc.mk True.intro;refine yR [0] ⟨?_⟩;refine yRc [2] (b2w _ _ _) ⟨?_⟩;refine zr ⟨?_⟩;exact b0g rfl (by first | rfl | simp) (.inl rfl)
theorem c1n (x0:ByteArray) (x1:Int) (x2:Int) (x3:Int) (x4:Int) (hs:x0.size≤9223372036854775807):Con Tryz.prog 51 [.agg [V.str x0,V.int .i64 x1,V.int .i64 x2,V.int .i64 x3,V.int .i64 x4]] [] (.bool (c0r (x0,x1,x2,x3,x4))) []:=by
 refine zcn [.tmp 2] [] Tryz.func51 Tryz.ntmps51 ⟨?_⟩;intro Q0 n0 r0;have T:=tq4 Ty.t3 Ty.t4 Ty.t9 Ty.t53;have F:=Fc.mk True.intro;refine yR [1] ⟨?_⟩;refine b1l [2] ?_;intro K2 k2;refine f0s ⟨?_⟩;refine zc (c4k _ hs) ⟨?_⟩;refine b15 ⟨?_⟩;refine zq4 ⟨?_⟩;refine zgc (b2w _ _ _) ⟨?_⟩;refine zq9 ⟨?_⟩;refine zgc (c5b _) ⟨?_⟩;refine zq9 ⟨?_⟩;refine zgc (b2w _ _ _) ⟨?_⟩;refine zq9 ⟨?_⟩;refine zgc (b8q _) ⟨?_⟩;refine c5l ⟨?_⟩;refine b2l ⟨?_⟩;refine k2 _ ?_;refine zq2 ⟨?_⟩;exact b0g rfl (by first | rfl | simp [c0r,Bool.and_assoc]) (.inl rfl)
theorem c01 (x0:ByteArray) (x1:Int) (x2:Int) (x3:Int) (x4:Int) (hs:x0.size≤9223372036854775807):Con Tryz.prog 159 [.agg [V.str x0,V.int .i64 x1,V.int .i64 x2,V.int .i64 x3,V.int .i64 x4]] [] (.bool (c0r (x0,x1,x2,x3,x4))) []:=by
 refine zcn [.tmp 2] [] Tryz.func159 Tryz.ntmps159 ⟨?_⟩;intro Q0 n0 r0;have T:=tq4 Ty.t3 Ty.t4 Ty.t9 Ty.t53;have F:=Fc.mk True.intro;refine yR [1] ⟨?_⟩;refine b1l [2] ?_;intro K2 k2;refine f0s ⟨?_⟩;refine zc (c1y _ hs) ⟨?_⟩;refine b15 ⟨?_⟩;refine zq4 ⟨?_⟩;refine zgc (b4d _ _ _) ⟨?_⟩;refine zq9 ⟨?_⟩;refine zgc (b4d _ _ _) ⟨?_⟩;refine zq9 ⟨?_⟩;refine zgc (b4d _ _ _) ⟨?_⟩;refine zq9 ⟨?_⟩;refine zgc (c0f _) ⟨?_⟩;refine c5l ⟨?_⟩;refine b2l ⟨?_⟩;refine k2 _ ?_;refine zq2 ⟨?_⟩;exact b0g rfl (by first | rfl | simp [c0r,Bool.and_assoc]) (.inl rfl)
theorem b8p (fl:List TA) (hl:fl.length≤1048576) (hls:∀t∈fl,t.1.size≤9223372036854775807):Con Tryz.prog 62 [sQ rQa fl] [] (.bool (b4x fl)) []:=by
 refine zcn [.tmp 2] [] Tryz.func62 Tryz.ntmps62 ⟨?_⟩;intro Q0 n0 r0;have T:=tq5 Ty.t3 Ty.t4 Ty.t9 Ty.t27 Ty.t53;have F:=Fc.mk True.intro;refine yR [0] ⟨?_⟩;refine b0e ?_;intros;refine yR [0,5,6,7] ⟨?_⟩;refine b0i ?_;intro Q4 n4 x4 e4 r4;refine b08 (fun i=>⟨[(0,sQ rQa fl),(5,sQ rQa fl),(6,.int .i64 fl.length),(7,.int .i64 (Nat.cast i))],[],false,34,0⟩) (fun i=>i≤fl.length∧b1v c0r c4h fl i=b1v c0r c4h fl 0) (fun i=>fl.length - i) 0 ?_ ?_ ?_
 ·refine b2a [0,5,6,7] ?_;simp only [b02,b0n,b0l,b0j,b0u,Nat.reduceEqDiff,reduceIte];rfl
 ·exact ⟨qle _,rfl⟩
 ·rintro i hok5 Q5 n5 e5 r5;obtain ⟨hi1,hR⟩:=hok5;refine yR [0,5,6,7,8] ⟨?_⟩;refine b0e ?_;intros;refine b0a _ rfl ?_ ?_
  ·intro hc0;have hlt:i < fl.length:=by omega
   obtain ⟨⟨x0,x1,x2,x3,x4⟩,hx⟩:∃x:TA,fl[i]? =some x:=⟨fl[i]'(by omega),qla (by omega)⟩;have hsx:=hls _ (qlb hx);simp only [] at hsx;rcases ql8 i with h0 | h0
   ·skip;have hi0:¬((0:Int) < (i:Int)):=by omega
    have hst:b1v c0r c4h fl i=(c0r (x0,x1,x2,x3,x4) && b1v c0r c4h fl (i+1)):=by subst h0;exact b7y hx
    refine zn [0,5,6,7] ⟨?_⟩;refine b0e ?_;intros;refine b0i ?_;intros;have F:=fq4 (gdm hx) hi0 @decide_false @qmh;refine yR [0,3,4,5,6,7] ⟨?_⟩;refine b0e ?_;intro Q12 n12 e12 r12;refine b1f (by kernel_rfl) ?_;intro K13 q13 k13;show b1r _ _ _ _ 18 (Array.replicate 18 false) _;refine b1d q13 true 0 12 ?_;refine zoc 1 (c1n x0 x1 x2 x3 x4 hsx) ⟨?_⟩;refine b9r q13 true 2 14 ?_;refine b0t q13 true 3 15 ?_;refine b0z q13 true 4 16 ?_;refine b0y q13 true 5 17 ?_;refine b0z q13 true 6 18 ?_;refine b0z q13 true 7 19 ?_;refine b0z q13 true 8 20 ?_;refine b2u q13 true 9 21 ?_;refine b0x q13 true 10 22 ?_;refine b0c q13 true 11 23 ?_;refine b0r q13 true 12 24 ?_;refine b0c q13 true 13 25 ?_;refine b0r q13 true 14 26 ?_;refine b0y q13 true 15 27 ?_;refine b4m q13 true 16 28 ?_;refine b1p q13 true 17 29 ?_;refine b0b (by kernel_rfl) ?_;refine k13 _ ?_;refine n12 _ _ (b0f [0,5,6,7,29] _) ?_;refine zk ⟨?_⟩;refine b0a _ rfl ?_ ?_
    ·intro hc1;refine yR [2] ⟨?_⟩;refine zr ⟨?_⟩;exact b0g rfl (by rw [b4x,←hR,hst];clear hR hst;(try simp at hc1);first | (simp [hc1];done) | (rcases hc1 with h | h<;>simp [h,c4h];done) | (simp_all [c4h];done)) (.inl rfl)
    ·intro hc1;refine zn [0,5,6,7] ⟨?_⟩;refine yV ⟨?_⟩;refine n5 _ (i+1) ?_ ?_ ?_
     ·refine b0d [0,5,6,7] [] ⟨?_⟩;rfl
     ·exact ⟨by omega,by rw [←hR,hst];clear hR hst;(try simp at hc1);first | (simp [hc1];done) | (simp_all [c4h];done)⟩
     ·show _ < _;omega
   ·skip;obtain ⟨⟨y0,y1,y2,y3,y4⟩,hy⟩:∃x:TA,fl[i - 1]? =some x:=⟨fl[i - 1]'(by omega),qla (by omega)⟩;have hi0:(0:Int) < i:=by omega
    have hk:((i:Int) - 1).toNat=i - 1:=by omega
    have hst:=b76 (ok:=c0r) (bf:=c4h) h0 hy hx;refine zn [0,5,6,7] ⟨?_⟩;refine b0e ?_;intros;refine b0i ?_;intros;have F:=fq6 (gdm hx) hi0 hk (gdm hy) @decide_true @qmm;refine yR [0,3,4,5,6,7] ⟨?_⟩;refine b0e ?_;intro Q20 n20 e20 r20;refine b1f (by kernel_rfl) ?_;intro K21 q21 k21;show b1r _ _ _ _ 18 (Array.replicate 18 false) _;refine b1d q21 true 0 12 ?_;refine zoc 1 (c1n x0 x1 x2 x3 x4 hsx) ⟨?_⟩;refine b9r q21 true 2 14 ?_;refine b0t q21 true 3 15 ?_;refine b0z q21 true 4 16 ?_;refine b0y q21 true 5 17 ?_;refine b0z q21 true 6 18 ?_;refine b0z q21 true 7 19 ?_;refine b0z q21 true 8 20 ?_;refine b2u q21 true 9 21 ?_;refine b0x q21 true 10 22 ?_;refine b0c q21 true 11 23 ?_;refine b0r q21 true 12 24 ?_;refine b0c q21 true 13 25 ?_;refine b0r q21 true 14 26 ?_;refine b0y q21 true 15 27 ?_;refine b4m q21 true 16 28 ?_;refine b1p q21 true 17 29 ?_;refine b0b (by kernel_rfl) ?_;refine k21 _ ?_;refine n20 _ _ (b0f [0,5,6,7,29] _) ?_;refine zk ⟨?_⟩;refine b0a _ rfl ?_ ?_
    ·intro hc1;refine yR [2] ⟨?_⟩;refine zr ⟨?_⟩;exact b0g rfl (by rw [b4x,←hR,hst];clear hR hst;(try simp at hc1);first | (simp [hc1];done) | (rcases hc1 with h | h<;>simp [h,c4h];done) | (simp_all [c4h];done)) (.inl rfl)
    ·intro hc1;refine zn [0,5,6,7] ⟨?_⟩;refine yV ⟨?_⟩;refine n5 _ (i+1) ?_ ?_ ?_
     ·refine b0d [0,5,6,7] [] ⟨?_⟩;rfl
     ·exact ⟨by omega,by rw [←hR,hst];clear hR hst;(try simp at hc1);first | (simp [hc1];done) | (simp_all [c4h];done)⟩
     ·show _ < _;omega
  ·intro hc0;refine zn [0] ⟨?_⟩;refine yR [2] ⟨?_⟩;refine zr ⟨?_⟩;exact b0g rfl (by rw [b4x,←hR,b9f (by omega)];simp) (.inl rfl)
theorem b5u (fl:List TA) (hl:fl.length≤1048576) (hls:∀t∈fl,t.1.size≤9223372036854775807):Con Tryz.prog 127 [sQ rQa fl] [] (.bool (b4x fl)) []:=by
 refine zcn [.tmp 2] [] Tryz.func127 Tryz.ntmps127 ⟨?_⟩;intro Q0 n0 r0;have T:=tq5 Ty.t3 Ty.t4 Ty.t9 Ty.t27 Ty.t53;have F:=Fc.mk True.intro;refine yR [0] ⟨?_⟩;refine b0e ?_;intros;refine yR [0,5,6,7] ⟨?_⟩;refine b0i ?_;intro Q4 n4 x4 e4 r4;refine b08 (fun i=>⟨[(0,sQ rQa fl),(5,sQ rQa fl),(6,.int .i64 fl.length),(7,.int .i64 (Nat.cast i))],[],false,34,0⟩) (fun i=>i≤fl.length∧b1v c0r c4h fl i=b1v c0r c4h fl 0) (fun i=>fl.length - i) 0 ?_ ?_ ?_
 ·refine b2a [0,5,6,7] ?_;simp only [b02,b0n,b0l,b0j,b0u,Nat.reduceEqDiff,reduceIte];rfl
 ·exact ⟨qle _,rfl⟩
 ·rintro i hok5 Q5 n5 e5 r5;obtain ⟨hi1,hR⟩:=hok5;refine yR [0,5,6,7,8] ⟨?_⟩;refine b0e ?_;intros;refine b0a _ rfl ?_ ?_
  ·intro hc0;have hlt:i < fl.length:=by omega
   obtain ⟨⟨x0,x1,x2,x3,x4⟩,hx⟩:∃x:TA,fl[i]? =some x:=⟨fl[i]'(by omega),qla (by omega)⟩;have hsx:=hls _ (qlb hx);simp only [] at hsx;rcases ql8 i with h0 | h0
   ·skip;have hi0:¬((0:Int) < (i:Int)):=by omega
    have hst:b1v c0r c4h fl i=(c0r (x0,x1,x2,x3,x4) && b1v c0r c4h fl (i+1)):=by subst h0;exact b7y hx
    refine zn [0,5,6,7] ⟨?_⟩;refine b0e ?_;intros;refine b0i ?_;intros;have F:=fq4 (gdm hx) hi0 @decide_false @qmh;refine yR [0,3,4,5,6,7] ⟨?_⟩;refine b0e ?_;intro Q12 n12 e12 r12;refine b1f (by kernel_rfl) ?_;intro K13 q13 k13;show b1r _ _ _ _ 18 (Array.replicate 18 false) _;refine b1d q13 true 0 12 ?_;refine zoc 1 (c01 x0 x1 x2 x3 x4 hsx) ⟨?_⟩;refine b9r q13 true 2 14 ?_;refine b0t q13 true 3 15 ?_;refine b0z q13 true 4 16 ?_;refine b0y q13 true 5 17 ?_;refine b0z q13 true 6 18 ?_;refine b0z q13 true 7 19 ?_;refine b0z q13 true 8 20 ?_;refine b2u q13 true 9 21 ?_;refine b0x q13 true 10 22 ?_;refine b0c q13 true 11 23 ?_;refine b0r q13 true 12 24 ?_;refine b0c q13 true 13 25 ?_;refine b0r q13 true 14 26 ?_;refine b0y q13 true 15 27 ?_;refine b4m q13 true 16 28 ?_;refine b1p q13 true 17 29 ?_;refine b0b (by kernel_rfl) ?_;refine k13 _ ?_;refine n12 _ _ (b0f [0,5,6,7,29] _) ?_;refine zk ⟨?_⟩;refine b0a _ rfl ?_ ?_
    ·intro hc1;refine yR [2] ⟨?_⟩;refine zr ⟨?_⟩;exact b0g rfl (by rw [b4x,←hR,hst];clear hR hst;(try simp at hc1);first | (simp [hc1];done) | (rcases hc1 with h | h<;>simp [h,c4h];done) | (simp_all [c4h];done)) (.inl rfl)
    ·intro hc1;refine zn [0,5,6,7] ⟨?_⟩;refine yV ⟨?_⟩;refine n5 _ (i+1) ?_ ?_ ?_
     ·refine b0d [0,5,6,7] [] ⟨?_⟩;rfl
     ·exact ⟨by omega,by rw [←hR,hst];clear hR hst;(try simp at hc1);first | (simp [hc1];done) | (simp_all [c4h];done)⟩
     ·show _ < _;omega
   ·skip;obtain ⟨⟨y0,y1,y2,y3,y4⟩,hy⟩:∃x:TA,fl[i - 1]? =some x:=⟨fl[i - 1]'(by omega),qla (by omega)⟩;have hi0:(0:Int) < i:=by omega
    have hk:((i:Int) - 1).toNat=i - 1:=by omega
    have hst:=b76 (ok:=c0r) (bf:=c4h) h0 hy hx;refine zn [0,5,6,7] ⟨?_⟩;refine b0e ?_;intros;refine b0i ?_;intros;have F:=fq6 (gdm hx) hi0 hk (gdm hy) @decide_true @qmm;refine yR [0,3,4,5,6,7] ⟨?_⟩;refine b0e ?_;intro Q20 n20 e20 r20;refine b1f (by kernel_rfl) ?_;intro K21 q21 k21;show b1r _ _ _ _ 18 (Array.replicate 18 false) _;refine b1d q21 true 0 12 ?_;refine zoc 1 (c01 x0 x1 x2 x3 x4 hsx) ⟨?_⟩;refine b9r q21 true 2 14 ?_;refine b0t q21 true 3 15 ?_;refine b0z q21 true 4 16 ?_;refine b0y q21 true 5 17 ?_;refine b0z q21 true 6 18 ?_;refine b0z q21 true 7 19 ?_;refine b0z q21 true 8 20 ?_;refine b2u q21 true 9 21 ?_;refine b0x q21 true 10 22 ?_;refine b0c q21 true 11 23 ?_;refine b0r q21 true 12 24 ?_;refine b0c q21 true 13 25 ?_;refine b0r q21 true 14 26 ?_;refine b0y q21 true 15 27 ?_;refine b4m q21 true 16 28 ?_;refine b1p q21 true 17 29 ?_;refine b0b (by kernel_rfl) ?_;refine k21 _ ?_;refine n20 _ _ (b0f [0,5,6,7,29] _) ?_;refine zk ⟨?_⟩;refine b0a _ rfl ?_ ?_
    ·intro hc1;refine yR [2] ⟨?_⟩;refine zr ⟨?_⟩;exact b0g rfl (by rw [b4x,←hR,hst];clear hR hst;(try simp at hc1);first | (simp [hc1];done) | (rcases hc1 with h | h<;>simp [h,c4h];done) | (simp_all [c4h];done)) (.inl rfl)
    ·intro hc1;refine zn [0,5,6,7] ⟨?_⟩;refine yV ⟨?_⟩;refine n5 _ (i+1) ?_ ?_ ?_
     ·refine b0d [0,5,6,7] [] ⟨?_⟩;rfl
     ·exact ⟨by omega,by rw [←hR,hst];clear hR hst;(try simp at hc1);first | (simp [hc1];done) | (simp_all [c4h];done)⟩
     ·show _ < _;omega
  ·intro hc0;refine zn [0] ⟨?_⟩;refine yR [2] ⟨?_⟩;refine zr ⟨?_⟩;exact b0g rfl (by rw [b4x,←hR,b9f (by omega)];simp) (.inl rfl)
def tmL (n:Int) (ss:List TS) (node:Int):List Int:=Tm.times n.toNat ss node.toNat
theorem c8d {n:Int} {x:TS} (h1:1≤n∧n≤14) (h:b7p n x=true):0≤x.1∧x.1 < n∧0≤x.2.1∧x.2.1 < n∧x.1 < x.2.1∧1≤x.2.2∧x.2.2≤3600:=by
  simp only [b7p,c2e,Bool.and_eq_true,decide_eq_true_eq,c4c (show -9223372036854775808≤n - 1 by omega) (show n - 1≤9223372036854775807 by omega)] at h;omega
theorem d0t {m:Nat} {ss:List TS} (hm:1≤m∧m≤14) (h:∀s∈ss,b7p (m:Int) s=true):∀e∈Tm.edges ss,Tm.Good m e∧e.2.2≤3600:=by
  intro e he;obtain ⟨s,hs,he⟩:=Tm.edges_mem he;have:=c8d (by omega) (h s hs);rcases he with rfl | rfl<;>(unfold Tm.Good;simp only [];refine ⟨⟨?_,?_,?_,?_⟩,?_⟩<;>omega)
def c6l (m i:Nat):List Int:=List.replicate i (-1)++List.replicate (m - i) 0
theorem f0m (m:Nat):(c6l m 0).map (V.int .i64)=List.replicate m (V.int .i64 0):=by simp [c6l]
theorem f18 {m i:Nat} (h:i≤m):(c6l m i).length=m:=by simp [c6l];omega
theorem f24 {m i:Nat} (h:i < m):(c6l m i).set i (-1)=c6l m (i+1):=by
  rw [c6l,List.set_append_right _ _ (by simp),List.length_replicate,Nat.sub_self,show m - i=(m - (i+1))+1 by omega,List.replicate_succ,List.set_cons_zero,c6l,List.replicate_succ',ql9];rfl
theorem f1b {m i:Nat} (h:i=m):c6l m i=List.replicate m (-1):=by subst h;simp [c6l]
theorem d26 (n:Int) (ss:List TS) (node:Int):(tmL n ss node).length=n.toNat:=Tm.iter_len (Tm.start_len ..) _
theorem d7z {n node:Int} {ss:List TS} (hn:1≤n∧n≤14) (hu:0≤node∧node < n) (hss:∀s∈ss,b7p n s=true) (hsl:ss.length≤40):∀v,-1≤Tm.at_ (tmL n ss node) v∧Tm.at_ (tmL n ss node) v≤4608000:=by
  obtain ⟨m,rfl⟩:=ql4 (show 0≤n by omega);obtain ⟨u,rfl⟩:=ql4 hu.1;have h:=Tm.within_facts (n:=m) (node:=u) (es:=Tm.edges ss) (by omega) (d0t (by omega) hss) (by rw [Tm.edges_len];omega) m 0 (by omega);exact h.2
set_option maxRecDepth 8000 in
theorem d6g (n:Int) (ss:List TS) (node:Int) (hn:1≤n∧n≤14) (hu:0≤node∧node < n) (hss:∀s∈ss,b7p n s=true) (hsl:ss.length≤40):Con Tryz.prog 206 [tQ n ss,.int .i64 node] [] (.ref 0) [.arr ((tmL n ss node).map (V.int .i64)) .flat]:=by
 obtain ⟨m,rfl⟩:=ql4 (show 0≤n by omega);obtain ⟨u,rfl⟩:=ql4 hu.1;have hum:u < m:=by omega
 have hm1:1≤m∧m≤14:=by omega
 have hg:=d0t hm1 hss;have hg1:∀e∈Tm.edges ss,Tm.Good m e:=fun e he=>(hg e he).1
 have hel:=Tm.edges_len ss;have hel2:(Tm.edges ss).length≤80:=by omega
 rw [show tmL (m:Int) ss (u:Int)=Tm.times m ss u from rfl];have hru:(List.replicate m (-1:Int))[u]? =some (-1):=by rw [List.getElem?_replicate,if_pos hum]
 have hfz:=f0m m;refine zcn [.tmp 4] [] Tryz.func206 Tryz.ntmps206 ⟨?_⟩;intro Q0 n0 r0;have T:=tq6 Ty.t3 Ty.t24 Ty.t26 Ty.t35 Ty.t127 Ty.t232;have F:=Fc.mk True.intro;have F:=fq2 (gdm hru) @b9w;refine yR [1,2] ⟨?_⟩;refine yR [1,2,5] ⟨?_⟩;refine b0e ?_;intros;refine yR [1,2,5,18,19] ⟨?_⟩;refine b0i ?_;intros;refine b08 (fun i=>⟨[(1,.int .i64 (Nat.cast u)),(2,.ptr 0 0 0),(5,.ref 1),(18,.int .i64 (Nat.cast m)),(19,.int .i64 (Nat.cast i))],[.box (tQ (Nat.cast m) ss) .shal,.arr ((c6l m i).map (V.int .i64)) .flat],false,97,0⟩) (fun i=>i≤m) (fun i=>m - i) 0 ?_ ?_ ?_
 ·refine b0d [1,2,5,18,19] [0,2] ⟨?_⟩;first | (rw [hfz];rfl) | (simp [hfz];done) | trace_state
 ·exact qle _
 ·rintro i hok6 Q6 n6 e6 r6;have hi1:i≤m:=hok6;refine yR [1,2,5,18,19,20] ⟨?_⟩;refine b0e ?_;intros;refine b0a _ rfl ?_ ?_
  ·intro hc0;have hfl:=f18 hi1;have hlt:i < m:=by omega
   have hfs:=f24 hlt;obtain ⟨w,hw⟩:∃w,(c6l m i)[i]? =some w:=⟨_,qla (by rw [hfl];omega)⟩;refine zn [1,2,5,18,19] ⟨?_⟩;refine b0e ?_;intros;refine b0i ?_;intros;have F:=fq5 (gdm hru) @b9w hfl (gdm hw) hfs;refine yR [1,2,5,6,18,19] ⟨?_⟩;refine yQ [1,2,5,18,19] ⟨?_⟩;refine yV ⟨?_⟩;refine n6 _ (i+1) ?_ ?_ ?_
   ·refine b0d [1,2,5,18,19] [0,1] ⟨?_⟩;rfl
   ·exact hlt
   ·show _ < _;omega
  ·intro hc0;have hend:=f1b (show i=m by omega);refine zn [1,2,5] ⟨?_⟩;have F:=fq3 (gdm hru) @b9w hend;refine yR [2,5] ⟨?_⟩;refine b0e ?_;intros;refine yR [2,5,7] ⟨?_⟩;refine b0i ?_;intros;refine b08 (fun k=>⟨[(2,.ptr 0 0 0),(5,.ref 1),(7,.int .i64 (Nat.cast k))],[.box (tQ (Nat.cast m) ss) .shal,.arr ((Tm.within m u (Tm.edges ss) k 0).map (V.int .i64)) .flat],false,97,0⟩) (fun k=>k≤m) (fun k=>m - k) 0 ?_ ?_ ?_
   ·refine b0d [2,5,7] [0,1] ⟨?_⟩;rfl
   ·exact qle _
   ·rintro k hok19 Q19 n19 e19 r19;have hk1:k≤m:=hok19;refine b0e ?_;intros;refine yR [2,5,7,32] ⟨?_⟩;refine b0a _ rfl ?_ ?_
    ·intro hc1;have hk:k < m:=by omega
     refine zn [2,5,7] ⟨?_⟩;refine b0e ?_;intros;refine b0i ?_;intros;refine yR [2,5,7,36,37,38] ⟨?_⟩;refine b0i ?_;intros;refine b08 (fun i=>⟨[(2,.ptr 0 0 0),(5,.ref 1),(7,.int .i64 (Nat.cast k)),(36,sQ rQd ss),(37,.int .i64 ss.length),(38,.int .i64 (Nat.cast i))],[.box (tQ (Nat.cast m) ss) .shal,.arr ((Tm.within m u (Tm.edges ss) k (2 * i)).map (V.int .i64)) .flat],false,97,0⟩) (fun i=>i≤ss.length) (fun i=>ss.length - i) 0 ?_ ?_ ?_
     ·refine b0d [2,5,7,36,37,38] [0,1] ⟨?_⟩;rfl
     ·exact qle _
     ·rintro i hok27 Q27 n27 e27 r27;have hi1:i≤ss.length:=hok27;refine yR [2,5,7,36,37,38,39] ⟨?_⟩;refine b0e ?_;intros;refine b0a _ rfl ?_ ?_
      ·intro hc2;have hlt:i < ss.length:=by omega
       obtain ⟨⟨x0,x1,x2⟩,hx⟩:∃x:TS,ss[i]? =some x:=⟨ss[i]'(by omega),qla (by omega)⟩;have hso:=c8d (by omega) (hss _ (qlb hx));simp only [] at hso;obtain ⟨a,rfl⟩:=ql4 hso.1;obtain ⟨b,rfl⟩:=ql4 hso.2.2.1;have hes:=Tm.edges_at hx;simp only [Int.toNat_natCast] at hes;refine zn [2,5,7,36,37,38] ⟨?_⟩;refine b0e ?_;intros;refine b0i ?_;intros;have F:=fq4 (gdm hru) @b9w hend (gdm hx);refine yR [2,5,7,9,36,37,38] ⟨?_⟩;refine yR [2,5,7,9,36,37,38,52,53,54] ⟨?_⟩;refine b0i ?_;intros;refine b08 (fun j=>⟨[(2,.ptr 0 0 0),(5,.ref 1),(7,.int .i64 (Nat.cast k)),(9,.ptr 2 0 0),(36,sQ rQd ss),(37,.int .i64 ss.length),(38,.int .i64 (Nat.cast i)),(52,.ref 5),(53,.int .i64 2),(54,.int .i64 (Nat.cast j))],[.box (tQ (Nat.cast m) ss) .shal,.arr ((Tm.within m u (Tm.edges ss) k (2 * i+j)).map (V.int .i64)) .flat,.box (.agg [V.int .i64 (Nat.cast a),V.int .i64 (Nat.cast b),V.int .i64 x2]) .flat,.arr [V.int .i64 (Nat.cast a),V.int .i64 (Nat.cast b)] .flat,.arr [V.int .i64 (Nat.cast b),V.int .i64 (Nat.cast a)] .flat,.arr [V.ref 3,V.ref 4] .mix],false,97,0⟩) (fun j=>j≤2) (fun j=>2 - j) 0 ?_ ?_ ?_
       ·refine b2a [2,5,7,9,36,37,38,52,53,54] ?_;simp only [b02,b0n,b0l,b0j,b0u,Nat.reduceEqDiff,reduceIte];rfl
       ·exact qle _
       ·rintro j hok36 Q36 n36 e36 r36;have hj1:j≤2:=hok36;refine yR [2,5,7,9,36,37,38,52,53,54,55] ⟨?_⟩;refine b0e ?_;intros;refine b0a _ rfl ?_ ?_
        ·intro hc3;have hj:j=0∨j=1:=by omega
         rcases hj with rfl | rfl
         ·skip;have hwf:=Tm.within_facts hum hg hel2 k (2 * i) (by omega);have hwl:=hwf.1;obtain ⟨p,hp⟩:∃p,(Tm.within m u (Tm.edges ss) k (2 * i))[a]? =some p:=⟨_,qla (by rw [hwl];omega)⟩;obtain ⟨q,hq⟩:∃q,(Tm.within m u (Tm.edges ss) k (2 * i))[b]? =some q:=⟨_,qla (by rw [hwl];omega)⟩;have hpb:=hwf.2 a;rw [Tm.at_get hp] at hpb;have hqb:=hwf.2 b;rw [Tm.at_get hq] at hqb;have he:(Tm.edges ss)[2 * i]? =some (a,b,x2):=hes.1;have hst:(Tm.within m u (Tm.edges ss) k (2 * i+1))=Tm.relax (Tm.within m u (Tm.edges ss) k (2 * i)) (a,b,x2):=Tm.within_step he;have hry:=fun h=>Tm.relax_yes hp hq (w:=x2) h
          have hrn:=fun h=>Tm.relax_no hp hq (w:=x2) h
          refine zn [2,5,7,9,36,37,38,52,53,54] ⟨?_⟩;refine b0e ?_;intros;refine b0i ?_;intros;have F:=fq8 (gdm hru) @b9w hend (gdm hx) hwl (gdm hp) (gdm hq) @b9w;refine yR [2,5,7,9,11,36,37,38,52,53,54] ⟨?_⟩;refine b0e ?_;intro Q43 n43 e43 r43;refine b1f (by kernel_rfl) ?_;intro K44 q44 k44;show b1r _ _ _ _ 11 (Array.replicate 11 false) _;refine b0t q44 true 0 58 ?_;refine b0t q44 true 1 59 ?_;refine b1z q44 true 2 60 ?_;refine b1d q44 true 3 61 ?_;refine b1z q44 true 4 62 ?_;refine b1d q44 true 5 63 ?_;refine b0t q44 true 6 64 ?_;refine b1z q44 true 7 65 ?_;refine b1d q44 true 8 66 ?_;refine b0p 9 ⟨?_⟩;refine b0p 10 ⟨?_⟩;refine b0b (by kernel_rfl) ?_;refine k44 _ ?_;refine n43 _ _ (b0f [2,5,7,9,12,13,36,37,38,52,53,54] _) ?_;refine zk ⟨?_⟩;refine b0e ?_;intro Q45 n45 e45 r45;refine b1f (by kernel_rfl) ?_;intro K46 q46 k46;show b1r _ _ _ _ 20 (Array.replicate 20 false) _;refine b0t q46 true 0 67 ?_;refine b19 q46 true 1 68 ?_;refine b0t q46 true 2 69 ?_;refine b0z q46 true 3 70 ?_;refine b0z q46 true 4 71 ?_;refine b0x q46 true 5 72 ?_;refine b0r q46 true 6 73 ?_;refine b0y q46 true 7 74 ?_;refine b0z q46 true 8 75 ?_;refine b0z q46 true 9 76 ?_;refine b0c q46 true 10 77 ?_;refine b0r q46 true 11 78 ?_;refine b2u q46 true 12 79 ?_;refine b0z q46 true 13 80 ?_;refine b0z q46 true 14 81 ?_;refine b0x q46 true 15 82 ?_;refine b0r q46 true 16 83 ?_;refine b0y q46 true 17 84 ?_;refine b4m q46 true 18 85 ?_;refine b1p q46 true 19 86 ?_;refine b0b (by kernel_rfl) ?_;refine k46 _ ?_;refine n45 _ _ (b0f [2,5,7,9,12,13,36,37,38,52,53,54,86] _) ?_;refine zk ⟨?_⟩;refine b0a _ rfl ?_ ?_
          ·intro hc4;obtain ⟨hty,hre⟩:=hry (by omega);rw [hre] at hst;refine yQ [2,5,7,9,36,37,38,52,53,54] ⟨?_⟩;refine yV ⟨?_⟩;refine n36 _ 1 ?_ ?_ ?_
           ·refine b2a [2,5,7,9,36,37,38,52,53,54] ?_;simp only [b02,b0n,b0l,b0j,b0u,Nat.reduceEqDiff,reduceIte];rw [hst];rfl
           ·omega
           ·show _ < _;omega
          ·intro hc4;obtain ⟨htn,hre⟩:=hrn (by omega);rw [hre] at hst;refine zn [2,5,7,9,36,37,38,52,53,54] ⟨?_⟩;refine yV ⟨?_⟩;refine n36 _ 1 ?_ ?_ ?_
           ·refine b2a [2,5,7,9,36,37,38,52,53,54] ?_;simp only [b02,b0n,b0l,b0j,b0u,Nat.reduceEqDiff,reduceIte];rw [hst];rfl
           ·omega
           ·show _ < _;omega
         ·skip;have hwf:=Tm.within_facts hum hg hel2 k (2 * i+1) (by omega);have hwl:=hwf.1;obtain ⟨p,hp⟩:∃p,(Tm.within m u (Tm.edges ss) k (2 * i+1))[b]? =some p:=⟨_,qla (by rw [hwl];omega)⟩;obtain ⟨q,hq⟩:∃q,(Tm.within m u (Tm.edges ss) k (2 * i+1))[a]? =some q:=⟨_,qla (by rw [hwl];omega)⟩;have hpb:=hwf.2 b;rw [Tm.at_get hp] at hpb;have hqb:=hwf.2 a;rw [Tm.at_get hq] at hqb;have he:(Tm.edges ss)[2 * i+1]? =some (b,a,x2):=hes.2;have hst:(Tm.within m u (Tm.edges ss) k (2 * i+2))=Tm.relax (Tm.within m u (Tm.edges ss) k (2 * i+1)) (b,a,x2):=Tm.within_step he;have hry:=fun h=>Tm.relax_yes hp hq (w:=x2) h
          have hrn:=fun h=>Tm.relax_no hp hq (w:=x2) h
          refine zn [2,5,7,9,36,37,38,52,53,54] ⟨?_⟩;refine b0e ?_;intros;refine b0i ?_;intros;have F:=fq8 (gdm hru) @b9w hend (gdm hx) hwl (gdm hp) (gdm hq) @b9w;refine yR [2,5,7,9,11,36,37,38,52,53,54] ⟨?_⟩;refine b0e ?_;intro Q54 n54 e54 r54;refine b1f (by kernel_rfl) ?_;intro K55 q55 k55;show b1r _ _ _ _ 11 (Array.replicate 11 false) _;refine b0t q55 true 0 58 ?_;refine b0t q55 true 1 59 ?_;refine b1z q55 true 2 60 ?_;refine b1d q55 true 3 61 ?_;refine b1z q55 true 4 62 ?_;refine b1d q55 true 5 63 ?_;refine b0t q55 true 6 64 ?_;refine b1z q55 true 7 65 ?_;refine b1d q55 true 8 66 ?_;refine b0p 9 ⟨?_⟩;refine b0p 10 ⟨?_⟩;refine b0b (by kernel_rfl) ?_;refine k55 _ ?_;refine n54 _ _ (b0f [2,5,7,9,12,13,36,37,38,52,53,54] _) ?_;refine zk ⟨?_⟩;refine b0e ?_;intro Q56 n56 e56 r56;refine b1f (by kernel_rfl) ?_;intro K57 q57 k57;show b1r _ _ _ _ 20 (Array.replicate 20 false) _;refine b0t q57 true 0 67 ?_;refine b19 q57 true 1 68 ?_;refine b0t q57 true 2 69 ?_;refine b0z q57 true 3 70 ?_;refine b0z q57 true 4 71 ?_;refine b0x q57 true 5 72 ?_;refine b0r q57 true 6 73 ?_;refine b0y q57 true 7 74 ?_;refine b0z q57 true 8 75 ?_;refine b0z q57 true 9 76 ?_;refine b0c q57 true 10 77 ?_;refine b0r q57 true 11 78 ?_;refine b2u q57 true 12 79 ?_;refine b0z q57 true 13 80 ?_;refine b0z q57 true 14 81 ?_;refine b0x q57 true 15 82 ?_;refine b0r q57 true 16 83 ?_;refine b0y q57 true 17 84 ?_;refine b4m q57 true 18 85 ?_;refine b1p q57 true 19 86 ?_;refine b0b (by kernel_rfl) ?_;refine k57 _ ?_;refine n56 _ _ (b0f [2,5,7,9,12,13,36,37,38,52,53,54,86] _) ?_;refine zk ⟨?_⟩;refine b0a _ rfl ?_ ?_
          ·intro hc4;obtain ⟨hty,hre⟩:=hry (by omega);rw [hre] at hst;refine yQ [2,5,7,9,36,37,38,52,53,54] ⟨?_⟩;refine yV ⟨?_⟩;refine n36 _ 2 ?_ ?_ ?_
           ·refine b2a [2,5,7,9,36,37,38,52,53,54] ?_;simp only [b02,b0n,b0l,b0j,b0u,Nat.reduceEqDiff,reduceIte];rw [hst];rfl
           ·omega
           ·show _ < _;omega
          ·intro hc4;obtain ⟨htn,hre⟩:=hrn (by omega);rw [hre] at hst;refine zn [2,5,7,9,36,37,38,52,53,54] ⟨?_⟩;refine yV ⟨?_⟩;refine n36 _ 2 ?_ ?_ ?_
           ·refine b2a [2,5,7,9,36,37,38,52,53,54] ?_;simp only [b02,b0n,b0l,b0j,b0u,Nat.reduceEqDiff,reduceIte];rw [hst];rfl
           ·omega
           ·show _ < _;omega
        ·intro hc3;refine zn [2,5,7,36,37,38] ⟨?_⟩;refine yV ⟨?_⟩;refine n27 _ (i+1) ?_ ?_ ?_
         ·refine b0d [2,5,7,36,37,38] [0,1] ⟨?_⟩;rw [show 2 * i+j=2 * (i+1) by omega];rfl
         ·exact hlt
         ·show _ < _;omega
      ·intro hc2;refine zn [2,5,7] ⟨?_⟩;refine yV ⟨?_⟩;refine n19 _ (k+1) ?_ ?_ ?_
       ·refine b0d [2,5,7] [0,1] ⟨?_⟩;rw [show (Tm.within m u (Tm.edges ss) k (2 * i))=(Tm.within m u (Tm.edges ss) (k+1) 0) from Tm.within_end (by omega)];rfl
       ·exact hk
       ·show _ < _;omega
    ·intro hc1;refine zn [5] ⟨?_⟩;refine yR [4] ⟨?_⟩;refine zr ⟨?_⟩;have hend2:k=m:=by omega
     subst hend2;exact b6i rfl (.inl rfl)
end Go.Proofs.YtmbbjhopngejaaaGreatDoor
