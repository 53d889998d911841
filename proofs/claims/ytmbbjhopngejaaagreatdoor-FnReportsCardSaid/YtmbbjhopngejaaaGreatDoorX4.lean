/- What functions compute. No condition. -/
import Derived.Test.YtmbbjhopngejaaaGreatDoorX1
set_option linter.unusedSimpArgs false
set_option linter.unusedVariables false
set_option linter.defProp false
namespace Go.Proofs.YtmbbjhopngejaaaGreatDoor
open Go Go.Vm
set_option maxHeartbeats 8000000
def c2e (n x:Int):Bool:=decide (0≤x) && decide (x≤IntKind.i64.wrap (n - 1))
def b7p (n:Int) (x:TS):Bool:=c2e n x.1 && c2e n x.2.1 && decide (x.1 < x.2.1) && (decide (1≤x.2.2) && decide (x.2.2≤3600))
def d88 (n:Int) (x:TS):Bool:=c2e n x.1 && c2e n x.2.1 && !decide (x.1=x.2.1) && (decide (1≤x.2.2) && decide (x.2.2≤3600))
def c2w (x y:TS):Bool:=decide (x.1 < y.1) || (decide (x.1=y.1) && decide (x.2.1 < y.2.1))
def c4w (n:Int) (ss:List TS):Bool:=(decide (1≤n) && decide (n≤14)) && !decide (40 < (ss.length:Int))
def b9g (n:Int) (ss:List TS):Bool:=c4w n ss && b1v (b7p n) c2w ss 0
def f7r (x y:TS):Int:=orL [f5q x.1 y.1,f5q x.2.1 y.2.1]
theorem d8j (x y:TS):decide (0≤f7r x y)= !c2w x y:=by
  obtain ⟨x0,x1,x2⟩:=x;obtain ⟨y0,y1,y2⟩:=y;simp only [f7r,orL,f5q,c2w]
  by_cases h1:x0 < y0
  · simp [h1]
  · by_cases h2:y0 < x0
    · have:¬x0=y0:=by omega
      simp [h1,h2,this]
    · have:x0=y0:=by omega
      subst this
      by_cases h3:x1 < y1
      · simp [h3]
      · by_cases h4:y1 < x1
        · simp [h3,h4]
        · simp [h3,h4]
theorem f5f (n:Int) (x:TS):(d88 n x && !decide (x.2.1 < x.1))=b7p n x:=by
  obtain ⟨x0,x1,x2⟩:=x;simp only [d88,b7p]
  by_cases h:x0 < x1
  · have h1:¬x0=x1:=by omega
    have h2:¬x1 < x0:=by omega
    simp [h,h1,h2]
  · by_cases h1:x0=x1
    · simp [h1]
    · have h2:x1 < x0:=by omega
      simp [h,h2]
theorem c6y (n:Int) (x:TS):(!d88 n x || decide (x.2.1 < x.1))= !b7p n x:=by
  rw [←f5f];cases d88 n x<;>cases decide (x.2.1 < x.1)<;>rfl
theorem c6q (n:Int) (ss:List TS) (x:Int):Con Tryz.prog 95 [.pv [tQ n ss] 0 0,.int .i64 x] [] (.bool (c2e n x)) []:=by
 refine zcn [.tmp 4] [] Tryz.func95 Tryz.ntmps95 ⟨?_⟩;intro Q0 n0 r0;have T:=tq5 Ty.t3 Ty.t4 Ty.t24 Ty.t26 Ty.t127;have F:=Fc.mk True.intro;refine yR [0,1] ⟨?_⟩;refine yRc [4] (b4d _ _ _) ⟨?_⟩;refine zr ⟨?_⟩;exact b0g rfl rfl (.inl rfl)
theorem d4h (n:Int) (ss:List TS) (x0:Int) (x1:Int) (x2:Int):Con Tryz.prog 93 [.pv [tQ n ss] 0 0,.agg [V.int .i64 x0,V.int .i64 x1,V.int .i64 x2]] [] (.bool (b7p n (x0,x1,x2))) []:=by
 refine zcn [.tmp 4] [] Tryz.func93 Tryz.ntmps93 ⟨?_⟩;intro Q0 n0 r0;have T:=tq6 Ty.t3 Ty.t4 Ty.t24 Ty.t26 Ty.t77 Ty.t127;have F:=Fc.mk True.intro;refine yR [0,3] ⟨?_⟩;refine c6c [4] (c6q n ss x0) (c6q n ss x1) (b4d _ _ _) ⟨?_⟩;refine zr ⟨?_⟩;exact b0g rfl (by simp [b7p]) (.inl rfl)
theorem c2h (x0:Int) (x1:Int) (x2:Int) (y0:Int) (y1:Int) (y2:Int):Con Tryz.prog 94 [.agg [V.int .i64 x0,V.int .i64 x1,V.int .i64 x2],.agg [V.int .i64 y0,V.int .i64 y1,V.int .i64 y2]] [] (.int .i64 (f7r (x0,x1,x2) (y0,y1,y2))) []:=by
 refine zcn [.tmp 4] [] Tryz.func94 Tryz.ntmps94 ⟨?_⟩;intro Q0 n0 r0;have T:=tq3 Ty.t3 Ty.t35 Ty.t127;have F:=Fc.mk True.intro;refine yR [2,3] ⟨?_⟩;refine b0e ?_;intro Q2 n2 e2 r2;refine b1f (by kernel_rfl) ?_;intro K3 q3 k3;show b1r _ _ _ _ 13 (Array.replicate 13 false) _;refine b0h q3 true 0 5 ?_;refine b1d q3 true 1 6 ?_;refine b0h q3 true 2 7 ?_;refine b1d q3 true 3 8 ?_;refine b0h q3 true 5 10 ?_;refine b1d q3 true 6 11 ?_;refine b0h q3 true 7 12 ?_;refine b1d q3 true 8 13 ?_;refine zoc 4 (d0x x0 y0) ⟨?_⟩;refine zoc 9 (d0x x1 y1) ⟨?_⟩;refine b1j 10 ⟨?_⟩;refine zoc 11 (f28 [f5q x0 y0,f5q x1 y1] (by simp)) ⟨?_⟩;refine b0p 12 ⟨?_⟩;refine b0b (by kernel_rfl) ?_;refine k3 _ ?_;refine n2 _ _ (b0f [4] _) ?_;refine zq2 ⟨?_⟩;exact b0g rfl rfl (.inl rfl)
theorem b9u (x0:Int) (x1:Int) (x2:Int) (n:Int):Con Tryz.prog 163 [.agg [V.int .i64 x0,V.int .i64 x1,V.int .i64 x2],.int .i64 n] [] (.bool (d88 n (x0,x1,x2))) []:=by
 refine zcn [.tmp 4] [] Tryz.func163 Tryz.ntmps163 ⟨?_⟩;intro Q0 n0 r0;have T:=tq3 Ty.t3 Ty.t4 Ty.t127;have F:=Fc.mk True.intro;refine yR [1,2] ⟨?_⟩;refine c6c [4] (b2w _ _ _) (b2w _ _ _) (b2w _ _ _) ⟨?_⟩;refine zr ⟨?_⟩;exact b0g rfl (by simp [d88,c2e]) (.inl rfl)
theorem b86 (x0:Int) (x1:Int) (x2:Int) (y0:Int) (y1:Int) (y2:Int):Con Tryz.prog 165 [.agg [V.int .i64 x0,V.int .i64 x1,V.int .i64 x2],.agg [V.int .i64 y0,V.int .i64 y1,V.int .i64 y2]] [] (.bool (c2w (x0,x1,x2) (y0,y1,y2))) []:=by
 refine zcn [.tmp 4] [] Tryz.func165 Tryz.ntmps165 ⟨?_⟩;intro Q0 n0 r0;have T:=tq2 Ty.t3 Ty.t127;have F:=Fc.mk True.intro;refine yR [2,3] ⟨?_⟩;refine yR [4] ⟨?_⟩;refine zr ⟨?_⟩;exact b0g rfl (by simp [c2w]) (.inl rfl)
set_option maxRecDepth 8000 in
theorem b4z (n:Int) (ss:List TS) (hs:ss.length≤1048576):Con Tryz.prog 37 [.pv [tQ n ss] 0 0] [] (.bool (b9g n ss)) []:=by
 refine zcn [.tmp 2] [] Tryz.func37 Tryz.ntmps37 ⟨?_⟩;intro Q0 n0 r0;have T:=tq6 Ty.t3 Ty.t4 Ty.t24 Ty.t26 Ty.t77 Ty.t127;have F:=Fc.mk True.intro;refine yR [0] ⟨?_⟩;refine b0e ?_;intros;refine yRc [0,18] (b4d _ _ _) ⟨?_⟩;refine b0a _ rfl ?_ ?_
 ·intro hc0;have hh:c4w n ss=false:=by cases hq:c4w n ss with | false=>rfl | true=>(exfalso;simp [c4w] at hq;(try simp at hc0);omega)
  refine yR [2] ⟨?_⟩;refine zr ⟨?_⟩;exact b0g rfl (by rw [b9g,hh];rfl) (.inl rfl)
 ·intro hc0;have hh:c4w n ss=true:=by simp only [c4w,Bool.and_eq_true,Bool.not_eq_true',decide_eq_true_eq,decide_eq_false_iff_not];(try simp at hc0);omega
  refine zn [0] ⟨?_⟩;refine b0e ?_;intros;refine yR [0,22,23,24] ⟨?_⟩;refine b0i ?_;intros;refine b08 (fun i=>⟨[(0,.pv [tQ n ss] 0 0),(22,sQ rQd ss),(23,.int .i64 ss.length),(24,.int .i64 (Nat.cast i))],[],false,51,0⟩) (fun i=>i≤ss.length∧b1v (b7p n) c2w ss i=b1v (b7p n) c2w ss 0) (fun i=>ss.length - i) 0 ?_ ?_ ?_
  ·refine b0d [0,22,23,24] [] ⟨?_⟩;rfl
  ·exact ⟨qle _,rfl⟩
  ·rintro i hok9 Q9 n9 e9 r9;obtain ⟨hi1,hR⟩:=hok9;refine yR [0,22,23,24,25] ⟨?_⟩;refine b0e ?_;intros;refine b0a _ rfl ?_ ?_
   ·intro hc1;have hlt:i < ss.length:=by omega
    obtain ⟨⟨x0,x1,x2⟩,hx⟩:∃x:TS,ss[i]? =some x:=⟨ss[i]'(by omega),qla (by omega)⟩;rcases ql8 i with h0 | h0
    ·skip;have y0:Int:=0;have y1:Int:=0;have y2:Int:=0;have hi0:¬((0:Int) < (i:Int)):=by omega
     have hst:b1v (b7p n) c2w ss i=(b7p n (x0,x1,x2) && b1v (b7p n) c2w ss (i+1)):=by subst h0;exact b7y hx
     have hts:=c6y n (x0,x1,x2);simp only [] at hts;refine zn [0,22,23,24] ⟨?_⟩;refine b0e ?_;intros;refine b0i ?_;intros;have F:=fq5 (gdm hx) hi0 @decide_false @qmh hts;refine yR [0,3,4,22,23,24] ⟨?_⟩;refine b0e ?_;intro Q16 n16 e16 r16;refine b1f (by kernel_rfl) ?_;intro K17 q17 k17;show b1r _ _ _ _ 21 (Array.replicate 21 false) _;refine b0t q17 true 0 29 ?_;refine b1d q17 true 1 30 ?_;refine zoc 2 (d4h n ss x0 x1 x2) ⟨?_⟩;refine b9r q17 true 3 32 ?_;refine b0t q17 true 4 33 ?_;refine b0z q17 true 5 34 ?_;refine b0y q17 true 6 35 ?_;refine b0z q17 true 7 36 ?_;refine b0z q17 true 8 37 ?_;refine b6y q17 true 9 38 ?_;refine b0c q17 true 10 39 ?_;refine b0r q17 true 11 40 ?_;refine b0z q17 true 12 41 ?_;refine b2u q17 true 13 42 ?_;refine b0x q17 true 14 43 ?_;refine b0r q17 true 15 44 ?_;refine b0r q17 true 16 45 ?_;first
     |refine d2r 17 (c2h y0 y1 y2 x0 x1 x2) ⟨?_⟩
     |(refine b3c 17 46 7 true rfl rfl (show 46 < 51 by decide) (by kernel_rfl) rfl ?_ ?_;(focus first | rfl | (simp only [zV,b04,Nat.reduceEqDiff,reduceIte];done));simp only [zW,b0k,Nat.reduceEqDiff,reduceIte])
     refine b0y q17 true 18 47 ?_;refine b4m q17 true 19 48 ?_;refine b1p q17 true 20 49 ?_;refine b0b (by kernel_rfl) ?_;refine k17 _ ?_;refine n16 _ _ (b0f [0,22,23,24,49] _) ?_;refine zk ⟨?_⟩;refine b0a _ rfl ?_ ?_
     ·intro hc2;refine yR [2] ⟨?_⟩;refine zr ⟨?_⟩;exact b0g rfl (by rw [b9g,hh,←hR,hst];(try simp at hc2);first | (simp [hc2];done) | (rcases hc2 with h | h<;>simp [h];done) | (simp_all;done)) (.inl rfl)
     ·intro hc2;refine zn [0,22,23,24] ⟨?_⟩;refine yV ⟨?_⟩;refine n9 _ (i+1) ?_ ?_ ?_
      ·refine b0d [0,22,23,24] [] ⟨?_⟩;rfl
      ·exact ⟨by omega,by rw [←hR,hst];(try simp at hc2);first | (simp [hc2];done) | (simp_all;done)⟩
      ·show _ < _;omega
    ·skip;obtain ⟨⟨y0,y1,y2⟩,hy⟩:∃x:TS,ss[i - 1]? =some x:=⟨ss[i - 1]'(by omega),qla (by omega)⟩;have hi0:(0:Int) < i:=by omega
     have hk:((i:Int) - 1).toNat=i - 1:=by omega
     have hst:=b76 (ok:=b7p n) (bf:=c2w) h0 hy hx;have hcb:=d8j (y0,y1,y2) (x0,x1,x2);have hts:=c6y n (x0,x1,x2);simp only [] at hts;refine zn [0,22,23,24] ⟨?_⟩;refine b0e ?_;intros;refine b0i ?_;intros;have F:=fq8 (gdm hx) hi0 hk (gdm hy) @decide_true @qmm hcb hts;refine yR [0,3,4,22,23,24] ⟨?_⟩;refine b0e ?_;intro Q24 n24 e24 r24;refine b1f (by kernel_rfl) ?_;intro K25 q25 k25;show b1r _ _ _ _ 21 (Array.replicate 21 false) _;refine b0t q25 true 0 29 ?_;refine b1d q25 true 1 30 ?_;refine zoc 2 (d4h n ss x0 x1 x2) ⟨?_⟩;refine b9r q25 true 3 32 ?_;refine b0t q25 true 4 33 ?_;refine b0z q25 true 5 34 ?_;refine b0y q25 true 6 35 ?_;refine b0z q25 true 7 36 ?_;refine b0z q25 true 8 37 ?_;refine b6y q25 true 9 38 ?_;refine b0c q25 true 10 39 ?_;refine b0r q25 true 11 40 ?_;refine b0z q25 true 12 41 ?_;refine b2u q25 true 13 42 ?_;refine b0x q25 true 14 43 ?_;refine b0r q25 true 15 44 ?_;refine b0r q25 true 16 45 ?_;first
     |refine d2r 17 (c2h y0 y1 y2 x0 x1 x2) ⟨?_⟩
     |(refine b3c 17 46 7 true rfl rfl (show 46 < 51 by decide) (by kernel_rfl) rfl ?_ ?_;(focus first | rfl | (simp only [zV,b04,Nat.reduceEqDiff,reduceIte];done));simp only [zW,b0k,Nat.reduceEqDiff,reduceIte])
     refine b0y q25 true 18 47 ?_;refine b4m q25 true 19 48 ?_;refine b1p q25 true 20 49 ?_;refine b0b (by kernel_rfl) ?_;refine k25 _ ?_;refine n24 _ _ (b0f [0,22,23,24,49] _) ?_;refine zk ⟨?_⟩;refine b0a _ rfl ?_ ?_
     ·intro hc2;refine yR [2] ⟨?_⟩;refine zr ⟨?_⟩;exact b0g rfl (by rw [b9g,hh,←hR,hst];(try simp at hc2);first | (simp [hc2];done) | (rcases hc2 with h | h<;>simp [h];done) | (simp_all;done)) (.inl rfl)
     ·intro hc2;refine zn [0,22,23,24] ⟨?_⟩;refine yV ⟨?_⟩;refine n9 _ (i+1) ?_ ?_ ?_
      ·refine b0d [0,22,23,24] [] ⟨?_⟩;rfl
      ·exact ⟨by omega,by rw [←hR,hst];(try simp at hc2);first | (simp [hc2];done) | (simp_all;done)⟩
      ·show _ < _;omega
   ·intro hc1;refine zn [] ⟨?_⟩;refine yR [2] ⟨?_⟩;refine zr ⟨?_⟩;exact b0g rfl (by rw [b9g,hh,←hR,b9f (by omega)];rfl) (.inl rfl)
set_option maxRecDepth 8000 in
theorem c1k (n:Int) (ss:List TS) (hs:ss.length≤1048576):Con Tryz.prog 153 [tQ n ss] [] (.bool (b9g n ss)) []:=by
 refine zcn [.tmp 2] [] Tryz.func153 Tryz.ntmps153 ⟨?_⟩;intro Q0 n0 r0;have T:=tq5 Ty.t3 Ty.t4 Ty.t24 Ty.t26 Ty.t127;have F:=Fc.mk True.intro;refine yR [1] ⟨?_⟩;refine b0e ?_;intros;refine yRc [1,14] (b2w _ _ _) ⟨?_⟩;refine b0a _ rfl ?_ ?_
 ·intro hc0;have hh:c4w n ss=false:=by cases hq:c4w n ss with | false=>rfl | true=>(exfalso;simp [c4w] at hq;(try simp at hc0);omega)
  refine yR [2] ⟨?_⟩;refine zr ⟨?_⟩;exact b0g rfl (by rw [b9g,hh];rfl) (.inl rfl)
 ·intro hc0;have hh:c4w n ss=true:=by simp only [c4w,Bool.and_eq_true,Bool.not_eq_true',decide_eq_true_eq,decide_eq_false_iff_not];(try simp at hc0);omega
  refine zn [1] ⟨?_⟩;refine b0e ?_;intros;refine yR [1,16,17,18] ⟨?_⟩;refine b0i ?_;intros;refine b08 (fun i=>⟨[(1,.ptr 0 0 0),(16,sQ rQd ss),(17,.int .i64 ss.length),(18,.int .i64 (Nat.cast i))],[.box (tQ n ss) .shal],false,51,0⟩) (fun i=>i≤ss.length∧b1v (b7p n) c2w ss i=b1v (b7p n) c2w ss 0) (fun i=>ss.length - i) 0 ?_ ?_ ?_
  ·refine b0d [1,16,17,18] [0] ⟨?_⟩;rfl
  ·exact ⟨qle _,rfl⟩
  ·rintro i hok9 Q9 n9 e9 r9;obtain ⟨hi1,hR⟩:=hok9;refine yR [1,16,17,18,19] ⟨?_⟩;refine b0e ?_;intros;refine b0a _ rfl ?_ ?_
   ·intro hc1;have hlt:i < ss.length:=by omega
    obtain ⟨⟨x0,x1,x2⟩,hx⟩:∃x:TS,ss[i]? =some x:=⟨ss[i]'(by omega),qla (by omega)⟩;rcases ql8 i with h0 | h0
    ·skip;have y0:Int:=0;have y1:Int:=0;have y2:Int:=0;have hi0:¬((0:Int) < (i:Int)):=by omega
     have hst:b1v (b7p n) c2w ss i=(b7p n (x0,x1,x2) && b1v (b7p n) c2w ss (i+1)):=by subst h0;exact b7y hx
     have hts:=c6y n (x0,x1,x2);simp only [] at hts;refine zn [1,16,17,18] ⟨?_⟩;refine b0e ?_;intros;refine b0i ?_;intros;have F:=fq5 (gdm hx) hi0 @decide_false @qmh hts;refine yR [1,3,4,16,17,18] ⟨?_⟩;refine b0e ?_;intro Q16 n16 e16 r16;refine b1f (by kernel_rfl) ?_;intro K17 q17 k17;show b1r _ _ _ _ 27 (Array.replicate 27 false) _;refine b1d q17 true 0 23 ?_;refine b0h q17 true 1 24 ?_;refine b1d q17 true 2 25 ?_;refine zoc 3 (b9u x0 x1 x2 n) ⟨?_⟩;refine b9r q17 true 4 27 ?_;refine b0t q17 true 5 28 ?_;refine b0c q17 true 6 29 ?_;refine b0r q17 true 7 30 ?_;refine b0c q17 true 8 31 ?_;refine b0r q17 true 9 32 ?_;refine b0y q17 true 10 33 ?_;refine b1p q17 true 11 34 ?_;refine b0t q17 true 12 35 ?_;refine b0z q17 true 13 36 ?_;refine b0y q17 true 14 37 ?_;refine b0z q17 true 15 38 ?_;refine b0c q17 true 16 39 ?_;refine b0r q17 true 17 40 ?_;refine b0z q17 true 18 41 ?_;refine b2u q17 true 19 42 ?_;refine b0x q17 true 20 43 ?_;refine b0r q17 true 21 44 ?_;refine b0r q17 true 22 45 ?_;first
     |refine d2r 23 (b86 y0 y1 y2 x0 x1 x2) ⟨?_⟩
     |(refine b3c 23 46 15 true rfl rfl (show 46 < 51 by decide) (by kernel_rfl) rfl ?_ ?_;(focus first | rfl | (simp only [zV,b04,Nat.reduceEqDiff,reduceIte];done));simp only [zW,b0k,Nat.reduceEqDiff,reduceIte])
     refine c0b q17 true 24 47 ?_;refine b4m q17 true 25 48 ?_;refine b1p q17 true 26 49 ?_;refine b0b (by kernel_rfl) ?_;refine k17 _ ?_;refine n16 _ _ (b0f [1,16,17,18,49] _) ?_;refine zk ⟨?_⟩;refine b0a _ rfl ?_ ?_
     ·intro hc2;refine yR [2] ⟨?_⟩;refine zr ⟨?_⟩;exact b0g rfl (by rw [b9g,hh,←hR,hst];(try simp at hc2);first | (simp [hc2];done) | (rcases hc2 with h | h<;>simp [h];done) | (simp_all;done)) (.inl rfl)
     ·intro hc2;refine zn [1,16,17,18] ⟨?_⟩;refine yV ⟨?_⟩;refine n9 _ (i+1) ?_ ?_ ?_
      ·refine b0d [1,16,17,18] [0] ⟨?_⟩;rfl
      ·exact ⟨by omega,by rw [←hR,hst];(try simp at hc2);first | (simp [hc2];done) | (simp_all;done)⟩
      ·show _ < _;omega
    ·skip;obtain ⟨⟨y0,y1,y2⟩,hy⟩:∃x:TS,ss[i - 1]? =some x:=⟨ss[i - 1]'(by omega),qla (by omega)⟩;have hi0:(0:Int) < i:=by omega
     have hk:((i:Int) - 1).toNat=i - 1:=by omega
     have hst:=b76 (ok:=b7p n) (bf:=c2w) h0 hy hx;have hcb:=d8j (y0,y1,y2) (x0,x1,x2);have hts:=c6y n (x0,x1,x2);simp only [] at hts;refine zn [1,16,17,18] ⟨?_⟩;refine b0e ?_;intros;refine b0i ?_;intros;have F:=fq8 (gdm hx) hi0 hk (gdm hy) @decide_true @qmm hcb hts;refine yR [1,3,4,16,17,18] ⟨?_⟩;refine b0e ?_;intro Q24 n24 e24 r24;refine b1f (by kernel_rfl) ?_;intro K25 q25 k25;show b1r _ _ _ _ 27 (Array.replicate 27 false) _;refine b1d q25 true 0 23 ?_;refine b0h q25 true 1 24 ?_;refine b1d q25 true 2 25 ?_;refine zoc 3 (b9u x0 x1 x2 n) ⟨?_⟩;refine b9r q25 true 4 27 ?_;refine b0t q25 true 5 28 ?_;refine b0c q25 true 6 29 ?_;refine b0r q25 true 7 30 ?_;refine b0c q25 true 8 31 ?_;refine b0r q25 true 9 32 ?_;refine b0y q25 true 10 33 ?_;refine b1p q25 true 11 34 ?_;refine b0t q25 true 12 35 ?_;refine b0z q25 true 13 36 ?_;refine b0y q25 true 14 37 ?_;refine b0z q25 true 15 38 ?_;refine b0c q25 true 16 39 ?_;refine b0r q25 true 17 40 ?_;refine b0z q25 true 18 41 ?_;refine b2u q25 true 19 42 ?_;refine b0x q25 true 20 43 ?_;refine b0r q25 true 21 44 ?_;refine b0r q25 true 22 45 ?_;first
     |refine d2r 23 (b86 y0 y1 y2 x0 x1 x2) ⟨?_⟩
     |(refine b3c 23 46 15 true rfl rfl (show 46 < 51 by decide) (by kernel_rfl) rfl ?_ ?_;(focus first | rfl | (simp only [zV,b04,Nat.reduceEqDiff,reduceIte];done));simp only [zW,b0k,Nat.reduceEqDiff,reduceIte])
     refine c0b q25 true 24 47 ?_;refine b4m q25 true 25 48 ?_;refine b1p q25 true 26 49 ?_;refine b0b (by kernel_rfl) ?_;refine k25 _ ?_;refine n24 _ _ (b0f [1,16,17,18,49] _) ?_;refine zk ⟨?_⟩;refine b0a _ rfl ?_ ?_
     ·intro hc2;refine yR [2] ⟨?_⟩;refine zr ⟨?_⟩;exact b0g rfl (by rw [b9g,hh,←hR,hst];(try simp at hc2);first | (simp [hc2];done) | (rcases hc2 with h | h<;>simp [h];done) | (simp_all;done)) (.inl rfl)
     ·intro hc2;refine zn [1,16,17,18] ⟨?_⟩;refine yV ⟨?_⟩;refine n9 _ (i+1) ?_ ?_ ?_
      ·refine b0d [1,16,17,18] [0] ⟨?_⟩;rfl
      ·exact ⟨by omega,by rw [←hR,hst];(try simp at hc2);first | (simp [hc2];done) | (simp_all;done)⟩
      ·show _ < _;omega
   ·intro hc1;refine zn [] ⟨?_⟩;refine yR [2] ⟨?_⟩;refine zr ⟨?_⟩;exact b0g rfl (by rw [b9g,hh,←hR,b9f (by omega)];rfl) (.inl rfl)
theorem d97 (n:Int) (ss:List TS) (x:Int) (hs:ss.length≤1048576):Con Tryz.prog 136 [tQ n ss,.int .i64 x] [] (.bool (b9g n ss && c2e n x)) []:=by
 refine zcn [.tmp 4] [] Tryz.func136 Tryz.ntmps136 ⟨?_⟩;intro Q0 n0 r0;have T:=tq5 Ty.t3 Ty.t4 Ty.t24 Ty.t26 Ty.t127;have F:=Fc.mk True.intro;refine yR [1,2] ⟨?_⟩;refine d2w [4] (c1k n ss hs) (b2w _ _ _) ⟨?_⟩;refine zr ⟨?_⟩;exact b0g rfl (by simp [c2e]) (.inl rfl)
end Go.Proofs.YtmbbjhopngejaaaGreatDoor
