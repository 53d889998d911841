/- What functions compute. No condition. -/
import Derived.Test.YtaefoaghpehbpaaGreatUz
import Derived.Test.YtaefoaghpehbpaaGreatUty
import Derived.Test.YtaefoaghpehbpaaGreatUmG
import Derived.Test.YtaefoaghpehbpaaGreatX1
import Derived.Test.YtaefoaghpehbpaaGreatX3
set_option linter.unusedSimpArgs false
set_option linter.unusedVariables false
set_option linter.defProp false
namespace Go.Proofs.YtaefoaghpehbpaaGreat
open Go Go.Vm
set_option maxHeartbeats 8000000
theorem c8c (x0:ByteArray) (x1:Int) (x2:Int) (x3:Int) (x4:Int) (y0:ByteArray) (y1:Int) (y2:Int) (y3:Int) (y4:Int):Con Tryz.prog 145 [.agg [V.str x0,V.int .i64 x1,V.int .i64 x2,V.int .i64 x3,V.int .i64 x4],.agg [V.str y0,V.int .i64 y1,V.int .i64 y2,V.int .i64 y3,V.int .i64 y4]] [] (.bool (decide ((x0,x1,x2,x3,x4)=(y0,y1,y2,y3,y4)))) []:=by
 refine b05 [.tmp 4] [] Tryz.func145 rfl rfl rfl (by simp [Tryz.ntmps145]) ?_
 intro Q0 n0 r0
 simp only [Tryz.ntmps145,b0l,Nat.reduceAdd]
 have T:=Tys.mk (ai Ty.t3 (ai Ty.t9 Ty.t96))
 have F:=Fc.mk True.intro
 refine yR [2,3] ⟨?_⟩;refine b0c ?_;intros;refine yR [2,3,9] ⟨?_⟩;refine b0d _ rfl ?_ ?_
 ·intro hc0
  refine yR [4] ⟨?_⟩;refine zr ⟨?_⟩
  exact b0a rfl (by rw [decide_eq_false (by intro h;simp only [Prod.mk.injEq] at h;exact hc0 h.1)]) (.inl rfl)
 ·intro hc0
  refine zn [2,3] ⟨?_⟩;refine b0c ?_;intros;refine yR [2,3,14] ⟨?_⟩;refine b0d _ rfl ?_ ?_
  ·intro hc1
   refine yR [4] ⟨?_⟩;refine zr ⟨?_⟩
   exact b0a rfl (by rw [decide_eq_false (by intro h;simp only [Prod.mk.injEq] at h;exact hc1 h.2.1)]) (.inl rfl)
  ·intro hc1
   refine zn [2,3] ⟨?_⟩;refine b0c ?_;intros;refine yR [2,3,19] ⟨?_⟩;refine b0d _ rfl ?_ ?_
   ·intro hc2
    refine yR [4] ⟨?_⟩;refine zr ⟨?_⟩
    exact b0a rfl (by rw [decide_eq_false (by intro h;simp only [Prod.mk.injEq] at h;exact hc2 h.2.2.1)]) (.inl rfl)
   ·intro hc2
    refine zn [2,3] ⟨?_⟩;refine b0c ?_;intros;refine yR [2,3,24] ⟨?_⟩;refine b0d _ rfl ?_ ?_
    ·intro hc3
     refine yR [4] ⟨?_⟩;refine zr ⟨?_⟩
     exact b0a rfl (by rw [decide_eq_false (by intro h;simp only [Prod.mk.injEq] at h;exact hc3 h.2.2.2.1)]) (.inl rfl)
    ·intro hc3
     refine zn [2,3] ⟨?_⟩;refine b0c ?_;intros;refine yR [29] ⟨?_⟩;refine b0d _ rfl ?_ ?_
     ·intro hc4
      refine yR [4] ⟨?_⟩;refine zr ⟨?_⟩
      exact b0a rfl (by rw [decide_eq_false (by intro h;simp only [Prod.mk.injEq] at h;exact hc4 h.2.2.2.2)]) (.inl rfl)
     ·intro hc4
      refine zn [] ⟨?_⟩;refine yR [4] ⟨?_⟩;refine zr ⟨?_⟩
      exact b0a rfl (by rw [decide_eq_true (by rw [hc0,hc1,hc2,hc3,hc4])]) (.inl rfl)
theorem c5v (a b:List TA) (ha:a.length≤1048576):Con Tryz.prog 71 [.sl (a.map (fun t:TA=>V.agg [V.str t.1,V.int .i64 t.2.1,V.int .i64 t.2.2.1,V.int .i64 t.2.2.2.1,V.int .i64 t.2.2.2.2])),.sl (b.map (fun t:TA=>V.agg [V.str t.1,V.int .i64 t.2.1,V.int .i64 t.2.2.1,V.int .i64 t.2.2.2.1,V.int .i64 t.2.2.2.2]))] [] (.bool (decide (a=b))) []:=by
 refine b05 [.tmp 4] [] Tryz.func71 rfl rfl rfl (by simp [Tryz.ntmps71]) ?_
 intro Q0 n0 r0
 simp only [Tryz.ntmps71,b0l,Nat.reduceAdd]
 have T:=Tys.mk (ai Ty.t3 (ai Ty.t4 (ai Ty.t9 (ai Ty.t32 Ty.t96))))
 have F:=Fc.mk True.intro
 refine yR [0,1] ⟨?_⟩;refine b0c ?_;intros;refine yR [0,1,10] ⟨?_⟩;refine b0d _ rfl ?_ ?_
 ·intro hc0
  refine yR [4] ⟨?_⟩;refine zr ⟨?_⟩
  exact b0a rfl (by rw [decide_eq_false (fun h=>by subst h;simp at hc0)]) (.inl rfl)
 ·intro hc0
  have hab:a.length=b.length:=by omega
  refine zn [0,1] ⟨?_⟩;refine b0c ?_;intros;refine yR [0,1,5] ⟨?_⟩;refine b0g ?_;intros;refine b08 (fun i=>⟨[(0,.sl (a.map (fun t:TA=>V.agg [V.str t.1,V.int .i64 t.2.1,V.int .i64 t.2.2.1,V.int .i64 t.2.2.2.1,V.int .i64 t.2.2.2.2]))),(1,.sl (b.map (fun t:TA=>V.agg [V.str t.1,V.int .i64 t.2.1,V.int .i64 t.2.2.1,V.int .i64 t.2.2.2.1,V.int .i64 t.2.2.2.2]))),(5,.int .i64 (Nat.cast i))],[],false,27,0⟩) (fun i=>i≤a.length∧((a=b)↔(a.drop i=b.drop i))) (fun i=>a.length - i) 0 ?_ ?_ ?_
  ·refine b1a [0,1,5] ?_
   simp only [b0s,b0k,b0h,b0i,b0n,Nat.reduceEqDiff,reduceIte]
   rfl
  ·exact ⟨Nat.zero_le _,by simp⟩
  ·rintro i hok9 Q9 n9 e9 r9
   obtain ⟨hi1,hR⟩:=hok9
   refine b0c ?_;intros;refine yR [0,1,5,14] ⟨?_⟩;refine b0d _ rfl ?_ ?_
   ·intro hc1
    have hlt:i < a.length:=by omega
    obtain ⟨⟨x0,x1,x2,x3,x4⟩,hx⟩:∃x:TA,a[i]? =some x:=⟨a[i]'(by omega),List.getElem?_eq_getElem (by omega)⟩
    obtain ⟨⟨y0,y1,y2,y3,y4⟩,hy⟩:∃x:TA,b[i]? =some x:=⟨b[i]'(by omega),List.getElem?_eq_getElem (by omega)⟩
    have hstep:=c2b hab hx hy
    refine zn [0,1,5] ⟨?_⟩;refine b0c ?_;intros;refine b0g ?_;intros;refine b0c ?_;intro Q15 n15 e15 r15;refine b1p (by kernel_rfl) ?_;intro K16 q16 k16
    show b14 _ _ _ _ 10 (Array.replicate 10 false) _
    have F:=Fc.mk (ai (gdm hx) (gdm hy))
    refine b0o q16 true 0 17 ?_;refine b0o q16 true 1 18 ?_;refine b07 q16 true 2 19 ?_;refine b1h q16 true 3 20 ?_;refine b0o q16 true 4 21 ?_;refine b0o q16 true 5 22 ?_;refine b07 q16 true 6 23 ?_;refine b1h q16 true 7 24 ?_;refine zoc 8 (c8c x0 x1 x2 x3 x4 y0 y1 y2 y3 y4) ⟨?_⟩;refine b5q q16 true 9 26 ?_;refine b0j (by kernel_rfl) ?_;refine k16 _ ?_;refine n15 _ _ (b0f [0,1,5,26] _) ?_;refine zk ⟨?_⟩;refine b0d _ rfl ?_ ?_
    ·intro hc2
     refine yR [4] ⟨?_⟩;refine zr ⟨?_⟩
     exact b0a rfl (by rw [decide_eq_false (fun h=>hc2 (hstep.1 (hR.1 h)).1)]) (.inl rfl)
    ·intro hc2
     refine zn [0,1,5] ⟨?_⟩;refine yV ⟨?_⟩;refine n9 _ (i+1) ?_ ?_ ?_
     ·refine b1a [0,1,5] ?_
      simp only [b0s,b0k,b0h,b0i,b0n,Nat.reduceEqDiff,reduceIte]
      rfl
     ·exact ⟨by omega,hR.trans (hstep.trans ⟨fun h=>h.2,fun h=>⟨hc2,h⟩⟩)⟩
     ·show _ < _;omega
   ·intro hc1
    refine zn [] ⟨?_⟩;refine yR [4] ⟨?_⟩;refine zr ⟨?_⟩
    exact b0a rfl (by rw [decide_eq_true (hR.2 (by rw [List.drop_of_length_le (by omega),List.drop_of_length_le (by omega)]))]) (.inl rfl)
def c0p (n x:Int):Bool:=decide (0≤x) && decide (x≤IntKind.i64.wrap (n - 1))
def b6s (n:Int) (x:TS):Bool:=c0p n x.1 && c0p n x.2.1 && decide (x.1 < x.2.1) && (decide (1≤x.2.2) && decide (x.2.2≤3600))
def d89 (n:Int) (x:TS):Bool:=c0p n x.1 && c0p n x.2.1 && !decide (x.1=x.2.1) && (decide (1≤x.2.2) && decide (x.2.2≤3600))
def c16 (x y:TS):Bool:=decide (x.1 < y.1) || (decide (x.1=y.1) && decide (x.2.1 < y.2.1))
def c30 (n:Int) (ss:List TS):Bool:=(decide (1≤n) && decide (n≤14)) && !decide (40 < (ss.length:Int))
def b8o (n:Int) (ss:List TS):Bool:=c30 n ss && b1x (b6s n) c16 ss 0
def f5r (x y:TS):Int:=orL [d88 x.1 y.1,d88 x.2.1 y.2.1]
theorem d6y (x y:TS):decide (0≤f5r x y)= !c16 x y:=by
  obtain ⟨x0,x1,x2⟩:=x
  obtain ⟨y0,y1,y2⟩:=y
  simp only [f5r,orL,d88,c16]
  by_cases h1:x0 < y0
  · simp [h1]
  · by_cases h2:y0 < x0
    · have:¬x0=y0:=by omega
      simp [h1,h2,this]
    · have:x0=y0:=by omega
      subst this
      by_cases h3:x1 < y1
      · simp [h3]
      · by_cases h4:y1 < x1
        · simp [h3,h4]
        · simp [h3,h4]
theorem f4p (n:Int) (x:TS):(d89 n x && !decide (x.2.1 < x.1))=b6s n x:=by
  obtain ⟨x0,x1,x2⟩:=x
  simp only [d89,b6s]
  by_cases h:x0 < x1
  · have h1:¬x0=x1:=by omega
    have h2:¬x1 < x0:=by omega
    simp [h,h1,h2]
  · by_cases h1:x0=x1
    · simp [h1]
    · have h2:x1 < x0:=by omega
      simp [h,h2]
theorem c6d (n:Int) (x:TS):(!d89 n x || decide (x.2.1 < x.1))= !b6s n x:=by
  rw [←f4p]
  cases d89 n x<;>cases decide (x.2.1 < x.1)<;>rfl
theorem c3n (n:Int) (ss:List TS) (x:Int):Con Tryz.prog 95 [.pv [.agg [.int .i64 n,.sl (ss.map (fun t:TS=>V.agg [V.int .i64 t.1,V.int .i64 t.2.1,V.int .i64 t.2.2]))]] 0 0,.int .i64 x] [] (.bool (c0p n x)) []:=by
 refine b05 [.tmp 4] [] Tryz.func95 rfl rfl rfl (by simp [Tryz.ntmps95]) ?_
 intro Q0 n0 r0
 simp only [Tryz.ntmps95,b0l,Nat.reduceAdd]
 have T:=Tys.mk (ai Ty.t3 (ai Ty.t4 (ai Ty.t39 (ai Ty.t41 Ty.t169))))
 have F:=Fc.mk True.intro
 refine yR [0,1] ⟨?_⟩;refine yRc [4] (b2b _ _ _) ⟨?_⟩;refine zr ⟨?_⟩
 exact b0a rfl rfl (.inl rfl)
theorem d2s (n:Int) (ss:List TS) (x0:Int) (x1:Int) (x2:Int):Con Tryz.prog 130 [.pv [.agg [.int .i64 n,.sl (ss.map (fun t:TS=>V.agg [V.int .i64 t.1,V.int .i64 t.2.1,V.int .i64 t.2.2]))]] 0 0,.agg [V.int .i64 x0,V.int .i64 x1,V.int .i64 x2]] [] (.bool (b6s n (x0,x1,x2))) []:=by
 refine b05 [.tmp 4] [] Tryz.func130 rfl rfl rfl (by simp [Tryz.ntmps130]) ?_
 intro Q0 n0 r0
 simp only [Tryz.ntmps130,b0l,Nat.reduceAdd]
 have T:=Tys.mk (ai Ty.t3 (ai Ty.t4 (ai Ty.t39 (ai Ty.t41 (ai Ty.t108 Ty.t169)))))
 have F:=Fc.mk True.intro
 refine yR [0,3] ⟨?_⟩;refine c7e [4] (c3n n ss x0) (c3n n ss x1) (b2b _ _ _) ⟨?_⟩;refine zr ⟨?_⟩
 exact b0a rfl (by simp [b6s]) (.inl rfl)
theorem c1m (x0:Int) (x1:Int) (x2:Int) (y0:Int) (y1:Int) (y2:Int):Con Tryz.prog 131 [.agg [V.int .i64 x0,V.int .i64 x1,V.int .i64 x2],.agg [V.int .i64 y0,V.int .i64 y1,V.int .i64 y2]] [] (.int .i64 (f5r (x0,x1,x2) (y0,y1,y2))) []:=by
 refine b05 [.tmp 4] [] Tryz.func131 rfl rfl rfl (by simp [Tryz.ntmps131]) ?_
 intro Q0 n0 r0
 simp only [Tryz.ntmps131,b0l,Nat.reduceAdd]
 have T:=Tys.mk (ai Ty.t3 (ai Ty.t75 Ty.t169))
 have F:=Fc.mk True.intro
 refine yR [2,3] ⟨?_⟩;refine b0c ?_;intro Q2 n2 e2 r2;refine b1p (by kernel_rfl) ?_;intro K3 q3 k3
 show b14 _ _ _ _ 13 (Array.replicate 13 false) _
 refine b0p q3 true 0 5 ?_;refine b1h q3 true 1 6 ?_;refine b0p q3 true 2 7 ?_;refine b1h q3 true 3 8 ?_;refine b0p q3 true 5 10 ?_;refine b1h q3 true 6 11 ?_;refine b0p q3 true 7 12 ?_;refine b1h q3 true 8 13 ?_;refine zoc 4 (c31 x0 y0) ⟨?_⟩;refine zoc 9 (c31 x1 y1) ⟨?_⟩;refine b12 10 ⟨?_⟩;refine zoc 11 (f0h [d88 x0 y0,d88 x1 y1] (by simp)) ⟨?_⟩;refine b0t 12 ⟨?_⟩;refine b0j (by kernel_rfl) ?_;refine k3 _ ?_;refine n2 _ _ (b0f [4] _) ?_;refine zq1 ⟨?_⟩
 exact b0a rfl rfl (.inl rfl)
theorem c23 (x0:Int) (x1:Int) (x2:Int) (n:Int):Con Tryz.prog 217 [.agg [V.int .i64 x0,V.int .i64 x1,V.int .i64 x2],.int .i64 n] [] (.bool (d89 n (x0,x1,x2))) []:=by
 refine b05 [.tmp 4] [] Tryz.func217 rfl rfl rfl (by simp [Tryz.ntmps217]) ?_
 intro Q0 n0 r0
 simp only [Tryz.ntmps217,b0l,Nat.reduceAdd]
 have T:=Tys.mk (ai Ty.t3 (ai Ty.t4 Ty.t169))
 have F:=Fc.mk True.intro
 refine yR [1,2] ⟨?_⟩;refine c7e [4] (b2o _ _ _) (b2o _ _ _) (b2o _ _ _) ⟨?_⟩;refine zr ⟨?_⟩
 exact b0a rfl (by simp [d89,c0p]) (.inl rfl)
theorem c48 (x0:Int) (x1:Int) (x2:Int) (y0:Int) (y1:Int) (y2:Int):Con Tryz.prog 218 [.agg [V.int .i64 x0,V.int .i64 x1,V.int .i64 x2],.agg [V.int .i64 y0,V.int .i64 y1,V.int .i64 y2]] [] (.bool (c16 (x0,x1,x2) (y0,y1,y2))) []:=by
 refine b05 [.tmp 4] [] Tryz.func218 rfl rfl rfl (by simp [Tryz.ntmps218]) ?_
 intro Q0 n0 r0
 simp only [Tryz.ntmps218,b0l,Nat.reduceAdd]
 have T:=Tys.mk (ai Ty.t3 Ty.t169)
 have F:=Fc.mk True.intro
 refine yR [2,3] ⟨?_⟩;refine yR [4] ⟨?_⟩;refine zr ⟨?_⟩
 exact b0a rfl (by simp [c16]) (.inl rfl)
set_option maxRecDepth 8000 in
theorem b8p (n:Int) (ss:List TS) (hs:ss.length≤1048576):Con Tryz.prog 64 [.pv [.agg [.int .i64 n,.sl (ss.map (fun t:TS=>V.agg [V.int .i64 t.1,V.int .i64 t.2.1,V.int .i64 t.2.2]))]] 0 0] [] (.bool (b8o n ss)) []:=by
 refine b05 [.tmp 2] [] Tryz.func64 rfl rfl rfl (by simp [Tryz.ntmps64]) ?_
 intro Q0 n0 r0
 simp only [Tryz.ntmps64,b0l,Nat.reduceAdd]
 have T:=Tys.mk (ai Ty.t3 (ai Ty.t4 (ai Ty.t39 (ai Ty.t41 (ai Ty.t108 Ty.t169)))))
 have F:=Fc.mk True.intro
 refine yR [0] ⟨?_⟩;refine b0c ?_;intros;refine yRc [0,18] (b2b _ _ _) ⟨?_⟩;refine b0d _ rfl ?_ ?_
 ·intro hc0
  have hh:c30 n ss=false:=by cases hq:c30 n ss with | false=>rfl | true=>(exfalso;simp [c30] at hq;(try simp at hc0);omega)
  refine yR [2] ⟨?_⟩;refine zr ⟨?_⟩
  exact b0a rfl (by rw [b8o,hh];rfl) (.inl rfl)
 ·intro hc0
  have hh:c30 n ss=true:=by simp only [c30,Bool.and_eq_true,Bool.not_eq_true',decide_eq_true_eq,decide_eq_false_iff_not];(try simp at hc0);omega
  refine zn [0] ⟨?_⟩;refine b0c ?_;intros;refine yR [0,22,23,24] ⟨?_⟩;refine b0g ?_;intros;refine b08 (fun i=>⟨[(0,.pv [.agg [.int .i64 n,.sl (ss.map (fun t:TS=>V.agg [V.int .i64 t.1,V.int .i64 t.2.1,V.int .i64 t.2.2]))]] 0 0),(22,.sl (ss.map (fun t:TS=>V.agg [V.int .i64 t.1,V.int .i64 t.2.1,V.int .i64 t.2.2]))),(23,.int .i64 ss.length),(24,.int .i64 (Nat.cast i))],[],false,51,0⟩) (fun i=>i≤ss.length∧b1x (b6s n) c16 ss i=b1x (b6s n) c16 ss 0) (fun i=>ss.length - i) 0 ?_ ?_ ?_
  ·refine b0b [0,22,23,24] [] ⟨?_⟩
   rfl
  ·exact ⟨Nat.zero_le _,rfl⟩
  ·rintro i hok9 Q9 n9 e9 r9
   obtain ⟨hi1,hR⟩:=hok9
   refine yR [0,22,23,24,25] ⟨?_⟩;refine b0c ?_;intros;refine b0d _ rfl ?_ ?_
   ·intro hc1
    have hlt:i < ss.length:=by omega
    obtain ⟨⟨x0,x1,x2⟩,hx⟩:∃x:TS,ss[i]? =some x:=⟨ss[i]'(by omega),List.getElem?_eq_getElem (by omega)⟩
    rcases Nat.eq_zero_or_pos i with h0 | h0
    ·skip
     have y0:Int:=0
     have y1:Int:=0
     have y2:Int:=0
     have hi0:¬((0:Int) < (i:Int)):=by omega
     have hst:b1x (b6s n) c16 ss i=(b6s n (x0,x1,x2) && b1x (b6s n) c16 ss (i+1)):=by subst h0;exact b60 hx
     have hts:=c6d n (x0,x1,x2)
     simp only [] at hts
     refine zn [0,22,23,24] ⟨?_⟩;refine b0c ?_;intros;refine b0g ?_;intros
     have F:=Fc.mk (ai (gdm hx) (ai hi0 (ai @decide_false (ai @Bool.and_false hts))))
     refine yR [0,3,4,22,23,24] ⟨?_⟩;refine b0c ?_;intro Q16 n16 e16 r16;refine b1p (by kernel_rfl) ?_;intro K17 q17 k17
     show b14 _ _ _ _ 21 (Array.replicate 21 false) _
     refine b0o q17 true 0 29 ?_;refine b1h q17 true 1 30 ?_;refine zoc 2 (d2s n ss x0 x1 x2) ⟨?_⟩;refine b5q q17 true 3 32 ?_;refine b0o q17 true 4 33 ?_;refine b0y q17 true 5 34 ?_;refine b0z q17 true 6 35 ?_;refine b0y q17 true 7 36 ?_;refine b0y q17 true 8 37 ?_;refine b6c q17 true 9 38 ?_;refine b0e q17 true 10 39 ?_;refine b0q q17 true 11 40 ?_;refine b0y q17 true 12 41 ?_;refine b2e q17 true 13 42 ?_;refine b0x q17 true 14 43 ?_;refine b0q q17 true 15 44 ?_;refine b0q q17 true 16 45 ?_
     first
     |refine d60 17 (c1m y0 y1 y2 x0 x1 x2) ⟨?_⟩
     |(refine b2u 17 46 7 true rfl rfl (show 46 < 51 by decide) (by kernel_rfl) rfl ?_ ?_;(focus first | rfl | (simp only [zV,b1o,Nat.reduceEqDiff,reduceIte];done));simp only [zW,b0m,Nat.reduceEqDiff,reduceIte])
     refine b0z q17 true 18 47 ?_;refine b38 q17 true 19 48 ?_;refine b1w q17 true 20 49 ?_;refine b0j (by kernel_rfl) ?_;refine k17 _ ?_;refine n16 _ _ (b0f [0,22,23,24,49] _) ?_;refine zk ⟨?_⟩;refine b0d _ rfl ?_ ?_
     ·intro hc2
      refine yR [2] ⟨?_⟩;refine zr ⟨?_⟩
      exact b0a rfl (by rw [b8o,hh,←hR,hst];(try simp at hc2);first | (simp [hc2];done) | (rcases hc2 with h | h<;>simp [h];done) | (simp_all;done)) (.inl rfl)
     ·intro hc2
      refine zn [0,22,23,24] ⟨?_⟩;refine yV ⟨?_⟩;refine n9 _ (i+1) ?_ ?_ ?_
      ·refine b0b [0,22,23,24] [] ⟨?_⟩
       rfl
      ·exact ⟨by omega,by rw [←hR,hst];(try simp at hc2);first | (simp [hc2];done) | (simp_all;done)⟩
      ·show _ < _;omega
    ·skip
     obtain ⟨⟨y0,y1,y2⟩,hy⟩:∃x:TS,ss[i - 1]? =some x:=⟨ss[i - 1]'(by omega),List.getElem?_eq_getElem (by omega)⟩
     have hi0:(0:Int) < i:=by omega
     have hk:((i:Int) - 1).toNat=i - 1:=by omega
     have hst:=b66 (ok:=b6s n) (bf:=c16) h0 hy hx
     have hcb:=d6y (y0,y1,y2) (x0,x1,x2)
     have hts:=c6d n (x0,x1,x2)
     simp only [] at hts
     refine zn [0,22,23,24] ⟨?_⟩;refine b0c ?_;intros;refine b0g ?_;intros
     have F:=Fc.mk (ai (gdm hx) (ai hi0 (ai hk (ai (gdm hy) (ai @decide_true (ai @Bool.and_true (ai hcb hts)))))))
     refine yR [0,3,4,22,23,24] ⟨?_⟩;refine b0c ?_;intro Q24 n24 e24 r24;refine b1p (by kernel_rfl) ?_;intro K25 q25 k25
     show b14 _ _ _ _ 21 (Array.replicate 21 false) _
     refine b0o q25 true 0 29 ?_;refine b1h q25 true 1 30 ?_;refine zoc 2 (d2s n ss x0 x1 x2) ⟨?_⟩;refine b5q q25 true 3 32 ?_;refine b0o q25 true 4 33 ?_;refine b0y q25 true 5 34 ?_;refine b0z q25 true 6 35 ?_;refine b0y q25 true 7 36 ?_;refine b0y q25 true 8 37 ?_;refine b6c q25 true 9 38 ?_;refine b0e q25 true 10 39 ?_;refine b0q q25 true 11 40 ?_;refine b0y q25 true 12 41 ?_;refine b2e q25 true 13 42 ?_;refine b0x q25 true 14 43 ?_;refine b0q q25 true 15 44 ?_;refine b0q q25 true 16 45 ?_
     first
     |refine d60 17 (c1m y0 y1 y2 x0 x1 x2) ⟨?_⟩
     |(refine b2u 17 46 7 true rfl rfl (show 46 < 51 by decide) (by kernel_rfl) rfl ?_ ?_;(focus first | rfl | (simp only [zV,b1o,Nat.reduceEqDiff,reduceIte];done));simp only [zW,b0m,Nat.reduceEqDiff,reduceIte])
     refine b0z q25 true 18 47 ?_;refine b38 q25 true 19 48 ?_;refine b1w q25 true 20 49 ?_;refine b0j (by kernel_rfl) ?_;refine k25 _ ?_;refine n24 _ _ (b0f [0,22,23,24,49] _) ?_;refine zk ⟨?_⟩;refine b0d _ rfl ?_ ?_
     ·intro hc2
      refine yR [2] ⟨?_⟩;refine zr ⟨?_⟩
      exact b0a rfl (by rw [b8o,hh,←hR,hst];(try simp at hc2);first | (simp [hc2];done) | (rcases hc2 with h | h<;>simp [h];done) | (simp_all;done)) (.inl rfl)
     ·intro hc2
      refine zn [0,22,23,24] ⟨?_⟩;refine yV ⟨?_⟩;refine n9 _ (i+1) ?_ ?_ ?_
      ·refine b0b [0,22,23,24] [] ⟨?_⟩
       rfl
      ·exact ⟨by omega,by rw [←hR,hst];(try simp at hc2);first | (simp [hc2];done) | (simp_all;done)⟩
      ·show _ < _;omega
   ·intro hc1
    refine zn [] ⟨?_⟩;refine yR [2] ⟨?_⟩;refine zr ⟨?_⟩
    exact b0a rfl (by rw [b8o,hh,←hR,b82 (by omega)];rfl) (.inl rfl)
set_option maxRecDepth 8000 in
theorem c87 (n:Int) (ss:List TS) (hs:ss.length≤1048576):Con Tryz.prog 163 [.agg [.int .i64 n,.sl (ss.map (fun t:TS=>V.agg [V.int .i64 t.1,V.int .i64 t.2.1,V.int .i64 t.2.2]))]] [] (.bool (b8o n ss)) []:=by
 refine b05 [.tmp 2] [] Tryz.func163 rfl rfl rfl (by simp [Tryz.ntmps163]) ?_
 intro Q0 n0 r0
 simp only [Tryz.ntmps163,b0l,Nat.reduceAdd]
 have T:=Tys.mk (ai Ty.t3 (ai Ty.t4 (ai Ty.t39 (ai Ty.t41 Ty.t169))))
 have F:=Fc.mk True.intro
 refine yR [1] ⟨?_⟩;refine b0c ?_;intros;refine yRc [1,14] (b2o _ _ _) ⟨?_⟩;refine b0d _ rfl ?_ ?_
 ·intro hc0
  have hh:c30 n ss=false:=by cases hq:c30 n ss with | false=>rfl | true=>(exfalso;simp [c30] at hq;(try simp at hc0);omega)
  refine yR [2] ⟨?_⟩;refine zr ⟨?_⟩
  exact b0a rfl (by rw [b8o,hh];rfl) (.inl rfl)
 ·intro hc0
  have hh:c30 n ss=true:=by simp only [c30,Bool.and_eq_true,Bool.not_eq_true',decide_eq_true_eq,decide_eq_false_iff_not];(try simp at hc0);omega
  refine zn [1] ⟨?_⟩;refine b0c ?_;intros;refine yR [1,16,17,18] ⟨?_⟩;refine b0g ?_;intros;refine b08 (fun i=>⟨[(1,.ptr 0 0 0),(16,.sl (ss.map (fun t:TS=>V.agg [V.int .i64 t.1,V.int .i64 t.2.1,V.int .i64 t.2.2]))),(17,.int .i64 ss.length),(18,.int .i64 (Nat.cast i))],[.box (.agg [.int .i64 n,.sl (ss.map (fun t:TS=>V.agg [V.int .i64 t.1,V.int .i64 t.2.1,V.int .i64 t.2.2]))]) .shal],false,51,0⟩) (fun i=>i≤ss.length∧b1x (b6s n) c16 ss i=b1x (b6s n) c16 ss 0) (fun i=>ss.length - i) 0 ?_ ?_ ?_
  ·refine b0b [1,16,17,18] [0] ⟨?_⟩
   rfl
  ·exact ⟨Nat.zero_le _,rfl⟩
  ·rintro i hok9 Q9 n9 e9 r9
   obtain ⟨hi1,hR⟩:=hok9
   refine yR [1,16,17,18,19] ⟨?_⟩;refine b0c ?_;intros;refine b0d _ rfl ?_ ?_
   ·intro hc1
    have hlt:i < ss.length:=by omega
    obtain ⟨⟨x0,x1,x2⟩,hx⟩:∃x:TS,ss[i]? =some x:=⟨ss[i]'(by omega),List.getElem?_eq_getElem (by omega)⟩
    rcases Nat.eq_zero_or_pos i with h0 | h0
    ·skip
     have y0:Int:=0
     have y1:Int:=0
     have y2:Int:=0
     have hi0:¬((0:Int) < (i:Int)):=by omega
     have hst:b1x (b6s n) c16 ss i=(b6s n (x0,x1,x2) && b1x (b6s n) c16 ss (i+1)):=by subst h0;exact b60 hx
     have hts:=c6d n (x0,x1,x2)
     simp only [] at hts
     refine zn [1,16,17,18] ⟨?_⟩;refine b0c ?_;intros;refine b0g ?_;intros
     have F:=Fc.mk (ai (gdm hx) (ai hi0 (ai @decide_false (ai @Bool.and_false hts))))
     refine yR [1,3,4,16,17,18] ⟨?_⟩;refine b0c ?_;intro Q16 n16 e16 r16;refine b1p (by kernel_rfl) ?_;intro K17 q17 k17
     show b14 _ _ _ _ 27 (Array.replicate 27 false) _
     refine b1h q17 true 0 23 ?_;refine b0p q17 true 1 24 ?_;refine b1h q17 true 2 25 ?_;refine zoc 3 (c23 x0 x1 x2 n) ⟨?_⟩;refine b5q q17 true 4 27 ?_;refine b0o q17 true 5 28 ?_;refine b0e q17 true 6 29 ?_;refine b0q q17 true 7 30 ?_;refine b0e q17 true 8 31 ?_;refine b0q q17 true 9 32 ?_;refine b0z q17 true 10 33 ?_;refine b1w q17 true 11 34 ?_;refine b0o q17 true 12 35 ?_;refine b0y q17 true 13 36 ?_;refine b0z q17 true 14 37 ?_;refine b0y q17 true 15 38 ?_;refine b0e q17 true 16 39 ?_;refine b0q q17 true 17 40 ?_;refine b0y q17 true 18 41 ?_;refine b2e q17 true 19 42 ?_;refine b0x q17 true 20 43 ?_;refine b0q q17 true 21 44 ?_;refine b0q q17 true 22 45 ?_
     first
     |refine d60 23 (c48 y0 y1 y2 x0 x1 x2) ⟨?_⟩
     |(refine b2u 23 46 15 true rfl rfl (show 46 < 51 by decide) (by kernel_rfl) rfl ?_ ?_;(focus first | rfl | (simp only [zV,b1o,Nat.reduceEqDiff,reduceIte];done));simp only [zW,b0m,Nat.reduceEqDiff,reduceIte])
     refine c0n q17 true 24 47 ?_;refine b38 q17 true 25 48 ?_;refine b1w q17 true 26 49 ?_;refine b0j (by kernel_rfl) ?_;refine k17 _ ?_;refine n16 _ _ (b0f [1,16,17,18,49] _) ?_;refine zk ⟨?_⟩;refine b0d _ rfl ?_ ?_
     ·intro hc2
      refine yR [2] ⟨?_⟩;refine zr ⟨?_⟩
      exact b0a rfl (by rw [b8o,hh,←hR,hst];(try simp at hc2);first | (simp [hc2];done) | (rcases hc2 with h | h<;>simp [h];done) | (simp_all;done)) (.inl rfl)
     ·intro hc2
      refine zn [1,16,17,18] ⟨?_⟩;refine yV ⟨?_⟩;refine n9 _ (i+1) ?_ ?_ ?_
      ·refine b0b [1,16,17,18] [0] ⟨?_⟩
       rfl
      ·exact ⟨by omega,by rw [←hR,hst];(try simp at hc2);first | (simp [hc2];done) | (simp_all;done)⟩
      ·show _ < _;omega
    ·skip
     obtain ⟨⟨y0,y1,y2⟩,hy⟩:∃x:TS,ss[i - 1]? =some x:=⟨ss[i - 1]'(by omega),List.getElem?_eq_getElem (by omega)⟩
     have hi0:(0:Int) < i:=by omega
     have hk:((i:Int) - 1).toNat=i - 1:=by omega
     have hst:=b66 (ok:=b6s n) (bf:=c16) h0 hy hx
     have hcb:=d6y (y0,y1,y2) (x0,x1,x2)
     have hts:=c6d n (x0,x1,x2)
     simp only [] at hts
     refine zn [1,16,17,18] ⟨?_⟩;refine b0c ?_;intros;refine b0g ?_;intros
     have F:=Fc.mk (ai (gdm hx) (ai hi0 (ai hk (ai (gdm hy) (ai @decide_true (ai @Bool.and_true (ai hcb hts)))))))
     refine yR [1,3,4,16,17,18] ⟨?_⟩;refine b0c ?_;intro Q24 n24 e24 r24;refine b1p (by kernel_rfl) ?_;intro K25 q25 k25
     show b14 _ _ _ _ 27 (Array.replicate 27 false) _
     refine b1h q25 true 0 23 ?_;refine b0p q25 true 1 24 ?_;refine b1h q25 true 2 25 ?_;refine zoc 3 (c23 x0 x1 x2 n) ⟨?_⟩;refine b5q q25 true 4 27 ?_;refine b0o q25 true 5 28 ?_;refine b0e q25 true 6 29 ?_;refine b0q q25 true 7 30 ?_;refine b0e q25 true 8 31 ?_;refine b0q q25 true 9 32 ?_;refine b0z q25 true 10 33 ?_;refine b1w q25 true 11 34 ?_;refine b0o q25 true 12 35 ?_;refine b0y q25 true 13 36 ?_;refine b0z q25 true 14 37 ?_;refine b0y q25 true 15 38 ?_;refine b0e q25 true 16 39 ?_;refine b0q q25 true 17 40 ?_;refine b0y q25 true 18 41 ?_;refine b2e q25 true 19 42 ?_;refine b0x q25 true 20 43 ?_;refine b0q q25 true 21 44 ?_;refine b0q q25 true 22 45 ?_
     first
     |refine d60 23 (c48 y0 y1 y2 x0 x1 x2) ⟨?_⟩
     |(refine b2u 23 46 15 true rfl rfl (show 46 < 51 by decide) (by kernel_rfl) rfl ?_ ?_;(focus first | rfl | (simp only [zV,b1o,Nat.reduceEqDiff,reduceIte];done));simp only [zW,b0m,Nat.reduceEqDiff,reduceIte])
     refine c0n q25 true 24 47 ?_;refine b38 q25 true 25 48 ?_;refine b1w q25 true 26 49 ?_;refine b0j (by kernel_rfl) ?_;refine k25 _ ?_;refine n24 _ _ (b0f [1,16,17,18,49] _) ?_;refine zk ⟨?_⟩;refine b0d _ rfl ?_ ?_
     ·intro hc2
      refine yR [2] ⟨?_⟩;refine zr ⟨?_⟩
      exact b0a rfl (by rw [b8o,hh,←hR,hst];(try simp at hc2);first | (simp [hc2];done) | (rcases hc2 with h | h<;>simp [h];done) | (simp_all;done)) (.inl rfl)
     ·intro hc2
      refine zn [1,16,17,18] ⟨?_⟩;refine yV ⟨?_⟩;refine n9 _ (i+1) ?_ ?_ ?_
      ·refine b0b [1,16,17,18] [0] ⟨?_⟩
       rfl
      ·exact ⟨by omega,by rw [←hR,hst];(try simp at hc2);first | (simp [hc2];done) | (simp_all;done)⟩
      ·show _ < _;omega
   ·intro hc1
    refine zn [] ⟨?_⟩;refine yR [2] ⟨?_⟩;refine zr ⟨?_⟩
    exact b0a rfl (by rw [b8o,hh,←hR,b82 (by omega)];rfl) (.inl rfl)
theorem d7y (n:Int) (ss:List TS) (x:Int) (hs:ss.length≤1048576):Con Tryz.prog 90 [.agg [.int .i64 n,.sl (ss.map (fun t:TS=>V.agg [V.int .i64 t.1,V.int .i64 t.2.1,V.int .i64 t.2.2]))],.int .i64 x] [] (.bool (b8o n ss && c0p n x)) []:=by
 refine b05 [.tmp 4] [] Tryz.func90 rfl rfl rfl (by simp [Tryz.ntmps90]) ?_
 intro Q0 n0 r0
 simp only [Tryz.ntmps90,b0l,Nat.reduceAdd]
 have T:=Tys.mk (ai Ty.t3 (ai Ty.t4 (ai Ty.t39 (ai Ty.t41 Ty.t169))))
 have F:=Fc.mk True.intro
 refine yR [1,2] ⟨?_⟩;refine f4g [4] (c87 n ss hs) (b2o _ _ _) ⟨?_⟩;refine zr ⟨?_⟩
 exact b0a rfl (by simp [c0p]) (.inl rfl)
theorem f56 {n:Int} (h0:0≤n) (h:n < 18446744073709551616):IntKind.u64.wrap n=n:=by
  simp [IntKind.wrap,IntKind.signed,IntKind.bits]
  omega
theorem d5y {n:Int} (h0:0≤n) (h:n < 4294967296):IntKind.u64.wrap ((BitVec.ofInt IntKind.u64.bits n &&& BitVec.ofInt IntKind.u64.bits 4294967295).toNat:Int)=n:=by
  obtain ⟨m,rfl⟩:=Int.eq_ofNat_of_zero_le h0
  have e:(BitVec.ofInt IntKind.u64.bits (m:Int) &&& BitVec.ofInt IntKind.u64.bits 4294967295).toNat=m:=by
    show (BitVec.ofInt 64 (m:Int) &&& BitVec.ofInt 64 4294967295).toNat=m
    rw [BitVec.toNat_and]
    have h1:(BitVec.ofInt 64 (m:Int)).toNat=m:=by simp [BitVec.toNat_ofInt];omega
    have h2:(BitVec.ofInt 64 4294967295).toNat=2 ^ 32 - 1:=by decide
    rw [h1,h2,Nat.and_two_pow_sub_one_eq_mod]
    omega
  rw [e,f56 (by omega) (by omega)]
theorem f5o {n:Int} (h0:0≤n) (h:n < 4294967296):n.fdiv (2 ^ min (Int.toNat 32) IntKind.u64.bits)=0:=by
  have:min (Int.toNat 32) IntKind.u64.bits=32:=by decide
  rw [this,Int.fdiv_eq_ediv_of_nonneg _ (by decide)]
  omega
theorem f1z (n:Int) (h0:0≤n) (hn:n≤1048576):Con Tryz.prog 273 [.int .u64 1,.int .u64 n] [] (.tup [.int .u64 0,.int .u64 n]) []:=by
 have a1:=d5y (n:=1) (by omega) (by omega)
 have a0:=d5y (n:=0) (by omega) (by omega)
 have an:=d5y (n:=n) (by omega) (by omega)
 have s1:=f5o (n:=1) (by omega) (by omega)
 have s0:=f5o (n:=0) (by omega) (by omega)
 have sn:=f5o (n:=n) (by omega) (by omega)
 have m1:IntKind.u64.wrap (1 * n)=n:=by rw [Int.one_mul];exact f56 (by omega) (by omega)
 have m2:IntKind.u64.wrap (0 * n)=0:=by rw [Int.zero_mul];rfl
 have m3:IntKind.u64.wrap (0+0)=0:=rfl
 have m4:IntKind.u64.wrap (1 * 0)=0:=rfl
 have m5:IntKind.u64.wrap (0 * 0)=0:=rfl
 refine b05 [.tmp 4,.tmp 5] [] Tryz.func273 rfl rfl rfl (by simp [Tryz.ntmps273]) ?_
 intro Q0 n0 r0
 simp only [Tryz.ntmps273,b0l,Nat.reduceAdd]
 have T:=Tys.mk (ai Ty.t146 Ty.t231)
 have F:=Fc.mk True.intro
 have F:=Fc.mk (ai a1 (ai a0 (ai an (ai s1 (ai s0 (ai sn (ai m1 (ai m2 (ai m3 (ai m4 m5))))))))))
 refine yR [0,1] ⟨?_⟩;refine yR [0,1,6] ⟨?_⟩;refine yR [0,1,6,7] ⟨?_⟩;refine yR [0,1,6,7,8] ⟨?_⟩;refine yR [0,1,6,7,8,9] ⟨?_⟩;refine yR [0,1,6,7,8,9,10] ⟨?_⟩;refine yR [0,1,6,7,9,11] ⟨?_⟩;refine yR [0,1,6,7,9,11,12] ⟨?_⟩;refine yR [0,1,6,7,9,12,13] ⟨?_⟩;refine yR [0,1,7,9,12,13] ⟨?_⟩;refine yR [0,1,4] ⟨?_⟩;refine yR [4,5] ⟨?_⟩;refine zr ⟨?_⟩
 exact b0a rfl rfl (.inl rfl)
theorem f4n (n:Int) (h0:0≤n) (hn:n≤1048576):Con Tryz.prog 267 [.int .u64 1,.int .u64 n] [] (.tup [.int .u64 0,.int .u64 n]) []:=by
 refine b05 [.tmp 4,.tmp 5] [] Tryz.func267 rfl rfl rfl (by simp [Tryz.ntmps267]) ?_
 intro Q0 n0 r0
 simp only [Tryz.ntmps267,b0l,Nat.reduceAdd]
 have T:=Tys.mk (ai Ty.t146 Ty.t231)
 have F:=Fc.mk True.intro
 refine yR [0,1] ⟨?_⟩;refine b0c ?_;intros;refine b1z _ rfl ?_ ?_
 ·intro hc0
  exfalso;cases hc0
 ·intro hc0
  try simp only [zC,reduceCtorEq] at hc0
  refine zn [0,1] ⟨?_⟩;refine yRc [8,9] (f1z n h0 hn) ⟨?_⟩;refine yR [4,5] ⟨?_⟩;refine zr ⟨?_⟩
  exact b0a rfl rfl (.inl rfl)
def c0s (c:Int) (N m:Nat):List V:=List.replicate m (V.int .i64 c)++List.replicate (N - m) (V.int .i64 0)
theorem c8j {c:Int} {N m:Nat} (h:m≤N):(c0s c N m).length=N:=by simp [c0s];omega
theorem b4d {c:Int} {N m:Nat}:∀x∈c0s c N m,x.cells.length=1:=by
  intro x hx
  rw [c0s,List.mem_append] at hx
  rcases hx with h | h<;>rw [List.eq_of_mem_replicate h]<;>rfl
theorem d7w {c:Int} {N m k:Nat} (h:m≤N) (hk:k=min m (N - m)):(c0s c N m).take m++((c0s c N m).take m).take k++(c0s c N m).drop (m+k)=c0s c N (m+k):=by
  have h1:(c0s c N m).take m=List.replicate m (V.int .i64 c):=by rw [c0s,List.take_left' (by simp)]
  have h2:(c0s c N m).drop (m+k)=List.replicate (N - (m+k)) (V.int .i64 0):=by
    rw [c0s,List.drop_append,List.drop_of_length_le (by simp),List.length_replicate,List.nil_append,List.drop_replicate]
    congr 1;omega
  rw [h1,h2,List.take_replicate,List.replicate_append_replicate,c0s]
  congr 3;omega
theorem d73 (c:Int) (N:Nat) (h1:1≤N) (hN:N≤1048576):Con Tryz.prog 258 [.sl [.int .i64 c],.int .i64 N] [] (.ref 0) [.arr ((List.replicate N c).map (V.int .i64)) .flat]:=by
 have u1:IntKind.u64.wrap 1=1:=rfl
 have un:IntKind.u64.wrap (N:Int)=N:=f56 (by omega) (by omega)
 have wn:IntKind.i64.wrap (N:Int)=N:=by simp (disch:=omega) only [c8n]
 refine b05 [.tmp 4] [] Tryz.func258 rfl rfl rfl (by simp [Tryz.ntmps258]) ?_
 intro Q0 n0 r0
 simp only [Tryz.ntmps258,b0l,Nat.reduceAdd]
 have T:=Tys.mk (ai Ty.t3 (ai Ty.t75 Ty.t231))
 have F:=Fc.mk True.intro
 have F:=Fc.mk (ai u1 (ai un wn))
 refine yR [0,1] ⟨?_⟩;refine b0c ?_;intros;refine yR [0,1,10] ⟨?_⟩;refine b1z _ rfl ?_ ?_
 ·intro hc0
  exfalso;simp at hc0;omega
 ·intro hc0
  try simp only [zC,reduceCtorEq] at hc0
  refine zn [0,1] ⟨?_⟩;refine yRc [0,5,6] (f4n (N:Int) (by omega) (by omega)) ⟨?_⟩;refine b0c ?_;intros;refine yR [0,6,26] ⟨?_⟩;refine b1z _ rfl ?_ ?_
  ·intro hc1
   exfalso;simp at hc1;omega
  ·intro hc1
   try simp only [zC,reduceCtorEq] at hc1
   refine zn [0,6] ⟨?_⟩;refine yR [0,7] ⟨?_⟩;refine yR [7,8] ⟨?_⟩;refine b0c ?_;intros;refine b0g ?_;intros;refine b08 (fun m=>⟨[(7,.ref 0),(8,.int .i64 (Nat.cast m))],[.arr (c0s c N m) .flat],false,48,0⟩) (fun m=>1≤m∧m≤N) (fun m=>N - m) 1 ?_ ?_ ?_
   ·refine b0b [7,8] [1] ⟨?_⟩
    simp only [List.length_replicate,show min 1 N=1 by omega];rw [show List.take 1 [V.int .i64 c]++List.drop 1 (List.replicate N (V.int .i64 0))=c0s c N 1 by rw [c0s,List.drop_replicate];rfl]
   ·exact ⟨Nat.le_refl _,h1⟩
   ·rintro m hok13 Q13 n13 e13 r13
    obtain ⟨hm1,hm2⟩:=hok13
    refine b0c ?_;intros;refine yR [7,8,37] ⟨?_⟩;refine b0d _ rfl ?_ ?_
    ·intro hc2
     have hrl:=c8j (c:=c) (N:=N) hm2
     have hlt:m < N:=by rw [hrl] at hc2;omega
     refine zn [7,8] ⟨?_⟩;refine b0g ?_;intro Q17 n17 x17 e17 r17;refine b1p (by kernel_rfl) ?_;intro K18 q18 k18
     show b14 _ _ _ _ 10 (Array.replicate 10 false) _
     have F:=Fc.mk (ai u1 (ai un (ai wn hrl)))
     refine b0o q18 false 0 38 ?_;refine b0o q18 true 1 39 ?_;refine b0o q18 true 2 40 ?_;refine b13 q18 true 3 41 rfl rfl (by kernel_rfl) (by kernel_rfl) ?_
     apply Exists.intro;apply And.intro
     ·intro t hn gx ho K' k'
      have g39:=gx 39 (by decide)
      have g40:=gx 40 (by decide)
      simp only [c85,b0i,b0n,b0m,Nat.reduceEqDiff,reduceIte] at g39 g40
      first | have row0:=c03 (i:=0) (ho rfl) rfl | have row0:t.n+0=t.n:=rfl
      first | have row1:=c03 (i:=1) (ho rfl) rfl | have row1:t.n+0=t.n:=rfl
      first | have row2:=c03 (i:=2) (ho rfl) rfl | have row2:t.n+0=t.n:=rfl
      have hdl:41 < t.n:=by rw [hn];show 41 < 48;decide
      clear hn
      refine .inl ?_
      simp only [zE,zL,zN,hdl,b03,b0w,Nat.reduceEqDiff,reduceIte,implies_true,forall_const,reduceCtorEq,V.ofValue,V.ofScalar,V.un,V.gd,b1k,aop,g39,g40,row0,row1,row2,List.set_cons_zero,List.set_cons_succ,b9x,forall_eq',b6v,c0y,Option.map_none,Option.isNone_none,b1j,Blk.row,TypeDesc.slice.injEq,List.forall_mem_map,List.length_map,Go.Vm.V.cells,Int.toNat_natCast,Int.reduceToNat,←List.map_take,←List.map_drop,List.take_length,Nat.reduceAdd,Nat.reduceLeDiff,Nat.reduceLT,Nat.reduceMul,Tryz.underlying3,Ty.c3,Ty.a3,Tryz.underlying75,Ty.c75,Ty.a75,u1,un,wn,hrl]
      repeat (refine ai (by first | omega | exact b4d | exact ⟨by omega,b4d,fun y hy=>b4d y (List.mem_of_mem_take hy)⟩ | (intros;omega) | (intros;simp_all;done) | (intros;simp_all;omega)) ?_)
      exact k'
     simp only [b0m]
     refine b0o q18 true 4 42 ?_;refine b0o q18 true 5 43 ?_;refine b13 q18 true 6 44 rfl rfl (by kernel_rfl) (by kernel_rfl) ?_
     apply Exists.intro;apply And.intro
     ·intro t hn gx ho K' k'
      have g42:=gx 42 (by decide)
      have g43:=gx 43 (by decide)
      simp only [c85,b0i,b0n,b0m,Nat.reduceEqDiff,reduceIte] at g42 g43
      first | have row0:=c03 (i:=0) (ho rfl) rfl | have row0:t.n+0=t.n:=rfl
      first | have row1:=c03 (i:=1) (ho rfl) rfl | have row1:t.n+0=t.n:=rfl
      first | have row2:=c03 (i:=2) (ho rfl) rfl | have row2:t.n+0=t.n:=rfl
      have hdl:44 < t.n:=by rw [hn];show 44 < 48;decide
      clear hn
      refine .inl ?_
      simp only [zE,zL,zN,hdl,b03,b0w,Nat.reduceEqDiff,reduceIte,implies_true,forall_const,reduceCtorEq,V.ofValue,V.ofScalar,V.un,V.gd,b1k,aop,g42,g43,row0,row1,row2,List.set_cons_zero,List.set_cons_succ,b9x,forall_eq',b6v,c0y,Option.map_none,Option.isNone_none,b1j,Blk.row,TypeDesc.slice.injEq,List.forall_mem_map,List.length_map,Go.Vm.V.cells,Int.toNat_natCast,Int.reduceToNat,←List.map_take,←List.map_drop,List.take_length,Nat.reduceAdd,Nat.reduceLeDiff,Nat.reduceLT,Nat.reduceMul,Tryz.underlying3,Ty.c3,Ty.a3,Tryz.underlying75,Ty.c75,Ty.a75,u1,un,wn,hrl]
      repeat (refine ai (by first | omega | exact b4d | exact ⟨by omega,b4d,fun y hy=>b4d y (List.mem_of_mem_take hy)⟩ | (intros;omega) | (intros;simp_all;done) | (intros;simp_all;omega)) ?_)
      exact k'
     simp only [b0m]
     refine b4r 7 rfl (by kernel_rfl) ?_;intro K k
     simp only [zE,zL,zO,zN,b03,b0w,b0m,Nat.reduceEqDiff,reduceIte,Nat.reduceLT,implies_true,forall_const,reduceCtorEq,V.ofValue,V.ofScalar,V.un,V.gd,b1k,aop,c7q,c9j,c5r,b1j,Blk.row,c4o,c3t,c9a,c9q,c8i,List.set_cons_zero,List.set_cons_succ,List.forall_mem_map,List.length_map,Go.Vm.V.cells,V.noSl,List.size_toArray,List.getD_eq_getElem?_getD,Array.getD_eq_getD_getElem?,Option.getD_some,TypeDesc.slice.injEq,Nat.reduceAdd,Nat.reduceLeDiff,Nat.reduceMul,Tryz.underlying3,Ty.c3,Ty.a3,Ty.b3,Ty.s3,Tryz.underlying75,Ty.c75,Ty.a75,Ty.b75,Ty.s75,u1,un,wn,hrl]
     repeat (refine ai (by first | omega | exact b4d | exact ⟨by omega,b4d,fun y hy=>b4d y (List.mem_of_mem_take hy)⟩ | (intros;omega) | (intros;simp_all;done) | (intros;simp_all;omega)) ?_)
     refine k _ ?_;clear k K;refine d08 q18 true 8 46 ?_;refine b0t 9 ⟨?_⟩;refine b0j (by kernel_rfl) ?_;refine k18 _ ?_;refine n17 _ ?_;refine n13 _ (m+min m (N - m)) ?_ ?_ ?_
     ·refine b0b [7,8] [0] ⟨?_⟩
      simp only [Nat.sub_zero,List.length_take,c8j hm2,show min m N=m by omega,←Int.natCast_add]
      rw [d7w hm2 rfl]
     ·exact ⟨by omega,by omega⟩
     ·show _ < _;omega
    ·intro hc2
     refine zn [7] ⟨?_⟩;refine yR [4] ⟨?_⟩;refine zr ⟨?_⟩
     have hend:m=N:=by rw [c8j hm2] at hc2;omega
     exact b1t rfl rfl (by rw [hend,c0s,Nat.sub_self,List.map_replicate];simp)
def b7l (n:Int) (s:ByteArray):Int:=if n - (s.size:Int) < 0 then -1 else n - (s.size:Int)
theorem f0g (n:Int) (s:ByteArray) (hn:0≤n):b7l n s≤n:=by
  unfold b7l;split<;>omega
theorem d1h (l:List ByteArray) (hl:l.length≤1048576):Con Tryz.prog 192 [.sl (l.map V.str)] [] (.ref 0) [.arr (l.map V.str) .flat]:=by
 refine b05 [.tmp 2] [] Tryz.func192 rfl rfl rfl (by simp [Tryz.ntmps192]) ?_
 intro Q0 n0 r0
 simp only [Tryz.ntmps192,b0l,Nat.reduceAdd]
 have T:=Tys.mk (ai Ty.t3 (ai Ty.t9 Ty.t51))
 have F:=Fc.mk True.intro
 refine yR [0] ⟨?_⟩;refine yR [0,3] ⟨?_⟩;refine b0c ?_;intros;refine yR [0,3,4] ⟨?_⟩;refine b0g ?_;intros;refine b08 (fun i=>⟨[(0,.sl (l.map V.str)),(3,.ref 0),(4,.int .i64 (Nat.cast i))],[.arr (b4z V.str (V.str .empty) l i) .flat],false,22,0⟩) (fun i=>i≤l.length) (fun i=>l.length - i) 0 ?_ ?_ ?_
 ·refine b0b [0,3,4] [1] ⟨?_⟩
  rw [b7c];rfl
 ·exact Nat.zero_le _
 ·rintro i hok6 Q6 n6 e6 r6
  have hi1:i≤l.length:=hok6
  refine b0c ?_;intros;refine yR [0,3,4,11] ⟨?_⟩;refine b0d _ rfl ?_ ?_
  ·intro hc0
   have hlt:i < l.length:=by omega
   obtain ⟨x,hx⟩:∃x,l[i]? =some x:=⟨l[i],List.getElem?_eq_getElem hlt⟩
   refine zn [0,3,4] ⟨?_⟩;refine b0c ?_;intros;refine b0g ?_;intros
   have F:=Fc.mk (ai (gdm hx) (ai (fun f z=>b9c (f:=f) (z:=z) hi1) (ai (fun f z=>b9i (f:=f) (z:=z) hlt) (fun f z=>b9e (f:=f) (z:=z) hx))))
   refine yQ [0,3,4] ⟨?_⟩;refine yV ⟨?_⟩;refine n6 _ (i+1) ?_ ?_ ?_
   ·refine b0b [0,3,4] [0] ⟨?_⟩
    rfl
   ·exact hlt
   ·show _ < _;omega
  ·intro hc0
   refine zn [3] ⟨?_⟩;refine yR [2] ⟨?_⟩;refine zr ⟨?_⟩
   rw [←b87 (f:=V.str) (z:=(V.str .empty)) (show l.length≤i by omega)]
   exact b9p rfl (.inl rfl)
theorem szStringS_con (n:Int) (l:List ByteArray) (hn:0≤n∧n≤1048576) (hl:l.length≤9223372036854775807) (hls:∀s∈l,s.size≤9223372036854775807):Con Tryz.prog 188 [.sl (l.map V.str),.int .i64 n] [] (.int .i64 (if n - (l.length:Int) < 0 then -1 else b28 b7l (n - (l.length:Int)) l)) []:=by
 refine b05 [.tmp 4] [] Tryz.func188 rfl rfl rfl (by simp [Tryz.ntmps188]) ?_
 intro Q0 n0 r0
 simp only [Tryz.ntmps188,b0l,Nat.reduceAdd]
 have T:=Tys.mk (ai Ty.t3 (ai Ty.t9 Ty.t51))
 have F:=Fc.mk True.intro
 refine yR [0,1] ⟨?_⟩;refine yR [0,1] ⟨?_⟩;refine b0c ?_;intros;refine yR [0,1,11] ⟨?_⟩;refine b0d _ rfl ?_ ?_
 ·intro hc0
  refine yR [4] ⟨?_⟩;refine zr ⟨?_⟩
  exact b0a rfl (by rw [if_pos (by omega)]) (.inl rfl)
 ·intro hc0
  refine zn [0,1] ⟨?_⟩;refine b0c ?_;intros;refine yR [0,1,5] ⟨?_⟩;refine b0g ?_;intros;refine b08 (fun p=>⟨[(0,.sl (l.map V.str)),(1,.int .i64 p.2),(5,.int .i64 (Nat.cast p.1))],[],false,28,0⟩) (fun p=>p.1≤l.length∧0≤p.2∧p.2≤1048576∧b28 b7l p.2 (l.drop p.1)=b28 b7l (n - (l.length:Int)) l) (fun p=>l.length - p.1) (0,n - (l.length:Int)) ?_ ?_ ?_
  ·refine b1a [0,1,5] ?_
   simp only [b0s,b0k,b0h,b0i,b0n,Nat.reduceEqDiff,reduceIte]
   rfl
  ·exact ⟨Nat.zero_le _,by omega,by omega,by simp⟩
  ·rintro ⟨i,m⟩ hok10 Q10 n10 e10 r10
   obtain ⟨hi1,hm0,hm1,hR⟩:=hok10
   simp only [] at hi1 hm0 hm1 hR⊢
   refine b0c ?_;intros;refine yR [0,1,5,15] ⟨?_⟩;refine b0d _ rfl ?_ ?_
   ·intro hc1
    have hlt:i < l.length:=by omega
    obtain ⟨x,hx⟩:∃x,l[i]? =some x:=⟨l[i],List.getElem?_eq_getElem hlt⟩
    have hlx:=hls x (List.mem_of_getElem? hx)
    have hstep:b28 b7l m (l.drop i)=if b7l m x < 0 then -1 else b28 b7l (b7l m x) (l.drop (i+1)):=by rw [b0r hx,b28]
    refine zn [0,1,5] ⟨?_⟩;refine b0c ?_;intros;refine b0g ?_;intros
    have F:=Fc.mk (gdm hx)
    refine yR [0,1,5] ⟨?_⟩;refine yR [0,1,5,26] ⟨?_⟩;refine b0d _ rfl ?_ ?_
    ·intro hc2
     have hneg:b7l m x=-1:=by rw [b7l,if_pos hc2]
     refine yR [4] ⟨?_⟩;refine zr ⟨?_⟩
     exact b0a rfl (by rw [if_neg (by omega),←hR,hstep,if_pos (by omega)]) (.inl rfl)
    ·intro hc2
     have hpos:b7l m x=m - (x.size:Int):=by rw [b7l,if_neg (by omega)]
     refine zn [0,1,5] ⟨?_⟩;refine yV ⟨?_⟩;refine n10 _ (i+1,m - (x.size:Int)) ?_ ?_ ?_
     ·refine b1a [0,1,5] ?_
      simp only [b0s,b0k,b0h,b0i,b0n,Nat.reduceEqDiff,reduceIte]
      rfl
     ·exact ⟨by simp only [];omega,by simp only [];omega,by simp only [];omega,by simp only [];rw [←hR,hstep,if_neg (by omega),hpos]⟩
     ·show _ < _;simp only [];omega
   ·intro hc1
    refine zn [1] ⟨?_⟩;refine yR [4] ⟨?_⟩;refine zr ⟨?_⟩
    exact b0a rfl (by rw [if_neg (by omega),←hR,List.drop_of_length_le (by omega)];rfl) (.inl rfl)
theorem d0u (a b:List ByteArray) (ha:a.length≤1048576):Con Tryz.prog 23 [.sl (a.map V.str),.sl (b.map V.str)] [] (.bool (decide (a=b))) []:=by
 refine b05 [.tmp 4] [] Tryz.func23 rfl rfl rfl (by simp [Tryz.ntmps23]) ?_
 intro Q0 n0 r0
 simp only [Tryz.ntmps23,b0l,Nat.reduceAdd]
 have T:=Tys.mk (ai Ty.t3 (ai Ty.t9 Ty.t51))
 have F:=Fc.mk True.intro
 refine yR [0,1] ⟨?_⟩;refine b0c ?_;intros;refine yR [0,1,10] ⟨?_⟩;refine b0d _ rfl ?_ ?_
 ·intro hc0
  refine yR [4] ⟨?_⟩;refine zr ⟨?_⟩
  exact b0a rfl (by rw [decide_eq_false (fun h=>by subst h;simp at hc0)]) (.inl rfl)
 ·intro hc0
  have hab:a.length=b.length:=by omega
  refine zn [0,1] ⟨?_⟩;refine b0c ?_;intros;refine yR [0,1,5] ⟨?_⟩;refine b0g ?_;intros;refine b08 (fun i=>⟨[(0,.sl (a.map V.str)),(1,.sl (b.map V.str)),(5,.int .i64 (Nat.cast i))],[],false,26,0⟩) (fun i=>i≤a.length∧((a=b)↔(a.drop i=b.drop i))) (fun i=>a.length - i) 0 ?_ ?_ ?_
  ·refine b1a [0,1,5] ?_
   simp only [b0s,b0k,b0h,b0i,b0n,Nat.reduceEqDiff,reduceIte]
   rfl
  ·exact ⟨Nat.zero_le _,by simp⟩
  ·rintro i hok9 Q9 n9 e9 r9
   obtain ⟨hi1,hR⟩:=hok9
   refine b0c ?_;intros;refine yR [0,1,5,14] ⟨?_⟩;refine b0d _ rfl ?_ ?_
   ·intro hc1
    have hlt:i < a.length:=by omega
    obtain ⟨x,hx⟩:∃x,a[i]? =some x:=⟨a[i],List.getElem?_eq_getElem hlt⟩
    obtain ⟨y,hy⟩:∃y,b[i]? =some y:=⟨b[i],List.getElem?_eq_getElem (by omega)⟩
    have hstep:=c2b hab hx hy
    refine zn [0,1,5] ⟨?_⟩;refine b0c ?_;intros;refine b0g ?_;intros;refine b0c ?_;intro Q15 n15 e15 r15;refine b1p (by kernel_rfl) ?_;intro K16 q16 k16
    show b14 _ _ _ _ 9 (Array.replicate 9 false) _
    have F:=Fc.mk (ai (gdm hx) (gdm hy))
    refine b0o q16 true 0 17 ?_;refine b0o q16 true 1 18 ?_;refine b07 q16 true 2 19 ?_;refine b1h q16 true 3 20 ?_;refine b0o q16 true 4 21 ?_;refine b0o q16 true 5 22 ?_;refine b07 q16 true 6 23 ?_;refine b1h q16 true 7 24 ?_;refine b2a q16 true 8 25 ?_;refine b0j (by kernel_rfl) ?_;refine k16 _ ?_;refine n15 _ _ (b0f [0,1,5,25] _) ?_;refine zk ⟨?_⟩;refine b0d _ rfl ?_ ?_
    ·intro hc2
     refine yR [4] ⟨?_⟩;refine zr ⟨?_⟩
     exact b0a rfl (by rw [decide_eq_false (fun h=>hc2 (hstep.1 (hR.1 h)).1)]) (.inl rfl)
    ·intro hc2
     refine zn [0,1,5] ⟨?_⟩;refine yV ⟨?_⟩;refine n9 _ (i+1) ?_ ?_ ?_
     ·refine b1a [0,1,5] ?_
      simp only [b0s,b0k,b0h,b0i,b0n,Nat.reduceEqDiff,reduceIte]
      rfl
     ·exact ⟨by omega,hR.trans (hstep.trans ⟨fun h=>h.2,fun h=>⟨hc2,h⟩⟩)⟩
     ·show _ < _;omega
   ·intro hc1
    refine zn [] ⟨?_⟩;refine yR [4] ⟨?_⟩;refine zr ⟨?_⟩
    exact b0a rfl (by rw [decide_eq_true (hR.2 (by rw [List.drop_of_length_le (by omega),List.drop_of_length_le (by omega)]))]) (.inl rfl)
theorem d72 (n:Int) (ss:List TS) (m:Int) (hn:0≤m∧m≤1048576) (hl:ss.length≤9223372036854775807):Con Tryz.prog 8 [.agg [.int .i64 n,.sl (ss.map (fun t:TS=>V.agg [V.int .i64 t.1,V.int .i64 t.2.1,V.int .i64 t.2.2]))],.int .i64 m] [] (.int .i64 (if m - (ss.length:Int) < 0 then -1 else m - (ss.length:Int))) []:=by
 refine b05 [.tmp 4] [] Tryz.func8 rfl rfl rfl (by simp [Tryz.ntmps8]) ?_
 intro Q0 n0 r0
 simp only [Tryz.ntmps8,b0l,Nat.reduceAdd]
 have T:=Tys.mk (ai Ty.t3 (ai Ty.t22 (ai Ty.t24 Ty.t171)))
 have F:=Fc.mk True.intro
 refine yR [1,2] ⟨?_⟩;refine yRc [1] (d07 m ss hn hl) ⟨?_⟩;refine b0c ?_;intros;refine yR [1,10] ⟨?_⟩;refine b0d _ rfl ?_ ?_
 ·intro hc0
  refine yR [4] ⟨?_⟩;refine zr ⟨?_⟩
  exact b0a rfl (by split at hc0<;>first | omega | (simp only [*];done) | (rw [if_pos (by omega)])) (.inl rfl)
 ·intro hc0
  refine zn [1] ⟨?_⟩;refine yR [4] ⟨?_⟩;refine zr ⟨?_⟩
  exact b0a rfl rfl (.inl rfl)
theorem d7q (n:Int) (ss:List TS) (hl:ss.length≤1048576):Con Tryz.prog 11 [.agg [.int .i64 n,.sl (ss.map (fun t:TS=>V.agg [V.int .i64 t.1,V.int .i64 t.2.1,V.int .i64 t.2.2]))]] [] (.agg [.int .i64 n,.ref 0]) [.arr (ss.map (fun t:TS=>V.agg [V.int .i64 t.1,V.int .i64 t.2.1,V.int .i64 t.2.2])) .flat]:=by
 refine b05 [.cell 2 41] [] Tryz.func11 rfl rfl rfl (by simp [Tryz.ntmps11]) ?_
 intro Q0 n0 r0
 simp only [Tryz.ntmps11,b0l,Nat.reduceAdd]
 have T:=Tys.mk (ai Ty.t3 (ai Ty.t22 (ai Ty.t24 (ai Ty.t39 (ai Ty.t41 (ai Ty.t169 Ty.t171))))))
 have F:=Fc.mk True.intro
 refine yR [1,2] ⟨?_⟩;refine yR [1,2,3] ⟨?_⟩;refine yR [1,2,3] ⟨?_⟩;refine yRc [2,3] (d1r ss hl) ⟨?_⟩;refine yR [2] ⟨?_⟩;refine zq3 ⟨?_⟩
 exact c0e [5] rfl rfl (by decide) rfl (by simp) (by simp [Blk.kindIs]) rfl
theorem d9z (n:Int) (ss:List TS) (hl:ss.length≤1048576):Con Tryz.prog 15 [.agg [.int .i64 n,.sl (ss.map (fun t:TS=>V.agg [V.int .i64 t.1,V.int .i64 t.2.1,V.int .i64 t.2.2]))],.agg [.int .i64 n,.sl (ss.map (fun t:TS=>V.agg [V.int .i64 t.1,V.int .i64 t.2.1,V.int .i64 t.2.2]))]] [] (.bool true) []:=by
 refine b05 [.tmp 4] [] Tryz.func15 rfl rfl rfl (by simp [Tryz.ntmps15]) ?_
 intro Q0 n0 r0
 simp only [Tryz.ntmps15,b0l,Nat.reduceAdd]
 have T:=Tys.mk (ai Ty.t3 (ai Ty.t4 (ai Ty.t39 (ai Ty.t41 Ty.t169))))
 have F:=Fc.mk True.intro
 refine yR [2,3] ⟨?_⟩;refine b0c ?_;intros;refine yR [2,3,9] ⟨?_⟩;refine b1z _ rfl ?_ ?_
 ·intro hc0
  exfalso;simp at hc0
 ·intro hc0
  try simp only [zC,reduceCtorEq] at hc0
  refine zn [2,3] ⟨?_⟩;refine b0c ?_;intros;refine yRc [15] (d05 ss ss hl) ⟨?_⟩;refine b1z _ rfl ?_ ?_
  ·intro hc1
   exfalso;simp at hc1
  ·intro hc1
   try simp only [zC,reduceCtorEq] at hc1
   refine zn [] ⟨?_⟩;refine yR [4] ⟨?_⟩;refine zr ⟨?_⟩
   exact b0a rfl rfl (.inl rfl)
end Go.Proofs.YtaefoaghpehbpaaGreat
