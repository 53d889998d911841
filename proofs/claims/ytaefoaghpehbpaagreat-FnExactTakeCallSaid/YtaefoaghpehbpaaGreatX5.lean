/- What functions compute. No condition. -/
import Derived.Test.YtaefoaghpehbpaaGreatUz
import Derived.Test.YtaefoaghpehbpaaGreatUty
import Derived.Test.YtaefoaghpehbpaaGreatUmG
import Derived.Test.YtaefoaghpehbpaaGreatX1
import Derived.Test.YtaefoaghpehbpaaGreatX3
import Derived.Test.YtaefoaghpehbpaaGreatX4
set_option linter.unusedSimpArgs false
set_option linter.unusedVariables false
set_option linter.defProp false
namespace Go.Proofs.YtaefoaghpehbpaaGreat
open Go Go.Vm
set_option maxHeartbeats 8000000
def c49 (x:TA):Bool:=b5t x.1 && (decide (0≤x.2.1) && decide (x.2.1≤3)) && (decide (0≤x.2.2.1) && decide (x.2.2.1≤13)) && (decide (1≤x.2.2.2.1) && decide (x.2.2.2.1≤9)) && (decide (0≤x.2.2.2.2) && decide (x.2.2.2.2≤5))
def c35 (x y:TA):Bool:=b2f x.1 y.1
def b6q (l:List TA):Bool:=b1x c49 c35 l 0 && decide ((l.length:Int)≤12)
theorem f0f {l:List TA} (h:b6q l=true):l.length≤12:=by
  simp only [b6q,Bool.and_eq_true,decide_eq_true_eq] at h
  omega
theorem d5h (n:Int):Con Tryz.prog 202 [.int .i64 n] [] (.bool (decide (0≤n) && decide (n≤5))) []:=by
 refine b05 [.tmp 2] [] Tryz.func202 rfl rfl rfl (by simp [Tryz.ntmps202]) ?_
 intro Q0 n0 r0
 simp only [Tryz.ntmps202,b0l,Nat.reduceAdd]
 have T:=Tys.mk (ai Ty.t3 Ty.t4)
 have F:=Fc.mk True.intro
 refine yR [0] ⟨?_⟩;refine yRc [2] (b2o _ _ _) ⟨?_⟩;refine zr ⟨?_⟩
 exact b0a rfl (by first | rfl | simp) (.inl rfl)
theorem d4s (n:Int):Con Tryz.prog 204 [.int .i64 n] [] (.bool (decide (0≤n) && decide (n≤5))) []:=by
 refine b05 [.tmp 2] [] Tryz.func204 rfl rfl rfl (by simp [Tryz.ntmps204]) ?_
 intro Q0 n0 r0
 simp only [Tryz.ntmps204,b0l,Nat.reduceAdd]
 have T:=Tys.mk (ai Ty.t3 Ty.t4)
 have F:=Fc.mk True.intro
 refine yR [0] ⟨?_⟩;refine yRc [2] (b2b _ _ _) ⟨?_⟩;refine zr ⟨?_⟩
 exact b0a rfl (by first | rfl | simp) (.inl rfl)
theorem c3z (n:Int):Con Tryz.prog 164 [.int .i64 n] [] (.bool (decide (0≤n) && decide (n≤13))) []:=by
 refine b05 [.tmp 2] [] Tryz.func164 rfl rfl rfl (by simp [Tryz.ntmps164]) ?_
 intro Q0 n0 r0
 simp only [Tryz.ntmps164,b0l,Nat.reduceAdd]
 have T:=Tys.mk (ai Ty.t3 Ty.t4)
 have F:=Fc.mk True.intro
 refine yR [0] ⟨?_⟩;refine yRc [2] (b2o _ _ _) ⟨?_⟩;refine zr ⟨?_⟩
 exact b0a rfl (by first | rfl | simp) (.inl rfl)
theorem c9o (x0:ByteArray) (x1:Int) (x2:Int) (x3:Int) (x4:Int) (hs:x0.size≤9223372036854775807):Con Tryz.prog 228 [.agg [V.str x0,V.int .i64 x1,V.int .i64 x2,V.int .i64 x3,V.int .i64 x4]] [] (.bool (c49 (x0,x1,x2,x3,x4))) []:=by
 refine b05 [.tmp 2] [] Tryz.func228 rfl rfl rfl (by simp [Tryz.ntmps228]) ?_
 intro Q0 n0 r0
 simp only [Tryz.ntmps228,b0l,Nat.reduceAdd]
 have T:=Tys.mk (ai Ty.t3 (ai Ty.t4 (ai Ty.t9 Ty.t96)))
 have F:=Fc.mk True.intro
 refine yR [1] ⟨?_⟩;refine b4y [2] ?_;intro K2 k2;refine zq7 ⟨?_⟩;refine zc (c9v _ hs) ⟨?_⟩;refine zq4 ⟨?_⟩;refine zgc (b2o _ _ _) ⟨?_⟩;refine zq6 ⟨?_⟩;refine zgc (c3z _) ⟨?_⟩;refine zq6 ⟨?_⟩;refine zgc (b2o _ _ _) ⟨?_⟩;refine zq6 ⟨?_⟩;refine zgc (d5h _) ⟨?_⟩;refine c81 ⟨?_⟩;refine b30 ⟨?_⟩;refine k2 _ ?_;refine zq1 ⟨?_⟩
 exact b0a rfl (by first | rfl | simp [c49,Bool.and_assoc]) (.inl rfl)
theorem c0f (x0:ByteArray) (x1:Int) (x2:Int) (x3:Int) (x4:Int) (hs:x0.size≤9223372036854775807):Con Tryz.prog 232 [.agg [V.str x0,V.int .i64 x1,V.int .i64 x2,V.int .i64 x3,V.int .i64 x4]] [] (.bool (c49 (x0,x1,x2,x3,x4))) []:=by
 refine b05 [.tmp 2] [] Tryz.func232 rfl rfl rfl (by simp [Tryz.ntmps232]) ?_
 intro Q0 n0 r0
 simp only [Tryz.ntmps232,b0l,Nat.reduceAdd]
 have T:=Tys.mk (ai Ty.t3 (ai Ty.t4 (ai Ty.t9 Ty.t96)))
 have F:=Fc.mk True.intro
 refine yR [1] ⟨?_⟩;refine b4y [2] ?_;intro K2 k2;refine zq7 ⟨?_⟩;refine zc (c4g _ hs) ⟨?_⟩;refine zq4 ⟨?_⟩;refine zgc (b2b _ _ _) ⟨?_⟩;refine zq6 ⟨?_⟩;refine zgc (b2b _ _ _) ⟨?_⟩;refine zq6 ⟨?_⟩;refine zgc (b2b _ _ _) ⟨?_⟩;refine zq6 ⟨?_⟩;refine zgc (d4s _) ⟨?_⟩;refine c81 ⟨?_⟩;refine b30 ⟨?_⟩;refine k2 _ ?_;refine zq1 ⟨?_⟩
 exact b0a rfl (by first | rfl | simp [c49,Bool.and_assoc]) (.inl rfl)
theorem d42 (fl:List TA) (hl:fl.length≤1048576) (hls:∀t∈fl,t.1.size≤9223372036854775807):Con Tryz.prog 189 [.sl (fl.map (fun t:TA=>V.agg [V.str t.1,V.int .i64 t.2.1,V.int .i64 t.2.2.1,V.int .i64 t.2.2.2.1,V.int .i64 t.2.2.2.2]))] [] (.bool (b6q fl)) []:=by
 refine b05 [.tmp 2] [] Tryz.func189 rfl rfl rfl (by simp [Tryz.ntmps189]) ?_
 intro Q0 n0 r0
 simp only [Tryz.ntmps189,b0l,Nat.reduceAdd]
 have T:=Tys.mk (ai Ty.t3 (ai Ty.t4 (ai Ty.t9 (ai Ty.t32 Ty.t96))))
 have F:=Fc.mk True.intro
 refine yR [0] ⟨?_⟩;refine b0c ?_;intros;refine yR [0,5,6,7] ⟨?_⟩;refine b0g ?_;intro Q4 n4 x4 e4 r4;refine b08 (fun i=>⟨[(0,.sl (fl.map (fun t:TA=>V.agg [V.str t.1,V.int .i64 t.2.1,V.int .i64 t.2.2.1,V.int .i64 t.2.2.2.1,V.int .i64 t.2.2.2.2]))),(5,.sl (fl.map (fun t:TA=>V.agg [V.str t.1,V.int .i64 t.2.1,V.int .i64 t.2.2.1,V.int .i64 t.2.2.2.1,V.int .i64 t.2.2.2.2]))),(6,.int .i64 fl.length),(7,.int .i64 (Nat.cast i))],[],false,34,0⟩) (fun i=>i≤fl.length∧b1x c49 c35 fl i=b1x c49 c35 fl 0) (fun i=>fl.length - i) 0 ?_ ?_ ?_
 ·refine b1a [0,5,6,7] ?_
  simp only [b0s,b0k,b0h,b0i,b0n,Nat.reduceEqDiff,reduceIte]
  rfl
 ·exact ⟨Nat.zero_le _,rfl⟩
 ·rintro i hok5 Q5 n5 e5 r5
  obtain ⟨hi1,hR⟩:=hok5
  refine yR [0,5,6,7,8] ⟨?_⟩;refine b0c ?_;intros;refine b0d _ rfl ?_ ?_
  ·intro hc0
   have hlt:i < fl.length:=by omega
   obtain ⟨⟨x0,x1,x2,x3,x4⟩,hx⟩:∃x:TA,fl[i]? =some x:=⟨fl[i]'(by omega),List.getElem?_eq_getElem (by omega)⟩
   have hsx:=hls _ (List.mem_of_getElem? hx)
   simp only [] at hsx
   rcases Nat.eq_zero_or_pos i with h0 | h0
   ·skip
    have hi0:¬((0:Int) < (i:Int)):=by omega
    have hst:b1x c49 c35 fl i=(c49 (x0,x1,x2,x3,x4) && b1x c49 c35 fl (i+1)):=by subst h0;exact b60 hx
    refine zn [0,5,6,7] ⟨?_⟩;refine b0c ?_;intros;refine b0g ?_;intros
    have F:=Fc.mk (ai (gdm hx) (ai hi0 (ai @decide_false @Bool.and_false)))
    refine yR [0,3,4,5,6,7] ⟨?_⟩;refine b0c ?_;intro Q12 n12 e12 r12;refine b1p (by kernel_rfl) ?_;intro K13 q13 k13
    show b14 _ _ _ _ 18 (Array.replicate 18 false) _
    refine b1h q13 true 0 12 ?_;refine zoc 1 (c9o x0 x1 x2 x3 x4 hsx) ⟨?_⟩;refine b5q q13 true 2 14 ?_;refine b0o q13 true 3 15 ?_;refine b0y q13 true 4 16 ?_;refine b0z q13 true 5 17 ?_;refine b0y q13 true 6 18 ?_;refine b0y q13 true 7 19 ?_;refine b0y q13 true 8 20 ?_;refine b2e q13 true 9 21 ?_;refine b0x q13 true 10 22 ?_;refine b0e q13 true 11 23 ?_;refine b0q q13 true 12 24 ?_;refine b0e q13 true 13 25 ?_;refine b0q q13 true 14 26 ?_;refine b0z q13 true 15 27 ?_;refine b38 q13 true 16 28 ?_;refine b1w q13 true 17 29 ?_;refine b0j (by kernel_rfl) ?_;refine k13 _ ?_;refine n12 _ _ (b0f [0,5,6,7,29] _) ?_;refine zk ⟨?_⟩;refine b0d _ rfl ?_ ?_
    ·intro hc1
     refine yR [2] ⟨?_⟩;refine zr ⟨?_⟩
     exact b0a rfl (by rw [b6q,←hR,hst];clear hR hst;(try simp at hc1);first | (simp [hc1];done) | (rcases hc1 with h | h<;>simp [h,c35];done) | (simp_all [c35];done)) (.inl rfl)
    ·intro hc1
     refine zn [0,5,6,7] ⟨?_⟩;refine yV ⟨?_⟩;refine n5 _ (i+1) ?_ ?_ ?_
     ·refine b0b [0,5,6,7] [] ⟨?_⟩
      rfl
     ·exact ⟨by omega,by rw [←hR,hst];clear hR hst;(try simp at hc1);first | (simp [hc1];done) | (simp_all [c35];done)⟩
     ·show _ < _;omega
   ·skip
    obtain ⟨⟨y0,y1,y2,y3,y4⟩,hy⟩:∃x:TA,fl[i - 1]? =some x:=⟨fl[i - 1]'(by omega),List.getElem?_eq_getElem (by omega)⟩
    have hi0:(0:Int) < i:=by omega
    have hk:((i:Int) - 1).toNat=i - 1:=by omega
    have hst:=b66 (ok:=c49) (bf:=c35) h0 hy hx
    refine zn [0,5,6,7] ⟨?_⟩;refine b0c ?_;intros;refine b0g ?_;intros
    have F:=Fc.mk (ai (gdm hx) (ai hi0 (ai hk (ai (gdm hy) (ai @decide_true @Bool.and_true)))))
    refine yR [0,3,4,5,6,7] ⟨?_⟩;refine b0c ?_;intro Q20 n20 e20 r20;refine b1p (by kernel_rfl) ?_;intro K21 q21 k21
    show b14 _ _ _ _ 18 (Array.replicate 18 false) _
    refine b1h q21 true 0 12 ?_;refine zoc 1 (c9o x0 x1 x2 x3 x4 hsx) ⟨?_⟩;refine b5q q21 true 2 14 ?_;refine b0o q21 true 3 15 ?_;refine b0y q21 true 4 16 ?_;refine b0z q21 true 5 17 ?_;refine b0y q21 true 6 18 ?_;refine b0y q21 true 7 19 ?_;refine b0y q21 true 8 20 ?_;refine b2e q21 true 9 21 ?_;refine b0x q21 true 10 22 ?_;refine b0e q21 true 11 23 ?_;refine b0q q21 true 12 24 ?_;refine b0e q21 true 13 25 ?_;refine b0q q21 true 14 26 ?_;refine b0z q21 true 15 27 ?_;refine b38 q21 true 16 28 ?_;refine b1w q21 true 17 29 ?_;refine b0j (by kernel_rfl) ?_;refine k21 _ ?_;refine n20 _ _ (b0f [0,5,6,7,29] _) ?_;refine zk ⟨?_⟩;refine b0d _ rfl ?_ ?_
    ·intro hc1
     refine yR [2] ⟨?_⟩;refine zr ⟨?_⟩
     exact b0a rfl (by rw [b6q,←hR,hst];clear hR hst;(try simp at hc1);first | (simp [hc1];done) | (rcases hc1 with h | h<;>simp [h,c35];done) | (simp_all [c35];done)) (.inl rfl)
    ·intro hc1
     refine zn [0,5,6,7] ⟨?_⟩;refine yV ⟨?_⟩;refine n5 _ (i+1) ?_ ?_ ?_
     ·refine b0b [0,5,6,7] [] ⟨?_⟩
      rfl
     ·exact ⟨by omega,by rw [←hR,hst];clear hR hst;(try simp at hc1);first | (simp [hc1];done) | (simp_all [c35];done)⟩
     ·show _ < _;omega
  ·intro hc0
   refine zn [0] ⟨?_⟩;refine yR [2] ⟨?_⟩;refine zr ⟨?_⟩
   exact b0a rfl (by rw [b6q,←hR,b82 (by omega)];simp) (.inl rfl)
theorem b9a (fl:List TA) (hl:fl.length≤1048576) (hls:∀t∈fl,t.1.size≤9223372036854775807):Con Tryz.prog 195 [.sl (fl.map (fun t:TA=>V.agg [V.str t.1,V.int .i64 t.2.1,V.int .i64 t.2.2.1,V.int .i64 t.2.2.2.1,V.int .i64 t.2.2.2.2]))] [] (.bool (b6q fl)) []:=by
 refine b05 [.tmp 2] [] Tryz.func195 rfl rfl rfl (by simp [Tryz.ntmps195]) ?_
 intro Q0 n0 r0
 simp only [Tryz.ntmps195,b0l,Nat.reduceAdd]
 have T:=Tys.mk (ai Ty.t3 (ai Ty.t4 (ai Ty.t9 (ai Ty.t32 Ty.t96))))
 have F:=Fc.mk True.intro
 refine yR [0] ⟨?_⟩;refine b0c ?_;intros;refine yR [0,5,6,7] ⟨?_⟩;refine b0g ?_;intro Q4 n4 x4 e4 r4;refine b08 (fun i=>⟨[(0,.sl (fl.map (fun t:TA=>V.agg [V.str t.1,V.int .i64 t.2.1,V.int .i64 t.2.2.1,V.int .i64 t.2.2.2.1,V.int .i64 t.2.2.2.2]))),(5,.sl (fl.map (fun t:TA=>V.agg [V.str t.1,V.int .i64 t.2.1,V.int .i64 t.2.2.1,V.int .i64 t.2.2.2.1,V.int .i64 t.2.2.2.2]))),(6,.int .i64 fl.length),(7,.int .i64 (Nat.cast i))],[],false,34,0⟩) (fun i=>i≤fl.length∧b1x c49 c35 fl i=b1x c49 c35 fl 0) (fun i=>fl.length - i) 0 ?_ ?_ ?_
 ·refine b1a [0,5,6,7] ?_
  simp only [b0s,b0k,b0h,b0i,b0n,Nat.reduceEqDiff,reduceIte]
  rfl
 ·exact ⟨Nat.zero_le _,rfl⟩
 ·rintro i hok5 Q5 n5 e5 r5
  obtain ⟨hi1,hR⟩:=hok5
  refine yR [0,5,6,7,8] ⟨?_⟩;refine b0c ?_;intros;refine b0d _ rfl ?_ ?_
  ·intro hc0
   have hlt:i < fl.length:=by omega
   obtain ⟨⟨x0,x1,x2,x3,x4⟩,hx⟩:∃x:TA,fl[i]? =some x:=⟨fl[i]'(by omega),List.getElem?_eq_getElem (by omega)⟩
   have hsx:=hls _ (List.mem_of_getElem? hx)
   simp only [] at hsx
   rcases Nat.eq_zero_or_pos i with h0 | h0
   ·skip
    have hi0:¬((0:Int) < (i:Int)):=by omega
    have hst:b1x c49 c35 fl i=(c49 (x0,x1,x2,x3,x4) && b1x c49 c35 fl (i+1)):=by subst h0;exact b60 hx
    refine zn [0,5,6,7] ⟨?_⟩;refine b0c ?_;intros;refine b0g ?_;intros
    have F:=Fc.mk (ai (gdm hx) (ai hi0 (ai @decide_false @Bool.and_false)))
    refine yR [0,3,4,5,6,7] ⟨?_⟩;refine b0c ?_;intro Q12 n12 e12 r12;refine b1p (by kernel_rfl) ?_;intro K13 q13 k13
    show b14 _ _ _ _ 18 (Array.replicate 18 false) _
    refine b1h q13 true 0 12 ?_;refine zoc 1 (c0f x0 x1 x2 x3 x4 hsx) ⟨?_⟩;refine b5q q13 true 2 14 ?_;refine b0o q13 true 3 15 ?_;refine b0y q13 true 4 16 ?_;refine b0z q13 true 5 17 ?_;refine b0y q13 true 6 18 ?_;refine b0y q13 true 7 19 ?_;refine b0y q13 true 8 20 ?_;refine b2e q13 true 9 21 ?_;refine b0x q13 true 10 22 ?_;refine b0e q13 true 11 23 ?_;refine b0q q13 true 12 24 ?_;refine b0e q13 true 13 25 ?_;refine b0q q13 true 14 26 ?_;refine b0z q13 true 15 27 ?_;refine b38 q13 true 16 28 ?_;refine b1w q13 true 17 29 ?_;refine b0j (by kernel_rfl) ?_;refine k13 _ ?_;refine n12 _ _ (b0f [0,5,6,7,29] _) ?_;refine zk ⟨?_⟩;refine b0d _ rfl ?_ ?_
    ·intro hc1
     refine yR [2] ⟨?_⟩;refine zr ⟨?_⟩
     exact b0a rfl (by rw [b6q,←hR,hst];clear hR hst;(try simp at hc1);first | (simp [hc1];done) | (rcases hc1 with h | h<;>simp [h,c35];done) | (simp_all [c35];done)) (.inl rfl)
    ·intro hc1
     refine zn [0,5,6,7] ⟨?_⟩;refine yV ⟨?_⟩;refine n5 _ (i+1) ?_ ?_ ?_
     ·refine b0b [0,5,6,7] [] ⟨?_⟩
      rfl
     ·exact ⟨by omega,by rw [←hR,hst];clear hR hst;(try simp at hc1);first | (simp [hc1];done) | (simp_all [c35];done)⟩
     ·show _ < _;omega
   ·skip
    obtain ⟨⟨y0,y1,y2,y3,y4⟩,hy⟩:∃x:TA,fl[i - 1]? =some x:=⟨fl[i - 1]'(by omega),List.getElem?_eq_getElem (by omega)⟩
    have hi0:(0:Int) < i:=by omega
    have hk:((i:Int) - 1).toNat=i - 1:=by omega
    have hst:=b66 (ok:=c49) (bf:=c35) h0 hy hx
    refine zn [0,5,6,7] ⟨?_⟩;refine b0c ?_;intros;refine b0g ?_;intros
    have F:=Fc.mk (ai (gdm hx) (ai hi0 (ai hk (ai (gdm hy) (ai @decide_true @Bool.and_true)))))
    refine yR [0,3,4,5,6,7] ⟨?_⟩;refine b0c ?_;intro Q20 n20 e20 r20;refine b1p (by kernel_rfl) ?_;intro K21 q21 k21
    show b14 _ _ _ _ 18 (Array.replicate 18 false) _
    refine b1h q21 true 0 12 ?_;refine zoc 1 (c0f x0 x1 x2 x3 x4 hsx) ⟨?_⟩;refine b5q q21 true 2 14 ?_;refine b0o q21 true 3 15 ?_;refine b0y q21 true 4 16 ?_;refine b0z q21 true 5 17 ?_;refine b0y q21 true 6 18 ?_;refine b0y q21 true 7 19 ?_;refine b0y q21 true 8 20 ?_;refine b2e q21 true 9 21 ?_;refine b0x q21 true 10 22 ?_;refine b0e q21 true 11 23 ?_;refine b0q q21 true 12 24 ?_;refine b0e q21 true 13 25 ?_;refine b0q q21 true 14 26 ?_;refine b0z q21 true 15 27 ?_;refine b38 q21 true 16 28 ?_;refine b1w q21 true 17 29 ?_;refine b0j (by kernel_rfl) ?_;refine k21 _ ?_;refine n20 _ _ (b0f [0,5,6,7,29] _) ?_;refine zk ⟨?_⟩;refine b0d _ rfl ?_ ?_
    ·intro hc1
     refine yR [2] ⟨?_⟩;refine zr ⟨?_⟩
     exact b0a rfl (by rw [b6q,←hR,hst];clear hR hst;(try simp at hc1);first | (simp [hc1];done) | (rcases hc1 with h | h<;>simp [h,c35];done) | (simp_all [c35];done)) (.inl rfl)
    ·intro hc1
     refine zn [0,5,6,7] ⟨?_⟩;refine yV ⟨?_⟩;refine n5 _ (i+1) ?_ ?_ ?_
     ·refine b0b [0,5,6,7] [] ⟨?_⟩
      rfl
     ·exact ⟨by omega,by rw [←hR,hst];clear hR hst;(try simp at hc1);first | (simp [hc1];done) | (simp_all [c35];done)⟩
     ·show _ < _;omega
  ·intro hc0
   refine zn [0] ⟨?_⟩;refine yR [2] ⟨?_⟩;refine zr ⟨?_⟩
   exact b0a rfl (by rw [b6q,←hR,b82 (by omega)];simp) (.inl rfl)
def tmL (n:Int) (ss:List TS) (node:Int):List Int:=Tm.times n.toNat ss node.toNat
theorem c19 {n:Int} {x:TS} (h1:1≤n∧n≤14) (h:b6s n x=true):0≤x.1∧x.1 < n∧0≤x.2.1∧x.2.1 < n∧x.1 < x.2.1∧1≤x.2.2∧x.2.2≤3600:=by
  simp only [b6s,c0p,Bool.and_eq_true,decide_eq_true_eq,c8n (show -9223372036854775808≤n - 1 by omega) (show n - 1≤9223372036854775807 by omega)] at h
  omega
theorem c4p {m:Nat} {ss:List TS} (hm:1≤m∧m≤14) (h:∀s∈ss,b6s (m:Int) s=true):∀e∈Tm.edges ss,Tm.Good m e∧e.2.2≤3600:=by
  intro e he
  obtain ⟨s,hs,he⟩:=Tm.edges_mem he
  have:=c19 (by omega) (h s hs)
  rcases he with rfl | rfl<;>(unfold Tm.Good;simp only [];refine ⟨⟨?_,?_,?_,?_⟩,?_⟩<;>omega)
def c5p (m i:Nat):List Int:=List.replicate i (-1)++List.replicate (m - i) 0
theorem d7u (m:Nat):(c5p m 0).map (V.int .i64)=List.replicate m (V.int .i64 0):=by simp [c5p]
theorem f23 {m i:Nat} (h:i≤m):(c5p m i).length=m:=by simp [c5p];omega
theorem f2k {m i:Nat} (h:i < m):(c5p m i).set i (-1)=c5p m (i+1):=by
  rw [c5p,List.set_append_right _ _ (by simp),List.length_replicate,Nat.sub_self,show m - i=(m - (i+1))+1 by omega,List.replicate_succ,List.set_cons_zero,c5p,List.replicate_succ',List.append_assoc];rfl
theorem f1k {m i:Nat} (h:i=m):c5p m i=List.replicate m (-1):=by subst h;simp [c5p]
theorem c21 (n:Int) (ss:List TS) (node:Int):(tmL n ss node).length=n.toNat:=Tm.iter_len (Tm.start_len ..) _
theorem c58 {n node:Int} {ss:List TS} (hn:1≤n∧n≤14) (hu:0≤node∧node < n) (hss:∀s∈ss,b6s n s=true) (hsl:ss.length≤40):∀v,-1≤Tm.at_ (tmL n ss node) v∧Tm.at_ (tmL n ss node) v≤4608000:=by
  obtain ⟨m,rfl⟩:=Int.eq_ofNat_of_zero_le (show 0≤n by omega)
  obtain ⟨u,rfl⟩:=Int.eq_ofNat_of_zero_le hu.1
  have h:=Tm.within_facts (n:=m) (node:=u) (es:=Tm.edges ss) (by omega) (c4p (by omega) hss) (by rw [Tm.edges_len];omega) m 0 (by omega)
  exact h.2
set_option maxRecDepth 8000 in
theorem d81 (n:Int) (ss:List TS) (node:Int) (hn:1≤n∧n≤14) (hu:0≤node∧node < n) (hss:∀s∈ss,b6s n s=true) (hsl:ss.length≤40):Con Tryz.prog 239 [.pv [.agg [.int .i64 n,.sl (ss.map (fun t:TS=>V.agg [V.int .i64 t.1,V.int .i64 t.2.1,V.int .i64 t.2.2]))]] 0 0,.int .i64 node] [] (.ref 0) [.arr ((tmL n ss node).map (V.int .i64)) .flat]:=by
 obtain ⟨m,rfl⟩:=Int.eq_ofNat_of_zero_le (show 0≤n by omega)
 obtain ⟨u,rfl⟩:=Int.eq_ofNat_of_zero_le hu.1
 have hum:u < m:=by omega
 have hm1:1≤m∧m≤14:=by omega
 have hg:=c4p hm1 hss
 have hg1:∀e∈Tm.edges ss,Tm.Good m e:=fun e he=>(hg e he).1
 have hel:=Tm.edges_len ss
 have hel2:(Tm.edges ss).length≤80:=by omega
 rw [show tmL (m:Int) ss (u:Int)=Tm.times m ss u from rfl]
 have hru:(List.replicate m (-1:Int))[u]? =some (-1):=by rw [List.getElem?_replicate,if_pos hum]
 refine b05 [.tmp 4] [] Tryz.func239 rfl rfl rfl (by simp [Tryz.ntmps239]) ?_
 intro Q0 n0 r0
 simp only [Tryz.ntmps239,b0l,Nat.reduceAdd]
 have T:=Tys.mk (ai Ty.t3 (ai Ty.t39 (ai Ty.t41 (ai Ty.t75 (ai Ty.t169 (ai Ty.t262 Ty.t263))))))
 have F:=Fc.mk True.intro
 have F:=Fc.mk (ai (gdm hru) @b3k)
 refine yR [0,1] ⟨?_⟩;refine yRc [0,1,5] (d73 (-1) m hm1.1 (by omega)) ⟨?_⟩;refine yR [0,5] ⟨?_⟩;refine b0c ?_;intros;refine yR [0,5,6] ⟨?_⟩;refine b0g ?_;intros;refine b08 (fun p=>⟨[(0,.pv [.agg [.int .i64 (Nat.cast m),.sl (ss.map (fun t:TS=>V.agg [V.int .i64 t.1,V.int .i64 t.2.1,V.int .i64 t.2.2]))]] 0 0),(5,.ref 0),(6,.bool p.2)],[.arr ((Tm.within m u (Tm.edges ss) p.1 0).map (V.int .i64)) .flat],false,83,0⟩) (fun p=>p.1≤m+1∧(p.2=true→p.1≤m)∧(p.2=false→Tm.iter (Tm.edges ss) p.1 (Tm.start m u)=Tm.times m ss u)) (fun p=>m+1 - p.1) ((0,true):Nat×Bool) ?_ ?_ ?_
 ·refine b0b [0,5,6] [2] ⟨?_⟩
  rfl
 ·exact ⟨Nat.zero_le _,fun _=>Nat.zero_le _,fun h=>by cases h⟩
 ·rintro ⟨k,c⟩ hok7 Q7 n7 e7 r7
  obtain ⟨hk1,hck,hcf⟩:=hok7
  simp only [] at hk1 hck hcf⊢
  refine b0c ?_;intros;refine yR [0,5,22] ⟨?_⟩;refine b0d _ rfl ?_ ?_
  ·intro hc0
   have hk:=hck hc0
   refine zn [0,5] ⟨?_⟩;refine b0g ?_;intros;refine yR [0,5,6] ⟨?_⟩;refine yR [0,5,6,26,27,28] ⟨?_⟩;refine b0g ?_;intros;refine b08 (fun i=>⟨[(0,.pv [.agg [.int .i64 (Nat.cast m),.sl (ss.map (fun t:TS=>V.agg [V.int .i64 t.1,V.int .i64 t.2.1,V.int .i64 t.2.2]))]] 0 0),(5,.ref 0),(6,.bool (Tm.chg m u (Tm.edges ss) k (2 * i))),(26,.sl (ss.map (fun t:TS=>V.agg [V.int .i64 t.1,V.int .i64 t.2.1,V.int .i64 t.2.2]))),(27,.int .i64 ss.length),(28,.int .i64 (Nat.cast i))],[.arr ((Tm.within m u (Tm.edges ss) k (2 * i)).map (V.int .i64)) .flat],false,83,0⟩) (fun i=>i≤ss.length) (fun i=>ss.length - i) 0 ?_ ?_ ?_
   ·refine b0b [0,5,6,26,27,28] [0] ⟨?_⟩
    rfl
   ·exact Nat.zero_le _
   ·rintro i hok15 Q15 n15 e15 r15
    have hi1:i≤ss.length:=hok15
    refine yR [0,5,6,26,27,28,29] ⟨?_⟩;refine b0c ?_;intros;refine b0d _ rfl ?_ ?_
    ·intro hc1
     have hlt:i < ss.length:=by omega
     obtain ⟨⟨x0,x1,x2⟩,hx⟩:∃x:TS,ss[i]? =some x:=⟨ss[i]'(by omega),List.getElem?_eq_getElem (by omega)⟩
     have hso:=c19 (by omega) (hss _ (List.mem_of_getElem? hx))
     simp only [] at hso
     obtain ⟨a,rfl⟩:=Int.eq_ofNat_of_zero_le hso.1
     obtain ⟨b,rfl⟩:=Int.eq_ofNat_of_zero_le hso.2.2.1
     have hes:=Tm.edges_at hx
     simp only [Int.toNat_natCast] at hes
     refine zn [0,5,6,26,27,28] ⟨?_⟩;refine b0c ?_;intros;refine b0g ?_;intros
     have F:=Fc.mk (ai (gdm hru) (ai @b3k (gdm hx)))
     refine yR [0,5,6,8,26,27,28] ⟨?_⟩;refine yR [0,5,6,8,26,27,28,42,43,44] ⟨?_⟩;refine b0g ?_;intros;refine b08 (fun j=>⟨[(0,.pv [.agg [.int .i64 (Nat.cast m),.sl (ss.map (fun t:TS=>V.agg [V.int .i64 t.1,V.int .i64 t.2.1,V.int .i64 t.2.2]))]] 0 0),(5,.ref 0),(6,.bool (Tm.chg m u (Tm.edges ss) k (2 * i+j))),(8,.ptr 1 0 0),(26,.sl (ss.map (fun t:TS=>V.agg [V.int .i64 t.1,V.int .i64 t.2.1,V.int .i64 t.2.2]))),(27,.int .i64 ss.length),(28,.int .i64 (Nat.cast i)),(42,.ref 2),(43,.int .i64 2),(44,.int .i64 (Nat.cast j))],[.arr ((Tm.within m u (Tm.edges ss) k (2 * i+j)).map (V.int .i64)) .flat,.box (.agg [V.int .i64 (Nat.cast a),V.int .i64 (Nat.cast b),V.int .i64 x2]) .flat,.arr [V.agg [V.int .i64 (Nat.cast a),V.int .i64 (Nat.cast b)],V.agg [V.int .i64 (Nat.cast b),V.int .i64 (Nat.cast a)]] .flat],false,83,0⟩) (fun j=>j≤2) (fun j=>2 - j) 0 ?_ ?_ ?_
     ·refine b0b [0,5,6,8,26,27,28,42,43,44] [0,1,2] ⟨?_⟩
      rfl
     ·exact Nat.zero_le _
     ·rintro j hok24 Q24 n24 e24 r24
      have hj1:j≤2:=hok24
      refine yR [0,5,6,8,26,27,28,42,43,44,45] ⟨?_⟩;refine b0c ?_;intros;refine b0d _ rfl ?_ ?_
      ·intro hc2
       have hj:j=0∨j=1:=by omega
       rcases hj with rfl | rfl
       ·skip
        have hwf:=Tm.within_facts hum hg hel2 k (2 * i) (by omega)
        have hwl:=hwf.1
        obtain ⟨p,hp⟩:∃p,(Tm.within m u (Tm.edges ss) k (2 * i))[a]? =some p:=⟨_,List.getElem?_eq_getElem (by rw [hwl];omega)⟩
        obtain ⟨q,hq⟩:∃q,(Tm.within m u (Tm.edges ss) k (2 * i))[b]? =some q:=⟨_,List.getElem?_eq_getElem (by rw [hwl];omega)⟩
        have hpb:=hwf.2 a
        rw [Tm.at_get hp] at hpb
        have hqb:=hwf.2 b
        rw [Tm.at_get hq] at hqb
        have he:(Tm.edges ss)[2 * i]? =some (a,b,x2):=hes.1
        have hst:(Tm.within m u (Tm.edges ss) k (2 * i+1))=Tm.relax (Tm.within m u (Tm.edges ss) k (2 * i)) (a,b,x2):=Tm.within_step he
        have hry:=fun h=>Tm.relax_yes hp hq (w:=x2) h
        have hrn:=fun h=>Tm.relax_no hp hq (w:=x2) h
        have hcn:(Tm.chg m u (Tm.edges ss) k (2 * i+1))=((Tm.chg m u (Tm.edges ss) k (2 * i)) || Tm.trig (Tm.within m u (Tm.edges ss) k (2 * i)) (a,b,x2)):=Tm.chg_next he
        refine zn [0,5,6,8,26,27,28,42,43,44] ⟨?_⟩;refine b0c ?_;intros;refine b0g ?_;intros
        have F:=Fc.mk (ai (gdm hru) (ai @b3k (ai (gdm hx) (ai hwl (ai (gdm hp) (ai (gdm hq) @b3k))))))
        refine yR [0,5,6,8,10,26,27,28,42,43,44] ⟨?_⟩;refine b0c ?_;intro Q31 n31 e31 r31;refine b1p (by kernel_rfl) ?_;intro K32 q32 k32
        show b14 _ _ _ _ 12 (Array.replicate 12 false) _
        refine b0o q32 true 0 48 ?_;refine b07 q32 true 1 49 ?_;refine b1h q32 true 2 50 ?_;refine b07 q32 true 3 51 ?_;refine b1h q32 true 4 52 ?_;refine b0o q32 true 5 53 ?_;refine b07 q32 true 6 54 ?_;refine b1h q32 true 7 55 ?_;refine b07 q32 true 8 56 ?_;refine b1h q32 true 9 57 ?_;refine b0t 10 ⟨?_⟩;refine b0t 11 ⟨?_⟩;refine b0j (by kernel_rfl) ?_;refine k32 _ ?_;refine n31 _ _ (b0f [0,5,6,8,10,11,12,26,27,28,42,43,44] _) ?_;refine zk ⟨?_⟩;refine yR [0,5,6,8,10,11,26,27,28,42,43,44,71] ⟨?_⟩;refine b0d _ rfl ?_ ?_
        ·intro hc3
         obtain ⟨hty,hre⟩:=hry (by omega)
         rw [hre] at hst
         rw [hty,Bool.or_true] at hcn
         refine yR [0,5,8,26,27,28,42,43,44] ⟨?_⟩;refine yQ [0,5,6,8,26,27,28,42,43,44] ⟨?_⟩;refine yV ⟨?_⟩;refine n24 _ 1 ?_ ?_ ?_
         ·refine b0b [0,5,6,8,26,27,28,42,43,44] [0,1,2] ⟨?_⟩
          rw [hcn,hst];rfl
         ·omega
         ·show _ < _;omega
        ·intro hc3
         obtain ⟨htn,hre⟩:=hrn (by omega)
         rw [hre] at hst
         rw [htn,Bool.or_false] at hcn
         refine zn [0,5,6,8,26,27,28,42,43,44] ⟨?_⟩;refine yV ⟨?_⟩;refine n24 _ 1 ?_ ?_ ?_
         ·refine b0b [0,5,6,8,26,27,28,42,43,44] [0,1,2] ⟨?_⟩
          rw [hcn,hst];rfl
         ·omega
         ·show _ < _;omega
       ·skip
        have hwf:=Tm.within_facts hum hg hel2 k (2 * i+1) (by omega)
        have hwl:=hwf.1
        obtain ⟨p,hp⟩:∃p,(Tm.within m u (Tm.edges ss) k (2 * i+1))[b]? =some p:=⟨_,List.getElem?_eq_getElem (by rw [hwl];omega)⟩
        obtain ⟨q,hq⟩:∃q,(Tm.within m u (Tm.edges ss) k (2 * i+1))[a]? =some q:=⟨_,List.getElem?_eq_getElem (by rw [hwl];omega)⟩
        have hpb:=hwf.2 b
        rw [Tm.at_get hp] at hpb
        have hqb:=hwf.2 a
        rw [Tm.at_get hq] at hqb
        have he:(Tm.edges ss)[2 * i+1]? =some (b,a,x2):=hes.2
        have hst:(Tm.within m u (Tm.edges ss) k (2 * i+2))=Tm.relax (Tm.within m u (Tm.edges ss) k (2 * i+1)) (b,a,x2):=Tm.within_step he
        have hry:=fun h=>Tm.relax_yes hp hq (w:=x2) h
        have hrn:=fun h=>Tm.relax_no hp hq (w:=x2) h
        have hcn:(Tm.chg m u (Tm.edges ss) k (2 * i+2))=((Tm.chg m u (Tm.edges ss) k (2 * i+1)) || Tm.trig (Tm.within m u (Tm.edges ss) k (2 * i+1)) (b,a,x2)):=Tm.chg_next he
        refine zn [0,5,6,8,26,27,28,42,43,44] ⟨?_⟩;refine b0c ?_;intros;refine b0g ?_;intros
        have F:=Fc.mk (ai (gdm hru) (ai @b3k (ai (gdm hx) (ai hwl (ai (gdm hp) (ai (gdm hq) @b3k))))))
        refine yR [0,5,6,8,10,26,27,28,42,43,44] ⟨?_⟩;refine b0c ?_;intro Q42 n42 e42 r42;refine b1p (by kernel_rfl) ?_;intro K43 q43 k43
        show b14 _ _ _ _ 12 (Array.replicate 12 false) _
        refine b0o q43 true 0 48 ?_;refine b07 q43 true 1 49 ?_;refine b1h q43 true 2 50 ?_;refine b07 q43 true 3 51 ?_;refine b1h q43 true 4 52 ?_;refine b0o q43 true 5 53 ?_;refine b07 q43 true 6 54 ?_;refine b1h q43 true 7 55 ?_;refine b07 q43 true 8 56 ?_;refine b1h q43 true 9 57 ?_;refine b0t 10 ⟨?_⟩;refine b0t 11 ⟨?_⟩;refine b0j (by kernel_rfl) ?_;refine k43 _ ?_;refine n42 _ _ (b0f [0,5,6,8,10,11,12,26,27,28,42,43,44] _) ?_;refine zk ⟨?_⟩;refine yR [0,5,6,8,10,11,26,27,28,42,43,44,71] ⟨?_⟩;refine b0d _ rfl ?_ ?_
        ·intro hc3
         obtain ⟨hty,hre⟩:=hry (by omega)
         rw [hre] at hst
         rw [hty,Bool.or_true] at hcn
         refine yR [0,5,8,26,27,28,42,43,44] ⟨?_⟩;refine yQ [0,5,6,8,26,27,28,42,43,44] ⟨?_⟩;refine yV ⟨?_⟩;refine n24 _ 2 ?_ ?_ ?_
         ·refine b0b [0,5,6,8,26,27,28,42,43,44] [0,1,2] ⟨?_⟩
          rw [hcn,hst];rfl
         ·omega
         ·show _ < _;omega
        ·intro hc3
         obtain ⟨htn,hre⟩:=hrn (by omega)
         rw [hre] at hst
         rw [htn,Bool.or_false] at hcn
         refine zn [0,5,6,8,26,27,28,42,43,44] ⟨?_⟩;refine yV ⟨?_⟩;refine n24 _ 2 ?_ ?_ ?_
         ·refine b0b [0,5,6,8,26,27,28,42,43,44] [0,1,2] ⟨?_⟩
          rw [hcn,hst];rfl
         ·omega
         ·show _ < _;omega
      ·intro hc2
       refine zn [0,5,6,26,27,28] ⟨?_⟩;refine yV ⟨?_⟩;refine n15 _ (i+1) ?_ ?_ ?_
       ·refine b0b [0,5,6,26,27,28] [0] ⟨?_⟩
        rw [show 2 * i+j=2 * (i+1) by omega];rfl
       ·exact hlt
       ·show _ < _;omega
    ·intro hc1
     refine zx ⟨?_⟩;refine n7 _ (k+1,(Tm.chg m u (Tm.edges ss) k (Tm.edges ss).length)) ?_ ?_ ?_
     ·refine b0b [0,5,6] [0] ⟨?_⟩
      rw [show (Tm.within m u (Tm.edges ss) k (2 * i))=(Tm.within m u (Tm.edges ss) (k+1) 0) from Tm.within_end (by omega),show 2 * i=(Tm.edges ss).length by omega]
     ·exact ⟨by show k+1≤m+1;omega,(Tm.end_of hum hg1 hk).1,(Tm.end_of hum hg1 hk).2⟩
     ·show _ < _;show m+1 - (k+1) < m+1 - k;omega
  ·intro hc0
   refine zn [5] ⟨?_⟩;refine yR [4] ⟨?_⟩;refine zr ⟨?_⟩
   rw [show (Tm.within m u (Tm.edges ss) k 0)=Tm.times m ss u from hcf hc0]
   exact b9p rfl (.inl rfl)
set_option maxRecDepth 8000 in
theorem d4r (n:Int) (ss:List TS) (node:Int) (hn:1≤n∧n≤14) (hu:0≤node∧node < n) (hss:∀s∈ss,b6s n s=true) (hsl:ss.length≤40):Con Tryz.prog 238 [.agg [.int .i64 n,.sl (ss.map (fun t:TS=>V.agg [V.int .i64 t.1,V.int .i64 t.2.1,V.int .i64 t.2.2]))],.int .i64 node] [] (.ref 0) [.arr ((tmL n ss node).map (V.int .i64)) .flat]:=by
 obtain ⟨m,rfl⟩:=Int.eq_ofNat_of_zero_le (show 0≤n by omega)
 obtain ⟨u,rfl⟩:=Int.eq_ofNat_of_zero_le hu.1
 have hum:u < m:=by omega
 have hm1:1≤m∧m≤14:=by omega
 have hg:=c4p hm1 hss
 have hg1:∀e∈Tm.edges ss,Tm.Good m e:=fun e he=>(hg e he).1
 have hel:=Tm.edges_len ss
 have hel2:(Tm.edges ss).length≤80:=by omega
 rw [show tmL (m:Int) ss (u:Int)=Tm.times m ss u from rfl]
 have hru:(List.replicate m (-1:Int))[u]? =some (-1):=by rw [List.getElem?_replicate,if_pos hum]
 have hfz:=d7u m
 refine b05 [.tmp 4] [] Tryz.func238 rfl rfl rfl (by simp [Tryz.ntmps238]) ?_
 intro Q0 n0 r0
 simp only [Tryz.ntmps238,b0l,Nat.reduceAdd]
 have T:=Tys.mk (ai Ty.t3 (ai Ty.t39 (ai Ty.t41 (ai Ty.t75 (ai Ty.t169 Ty.t260)))))
 have F:=Fc.mk True.intro
 have F:=Fc.mk (ai (gdm hru) @b3k)
 refine yR [1,2] ⟨?_⟩;refine yR [1,2,5] ⟨?_⟩;refine b0c ?_;intros;refine yR [1,2,5,18,19] ⟨?_⟩;refine b0g ?_;intros;refine b08 (fun i=>⟨[(1,.int .i64 (Nat.cast u)),(2,.ptr 0 0 0),(5,.ref 1),(18,.int .i64 (Nat.cast m)),(19,.int .i64 (Nat.cast i))],[.box (.agg [.int .i64 (Nat.cast m),.sl (ss.map (fun t:TS=>V.agg [V.int .i64 t.1,V.int .i64 t.2.1,V.int .i64 t.2.2]))]) .shal,.arr ((c5p m i).map (V.int .i64)) .flat],false,97,0⟩) (fun i=>i≤m) (fun i=>m - i) 0 ?_ ?_ ?_
 ·refine b0b [1,2,5,18,19] [0,2] ⟨?_⟩
  first | (rw [hfz];rfl) | (simp [hfz];done) | trace_state
 ·exact Nat.zero_le _
 ·rintro i hok6 Q6 n6 e6 r6
  have hi1:i≤m:=hok6
  refine yR [1,2,5,18,19,20] ⟨?_⟩;refine b0c ?_;intros;refine b0d _ rfl ?_ ?_
  ·intro hc0
   have hfl:=f23 hi1
   have hlt:i < m:=by omega
   have hfs:=f2k hlt
   obtain ⟨w,hw⟩:∃w,(c5p m i)[i]? =some w:=⟨_,List.getElem?_eq_getElem (by rw [hfl];omega)⟩
   refine zn [1,2,5,18,19] ⟨?_⟩;refine b0c ?_;intros;refine b0g ?_;intros
   have F:=Fc.mk (ai (gdm hru) (ai @b3k (ai hfl (ai (gdm hw) hfs))))
   refine yR [1,2,5,6,18,19] ⟨?_⟩;refine yQ [1,2,5,18,19] ⟨?_⟩;refine yV ⟨?_⟩;refine n6 _ (i+1) ?_ ?_ ?_
   ·refine b0b [1,2,5,18,19] [0,1] ⟨?_⟩
    rfl
   ·exact hlt
   ·show _ < _;omega
  ·intro hc0
   have hend:=f1k (show i=m by omega)
   refine zn [1,2,5] ⟨?_⟩
   have F:=Fc.mk (ai (gdm hru) (ai @b3k hend))
   refine yR [2,5] ⟨?_⟩;refine b0c ?_;intros;refine yR [2,5,7] ⟨?_⟩;refine b0g ?_;intros;refine b08 (fun k=>⟨[(2,.ptr 0 0 0),(5,.ref 1),(7,.int .i64 (Nat.cast k))],[.box (.agg [.int .i64 (Nat.cast m),.sl (ss.map (fun t:TS=>V.agg [V.int .i64 t.1,V.int .i64 t.2.1,V.int .i64 t.2.2]))]) .shal,.arr ((Tm.within m u (Tm.edges ss) k 0).map (V.int .i64)) .flat],false,97,0⟩) (fun k=>k≤m) (fun k=>m - k) 0 ?_ ?_ ?_
   ·refine b0b [2,5,7] [0,1] ⟨?_⟩
    rfl
   ·exact Nat.zero_le _
   ·rintro k hok19 Q19 n19 e19 r19
    have hk1:k≤m:=hok19
    refine b0c ?_;intros;refine yR [2,5,7,32] ⟨?_⟩;refine b0d _ rfl ?_ ?_
    ·intro hc1
     have hk:k < m:=by omega
     refine zn [2,5,7] ⟨?_⟩;refine b0c ?_;intros;refine b0g ?_;intros;refine yR [2,5,7,36,37,38] ⟨?_⟩;refine b0g ?_;intros;refine b08 (fun i=>⟨[(2,.ptr 0 0 0),(5,.ref 1),(7,.int .i64 (Nat.cast k)),(36,.sl (ss.map (fun t:TS=>V.agg [V.int .i64 t.1,V.int .i64 t.2.1,V.int .i64 t.2.2]))),(37,.int .i64 ss.length),(38,.int .i64 (Nat.cast i))],[.box (.agg [.int .i64 (Nat.cast m),.sl (ss.map (fun t:TS=>V.agg [V.int .i64 t.1,V.int .i64 t.2.1,V.int .i64 t.2.2]))]) .shal,.arr ((Tm.within m u (Tm.edges ss) k (2 * i)).map (V.int .i64)) .flat],false,97,0⟩) (fun i=>i≤ss.length) (fun i=>ss.length - i) 0 ?_ ?_ ?_
     ·refine b0b [2,5,7,36,37,38] [0,1] ⟨?_⟩
      rfl
     ·exact Nat.zero_le _
     ·rintro i hok27 Q27 n27 e27 r27
      have hi1:i≤ss.length:=hok27
      refine yR [2,5,7,36,37,38,39] ⟨?_⟩;refine b0c ?_;intros;refine b0d _ rfl ?_ ?_
      ·intro hc2
       have hlt:i < ss.length:=by omega
       obtain ⟨⟨x0,x1,x2⟩,hx⟩:∃x:TS,ss[i]? =some x:=⟨ss[i]'(by omega),List.getElem?_eq_getElem (by omega)⟩
       have hso:=c19 (by omega) (hss _ (List.mem_of_getElem? hx))
       simp only [] at hso
       obtain ⟨a,rfl⟩:=Int.eq_ofNat_of_zero_le hso.1
       obtain ⟨b,rfl⟩:=Int.eq_ofNat_of_zero_le hso.2.2.1
       have hes:=Tm.edges_at hx
       simp only [Int.toNat_natCast] at hes
       refine zn [2,5,7,36,37,38] ⟨?_⟩;refine b0c ?_;intros;refine b0g ?_;intros
       have F:=Fc.mk (ai (gdm hru) (ai @b3k (ai hend (gdm hx))))
       refine yR [2,5,7,9,36,37,38] ⟨?_⟩;refine yR [2,5,7,9,36,37,38,52,53,54] ⟨?_⟩;refine b0g ?_;intros;refine b08 (fun j=>⟨[(2,.ptr 0 0 0),(5,.ref 1),(7,.int .i64 (Nat.cast k)),(9,.ptr 2 0 0),(36,.sl (ss.map (fun t:TS=>V.agg [V.int .i64 t.1,V.int .i64 t.2.1,V.int .i64 t.2.2]))),(37,.int .i64 ss.length),(38,.int .i64 (Nat.cast i)),(52,.ref 5),(53,.int .i64 2),(54,.int .i64 (Nat.cast j))],[.box (.agg [.int .i64 (Nat.cast m),.sl (ss.map (fun t:TS=>V.agg [V.int .i64 t.1,V.int .i64 t.2.1,V.int .i64 t.2.2]))]) .shal,.arr ((Tm.within m u (Tm.edges ss) k (2 * i+j)).map (V.int .i64)) .flat,.box (.agg [V.int .i64 (Nat.cast a),V.int .i64 (Nat.cast b),V.int .i64 x2]) .flat,.arr [V.int .i64 (Nat.cast a),V.int .i64 (Nat.cast b)] .flat,.arr [V.int .i64 (Nat.cast b),V.int .i64 (Nat.cast a)] .flat,.arr [V.ref 3,V.ref 4] .mix],false,97,0⟩) (fun j=>j≤2) (fun j=>2 - j) 0 ?_ ?_ ?_
       ·refine b1a [2,5,7,9,36,37,38,52,53,54] ?_
        simp only [b0s,b0k,b0h,b0i,b0n,Nat.reduceEqDiff,reduceIte]
        rfl
       ·exact Nat.zero_le _
       ·rintro j hok36 Q36 n36 e36 r36
        have hj1:j≤2:=hok36
        refine yR [2,5,7,9,36,37,38,52,53,54,55] ⟨?_⟩;refine b0c ?_;intros;refine b0d _ rfl ?_ ?_
        ·intro hc3
         have hj:j=0∨j=1:=by omega
         rcases hj with rfl | rfl
         ·skip
          have hwf:=Tm.within_facts hum hg hel2 k (2 * i) (by omega)
          have hwl:=hwf.1
          obtain ⟨p,hp⟩:∃p,(Tm.within m u (Tm.edges ss) k (2 * i))[a]? =some p:=⟨_,List.getElem?_eq_getElem (by rw [hwl];omega)⟩
          obtain ⟨q,hq⟩:∃q,(Tm.within m u (Tm.edges ss) k (2 * i))[b]? =some q:=⟨_,List.getElem?_eq_getElem (by rw [hwl];omega)⟩
          have hpb:=hwf.2 a
          rw [Tm.at_get hp] at hpb
          have hqb:=hwf.2 b
          rw [Tm.at_get hq] at hqb
          have he:(Tm.edges ss)[2 * i]? =some (a,b,x2):=hes.1
          have hst:(Tm.within m u (Tm.edges ss) k (2 * i+1))=Tm.relax (Tm.within m u (Tm.edges ss) k (2 * i)) (a,b,x2):=Tm.within_step he
          have hry:=fun h=>Tm.relax_yes hp hq (w:=x2) h
          have hrn:=fun h=>Tm.relax_no hp hq (w:=x2) h
          refine zn [2,5,7,9,36,37,38,52,53,54] ⟨?_⟩;refine b0c ?_;intros;refine b0g ?_;intros
          have F:=Fc.mk (ai (gdm hru) (ai @b3k (ai hend (ai (gdm hx) (ai hwl (ai (gdm hp) (ai (gdm hq) @b3k)))))))
          refine yR [2,5,7,9,11,36,37,38,52,53,54] ⟨?_⟩;refine b0c ?_;intro Q43 n43 e43 r43;refine b1p (by kernel_rfl) ?_;intro K44 q44 k44
          show b14 _ _ _ _ 11 (Array.replicate 11 false) _
          refine b0o q44 true 0 58 ?_;refine b0o q44 true 1 59 ?_;refine b07 q44 true 2 60 ?_;refine b1h q44 true 3 61 ?_;refine b07 q44 true 4 62 ?_;refine b1h q44 true 5 63 ?_;refine b0o q44 true 6 64 ?_;refine b07 q44 true 7 65 ?_;refine b1h q44 true 8 66 ?_;refine b0t 9 ⟨?_⟩;refine b0t 10 ⟨?_⟩;refine b0j (by kernel_rfl) ?_;refine k44 _ ?_;refine n43 _ _ (b0f [2,5,7,9,12,13,36,37,38,52,53,54] _) ?_;refine zk ⟨?_⟩;refine b0c ?_;intro Q45 n45 e45 r45;refine b1p (by kernel_rfl) ?_;intro K46 q46 k46
          show b14 _ _ _ _ 20 (Array.replicate 20 false) _
          refine b0o q46 true 0 67 ?_;refine b2a q46 true 1 68 ?_;refine b0o q46 true 2 69 ?_;refine b0y q46 true 3 70 ?_;refine b0y q46 true 4 71 ?_;refine b0x q46 true 5 72 ?_;refine b0q q46 true 6 73 ?_;refine b0z q46 true 7 74 ?_;refine b0y q46 true 8 75 ?_;refine b0y q46 true 9 76 ?_;refine b0e q46 true 10 77 ?_;refine b0q q46 true 11 78 ?_;refine b2e q46 true 12 79 ?_;refine b0y q46 true 13 80 ?_;refine b0y q46 true 14 81 ?_;refine b0x q46 true 15 82 ?_;refine b0q q46 true 16 83 ?_;refine b0z q46 true 17 84 ?_;refine b38 q46 true 18 85 ?_;refine b1w q46 true 19 86 ?_;refine b0j (by kernel_rfl) ?_;refine k46 _ ?_;refine n45 _ _ (b0f [2,5,7,9,12,13,36,37,38,52,53,54,86] _) ?_;refine zk ⟨?_⟩;refine b0d _ rfl ?_ ?_
          ·intro hc4
           obtain ⟨hty,hre⟩:=hry (by omega)
           rw [hre] at hst
           refine yQ [2,5,7,9,36,37,38,52,53,54] ⟨?_⟩;refine yV ⟨?_⟩;refine n36 _ 1 ?_ ?_ ?_
           ·refine b1a [2,5,7,9,36,37,38,52,53,54] ?_
            simp only [b0s,b0k,b0h,b0i,b0n,Nat.reduceEqDiff,reduceIte]
            rw [hst];rfl
           ·omega
           ·show _ < _;omega
          ·intro hc4
           obtain ⟨htn,hre⟩:=hrn (by omega)
           rw [hre] at hst
           refine zn [2,5,7,9,36,37,38,52,53,54] ⟨?_⟩;refine yV ⟨?_⟩;refine n36 _ 1 ?_ ?_ ?_
           ·refine b1a [2,5,7,9,36,37,38,52,53,54] ?_
            simp only [b0s,b0k,b0h,b0i,b0n,Nat.reduceEqDiff,reduceIte]
            rw [hst];rfl
           ·omega
           ·show _ < _;omega
         ·skip
          have hwf:=Tm.within_facts hum hg hel2 k (2 * i+1) (by omega)
          have hwl:=hwf.1
          obtain ⟨p,hp⟩:∃p,(Tm.within m u (Tm.edges ss) k (2 * i+1))[b]? =some p:=⟨_,List.getElem?_eq_getElem (by rw [hwl];omega)⟩
          obtain ⟨q,hq⟩:∃q,(Tm.within m u (Tm.edges ss) k (2 * i+1))[a]? =some q:=⟨_,List.getElem?_eq_getElem (by rw [hwl];omega)⟩
          have hpb:=hwf.2 b
          rw [Tm.at_get hp] at hpb
          have hqb:=hwf.2 a
          rw [Tm.at_get hq] at hqb
          have he:(Tm.edges ss)[2 * i+1]? =some (b,a,x2):=hes.2
          have hst:(Tm.within m u (Tm.edges ss) k (2 * i+2))=Tm.relax (Tm.within m u (Tm.edges ss) k (2 * i+1)) (b,a,x2):=Tm.within_step he
          have hry:=fun h=>Tm.relax_yes hp hq (w:=x2) h
          have hrn:=fun h=>Tm.relax_no hp hq (w:=x2) h
          refine zn [2,5,7,9,36,37,38,52,53,54] ⟨?_⟩;refine b0c ?_;intros;refine b0g ?_;intros
          have F:=Fc.mk (ai (gdm hru) (ai @b3k (ai hend (ai (gdm hx) (ai hwl (ai (gdm hp) (ai (gdm hq) @b3k)))))))
          refine yR [2,5,7,9,11,36,37,38,52,53,54] ⟨?_⟩;refine b0c ?_;intro Q54 n54 e54 r54;refine b1p (by kernel_rfl) ?_;intro K55 q55 k55
          show b14 _ _ _ _ 11 (Array.replicate 11 false) _
          refine b0o q55 true 0 58 ?_;refine b0o q55 true 1 59 ?_;refine b07 q55 true 2 60 ?_;refine b1h q55 true 3 61 ?_;refine b07 q55 true 4 62 ?_;refine b1h q55 true 5 63 ?_;refine b0o q55 true 6 64 ?_;refine b07 q55 true 7 65 ?_;refine b1h q55 true 8 66 ?_;refine b0t 9 ⟨?_⟩;refine b0t 10 ⟨?_⟩;refine b0j (by kernel_rfl) ?_;refine k55 _ ?_;refine n54 _ _ (b0f [2,5,7,9,12,13,36,37,38,52,53,54] _) ?_;refine zk ⟨?_⟩;refine b0c ?_;intro Q56 n56 e56 r56;refine b1p (by kernel_rfl) ?_;intro K57 q57 k57
          show b14 _ _ _ _ 20 (Array.replicate 20 false) _
          refine b0o q57 true 0 67 ?_;refine b2a q57 true 1 68 ?_;refine b0o q57 true 2 69 ?_;refine b0y q57 true 3 70 ?_;refine b0y q57 true 4 71 ?_;refine b0x q57 true 5 72 ?_;refine b0q q57 true 6 73 ?_;refine b0z q57 true 7 74 ?_;refine b0y q57 true 8 75 ?_;refine b0y q57 true 9 76 ?_;refine b0e q57 true 10 77 ?_;refine b0q q57 true 11 78 ?_;refine b2e q57 true 12 79 ?_;refine b0y q57 true 13 80 ?_;refine b0y q57 true 14 81 ?_;refine b0x q57 true 15 82 ?_;refine b0q q57 true 16 83 ?_;refine b0z q57 true 17 84 ?_;refine b38 q57 true 18 85 ?_;refine b1w q57 true 19 86 ?_;refine b0j (by kernel_rfl) ?_;refine k57 _ ?_;refine n56 _ _ (b0f [2,5,7,9,12,13,36,37,38,52,53,54,86] _) ?_;refine zk ⟨?_⟩;refine b0d _ rfl ?_ ?_
          ·intro hc4
           obtain ⟨hty,hre⟩:=hry (by omega)
           rw [hre] at hst
           refine yQ [2,5,7,9,36,37,38,52,53,54] ⟨?_⟩;refine yV ⟨?_⟩;refine n36 _ 2 ?_ ?_ ?_
           ·refine b1a [2,5,7,9,36,37,38,52,53,54] ?_
            simp only [b0s,b0k,b0h,b0i,b0n,Nat.reduceEqDiff,reduceIte]
            rw [hst];rfl
           ·omega
           ·show _ < _;omega
          ·intro hc4
           obtain ⟨htn,hre⟩:=hrn (by omega)
           rw [hre] at hst
           refine zn [2,5,7,9,36,37,38,52,53,54] ⟨?_⟩;refine yV ⟨?_⟩;refine n36 _ 2 ?_ ?_ ?_
           ·refine b1a [2,5,7,9,36,37,38,52,53,54] ?_
            simp only [b0s,b0k,b0h,b0i,b0n,Nat.reduceEqDiff,reduceIte]
            rw [hst];rfl
           ·omega
           ·show _ < _;omega
        ·intro hc3
         refine zn [2,5,7,36,37,38] ⟨?_⟩;refine yV ⟨?_⟩;refine n27 _ (i+1) ?_ ?_ ?_
         ·refine b0b [2,5,7,36,37,38] [0,1] ⟨?_⟩
          rw [show 2 * i+j=2 * (i+1) by omega];rfl
         ·exact hlt
         ·show _ < _;omega
      ·intro hc2
       refine zn [2,5,7] ⟨?_⟩;refine yV ⟨?_⟩;refine n19 _ (k+1) ?_ ?_ ?_
       ·refine b0b [2,5,7] [0,1] ⟨?_⟩
        rw [show (Tm.within m u (Tm.edges ss) k (2 * i))=(Tm.within m u (Tm.edges ss) (k+1) 0) from Tm.within_end (by omega)];rfl
       ·exact hk
       ·show _ < _;omega
    ·intro hc1
     refine zn [5] ⟨?_⟩;refine yR [4] ⟨?_⟩;refine zr ⟨?_⟩
     have hend2:k=m:=by omega
     subst hend2
     exact b9p rfl (.inl rfl)
end Go.Proofs.YtaefoaghpehbpaaGreat
