/- What functions compute. No condition. -/
import Derived.Test.YtaefoaghpehbpaaGreatUz
import Derived.Test.YtaefoaghpehbpaaGreatUty
import Derived.Test.YtaefoaghpehbpaaGreatUmG
import Derived.Test.YtaefoaghpehbpaaGreatX12
import Derived.Test.YtaefoaghpehbpaaGreatX14
import Derived.Test.YtaefoaghpehbpaaGreatX20
import Derived.Test.YtaefoaghpehbpaaGreatX21
import Derived.Test.YtaefoaghpehbpaaGreatX13
import Derived.Test.YtaefoaghpehbpaaGreatX19
import Derived.Test.YtaefoaghpehbpaaGreatX2
import Derived.Test.YtaefoaghpehbpaaGreatX4
import Derived.Test.YtaefoaghpehbpaaGreatX18
set_option linter.unusedSimpArgs false
set_option linter.unusedVariables false
set_option linter.defProp false
namespace Go.Proofs.YtaefoaghpehbpaaGreat
open Go Go.Vm
set_option maxHeartbeats 8000000
theorem c7m (nss:Int) (ss:List TS) (tb:List (Int×Int×Int×Int×Int×Int×List Int)) (flc:List TA) (inc:List TI) (wsc:List TW) (node:Int) (ax bx cx:Int) (hss:ss.length≤9223372036854775807) (htb:tb.length≤9223372036854775807) (hstb:∀t∈tb,t.2.2.2.2.2.2.length≤9223372036854775807) (hfc:flc.length≤9223372036854775807) (hfsc:∀t∈flc,t.1.size≤9223372036854775807) (hic:inc.length≤9223372036854775807) (hisc:∀t∈inc,t.2.2.2.length≤9223372036854775807∧∀s∈t.2.2.2,s.size≤9223372036854775807) (hwc:wsc.length≤9223372036854775807) (hwsc:∀t∈wsc,t.2.length≤9223372036854775807):Con Tryz.prog 6 [.agg [.int .i64 nss,.sl (ss.map (fun t:TS=>V.agg [V.int .i64 t.1,V.int .i64 t.2.1,V.int .i64 t.2.2]))],.sl (tb.map (fun t:Int×Int×Int×Int×Int×Int×List Int=>V.agg [V.int .i64 t.1,V.int .i64 t.2.1,V.int .i64 t.2.2.1,V.int .i64 t.2.2.2.1,V.int .i64 t.2.2.2.2.1,V.int .i64 t.2.2.2.2.2.1,V.sl (t.2.2.2.2.2.2.map (V.int .i64))])),.agg [.sl (flc.map (fun t:TA=>V.agg [V.str t.1,V.int .i64 t.2.1,V.int .i64 t.2.2.1,V.int .i64 t.2.2.2.1,V.int .i64 t.2.2.2.2])),.sl (inc.map (fun t:TI=>V.agg [V.int .i64 t.1,V.int .i64 t.2.1,V.bool t.2.2.1,V.sl (t.2.2.2.map V.str)])),.sl (wsc.map (fun t:TW=>V.agg [V.int .i64 t.1,V.sl (t.2.map (V.int .i64))]))],.int .i64 node,.agg [.int .i64 ax,.int .i64 bx,.int .i64 cx]] [] (.bool true) []:=by
 refine b05 [.tmp 10] [(16,[0]),(32,[0]),(17,[0])] Tryz.func6 rfl rfl rfl (by simp [Tryz.ntmps6]) ?_
 intro Q0 n0 r0
 simp only [Tryz.ntmps6,b0l,Nat.reduceAdd]
 have T:=Tys.mk (ai Ty.t3 (ai Ty.t4 (ai Ty.t9 (ai Ty.t22 (ai Ty.t24 (ai Ty.t25 (ai Ty.t26 (ai Ty.t27 (ai Ty.t29 (ai Ty.t32 (ai Ty.t33 (ai Ty.t34 (ai Ty.t36 (ai Ty.t39 (ai Ty.t41 (ai Ty.t51 (ai Ty.t57 (ai Ty.t59 (ai Ty.t63 (ai Ty.t65 (ai Ty.t75 (ai Ty.t96 (ai Ty.t99 (ai Ty.t102 (ai Ty.t133 (ai Ty.t138 (ai Ty.t158 (ai Ty.t160 (ai Ty.t162 (ai Ty.t169 Ty.t171))))))))))))))))))))))))))))))
 have F:=Fc.mk True.intro
 refine yR [1,3,5,7,9] ⟨?_⟩;refine yR [1,3,5,7,9,11] ⟨?_⟩;refine yRc [1,3,5,7,9,11] (d72 nss ss (1048576:Int) (⟨by omega,by omega⟩:(0:Int)≤1048576∧(1048576:Int)≤1048576) hss) ⟨?_⟩;refine b0c ?_;intros;refine yR [1,3,5,7,9,11,31] ⟨?_⟩;refine b0d _ rfl ?_ ?_
 ·intro hc0
  refine yR [10] ⟨?_⟩;refine zr ⟨?_⟩
  exact b0a rfl rfl (.inl rfl)
 ·intro hc0
  obtain ⟨bss,q1⟩:=f8f (⟨by omega,by omega⟩:(0:Int)≤1048576∧(1048576:Int)≤1048576).2 hc0
  refine zn [1,3,5,7,9,11] ⟨?_⟩;refine yRc [1,3,5,7,9,11] (d8d (if (1048576:Int) - (ss.length:Int) < 0 then -1 else (1048576:Int) - (ss.length:Int)) tb q1 htb hstb) ⟨?_⟩;refine b0c ?_;intros;refine yR [1,3,5,7,9,11,36] ⟨?_⟩;refine b0d _ rfl ?_ ?_
  ·intro hc1
   refine yR [10] ⟨?_⟩;refine zr ⟨?_⟩
   exact b0a rfl rfl (.inl rfl)
  ·intro hc1
   obtain ⟨btb,bntb,q2⟩:=f8a q1.1 q1.2 hc1
   have trtb:=c7r bntb
   have prtb:=c4w tb
   refine zn [1,3,5,7,9,11] ⟨?_⟩;refine yRc [1,3,5,7,9,11] (d1l (if (if (1048576:Int) - (ss.length:Int) < 0 then -1 else (1048576:Int) - (ss.length:Int)) - (tb.length:Int) < 0 then -1 else b28 b53 ((if (1048576:Int) - (ss.length:Int) < 0 then -1 else (1048576:Int) - (ss.length:Int)) - (tb.length:Int)) tb) flc inc wsc q2 hfc hfsc hic hisc hwc hwsc) ⟨?_⟩;refine b0c ?_;intros;refine yR [1,3,5,7,9,41] ⟨?_⟩;refine b0d _ rfl ?_ ?_
   ·intro hc2
    refine yR [10] ⟨?_⟩;refine zr ⟨?_⟩
    exact b0a rfl rfl (.inl rfl)
   ·intro hc2
    obtain ⟨bfc,bic,binc,bwc,bwnc,q3⟩:=f78 q2.1 q2.2 hc2
    have tic:=b3w binc
    have twc:=b6h bwnc
    have pic:=b3h inc
    have pwc:=b49 wsc
    obtain ⟨hT1,hT2,hT3,hT4,hT5⟩:=f6r nss ss flc inc wsc tb node ax bx cx bwc bwnc
    have tr1:=b3h (b3l (tkB nss ss flc inc wsc tb node ax bx cx) (tkI nss ss flc inc node (nfL tb ax bx cx)))
    have tr2:=b49 (b3l (tkB nss ss flc inc wsc tb node ax bx cx) (tkW nss ss flc inc wsc node (nfL tb ax bx cx)))
    have tr3:b1q (b3l (tkB nss ss flc inc wsc tb node ax bx cx) (tkI nss ss flc inc node (nfL tb ax bx cx)))≤_:=b3w hT3
    have tr4:b3m (b3l (tkB nss ss flc inc wsc tb node ax bx cx) (tkW nss ss flc inc wsc node (nfL tb ax bx cx)))≤_:=b6h hT5
    have c1:=d7q nss ss bss
    have c2:=d8i tb btb bntb
    have c3:=d09 flc inc wsc bfc bic binc bwc bwnc
    have c4:=d87 ax bx cx
    have c5:=d3e nss ss flc inc wsc tb node ax bx cx btb bntb bss bfc hfsc bic binc (fun x h=>(hisc x h).2) bwc bwnc
    have c6:=d2o nss ss flc inc wsc tb node ax bx cx btb bntb bss bfc hfsc bic binc (fun x h=>(hisc x h).2) bwc bwnc
    have c7:=c2l (b3l (tkB nss ss flc inc wsc tb node ax bx cx) (chF nss ss flc node (nfL tb ax bx cx))) (b3l (tkB nss ss flc inc wsc tb node ax bx cx) (tkI nss ss flc inc node (nfL tb ax bx cx))) (b3l (tkB nss ss flc inc wsc tb node ax bx cx) (tkW nss ss flc inc wsc node (nfL tb ax bx cx))) hT1 hT2 hT3 hT4 hT5
    have c8:=d9z nss ss bss
    have c9:=d9n tb tb btb bntb
    have c10:=c2l flc inc wsc bfc bic binc bwc bwnc
    have c11:=d4b nss ss (1) bss (by omega)
    have c12:=d26 tb (1+3 * ss.length) btb bntb (by omega)
    have c13:=c0u flc inc wsc (1+3 * ss.length+b5p tb) bfc bic binc bwc bwnc (by omega)
    have c14:=c0u (b3l (tkB nss ss flc inc wsc tb node ax bx cx) (chF nss ss flc node (nfL tb ax bx cx))) (b3l (tkB nss ss flc inc wsc tb node ax bx cx) (tkI nss ss flc inc node (nfL tb ax bx cx))) (b3l (tkB nss ss flc inc wsc tb node ax bx cx) (tkW nss ss flc inc wsc node (nfL tb ax bx cx))) (1) hT1 hT2 hT3 hT4 hT5 (by omega)
    have c15:=c6m (b3l (tkB nss ss flc inc wsc tb node ax bx cx) (chF nss ss flc node (nfL tb ax bx cx))) (b3l (tkB nss ss flc inc wsc tb node ax bx cx) (tkI nss ss flc inc node (nfL tb ax bx cx))) (b3l (tkB nss ss flc inc wsc tb node ax bx cx) (tkW nss ss flc inc wsc node (nfL tb ax bx cx))) (1) hT1 hT2 hT3 hT4 hT5 (by omega)
    generalize (c1b (1) ss.length).map (fun t:TS=>V.agg [V.int .i64 t.1,V.int .i64 t.2.1,V.int .i64 t.2.2])=L1 at c1 c2 c3 c4 c5 c6 c7 c8 c9 c10 c11 c12 c13 c14 c15⊢
    generalize (b5l (1+3 * ss.length) tb).map (fun t:Int×Int×Int×Int×Int×Int×List Int=>V.agg [V.int .i64 t.1,V.int .i64 t.2.1,V.int .i64 t.2.2.1,V.int .i64 t.2.2.2.1,V.int .i64 t.2.2.2.2.1,V.int .i64 t.2.2.2.2.2.1,V.sl (t.2.2.2.2.2.2.map (V.int .i64))])=L2 at c1 c2 c3 c4 c5 c6 c7 c8 c9 c10 c11 c12 c13 c14 c15⊢
    generalize (b2t (1+3 * ss.length+b5p tb) flc.length).map (fun t:TA=>V.agg [V.str t.1,V.int .i64 t.2.1,V.int .i64 t.2.2.1,V.int .i64 t.2.2.2.1,V.int .i64 t.2.2.2.2])=L3 at c1 c2 c3 c4 c5 c6 c7 c8 c9 c10 c11 c12 c13 c14 c15⊢
    generalize (b1m ((1+3 * ss.length+b5p tb)+5 * flc.length) inc).map (fun t:TI=>V.agg [V.int .i64 t.1,V.int .i64 t.2.1,V.bool t.2.2.1,V.sl (t.2.2.2.map V.str)])=L4 at c1 c2 c3 c4 c5 c6 c7 c8 c9 c10 c11 c12 c13 c14 c15⊢
    generalize (b2d (((1+3 * ss.length+b5p tb)+5 * flc.length)+b1q inc) wsc).map (fun t:TW=>V.agg [V.int .i64 t.1,V.sl (t.2.map (V.int .i64))])=L5 at c1 c2 c3 c4 c5 c6 c7 c8 c9 c10 c11 c12 c13 c14 c15⊢
    generalize (b2t (1) (b3l (tkB nss ss flc inc wsc tb node ax bx cx) (chF nss ss flc node (nfL tb ax bx cx))).length).map (fun t:TA=>V.agg [V.str t.1,V.int .i64 t.2.1,V.int .i64 t.2.2.1,V.int .i64 t.2.2.2.1,V.int .i64 t.2.2.2.2])=L6 at c1 c2 c3 c4 c5 c6 c7 c8 c9 c10 c11 c12 c13 c14 c15⊢
    generalize (b1m ((1)+5 * (b3l (tkB nss ss flc inc wsc tb node ax bx cx) (chF nss ss flc node (nfL tb ax bx cx))).length) (b3l (tkB nss ss flc inc wsc tb node ax bx cx) (tkI nss ss flc inc node (nfL tb ax bx cx)))).map (fun t:TI=>V.agg [V.int .i64 t.1,V.int .i64 t.2.1,V.bool t.2.2.1,V.sl (t.2.2.2.map V.str)])=L7 at c1 c2 c3 c4 c5 c6 c7 c8 c9 c10 c11 c12 c13 c14 c15⊢
    generalize (b2d (((1)+5 * (b3l (tkB nss ss flc inc wsc tb node ax bx cx) (chF nss ss flc node (nfL tb ax bx cx))).length)+b1q (b3l (tkB nss ss flc inc wsc tb node ax bx cx) (tkI nss ss flc inc node (nfL tb ax bx cx)))) (b3l (tkB nss ss flc inc wsc tb node ax bx cx) (tkW nss ss flc inc wsc node (nfL tb ax bx cx)))).map (fun t:TW=>V.agg [V.int .i64 t.1,V.sl (t.2.map (V.int .i64))])=L8 at c1 c2 c3 c4 c5 c6 c7 c8 c9 c10 c11 c12 c13 c14 c15⊢
    generalize ss.map (fun t:TS=>V.agg [V.int .i64 t.1,V.int .i64 t.2.1,V.int .i64 t.2.2])=L9 at c1 c2 c3 c4 c5 c6 c7 c8 c9 c10 c11 c12 c13 c14 c15⊢
    generalize tb.map (fun t:Int×Int×Int×Int×Int×Int×List Int=>V.agg [V.int .i64 t.1,V.int .i64 t.2.1,V.int .i64 t.2.2.1,V.int .i64 t.2.2.2.1,V.int .i64 t.2.2.2.2.1,V.int .i64 t.2.2.2.2.2.1,V.sl (t.2.2.2.2.2.2.map (V.int .i64))])=L10 at c1 c2 c3 c4 c5 c6 c7 c8 c9 c10 c11 c12 c13 c14 c15⊢
    generalize flc.map (fun t:TA=>V.agg [V.str t.1,V.int .i64 t.2.1,V.int .i64 t.2.2.1,V.int .i64 t.2.2.2.1,V.int .i64 t.2.2.2.2])=L11 at c1 c2 c3 c4 c5 c6 c7 c8 c9 c10 c11 c12 c13 c14 c15⊢
    generalize inc.map (fun t:TI=>V.agg [V.int .i64 t.1,V.int .i64 t.2.1,V.bool t.2.2.1,V.sl (t.2.2.2.map V.str)])=L12 at c1 c2 c3 c4 c5 c6 c7 c8 c9 c10 c11 c12 c13 c14 c15⊢
    generalize wsc.map (fun t:TW=>V.agg [V.int .i64 t.1,V.sl (t.2.map (V.int .i64))])=L13 at c1 c2 c3 c4 c5 c6 c7 c8 c9 c10 c11 c12 c13 c14 c15⊢
    generalize (b3l (tkB nss ss flc inc wsc tb node ax bx cx) (chF nss ss flc node (nfL tb ax bx cx))).map (fun t:TA=>V.agg [V.str t.1,V.int .i64 t.2.1,V.int .i64 t.2.2.1,V.int .i64 t.2.2.2.1,V.int .i64 t.2.2.2.2])=L14 at c1 c2 c3 c4 c5 c6 c7 c8 c9 c10 c11 c12 c13 c14 c15⊢
    generalize (b3l (tkB nss ss flc inc wsc tb node ax bx cx) (tkI nss ss flc inc node (nfL tb ax bx cx))).map (fun t:TI=>V.agg [V.int .i64 t.1,V.int .i64 t.2.1,V.bool t.2.2.1,V.sl (t.2.2.2.map V.str)])=L15 at c1 c2 c3 c4 c5 c6 c7 c8 c9 c10 c11 c12 c13 c14 c15⊢
    generalize (b3l (tkB nss ss flc inc wsc tb node ax bx cx) (tkW nss ss flc inc wsc node (nfL tb ax bx cx))).map (fun t:TW=>V.agg [V.int .i64 t.1,V.sl (t.2.map (V.int .i64))])=L16 at c1 c2 c3 c4 c5 c6 c7 c8 c9 c10 c11 c12 c13 c14 c15⊢
    refine zn [1,3,5,7,9] ⟨?_⟩
    apply f0u
    ·intro Q18 n18 e18 r18
     refine b1p (by kernel_rfl) ?_;intro K19 q19 k19
     show b14 _ _ _ _ 18 (Array.replicate 18 false) _
     refine b6d q19 true 0 43 ?_;refine b0o q19 true 2 45 ?_;refine b6d q19 true 4 47 ?_;refine b0o q19 true 6 49 ?_;refine b6d q19 true 7 50 ?_;refine b1s 1 14 rfl rfl (by kernel_rfl) ?_ ?_
     ·refine zsc (c1) ⟨?_⟩
      refine b1s 3 14 rfl rfl (by kernel_rfl) ?_ ?_
      ·refine zsc (c2) ⟨?_⟩
       refine b1s 5 14 rfl rfl (by kernel_rfl) ?_ ?_
       ·refine zsc (c3) ⟨?_⟩
        refine b1s 8 14 rfl rfl (by kernel_rfl) ?_ ?_
        ·refine zsc (c4) ⟨?_⟩
         refine b1s 9 14 rfl rfl (by kernel_rfl) ?_ ?_
         ·refine zsc (c5) ⟨?_⟩
          refine b0o q19 true 10 42 ?_;refine b1f q19 true 11 53 ?_;refine b1f q19 false 12 54 ?_;refine b1f q19 false 13 55 ?_;refine d06 14 ⟨?_⟩;refine b2i 15 ⟨?_⟩;refine b0t 16 ⟨?_⟩;refine b0t 17 ⟨?_⟩;refine b0j (by kernel_rfl) ?_;refine k19 _ ?_;refine n18 _ ?_
          exact d0g [1,3,5,7,9,12,13,14] [0,1,2,3,4,5,6,7,8,9,10,11,12,13,14]
         ·refine b5j ⟨?_⟩
          refine zoc 9 (c5) ⟨?_⟩;refine b0o q19 true 10 42 ?_;refine b1f q19 true 11 53 ?_;refine b1f q19 false 12 54 ?_;refine b1f q19 false 13 55 ?_;refine b2i 15 ⟨?_⟩;refine b0t 16 ⟨?_⟩;refine b0t 17 ⟨?_⟩;refine b0j (by kernel_rfl) ?_;refine k19 _ ?_;refine n18 _ ?_
          exact b3r [1,3,5,7,9,12,13,14] [0,1,2,3,4,5,6,7,12,13,14,8,9,10,11]
        ·refine b5j ⟨?_⟩
         refine zoc 8 (c4) ⟨?_⟩;refine zoc 9 (c5) ⟨?_⟩;refine b0o q19 true 10 42 ?_;refine b1f q19 true 11 53 ?_;refine b1f q19 false 12 54 ?_;refine b1f q19 false 13 55 ?_;refine b2i 15 ⟨?_⟩;refine b0t 16 ⟨?_⟩;refine b0t 17 ⟨?_⟩;refine b0j (by kernel_rfl) ?_;refine k19 _ ?_;refine n18 _ ?_
         exact b3r [1,3,5,7,9,12,13,14] [0,1,2,3,4,5,6,7,12,13,14,8,9,10,11]
       ·refine b5j ⟨?_⟩
        refine zoc 5 (c3) ⟨?_⟩;refine zoc 8 (c4) ⟨?_⟩;refine zoc 9 (c5) ⟨?_⟩;refine b0o q19 true 10 42 ?_;refine b1f q19 true 11 53 ?_;refine b1f q19 false 12 54 ?_;refine b1f q19 false 13 55 ?_;refine b2i 15 ⟨?_⟩;refine b0t 16 ⟨?_⟩;refine b0t 17 ⟨?_⟩;refine b0j (by kernel_rfl) ?_;refine k19 _ ?_;refine n18 _ ?_
        exact b3r [1,3,5,7,9,12,13,14] [0,1,2,3,4,9,10,11,12,13,14,5,6,7,8]
      ·refine b5j ⟨?_⟩
       refine zoc 3 (c2) ⟨?_⟩;refine zoc 5 (c3) ⟨?_⟩;refine zoc 8 (c4) ⟨?_⟩;refine zoc 9 (c5) ⟨?_⟩;refine b0o q19 true 10 42 ?_;refine b1f q19 true 11 53 ?_;refine b1f q19 false 12 54 ?_;refine b1f q19 false 13 55 ?_;refine b2i 15 ⟨?_⟩;refine b0t 16 ⟨?_⟩;refine b0t 17 ⟨?_⟩;refine b0j (by kernel_rfl) ?_;refine k19 _ ?_;refine n18 _ ?_
       exact b3r [1,3,5,7,9,12,13,14] [0,1,2,3,8,9,10,11,12,13,14,4,5,6,7]
     ·refine b5j ⟨?_⟩
      refine zoc 1 (c1) ⟨?_⟩;refine zoc 3 (c2) ⟨?_⟩;refine zoc 5 (c3) ⟨?_⟩;refine zoc 8 (c4) ⟨?_⟩;refine zoc 9 (c5) ⟨?_⟩;refine b0o q19 true 10 42 ?_;refine b1f q19 true 11 53 ?_;refine b1f q19 false 12 54 ?_;refine b1f q19 false 13 55 ?_;refine b2i 15 ⟨?_⟩;refine b0t 16 ⟨?_⟩;refine b0t 17 ⟨?_⟩;refine b0j (by kernel_rfl) ?_;refine k19 _ ?_;refine n18 _ ?_
      exact b3r [1,3,5,7,9,12,13,14] [0,1,2,7,8,9,10,11,12,13,14,3,4,5,6]
    ·refine zkm ⟨?_⟩
     have F:=Fc.mk True.intro
     refine yRc [1,3,5,7,9,12,13,14,15] (c1) ⟨?_⟩;refine yRc [1,3,5,7,9,12,13,14,15,16] (c2) ⟨?_⟩;refine yRc [1,3,5,7,9,12,13,14,15,16,17] (c3) ⟨?_⟩
     apply f0u
     ·intro Q23 n23 e23 r23
      refine b1p (by kernel_rfl) ?_;intro K24 q24 k24
      show b14 _ _ _ _ 15 (Array.replicate 15 false) _
      refine b6d q24 true 0 63 ?_;refine b0o q24 true 1 64 ?_;refine b6d q24 true 2 65 ?_;refine b0o q24 true 3 66 ?_;refine b6d q24 true 4 67 ?_;refine b1s 5 11 rfl rfl (by kernel_rfl) ?_ ?_
      ·refine zsc (c4) ⟨?_⟩
       refine b1s 6 11 rfl rfl (by kernel_rfl) ?_ ?_
       ·refine zsc (c6) ⟨?_⟩
        refine b0o q24 true 7 62 ?_;refine b1f q24 true 8 70 ?_;refine b1f q24 false 9 71 ?_;refine b1f q24 false 10 72 ?_;refine d06 11 ⟨?_⟩;refine b2i 12 ⟨?_⟩;refine b0t 13 ⟨?_⟩;refine b0t 14 ⟨?_⟩;refine b0j (by kernel_rfl) ?_;refine k24 _ ?_;refine n23 _ ?_
        exact d0g [1,3,5,7,9,12,13,14,15,16,17,18,19,20] [0,1,2,3,4,5,6,7,8,9,10,11,12,13,14,15,16,17,18,19,20,21,22,23,24,25,26,27,28,29,30,31,32]
       ·refine b5j ⟨?_⟩
        refine zoc 6 (c6) ⟨?_⟩;refine b0o q24 true 7 62 ?_;refine b1f q24 true 8 70 ?_;refine b1f q24 false 9 71 ?_;refine b1f q24 false 10 72 ?_;refine b2i 12 ⟨?_⟩;refine b0t 13 ⟨?_⟩;refine b0t 14 ⟨?_⟩;refine b0j (by kernel_rfl) ?_;refine k24 _ ?_;refine n23 _ ?_
        exact b3r [1,3,5,7,9,12,13,14,15,16,17,18,19,20] [0,1,2,3,4,5,6,7,8,9,10,11,12,13,14,15,16,17,18,19,20,21,22,23,24,25,30,31,32,26,27,28,29]
      ·refine b5j ⟨?_⟩
       refine zoc 5 (c4) ⟨?_⟩;refine zoc 6 (c6) ⟨?_⟩;refine b0o q24 true 7 62 ?_;refine b1f q24 true 8 70 ?_;refine b1f q24 false 9 71 ?_;refine b1f q24 false 10 72 ?_;refine b2i 12 ⟨?_⟩;refine b0t 13 ⟨?_⟩;refine b0t 14 ⟨?_⟩;refine b0j (by kernel_rfl) ?_;refine k24 _ ?_;refine n23 _ ?_
       exact b3r [1,3,5,7,9,12,13,14,15,16,17,18,19,20] [0,1,2,3,4,5,6,7,8,9,10,11,12,13,14,15,16,17,18,19,20,21,22,23,24,25,30,31,32,26,27,28,29]
     ·refine zkm ⟨?_⟩
      refine b0c ?_;intros
      have F:=Fc.mk True.intro
      refine yRc [1,3,5,7,9,12,13,14,15,16,17,18,19,20,86] (c7) ⟨?_⟩;refine b1z _ rfl ?_ ?_
      ·intro hc3
       exfalso;first | (simp at hc3;done) | (simp at hc3;omega)
      ·intro hc3
       try simp only [zC,reduceCtorEq] at hc3
       refine zn [1,3,5,7,9,12,13,14,15,16,17,18,19,20] ⟨?_⟩;refine b0c ?_;intros;refine b0c ?_;intro Q29 n29 e29 r29;refine b1p (by kernel_rfl) ?_;intro K30 q30 k30
       show b14 _ _ _ _ 5 (Array.replicate 5 false) _
       refine b6d q30 true 0 87 ?_;refine b6d q30 true 1 88 ?_;refine zoc 2 (c1) ⟨?_⟩;refine zoc 3 (c8) ⟨?_⟩;refine b5q q30 true 4 91 ?_;refine b0j (by kernel_rfl) ?_;refine k30 _ ?_;refine n29 _ _ (b0f [1,3,5,7,9,12,13,14,15,16,17,18,19,20,91] _) ?_;refine zk ⟨?_⟩;refine b1z _ rfl ?_ ?_
       ·intro hc4
        exfalso;first | (simp at hc4;done) | (simp at hc4;omega)
       ·intro hc4
        try simp only [zC,reduceCtorEq] at hc4
        refine zn [1,3,5,7,9,12,13,14,15,16,17,18,19,20] ⟨?_⟩;refine b0c ?_;intros;refine f8d [1,3,5,7,9,12,13,14,15,16,17,18,19,20,96] (c2) (c9) ⟨?_⟩;refine b1z _ rfl ?_ ?_
        ·intro hc5
         exfalso;first | (simp at hc5;done) | (simp at hc5;omega)
        ·intro hc5
         try simp only [zC,reduceCtorEq] at hc5
         refine zn [1,3,5,7,9,12,13,14,15,16,17,18,19,20] ⟨?_⟩;refine b0c ?_;intros;refine b0c ?_;intro Q36 n36 e36 r36;refine b1p (by kernel_rfl) ?_;intro K37 q37 k37
         show b14 _ _ _ _ 5 (Array.replicate 5 false) _
         refine b6d q37 true 0 97 ?_;refine b6d q37 true 1 98 ?_;refine zoc 2 (c3) ⟨?_⟩;refine zoc 3 (c10) ⟨?_⟩;refine b5q q37 true 4 101 ?_;refine b0j (by kernel_rfl) ?_;refine k37 _ ?_;refine n36 _ _ (b0f [1,3,5,7,9,12,13,14,15,16,17,18,19,20,101] _) ?_;refine zk ⟨?_⟩;refine b1z _ rfl ?_ ?_
         ·intro hc6
          exfalso;first | (simp at hc6;done) | (simp at hc6;omega)
         ·intro hc6
          try simp only [zC,reduceCtorEq] at hc6
          refine zn [1,3,5,7,9,12,13,14,15,16,17,18,19,20] ⟨?_⟩;refine yR [1,3,5,7,9,12,13,14,15,16,17,18,19,20,21] ⟨?_⟩;refine yRl [1,3,5,7,9,12,13,14,16,17,18,19,20,21] (c11) ⟨?_⟩;refine yRl [1,3,5,7,9,12,13,14,17,18,19,20,21] (c12) ⟨?_⟩;refine yR3 [1,3,5,7,9,12,13,14,18,19,20,21] (c13) ⟨?_⟩;refine b0c ?_;intros;refine yRg [1,3,5,7,9,12,13,14,18,128] (c7) ⟨?_⟩;refine b1z _ rfl ?_ ?_
          ·intro hc7
           exfalso;first | (simp at hc7;done) | (simp at hc7;omega)
          ·intro hc7
           try simp only [zC,reduceCtorEq] at hc7
           refine zn [1,3,5,7,9,12,13,14,18] ⟨?_⟩;refine yR [1,3,5,7,9,12,13,14,18,22] ⟨?_⟩;refine yR3 [1,3,5,7,9,12,13,14,18,22] (c14) ⟨?_⟩;refine yR [1,3,5,7,9,12,13,14,18,22,23] ⟨?_⟩;refine yRc [1,3,5,7,9,12,13,14,18,22,23] (c15) ⟨?_⟩;refine b0c ?_;intros;refine yR [1,3,5,7,9,12,13,14,18,22,23,136] ⟨?_⟩;refine b1z _ rfl ?_ ?_
           ·intro hc8
            exfalso;first | (simp at hc8;done) | (simp at hc8;omega)
           ·intro hc8
            try simp only [zC,reduceCtorEq] at hc8
            refine zn [1,3,5,7,9,12,13,14,18,22,23] ⟨?_⟩;refine b0c ?_;intros;refine yR [1,3,5,7,9,12,13,14,18,22,139] ⟨?_⟩;refine b1z _ rfl ?_ ?_
            ·intro hc9
             exfalso;first | (simp at hc9;done) | (simp at hc9;omega)
            ·intro hc9
             try simp only [zC,reduceCtorEq] at hc9
             refine zn [1,3,5,7,9,12,13,14,18,22] ⟨?_⟩
             apply f0u
             ·intro Q56 n56 e56 r56
              refine b1p (by kernel_rfl) ?_;intro K57 q57 k57
              show b14 _ _ _ _ 18 (Array.replicate 18 false) _
              refine b6d q57 true 0 141 ?_;refine b0o q57 true 2 143 ?_;refine b6d q57 true 4 145 ?_;refine b0o q57 true 6 147 ?_;refine b6d q57 true 7 148 ?_;refine b1s 1 14 rfl rfl (by kernel_rfl) ?_ ?_
              ·refine zsc (c1) ⟨?_⟩
               refine b1s 3 14 rfl rfl (by kernel_rfl) ?_ ?_
               ·refine zsc (c2) ⟨?_⟩
                refine b1s 5 14 rfl rfl (by kernel_rfl) ?_ ?_
                ·refine zsc (c3) ⟨?_⟩
                 refine b1s 8 14 rfl rfl (by kernel_rfl) ?_ ?_
                 ·refine zsc (c4) ⟨?_⟩
                  refine b1s 9 14 rfl rfl (by kernel_rfl) ?_ ?_
                  ·refine zsc (c6) ⟨?_⟩
                   refine b0o q57 true 10 140 ?_;refine b1f q57 true 11 151 ?_;refine b1f q57 false 12 152 ?_;refine b1f q57 false 13 153 ?_;refine d06 14 ⟨?_⟩;refine b2i 15 ⟨?_⟩;refine b0t 16 ⟨?_⟩;refine b0t 17 ⟨?_⟩;refine b0j (by kernel_rfl) ?_;refine k57 _ ?_;refine n56 _ ?_
                   exact d0g [12,13,14,18,22,24,25,26] [0,1,2,3,4,5,6,7,8,9,10,11,12,13,14,15,16,17,18,19,20,21,22,23,24,25,26,27,28,29,30,31,32,33,34,35,36,37,38,39,40,41,42,43,44,45,46,47,48,49]
                  ·refine b5j ⟨?_⟩
                   refine zoc 9 (c6) ⟨?_⟩;refine b0o q57 true 10 140 ?_;refine b1f q57 true 11 151 ?_;refine b1f q57 false 12 152 ?_;refine b1f q57 false 13 153 ?_;refine b2i 15 ⟨?_⟩;refine b0t 16 ⟨?_⟩;refine b0t 17 ⟨?_⟩;refine b0j (by kernel_rfl) ?_;refine k57 _ ?_;refine n56 _ ?_
                   exact b3r [12,13,14,18,22,24,25,26] [0,1,2,3,4,5,6,7,8,9,10,11,12,13,14,15,16,17,18,19,20,21,22,23,24,25,26,27,28,29,30,31,32,33,34,35,36,37,38,39,40,41,42,47,48,49,43,44,45,46]
                 ·refine b5j ⟨?_⟩
                  refine zoc 8 (c4) ⟨?_⟩;refine zoc 9 (c6) ⟨?_⟩;refine b0o q57 true 10 140 ?_;refine b1f q57 true 11 151 ?_;refine b1f q57 false 12 152 ?_;refine b1f q57 false 13 153 ?_;refine b2i 15 ⟨?_⟩;refine b0t 16 ⟨?_⟩;refine b0t 17 ⟨?_⟩;refine b0j (by kernel_rfl) ?_;refine k57 _ ?_;refine n56 _ ?_
                  exact b3r [12,13,14,18,22,24,25,26] [0,1,2,3,4,5,6,7,8,9,10,11,12,13,14,15,16,17,18,19,20,21,22,23,24,25,26,27,28,29,30,31,32,33,34,35,36,37,38,39,40,41,42,47,48,49,43,44,45,46]
                ·refine b5j ⟨?_⟩
                 refine zoc 5 (c3) ⟨?_⟩;refine zoc 8 (c4) ⟨?_⟩;refine zoc 9 (c6) ⟨?_⟩;refine b0o q57 true 10 140 ?_;refine b1f q57 true 11 151 ?_;refine b1f q57 false 12 152 ?_;refine b1f q57 false 13 153 ?_;refine b2i 15 ⟨?_⟩;refine b0t 16 ⟨?_⟩;refine b0t 17 ⟨?_⟩;refine b0j (by kernel_rfl) ?_;refine k57 _ ?_;refine n56 _ ?_
                 exact b3r [12,13,14,18,22,24,25,26] [0,1,2,3,4,5,6,7,8,9,10,11,12,13,14,15,16,17,18,19,20,21,22,23,24,25,26,27,28,29,30,31,32,33,34,35,36,37,38,39,44,45,46,47,48,49,40,41,42,43]
               ·refine b5j ⟨?_⟩
                refine zoc 3 (c2) ⟨?_⟩;refine zoc 5 (c3) ⟨?_⟩;refine zoc 8 (c4) ⟨?_⟩;refine zoc 9 (c6) ⟨?_⟩;refine b0o q57 true 10 140 ?_;refine b1f q57 true 11 151 ?_;refine b1f q57 false 12 152 ?_;refine b1f q57 false 13 153 ?_;refine b2i 15 ⟨?_⟩;refine b0t 16 ⟨?_⟩;refine b0t 17 ⟨?_⟩;refine b0j (by kernel_rfl) ?_;refine k57 _ ?_;refine n56 _ ?_
                exact b3r [12,13,14,18,22,24,25,26] [0,1,2,3,4,5,6,7,8,9,10,11,12,13,14,15,16,17,18,19,20,21,22,23,24,25,26,27,28,29,30,31,32,33,34,35,36,37,38,43,44,45,46,47,48,49,39,40,41,42]
              ·refine b5j ⟨?_⟩
               refine zoc 1 (c1) ⟨?_⟩;refine zoc 3 (c2) ⟨?_⟩;refine zoc 5 (c3) ⟨?_⟩;refine zoc 8 (c4) ⟨?_⟩;refine zoc 9 (c6) ⟨?_⟩;refine b0o q57 true 10 140 ?_;refine b1f q57 true 11 151 ?_;refine b1f q57 false 12 152 ?_;refine b1f q57 false 13 153 ?_;refine b2i 15 ⟨?_⟩;refine b0t 16 ⟨?_⟩;refine b0t 17 ⟨?_⟩;refine b0j (by kernel_rfl) ?_;refine k57 _ ?_;refine n56 _ ?_
               exact b3r [12,13,14,18,22,24,25,26] [0,1,2,3,4,5,6,7,8,9,10,11,12,13,14,15,16,17,18,19,20,21,22,23,24,25,26,27,28,29,30,31,32,33,34,35,36,37,42,43,44,45,46,47,48,49,38,39,40,41]
             ·refine zkm ⟨?_⟩
              refine b0c ?_;intros
              have F:=Fc.mk True.intro
              refine yRc [18,22,167] (c7) ⟨?_⟩;refine b1z _ rfl ?_ ?_
              ·intro hc10
               exfalso;first | (simp at hc10;done) | (simp at hc10;omega)
              ·intro hc10
               try simp only [zC,reduceCtorEq] at hc10
               refine zn [18,22] ⟨?_⟩;refine yR [18,22,23] ⟨?_⟩;refine yRc [22,23] (c15) ⟨?_⟩;refine b0c ?_;intros;refine yR [22,23,172] ⟨?_⟩;refine b1z _ rfl ?_ ?_
               ·intro hc11
                exfalso;first | (simp at hc11;done) | (simp at hc11;omega)
               ·intro hc11
                try simp only [zC,reduceCtorEq] at hc11
                refine zn [22,23] ⟨?_⟩;refine b0c ?_;intros;refine yR [175] ⟨?_⟩;refine b1z _ rfl ?_ ?_
                ·intro hc12
                 exfalso;first | (simp at hc12;done) | (simp at hc12;omega)
                ·intro hc12
                 try simp only [zC,reduceCtorEq] at hc12
                 refine zn [] ⟨?_⟩;refine yR [10] ⟨?_⟩;refine zr ⟨?_⟩
                 exact b0a rfl rfl (.inl rfl)
end Go.Proofs.YtaefoaghpehbpaaGreat
