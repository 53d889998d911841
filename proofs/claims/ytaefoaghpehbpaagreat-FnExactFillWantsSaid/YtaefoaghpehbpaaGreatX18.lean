/- What functions compute. No condition. -/
import Derived.Test.YtaefoaghpehbpaaGreatUz
import Derived.Test.YtaefoaghpehbpaaGreatUty
import Derived.Test.YtaefoaghpehbpaaGreatUmG
import Derived.Test.YtaefoaghpehbpaaGreatX10
import Derived.Test.YtaefoaghpehbpaaGreatX13
import Derived.Test.YtaefoaghpehbpaaGreatX17
import Derived.Test.YtaefoaghpehbpaaGreatX12
import Derived.Test.YtaefoaghpehbpaaGreatX11
import Derived.Test.YtaefoaghpehbpaaGreatX2
import Derived.Test.YtaefoaghpehbpaaGreatX4
import Derived.Test.YtaefoaghpehbpaaGreatX16
set_option linter.unusedSimpArgs false
set_option linter.unusedVariables false
set_option linter.defProp false
namespace Go.Proofs.YtaefoaghpehbpaaGreat
open Go Go.Vm
set_option maxHeartbeats 8000000
theorem lawFillWants_con (nss:Int) (ss:List TS) (flc:List TA) (inc:List TI) (wsc:List TW) (hss:ss.length≤9223372036854775807) (hfc:flc.length≤9223372036854775807) (hfsc:∀t∈flc,t.1.size≤9223372036854775807) (hic:inc.length≤9223372036854775807) (hisc:∀t∈inc,t.2.2.2.length≤9223372036854775807∧∀s∈t.2.2.2,s.size≤9223372036854775807) (hwc:wsc.length≤9223372036854775807) (hwsc:∀t∈wsc,t.2.length≤9223372036854775807):Con Tryz.prog 5 [.agg [.int .i64 nss,.sl (ss.map (fun t:TS=>V.agg [V.int .i64 t.1,V.int .i64 t.2.1,V.int .i64 t.2.2]))],.agg [.sl (flc.map (fun t:TA=>V.agg [V.str t.1,V.int .i64 t.2.1,V.int .i64 t.2.2.1,V.int .i64 t.2.2.2.1,V.int .i64 t.2.2.2.2])),.sl (inc.map (fun t:TI=>V.agg [V.int .i64 t.1,V.int .i64 t.2.1,V.bool t.2.2.1,V.sl (t.2.2.2.map V.str)])),.sl (wsc.map (fun t:TW=>V.agg [V.int .i64 t.1,V.sl (t.2.map (V.int .i64))]))]] [] (.bool true) []:=by
 refine v_con [.tmp 4] [(16,[0]),(17,[0]),(24,[0])] Tryz.func5 rfl rfl rfl (by simp [Tryz.ntmps5]) ?_
 intro Q0 n0 r0
 simp only [Tryz.ntmps5,envFrom,Nat.reduceAdd]
 have T:=Tys.mk (ai Ty.t3 (ai Ty.t4 (ai Ty.t9 (ai Ty.t22 (ai Ty.t24 (ai Ty.t25 (ai Ty.t26 (ai Ty.t27 (ai Ty.t29 (ai Ty.t32 (ai Ty.t33 (ai Ty.t34 (ai Ty.t36 (ai Ty.t39 (ai Ty.t41 (ai Ty.t51 (ai Ty.t75 (ai Ty.t96 (ai Ty.t99 (ai Ty.t102 (ai Ty.t158 (ai Ty.t160 (ai Ty.t162 (ai Ty.t169 Ty.t171))))))))))))))))))))))))
 have F:=Fc.mk True.intro
 refine yR [2,3] ⟨?_⟩;refine yR [2,3,5] ⟨?_⟩;refine yRc [2,3,5] (szTown_con nss ss (1048576:Int) (⟨by omega,by omega⟩:(0:Int)≤1048576∧(1048576:Int)≤1048576) hss) ⟨?_⟩;refine v_seq ?_;intros;refine yR [2,3,5,24] ⟨?_⟩;refine v_condS _ rfl ?_ ?_
 ·intro hc0
  refine yR [4] ⟨?_⟩;refine zr ⟨?_⟩
  exact ret_pure rfl rfl (.inl rfl)
 ·intro hc0
  obtain ⟨bss,q1⟩:=szIf (⟨by omega,by omega⟩:(0:Int)≤1048576∧(1048576:Int)≤1048576).2 hc0
  refine zn [2,3,5] ⟨?_⟩;refine yRc [2,3,5] (szControl_con (if (1048576:Int) - (ss.length:Int) < 0 then -1 else (1048576:Int) - (ss.length:Int)) flc inc wsc q1 hfc hfsc hic hisc hwc hwsc) ⟨?_⟩;refine v_seq ?_;intros;refine yR [2,3,29] ⟨?_⟩;refine v_condS _ rfl ?_ ?_
  ·intro hc1
   refine yR [4] ⟨?_⟩;refine zr ⟨?_⟩
   exact ret_pure rfl rfl (.inl rfl)
  ·intro hc1
   obtain ⟨bfc,bic,binc,bwc,bwnc,q2⟩:=szIfC q1.1 q1.2 hc1
   have tic:=totIncident_le binc
   have twc:=totWant_le bwnc
   have pic:=totIncident_pos inc
   have pwc:=totWant_pos wsc
   obtain ⟨hT1,hT2,hT3,hT4,hT5,hT6⟩:=fill_T nss ss flc inc wsc
   have tr1:=totIncident_pos (orNil (ctlB nss ss flc inc wsc) (fillTo nss ss flc inc wsc wsc.length).2.1)
   have tr2:=totWant_pos (orNil (ctlB nss ss flc inc wsc) (fillTo nss ss flc inc wsc wsc.length).2.2.1)
   have tr3:totIncident (orNil (ctlB nss ss flc inc wsc) (fillTo nss ss flc inc wsc wsc.length).2.1)≤_:=totIncident_le hT3
   have tr4:totWant (orNil (ctlB nss ss flc inc wsc) (fillTo nss ss flc inc wsc wsc.length).2.2.1)≤_:=totWant_le hT5
   have c1:=toTown_con nss ss bss
   have c2:=toControl_con flc inc wsc bfc bic binc bwc bwnc
   have c3:=specFill2_con nss ss flc inc wsc bss bfc hfsc bic binc (fun x h=>(hisc x h).2) bwc bwnc
   have c4:=implFill2_con nss ss flc inc wsc bss bfc hfsc bic binc (fun x h=>(hisc x h).2) bwc bwnc
   have c5:=eqControl_con (orNil (ctlB nss ss flc inc wsc) (fillTo nss ss flc inc wsc wsc.length).1) (orNil (ctlB nss ss flc inc wsc) (fillTo nss ss flc inc wsc wsc.length).2.1) (orNil (ctlB nss ss flc inc wsc) (fillTo nss ss flc inc wsc wsc.length).2.2.1) hT1 hT2 hT3 hT4 hT5
   have c6:=eqStringS_con (orNil (ctlB nss ss flc inc wsc) (fillTo nss ss flc inc wsc wsc.length).2.2.2) (orNil (ctlB nss ss flc inc wsc) (fillTo nss ss flc inc wsc wsc.length).2.2.2) hT6
   have c7:=eqTown_con nss ss bss
   have c8:=eqControl_con flc inc wsc bfc bic binc bwc bwnc
   have c9:=markTown_con nss ss (1) bss (by omega)
   have c10:=markControl_con flc inc wsc (1+3 * ss.length) bfc bic binc bwc bwnc (by omega)
   have c11:=markControl_con (orNil (ctlB nss ss flc inc wsc) (fillTo nss ss flc inc wsc wsc.length).1) (orNil (ctlB nss ss flc inc wsc) (fillTo nss ss flc inc wsc wsc.length).2.1) (orNil (ctlB nss ss flc inc wsc) (fillTo nss ss flc inc wsc wsc.length).2.2.1) (1) hT1 hT2 hT3 hT4 hT5 (by omega)
   have c12:=markStringS_con (orNil (ctlB nss ss flc inc wsc) (fillTo nss ss flc inc wsc wsc.length).2.2.2) (1+5 * (orNil (ctlB nss ss flc inc wsc) (fillTo nss ss flc inc wsc wsc.length).1).length+totIncident (orNil (ctlB nss ss flc inc wsc) (fillTo nss ss flc inc wsc wsc.length).2.1)+totWant (orNil (ctlB nss ss flc inc wsc) (fillTo nss ss flc inc wsc wsc.length).2.2.1)) hT6 (by omega)
   have c13:=heldControl_con (orNil (ctlB nss ss flc inc wsc) (fillTo nss ss flc inc wsc wsc.length).1) (orNil (ctlB nss ss flc inc wsc) (fillTo nss ss flc inc wsc wsc.length).2.1) (orNil (ctlB nss ss flc inc wsc) (fillTo nss ss flc inc wsc wsc.length).2.2.1) (1) hT1 hT2 hT3 hT4 hT5 (by omega)
   have c14:=heldStringS_con (1+5 * (orNil (ctlB nss ss flc inc wsc) (fillTo nss ss flc inc wsc wsc.length).1).length+totIncident (orNil (ctlB nss ss flc inc wsc) (fillTo nss ss flc inc wsc wsc.length).2.1)+totWant (orNil (ctlB nss ss flc inc wsc) (fillTo nss ss flc inc wsc wsc.length).2.2.1)) (orNil (ctlB nss ss flc inc wsc) (fillTo nss ss flc inc wsc wsc.length).2.2.2).length hT6 (by omega)
   generalize (markStreet (1) ss.length).map (fun t:TS=>V.agg [V.int .i64 t.1,V.int .i64 t.2.1,V.int .i64 t.2.2])=L1 at c1 c2 c3 c4 c5 c6 c7 c8 c9 c10 c11 c12 c13 c14⊢
   generalize (markAppliance (1+3 * ss.length) flc.length).map (fun t:TA=>V.agg [V.str t.1,V.int .i64 t.2.1,V.int .i64 t.2.2.1,V.int .i64 t.2.2.2.1,V.int .i64 t.2.2.2.2])=L2 at c1 c2 c3 c4 c5 c6 c7 c8 c9 c10 c11 c12 c13 c14⊢
   generalize (markIncidents ((1+3 * ss.length)+5 * flc.length) inc).map (fun t:TI=>V.agg [V.int .i64 t.1,V.int .i64 t.2.1,V.bool t.2.2.1,V.sl (t.2.2.2.map V.str)])=L3 at c1 c2 c3 c4 c5 c6 c7 c8 c9 c10 c11 c12 c13 c14⊢
   generalize (markWants (((1+3 * ss.length)+5 * flc.length)+totIncident inc) wsc).map (fun t:TW=>V.agg [V.int .i64 t.1,V.sl (t.2.map (V.int .i64))])=L4 at c1 c2 c3 c4 c5 c6 c7 c8 c9 c10 c11 c12 c13 c14⊢
   generalize (markAppliance (1) (orNil (ctlB nss ss flc inc wsc) (fillTo nss ss flc inc wsc wsc.length).1).length).map (fun t:TA=>V.agg [V.str t.1,V.int .i64 t.2.1,V.int .i64 t.2.2.1,V.int .i64 t.2.2.2.1,V.int .i64 t.2.2.2.2])=L5 at c1 c2 c3 c4 c5 c6 c7 c8 c9 c10 c11 c12 c13 c14⊢
   generalize (markIncidents ((1)+5 * (orNil (ctlB nss ss flc inc wsc) (fillTo nss ss flc inc wsc wsc.length).1).length) (orNil (ctlB nss ss flc inc wsc) (fillTo nss ss flc inc wsc wsc.length).2.1)).map (fun t:TI=>V.agg [V.int .i64 t.1,V.int .i64 t.2.1,V.bool t.2.2.1,V.sl (t.2.2.2.map V.str)])=L6 at c1 c2 c3 c4 c5 c6 c7 c8 c9 c10 c11 c12 c13 c14⊢
   generalize (markWants (((1)+5 * (orNil (ctlB nss ss flc inc wsc) (fillTo nss ss flc inc wsc wsc.length).1).length)+totIncident (orNil (ctlB nss ss flc inc wsc) (fillTo nss ss flc inc wsc wsc.length).2.1)) (orNil (ctlB nss ss flc inc wsc) (fillTo nss ss flc inc wsc wsc.length).2.2.1)).map (fun t:TW=>V.agg [V.int .i64 t.1,V.sl (t.2.map (V.int .i64))])=L7 at c1 c2 c3 c4 c5 c6 c7 c8 c9 c10 c11 c12 c13 c14⊢
   generalize (markStr (1+5 * (orNil (ctlB nss ss flc inc wsc) (fillTo nss ss flc inc wsc wsc.length).1).length+totIncident (orNil (ctlB nss ss flc inc wsc) (fillTo nss ss flc inc wsc wsc.length).2.1)+totWant (orNil (ctlB nss ss flc inc wsc) (fillTo nss ss flc inc wsc wsc.length).2.2.1)) (orNil (ctlB nss ss flc inc wsc) (fillTo nss ss flc inc wsc wsc.length).2.2.2).length).map V.str=L8 at c1 c2 c3 c4 c5 c6 c7 c8 c9 c10 c11 c12 c13 c14⊢
   generalize ss.map (fun t:TS=>V.agg [V.int .i64 t.1,V.int .i64 t.2.1,V.int .i64 t.2.2])=L9 at c1 c2 c3 c4 c5 c6 c7 c8 c9 c10 c11 c12 c13 c14⊢
   generalize flc.map (fun t:TA=>V.agg [V.str t.1,V.int .i64 t.2.1,V.int .i64 t.2.2.1,V.int .i64 t.2.2.2.1,V.int .i64 t.2.2.2.2])=L10 at c1 c2 c3 c4 c5 c6 c7 c8 c9 c10 c11 c12 c13 c14⊢
   generalize inc.map (fun t:TI=>V.agg [V.int .i64 t.1,V.int .i64 t.2.1,V.bool t.2.2.1,V.sl (t.2.2.2.map V.str)])=L11 at c1 c2 c3 c4 c5 c6 c7 c8 c9 c10 c11 c12 c13 c14⊢
   generalize wsc.map (fun t:TW=>V.agg [V.int .i64 t.1,V.sl (t.2.map (V.int .i64))])=L12 at c1 c2 c3 c4 c5 c6 c7 c8 c9 c10 c11 c12 c13 c14⊢
   generalize (orNil (ctlB nss ss flc inc wsc) (fillTo nss ss flc inc wsc wsc.length).1).map (fun t:TA=>V.agg [V.str t.1,V.int .i64 t.2.1,V.int .i64 t.2.2.1,V.int .i64 t.2.2.2.1,V.int .i64 t.2.2.2.2])=L13 at c1 c2 c3 c4 c5 c6 c7 c8 c9 c10 c11 c12 c13 c14⊢
   generalize (orNil (ctlB nss ss flc inc wsc) (fillTo nss ss flc inc wsc wsc.length).2.1).map (fun t:TI=>V.agg [V.int .i64 t.1,V.int .i64 t.2.1,V.bool t.2.2.1,V.sl (t.2.2.2.map V.str)])=L14 at c1 c2 c3 c4 c5 c6 c7 c8 c9 c10 c11 c12 c13 c14⊢
   generalize (orNil (ctlB nss ss flc inc wsc) (fillTo nss ss flc inc wsc wsc.length).2.2.1).map (fun t:TW=>V.agg [V.int .i64 t.1,V.sl (t.2.map (V.int .i64))])=L15 at c1 c2 c3 c4 c5 c6 c7 c8 c9 c10 c11 c12 c13 c14⊢
   generalize (orNil (ctlB nss ss flc inc wsc) (fillTo nss ss flc inc wsc wsc.length).2.2.2).map V.str=L16 at c1 c2 c3 c4 c5 c6 c7 c8 c9 c10 c11 c12 c13 c14⊢
   refine zn [2,3] ⟨?_⟩
   apply v_seq1
   ·intro Q13 n13 e13 r13
    refine v_draw (by kernel_rfl) ?_;intro K14 q14 k14
    show aAny _ _ _ _ 13 (Array.replicate 13 false) _
    refine zdLoadX q14 true 0 31 ?_;refine zdLoadX q14 true 2 33 ?_;refine aAny_two 1 9 rfl rfl (by kernel_rfl) ?_ ?_
    ·refine zsc (c1) ⟨?_⟩
     refine aAny_two 3 9 rfl rfl (by kernel_rfl) ?_ ?_
     ·refine zsc (c2) ⟨?_⟩
      refine aAny_two 4 9 rfl rfl (by kernel_rfl) ?_ ?_
      ·refine zsc (c3) ⟨?_⟩
       refine zdMove q14 true 5 30 ?_;refine zdExtract q14 true 6 36 ?_;refine zdExtract q14 false 7 37 ?_;refine zdExtract q14 false 8 38 ?_;refine zoAlloc 9 ⟨?_⟩;refine zoStore 10 ⟨?_⟩;refine zoAssign 11 ⟨?_⟩;refine zoAssign 12 ⟨?_⟩;refine aAny_done (by kernel_rfl) ?_;refine k14 _ ?_;refine n13 _ ?_
       exact weak_one [2,3,6,7,8] [0,1,2,3,4,5,6,7,8,9,10,11,12,13]
      ·refine zsAlloc ⟨?_⟩
       refine zoc 4 (c3) ⟨?_⟩;refine zdMove q14 true 5 30 ?_;refine zdExtract q14 true 6 36 ?_;refine zdExtract q14 false 7 37 ?_;refine zdExtract q14 false 8 38 ?_;refine zoStore 10 ⟨?_⟩;refine zoAssign 11 ⟨?_⟩;refine zoAssign 12 ⟨?_⟩;refine aAny_done (by kernel_rfl) ?_;refine k14 _ ?_;refine n13 _ ?_
       exact weak_same [2,3,6,7,8] [0,1,2,3,4,5,10,11,12,13,6,7,8,9]
     ·refine zsAlloc ⟨?_⟩
      refine zoc 3 (c2) ⟨?_⟩;refine zoc 4 (c3) ⟨?_⟩;refine zdMove q14 true 5 30 ?_;refine zdExtract q14 true 6 36 ?_;refine zdExtract q14 false 7 37 ?_;refine zdExtract q14 false 8 38 ?_;refine zoStore 10 ⟨?_⟩;refine zoAssign 11 ⟨?_⟩;refine zoAssign 12 ⟨?_⟩;refine aAny_done (by kernel_rfl) ?_;refine k14 _ ?_;refine n13 _ ?_
      exact weak_same [2,3,6,7,8] [0,1,2,7,8,9,10,11,12,13,3,4,5,6]
    ·refine zsAlloc ⟨?_⟩
     refine zoc 1 (c1) ⟨?_⟩;refine zoc 3 (c2) ⟨?_⟩;refine zoc 4 (c3) ⟨?_⟩;refine zdMove q14 true 5 30 ?_;refine zdExtract q14 true 6 36 ?_;refine zdExtract q14 false 7 37 ?_;refine zdExtract q14 false 8 38 ?_;refine zoStore 10 ⟨?_⟩;refine zoAssign 11 ⟨?_⟩;refine zoAssign 12 ⟨?_⟩;refine aAny_done (by kernel_rfl) ?_;refine k14 _ ?_;refine n13 _ ?_
     exact weak_same [2,3,6,7,8] [0,1,6,7,8,9,10,11,12,13,2,3,4,5]
   ·refine zkm ⟨?_⟩
    have F:=Fc.mk True.intro
    refine yRc [2,3,6,7,8,9] (c1) ⟨?_⟩;refine yRc [2,3,6,7,8,9,10] (c2) ⟨?_⟩;refine yRc [2,3,6,7,8,9,10,11,12,13] (c4) ⟨?_⟩;refine v_seq ?_;intros;refine yRcg [2,3,6,7,8,9,10,11,12,13,64] (c5) (c6) ⟨?_⟩;refine v_cond _ rfl ?_ ?_
    ·intro hc2
     exfalso;first | (simp at hc2;done) | (simp at hc2;omega)
    ·intro hc2
     try simp only [zC,reduceCtorEq] at hc2
     refine zn [2,3,6,7,8,9,10,11,12,13] ⟨?_⟩;refine v_seq ?_;intros;refine v_seq ?_;intro Q22 n22 e22 r22;refine v_draw (by kernel_rfl) ?_;intro K23 q23 k23
     show aAny _ _ _ _ 5 (Array.replicate 5 false) _
     refine zdLoadX q23 true 0 65 ?_;refine zdLoadX q23 true 1 66 ?_;refine zoc 2 (c1) ⟨?_⟩;refine zoc 3 (c7) ⟨?_⟩;refine zdUnOp q23 true 4 69 ?_;refine aAny_done (by kernel_rfl) ?_;refine k23 _ ?_;refine n22 _ _ (weak_keep [2,3,6,7,8,9,10,11,12,13,69] _) ?_;refine zk ⟨?_⟩;refine v_cond _ rfl ?_ ?_
     ·intro hc3
      exfalso;first | (simp at hc3;done) | (simp at hc3;omega)
     ·intro hc3
      try simp only [zC,reduceCtorEq] at hc3
      refine zn [2,3,6,7,8,9,10,11,12,13] ⟨?_⟩;refine v_seq ?_;intros;refine v_seq ?_;intro Q26 n26 e26 r26;refine v_draw (by kernel_rfl) ?_;intro K27 q27 k27
      show aAny _ _ _ _ 5 (Array.replicate 5 false) _
      refine zdLoadX q27 true 0 70 ?_;refine zdLoadX q27 true 1 71 ?_;refine zoc 2 (c2) ⟨?_⟩;refine zoc 3 (c8) ⟨?_⟩;refine zdUnOp q27 true 4 74 ?_;refine aAny_done (by kernel_rfl) ?_;refine k27 _ ?_;refine n26 _ _ (weak_keep [2,3,6,7,8,9,10,11,12,13,74] _) ?_;refine zk ⟨?_⟩;refine v_cond _ rfl ?_ ?_
      ·intro hc4
       exfalso;first | (simp at hc4;done) | (simp at hc4;omega)
      ·intro hc4
       try simp only [zC,reduceCtorEq] at hc4
       refine zn [2,3,6,7,8,9,10,11,12,13] ⟨?_⟩;refine yR [2,3,6,7,8,9,10,11,12,13,14] ⟨?_⟩;refine yRl [2,3,6,7,8,10,11,12,13,14] (c9) ⟨?_⟩;refine yR3 [2,3,6,7,8,11,12,13,14] (c10) ⟨?_⟩;refine v_seq ?_;intros;refine yRgg [2,3,6,7,8,11,12,99] (c5) (c6) ⟨?_⟩;refine v_cond _ rfl ?_ ?_
       ·intro hc5
        exfalso;first | (simp at hc5;done) | (simp at hc5;omega)
       ·intro hc5
        try simp only [zC,reduceCtorEq] at hc5
        refine zn [2,3,6,7,8,11,12] ⟨?_⟩;refine yR [2,3,6,7,8,11,12,15] ⟨?_⟩;refine yR3 [2,3,6,7,8,11,12,15] (c11) ⟨?_⟩;refine yRl [2,3,6,7,8,11,12,15] (c12) ⟨?_⟩;refine yR [2,3,6,7,8,11,12,15,16] ⟨?_⟩;refine yRc [2,3,6,7,8,11,12,15,16] (c13) ⟨?_⟩;refine v_seq ?_;intros;refine yR [2,3,6,7,8,11,12,15,16,110] ⟨?_⟩;refine v_cond _ rfl ?_ ?_
        ·intro hc6
         exfalso;first | (simp at hc6;done) | (simp at hc6;omega)
        ·intro hc6
         try simp only [zC,reduceCtorEq] at hc6
         refine zn [2,3,6,7,8,11,12,15,16] ⟨?_⟩;refine yRc [2,3,6,7,8,11,12,15,16] (c14) ⟨?_⟩;refine v_seq ?_;intros;refine yR [2,3,6,7,8,11,12,15,16,115] ⟨?_⟩;refine v_cond _ rfl ?_ ?_
         ·intro hc7
          exfalso;first | (simp at hc7;done) | (simp at hc7;omega)
         ·intro hc7
          try simp only [zC,reduceCtorEq] at hc7
          refine zn [2,3,6,7,8,11,12,15,16] ⟨?_⟩;refine v_seq ?_;intros;refine yR [2,3,6,7,8,11,12,15,118] ⟨?_⟩;refine v_cond _ rfl ?_ ?_
          ·intro hc8
           exfalso;first | (simp at hc8;done) | (simp at hc8;omega)
          ·intro hc8
           try simp only [zC,reduceCtorEq] at hc8
           refine zn [2,3,6,7,8,11,12,15] ⟨?_⟩
           apply v_seq1
           ·intro Q50 n50 e50 r50
            refine v_draw (by kernel_rfl) ?_;intro K51 q51 k51
            show aAny _ _ _ _ 13 (Array.replicate 13 false) _
            refine zdLoadX q51 true 0 120 ?_;refine zdLoadX q51 true 2 122 ?_;refine aAny_two 1 9 rfl rfl (by kernel_rfl) ?_ ?_
            ·refine zsc (c1) ⟨?_⟩
             refine aAny_two 3 9 rfl rfl (by kernel_rfl) ?_ ?_
             ·refine zsc (c2) ⟨?_⟩
              refine aAny_two 4 9 rfl rfl (by kernel_rfl) ?_ ?_
              ·refine zsc (c4) ⟨?_⟩
               refine zdMove q51 true 5 119 ?_;refine zdExtract q51 true 6 125 ?_;refine zdExtract q51 false 7 126 ?_;refine zdExtract q51 false 8 127 ?_;refine zoAlloc 9 ⟨?_⟩;refine zoStore 10 ⟨?_⟩;refine zoAssign 11 ⟨?_⟩;refine zoAssign 12 ⟨?_⟩;refine aAny_done (by kernel_rfl) ?_;refine k51 _ ?_;refine n50 _ ?_
               exact weak_one [6,7,8,11,12,15,17,18,19] [0,1,2,3,4,5,6,7,8,9,10,11,12,13,14,15,16,17,18,19,20,21,22,23,24,25,26,27,28,29,30,31,32,33,34,35,36,37,38,39,40,41,42,43,44,45,46,47]
              ·refine zsAlloc ⟨?_⟩
               refine zoc 4 (c4) ⟨?_⟩;refine zdMove q51 true 5 119 ?_;refine zdExtract q51 true 6 125 ?_;refine zdExtract q51 false 7 126 ?_;refine zdExtract q51 false 8 127 ?_;refine zoStore 10 ⟨?_⟩;refine zoAssign 11 ⟨?_⟩;refine zoAssign 12 ⟨?_⟩;refine aAny_done (by kernel_rfl) ?_;refine k51 _ ?_;refine n50 _ ?_
               exact weak_same [6,7,8,11,12,15,17,18,19] [0,1,2,3,4,5,6,7,8,9,10,11,12,13,14,15,16,17,18,19,20,21,22,23,24,25,26,27,28,29,30,31,32,33,34,35,36,37,38,39,44,45,46,47,40,41,42,43]
             ·refine zsAlloc ⟨?_⟩
              refine zoc 3 (c2) ⟨?_⟩;refine zoc 4 (c4) ⟨?_⟩;refine zdMove q51 true 5 119 ?_;refine zdExtract q51 true 6 125 ?_;refine zdExtract q51 false 7 126 ?_;refine zdExtract q51 false 8 127 ?_;refine zoStore 10 ⟨?_⟩;refine zoAssign 11 ⟨?_⟩;refine zoAssign 12 ⟨?_⟩;refine aAny_done (by kernel_rfl) ?_;refine k51 _ ?_;refine n50 _ ?_
              exact weak_same [6,7,8,11,12,15,17,18,19] [0,1,2,3,4,5,6,7,8,9,10,11,12,13,14,15,16,17,18,19,20,21,22,23,24,25,26,27,28,29,30,31,32,33,34,35,36,41,42,43,44,45,46,47,37,38,39,40]
            ·refine zsAlloc ⟨?_⟩
             refine zoc 1 (c1) ⟨?_⟩;refine zoc 3 (c2) ⟨?_⟩;refine zoc 4 (c4) ⟨?_⟩;refine zdMove q51 true 5 119 ?_;refine zdExtract q51 true 6 125 ?_;refine zdExtract q51 false 7 126 ?_;refine zdExtract q51 false 8 127 ?_;refine zoStore 10 ⟨?_⟩;refine zoAssign 11 ⟨?_⟩;refine zoAssign 12 ⟨?_⟩;refine aAny_done (by kernel_rfl) ?_;refine k51 _ ?_;refine n50 _ ?_
             exact weak_same [6,7,8,11,12,15,17,18,19] [0,1,2,3,4,5,6,7,8,9,10,11,12,13,14,15,16,17,18,19,20,21,22,23,24,25,26,27,28,29,30,31,32,33,34,35,40,41,42,43,44,45,46,47,36,37,38,39]
           ·refine zkm ⟨?_⟩
            refine v_seq ?_;intros
            have F:=Fc.mk True.intro
            refine yRcg [11,12,15,142] (c5) (c6) ⟨?_⟩;refine v_cond _ rfl ?_ ?_
            ·intro hc9
             exfalso;first | (simp at hc9;done) | (simp at hc9;omega)
            ·intro hc9
             try simp only [zC,reduceCtorEq] at hc9
             refine zn [11,12,15] ⟨?_⟩;refine yR [11,12,15,16] ⟨?_⟩;refine yRc [12,15,16] (c13) ⟨?_⟩;refine v_seq ?_;intros;refine yR [12,15,16,147] ⟨?_⟩;refine v_cond _ rfl ?_ ?_
             ·intro hc10
              exfalso;first | (simp at hc10;done) | (simp at hc10;omega)
             ·intro hc10
              try simp only [zC,reduceCtorEq] at hc10
              refine zn [12,15,16] ⟨?_⟩;refine yRc [15,16] (c14) ⟨?_⟩;refine v_seq ?_;intros;refine yR [15,16,152] ⟨?_⟩;refine v_cond _ rfl ?_ ?_
              ·intro hc11
               exfalso;first | (simp at hc11;done) | (simp at hc11;omega)
              ·intro hc11
               try simp only [zC,reduceCtorEq] at hc11
               refine zn [15,16] ⟨?_⟩;refine v_seq ?_;intros;refine yR [155] ⟨?_⟩;refine v_cond _ rfl ?_ ?_
               ·intro hc12
                exfalso;first | (simp at hc12;done) | (simp at hc12;omega)
               ·intro hc12
                try simp only [zC,reduceCtorEq] at hc12
                refine zn [] ⟨?_⟩;refine yR [4] ⟨?_⟩;refine zr ⟨?_⟩
                exact ret_pure rfl rfl (.inl rfl)
end Go.Proofs.YtaefoaghpehbpaaGreat
