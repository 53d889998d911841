/- What functions compute. No condition. -/
import Derived.Test.YtmhaafinhpopmaaX17
import Derived.Test.YtmhaafinhpopmaaX2
set_option linter.unusedSimpArgs false
set_option linter.unusedVariables false
set_option linter.defProp false
namespace Go.Proofs.Ytmhaafinhpopmaa
open Go Go.Vm
set_option maxHeartbeats 8000000
theorem lawOtherChoices_con (nss:Int) (ss:List TS) (fl:List TA) (node:Int) (need:List Int) (limit:Int) (hss:ss.length≤9223372036854775807) (hfl:fl.length≤9223372036854775807) (hsfl:∀t∈fl,t.1.size≤9223372036854775807) (hneed:need.length≤9223372036854775807):Con Try.prog 3 [.agg [.int .i64 nss,.sl (ss.map (fun t:TS=>V.agg [V.int .i64 t.1,V.int .i64 t.2.1,V.int .i64 t.2.2]))],.sl (fl.map (fun t:TA=>V.agg [V.str t.1,V.int .i64 t.2.1,V.int .i64 t.2.2.1,V.int .i64 t.2.2.2.1,V.int .i64 t.2.2.2.2])),.int .i64 node,.sl (need.map (V.int .i64)),.int .i64 limit] [] (.bool true) []:=by
 refine v_con [.tmp 10] [(15,[0]),(16,[0]),(17,[0]),(18,[0])] Try.func3 rfl rfl rfl (by simp [Try.ntmps3]) ?_;intro Q0 n0 r0;simp only [Try.ntmps3,envFrom,Nat.reduceAdd];have T:=Tys.mk (ai Ty.t3 (ai Ty.t4 (ai Ty.t9 (ai Ty.t22 (ai Ty.t24 (ai Ty.t25 (ai Ty.t26 (ai Ty.t29 (ai Ty.t32 (ai Ty.t34 (ai Ty.t36 (ai Ty.t51 (ai Ty.t60 (ai Ty.t66 (ai Ty.t79 Ty.t81)))))))))))))));have F:=Fc.mk True.intro;refine yR [1,2,3,4,5] ⟨?_⟩;refine v_seq ?_;intros;refine yR [1,2,3,4,5,26] ⟨?_⟩;refine v_condS _ rfl ?_ ?_
 ·intro hc0;refine yR [10] ⟨?_⟩;refine zr ⟨?_⟩;exact ret_pure rfl rfl (.inl rfl)
 ·intro hc0;have bneed:need.length≤1048576:=by omega
  refine zn [1,2,3,4,5] ⟨?_⟩;refine yR [1,2,3,4,5,11] ⟨?_⟩;refine yRc [1,2,3,4,5,11] (szTown_con nss ss (1048576:Int) (⟨by omega,by omega⟩:(0:Int)≤1048576∧(1048576:Int)≤1048576) hss) ⟨?_⟩;refine v_seq ?_;intros;refine yR [1,2,3,4,5,11,31] ⟨?_⟩;refine v_condS _ rfl ?_ ?_
  ·intro hc1;refine yR [10] ⟨?_⟩;refine zr ⟨?_⟩;exact ret_pure rfl rfl (.inl rfl)
  ·intro hc1;obtain ⟨bss,q1⟩:=szIf (⟨by omega,by omega⟩:(0:Int)≤1048576∧(1048576:Int)≤1048576).2 hc1;refine zn [1,2,3,4,5,11] ⟨?_⟩;refine yRc [1,2,3,4,5,11] (szApplianceS_con (if (1048576:Int) - (ss.length:Int) < 0 then -1 else (1048576:Int) - (ss.length:Int)) fl q1 hfl hsfl) ⟨?_⟩;refine v_seq ?_;intros;refine yR [1,2,3,4,5,36] ⟨?_⟩;refine v_condS _ rfl ?_ ?_
   ·intro hc2;refine yR [10] ⟨?_⟩;refine zr ⟨?_⟩;exact ret_pure rfl rfl (.inl rfl)
   ·intro hc2;obtain ⟨bfl,q2⟩:=szIfL (f:=szAppliance1) szAppliance1_le q1.1 q1.2 hc2;obtain ⟨hT1,hT2,hT3,hT4⟩:=oth_facts nss ss fl node need limit;have c1:=toTown_con nss ss bss;have c2:=toApplianceS_con fl bfl;have c3:=toIntS_con need bneed;have c4:=specOther_con nss ss fl node need limit bss bfl hsfl bneed;have c5:=implOther_con nss ss fl node need limit bss bfl hsfl bneed;have c6:=eqStrSS_con (othR nss ss fl node need limit) (othR nss ss fl node need limit) hT1 hT2;have c7:=eqTown_con nss ss bss;have c8:=eqApplianceS_con fl fl bfl;have c9:=eqIntS_con need need bneed;have c10:=markTown_con nss ss (1) bss (by omega);have c11:=markApplianceS_con fl (1+3 * ss.length) bfl (by omega);have c12:=markIntS_con need (1+3 * ss.length+5 * fl.length) bneed (by omega);have c13:=markStrSS_con (othR nss ss fl node need limit) (1) (fillK (othR nss ss fl node need limit).length) (fillK_or _) hT1 hT2 ⟨by omega,by omega⟩;have c14:=heldStrSS_con (othR nss ss fl node need limit) (1) hT1 hT2 ⟨by omega,by omega⟩;generalize (markStreet (1) ss.length).map (fun t:TS=>V.agg [V.int .i64 t.1,V.int .i64 t.2.1,V.int .i64 t.2.2])=L1 at c1 c2 c3 c4 c5 c6 c7 c8 c9 c10 c11 c12 c13 c14⊢;generalize (markAppliance (1+3 * ss.length) fl.length).map (fun t:TA=>V.agg [V.str t.1,V.int .i64 t.2.1,V.int .i64 t.2.2.1,V.int .i64 t.2.2.2.1,V.int .i64 t.2.2.2.2])=L2 at c1 c2 c3 c4 c5 c6 c7 c8 c9 c10 c11 c12 c13 c14⊢;generalize (markRow (1+3 * ss.length+5 * fl.length) need.length).map (V.int .i64)=L3 at c1 c2 c3 c4 c5 c6 c7 c8 c9 c10 c11 c12 c13 c14⊢;generalize (markTS (1) (othR nss ss fl node need limit)).map (fun l:List ByteArray=>V.sl (l.map V.str))=L4 at c1 c2 c3 c4 c5 c6 c7 c8 c9 c10 c11 c12 c13 c14⊢;generalize ss.map (fun t:TS=>V.agg [V.int .i64 t.1,V.int .i64 t.2.1,V.int .i64 t.2.2])=L5 at c1 c2 c3 c4 c5 c6 c7 c8 c9 c10 c11 c12 c13 c14⊢;generalize fl.map (fun t:TA=>V.agg [V.str t.1,V.int .i64 t.2.1,V.int .i64 t.2.2.1,V.int .i64 t.2.2.2.1,V.int .i64 t.2.2.2.2])=L6 at c1 c2 c3 c4 c5 c6 c7 c8 c9 c10 c11 c12 c13 c14⊢;generalize need.map (V.int .i64)=L7 at c1 c2 c3 c4 c5 c6 c7 c8 c9 c10 c11 c12 c13 c14⊢;generalize (othR nss ss fl node need limit).map (fun l:List ByteArray=>V.sl (l.map V.str))=L8 at c1 c2 c3 c4 c5 c6 c7 c8 c9 c10 c11 c12 c13 c14⊢;refine zn [1,2,3,4,5] ⟨?_⟩;refine yRcccc [1,2,3,4,5,12,13] (c1) (c2) (c3) (c4) ⟨?_⟩;refine yRc [1,2,3,4,5,12,13,14] (c1) ⟨?_⟩;refine yRc [1,2,3,4,5,12,13,14,15] (c2) ⟨?_⟩;refine yRc [1,2,3,4,5,12,13,14,15,16] (c3) ⟨?_⟩;refine yRc [1,2,3,4,5,12,13,14,15,16,17,18] (c5) ⟨?_⟩;refine v_seq ?_;intros;refine yRc [1,2,3,4,5,12,13,14,15,16,17,18,72] (c6) ⟨?_⟩;refine v_cond _ rfl ?_ ?_
    ·intro hc3;exfalso;first | (simp at hc3;done) | (simp at hc3;omega)
    ·intro hc3;try simp only [zC,reduceCtorEq] at hc3
     refine zn [1,2,3,4,5,12,13,14,15,16,17,18] ⟨?_⟩;refine v_seq ?_;intros;refine v_seq ?_;intro Q26 n26 e26 r26;refine v_draw (by kernel_rfl) ?_;intro K27 q27 k27;show aAny _ _ _ _ 5 (Array.replicate 5 false) _;refine zdLoadX q27 true 0 73 ?_;refine zdLoadX q27 true 1 74 ?_;refine zoc 2 (c1) ⟨?_⟩;refine zoc 3 (c7) ⟨?_⟩;refine zdUnOp q27 true 4 77 ?_;refine aAny_done (by kernel_rfl) ?_;refine k27 _ ?_;refine n26 _ _ (weak_keep [1,2,3,4,5,12,13,14,15,16,17,18,77] _) ?_;refine zk ⟨?_⟩;refine v_cond _ rfl ?_ ?_
     ·intro hc4;exfalso;first | (simp at hc4;done) | (simp at hc4;omega)
     ·intro hc4;try simp only [zC,reduceCtorEq] at hc4
      refine zn [1,2,3,4,5,12,13,14,15,16,17,18] ⟨?_⟩;refine v_seq ?_;intros;refine yRcc [1,2,3,4,5,12,13,14,15,16,17,18,82] (c2) (c8) ⟨?_⟩;refine v_cond _ rfl ?_ ?_
      ·intro hc5;exfalso;first | (simp at hc5;done) | (simp at hc5;omega)
      ·intro hc5;try simp only [zC,reduceCtorEq] at hc5
       refine zn [1,2,3,4,5,12,13,14,15,16,17,18] ⟨?_⟩;refine v_seq ?_;intros;refine yRcc [1,2,3,4,5,12,13,14,15,16,17,18,87] (c3) (c9) ⟨?_⟩;refine v_cond _ rfl ?_ ?_
       ·intro hc6;exfalso;first | (simp at hc6;done) | (simp at hc6;omega)
       ·intro hc6;try simp only [zC,reduceCtorEq] at hc6
        refine zn [1,2,3,4,5,12,13,14,15,16,17,18] ⟨?_⟩;refine yR [1,2,3,4,5,12,13,14,15,16,17,18,19] ⟨?_⟩;refine yRl [1,2,3,4,5,12,13,15,16,17,18,19] (c10) ⟨?_⟩;refine yRl [1,2,3,4,5,12,13,16,17,18,19] (c11) ⟨?_⟩;refine yRl [1,2,3,4,5,12,13,17,18,19] (c12) ⟨?_⟩;refine v_seq ?_;intros;refine yRg [1,2,3,4,5,12,13,17,109] (c6) ⟨?_⟩;refine v_cond _ rfl ?_ ?_
        ·intro hc7;exfalso;first | (simp at hc7;done) | (simp at hc7;omega)
        ·intro hc7;try simp only [zC,reduceCtorEq] at hc7
         refine zn [1,2,3,4,5,12,13,17] ⟨?_⟩;refine yR [1,2,3,4,5,12,13,17,20] ⟨?_⟩;refine yRl [1,2,3,4,5,12,13,17,20] (c13) ⟨?_⟩;refine yR [1,2,3,4,5,12,13,17,20,21] ⟨?_⟩;refine yRc [1,2,3,4,5,12,13,17,20,21] (c14) ⟨?_⟩;refine v_seq ?_;intros;refine yR [1,2,3,4,5,12,13,17,20,21,117] ⟨?_⟩;refine v_cond _ rfl ?_ ?_
         ·intro hc8;exfalso;first | (simp at hc8;done) | (simp at hc8;omega)
         ·intro hc8;try simp only [zC,reduceCtorEq] at hc8
          refine zn [1,2,3,4,5,12,13,17,20,21] ⟨?_⟩;refine v_seq ?_;intros;refine yR [1,2,3,4,5,12,13,17,20,120] ⟨?_⟩;refine v_cond _ rfl ?_ ?_
          ·intro hc9;exfalso;first | (simp at hc9;done) | (simp at hc9;omega)
          ·intro hc9;try simp only [zC,reduceCtorEq] at hc9
           refine zn [1,2,3,4,5,12,13,17,20] ⟨?_⟩;refine yRcccc [12,13,17,20,22,23] (c1) (c2) (c3) (c5) ⟨?_⟩;refine v_seq ?_;intros;refine yRc [17,20,141] (c6) ⟨?_⟩;refine v_cond _ rfl ?_ ?_
           ·intro hc10;exfalso;first | (simp at hc10;done) | (simp at hc10;omega)
           ·intro hc10;try simp only [zC,reduceCtorEq] at hc10
            refine zn [17,20] ⟨?_⟩;refine yR [17,20,21] ⟨?_⟩;refine yRc [20,21] (c14) ⟨?_⟩;refine v_seq ?_;intros;refine yR [20,21,146] ⟨?_⟩;refine v_cond _ rfl ?_ ?_
            ·intro hc11;exfalso;first | (simp at hc11;done) | (simp at hc11;omega)
            ·intro hc11;try simp only [zC,reduceCtorEq] at hc11
             refine zn [20,21] ⟨?_⟩;refine v_seq ?_;intros;refine yR [149] ⟨?_⟩;refine v_cond _ rfl ?_ ?_
             ·intro hc12;exfalso;first | (simp at hc12;done) | (simp at hc12;omega)
             ·intro hc12;try simp only [zC,reduceCtorEq] at hc12
              refine zn [] ⟨?_⟩;refine yR [10] ⟨?_⟩;refine zr ⟨?_⟩;exact ret_pure rfl rfl (.inl rfl)
end Go.Proofs.Ytmhaafinhpopmaa
