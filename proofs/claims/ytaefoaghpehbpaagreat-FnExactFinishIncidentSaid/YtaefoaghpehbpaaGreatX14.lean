/- What functions compute. No condition. -/
import Derived.Test.YtaefoaghpehbpaaGreatUz
import Derived.Test.YtaefoaghpehbpaaGreatUty
import Derived.Test.YtaefoaghpehbpaaGreatUmG
import Derived.Test.YtaefoaghpehbpaaGreatX8
import Derived.Test.YtaefoaghpehbpaaGreatX11
import Derived.Test.YtaefoaghpehbpaaGreatX12
import Derived.Test.YtaefoaghpehbpaaGreatX10
import Derived.Test.YtaefoaghpehbpaaGreatX9
import Derived.Test.YtaefoaghpehbpaaGreatX2
import Derived.Test.YtaefoaghpehbpaaGreatX4
import Derived.Test.YtaefoaghpehbpaaGreatX13
set_option linter.unusedSimpArgs false
set_option linter.unusedVariables false
set_option linter.defProp false
namespace Go.Proofs.YtaefoaghpehbpaaGreat
open Go Go.Vm
set_option maxHeartbeats 6000000 in
theorem lawFinishIncident_con (nss:Int) (ss:List (Int×Int×Int)) (flc:List (ByteArray×Int×Int×Int×Int)) (inc:List (Int×Int×Bool×List ByteArray)) (wsc:List (Int×List Int)) (m:Int) (hss:ss.length≤9223372036854775807) (hfc:flc.length≤9223372036854775807) (hfsc:∀t∈flc,t.1.size≤9223372036854775807) (hic:inc.length≤9223372036854775807) (hisc:∀t∈inc,t.2.2.2.length≤9223372036854775807∧∀s∈t.2.2.2,s.size≤9223372036854775807) (hwc:wsc.length≤9223372036854775807) (hwsc:∀t∈wsc,t.2.length≤9223372036854775807):Con Tryz.prog 3 [.agg [.int .i64 nss,.sl (ss.map (fun t:Int×Int×Int=>V.agg [V.int .i64 t.1,V.int .i64 t.2.1,V.int .i64 t.2.2]))],.agg [.sl (flc.map (fun t:ByteArray×Int×Int×Int×Int=>V.agg [V.str t.1,V.int .i64 t.2.1,V.int .i64 t.2.2.1,V.int .i64 t.2.2.2.1,V.int .i64 t.2.2.2.2])),.sl (inc.map (fun t:Int×Int×Bool×List ByteArray=>V.agg [V.int .i64 t.1,V.int .i64 t.2.1,V.bool t.2.2.1,V.sl (t.2.2.2.map V.str)])),.sl (wsc.map (fun t:Int×List Int=>V.agg [V.int .i64 t.1,V.sl (t.2.map (V.int .i64))]))],.int .i64 m] [] (.bool true) []:=by
 refine v_con [.tmp 6] [(16,[0]),(17,[0])] Tryz.func3 rfl rfl rfl (by simp [Tryz.ntmps3]) ?_
 intro Q0 n0 r0
 simp only [Tryz.ntmps3,envFrom,Nat.reduceAdd]
 have T:=Tys.mk (And.intro Ty.t3 (And.intro Ty.t4 (And.intro Ty.t9 (And.intro Ty.t22 (And.intro Ty.t24 (And.intro Ty.t25 (And.intro Ty.t26 (And.intro Ty.t27 (And.intro Ty.t29 (And.intro Ty.t32 (And.intro Ty.t33 (And.intro Ty.t34 (And.intro Ty.t36 (And.intro Ty.t39 (And.intro Ty.t41 (And.intro Ty.t51 (And.intro Ty.t75 (And.intro Ty.t96 (And.intro Ty.t99 (And.intro Ty.t102 (And.intro Ty.t158 (And.intro Ty.t160 (And.intro Ty.t162 (And.intro Ty.t169 Ty.t171))))))))))))))))))))))))
 have F:=Fc.mk True.intro
 refine yR [2,3,4] ⟨?_⟩;refine yR [2,3,4,7] ⟨?_⟩;refine yRc [2,3,4,7] (szTown_con nss ss (1048576:Int) (⟨by omega,by omega⟩:(0:Int)≤1048576∧(1048576:Int)≤1048576) hss) ⟨?_⟩;refine v_seq ?_;intros;refine yR [2,3,4,7,23] ⟨?_⟩;refine v_condS _ rfl ?_ ?_
 ·intro hc0
  refine yR [6] ⟨?_⟩;refine zr ⟨?_⟩
  exact ret_pure rfl rfl (.inl rfl)
 ·intro hc0
  obtain ⟨bss,q1⟩:=szIf (⟨by omega,by omega⟩:(0:Int)≤1048576∧(1048576:Int)≤1048576).2 hc0
  refine zn [2,3,4,7] ⟨?_⟩;refine yRc [2,3,4,7] (szControl_con (if (1048576:Int) - (ss.length:Int) < 0 then -1 else (1048576:Int) - (ss.length:Int)) flc inc wsc q1 hfc hfsc hic hisc hwc hwsc) ⟨?_⟩;refine v_seq ?_;intros;refine yR [2,3,4,28] ⟨?_⟩;refine v_condS _ rfl ?_ ?_
  ·intro hc1
   refine yR [6] ⟨?_⟩;refine zr ⟨?_⟩
   exact ret_pure rfl rfl (.inl rfl)
  ·intro hc1
   obtain ⟨bfc,bic,binc,bwc,bwnc,q2⟩:=szIfC q1.1 q1.2 hc1
   have tic:=totIncident_le binc
   have twc:=totWant_le bwnc
   have pic:=totIncident_pos inc
   have pwc:=totWant_pos wsc
   have tr1:=totIncident_pos (orNil (atB nss ss flc inc wsc m) (finI inc m))
   have tr2:=totWant_pos (orNil (atB nss ss flc inc wsc m) (finW wsc m))
   have tr3:totIncident (orNil (atB nss ss flc inc wsc m) (finI inc m))≤_:=totIncident_le (orNil_all (finI_all m binc))
   have tr4:totWant (orNil (atB nss ss flc inc wsc m) (finW wsc m))≤_:=totWant_le (orNil_all (finW_all m bwnc))
   have c1:=toTown_con nss ss bss
   have c2:=toControl_con flc inc wsc bfc bic binc bwc bwnc
   have c3:=specFin_con nss ss flc inc wsc m bss bfc hfsc bic binc (fun x h=>(hisc x h).2) bwc bwnc
   have c4:=implFin_con nss ss flc inc wsc m bss bfc hfsc bic binc (fun x h=>(hisc x h).2) bwc bwnc
   have c5:=eqControl_con (orNil (atB nss ss flc inc wsc m) (finF flc (finN inc m))) (orNil (atB nss ss flc inc wsc m) (finI inc m)) (orNil (atB nss ss flc inc wsc m) (finW wsc m)) (orNil_len (by rw [finF_len];exact bfc)) (orNil_len (by rw [finI_len];exact bic)) (orNil_all (finI_all m binc)) (orNil_len (Nat.le_trans (finW_len ..) bwc)) (orNil_all (finW_all m bwnc))
   have c6:=eqTown_con nss ss bss
   have c7:=eqControl_con flc inc wsc bfc bic binc bwc bwnc
   have c8:=markTown_con nss ss (1) bss (by omega)
   have c9:=markControl_con flc inc wsc (1+3 * ss.length) bfc bic binc bwc bwnc (by omega)
   have c10:=markControlT_con (orNil (atB nss ss flc inc wsc m) (finF flc (finN inc m))) (orNil (atB nss ss flc inc wsc m) (finI inc m)) (orNil (atB nss ss flc inc wsc m) (finW wsc m)) (1) (orNil_len (by rw [finF_len];exact bfc)) (orNil_len (by rw [finI_len];exact bic)) (orNil_all (finI_all m binc)) (orNil_len (Nat.le_trans (finW_len ..) bwc)) (orNil_all (finW_all m bwnc)) (by omega)
   have c11:=heldControl_con (orNil (atB nss ss flc inc wsc m) (finF flc (finN inc m))) (orNil (atB nss ss flc inc wsc m) (finI inc m)) (orNil (atB nss ss flc inc wsc m) (finW wsc m)) (1) (orNil_len (by rw [finF_len];exact bfc)) (orNil_len (by rw [finI_len];exact bic)) (orNil_all (finI_all m binc)) (orNil_len (Nat.le_trans (finW_len ..) bwc)) (orNil_all (finW_all m bwnc)) (by omega)
   generalize (markStreet (1) ss.length).map (fun t:Int×Int×Int=>V.agg [V.int .i64 t.1,V.int .i64 t.2.1,V.int .i64 t.2.2])=L1 at c1 c2 c3 c4 c5 c6 c7 c8 c9 c10 c11⊢
   generalize (markAppliance (1+3 * ss.length) flc.length).map (fun t:ByteArray×Int×Int×Int×Int=>V.agg [V.str t.1,V.int .i64 t.2.1,V.int .i64 t.2.2.1,V.int .i64 t.2.2.2.1,V.int .i64 t.2.2.2.2])=L2 at c1 c2 c3 c4 c5 c6 c7 c8 c9 c10 c11⊢
   generalize (markIncidents ((1+3 * ss.length)+5 * flc.length) inc).map (fun t:Int×Int×Bool×List ByteArray=>V.agg [V.int .i64 t.1,V.int .i64 t.2.1,V.bool t.2.2.1,V.sl (t.2.2.2.map V.str)])=L3 at c1 c2 c3 c4 c5 c6 c7 c8 c9 c10 c11⊢
   generalize (markWants (((1+3 * ss.length)+5 * flc.length)+totIncident inc) wsc).map (fun t:Int×List Int=>V.agg [V.int .i64 t.1,V.sl (t.2.map (V.int .i64))])=L4 at c1 c2 c3 c4 c5 c6 c7 c8 c9 c10 c11⊢
   generalize (markAppliance (1) (orNil (atB nss ss flc inc wsc m) (finF flc (finN inc m))).length).map (fun t:ByteArray×Int×Int×Int×Int=>V.agg [V.str t.1,V.int .i64 t.2.1,V.int .i64 t.2.2.1,V.int .i64 t.2.2.2.1,V.int .i64 t.2.2.2.2])=L5 at c1 c2 c3 c4 c5 c6 c7 c8 c9 c10 c11⊢
   generalize (markIncidents ((1)+5 * (orNil (atB nss ss flc inc wsc m) (finF flc (finN inc m))).length) (orNil (atB nss ss flc inc wsc m) (finI inc m))).map (fun t:Int×Int×Bool×List ByteArray=>V.agg [V.int .i64 t.1,V.int .i64 t.2.1,V.bool t.2.2.1,V.sl (t.2.2.2.map V.str)])=L6 at c1 c2 c3 c4 c5 c6 c7 c8 c9 c10 c11⊢
   generalize (markWants (((1)+5 * (orNil (atB nss ss flc inc wsc m) (finF flc (finN inc m))).length)+totIncident (orNil (atB nss ss flc inc wsc m) (finI inc m))) (orNil (atB nss ss flc inc wsc m) (finW wsc m))).map (fun t:Int×List Int=>V.agg [V.int .i64 t.1,V.sl (t.2.map (V.int .i64))])=L7 at c1 c2 c3 c4 c5 c6 c7 c8 c9 c10 c11⊢
   generalize ss.map (fun t:Int×Int×Int=>V.agg [V.int .i64 t.1,V.int .i64 t.2.1,V.int .i64 t.2.2])=L8 at c1 c2 c3 c4 c5 c6 c7 c8 c9 c10 c11⊢
   generalize flc.map (fun t:ByteArray×Int×Int×Int×Int=>V.agg [V.str t.1,V.int .i64 t.2.1,V.int .i64 t.2.2.1,V.int .i64 t.2.2.2.1,V.int .i64 t.2.2.2.2])=L9 at c1 c2 c3 c4 c5 c6 c7 c8 c9 c10 c11⊢
   generalize inc.map (fun t:Int×Int×Bool×List ByteArray=>V.agg [V.int .i64 t.1,V.int .i64 t.2.1,V.bool t.2.2.1,V.sl (t.2.2.2.map V.str)])=L10 at c1 c2 c3 c4 c5 c6 c7 c8 c9 c10 c11⊢
   generalize wsc.map (fun t:Int×List Int=>V.agg [V.int .i64 t.1,V.sl (t.2.map (V.int .i64))])=L11 at c1 c2 c3 c4 c5 c6 c7 c8 c9 c10 c11⊢
   generalize (orNil (atB nss ss flc inc wsc m) (finF flc (finN inc m))).map (fun t:ByteArray×Int×Int×Int×Int=>V.agg [V.str t.1,V.int .i64 t.2.1,V.int .i64 t.2.2.1,V.int .i64 t.2.2.2.1,V.int .i64 t.2.2.2.2])=L12 at c1 c2 c3 c4 c5 c6 c7 c8 c9 c10 c11⊢
   generalize (orNil (atB nss ss flc inc wsc m) (finI inc m)).map (fun t:Int×Int×Bool×List ByteArray=>V.agg [V.int .i64 t.1,V.int .i64 t.2.1,V.bool t.2.2.1,V.sl (t.2.2.2.map V.str)])=L13 at c1 c2 c3 c4 c5 c6 c7 c8 c9 c10 c11⊢
   generalize (orNil (atB nss ss flc inc wsc m) (finW wsc m)).map (fun t:Int×List Int=>V.agg [V.int .i64 t.1,V.sl (t.2.map (V.int .i64))])=L14 at c1 c2 c3 c4 c5 c6 c7 c8 c9 c10 c11⊢
   refine zn [2,3,4] ⟨?_⟩
   apply v_seq1
   ·intro Q13 n13 e13 r13
    refine v_draw (by kernel_rfl) ?_;intro K14 q14 k14
    show aAny _ _ _ _ 12 (Array.replicate 12 false) _
    refine zdLoadX q14 true 0 30 ?_;refine zdLoadX q14 true 2 32 ?_;refine zdMove q14 true 4 34 ?_;refine aAny_two 1 9 rfl rfl (by kernel_rfl) ?_ ?_
    ·refine zsc (c1) ⟨?_⟩
     refine aAny_two 3 9 rfl rfl (by kernel_rfl) ?_ ?_
     ·refine zsc (c2) ⟨?_⟩
      refine aAny_two 5 9 rfl rfl (by kernel_rfl) ?_ ?_
      ·refine zsc (c3) ⟨?_⟩
       refine zdMove q14 true 6 29 ?_;refine zdExtract q14 true 7 36 ?_;refine zdExtract q14 false 8 37 ?_;refine zoAlloc 9 ⟨?_⟩;refine zoStore 10 ⟨?_⟩;refine zoAssign 11 ⟨?_⟩;refine aAny_done (by kernel_rfl) ?_;refine k14 _ ?_;refine n13 _ ?_
       exact weak_one [2,3,4,8,9] [0,1,2,3,4,5,6,7,8,9,10,11,12]
      ·refine zsAlloc ⟨?_⟩
       refine zoc 5 (c3) ⟨?_⟩;refine zdMove q14 true 6 29 ?_;refine zdExtract q14 true 7 36 ?_;refine zdExtract q14 false 8 37 ?_;refine zoStore 10 ⟨?_⟩;refine zoAssign 11 ⟨?_⟩;refine aAny_done (by kernel_rfl) ?_;refine k14 _ ?_;refine n13 _ ?_
       exact weak_same [2,3,4,8,9] [0,1,2,3,4,5,10,11,12,6,7,8,9]
     ·refine zsAlloc ⟨?_⟩
      refine zoc 3 (c2) ⟨?_⟩;refine zoc 5 (c3) ⟨?_⟩;refine zdMove q14 true 6 29 ?_;refine zdExtract q14 true 7 36 ?_;refine zdExtract q14 false 8 37 ?_;refine zoStore 10 ⟨?_⟩;refine zoAssign 11 ⟨?_⟩;refine aAny_done (by kernel_rfl) ?_;refine k14 _ ?_;refine n13 _ ?_
      exact weak_same [2,3,4,8,9] [0,1,2,7,8,9,10,11,12,3,4,5,6]
    ·refine zsAlloc ⟨?_⟩
     refine zoc 1 (c1) ⟨?_⟩;refine zoc 3 (c2) ⟨?_⟩;refine zoc 5 (c3) ⟨?_⟩;refine zdMove q14 true 6 29 ?_;refine zdExtract q14 true 7 36 ?_;refine zdExtract q14 false 8 37 ?_;refine zoStore 10 ⟨?_⟩;refine zoAssign 11 ⟨?_⟩;refine aAny_done (by kernel_rfl) ?_;refine k14 _ ?_;refine n13 _ ?_
     exact weak_same [2,3,4,8,9] [0,1,6,7,8,9,10,11,12,2,3,4,5]
   ·refine zkm ⟨?_⟩
    have F:=Fc.mk True.intro
    refine yRc [2,3,4,8,9,10] (c1) ⟨?_⟩;refine yRc [2,3,4,8,9,10,11] (c2) ⟨?_⟩;refine yRc [2,3,4,8,9,10,11,12,13] (c4) ⟨?_⟩;refine v_seq ?_;intros;refine yRc [2,3,4,8,9,10,11,12,13,57] (c5) ⟨?_⟩;refine v_cond _ rfl ?_ ?_
    ·intro hc2
     exfalso;first | (simp at hc2;done) | (simp at hc2;omega)
    ·intro hc2
     try simp only [zC,reduceCtorEq] at hc2
     refine zn [2,3,4,8,9,10,11,12,13] ⟨?_⟩;refine v_seq ?_;intros;refine v_seq ?_;intro Q22 n22 e22 r22;refine v_draw (by kernel_rfl) ?_;intro K23 q23 k23
     show aAny _ _ _ _ 5 (Array.replicate 5 false) _
     refine zdLoadX q23 true 0 58 ?_;refine zdLoadX q23 true 1 59 ?_;refine zoc 2 (c1) ⟨?_⟩;refine zoc 3 (c6) ⟨?_⟩;refine zdUnOp q23 true 4 62 ?_;refine aAny_done (by kernel_rfl) ?_;refine k23 _ ?_;refine n22 _ _ (weak_keep [2,3,4,8,9,10,11,12,13,62] _) ?_;refine zk ⟨?_⟩;refine v_cond _ rfl ?_ ?_
     ·intro hc3
      exfalso;first | (simp at hc3;done) | (simp at hc3;omega)
     ·intro hc3
      try simp only [zC,reduceCtorEq] at hc3
      refine zn [2,3,4,8,9,10,11,12,13] ⟨?_⟩;refine v_seq ?_;intros;refine v_seq ?_;intro Q26 n26 e26 r26;refine v_draw (by kernel_rfl) ?_;intro K27 q27 k27
      show aAny _ _ _ _ 5 (Array.replicate 5 false) _
      refine zdLoadX q27 true 0 63 ?_;refine zdLoadX q27 true 1 64 ?_;refine zoc 2 (c2) ⟨?_⟩;refine zoc 3 (c7) ⟨?_⟩;refine zdUnOp q27 true 4 67 ?_;refine aAny_done (by kernel_rfl) ?_;refine k27 _ ?_;refine n26 _ _ (weak_keep [2,3,4,8,9,10,11,12,13,67] _) ?_;refine zk ⟨?_⟩;refine v_cond _ rfl ?_ ?_
      ·intro hc4
       exfalso;first | (simp at hc4;done) | (simp at hc4;omega)
      ·intro hc4
       try simp only [zC,reduceCtorEq] at hc4
       refine zn [2,3,4,8,9,10,11,12,13] ⟨?_⟩;refine yR [2,3,4,8,9,10,11,12,13,14] ⟨?_⟩;refine yRl [2,3,4,8,9,11,12,13,14] (c8) ⟨?_⟩;refine yR3 [2,3,4,8,9,12,13,14] (c9) ⟨?_⟩;refine v_seq ?_;intros;refine yRg [2,3,4,8,9,12,86] (c5) ⟨?_⟩;refine v_cond _ rfl ?_ ?_
       ·intro hc5
        exfalso;first | (simp at hc5;done) | (simp at hc5;omega)
       ·intro hc5
        try simp only [zC,reduceCtorEq] at hc5
        refine zn [2,3,4,8,9,12] ⟨?_⟩;refine yR [2,3,4,8,9,12,15] ⟨?_⟩;refine yR3 [2,3,4,8,9,12,15] (c10) ⟨?_⟩;refine yR [2,3,4,8,9,12,15,16] ⟨?_⟩;refine yRc [2,3,4,8,9,12,15,16] (c11) ⟨?_⟩;refine v_seq ?_;intros;refine yR [2,3,4,8,9,12,15,16,94] ⟨?_⟩;refine v_cond _ rfl ?_ ?_
        ·intro hc6
         exfalso;first | (simp at hc6;done) | (simp at hc6;omega)
        ·intro hc6
         try simp only [zC,reduceCtorEq] at hc6
         refine zn [2,3,4,8,9,12,15,16] ⟨?_⟩;refine v_seq ?_;intros;refine yR [2,3,4,8,9,12,15,97] ⟨?_⟩;refine v_cond _ rfl ?_ ?_
         ·intro hc7
          exfalso;first | (simp at hc7;done) | (simp at hc7;omega)
         ·intro hc7
          try simp only [zC,reduceCtorEq] at hc7
          refine zn [2,3,4,8,9,12,15] ⟨?_⟩
          apply v_seq1
          ·intro Q45 n45 e45 r45
           refine v_draw (by kernel_rfl) ?_;intro K46 q46 k46
           show aAny _ _ _ _ 12 (Array.replicate 12 false) _
           refine zdLoadX q46 true 0 99 ?_;refine zdLoadX q46 true 2 101 ?_;refine zdMove q46 true 4 103 ?_;refine aAny_two 1 9 rfl rfl (by kernel_rfl) ?_ ?_
           ·refine zsc (c1) ⟨?_⟩
            refine aAny_two 3 9 rfl rfl (by kernel_rfl) ?_ ?_
            ·refine zsc (c2) ⟨?_⟩
             refine aAny_two 5 9 rfl rfl (by kernel_rfl) ?_ ?_
             ·refine zsc (c4) ⟨?_⟩
              refine zdMove q46 true 6 98 ?_;refine zdExtract q46 true 7 105 ?_;refine zdExtract q46 false 8 106 ?_;refine zoAlloc 9 ⟨?_⟩;refine zoStore 10 ⟨?_⟩;refine zoAssign 11 ⟨?_⟩;refine aAny_done (by kernel_rfl) ?_;refine k46 _ ?_;refine n45 _ ?_
              exact weak_one [8,9,12,15,17,18] [0,1,2,3,4,5,6,7,8,9,10,11,12,13,14,15,16,17,18,19,20,21,22,23,24,25,26,27,28,29,30,31,32,33,34,35,36,37,38,39,40,41,42,43,44]
             ·refine zsAlloc ⟨?_⟩
              refine zoc 5 (c4) ⟨?_⟩;refine zdMove q46 true 6 98 ?_;refine zdExtract q46 true 7 105 ?_;refine zdExtract q46 false 8 106 ?_;refine zoStore 10 ⟨?_⟩;refine zoAssign 11 ⟨?_⟩;refine aAny_done (by kernel_rfl) ?_;refine k46 _ ?_;refine n45 _ ?_
              exact weak_same [8,9,12,15,17,18] [0,1,2,3,4,5,6,7,8,9,10,11,12,13,14,15,16,17,18,19,20,21,22,23,24,25,26,27,28,29,30,31,32,33,34,35,36,37,42,43,44,38,39,40,41]
            ·refine zsAlloc ⟨?_⟩
             refine zoc 3 (c2) ⟨?_⟩;refine zoc 5 (c4) ⟨?_⟩;refine zdMove q46 true 6 98 ?_;refine zdExtract q46 true 7 105 ?_;refine zdExtract q46 false 8 106 ?_;refine zoStore 10 ⟨?_⟩;refine zoAssign 11 ⟨?_⟩;refine aAny_done (by kernel_rfl) ?_;refine k46 _ ?_;refine n45 _ ?_
             exact weak_same [8,9,12,15,17,18] [0,1,2,3,4,5,6,7,8,9,10,11,12,13,14,15,16,17,18,19,20,21,22,23,24,25,26,27,28,29,30,31,32,33,34,39,40,41,42,43,44,35,36,37,38]
           ·refine zsAlloc ⟨?_⟩
            refine zoc 1 (c1) ⟨?_⟩;refine zoc 3 (c2) ⟨?_⟩;refine zoc 5 (c4) ⟨?_⟩;refine zdMove q46 true 6 98 ?_;refine zdExtract q46 true 7 105 ?_;refine zdExtract q46 false 8 106 ?_;refine zoStore 10 ⟨?_⟩;refine zoAssign 11 ⟨?_⟩;refine aAny_done (by kernel_rfl) ?_;refine k46 _ ?_;refine n45 _ ?_
            exact weak_same [8,9,12,15,17,18] [0,1,2,3,4,5,6,7,8,9,10,11,12,13,14,15,16,17,18,19,20,21,22,23,24,25,26,27,28,29,30,31,32,33,38,39,40,41,42,43,44,34,35,36,37]
          ·refine zkm ⟨?_⟩
           refine v_seq ?_;intros
           have F:=Fc.mk True.intro
           refine yRc [12,15,115] (c5) ⟨?_⟩;refine v_cond _ rfl ?_ ?_
           ·intro hc8
            exfalso;first | (simp at hc8;done) | (simp at hc8;omega)
           ·intro hc8
            try simp only [zC,reduceCtorEq] at hc8
            refine zn [12,15] ⟨?_⟩;refine yR [12,15,16] ⟨?_⟩;refine yRc [15,16] (c11) ⟨?_⟩;refine v_seq ?_;intros;refine yR [15,16,120] ⟨?_⟩;refine v_cond _ rfl ?_ ?_
            ·intro hc9
             exfalso;first | (simp at hc9;done) | (simp at hc9;omega)
            ·intro hc9
             try simp only [zC,reduceCtorEq] at hc9
             refine zn [15,16] ⟨?_⟩;refine v_seq ?_;intros;refine yR [123] ⟨?_⟩;refine v_cond _ rfl ?_ ?_
             ·intro hc10
              exfalso;first | (simp at hc10;done) | (simp at hc10;omega)
             ·intro hc10
              try simp only [zC,reduceCtorEq] at hc10
              refine zn [] ⟨?_⟩;refine yR [6] ⟨?_⟩;refine zr ⟨?_⟩
              exact ret_pure rfl rfl (.inl rfl)
end Go.Proofs.YtaefoaghpehbpaaGreat
