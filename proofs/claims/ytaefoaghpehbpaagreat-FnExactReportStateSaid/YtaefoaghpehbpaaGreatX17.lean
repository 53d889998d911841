/- What functions compute. No condition. -/
import Derived.Test.YtaefoaghpehbpaaGreatUz
import Derived.Test.YtaefoaghpehbpaaGreatUty
import Derived.Test.YtaefoaghpehbpaaGreatUmG
import Derived.Test.YtaefoaghpehbpaaGreatX11
import Derived.Test.YtaefoaghpehbpaaGreatX14
import Derived.Test.YtaefoaghpehbpaaGreatX15
import Derived.Test.YtaefoaghpehbpaaGreatX13
import Derived.Test.YtaefoaghpehbpaaGreatX12
import Derived.Test.YtaefoaghpehbpaaGreatX2
import Derived.Test.YtaefoaghpehbpaaGreatX5
import Derived.Test.YtaefoaghpehbpaaGreatX16
set_option linter.unusedSimpArgs false
set_option linter.unusedVariables false
set_option linter.defProp false
namespace Go.Proofs.YtaefoaghpehbpaaGreat
open Go Go.Vm
set_option maxHeartbeats 6000000 in
theorem lawReportState_con (nss:Int) (ss:List (Int×Int×Int)) (flc:List (ByteArray×Int×Int×Int×Int)) (inc:List (Int×Int×Bool×List ByteArray)) (wsc:List (Int×List Int)) (s:ByteArray) (t:Int) (hss:ss.length≤9223372036854775807) (hfc:flc.length≤9223372036854775807) (hfsc:∀t∈flc,t.1.size≤9223372036854775807) (hic:inc.length≤9223372036854775807) (hisc:∀t∈inc,t.2.2.2.length≤9223372036854775807∧∀s∈t.2.2.2,s.size≤9223372036854775807) (hwc:wsc.length≤9223372036854775807) (hwsc:∀t∈wsc,t.2.length≤9223372036854775807) (hzs:s.size≤9223372036854775807):Con Tryz.prog 4 [.agg [.int .i64 nss,.sl (ss.map (fun t:Int×Int×Int=>V.agg [V.int .i64 t.1,V.int .i64 t.2.1,V.int .i64 t.2.2]))],.agg [.sl (flc.map (fun t:ByteArray×Int×Int×Int×Int=>V.agg [V.str t.1,V.int .i64 t.2.1,V.int .i64 t.2.2.1,V.int .i64 t.2.2.2.1,V.int .i64 t.2.2.2.2])),.sl (inc.map (fun t:Int×Int×Bool×List ByteArray=>V.agg [V.int .i64 t.1,V.int .i64 t.2.1,V.bool t.2.2.1,V.sl (t.2.2.2.map V.str)])),.sl (wsc.map (fun t:Int×List Int=>V.agg [V.int .i64 t.1,V.sl (t.2.map (V.int .i64))]))],.str s,.int .i64 t] [] (.bool true) []:=by
 refine v_con [.tmp 8] [(16,[0]),(17,[0])] Tryz.func4 rfl rfl rfl (by simp [Tryz.ntmps4]) ?_
 intro Q0 n0 r0
 simp only [Tryz.ntmps4,envFrom,Nat.reduceAdd]
 have T:=Tys.mk (And.intro Ty.t3 (And.intro Ty.t4 (And.intro Ty.t9 (And.intro Ty.t22 (And.intro Ty.t24 (And.intro Ty.t25 (And.intro Ty.t26 (And.intro Ty.t27 (And.intro Ty.t29 (And.intro Ty.t32 (And.intro Ty.t33 (And.intro Ty.t34 (And.intro Ty.t36 (And.intro Ty.t39 (And.intro Ty.t41 (And.intro Ty.t51 (And.intro Ty.t75 (And.intro Ty.t96 (And.intro Ty.t99 (And.intro Ty.t102 (And.intro Ty.t158 (And.intro Ty.t160 (And.intro Ty.t162 (And.intro Ty.t169 Ty.t171))))))))))))))))))))))))
 have F:=Fc.mk True.intro
 refine v_seqR [2,3,4,5] ?_;intro K1 k1;refine zq43 ⟨?_⟩;refine k1 _ ?_;refine zk ⟨?_⟩;refine v_seq ?_;intro Q2 n2 e2 r2;refine v_seqR [2,3,4,5,23] ?_;intro K3 k3;refine zq45 ⟨?_⟩;refine k3 _ ?_;refine zk ⟨?_⟩;refine v_condS _ rfl ?_ ?_
 ·intro hc0
  refine v_seqR [8] ?_;intro K5 k5;refine zAssign ⟨?_⟩;refine k5 _ ?_;refine zk ⟨?_⟩;refine v_ret ?_;refine r2 _ ?_;refine r0 _ ?_;refine zf ⟨?_⟩
  exact ret_pure rfl rfl (.inl rfl)
 ·intro hc0
  have bs:s.size≤1048576:=by omega
  refine v_skip ?_;refine n2 _ _ (weak_keep [2,3,4,5] _) ?_;refine zk ⟨?_⟩;refine v_seqR [2,3,4,5,9] ?_;intro K6 k6;refine zAssign ⟨?_⟩;refine k6 _ ?_;refine zk ⟨?_⟩;refine v_seqR [2,3,4,5,9] ?_;intro K7 k7;refine zq54 ⟨?_⟩;refine zc (szTown_con nss ss (1048576:Int) (⟨by omega,by omega⟩:(0:Int)≤1048576∧(1048576:Int)≤1048576) hss) ⟨?_⟩;refine zAssign ⟨?_⟩;refine k7 _ ?_;refine zk ⟨?_⟩;refine v_seq ?_;intro Q8 n8 e8 r8;refine v_seqR [2,3,4,5,9,28] ?_;intro K9 k9;refine zq10 ⟨?_⟩;refine k9 _ ?_;refine zk ⟨?_⟩;refine v_condS _ rfl ?_ ?_
  ·intro hc1
   refine v_seqR [8] ?_;intro K11 k11;refine zAssign ⟨?_⟩;refine k11 _ ?_;refine zk ⟨?_⟩;refine v_ret ?_;refine r8 _ ?_;refine r0 _ ?_;refine zf ⟨?_⟩
   exact ret_pure rfl rfl (.inl rfl)
  ·intro hc1
   obtain ⟨bss,q1⟩:=szIf (⟨by omega,by omega⟩:(0:Int)≤1048576∧(1048576:Int)≤1048576).2 hc1
   refine v_skip ?_;refine n8 _ _ (weak_keep [2,3,4,5,9] _) ?_;refine zk ⟨?_⟩;refine v_seqR [2,3,4,5,9] ?_;intro K12 k12;refine zq54 ⟨?_⟩;refine zc (szControl_con (if (1048576:Int) - (ss.length:Int) < 0 then -1 else (1048576:Int) - (ss.length:Int)) flc inc wsc q1 hfc hfsc hic hisc hwc hwsc) ⟨?_⟩;refine zAssign ⟨?_⟩;refine k12 _ ?_;refine zk ⟨?_⟩;refine v_seq ?_;intro Q13 n13 e13 r13;refine v_seqR [2,3,4,5,33] ?_;intro K14 k14;refine zq10 ⟨?_⟩;refine k14 _ ?_;refine zk ⟨?_⟩;refine v_condS _ rfl ?_ ?_
   ·intro hc2
    refine v_seqR [8] ?_;intro K16 k16;refine zAssign ⟨?_⟩;refine k16 _ ?_;refine zk ⟨?_⟩;refine v_ret ?_;refine r13 _ ?_;refine r0 _ ?_;refine zf ⟨?_⟩
    exact ret_pure rfl rfl (.inl rfl)
   ·intro hc2
    obtain ⟨bfc,bic,binc,bwc,bwnc,q2⟩:=szIfC q1.1 q1.2 hc2
    have tic:=totIncident_le binc
    have twc:=totWant_le bwnc
    have pic:=totIncident_pos inc
    have pwc:=totWant_pos wsc
    have tr1:=totIncident_pos (orNil (rpvB nss ss flc inc wsc s t) (repI inc s t))
    have tr2:=totWant_pos (orNil (rpvB nss ss flc inc wsc s t) wsc)
    have tr3:totIncident (orNil (rpvB nss ss flc inc wsc s t) (repI inc s t))≤_:=totIncident_le (orNil_all (repI_all s t binc))
    have tr4:totWant (orNil (rpvB nss ss flc inc wsc s t) wsc)≤_:=totWant_le (orNil_all bwnc)
    have c1:=toTown_con nss ss bss
    have c2:=toControl_con flc inc wsc bfc bic binc bwc bwnc
    have c3:=specReport_con nss ss flc inc wsc s t bss bfc hfsc bic binc (fun x h=>(hisc x h).2) bwc bwnc
    have c4:=implReport_con nss ss flc inc wsc s t bss bfc hfsc bic binc (fun x h=>(hisc x h).2) bwc bwnc
    have c5:=eqControl_con (orNil (rpvB nss ss flc inc wsc s t) (chgF flc s t)) (orNil (rpvB nss ss flc inc wsc s t) (repI inc s t)) (orNil (rpvB nss ss flc inc wsc s t) wsc) (orNil_len (by rw [chgF_len];exact bfc)) (orNil_len (by rw [repI_len];exact bic)) (orNil_all (repI_all s t binc)) (orNil_len bwc) (orNil_all bwnc)
    have c6:=eqTown_con nss ss bss
    have c7:=eqControl_con flc inc wsc bfc bic binc bwc bwnc
    have c8:=markTown_con nss ss (1) bss (by omega)
    have c9:=markControl_con flc inc wsc (1+3 * ss.length) bfc bic binc bwc bwnc (by omega)
    have c10:=markControl_con (orNil (rpvB nss ss flc inc wsc s t) (chgF flc s t)) (orNil (rpvB nss ss flc inc wsc s t) (repI inc s t)) (orNil (rpvB nss ss flc inc wsc s t) wsc) (1) (orNil_len (by rw [chgF_len];exact bfc)) (orNil_len (by rw [repI_len];exact bic)) (orNil_all (repI_all s t binc)) (orNil_len bwc) (orNil_all bwnc) (by omega)
    have c11:=heldControl_con (orNil (rpvB nss ss flc inc wsc s t) (chgF flc s t)) (orNil (rpvB nss ss flc inc wsc s t) (repI inc s t)) (orNil (rpvB nss ss flc inc wsc s t) wsc) (1) (orNil_len (by rw [chgF_len];exact bfc)) (orNil_len (by rw [repI_len];exact bic)) (orNil_all (repI_all s t binc)) (orNil_len bwc) (orNil_all bwnc) (by omega)
    generalize (markStreet (1) ss.length).map (fun t:Int×Int×Int=>V.agg [V.int .i64 t.1,V.int .i64 t.2.1,V.int .i64 t.2.2])=L1 at c1 c2 c3 c4 c5 c6 c7 c8 c9 c10 c11⊢
    generalize (markAppliance (1+3 * ss.length) flc.length).map (fun t:ByteArray×Int×Int×Int×Int=>V.agg [V.str t.1,V.int .i64 t.2.1,V.int .i64 t.2.2.1,V.int .i64 t.2.2.2.1,V.int .i64 t.2.2.2.2])=L2 at c1 c2 c3 c4 c5 c6 c7 c8 c9 c10 c11⊢
    generalize (markIncidents ((1+3 * ss.length)+5 * flc.length) inc).map (fun t:Int×Int×Bool×List ByteArray=>V.agg [V.int .i64 t.1,V.int .i64 t.2.1,V.bool t.2.2.1,V.sl (t.2.2.2.map V.str)])=L3 at c1 c2 c3 c4 c5 c6 c7 c8 c9 c10 c11⊢
    generalize (markWants (((1+3 * ss.length)+5 * flc.length)+totIncident inc) wsc).map (fun t:Int×List Int=>V.agg [V.int .i64 t.1,V.sl (t.2.map (V.int .i64))])=L4 at c1 c2 c3 c4 c5 c6 c7 c8 c9 c10 c11⊢
    generalize (markAppliance (1) (orNil (rpvB nss ss flc inc wsc s t) (chgF flc s t)).length).map (fun t:ByteArray×Int×Int×Int×Int=>V.agg [V.str t.1,V.int .i64 t.2.1,V.int .i64 t.2.2.1,V.int .i64 t.2.2.2.1,V.int .i64 t.2.2.2.2])=L5 at c1 c2 c3 c4 c5 c6 c7 c8 c9 c10 c11⊢
    generalize (markIncidents ((1)+5 * (orNil (rpvB nss ss flc inc wsc s t) (chgF flc s t)).length) (orNil (rpvB nss ss flc inc wsc s t) (repI inc s t))).map (fun t:Int×Int×Bool×List ByteArray=>V.agg [V.int .i64 t.1,V.int .i64 t.2.1,V.bool t.2.2.1,V.sl (t.2.2.2.map V.str)])=L6 at c1 c2 c3 c4 c5 c6 c7 c8 c9 c10 c11⊢
    generalize (markWants (((1)+5 * (orNil (rpvB nss ss flc inc wsc s t) (chgF flc s t)).length)+totIncident (orNil (rpvB nss ss flc inc wsc s t) (repI inc s t))) (orNil (rpvB nss ss flc inc wsc s t) wsc)).map (fun t:Int×List Int=>V.agg [V.int .i64 t.1,V.sl (t.2.map (V.int .i64))])=L7 at c1 c2 c3 c4 c5 c6 c7 c8 c9 c10 c11⊢
    generalize ss.map (fun t:Int×Int×Int=>V.agg [V.int .i64 t.1,V.int .i64 t.2.1,V.int .i64 t.2.2])=L8 at c1 c2 c3 c4 c5 c6 c7 c8 c9 c10 c11⊢
    generalize flc.map (fun t:ByteArray×Int×Int×Int×Int=>V.agg [V.str t.1,V.int .i64 t.2.1,V.int .i64 t.2.2.1,V.int .i64 t.2.2.2.1,V.int .i64 t.2.2.2.2])=L9 at c1 c2 c3 c4 c5 c6 c7 c8 c9 c10 c11⊢
    generalize inc.map (fun t:Int×Int×Bool×List ByteArray=>V.agg [V.int .i64 t.1,V.int .i64 t.2.1,V.bool t.2.2.1,V.sl (t.2.2.2.map V.str)])=L10 at c1 c2 c3 c4 c5 c6 c7 c8 c9 c10 c11⊢
    generalize wsc.map (fun t:Int×List Int=>V.agg [V.int .i64 t.1,V.sl (t.2.map (V.int .i64))])=L11 at c1 c2 c3 c4 c5 c6 c7 c8 c9 c10 c11⊢
    generalize (orNil (rpvB nss ss flc inc wsc s t) (chgF flc s t)).map (fun t:ByteArray×Int×Int×Int×Int=>V.agg [V.str t.1,V.int .i64 t.2.1,V.int .i64 t.2.2.1,V.int .i64 t.2.2.2.1,V.int .i64 t.2.2.2.2])=L12 at c1 c2 c3 c4 c5 c6 c7 c8 c9 c10 c11⊢
    generalize (orNil (rpvB nss ss flc inc wsc s t) (repI inc s t)).map (fun t:Int×Int×Bool×List ByteArray=>V.agg [V.int .i64 t.1,V.int .i64 t.2.1,V.bool t.2.2.1,V.sl (t.2.2.2.map V.str)])=L13 at c1 c2 c3 c4 c5 c6 c7 c8 c9 c10 c11⊢
    generalize (orNil (rpvB nss ss flc inc wsc s t) wsc).map (fun t:Int×List Int=>V.agg [V.int .i64 t.1,V.sl (t.2.map (V.int .i64))])=L14 at c1 c2 c3 c4 c5 c6 c7 c8 c9 c10 c11⊢
    refine v_skip ?_;refine n13 _ _ (weak_keep [2,3,4,5] _) ?_;refine zk ⟨?_⟩
    apply v_seq1
    ·intro Q17 n17 e17 r17
     refine v_draw (by kernel_rfl) ?_;intro K18 q18 k18
     show aAny _ _ _ _ 13 (Array.replicate 13 false) _
     refine zdLoadX q18 true 0 35 ?_;refine zdLoadX q18 true 2 37 ?_;refine zdMove q18 true 4 39 ?_;refine zdMove q18 true 5 40 ?_;refine aAny_two 1 10 rfl rfl (by kernel_rfl) ?_ ?_
     ·refine zsc (c1) ⟨?_⟩
      refine aAny_two 3 10 rfl rfl (by kernel_rfl) ?_ ?_
      ·refine zsc (c2) ⟨?_⟩
       refine aAny_two 6 10 rfl rfl (by kernel_rfl) ?_ ?_
       ·refine zsc (c3) ⟨?_⟩
        refine zdMove q18 true 7 34 ?_;refine zdExtract q18 true 8 42 ?_;refine zdExtract q18 false 9 43 ?_;refine zoAlloc 10 ⟨?_⟩;refine zoStore 11 ⟨?_⟩;refine zoAssign 12 ⟨?_⟩;refine aAny_done (by kernel_rfl) ?_;refine k18 _ ?_;refine n17 _ ?_
        exact weak_one [2,3,4,5,10,11] [0,1,2,3,4,5,6,7,8,9,10,11,12]
       ·refine zsAlloc ⟨?_⟩
        refine zoc 6 (c3) ⟨?_⟩;refine zdMove q18 true 7 34 ?_;refine zdExtract q18 true 8 42 ?_;refine zdExtract q18 false 9 43 ?_;refine zoStore 11 ⟨?_⟩;refine zoAssign 12 ⟨?_⟩;refine aAny_done (by kernel_rfl) ?_;refine k18 _ ?_;refine n17 _ ?_
        exact weak_same [2,3,4,5,10,11] [0,1,2,3,4,5,10,11,12,6,7,8,9]
      ·refine zsAlloc ⟨?_⟩
       refine zoc 3 (c2) ⟨?_⟩;refine zoc 6 (c3) ⟨?_⟩;refine zdMove q18 true 7 34 ?_;refine zdExtract q18 true 8 42 ?_;refine zdExtract q18 false 9 43 ?_;refine zoStore 11 ⟨?_⟩;refine zoAssign 12 ⟨?_⟩;refine aAny_done (by kernel_rfl) ?_;refine k18 _ ?_;refine n17 _ ?_
       exact weak_same [2,3,4,5,10,11] [0,1,2,7,8,9,10,11,12,3,4,5,6]
     ·refine zsAlloc ⟨?_⟩
      refine zoc 1 (c1) ⟨?_⟩;refine zoc 3 (c2) ⟨?_⟩;refine zoc 6 (c3) ⟨?_⟩;refine zdMove q18 true 7 34 ?_;refine zdExtract q18 true 8 42 ?_;refine zdExtract q18 false 9 43 ?_;refine zoStore 11 ⟨?_⟩;refine zoAssign 12 ⟨?_⟩;refine aAny_done (by kernel_rfl) ?_;refine k18 _ ?_;refine n17 _ ?_
      exact weak_same [2,3,4,5,10,11] [0,1,6,7,8,9,10,11,12,2,3,4,5]
    ·refine zkm ⟨?_⟩
     refine v_seqR [2,3,4,5,10,11,12] ?_;intro K19 k19
     have F:=Fc.mk True.intro
     refine zLoad ⟨?_⟩;refine zc (c1) ⟨?_⟩;refine zAlloc ⟨?_⟩;refine zStore ⟨?_⟩;refine k19 _ ?_;refine zk ⟨?_⟩;refine v_seqR [2,3,4,5,10,11,12,13] ?_;intro K20 k20;refine zLoad ⟨?_⟩;refine zc (c2) ⟨?_⟩;refine zAlloc ⟨?_⟩;refine zStore ⟨?_⟩;refine k20 _ ?_;refine zk ⟨?_⟩;refine v_seqR [2,3,4,5,10,11,12,13,14,15] ?_;intro K21 k21;refine zLoad ⟨?_⟩;refine zLoad ⟨?_⟩;refine zq2 ⟨?_⟩;refine zc (c4) ⟨?_⟩;refine zMove ⟨?_⟩;refine zExtract ⟨?_⟩;refine zExtract ⟨?_⟩;refine zAlloc ⟨?_⟩;refine zq53 ⟨?_⟩;refine k21 _ ?_;refine zk ⟨?_⟩;refine v_seq ?_;intro Q22 n22 e22 r22;refine v_seqR [2,3,4,5,10,11,12,13,14,15,64] ?_;intro K23 k23;refine zLoad ⟨?_⟩;refine zLoad ⟨?_⟩;refine zc (c5) ⟨?_⟩;refine zq31 ⟨?_⟩;refine zgMove ⟨?_⟩;refine zq21 ⟨?_⟩;refine k23 _ ?_;refine zk ⟨?_⟩;refine v_cond _ rfl ?_ ?_
     ·intro hc3
      exfalso;first | (simp at hc3;done) | (simp at hc3;omega)
     ·intro hc3
      try simp only [zC,reduceCtorEq] at hc3
      refine v_skip ?_;refine n22 _ _ (weak_keep [2,3,4,5,10,11,12,13,14,15] _) ?_;refine zk ⟨?_⟩;refine v_seq ?_;intro Q25 n25 e25 r25;refine v_seq ?_;intro Q26 n26 e26 r26;refine v_draw (by kernel_rfl) ?_;intro K27 q27 k27
      show aAny _ _ _ _ 5 (Array.replicate 5 false) _
      refine zdLoadX q27 true 0 65 ?_;refine zdLoadX q27 true 1 66 ?_;refine zoc 2 (c1) ⟨?_⟩;refine zoc 3 (c6) ⟨?_⟩;refine zdUnOp q27 true 4 69 ?_;refine aAny_done (by kernel_rfl) ?_;refine k27 _ ?_;refine n26 _ _ (weak_keep [2,3,4,5,10,11,12,13,14,15,69] _) ?_;refine zk ⟨?_⟩;refine v_cond _ rfl ?_ ?_
      ·intro hc4
       exfalso;first | (simp at hc4;done) | (simp at hc4;omega)
      ·intro hc4
       try simp only [zC,reduceCtorEq] at hc4
       refine v_skip ?_;refine n25 _ _ (weak_keep [2,3,4,5,10,11,12,13,14,15] _) ?_;refine zk ⟨?_⟩;refine v_seq ?_;intro Q29 n29 e29 r29;refine v_seq ?_;intro Q30 n30 e30 r30;refine v_draw (by kernel_rfl) ?_;intro K31 q31 k31
       show aAny _ _ _ _ 5 (Array.replicate 5 false) _
       refine zdLoadX q31 true 0 70 ?_;refine zdLoadX q31 true 1 71 ?_;refine zoc 2 (c2) ⟨?_⟩;refine zoc 3 (c7) ⟨?_⟩;refine zdUnOp q31 true 4 74 ?_;refine aAny_done (by kernel_rfl) ?_;refine k31 _ ?_;refine n30 _ _ (weak_keep [2,3,4,5,10,11,12,13,14,15,74] _) ?_;refine zk ⟨?_⟩;refine v_cond _ rfl ?_ ?_
       ·intro hc5
        exfalso;first | (simp at hc5;done) | (simp at hc5;omega)
       ·intro hc5
        try simp only [zC,reduceCtorEq] at hc5
        refine v_skip ?_;refine n29 _ _ (weak_keep [2,3,4,5,10,11,12,13,14,15] _) ?_;refine zk ⟨?_⟩;refine v_seqR [2,3,4,5,10,11,12,13,14,15,16] ?_;intro K33 k33;refine zAssign ⟨?_⟩;refine k33 _ ?_;refine zk ⟨?_⟩;refine v_seqR [2,3,4,5,10,11,13,14,15,16] ?_;intro K34 k34;refine zq54 ⟨?_⟩;refine zcl (c8) ⟨?_⟩;refine zAssign ⟨?_⟩;refine k34 _ ?_;refine zk ⟨?_⟩;refine v_seqR [2,3,4,5,10,11,14,15,16] ?_;intro K35 k35;refine zq54 ⟨?_⟩;refine zcl3 (c9) ⟨?_⟩;refine zAssign ⟨?_⟩;refine k35 _ ?_;refine zk ⟨?_⟩;refine v_seq ?_;intro Q36 n36 e36 r36;refine v_seqR [2,3,4,5,10,11,14,93] ?_;intro K37 k37;refine zq10 ⟨?_⟩;refine zMove ⟨?_⟩;refine zgLoad ⟨?_⟩;refine zgLoad ⟨?_⟩;refine zgc (c5) ⟨?_⟩;refine zq51 ⟨?_⟩;refine zq21 ⟨?_⟩;refine k37 _ ?_;refine zk ⟨?_⟩;refine v_cond _ rfl ?_ ?_
        ·intro hc6
         exfalso;first | (simp at hc6;done) | (simp at hc6;omega)
        ·intro hc6
         try simp only [zC,reduceCtorEq] at hc6
         refine v_skip ?_;refine n36 _ _ (weak_keep [2,3,4,5,10,11,14] _) ?_;refine zk ⟨?_⟩;refine v_seqR [2,3,4,5,10,11,14,17] ?_;intro K39 k39;refine zAssign ⟨?_⟩;refine k39 _ ?_;refine zk ⟨?_⟩;refine v_seqR [2,3,4,5,10,11,14,17] ?_;intro K40 k40;refine zq54 ⟨?_⟩;refine zcl3 (c10) ⟨?_⟩;refine zAssign ⟨?_⟩;refine k40 _ ?_;refine zk ⟨?_⟩;refine v_seqR [2,3,4,5,10,11,14,17,18] ?_;intro K41 k41;refine zAssign ⟨?_⟩;refine k41 _ ?_;refine zk ⟨?_⟩;refine v_seqR [2,3,4,5,10,11,14,17,18] ?_;intro K42 k42;refine zq54 ⟨?_⟩;refine zc (c11) ⟨?_⟩;refine zAssign ⟨?_⟩;refine k42 _ ?_;refine zk ⟨?_⟩;refine v_seq ?_;intro Q43 n43 e43 r43;refine v_seqR [2,3,4,5,10,11,14,17,18,101] ?_;intro K44 k44;refine zq10 ⟨?_⟩;refine k44 _ ?_;refine zk ⟨?_⟩;refine v_cond _ rfl ?_ ?_
         ·intro hc7
          exfalso;first | (simp at hc7;done) | (simp at hc7;omega)
         ·intro hc7
          try simp only [zC,reduceCtorEq] at hc7
          refine v_skip ?_;refine n43 _ _ (weak_keep [2,3,4,5,10,11,14,17,18] _) ?_;refine zk ⟨?_⟩;refine v_seq ?_;intro Q46 n46 e46 r46;refine v_seqR [2,3,4,5,10,11,14,17,104] ?_;intro K47 k47;refine zq41 ⟨?_⟩;refine k47 _ ?_;refine zk ⟨?_⟩;refine v_cond _ rfl ?_ ?_
          ·intro hc8
           exfalso;first | (simp at hc8;done) | (simp at hc8;omega)
          ·intro hc8
           try simp only [zC,reduceCtorEq] at hc8
           refine v_skip ?_;refine n46 _ _ (weak_keep [2,3,4,5,10,11,14,17] _) ?_;refine zk ⟨?_⟩
           apply v_seq1
           ·intro Q49 n49 e49 r49
            refine v_draw (by kernel_rfl) ?_;intro K50 q50 k50
            show aAny _ _ _ _ 13 (Array.replicate 13 false) _
            refine zdLoadX q50 true 0 106 ?_;refine zdLoadX q50 true 2 108 ?_;refine zdMove q50 true 4 110 ?_;refine zdMove q50 true 5 111 ?_;refine aAny_two 1 10 rfl rfl (by kernel_rfl) ?_ ?_
            ·refine zsc (c1) ⟨?_⟩
             refine aAny_two 3 10 rfl rfl (by kernel_rfl) ?_ ?_
             ·refine zsc (c2) ⟨?_⟩
              refine aAny_two 6 10 rfl rfl (by kernel_rfl) ?_ ?_
              ·refine zsc (c4) ⟨?_⟩
               refine zdMove q50 true 7 105 ?_;refine zdExtract q50 true 8 113 ?_;refine zdExtract q50 false 9 114 ?_;refine zoAlloc 10 ⟨?_⟩;refine zoStore 11 ⟨?_⟩;refine zoAssign 12 ⟨?_⟩;refine aAny_done (by kernel_rfl) ?_;refine k50 _ ?_;refine n49 _ ?_
               exact weak_one [10,11,14,17,19,20] [0,1,2,3,4,5,6,7,8,9,10,11,12,13,14,15,16,17,18,19,20,21,22,23,24,25,26,27,28,29,30,31,32,33,34,35,36,37,38,39,40,41,42,43,44]
              ·refine zsAlloc ⟨?_⟩
               refine zoc 6 (c4) ⟨?_⟩;refine zdMove q50 true 7 105 ?_;refine zdExtract q50 true 8 113 ?_;refine zdExtract q50 false 9 114 ?_;refine zoStore 11 ⟨?_⟩;refine zoAssign 12 ⟨?_⟩;refine aAny_done (by kernel_rfl) ?_;refine k50 _ ?_;refine n49 _ ?_
               exact weak_same [10,11,14,17,19,20] [0,1,2,3,4,5,6,7,8,9,10,11,12,13,14,15,16,17,18,19,20,21,22,23,24,25,26,27,28,29,30,31,32,33,34,35,36,37,42,43,44,38,39,40,41]
             ·refine zsAlloc ⟨?_⟩
              refine zoc 3 (c2) ⟨?_⟩;refine zoc 6 (c4) ⟨?_⟩;refine zdMove q50 true 7 105 ?_;refine zdExtract q50 true 8 113 ?_;refine zdExtract q50 false 9 114 ?_;refine zoStore 11 ⟨?_⟩;refine zoAssign 12 ⟨?_⟩;refine aAny_done (by kernel_rfl) ?_;refine k50 _ ?_;refine n49 _ ?_
              exact weak_same [10,11,14,17,19,20] [0,1,2,3,4,5,6,7,8,9,10,11,12,13,14,15,16,17,18,19,20,21,22,23,24,25,26,27,28,29,30,31,32,33,34,39,40,41,42,43,44,35,36,37,38]
            ·refine zsAlloc ⟨?_⟩
             refine zoc 1 (c1) ⟨?_⟩;refine zoc 3 (c2) ⟨?_⟩;refine zoc 6 (c4) ⟨?_⟩;refine zdMove q50 true 7 105 ?_;refine zdExtract q50 true 8 113 ?_;refine zdExtract q50 false 9 114 ?_;refine zoStore 11 ⟨?_⟩;refine zoAssign 12 ⟨?_⟩;refine aAny_done (by kernel_rfl) ?_;refine k50 _ ?_;refine n49 _ ?_
             exact weak_same [10,11,14,17,19,20] [0,1,2,3,4,5,6,7,8,9,10,11,12,13,14,15,16,17,18,19,20,21,22,23,24,25,26,27,28,29,30,31,32,33,38,39,40,41,42,43,44,34,35,36,37]
           ·refine zkm ⟨?_⟩
            refine v_seq ?_;intro Q51 n51 e51 r51;refine v_seqR [14,17,123] ?_;intro K52 k52
            have F:=Fc.mk True.intro
            refine zLoad ⟨?_⟩;refine zLoad ⟨?_⟩;refine zc (c5) ⟨?_⟩;refine zq31 ⟨?_⟩;refine zgMove ⟨?_⟩;refine zq21 ⟨?_⟩;refine k52 _ ?_;refine zk ⟨?_⟩;refine v_cond _ rfl ?_ ?_
            ·intro hc9
             exfalso;first | (simp at hc9;done) | (simp at hc9;omega)
            ·intro hc9
             try simp only [zC,reduceCtorEq] at hc9
             refine v_skip ?_;refine n51 _ _ (weak_keep [14,17] _) ?_;refine zk ⟨?_⟩;refine v_seqR [14,17,18] ?_;intro K54 k54;refine zAssign ⟨?_⟩;refine k54 _ ?_;refine zk ⟨?_⟩;refine v_seqR [17,18] ?_;intro K55 k55;refine zq54 ⟨?_⟩;refine zc (c11) ⟨?_⟩;refine zAssign ⟨?_⟩;refine k55 _ ?_;refine zk ⟨?_⟩;refine v_seq ?_;intro Q56 n56 e56 r56;refine v_seqR [17,18,128] ?_;intro K57 k57;refine zq10 ⟨?_⟩;refine k57 _ ?_;refine zk ⟨?_⟩;refine v_cond _ rfl ?_ ?_
             ·intro hc10
              exfalso;first | (simp at hc10;done) | (simp at hc10;omega)
             ·intro hc10
              try simp only [zC,reduceCtorEq] at hc10
              refine v_skip ?_;refine n56 _ _ (weak_keep [17,18] _) ?_;refine zk ⟨?_⟩;refine v_seq ?_;intro Q59 n59 e59 r59;refine v_seqR [131] ?_;intro K60 k60;refine zq41 ⟨?_⟩;refine k60 _ ?_;refine zk ⟨?_⟩;refine v_cond _ rfl ?_ ?_
              ·intro hc11
               exfalso;first | (simp at hc11;done) | (simp at hc11;omega)
              ·intro hc11
               try simp only [zC,reduceCtorEq] at hc11
               refine v_skip ?_;refine n59 _ _ (weak_keep [] _) ?_;refine zk ⟨?_⟩;refine v_seqR [8] ?_;intro K62 k62;refine zAssign ⟨?_⟩;refine k62 _ ?_;refine zk ⟨?_⟩;refine v_ret ?_;refine r0 _ ?_;refine zf ⟨?_⟩
               exact ret_pure rfl rfl (.inl rfl)
end Go.Proofs.YtaefoaghpehbpaaGreat
