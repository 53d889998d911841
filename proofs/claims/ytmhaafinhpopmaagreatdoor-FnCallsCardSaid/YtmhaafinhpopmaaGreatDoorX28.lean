/- What functions compute. No condition. -/
import Derived.Test.YtmhaafinhpopmaaGreatDoorX26
import Derived.Test.YtmhaafinhpopmaaGreatDoorX6
import Derived.Test.YtmhaafinhpopmaaGreatDoorX23
set_option linter.unusedSimpArgs false
set_option linter.unusedVariables false
set_option linter.defProp false
namespace Go.Proofs.YtmhaafinhpopmaaGreatDoor
open Go Go.Vm
set_option maxHeartbeats 8000000
set_option maxRecDepth 8000 in
theorem implParse_con (s:ByteArray) (hs:s.size≤100000):Con Tryz.prog 26 [.str s] [] (.tup [.ref 0,.bool (pcB s)]) [.arr ((pcR s).map (fun t:Int×Int×Int×Int×Int=>V.agg [V.int .i64 t.1,V.int .i64 t.2.1,V.int .i64 t.2.2.1,V.int .i64 t.2.2.2.1,V.int .i64 t.2.2.2.2])) .flat]:=by
 have hpll:=saB_len 59 (s:=s) (by omega);have hpz:=saB_sz (c:=59) hs;refine v_con [.tmp 2,.tmp 3] [] Tryz.func26 rfl rfl rfl (by simp [Tryz.ntmps26]) ?_;intro Q0 n0 r0;simp only [Tryz.ntmps26,envFrom,Nat.reduceAdd];have T:=Tys.mk (ai Ty.t3 (ai Ty.t4 (ai Ty.t9 (ai Ty.t24 (ai Ty.t26 (ai Ty.t35 Ty.t59))))));have F:=Fc.mk True.intro;refine yR [0] ⟨?_⟩;refine yR [0,4] ⟨?_⟩;refine v_seq ?_;intros;refine v_seq ?_;intro Q4 n4 e4 r4;refine yVc (after_con s 59 (by omega)) ⟨?_⟩;apply n4
 ·apply weak_trans (weak_keep [0,4,10,11,12] _);simp only [keep_mk,keepE_nil,keepE_cons,look_cons,look_nil,Nat.reduceEqDiff,reduceIte];exact weak_giveup 10 2 ((saB s 59).map V.str) .flat rfl rfl (.inl rfl)
 try simp only [atSlot_cons,atSlot_nil,Nat.reduceEqDiff,reduceIte,List.set_cons_zero,List.set_cons_succ]
 refine v_block ?_;intros;refine v_loop (fun i=>⟨[(0,.str s),(4,.ref 0),(10,.sl ((saB s 59).map V.str)),(11,.int .i64 (saB s 59).length),(12,.int .i64 (Nat.cast i))],[.arr ((imTo s i).map (fun t:Int×Int×Int×Int×Int=>V.agg [V.int .i64 t.1,V.int .i64 t.2.1,V.int .i64 t.2.2.1,V.int .i64 t.2.2.2.1,V.int .i64 t.2.2.2.2])) .flat],false,61,0⟩) (fun i=>i≤(saB s 59).length) (fun i=>(saB s 59).length - i) (0:Nat) ?_ ?_ ?_
 ·refine weak_bothS [0,4,10,11,12] [1] ⟨?_⟩;rfl
 ·exact qlo _
 ·rintro i hok7 Q7 n7 e7 r7;have hi1:i≤(saB s 59).length:=hok7;refine yR [0,4,10,11,12,13] ⟨?_⟩;refine v_seq ?_;intros;refine v_condS _ rfl ?_ ?_
  ·intro hc0;have hlt:i < (saB s 59).length:=by omega
   obtain ⟨x,hx⟩:∃x,(saB s 59)[i]? =some x:=⟨(saB s 59)[i],qla hlt⟩;have hxz:=hpz x (qlb hx);have hxg:(saB s 59).getD i .empty=x:=by rw [qld,hx];rfl
   have htz:=trimB_sz (c:=59) hxz;have hsl:=imTo_len s i;refine zn [0,4,10,11,12] ⟨?_⟩;refine v_seq ?_;intro Q11 n11 e11 r11;refine v_block ?_;intro Q12 n12 x12 e12 r12;have F:=Fc.mk (gdm hx);refine yR [0,4,6,10,11,12] ⟨?_⟩;refine v_seq ?_;intros;refine yR [0,4,6,10,11,12,17] ⟨?_⟩;refine v_condS _ rfl ?_ ?_
   ·intro hc1;have hxe:x=.empty:=hc1;have hst:imTo s (i+1)=imTo s i:=by rw [imTo,hxg,if_pos hxe]
    refine zn [0,4,10,11,12] ⟨?_⟩;refine yV ⟨?_⟩;refine n7 _ (i+1) ?_ ?_ ?_
    ·refine weak_bothS [0,4,10,11,12] [0] ⟨?_⟩;rw [hst];rfl
    ·exact hlt
    ·show _ < _;omega
   ·intro hc1;have hxe:x≠.empty:=hc1;refine zn [0,4,6,10,11,12] ⟨?_⟩;refine v_seq ?_;intro Q18 n18 e18 r18;refine yVcc (trim_con x 59 (by omega)) (readNumbers_con (trimB x 59) htz) ⟨?_⟩;apply n18
    ·apply weak_trans (weak_keep [0,4,7,8,10,11,12] _);simp only [keep_mk,keepE_nil,keepE_cons,look_cons,look_nil,Nat.reduceEqDiff,reduceIte];exact weak_giveup 7 1 ((rnR (trimB x 59)).map (V.int .i64)) .flat rfl rfl (.inl rfl)
    try simp only [atSlot_cons,atSlot_nil,Nat.reduceEqDiff,reduceIte,List.set_cons_zero,List.set_cons_succ]
    refine v_seq ?_;intros;refine yR [0,4,7,10,11,12,30] ⟨?_⟩;refine v_condS _ rfl ?_ ?_
    ·intro hc2;have hno:=pc_no (im_bad (s:=s) hlt (by rw [hxg];exact hxe) (by
      rw [hxg,imRow];rcases hc2 with h | h
      ·exact .inl (by simpa using h)
      ·exact .inr (by first | exact h | omega)))
     refine yR [2,3] ⟨?_⟩;refine zr ⟨?_⟩;rw [hno.1,hno.2];exact ret_ref_tup rfl rfl rfl (.inl rfl)
    ·intro hc2;have hw5:(rnR (trimB x 59)).length=5:=by first | omega | (have h:=hc2.2;omega) | (simp at hc2;omega)
     obtain ⟨w0,w1,w2,w3,w4,hW⟩:∃w0 w1 w2 w3 w4,rnR (trimB x 59)=[w0,w1,w2,w3,w4]:=by
      revert hw5;generalize rnR (trimB x 59)=W;intro hw5
      match W,hw5 with
      |[w0,w1,w2,w3,w4],_=>exact ⟨w0,w1,w2,w3,w4,rfl⟩
     have hst:imTo s (i+1)=imTo s i++[(w0,w1,w2,w3,w4)]:=by rw [imTo,hxg,if_neg hxe,imRow,hW];rfl
     refine zn [0,4,7,10,11,12] ⟨?_⟩;refine v_draw (by kernel_rfl) ?_;intro K24 q24 k24;show aAny _ _ _ _ 20 (Array.replicate 20 false) _;have F:=Fc.mk (ai (gdm hx) hW);refine zdMove q24 true 0 31 ?_;refine zdMove q24 true 1 32 ?_;refine zdIndexAddr q24 true 2 33 ?_;refine zdLoadX q24 true 3 34 ?_;refine zdMove q24 true 4 35 ?_;refine zdIndexAddr q24 true 5 36 ?_;refine zdLoadX q24 true 6 37 ?_;refine zdMove q24 true 7 38 ?_;refine zdIndexAddr q24 true 8 39 ?_;refine zdLoadX q24 true 9 40 ?_;refine zdMove q24 true 10 41 ?_;refine zdIndexAddr q24 true 11 42 ?_;refine zdLoadX q24 true 12 43 ?_;refine zdMove q24 true 13 44 ?_;refine zdIndexAddr q24 true 14 45 ?_;refine zdLoadX q24 true 15 46 ?_;refine zdBuild q24 true 16 47 ?_;refine zoBuildSlice 17 ⟨?_⟩;refine zoAppend 18 ⟨?_⟩;refine zoAssign 19 ⟨?_⟩;refine aAny_done (by kernel_rfl) ?_;refine k24 _ ?_;refine n12 _ ?_;refine n11 _ _ (weak_keep [0,4,10,11,12] _) ?_;refine zk ⟨?_⟩;refine yV ⟨?_⟩;refine n7 _ (i+1) ?_ ?_ ?_
     ·refine weak_bothS [0,4,10,11,12] [3] ⟨?_⟩;rw [hst,ql5];rfl
     ·exact hlt
     ·show _ < _;omega
  ·intro hc0;have hie:i=(saB s 59).length:=by omega
   subst hie;have hend:=im_end (s:=s) rfl;have hsl:=imTo_len s (saB s 59).length;rcases Bool.eq_false_or_eq_true (csB (imTo s (saB s 59).length)) with hA | hA
   ·skip;skip;refine zn [0,4] ⟨?_⟩;refine v_seq ?_;intros;have F:=Fc.mk hA;refine yRcg [4,59] (areCalls_con (imTo s (saB s 59).length) (by omega)) (callsText_con (imTo s (saB s 59).length) hA) ⟨?_⟩;refine v_condS _ rfl ?_ ?_
    ·intro hc3;have hno:pcB s=false∧pcR s=[]:=by
      first
      |exact hno
      |exact hend.2 (fun q=>hc3.elim (fun h=>h) fun h=>h q.2)
     refine yR [2,3] ⟨?_⟩;refine zr ⟨?_⟩;rw [hno.1,hno.2];exact ret_ref_tup rfl rfl rfl (.inl rfl)
    ·intro hc3;have hyes:=hend.1 ⟨hA,by first | exact hc3 | simpa [hA] using hc3⟩;refine zn [4] ⟨?_⟩;refine yR [2,3] ⟨?_⟩;refine zr ⟨?_⟩;rw [hyes.1,hyes.2];exact ret_ref_tup rfl rfl rfl (.inl rfl)
   ·skip;have hno:=hend.2 (fun q=>by rw [hA] at q;cases q.1);refine zn [0,4] ⟨?_⟩;refine v_seq ?_;intros;refine v_seqR [4,59] ?_;intro K32 k32;have F:=Fc.mk hA;refine zMove ⟨?_⟩;refine zc (areCalls_con (imTo s (saB s 59).length) (by omega)) ⟨?_⟩;refine zUnOp ⟨?_⟩;refine zMove ⟨?_⟩;refine zgMove ⟨?_⟩;refine zPs ⟨?_⟩;refine zgMove ⟨?_⟩;refine zgBinOp ⟨?_⟩;refine zPick ⟨?_⟩;refine k32 _ ?_;refine zk ⟨?_⟩;refine v_cond _ rfl ?_ ?_
    ·intro hc3;try simp only [zC,reduceCtorEq] at hc3
     have hno:pcB s=false∧pcR s=[]:=by
      first
      |exact hno
      |exact hend.2 (fun q=>hc3.elim (fun h=>h) fun h=>h q.2)
     refine yR [2,3] ⟨?_⟩;refine zr ⟨?_⟩;rw [hno.1,hno.2];exact ret_ref_tup rfl rfl rfl (.inl rfl)
    ·intro hc3;exfalso;simp at hc3
end Go.Proofs.YtmhaafinhpopmaaGreatDoor
