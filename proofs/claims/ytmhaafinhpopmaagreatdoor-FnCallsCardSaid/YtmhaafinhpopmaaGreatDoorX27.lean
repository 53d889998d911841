/- What functions compute. No condition. -/
import Derived.Test.YtmhaafinhpopmaaGreatDoorX26
import Derived.Test.YtmhaafinhpopmaaGreatDoorX6
import Derived.Test.YtmhaafinhpopmaaGreatDoorX23
set_option linter.unusedSimpArgs false
set_option linter.unusedVariables false
set_option linter.defProp false
namespace Go.Proofs.YtmhaafinhpopmaaGreatDoor
open Go Go.Vm
set_option maxHeartbeats 8000000
theorem split_sz (s:ByteArray) (b:Int):∀i,∀x∈(splitSt s b i).1,x.size≤s.size
  | 0,x,h=>by cases h
  | i + 1,x,h=>by
    rw [splitSt] at h;split at h
    · rcases qlh.1 h with q | q
      · exact split_sz s b i x q
      · rw [qlq] at q
        rw [q,ByteArray.size_extract];omega
    · exact split_sz s b i x h
theorem prt_sz (s:ByteArray) (b:Int):∀x∈prt s b,x.size≤s.size:=fun x h=>by
  rcases qlh.1 h with q | q
  · exact split_sz s b _ x q
  · rw [qlq] at q
    rw [q,ByteArray.size_extract];omega
theorem prt_llen (s:ByteArray) (b:Int):(prt s b).length≤s.size+1:=by
  have h1:=split_len s b s.size;have h2:=cntB_le s b s.size;rw [prt,qlg,h1];simp;omega
set_option maxRecDepth 8000 in
theorem specParse_con (s:ByteArray) (hs:s.size≤100000):Con Tryz.prog 27 [.str s] [] (.tup [.ref 0,.bool (pcB s)]) [.arr ((pcR s).map (fun t:Int×Int×Int×Int×Int=>V.agg [V.int .i64 t.1,V.int .i64 t.2.1,V.int .i64 t.2.2.1,V.int .i64 t.2.2.2.1,V.int .i64 t.2.2.2.2])) .flat]:=by
 have hpl:=prt_len s 59;have hpz:=prt_sz s 59;have hpll:=prt_llen s 59;refine v_con [.tmp 2,.tmp 3] [] Tryz.func27 rfl rfl rfl (by simp [Tryz.ntmps27]) ?_;intro Q0 n0 r0;simp only [Tryz.ntmps27,envFrom,Nat.reduceAdd];have T:=Tys.mk (ai Ty.t3 (ai Ty.t4 (ai Ty.t5 (ai Ty.t9 (ai Ty.t24 (ai Ty.t26 Ty.t59))))));have F:=Fc.mk True.intro;refine yR [0] ⟨?_⟩;refine v_seq ?_;intro Q2 n2 e2 r2;refine yVc ((l1Split_con s 59 (by omega):Con _ _ _ _ _ [.arr ((prt s 59).map V.str) .flat])) ⟨?_⟩;apply n2
 ·apply weak_trans (weak_keep [0,4] _);simp only [keep_mk,keepE_nil,keepE_cons,look_cons,look_nil,Nat.reduceEqDiff,reduceIte];exact weak_giveup 4 1 ((prt s 59).map V.str) .flat rfl rfl (.inl rfl)
 try simp only [atSlot_cons,atSlot_nil,Nat.reduceEqDiff,reduceIte,List.set_cons_zero,List.set_cons_succ]
 refine v_seq ?_;intros;refine yR [0,4,13] ⟨?_⟩;refine v_condS _ rfl ?_ ?_
 ·intro hc0;have hno:=pc_no (sp_many (s:=s) (by omega));refine yR [2,3] ⟨?_⟩;refine zr ⟨?_⟩;rw [hno.1,hno.2];exact ret_ref_tup rfl rfl rfl (.inl rfl)
 ·intro hc0;have hp21:(prt s 59).length≤21:=by omega
  have hcast:((prt s 59).length:Int) - 1=((((prt s 59).length - 1):Nat):Int):=by omega
  have htl:((prt s 59).take ((prt s 59).length - 1)).length=((prt s 59).length - 1):=by rw [qlk];omega
  refine zn [0,4] ⟨?_⟩;have F:=Fc.mk (ai hcast (ai @ql9 htl));refine yR [0,4,5] ⟨?_⟩;refine v_seq ?_;intros;refine yR [0,5,18,19,20] ⟨?_⟩;refine v_block ?_;intros;refine v_loop (fun i=>⟨[(0,.str s),(5,.ref 0),(18,.sl (((prt s 59).take ((prt s 59).length - 1)).map V.str)),(19,.int .i64 (Nat.cast ((prt s 59).length - 1))),(20,.int .i64 (Nat.cast i))],[.arr ((spTo s i).map (fun t:Int×Int×Int×Int×Int=>V.agg [V.int .i64 t.1,V.int .i64 t.2.1,V.int .i64 t.2.2.1,V.int .i64 t.2.2.2.1,V.int .i64 t.2.2.2.2])) .flat],false,64,0⟩) (fun i=>i≤((prt s 59).length - 1)) (fun i=>((prt s 59).length - 1) - i) (0:Nat) ?_ ?_ ?_
  ·refine weak_bothS [0,5,18,19,20] [2] ⟨?_⟩;rfl
  ·exact qlo _
  ·rintro i hok12 Q12 n12 e12 r12;have hi1:i≤((prt s 59).length - 1):=hok12;refine yR [0,5,18,19,20,21] ⟨?_⟩;refine v_seq ?_;intros;refine v_condS _ rfl ?_ ?_
   ·intro hc1;have hlt:i < ((prt s 59).length - 1):=by omega
    obtain ⟨x,hx⟩:∃x,(prt s 59)[i]? =some x:=⟨(prt s 59)[i],qla (by omega)⟩;have hxt:((prt s 59).take ((prt s 59).length - 1))[i]? =some x:=by rw [ql0 hlt];exact hx
    have hxz:=hpz x (qlb hx);have hxg:(prt s 59).getD i .empty=x:=by rw [qld,hx];rfl
    have hwl:=prt_llen x 44;have hwz:=prt_sz x 44;have hsl:=spTo_len s i;refine zn [0,5,18,19,20] ⟨?_⟩;refine v_seq ?_;intro Q16 n16 e16 r16;refine v_block ?_;intro Q17 n17 x17 e17 r17;have F:=Fc.mk (ai hcast (ai @ql9 (ai htl (gdm hxt))));refine yR [0,5,7,18,19,20] ⟨?_⟩;refine v_seq ?_;intro Q19 n19 e19 r19;refine yVc ((l1Split_con x 44 (by omega):Con _ _ _ _ _ [.arr ((prt x 44).map V.str) .flat])) ⟨?_⟩;apply n19
    ·apply weak_trans (weak_keep [0,5,8,18,19,20] _);simp only [keep_mk,keepE_nil,keepE_cons,look_cons,look_nil,Nat.reduceEqDiff,reduceIte];exact weak_giveup 8 1 ((prt x 44).map V.str) .flat rfl rfl (.inl rfl)
    try simp only [atSlot_cons,atSlot_nil,Nat.reduceEqDiff,reduceIte,List.set_cons_zero,List.set_cons_succ]
    refine v_seq ?_;intros;refine yR [0,5,8,18,19,20,28] ⟨?_⟩;refine v_condS _ rfl ?_ ?_
    ·intro hc2;have hno:=pc_no (sp_five (s:=s) hlt (by rw [hxg];first | omega | (simp at hc2;omega)));refine yR [2,3] ⟨?_⟩;refine zr ⟨?_⟩;rw [hno.1,hno.2];exact ret_ref_tup rfl rfl rfl (.inl rfl)
    ·intro hc2;have hw5:(prt x 44).length=5:=by first | omega | (simp at hc2;omega)
     obtain ⟨w0,w1,w2,w3,w4,hW⟩:∃w0 w1 w2 w3 w4,(prt x 44)=[w0,w1,w2,w3,w4]:=by
      revert hw5;generalize (prt x 44)=W;intro hw5
      match W,hw5 with
      |[w0,w1,w2,w3,w4],_=>exact ⟨w0,w1,w2,w3,w4,rfl⟩
     have hst:spTo s (i+1)=spTo s i++[(rdN w0,rdN w1,rdN w2,rdN w3,rdN w4)]:=by rw [spTo,spAt,hxg,hW];rfl
     have hz5:∀w∈[w0,w1,w2,w3,w4],w.size≤100000:=fun w h=>by have:=hwz w (by rw [hW];exact h);omega
     simp only [List.mem_cons,List.not_mem_nil,or_false,forall_eq_or_imp,forall_eq] at hz5;obtain ⟨z0,z1,z2,z3,z4⟩:=hz5;refine zn [0,5,8,18,19,20] ⟨?_⟩;refine v_draw (by kernel_rfl) ?_;intro K25 q25 k25;show aAny _ _ _ _ 25 (Array.replicate 25 false) _;have F:=Fc.mk (ai hcast (ai @ql9 (ai htl (ai (gdm hxt) hW))));refine zdMove q25 true 0 29 ?_;refine zdMove q25 true 1 30 ?_;refine zdIndexAddr q25 true 2 31 ?_;refine zdLoadX q25 true 3 32 ?_;refine zdMove q25 true 5 34 ?_;refine zdIndexAddr q25 true 6 35 ?_;refine zdLoadX q25 true 7 36 ?_;refine zdMove q25 true 9 38 ?_;refine zdIndexAddr q25 true 10 39 ?_;refine zdLoadX q25 true 11 40 ?_;refine zdMove q25 true 13 42 ?_;refine zdIndexAddr q25 true 14 43 ?_;refine zdLoadX q25 true 15 44 ?_;refine zdMove q25 true 17 46 ?_;refine zdIndexAddr q25 true 18 47 ?_;refine zdLoadX q25 true 19 48 ?_;refine zoc 4 (l1Read_con w0 (by omega)) ⟨?_⟩;refine zoc 8 (l1Read_con w1 (by omega)) ⟨?_⟩;refine zoc 12 (l1Read_con w2 (by omega)) ⟨?_⟩;refine zoc 16 (l1Read_con w3 (by omega)) ⟨?_⟩;refine zoc 20 (l1Read_con w4 (by omega)) ⟨?_⟩;refine zdBuild q25 true 21 50 ?_;refine zoBuildSlice 22 ⟨?_⟩;refine zoAppend 23 ⟨?_⟩;refine zoAssign 24 ⟨?_⟩;refine aAny_done (by kernel_rfl) ?_;refine k25 _ ?_;refine n17 _ ?_;refine n16 _ _ (weak_keep [0,5,18,19,20] _) ?_;refine zk ⟨?_⟩;refine yV ⟨?_⟩;refine n12 _ (i+1) ?_ ?_ ?_
     ·refine weak_bothS [0,5,18,19,20] [3] ⟨?_⟩;rw [hst,ql5];rfl
     ·exact hlt
     ·show _ < _;omega
   ·intro hc1;have hie:i=((prt s 59).length - 1):=by omega
    subst hie;have hend:=sp_end (s:=s) rfl;have hsl:=spTo_len s ((prt s 59).length - 1);rcases Bool.eq_false_or_eq_true (csB (spTo s ((prt s 59).length - 1))) with hA | hA
    ·skip;skip;refine zn [0,5] ⟨?_⟩;refine v_seq ?_;intros;have F:=Fc.mk (ai hcast (ai @ql9 (ai htl hA)));refine yRcg [5,62] (clGood_con (spTo s ((prt s 59).length - 1)) (by omega)) (clText_con (spTo s ((prt s 59).length - 1)) hA) ⟨?_⟩;refine v_condS _ rfl ?_ ?_
     ·intro hc3;have hno:pcB s=false∧pcR s=[]:=by
       first
       |exact hno
       |exact hend.2 (fun q=>hc3.elim (fun h=>h) fun h=>h q.2)
      refine yR [2,3] ⟨?_⟩;refine zr ⟨?_⟩;rw [hno.1,hno.2];exact ret_ref_tup rfl rfl rfl (.inl rfl)
     ·intro hc3;have hyes:=hend.1 ⟨hA,by first | exact hc3 | simpa [hA] using hc3⟩;refine zn [5] ⟨?_⟩;refine yR [2,3] ⟨?_⟩;refine zr ⟨?_⟩;rw [hyes.1,hyes.2];exact ret_ref_tup rfl rfl rfl (.inl rfl)
    ·skip;have hno:=hend.2 (fun q=>by rw [hA] at q;cases q.1);refine zn [0,5] ⟨?_⟩;refine v_seq ?_;intros;refine v_seqR [5,62] ?_;intro K33 k33;have F:=Fc.mk (ai hcast (ai @ql9 (ai htl hA)));refine zMove ⟨?_⟩;refine zc (clGood_con (spTo s ((prt s 59).length - 1)) (by omega)) ⟨?_⟩;refine zUnOp ⟨?_⟩;refine zMove ⟨?_⟩;refine zgMove ⟨?_⟩;refine zPs ⟨?_⟩;refine zgMove ⟨?_⟩;refine zgBinOp ⟨?_⟩;refine zPick ⟨?_⟩;refine k33 _ ?_;refine zk ⟨?_⟩;refine v_cond _ rfl ?_ ?_
     ·intro hc3;try simp only [zC,reduceCtorEq] at hc3
      have hno:pcB s=false∧pcR s=[]:=by
       first
       |exact hno
       |exact hend.2 (fun q=>hc3.elim (fun h=>h) fun h=>h q.2)
      refine yR [2,3] ⟨?_⟩;refine zr ⟨?_⟩;rw [hno.1,hno.2];exact ret_ref_tup rfl rfl rfl (.inl rfl)
     ·intro hc3;exfalso;simp at hc3
end Go.Proofs.YtmhaafinhpopmaaGreatDoor
