/- What functions compute. No condition. -/
import Derived.Test.YtmhaafinhpopmaaGreatDoorX15
import Derived.Test.YtmhaafinhpopmaaGreatDoorX14
import Derived.Test.YtmhaafinhpopmaaGreatDoorX9
import Derived.Test.YtmhaafinhpopmaaGreatDoorX13
set_option linter.unusedSimpArgs false
set_option linter.unusedVariables false
set_option linter.defProp false
namespace Go.Proofs.YtmhaafinhpopmaaGreatDoor
open Go Go.Vm
set_option maxHeartbeats 8000000
set_option maxRecDepth 8000 in
theorem implAddCall_con (l:List (Int×Int×Int×Int×Int)) (hl:l.length≤1048576) (c0:Int) (c1:Int) (c2:Int) (c3:Int) (c4:Int):Con Tryz.prog 7 [.sl (l.map (fun t:Int×Int×Int×Int×Int=>V.agg [V.int .i64 t.1,V.int .i64 t.2.1,V.int .i64 t.2.2.1,V.int .i64 t.2.2.2.1,V.int .i64 t.2.2.2.2])),.agg [V.int .i64 c0,V.int .i64 c1,V.int .i64 c2,V.int .i64 c3,V.int .i64 c4]] [] (.tup [.ref 0,.bool (adB l (c0,c1,c2,c3,c4))]) [.arr ((adR l (c0,c1,c2,c3,c4)).map (fun t:Int×Int×Int×Int×Int=>V.agg [V.int .i64 t.1,V.int .i64 t.2.1,V.int .i64 t.2.2.1,V.int .i64 t.2.2.2.1,V.int .i64 t.2.2.2.2])) .flat]:=by
 refine v_con [.tmp 4,.tmp 5] [(51,[0,2])] Tryz.func7 rfl rfl rfl (by simp [Tryz.ntmps7]) ?_;intro Q0 n0 r0;simp only [Tryz.ntmps7,envFrom,Nat.reduceAdd];have T:=Tys.mk (ai Ty.t3 (ai Ty.t4 (ai Ty.t24 Ty.t26)));have F:=Fc.mk True.intro;refine yR [0,3] ⟨?_⟩;refine v_seq ?_;intros;refine yRcg [0,3,19] (areCalls_con l hl) (isCall_con c0 c1 c2 c3 c4) ⟨?_⟩;refine v_condS _ rfl ?_ ?_
 ·intro hc0;have hB:(adB l (c0,c1,c2,c3,c4))=false:=by
   cases hq:(adB l (c0,c1,c2,c3,c4)) with
   |false=>rfl
   |true=>
    exfalso;rw [adB,qlc,qlc,Bool.not_eq_true',decide_eq_false_iff_not] at hq;simp [hq.1.1,hq.1.2] at hc0;exact hq.2 hc0
  refine yR [4,5] ⟨?_⟩;refine zr ⟨?_⟩;have hz:(adR l (c0,c1,c2,c3,c4))=[]:=by rw [adR,hB];rfl
  rw [hz,hB];exact ret_ref_tup rfl rfl rfl (.inl rfl)
 ·intro hc0;have hq:(csB l=true∧cOne (c0,c1,c2,c3,c4)=true)∧¬((l.length:Int)=20):=by
   (try simp at hc0)
   first | exact hc0 | exact ⟨⟨hc0.1,hc0.2.1⟩,hc0.2.2⟩ | exact ⟨⟨hc0.2.2,hc0.2.1⟩,hc0.1⟩ | (refine ⟨⟨?_,?_⟩,?_⟩<;>simp_all)
  have hB:(adB l (c0,c1,c2,c3,c4))=true:=by rw [adB,hq.1.1,hq.1.2,decide_eq_false hq.2];rfl
  have hl20:=cs_len hq.1.1;have hRa:(adR l (c0,c1,c2,c3,c4))=addL l (c0,c1,c2,c3,c4):=if_pos hB;refine zn [0,3] ⟨?_⟩;refine v_seq ?_;intro Q6 n6 e6 r6;refine yV ⟨?_⟩;apply n6
  ·apply weak_trans (weak_keep [0,3,6] _);simp only [keep_mk,keepE_nil,keepE_cons,look_cons,look_nil,Nat.reduceEqDiff,reduceIte];exact weak_freezeF 3 0 [.int .i64 c0,.int .i64 c1,.int .i64 c2,.int .i64 c3,.int .i64 c4] rfl rfl
  try simp only [atSlot_cons,atSlot_nil,Nat.reduceEqDiff,reduceIte,List.set_cons_zero,List.set_cons_succ]
  refine v_seq ?_;intros;refine v_block ?_;intros;refine v_loop (fun q=>⟨[(0,.sl (l.map (fun t:Int×Int×Int×Int×Int=>V.agg [V.int .i64 t.1,V.int .i64 t.2.1,V.int .i64 t.2.2.1,V.int .i64 t.2.2.2.1,V.int .i64 t.2.2.2.2]))),(3,.pv [.agg [V.int .i64 c0,V.int .i64 c1,V.int .i64 c2,V.int .i64 c3,V.int .i64 c4]] 0 0),(6,.int .i64 (Nat.cast q.1))],[],false,43,0⟩) (fun q=>q.1≤l.length∧insAtC l c0 q.1=insAtC l c0 l.length) (fun q=>q.1) ((l.length,0):Nat×Nat) ?_ ?_ ?_
  ·exact weak_same [0,3,6] []
  ·exact ⟨qlf _,rfl⟩
  ·rintro ⟨ka,u0⟩ hok10 Q10 n10 e10 r10;obtain ⟨hk1,hR⟩:=hok10;simp only [] at hk1 hR⊢;rcases Nat.eq_zero_or_pos ka with h0k | h0k
   ·skip;have hk0:¬((0:Int) < (ka:Int)):=by omega
    have hka:insC l (c0,c1,c2,c3,c4)=ka:=by
     show insAtC l c0 l.length=ka;rw [←hR,h0k];rfl
    refine v_seq ?_;intros;refine v_seq ?_;intro Q12 n12 e12 r12;refine v_draw (by kernel_rfl) ?_;intro K13 q13 k13;show aAny _ _ _ _ 13 (Array.replicate 13 false) _;have F:=Fc.mk (ai hk0 (ai @decide_false @Bool.false_and));refine zdMove q13 true 0 22 ?_;refine zdBinOp q13 true 1 23 ?_;refine zdMove q13 true 2 24 ?_;refine zdgMove q13 true 3 25 ?_;refine zdgMove q13 true 4 26 ?_;refine zdgBinOpW q13 true 5 27 ?_;refine zdgIndexAddr q13 true 6 28 ?_;refine zdgFieldAddr q13 true 7 29 ?_;refine zdgLoadX q13 true 8 30 ?_;refine zdgFieldAddr q13 true 9 31 ?_;refine zdgLoadX q13 true 10 32 ?_;refine zdgBinOp q13 true 11 33 ?_;refine zdPick q13 true 12 34 ?_;refine aAny_done (by kernel_rfl) ?_;refine k13 _ ?_;refine n12 _ _ (weak_keep [0,3,6,34] _) ?_;refine zk ⟨?_⟩;refine v_cond _ rfl ?_ ?_
    ·intro hc1;exfalso;simp at hc1
    ·intro hc1;try simp only [zC,reduceCtorEq] at hc1
     have hka2:insC l (c0,c1,c2,c3,c4)=ka:=by
      first
      |exact hka
      |(show insAtC l c0 l.length=ka;rw [←hR,hkk,insAtC_lo hv (by simpa using hc1)])
     have haL:addL l (c0,c1,c2,c3,c4)=l.take ka++(c0,c1,c2,c3,c4)::l.drop ka:=by rw [addL,hka2]
     have hptE:(l.map (fun t:Int×Int×Int×Int×Int=>V.agg [V.int .i64 t.1,V.int .i64 t.2.1,V.int .i64 t.2.2.1,V.int .i64 t.2.2.2.1,V.int .i64 t.2.2.2.2])).take ka++V.agg [V.int .i64 c0,V.int .i64 c1,V.int .i64 c2,V.int .i64 c3,V.int .i64 c4]::(l.map (fun t:Int×Int×Int×Int×Int=>V.agg [V.int .i64 t.1,V.int .i64 t.2.1,V.int .i64 t.2.2.1,V.int .i64 t.2.2.2.1,V.int .i64 t.2.2.2.2])).drop ka=(addL l (c0,c1,c2,c3,c4)).map (fun t:Int×Int×Int×Int×Int=>V.agg [V.int .i64 t.1,V.int .i64 t.2.1,V.int .i64 t.2.2.1,V.int .i64 t.2.2.2.1,V.int .i64 t.2.2.2.2]):=by rw [haL,ql5,List.map_take,qma,List.map_drop]
     refine zn [0,3,6] ⟨?_⟩;refine v_seq ?_;intro Q15 n15 e15 r15;refine v_draw (by kernel_rfl) ?_;intro K16 q16 k16;show aAny _ _ _ _ 8 (Array.replicate 8 false) _;refine zdMove q16 true 0 37 ?_;refine zdMove q16 true 2 39 ?_;refine zdLoadX q16 true 3 40 ?_;refine aAny_two 1 4 rfl rfl (by kernel_rfl) ?_ ?_
     ·refine zsc (cloneCall_con l (by omega)) ⟨?_⟩;refine zoBuildSlice 4 ⟨?_⟩;refine zoxt 5 ((by have q:=ins_conC5 (l.map (fun t:Int×Int×Int×Int×Int=>V.agg [V.int .i64 t.1,V.int .i64 t.2.1,V.int .i64 t.2.2.1,V.int .i64 t.2.2.2.1,V.int .i64 t.2.2.2.2])) (V.agg [V.int .i64 c0,V.int .i64 c1,V.int .i64 c2,V.int .i64 c3,V.int .i64 c4]) ka .flat (.inl rfl) (by rw [qln];exact hk1) (by rw [qln];omega) (fun x hx=>by obtain ⟨_,_,rfl⟩:=List.mem_map.1 hx;rfl) rfl;rw [hptE] at q;exact q.x)) ⟨?_⟩;rintro _ _ ⟨rfl,rfl⟩;refine zEt ⟨?_⟩;refine zoAssign 6 ⟨?_⟩;refine zoAssign 7 ⟨?_⟩;refine aAny_done (by kernel_rfl) ?_;refine k16 _ ?_;refine n15 _ _ (weak_keep [4,5] _) ?_;refine zq1 ⟨?_⟩;rw [hRa,hB];exact ret_ref_tup rfl rfl rfl (.inl rfl)
     ·refine zsBuildSlice ⟨?_⟩;refine zoc 1 (cloneCall_con l (by omega)) ⟨?_⟩;refine zoxt 5 ((by have q:=ins_conC5 (l.map (fun t:Int×Int×Int×Int×Int=>V.agg [V.int .i64 t.1,V.int .i64 t.2.1,V.int .i64 t.2.2.1,V.int .i64 t.2.2.2.1,V.int .i64 t.2.2.2.2])) (V.agg [V.int .i64 c0,V.int .i64 c1,V.int .i64 c2,V.int .i64 c3,V.int .i64 c4]) ka .flat (.inl rfl) (by rw [qln];exact hk1) (by rw [qln];omega) (fun x hx=>by obtain ⟨_,_,rfl⟩:=List.mem_map.1 hx;rfl) rfl;rw [hptE] at q;exact q.x)) ⟨?_⟩;rintro _ _ ⟨rfl,rfl⟩;refine zEt ⟨?_⟩;refine zoAssign 6 ⟨?_⟩;refine zoAssign 7 ⟨?_⟩;refine aAny_done (by kernel_rfl) ?_;refine k16 _ ?_;refine n15 _ _ (weak_keep [4,5] _) ?_;refine zq1 ⟨?_⟩;rw [hRa,hB];exact ret_ref_tup rfl rfl rfl (.inl rfl)
   ·skip;obtain ⟨kb,hkk⟩:∃kb,ka=kb+1:=⟨ka - 1,by omega⟩;obtain ⟨⟨v0,v1,v2,v3,v4⟩,hv⟩:∃x:Int×Int×Int×Int×Int,l[kb]? =some x:=⟨l[kb]'(by omega),qla (by omega)⟩;have hk0:(0:Int) < (ka:Int):=by omega
    have hkb:(ka:Int) - 1=(kb:Int):=by omega
    refine v_seq ?_;intros;refine v_seq ?_;intro Q18 n18 e18 r18;refine v_draw (by kernel_rfl) ?_;intro K19 q19 k19;show aAny _ _ _ _ 13 (Array.replicate 13 false) _;have F:=Fc.mk (ai hk0 (ai @decide_true (ai @Bool.true_and (ai hkb (ai @ql9 (gdm hv))))));refine zdMove q19 true 0 22 ?_;refine zdBinOp q19 true 1 23 ?_;refine zdMove q19 true 2 24 ?_;refine zdgMove q19 true 3 25 ?_;refine zdgMove q19 true 4 26 ?_;refine zdgBinOpW q19 true 5 27 ?_;refine zdgIndexAddr q19 true 6 28 ?_;refine zdgFieldAddr q19 true 7 29 ?_;refine zdgLoadX q19 true 8 30 ?_;refine zdgFieldAddr q19 true 9 31 ?_;refine zdgLoadX q19 true 10 32 ?_;refine zdgBinOp q19 true 11 33 ?_;refine zdPick q19 true 12 34 ?_;refine aAny_done (by kernel_rfl) ?_;refine k19 _ ?_;refine n18 _ _ (weak_keep [0,3,6,34] _) ?_;refine zk ⟨?_⟩;refine v_condS _ rfl ?_ ?_
    ·intro hc1;have hkv:=hc1;refine zn [0,3,6] ⟨?_⟩;refine v_block ?_;intros;refine yV ⟨?_⟩;refine n10 _ (kb,0) ?_ ?_ ?_
     ·exact weak_same [0,3,6] []
     ·exact ⟨by omega,by rw [←hR,hkk,insAtC_hi hv (by simpa using hkv)]⟩
     ·show _ < _;omega
    ·intro hc1;have hka2:insC l (c0,c1,c2,c3,c4)=ka:=by
      first
      |exact hka
      |(show insAtC l c0 l.length=ka;rw [←hR,hkk,insAtC_lo hv (by simpa using hc1)])
     have haL:addL l (c0,c1,c2,c3,c4)=l.take ka++(c0,c1,c2,c3,c4)::l.drop ka:=by rw [addL,hka2]
     have hptE:(l.map (fun t:Int×Int×Int×Int×Int=>V.agg [V.int .i64 t.1,V.int .i64 t.2.1,V.int .i64 t.2.2.1,V.int .i64 t.2.2.2.1,V.int .i64 t.2.2.2.2])).take ka++V.agg [V.int .i64 c0,V.int .i64 c1,V.int .i64 c2,V.int .i64 c3,V.int .i64 c4]::(l.map (fun t:Int×Int×Int×Int×Int=>V.agg [V.int .i64 t.1,V.int .i64 t.2.1,V.int .i64 t.2.2.1,V.int .i64 t.2.2.2.1,V.int .i64 t.2.2.2.2])).drop ka=(addL l (c0,c1,c2,c3,c4)).map (fun t:Int×Int×Int×Int×Int=>V.agg [V.int .i64 t.1,V.int .i64 t.2.1,V.int .i64 t.2.2.1,V.int .i64 t.2.2.2.1,V.int .i64 t.2.2.2.2]):=by rw [haL,ql5,List.map_take,qma,List.map_drop]
     refine zn [0,3,6] ⟨?_⟩;refine v_seq ?_;intro Q23 n23 e23 r23;refine v_draw (by kernel_rfl) ?_;intro K24 q24 k24;show aAny _ _ _ _ 8 (Array.replicate 8 false) _;refine zdMove q24 true 0 37 ?_;refine zdMove q24 true 2 39 ?_;refine zdLoadX q24 true 3 40 ?_;refine aAny_two 1 4 rfl rfl (by kernel_rfl) ?_ ?_
     ·refine zsc (cloneCall_con l (by omega)) ⟨?_⟩;refine zoBuildSlice 4 ⟨?_⟩;refine zoxt 5 ((by have q:=ins_conC5 (l.map (fun t:Int×Int×Int×Int×Int=>V.agg [V.int .i64 t.1,V.int .i64 t.2.1,V.int .i64 t.2.2.1,V.int .i64 t.2.2.2.1,V.int .i64 t.2.2.2.2])) (V.agg [V.int .i64 c0,V.int .i64 c1,V.int .i64 c2,V.int .i64 c3,V.int .i64 c4]) ka .flat (.inl rfl) (by rw [qln];exact hk1) (by rw [qln];omega) (fun x hx=>by obtain ⟨_,_,rfl⟩:=List.mem_map.1 hx;rfl) rfl;rw [hptE] at q;exact q.x)) ⟨?_⟩;rintro _ _ ⟨rfl,rfl⟩;refine zEt ⟨?_⟩;refine zoAssign 6 ⟨?_⟩;refine zoAssign 7 ⟨?_⟩;refine aAny_done (by kernel_rfl) ?_;refine k24 _ ?_;refine n23 _ _ (weak_keep [4,5] _) ?_;refine zq1 ⟨?_⟩;rw [hRa,hB];exact ret_ref_tup rfl rfl rfl (.inl rfl)
     ·refine zsBuildSlice ⟨?_⟩;refine zoc 1 (cloneCall_con l (by omega)) ⟨?_⟩;refine zoxt 5 ((by have q:=ins_conC5 (l.map (fun t:Int×Int×Int×Int×Int=>V.agg [V.int .i64 t.1,V.int .i64 t.2.1,V.int .i64 t.2.2.1,V.int .i64 t.2.2.2.1,V.int .i64 t.2.2.2.2])) (V.agg [V.int .i64 c0,V.int .i64 c1,V.int .i64 c2,V.int .i64 c3,V.int .i64 c4]) ka .flat (.inl rfl) (by rw [qln];exact hk1) (by rw [qln];omega) (fun x hx=>by obtain ⟨_,_,rfl⟩:=List.mem_map.1 hx;rfl) rfl;rw [hptE] at q;exact q.x)) ⟨?_⟩;rintro _ _ ⟨rfl,rfl⟩;refine zEt ⟨?_⟩;refine zoAssign 6 ⟨?_⟩;refine zoAssign 7 ⟨?_⟩;refine aAny_done (by kernel_rfl) ?_;refine k24 _ ?_;refine n23 _ _ (weak_keep [4,5] _) ?_;refine zq1 ⟨?_⟩;rw [hRa,hB];exact ret_ref_tup rfl rfl rfl (.inl rfl)
end Go.Proofs.YtmhaafinhpopmaaGreatDoor
