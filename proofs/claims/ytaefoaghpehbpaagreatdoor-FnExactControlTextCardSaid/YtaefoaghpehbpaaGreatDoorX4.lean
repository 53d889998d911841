/- What functions compute. No condition. -/
import Derived.Test.YtaefoaghpehbpaaGreatDoorUz
import Derived.Test.YtaefoaghpehbpaaGreatDoorUty
import Derived.Test.YtaefoaghpehbpaaGreatDoorUmG
import Derived.Test.YtaefoaghpehbpaaGreatDoorX1
set_option linter.unusedSimpArgs false
set_option linter.unusedVariables false
set_option linter.defProp false
namespace Go.Proofs.YtaefoaghpehbpaaGreatDoor
open Go Go.Vm
set_option maxHeartbeats 1000000 in
theorem toAppliance_con (x0:ByteArray) (x1:Int) (x2:Int) (x3:Int) (x4:Int):Con Tryz.prog 126 [.agg [V.str x0,V.int .i64 x1,V.int .i64 x2,V.int .i64 x3,V.int .i64 x4]] [] (.agg [V.str x0,V.int .i64 x1,V.int .i64 x2,V.int .i64 x3,V.int .i64 x4]) []:=by
 refine v_con [.cell 2 76] [] Tryz.func126 rfl rfl rfl (by simp [Tryz.ntmps126]) ?_
 intro Q0 n0 r0
 simp only [Tryz.ntmps126,envFrom,Nat.reduceAdd]
 have T:=Tys.mk (And.intro Ty.t3 (And.intro Ty.t9 (And.intro Ty.t76 Ty.t145)))
 have F:=Fc.mk True.intro
 refine v_seqR [1,2] ?_;intro K1 k1;refine zq50 ⟨?_⟩;refine k1 _ ?_;refine zk ⟨?_⟩;refine v_seqR [1,2,3] ?_;intro K2 k2;refine zAlloc ⟨?_⟩;refine k2 _ ?_;refine zk ⟨?_⟩;refine v_seqR [1,2,3] ?_;intro K3 k3;refine zq30 ⟨?_⟩;refine k3 _ ?_;refine zk ⟨?_⟩;refine v_seqR [1,2,3] ?_;intro K4 k4;refine zq30 ⟨?_⟩;refine k4 _ ?_;refine zk ⟨?_⟩;refine v_seqR [1,2,3] ?_;intro K5 k5;refine zq30 ⟨?_⟩;refine k5 _ ?_;refine zk ⟨?_⟩;refine v_seqR [1,2,3] ?_;intro K6 k6;refine zq30 ⟨?_⟩;refine k6 _ ?_;refine zk ⟨?_⟩;refine v_seqR [2,3] ?_;intro K7 k7;refine zq30 ⟨?_⟩;refine k7 _ ?_;refine zk ⟨?_⟩;refine v_seqR [2] ?_;intro K8 k8;refine zq49 ⟨?_⟩;refine k8 _ ?_;refine zk ⟨?_⟩;refine v_ret ?_;refine r0 _ ?_;refine zf ⟨?_⟩
 simp only [zE,zL,zO,zN,aStepM,optable,set_some,Nat.reduceEqDiff,reduceIte,Nat.reduceLT,implies_true,forall_const,reduceCtorEq,V.ofValue,V.ofScalar,V.un,V.gd,aLoad,row_mk,Blk.row,PartOK,Go.Vm.part,V.cells,V.noSl,V.noRef,Nat.reduceAdd,Nat.reduceLeDiff,Nat.reduceMul,Tryz.underlying3,Ty.c3,Ty.a3,Tryz.underlying9,Ty.c9,Ty.a9,Tryz.underlying76,Ty.c76,Ty.a76]
 exact ret_pure rfl (by first | rfl | simp) (.inl rfl)
set_option maxHeartbeats 1000000 in
theorem toApplianceS_con (l:List (ByteArray×Int×Int×Int×Int)) (hl:l.length≤1048576):Con Tryz.prog 60 [.sl (l.map (fun t:ByteArray×Int×Int×Int×Int=>V.agg [V.str t.1,V.int .i64 t.2.1,V.int .i64 t.2.2.1,V.int .i64 t.2.2.2.1,V.int .i64 t.2.2.2.2]))] [] (.ref 0) [.arr (l.map (fun t:ByteArray×Int×Int×Int×Int=>V.agg [V.str t.1,V.int .i64 t.2.1,V.int .i64 t.2.2.1,V.int .i64 t.2.2.2.1,V.int .i64 t.2.2.2.2])) .flat]:=by
 refine v_con [.tmp 2] [] Tryz.func60 rfl rfl rfl (by simp [Tryz.ntmps60]) ?_
 intro Q0 n0 r0
 simp only [Tryz.ntmps60,envFrom,Nat.reduceAdd]
 have T:=Tys.mk (And.intro Ty.t3 (And.intro Ty.t9 (And.intro Ty.t25 (And.intro Ty.t38 (And.intro Ty.t76 Ty.t145)))))
 have F:=Fc.mk True.intro
 refine v_seqR [0] ?_;intro K1 k1;refine zAssign ⟨?_⟩;refine k1 _ ?_;refine zk ⟨?_⟩;refine v_seqR [0,3] ?_;intro K2 k2;refine zq43 ⟨?_⟩;refine k2 _ ?_;refine zk ⟨?_⟩;refine v_seq ?_;intro Q3 n3 e3 r3;refine v_seqR [0,3,4] ?_;intro K4 k4;refine zAssign ⟨?_⟩;refine k4 _ ?_;refine zk ⟨?_⟩;refine v_block ?_;intro Q5 n5 x5 e5 r5;refine v_loop (fun i=>⟨[(0,.sl (l.map (fun t:ByteArray×Int×Int×Int×Int=>V.agg [V.str t.1,V.int .i64 t.2.1,V.int .i64 t.2.2.1,V.int .i64 t.2.2.2.1,V.int .i64 t.2.2.2.2]))),(3,.ref 0),(4,.int .i64 (Nat.cast i))],[.arr (fillTo (fun t:ByteArray×Int×Int×Int×Int=>V.agg [V.str t.1,V.int .i64 t.2.1,V.int .i64 t.2.2.1,V.int .i64 t.2.2.2.1,V.int .i64 t.2.2.2.2]) (V.agg [V.str .empty,V.int .i64 0,V.int .i64 0,V.int .i64 0,V.int .i64 0]) l i) .flat],false,23,0⟩) (fun i=>i≤l.length) (fun i=>l.length - i) 0 ?_ ?_ ?_
 ·refine weak_bothS [0,3,4] [1] ⟨?_⟩
  rw [fill_zero];rfl
 ·exact Nat.zero_le _
 ·rintro i hok6 Q6 n6 e6 r6
  have hi1:i≤l.length:=hok6
  refine v_seq ?_;intro Q7 n7 e7 r7;refine v_seqR [0,3,4,11] ?_;intro K8 k8;refine zq14 ⟨?_⟩;refine k8 _ ?_;refine zk ⟨?_⟩;refine v_condS _ rfl ?_ ?_
  ·intro hc0
   have hlt:i < l.length:=by omega
   obtain ⟨⟨x0,x1,x2,x3,x4⟩,hx⟩:∃x:ByteArray×Int×Int×Int×Int,l[i]? =some x:=⟨l[i]'(by omega),List.getElem?_eq_getElem (by omega)⟩
   refine v_skip ?_;refine n7 _ _ (weak_keep [0,3,4] _) ?_;refine zk ⟨?_⟩;refine v_seq ?_;intro Q10 n10 e10 r10;refine v_block ?_;intro Q11 n11 x11 e11 r11;refine v_region ?_;intro K12 k12
   have F:=Fc.mk (And.intro (fun f=>getD_map (f:=f) hx) (And.intro (fun f z=>fill_len (f:=f) (z:=z) hi1) (And.intro (fun f z=>fill_get (f:=f) (z:=z) hlt) (fun f z=>fill_set (f:=f) (z:=z) hx))))
   refine zq45 ⟨?_⟩;refine v_op ?_;intro K k
   simp only [zE,zL,zN,aStepM,optable,set_some,Nat.reduceEqDiff,reduceIte,Nat.reduceLT,implies_true,forall_const,reduceCtorEq,V.ofValue,V.ofScalar,V.un,V.gd,aExec,aop,List.mem_cons,List.not_mem_nil,or_false,forall_eq_or_imp,forall_eq,aIndexAddr,row_mk,Blk.row,Go.Vm.V.cells,List.forall_mem_map,List.length_map,Int.toNat_natCast,Int.reduceToNat,TypeDesc.slice.injEq,Nat.reduceAdd,Nat.reduceLeDiff,Nat.reduceMul,Tryz.underlying25,Ty.c25,Ty.a25,Tryz.underlying145,Ty.c145,Ty.a145,contentL,Value.oneCell',List.all_cons,List.all_nil,Bool.and_self,getD_map hx,fill_len hi1,fill_get hlt,fill_set hx]
   repeat (refine And.intro (by first | omega | (exact fill_all (fun _=>rfl) rfl) | (intros;omega) | (intros;simp_all;done) | (intros;simp_all;omega)) ?_)
   refine k _ ?_;clear k K;refine zLoad ⟨?_⟩;refine zc (toAppliance_con x0 x1 x2 x3 x4) ⟨?_⟩;refine v_op ?_;intro K k
   simp only [zE,zL,zN,aStepM,optable,set_some,Nat.reduceEqDiff,reduceIte,Nat.reduceLT,implies_true,forall_const,reduceCtorEq,V.ofValue,V.ofScalar,V.un,V.gd,aExec,aop,List.mem_cons,List.not_mem_nil,or_false,forall_eq_or_imp,forall_eq,aIndexAddr,row_mk,Blk.row,Go.Vm.V.cells,List.forall_mem_map,List.length_map,Int.toNat_natCast,Int.reduceToNat,TypeDesc.slice.injEq,Nat.reduceAdd,Nat.reduceLeDiff,Nat.reduceMul,Tryz.underlying38,Ty.c38,Ty.a38,Tryz.underlying76,Ty.c76,Ty.a76,contentL,Value.oneCell',List.all_cons,List.all_nil,Bool.and_self,getD_map hx,fill_len hi1,fill_get hlt,fill_set hx]
   repeat (refine And.intro (by first | omega | (exact fill_all (fun _=>rfl) rfl) | (intros;omega) | (intros;simp_all;done) | (intros;simp_all;omega)) ?_)
   refine k _ ?_;clear k K;refine v_op ?_;intro K k
   simp only [zE,zS,zJ,zL,zO,zN,aStepM,optable,set_some,Nat.reduceEqDiff,reduceIte,Nat.reduceLT,implies_true,forall_const,reduceCtorEq,V.ofValue,V.ofScalar,V.un,V.gd,aExec,aop,aStore,setCells,V.isVal,V.cells,kindOf,kindAll,V.noSl,V.noRef,gt_iff_lt,Nat.reduceAdd,Nat.reduceLeDiff,Nat.reduceMul,takeV,takeCell,takeCells,row_mk,Blk.row,killAll,Nat.reduceBEq,join_t,Tryz.underlying3,Ty.c3,Ty.a3,Tryz.underlying9,Ty.c9,Ty.a9,Tryz.underlying76,Ty.c76,Ty.a76,contentL,Value.oneCell',getD_map hx,fill_len hi1,fill_get hlt,fill_set hx]
   repeat (refine And.intro (by first | omega | (exact fill_all (fun _=>rfl) rfl) | (intros;omega) | (intros;simp_all;done) | (intros;simp_all;omega)) ?_)
   refine k _ ?_;clear k K;refine k12 _ ?_;refine n11 _ ?_;refine n10 _ _ (weak_keep [0,3,4] _) ?_;refine zk ⟨?_⟩;refine v_region ?_;intro K13 k13;refine zq6 ⟨?_⟩;refine k13 _ ?_;refine n6 _ (i+1) ?_ ?_ ?_
   ·refine weak_bothS [0,3,4] [0] ⟨?_⟩
    rfl
   ·exact hlt
   ·show _ < _;omega
  ·intro hc0
   refine v_exit ?_;refine e7 _ _ ?_;refine e6 _ _ ?_;refine x5 _ ?_;refine n3 _ _ (weak_keep [3] _) ?_;refine zk ⟨?_⟩;refine v_seqR [2] ?_;intro K14 k14;refine zq8 ⟨?_⟩;refine k14 _ ?_;refine zk ⟨?_⟩;refine v_ret ?_;refine r0 _ ?_;refine zf ⟨?_⟩
   rw [←fill_end (f:=(fun t:ByteArray×Int×Int×Int×Int=>V.agg [V.str t.1,V.int .i64 t.2.1,V.int .i64 t.2.2.1,V.int .i64 t.2.2.2.1,V.int .i64 t.2.2.2.2])) (z:=(V.agg [V.str .empty,V.int .i64 0,V.int .i64 0,V.int .i64 0,V.int .i64 0])) (show l.length≤i by omega)]
   exact ret_ref rfl (.inl rfl)
set_option maxHeartbeats 1000000 in
theorem eqAppliance_con (x0:ByteArray) (x1:Int) (x2:Int) (x3:Int) (x4:Int) (y0:ByteArray) (y1:Int) (y2:Int) (y3:Int) (y4:Int):Con Tryz.prog 142 [.agg [V.str x0,V.int .i64 x1,V.int .i64 x2,V.int .i64 x3,V.int .i64 x4],.agg [V.str y0,V.int .i64 y1,V.int .i64 y2,V.int .i64 y3,V.int .i64 y4]] [] (.bool (decide ((x0,x1,x2,x3,x4)=(y0,y1,y2,y3,y4)))) []:=by
 refine v_con [.tmp 4] [] Tryz.func142 rfl rfl rfl (by simp [Tryz.ntmps142]) ?_
 intro Q0 n0 r0
 simp only [Tryz.ntmps142,envFrom,Nat.reduceAdd]
 have T:=Tys.mk (And.intro Ty.t3 (And.intro Ty.t9 Ty.t76))
 have F:=Fc.mk True.intro
 refine v_seqR [2,3] ?_;intro K1 k1;refine zq32 ⟨?_⟩;refine k1 _ ?_;refine zk ⟨?_⟩;refine v_seq ?_;intro Q2 n2 e2 r2;refine v_seqR [2,3,9] ?_;intro K3 k3;refine zq27 ⟨?_⟩;refine k3 _ ?_;refine zk ⟨?_⟩;refine v_condS _ rfl ?_ ?_
 ·intro hc0
  refine v_seqR [4] ?_;intro K5 k5;refine zAssign ⟨?_⟩;refine k5 _ ?_;refine zk ⟨?_⟩;refine v_ret ?_;refine r2 _ ?_;refine r0 _ ?_;refine zf ⟨?_⟩
  exact ret_pure rfl (by rw [decide_eq_false (by intro h;simp only [Prod.mk.injEq] at h;exact hc0 h.1)]) (.inl rfl)
 ·intro hc0
  refine v_skip ?_;refine n2 _ _ (weak_keep [2,3] _) ?_;refine zk ⟨?_⟩;refine v_seq ?_;intro Q6 n6 e6 r6;refine v_seqR [2,3,14] ?_;intro K7 k7;refine zq27 ⟨?_⟩;refine k7 _ ?_;refine zk ⟨?_⟩;refine v_condS _ rfl ?_ ?_
  ·intro hc1
   refine v_seqR [4] ?_;intro K9 k9;refine zAssign ⟨?_⟩;refine k9 _ ?_;refine zk ⟨?_⟩;refine v_ret ?_;refine r6 _ ?_;refine r0 _ ?_;refine zf ⟨?_⟩
   exact ret_pure rfl (by rw [decide_eq_false (by intro h;simp only [Prod.mk.injEq] at h;exact hc1 h.2.1)]) (.inl rfl)
  ·intro hc1
   refine v_skip ?_;refine n6 _ _ (weak_keep [2,3] _) ?_;refine zk ⟨?_⟩;refine v_seq ?_;intro Q10 n10 e10 r10;refine v_seqR [2,3,19] ?_;intro K11 k11;refine zq27 ⟨?_⟩;refine k11 _ ?_;refine zk ⟨?_⟩;refine v_condS _ rfl ?_ ?_
   ·intro hc2
    refine v_seqR [4] ?_;intro K13 k13;refine zAssign ⟨?_⟩;refine k13 _ ?_;refine zk ⟨?_⟩;refine v_ret ?_;refine r10 _ ?_;refine r0 _ ?_;refine zf ⟨?_⟩
    exact ret_pure rfl (by rw [decide_eq_false (by intro h;simp only [Prod.mk.injEq] at h;exact hc2 h.2.2.1)]) (.inl rfl)
   ·intro hc2
    refine v_skip ?_;refine n10 _ _ (weak_keep [2,3] _) ?_;refine zk ⟨?_⟩;refine v_seq ?_;intro Q14 n14 e14 r14;refine v_seqR [2,3,24] ?_;intro K15 k15;refine zq27 ⟨?_⟩;refine k15 _ ?_;refine zk ⟨?_⟩;refine v_condS _ rfl ?_ ?_
    ·intro hc3
     refine v_seqR [4] ?_;intro K17 k17;refine zAssign ⟨?_⟩;refine k17 _ ?_;refine zk ⟨?_⟩;refine v_ret ?_;refine r14 _ ?_;refine r0 _ ?_;refine zf ⟨?_⟩
     exact ret_pure rfl (by rw [decide_eq_false (by intro h;simp only [Prod.mk.injEq] at h;exact hc3 h.2.2.2.1)]) (.inl rfl)
    ·intro hc3
     refine v_skip ?_;refine n14 _ _ (weak_keep [2,3] _) ?_;refine zk ⟨?_⟩;refine v_seq ?_;intro Q18 n18 e18 r18;refine v_seqR [29] ?_;intro K19 k19;refine zq27 ⟨?_⟩;refine k19 _ ?_;refine zk ⟨?_⟩;refine v_condS _ rfl ?_ ?_
     ·intro hc4
      refine v_seqR [4] ?_;intro K21 k21;refine zAssign ⟨?_⟩;refine k21 _ ?_;refine zk ⟨?_⟩;refine v_ret ?_;refine r18 _ ?_;refine r0 _ ?_;refine zf ⟨?_⟩
      exact ret_pure rfl (by rw [decide_eq_false (by intro h;simp only [Prod.mk.injEq] at h;exact hc4 h.2.2.2.2)]) (.inl rfl)
     ·intro hc4
      refine v_skip ?_;refine n18 _ _ (weak_keep [] _) ?_;refine zk ⟨?_⟩;refine v_seqR [4] ?_;intro K22 k22;refine zAssign ⟨?_⟩;refine k22 _ ?_;refine zk ⟨?_⟩;refine v_ret ?_;refine r0 _ ?_;refine zf ⟨?_⟩
      exact ret_pure rfl (by rw [decide_eq_true (by rw [hc0,hc1,hc2,hc3,hc4])]) (.inl rfl)
set_option maxHeartbeats 1000000 in
theorem eqApplianceS_con (a b:List (ByteArray×Int×Int×Int×Int)) (ha:a.length≤1048576):Con Tryz.prog 71 [.sl (a.map (fun t:ByteArray×Int×Int×Int×Int=>V.agg [V.str t.1,V.int .i64 t.2.1,V.int .i64 t.2.2.1,V.int .i64 t.2.2.2.1,V.int .i64 t.2.2.2.2])),.sl (b.map (fun t:ByteArray×Int×Int×Int×Int=>V.agg [V.str t.1,V.int .i64 t.2.1,V.int .i64 t.2.2.1,V.int .i64 t.2.2.2.1,V.int .i64 t.2.2.2.2]))] [] (.bool (decide (a=b))) []:=by
 refine v_con [.tmp 4] [] Tryz.func71 rfl rfl rfl (by simp [Tryz.ntmps71]) ?_
 intro Q0 n0 r0
 simp only [Tryz.ntmps71,envFrom,Nat.reduceAdd]
 have T:=Tys.mk (And.intro Ty.t3 (And.intro Ty.t4 (And.intro Ty.t9 (And.intro Ty.t38 Ty.t76))))
 have F:=Fc.mk True.intro
 refine v_seqR [0,1] ?_;intro K1 k1;refine zAssign ⟨?_⟩;refine k1 _ ?_;refine zk ⟨?_⟩;refine v_seq ?_;intro Q2 n2 e2 r2;refine v_seqR [0,1,10] ?_;intro K3 k3;refine zq46 ⟨?_⟩;refine k3 _ ?_;refine zk ⟨?_⟩;refine v_condS _ rfl ?_ ?_
 ·intro hc0
  refine v_seqR [4] ?_;intro K5 k5;refine zAssign ⟨?_⟩;refine k5 _ ?_;refine zk ⟨?_⟩;refine v_ret ?_;refine r2 _ ?_;refine r0 _ ?_;refine zf ⟨?_⟩
  exact ret_pure rfl (by rw [decide_eq_false (fun h=>by subst h;simp at hc0)]) (.inl rfl)
 ·intro hc0
  have hab:a.length=b.length:=by omega
  refine v_skip ?_;refine n2 _ _ (weak_keep [0,1] _) ?_;refine zk ⟨?_⟩;refine v_seq ?_;intro Q6 n6 e6 r6;refine v_seqR [0,1,5] ?_;intro K7 k7;refine zAssign ⟨?_⟩;refine k7 _ ?_;refine zk ⟨?_⟩;refine v_block ?_;intro Q8 n8 x8 e8 r8;refine v_loop (fun i=>⟨[(0,.sl (a.map (fun t:ByteArray×Int×Int×Int×Int=>V.agg [V.str t.1,V.int .i64 t.2.1,V.int .i64 t.2.2.1,V.int .i64 t.2.2.2.1,V.int .i64 t.2.2.2.2]))),(1,.sl (b.map (fun t:ByteArray×Int×Int×Int×Int=>V.agg [V.str t.1,V.int .i64 t.2.1,V.int .i64 t.2.2.1,V.int .i64 t.2.2.2.1,V.int .i64 t.2.2.2.2]))),(5,.int .i64 (Nat.cast i))],[],false,27,0⟩) (fun i=>i≤a.length∧((a=b)↔(a.drop i=b.drop i))) (fun i=>a.length - i) 0 ?_ ?_ ?_
  ·refine weak_of [0,1,5] ?_
   simp only [keep_mk,keepE_nil,keepE_cons,look_cons,look_nil,Nat.reduceEqDiff,reduceIte]
   rfl
  ·exact ⟨Nat.zero_le _,by simp⟩
  ·rintro i hok9 Q9 n9 e9 r9
   obtain ⟨hi1,hR⟩:=hok9
   refine v_seq ?_;intro Q10 n10 e10 r10;refine v_seqR [0,1,5,14] ?_;intro K11 k11;refine zq14 ⟨?_⟩;refine k11 _ ?_;refine zk ⟨?_⟩;refine v_condS _ rfl ?_ ?_
   ·intro hc1
    have hlt:i < a.length:=by omega
    obtain ⟨⟨x0,x1,x2,x3,x4⟩,hx⟩:∃x:ByteArray×Int×Int×Int×Int,a[i]? =some x:=⟨a[i]'(by omega),List.getElem?_eq_getElem (by omega)⟩
    obtain ⟨⟨y0,y1,y2,y3,y4⟩,hy⟩:∃x:ByteArray×Int×Int×Int×Int,b[i]? =some x:=⟨b[i]'(by omega),List.getElem?_eq_getElem (by omega)⟩
    have hstep:=eq_drop hab hx hy
    refine v_skip ?_;refine n10 _ _ (weak_keep [0,1,5] _) ?_;refine zk ⟨?_⟩;refine v_seq ?_;intro Q13 n13 e13 r13;refine v_block ?_;intro Q14 n14 x14 e14 r14;refine v_seq ?_;intro Q15 n15 e15 r15;refine v_draw (by kernel_rfl) ?_;intro K16 q16 k16
    show aAny _ _ _ _ 10 (Array.replicate 10 false) _
    have F:=Fc.mk (And.intro (fun f=>getD_map (f:=f) hx) (fun f=>getD_map (f:=f) hy))
    refine zdMove q16 true 0 17 ?_;refine zdMove q16 true 1 18 ?_;refine zdIndexAddr q16 true 2 19 ?_;refine zdLoad q16 true 3 20 ?_;refine zdMove q16 true 4 21 ?_;refine zdMove q16 true 5 22 ?_;refine zdIndexAddr q16 true 6 23 ?_;refine zdLoad q16 true 7 24 ?_;refine zoc 8 (eqAppliance_con x0 x1 x2 x3 x4 y0 y1 y2 y3 y4) ⟨?_⟩;refine zdUnOp q16 true 9 26 ?_;refine aAny_done (by kernel_rfl) ?_;refine k16 _ ?_;refine n15 _ _ (weak_keep [0,1,5,26] _) ?_;refine zk ⟨?_⟩;refine v_condS _ rfl ?_ ?_
    ·intro hc2
     refine v_seqR [4] ?_;intro K18 k18;refine zAssign ⟨?_⟩;refine k18 _ ?_;refine zk ⟨?_⟩;refine v_ret ?_;refine r14 _ ?_;refine r13 _ ?_;refine r9 _ ?_;refine r8 _ ?_;refine r6 _ ?_;refine r0 _ ?_;refine zf ⟨?_⟩
     exact ret_pure rfl (by rw [decide_eq_false (fun h=>hc2 (hstep.1 (hR.1 h)).1)]) (.inl rfl)
    ·intro hc2
     refine v_skip ?_;refine n14 _ ?_;refine n13 _ _ (weak_keep [0,1,5] _) ?_;refine zk ⟨?_⟩;refine v_region ?_;intro K19 k19;refine zq6 ⟨?_⟩;refine k19 _ ?_;refine n9 _ (i+1) ?_ ?_ ?_
     ·refine weak_of [0,1,5] ?_
      simp only [keep_mk,keepE_nil,keepE_cons,look_cons,look_nil,Nat.reduceEqDiff,reduceIte]
      rfl
     ·exact ⟨by omega,hR.trans (hstep.trans ⟨fun h=>h.2,fun h=>⟨hc2,h⟩⟩)⟩
     ·show _ < _;omega
   ·intro hc1
    refine v_exit ?_;refine e10 _ _ ?_;refine e9 _ _ ?_;refine x8 _ ?_;refine n6 _ _ (weak_keep [] _) ?_;refine zk ⟨?_⟩;refine v_seqR [4] ?_;intro K20 k20;refine zAssign ⟨?_⟩;refine k20 _ ?_;refine zk ⟨?_⟩;refine v_ret ?_;refine r0 _ ?_;refine zf ⟨?_⟩
    exact ret_pure rfl (by rw [decide_eq_true (hR.2 (by rw [List.drop_of_length_le (by omega),List.drop_of_length_le (by omega)]))]) (.inl rfl)
def hasB (n x:Int):Bool:=decide (0≤x) && decide (x≤IntKind.i64.wrap (n - 1))
def strOK (n:Int) (x:(Int×Int×Int)):Bool:=hasB n x.1 && hasB n x.2.1 && decide (x.1 < x.2.1) && (decide (1≤x.2.2) && decide (x.2.2≤3600))
def toStr (n:Int) (x:(Int×Int×Int)):Bool:=hasB n x.1 && hasB n x.2.1 && !decide (x.1=x.2.1) && (decide (1≤x.2.2) && decide (x.2.2≤3600))
def strBf (x y:(Int×Int×Int)):Bool:=decide (x.1 < y.1) || (decide (x.1=y.1) && decide (x.2.1 < y.2.1))
def townH (n:Int) (ss:List (Int×Int×Int)):Bool:=(decide (1≤n) && decide (n≤14)) && !decide (40 < (ss.length:Int))
def townB (n:Int) (ss:List (Int×Int×Int)):Bool:=townH n ss && chainAt (strOK n) strBf ss 0
def cmpSt (x y:(Int×Int×Int)):Int:=orL [cmpI x.1 y.1,cmpI x.2.1 y.2.1]
theorem cmpSt_bf (x y:(Int×Int×Int)):decide (0≤cmpSt x y)= !strBf x y:=by
  obtain ⟨x0,x1,x2⟩:=x
  obtain ⟨y0,y1,y2⟩:=y
  simp only [cmpSt,orL,cmpI,strBf]
  by_cases h1:x0 < y0
  · simp [h1]
  · by_cases h2:y0 < x0
    · have:¬x0=y0:=by omega
      simp [h1,h2,this]
    · have:x0=y0:=by omega
      subst this
      by_cases h3:x1 < y1
      · simp [h3]
      · by_cases h4:y1 < x1
        · simp [h3,h4]
        · simp [h3,h4]
theorem toStr_ok (n:Int) (x:(Int×Int×Int)):(toStr n x && !decide (x.2.1 < x.1))=strOK n x:=by
  obtain ⟨x0,x1,x2⟩:=x
  simp only [toStr,strOK]
  by_cases h:x0 < x1
  · have h1:¬x0=x1:=by omega
    have h2:¬x1 < x0:=by omega
    simp [h,h1,h2]
  · by_cases h1:x0=x1
    · simp [h1]
    · have h2:x1 < x0:=by omega
      simp [h,h2]
theorem toStr_or (n:Int) (x:(Int×Int×Int)):(!toStr n x || decide (x.2.1 < x.1))= !strOK n x:=by
  rw [←toStr_ok]
  cases toStr n x<;>cases decide (x.2.1 < x.1)<;>rfl
set_option maxHeartbeats 1000000 in
theorem tHas_con (n:Int) (ss:List (Int×Int×Int)) (x:Int):Con Tryz.prog 132 [.pv [.agg [.int .i64 n,.sl (ss.map (fun t:Int×Int×Int=>V.agg [V.int .i64 t.1,V.int .i64 t.2.1,V.int .i64 t.2.2]))]] 0 0,.int .i64 x] [] (.bool (hasB n x)) []:=by
 refine v_con [.tmp 4] [] Tryz.func132 rfl rfl rfl (by simp [Tryz.ntmps132]) ?_
 intro Q0 n0 r0
 simp only [Tryz.ntmps132,envFrom,Nat.reduceAdd]
 have T:=Tys.mk (And.intro Ty.t3 (And.intro Ty.t4 (And.intro Ty.t34 (And.intro Ty.t36 Ty.t153))))
 have F:=Fc.mk True.intro
 refine v_seqR [0,1] ?_;intro K1 k1;refine zAssign ⟨?_⟩;refine k1 _ ?_;refine zk ⟨?_⟩;refine v_seqR [4] ?_;intro K2 k2;refine zq2 ⟨?_⟩;refine zNilCheck ⟨?_⟩;refine zq1 ⟨?_⟩;refine zBinOpW ⟨?_⟩;refine zc (inside_con _ _ _) ⟨?_⟩;refine zAssign ⟨?_⟩;refine k2 _ ?_;refine zk ⟨?_⟩;refine v_ret ?_;refine r0 _ ?_;refine zf ⟨?_⟩
 exact ret_pure rfl rfl (.inl rfl)
set_option maxHeartbeats 1000000 in
theorem tFits_con (n:Int) (ss:List (Int×Int×Int)) (x0:Int) (x1:Int) (x2:Int):Con Tryz.prog 130 [.pv [.agg [.int .i64 n,.sl (ss.map (fun t:Int×Int×Int=>V.agg [V.int .i64 t.1,V.int .i64 t.2.1,V.int .i64 t.2.2]))]] 0 0,.agg [V.int .i64 x0,V.int .i64 x1,V.int .i64 x2]] [] (.bool (strOK n (x0,x1,x2))) []:=by
 refine v_con [.tmp 4] [] Tryz.func130 rfl rfl rfl (by simp [Tryz.ntmps130]) ?_
 intro Q0 n0 r0
 simp only [Tryz.ntmps130,envFrom,Nat.reduceAdd]
 have T:=Tys.mk (And.intro Ty.t3 (And.intro Ty.t4 (And.intro Ty.t34 (And.intro Ty.t36 (And.intro Ty.t102 Ty.t153)))))
 have F:=Fc.mk True.intro
 refine v_seqR [0,3] ?_;intro K1 k1;refine zq9 ⟨?_⟩;refine k1 _ ?_;refine zk ⟨?_⟩;refine v_seqR [4] ?_;intro K2 k2;refine zMove ⟨?_⟩;refine zq1 ⟨?_⟩;refine zc (tHas_con n ss x0) ⟨?_⟩;refine zq17 ⟨?_⟩;refine zq10 ⟨?_⟩;refine zgc (tHas_con n ss x1) ⟨?_⟩;refine zq28 ⟨?_⟩;refine zq10 ⟨?_⟩;refine zgBinOp ⟨?_⟩;refine zq28 ⟨?_⟩;refine zgc (inside_con _ _ _) ⟨?_⟩;refine zq29 ⟨?_⟩;refine k2 _ ?_;refine zk ⟨?_⟩;refine v_ret ?_;refine r0 _ ?_;refine zf ⟨?_⟩
 exact ret_pure rfl (by simp [strOK]) (.inl rfl)
set_option maxHeartbeats 1000000 in
theorem cmpStreets_con (x0:Int) (x1:Int) (x2:Int) (y0:Int) (y1:Int) (y2:Int):Con Tryz.prog 131 [.agg [V.int .i64 x0,V.int .i64 x1,V.int .i64 x2],.agg [V.int .i64 y0,V.int .i64 y1,V.int .i64 y2]] [] (.int .i64 (cmpSt (x0,x1,x2) (y0,y1,y2))) []:=by
 refine v_con [.tmp 4] [] Tryz.func131 rfl rfl rfl (by simp [Tryz.ntmps131]) ?_
 intro Q0 n0 r0
 simp only [Tryz.ntmps131,envFrom,Nat.reduceAdd]
 have T:=Tys.mk (And.intro Ty.t3 (And.intro Ty.t49 Ty.t153))
 have F:=Fc.mk True.intro
 refine v_seqR [2,3] ?_;intro K1 k1;refine zq32 ⟨?_⟩;refine k1 _ ?_;refine zk ⟨?_⟩;refine v_seq ?_;intro Q2 n2 e2 r2;refine v_draw (by kernel_rfl) ?_;intro K3 q3 k3
 show aAny _ _ _ _ 13 (Array.replicate 13 false) _
 refine zdFieldAddr q3 true 0 5 ?_;refine zdLoad q3 true 1 6 ?_;refine zdFieldAddr q3 true 2 7 ?_;refine zdLoad q3 true 3 8 ?_;refine zdFieldAddr q3 true 5 10 ?_;refine zdLoad q3 true 6 11 ?_;refine zdFieldAddr q3 true 7 12 ?_;refine zdLoad q3 true 8 13 ?_;refine zoc 4 (cmpInt_con x0 y0) ⟨?_⟩;refine zoc 9 (cmpInt_con x1 y1) ⟨?_⟩;refine zoBuildSlice 10 ⟨?_⟩;refine zoc 11 (cmpOr_con [cmpI x0 y0,cmpI x1 y1] (by simp)) ⟨?_⟩;refine zoAssign 12 ⟨?_⟩;refine aAny_done (by kernel_rfl) ?_;refine k3 _ ?_;refine n2 _ _ (weak_keep [4] _) ?_;refine zk ⟨?_⟩;refine v_ret ?_;refine r0 _ ?_;refine zf ⟨?_⟩
 exact ret_pure rfl rfl (.inl rfl)
set_option maxHeartbeats 1000000 in
theorem toStreetB_con (x0:Int) (x1:Int) (x2:Int) (n:Int):Con Tryz.prog 215 [.agg [V.int .i64 x0,V.int .i64 x1,V.int .i64 x2],.int .i64 n] [] (.bool (toStr n (x0,x1,x2))) []:=by
 refine v_con [.tmp 4] [] Tryz.func215 rfl rfl rfl (by simp [Tryz.ntmps215]) ?_
 intro Q0 n0 r0
 simp only [Tryz.ntmps215,envFrom,Nat.reduceAdd]
 have T:=Tys.mk (And.intro Ty.t3 (And.intro Ty.t4 Ty.t153))
 have F:=Fc.mk True.intro
 refine v_seqR [1,2] ?_;intro K1 k1;refine zq9 ⟨?_⟩;refine k1 _ ?_;refine zk ⟨?_⟩;refine v_seqR [4] ?_;intro K2 k2;refine zq26 ⟨?_⟩;refine zBinOpW ⟨?_⟩;refine zc (l1In_con _ _ _) ⟨?_⟩;refine zq16 ⟨?_⟩;refine zgMove ⟨?_⟩;refine zgBinOpW ⟨?_⟩;refine zgc (l1In_con _ _ _) ⟨?_⟩;refine zq28 ⟨?_⟩;refine zq10 ⟨?_⟩;refine zgBinOp ⟨?_⟩;refine zq28 ⟨?_⟩;refine zgc (l1In_con _ _ _) ⟨?_⟩;refine zq29 ⟨?_⟩;refine k2 _ ?_;refine zk ⟨?_⟩;refine v_ret ?_;refine r0 _ ?_;refine zf ⟨?_⟩
 exact ret_pure rfl (by simp [toStr,hasB]) (.inl rfl)
set_option maxHeartbeats 1000000 in
theorem toBefore_con (x0:Int) (x1:Int) (x2:Int) (y0:Int) (y1:Int) (y2:Int):Con Tryz.prog 216 [.agg [V.int .i64 x0,V.int .i64 x1,V.int .i64 x2],.agg [V.int .i64 y0,V.int .i64 y1,V.int .i64 y2]] [] (.bool (strBf (x0,x1,x2) (y0,y1,y2))) []:=by
 refine v_con [.tmp 4] [] Tryz.func216 rfl rfl rfl (by simp [Tryz.ntmps216]) ?_
 intro Q0 n0 r0
 simp only [Tryz.ntmps216,envFrom,Nat.reduceAdd]
 have T:=Tys.mk (And.intro Ty.t3 Ty.t153)
 have F:=Fc.mk True.intro
 refine v_seqR [2,3] ?_;intro K1 k1;refine zq32 ⟨?_⟩;refine k1 _ ?_;refine zk ⟨?_⟩;refine v_seqR [4] ?_;intro K2 k2;refine zq27 ⟨?_⟩;refine zq16 ⟨?_⟩;refine zq10 ⟨?_⟩;refine zgBinOp ⟨?_⟩;refine zgMove ⟨?_⟩;refine zq10 ⟨?_⟩;refine zq10 ⟨?_⟩;refine zgBinOp ⟨?_⟩;refine zgPick ⟨?_⟩;refine zq29 ⟨?_⟩;refine k2 _ ?_;refine zk ⟨?_⟩;refine v_ret ?_;refine r0 _ ?_;refine zf ⟨?_⟩
 exact ret_pure rfl (by simp [strBf]) (.inl rfl)
set_option maxRecDepth 8000 in
set_option maxHeartbeats 1000000 in
theorem isTown_con (n:Int) (ss:List (Int×Int×Int)) (hs:ss.length≤1048576):Con Tryz.prog 63 [.pv [.agg [.int .i64 n,.sl (ss.map (fun t:Int×Int×Int=>V.agg [V.int .i64 t.1,V.int .i64 t.2.1,V.int .i64 t.2.2]))]] 0 0] [] (.bool (townB n ss)) []:=by
 refine v_con [.tmp 2] [] Tryz.func63 rfl rfl rfl (by simp [Tryz.ntmps63]) ?_
 intro Q0 n0 r0
 simp only [Tryz.ntmps63,envFrom,Nat.reduceAdd]
 have T:=Tys.mk (And.intro Ty.t3 (And.intro Ty.t4 (And.intro Ty.t34 (And.intro Ty.t36 (And.intro Ty.t102 Ty.t153)))))
 have F:=Fc.mk True.intro
 refine v_seqR [0] ?_;intro K1 k1;refine zAssign ⟨?_⟩;refine k1 _ ?_;refine zk ⟨?_⟩;refine v_seq ?_;intro Q2 n2 e2 r2;refine v_seqR [0,18] ?_;intro K3 k3;refine zq48 ⟨?_⟩;refine zq1 ⟨?_⟩;refine zc (inside_con _ _ _) ⟨?_⟩;refine zq38 ⟨?_⟩;refine zgNilCheck ⟨?_⟩;refine zq10 ⟨?_⟩;refine zq35 ⟨?_⟩;refine zPick ⟨?_⟩;refine k3 _ ?_;refine zk ⟨?_⟩;refine v_condS _ rfl ?_ ?_
 ·intro hc0
  have hh:townH n ss=false:=by cases hq:townH n ss with | false=>rfl | true=>(exfalso;simp [townH] at hq;(try simp at hc0);omega)
  refine v_seqR [2] ?_;intro K5 k5;refine zAssign ⟨?_⟩;refine k5 _ ?_;refine zk ⟨?_⟩;refine v_ret ?_;refine r2 _ ?_;refine r0 _ ?_;refine zf ⟨?_⟩
  exact ret_pure rfl (by rw [townB,hh];rfl) (.inl rfl)
 ·intro hc0
  have hh:townH n ss=true:=by simp only [townH,Bool.and_eq_true,Bool.not_eq_true',decide_eq_true_eq,decide_eq_false_iff_not];(try simp at hc0);omega
  refine v_skip ?_;refine n2 _ _ (weak_keep [0] _) ?_;refine zk ⟨?_⟩;refine v_seq ?_;intro Q6 n6 e6 r6;refine v_seqR [0,22,23,24] ?_;intro K7 k7;refine zq48 ⟨?_⟩;refine zq18 ⟨?_⟩;refine k7 _ ?_;refine zk ⟨?_⟩;refine v_block ?_;intro Q8 n8 x8 e8 r8;refine v_loop (fun i=>⟨[(0,.pv [.agg [.int .i64 n,.sl (ss.map (fun t:Int×Int×Int=>V.agg [V.int .i64 t.1,V.int .i64 t.2.1,V.int .i64 t.2.2]))]] 0 0),(22,.sl (ss.map (fun t:Int×Int×Int=>V.agg [V.int .i64 t.1,V.int .i64 t.2.1,V.int .i64 t.2.2]))),(23,.int .i64 ss.length),(24,.int .i64 (Nat.cast i))],[],false,51,0⟩) (fun i=>i≤ss.length∧chainAt (strOK n) strBf ss i=chainAt (strOK n) strBf ss 0) (fun i=>ss.length - i) 0 ?_ ?_ ?_
  ·refine weak_bothS [0,22,23,24] [] ⟨?_⟩
   rfl
  ·exact ⟨Nat.zero_le _,rfl⟩
  ·rintro i hok9 Q9 n9 e9 r9
   obtain ⟨hi1,hR⟩:=hok9
   refine v_seqR [0,22,23,24,25] ?_;intro K10 k10;refine zBinOp ⟨?_⟩;refine k10 _ ?_;refine zk ⟨?_⟩;refine v_seq ?_;intro Q11 n11 e11 r11;refine v_condS _ rfl ?_ ?_
   ·intro hc1
    have hlt:i < ss.length:=by omega
    obtain ⟨⟨x0,x1,x2⟩,hx⟩:∃x:Int×Int×Int,ss[i]? =some x:=⟨ss[i]'(by omega),List.getElem?_eq_getElem (by omega)⟩
    rcases Nat.eq_zero_or_pos i with h0 | h0
    ·skip
     have y0:Int:=0
     have y1:Int:=0
     have y2:Int:=0
     have hi0:¬((0:Int) < (i:Int)):=by omega
     have hst:chainAt (strOK n) strBf ss i=(strOK n (x0,x1,x2) && chainAt (strOK n) strBf ss (i+1)):=by subst h0;exact chain_zero hx
     have hts:=toStr_or n (x0,x1,x2)
     simp only [] at hts
     refine v_skip ?_;refine n11 _ _ (weak_keep [0,22,23,24] _) ?_;refine zk ⟨?_⟩;refine v_seq ?_;intro Q13 n13 e13 r13;refine v_block ?_;intro Q14 n14 x14 e14 r14;refine v_seqR [0,3,4,22,23,24] ?_;intro K15 k15
     have F:=Fc.mk (And.intro (fun f=>getD_map (f:=f) hx) (And.intro hi0 (And.intro @decide_false (And.intro @Bool.and_false hts))))
     refine zq23 ⟨?_⟩;refine k15 _ ?_;refine zk ⟨?_⟩;refine v_seq ?_;intro Q16 n16 e16 r16;refine v_draw (by kernel_rfl) ?_;intro K17 q17 k17
     show aAny _ _ _ _ 21 (Array.replicate 21 false) _
     refine zdMove q17 true 0 29 ?_;refine zdLoad q17 true 1 30 ?_;refine zoc 2 (tFits_con n ss x0 x1 x2) ⟨?_⟩;refine zdUnOp q17 true 3 32 ?_;refine zdMove q17 true 4 33 ?_;refine zdgMove q17 true 5 34 ?_;refine zdgBinOp q17 true 6 35 ?_;refine zdgMove q17 true 7 36 ?_;refine zdgMove q17 true 8 37 ?_;refine zdgNilCheck q17 true 9 38 ?_;refine zdgFieldAddr q17 true 10 39 ?_;refine zdgLoad q17 true 11 40 ?_;refine zdgMove q17 true 12 41 ?_;refine zdgBinOpW q17 true 13 42 ?_;refine zdgIndexAddr q17 true 14 43 ?_;refine zdgLoad q17 true 15 44 ?_;refine zdgLoad q17 true 16 45 ?_
     first
     |refine zogc 17 (cmpStreets_con y0 y1 y2 x0 x1 x2) ⟨?_⟩
     |(refine aAny_pass 17 46 7 true rfl rfl (show 46 < 51 by decide) (by kernel_rfl) rfl ?_ ?_;(focus first | rfl | (simp only [zV,guardV,Nat.reduceEqDiff,reduceIte];done));simp only [zW,set_some,Nat.reduceEqDiff,reduceIte])
     refine zdgBinOp q17 true 18 47 ?_;refine zdgPick q17 true 19 48 ?_;refine zdPick q17 true 20 49 ?_;refine aAny_done (by kernel_rfl) ?_;refine k17 _ ?_;refine n16 _ _ (weak_keep [0,22,23,24,49] _) ?_;refine zk ⟨?_⟩;refine v_condS _ rfl ?_ ?_
     ·intro hc2
      refine v_seqR [2] ?_;intro K19 k19;refine zAssign ⟨?_⟩;refine k19 _ ?_;refine zk ⟨?_⟩;refine v_ret ?_;refine r14 _ ?_;refine r13 _ ?_;refine r9 _ ?_;refine r8 _ ?_;refine r6 _ ?_;refine r0 _ ?_;refine zf ⟨?_⟩
      exact ret_pure rfl (by rw [townB,hh,←hR,hst];(try simp at hc2);first | (simp [hc2];done) | (rcases hc2 with h | h<;>simp [h];done) | (simp_all;done)) (.inl rfl)
     ·intro hc2
      refine v_skip ?_;refine n14 _ ?_;refine n13 _ _ (weak_keep [0,22,23,24] _) ?_;refine zk ⟨?_⟩;refine v_region ?_;intro K20 k20;refine zq5 ⟨?_⟩;refine k20 _ ?_;refine n9 _ (i+1) ?_ ?_ ?_
      ·refine weak_bothS [0,22,23,24] [] ⟨?_⟩
       rfl
      ·exact ⟨by omega,by rw [←hR,hst];(try simp at hc2);first | (simp [hc2];done) | (simp_all;done)⟩
      ·show _ < _;omega
    ·skip
     obtain ⟨⟨y0,y1,y2⟩,hy⟩:∃x:Int×Int×Int,ss[i - 1]? =some x:=⟨ss[i - 1]'(by omega),List.getElem?_eq_getElem (by omega)⟩
     have hi0:(0:Int) < i:=by omega
     have hk:((i:Int) - 1).toNat=i - 1:=by omega
     have hst:=chain_succ (ok:=strOK n) (bf:=strBf) h0 hy hx
     have hcb:=cmpSt_bf (y0,y1,y2) (x0,x1,x2)
     have hts:=toStr_or n (x0,x1,x2)
     simp only [] at hts
     refine v_skip ?_;refine n11 _ _ (weak_keep [0,22,23,24] _) ?_;refine zk ⟨?_⟩;refine v_seq ?_;intro Q21 n21 e21 r21;refine v_block ?_;intro Q22 n22 x22 e22 r22;refine v_seqR [0,3,4,22,23,24] ?_;intro K23 k23
     have F:=Fc.mk (And.intro (fun f=>getD_map (f:=f) hx) (And.intro hi0 (And.intro hk (And.intro (fun f=>getD_map (f:=f) hy) (And.intro @decide_true (And.intro @Bool.and_true (And.intro hcb hts)))))))
     refine zq23 ⟨?_⟩;refine k23 _ ?_;refine zk ⟨?_⟩;refine v_seq ?_;intro Q24 n24 e24 r24;refine v_draw (by kernel_rfl) ?_;intro K25 q25 k25
     show aAny _ _ _ _ 21 (Array.replicate 21 false) _
     refine zdMove q25 true 0 29 ?_;refine zdLoad q25 true 1 30 ?_;refine zoc 2 (tFits_con n ss x0 x1 x2) ⟨?_⟩;refine zdUnOp q25 true 3 32 ?_;refine zdMove q25 true 4 33 ?_;refine zdgMove q25 true 5 34 ?_;refine zdgBinOp q25 true 6 35 ?_;refine zdgMove q25 true 7 36 ?_;refine zdgMove q25 true 8 37 ?_;refine zdgNilCheck q25 true 9 38 ?_;refine zdgFieldAddr q25 true 10 39 ?_;refine zdgLoad q25 true 11 40 ?_;refine zdgMove q25 true 12 41 ?_;refine zdgBinOpW q25 true 13 42 ?_;refine zdgIndexAddr q25 true 14 43 ?_;refine zdgLoad q25 true 15 44 ?_;refine zdgLoad q25 true 16 45 ?_
     first
     |refine zogc 17 (cmpStreets_con y0 y1 y2 x0 x1 x2) ⟨?_⟩
     |(refine aAny_pass 17 46 7 true rfl rfl (show 46 < 51 by decide) (by kernel_rfl) rfl ?_ ?_;(focus first | rfl | (simp only [zV,guardV,Nat.reduceEqDiff,reduceIte];done));simp only [zW,set_some,Nat.reduceEqDiff,reduceIte])
     refine zdgBinOp q25 true 18 47 ?_;refine zdgPick q25 true 19 48 ?_;refine zdPick q25 true 20 49 ?_;refine aAny_done (by kernel_rfl) ?_;refine k25 _ ?_;refine n24 _ _ (weak_keep [0,22,23,24,49] _) ?_;refine zk ⟨?_⟩;refine v_condS _ rfl ?_ ?_
     ·intro hc2
      refine v_seqR [2] ?_;intro K27 k27;refine zAssign ⟨?_⟩;refine k27 _ ?_;refine zk ⟨?_⟩;refine v_ret ?_;refine r22 _ ?_;refine r21 _ ?_;refine r9 _ ?_;refine r8 _ ?_;refine r6 _ ?_;refine r0 _ ?_;refine zf ⟨?_⟩
      exact ret_pure rfl (by rw [townB,hh,←hR,hst];(try simp at hc2);first | (simp [hc2];done) | (rcases hc2 with h | h<;>simp [h];done) | (simp_all;done)) (.inl rfl)
     ·intro hc2
      refine v_skip ?_;refine n22 _ ?_;refine n21 _ _ (weak_keep [0,22,23,24] _) ?_;refine zk ⟨?_⟩;refine v_region ?_;intro K28 k28;refine zq5 ⟨?_⟩;refine k28 _ ?_;refine n9 _ (i+1) ?_ ?_ ?_
      ·refine weak_bothS [0,22,23,24] [] ⟨?_⟩
       rfl
      ·exact ⟨by omega,by rw [←hR,hst];(try simp at hc2);first | (simp [hc2];done) | (simp_all;done)⟩
      ·show _ < _;omega
   ·intro hc1
    refine v_exit ?_;refine e11 _ _ ?_;refine e9 _ _ ?_;refine x8 _ ?_;refine n6 _ _ (weak_keep [] _) ?_;refine zk ⟨?_⟩;refine v_seqR [2] ?_;intro K29 k29;refine zAssign ⟨?_⟩;refine k29 _ ?_;refine zk ⟨?_⟩;refine v_ret ?_;refine r0 _ ?_;refine zf ⟨?_⟩
    exact ret_pure rfl (by rw [townB,hh,←hR,chain_end (by omega)];rfl) (.inl rfl)
set_option maxRecDepth 8000 in
set_option maxHeartbeats 1000000 in
theorem toGood_con (n:Int) (ss:List (Int×Int×Int)) (hs:ss.length≤1048576):Con Tryz.prog 185 [.agg [.int .i64 n,.sl (ss.map (fun t:Int×Int×Int=>V.agg [V.int .i64 t.1,V.int .i64 t.2.1,V.int .i64 t.2.2]))]] [] (.bool (townB n ss)) []:=by
 refine v_con [.tmp 2] [] Tryz.func185 rfl rfl rfl (by simp [Tryz.ntmps185]) ?_
 intro Q0 n0 r0
 simp only [Tryz.ntmps185,envFrom,Nat.reduceAdd]
 have T:=Tys.mk (And.intro Ty.t3 (And.intro Ty.t4 (And.intro Ty.t34 (And.intro Ty.t36 Ty.t153))))
 have F:=Fc.mk True.intro
 refine v_seqR [1] ?_;intro K1 k1;refine zq9 ⟨?_⟩;refine k1 _ ?_;refine zk ⟨?_⟩;refine v_seq ?_;intro Q2 n2 e2 r2;refine v_seqR [1,14] ?_;intro K3 k3;refine zq1 ⟨?_⟩;refine zc (l1In_con _ _ _) ⟨?_⟩;refine zUnOp ⟨?_⟩;refine zq16 ⟨?_⟩;refine zq35 ⟨?_⟩;refine zPick ⟨?_⟩;refine k3 _ ?_;refine zk ⟨?_⟩;refine v_condS _ rfl ?_ ?_
 ·intro hc0
  have hh:townH n ss=false:=by cases hq:townH n ss with | false=>rfl | true=>(exfalso;simp [townH] at hq;(try simp at hc0);omega)
  refine v_seqR [2] ?_;intro K5 k5;refine zAssign ⟨?_⟩;refine k5 _ ?_;refine zk ⟨?_⟩;refine v_ret ?_;refine r2 _ ?_;refine r0 _ ?_;refine zf ⟨?_⟩
  exact ret_pure rfl (by rw [townB,hh];rfl) (.inl rfl)
 ·intro hc0
  have hh:townH n ss=true:=by simp only [townH,Bool.and_eq_true,Bool.not_eq_true',decide_eq_true_eq,decide_eq_false_iff_not];(try simp at hc0);omega
  refine v_skip ?_;refine n2 _ _ (weak_keep [1] _) ?_;refine zk ⟨?_⟩;refine v_seq ?_;intro Q6 n6 e6 r6;refine v_seqR [1,16,17,18] ?_;intro K7 k7;refine zq18 ⟨?_⟩;refine k7 _ ?_;refine zk ⟨?_⟩;refine v_block ?_;intro Q8 n8 x8 e8 r8;refine v_loop (fun i=>⟨[(1,.ptr 0 0 0),(16,.sl (ss.map (fun t:Int×Int×Int=>V.agg [V.int .i64 t.1,V.int .i64 t.2.1,V.int .i64 t.2.2]))),(17,.int .i64 ss.length),(18,.int .i64 (Nat.cast i))],[.box (.agg [.int .i64 n,.sl (ss.map (fun t:Int×Int×Int=>V.agg [V.int .i64 t.1,V.int .i64 t.2.1,V.int .i64 t.2.2]))]) .shal],false,51,0⟩) (fun i=>i≤ss.length∧chainAt (strOK n) strBf ss i=chainAt (strOK n) strBf ss 0) (fun i=>ss.length - i) 0 ?_ ?_ ?_
  ·refine weak_bothS [1,16,17,18] [0] ⟨?_⟩
   rfl
  ·exact ⟨Nat.zero_le _,rfl⟩
  ·rintro i hok9 Q9 n9 e9 r9
   obtain ⟨hi1,hR⟩:=hok9
   refine v_seqR [1,16,17,18,19] ?_;intro K10 k10;refine zBinOp ⟨?_⟩;refine k10 _ ?_;refine zk ⟨?_⟩;refine v_seq ?_;intro Q11 n11 e11 r11;refine v_condS _ rfl ?_ ?_
   ·intro hc1
    have hlt:i < ss.length:=by omega
    obtain ⟨⟨x0,x1,x2⟩,hx⟩:∃x:Int×Int×Int,ss[i]? =some x:=⟨ss[i]'(by omega),List.getElem?_eq_getElem (by omega)⟩
    rcases Nat.eq_zero_or_pos i with h0 | h0
    ·skip
     have y0:Int:=0
     have y1:Int:=0
     have y2:Int:=0
     have hi0:¬((0:Int) < (i:Int)):=by omega
     have hst:chainAt (strOK n) strBf ss i=(strOK n (x0,x1,x2) && chainAt (strOK n) strBf ss (i+1)):=by subst h0;exact chain_zero hx
     have hts:=toStr_or n (x0,x1,x2)
     simp only [] at hts
     refine v_skip ?_;refine n11 _ _ (weak_keep [1,16,17,18] _) ?_;refine zk ⟨?_⟩;refine v_seq ?_;intro Q13 n13 e13 r13;refine v_block ?_;intro Q14 n14 x14 e14 r14;refine v_seqR [1,3,4,16,17,18] ?_;intro K15 k15
     have F:=Fc.mk (And.intro (fun f=>getD_map (f:=f) hx) (And.intro hi0 (And.intro @decide_false (And.intro @Bool.and_false hts))))
     refine zq23 ⟨?_⟩;refine k15 _ ?_;refine zk ⟨?_⟩;refine v_seq ?_;intro Q16 n16 e16 r16;refine v_draw (by kernel_rfl) ?_;intro K17 q17 k17
     show aAny _ _ _ _ 27 (Array.replicate 27 false) _
     refine zdLoad q17 true 0 23 ?_;refine zdFieldAddr q17 true 1 24 ?_;refine zdLoad q17 true 2 25 ?_;refine zoc 3 (toStreetB_con x0 x1 x2 n) ⟨?_⟩;refine zdUnOp q17 true 4 27 ?_;refine zdMove q17 true 5 28 ?_;refine zdgFieldAddr q17 true 6 29 ?_;refine zdgLoad q17 true 7 30 ?_;refine zdgFieldAddr q17 true 8 31 ?_;refine zdgLoad q17 true 9 32 ?_;refine zdgBinOp q17 true 10 33 ?_;refine zdPick q17 true 11 34 ?_;refine zdMove q17 true 12 35 ?_;refine zdgMove q17 true 13 36 ?_;refine zdgBinOp q17 true 14 37 ?_;refine zdgMove q17 true 15 38 ?_;refine zdgFieldAddr q17 true 16 39 ?_;refine zdgLoad q17 true 17 40 ?_;refine zdgMove q17 true 18 41 ?_;refine zdgBinOpW q17 true 19 42 ?_;refine zdgIndexAddr q17 true 20 43 ?_;refine zdgLoad q17 true 21 44 ?_;refine zdgLoad q17 true 22 45 ?_
     first
     |refine zogc 23 (toBefore_con y0 y1 y2 x0 x1 x2) ⟨?_⟩
     |(refine aAny_pass 23 46 15 true rfl rfl (show 46 < 51 by decide) (by kernel_rfl) rfl ?_ ?_;(focus first | rfl | (simp only [zV,guardV,Nat.reduceEqDiff,reduceIte];done));simp only [zW,set_some,Nat.reduceEqDiff,reduceIte])
     refine zdgUnOp q17 true 24 47 ?_;refine zdgPick q17 true 25 48 ?_;refine zdPick q17 true 26 49 ?_;refine aAny_done (by kernel_rfl) ?_;refine k17 _ ?_;refine n16 _ _ (weak_keep [1,16,17,18,49] _) ?_;refine zk ⟨?_⟩;refine v_condS _ rfl ?_ ?_
     ·intro hc2
      refine v_seqR [2] ?_;intro K19 k19;refine zAssign ⟨?_⟩;refine k19 _ ?_;refine zk ⟨?_⟩;refine v_ret ?_;refine r14 _ ?_;refine r13 _ ?_;refine r9 _ ?_;refine r8 _ ?_;refine r6 _ ?_;refine r0 _ ?_;refine zf ⟨?_⟩
      exact ret_pure rfl (by rw [townB,hh,←hR,hst];(try simp at hc2);first | (simp [hc2];done) | (rcases hc2 with h | h<;>simp [h];done) | (simp_all;done)) (.inl rfl)
     ·intro hc2
      refine v_skip ?_;refine n14 _ ?_;refine n13 _ _ (weak_keep [1,16,17,18] _) ?_;refine zk ⟨?_⟩;refine v_region ?_;intro K20 k20;refine zq5 ⟨?_⟩;refine k20 _ ?_;refine n9 _ (i+1) ?_ ?_ ?_
      ·refine weak_bothS [1,16,17,18] [0] ⟨?_⟩
       rfl
      ·exact ⟨by omega,by rw [←hR,hst];(try simp at hc2);first | (simp [hc2];done) | (simp_all;done)⟩
      ·show _ < _;omega
    ·skip
     obtain ⟨⟨y0,y1,y2⟩,hy⟩:∃x:Int×Int×Int,ss[i - 1]? =some x:=⟨ss[i - 1]'(by omega),List.getElem?_eq_getElem (by omega)⟩
     have hi0:(0:Int) < i:=by omega
     have hk:((i:Int) - 1).toNat=i - 1:=by omega
     have hst:=chain_succ (ok:=strOK n) (bf:=strBf) h0 hy hx
     have hcb:=cmpSt_bf (y0,y1,y2) (x0,x1,x2)
     have hts:=toStr_or n (x0,x1,x2)
     simp only [] at hts
     refine v_skip ?_;refine n11 _ _ (weak_keep [1,16,17,18] _) ?_;refine zk ⟨?_⟩;refine v_seq ?_;intro Q21 n21 e21 r21;refine v_block ?_;intro Q22 n22 x22 e22 r22;refine v_seqR [1,3,4,16,17,18] ?_;intro K23 k23
     have F:=Fc.mk (And.intro (fun f=>getD_map (f:=f) hx) (And.intro hi0 (And.intro hk (And.intro (fun f=>getD_map (f:=f) hy) (And.intro @decide_true (And.intro @Bool.and_true (And.intro hcb hts)))))))
     refine zq23 ⟨?_⟩;refine k23 _ ?_;refine zk ⟨?_⟩;refine v_seq ?_;intro Q24 n24 e24 r24;refine v_draw (by kernel_rfl) ?_;intro K25 q25 k25
     show aAny _ _ _ _ 27 (Array.replicate 27 false) _
     refine zdLoad q25 true 0 23 ?_;refine zdFieldAddr q25 true 1 24 ?_;refine zdLoad q25 true 2 25 ?_;refine zoc 3 (toStreetB_con x0 x1 x2 n) ⟨?_⟩;refine zdUnOp q25 true 4 27 ?_;refine zdMove q25 true 5 28 ?_;refine zdgFieldAddr q25 true 6 29 ?_;refine zdgLoad q25 true 7 30 ?_;refine zdgFieldAddr q25 true 8 31 ?_;refine zdgLoad q25 true 9 32 ?_;refine zdgBinOp q25 true 10 33 ?_;refine zdPick q25 true 11 34 ?_;refine zdMove q25 true 12 35 ?_;refine zdgMove q25 true 13 36 ?_;refine zdgBinOp q25 true 14 37 ?_;refine zdgMove q25 true 15 38 ?_;refine zdgFieldAddr q25 true 16 39 ?_;refine zdgLoad q25 true 17 40 ?_;refine zdgMove q25 true 18 41 ?_;refine zdgBinOpW q25 true 19 42 ?_;refine zdgIndexAddr q25 true 20 43 ?_;refine zdgLoad q25 true 21 44 ?_;refine zdgLoad q25 true 22 45 ?_
     first
     |refine zogc 23 (toBefore_con y0 y1 y2 x0 x1 x2) ⟨?_⟩
     |(refine aAny_pass 23 46 15 true rfl rfl (show 46 < 51 by decide) (by kernel_rfl) rfl ?_ ?_;(focus first | rfl | (simp only [zV,guardV,Nat.reduceEqDiff,reduceIte];done));simp only [zW,set_some,Nat.reduceEqDiff,reduceIte])
     refine zdgUnOp q25 true 24 47 ?_;refine zdgPick q25 true 25 48 ?_;refine zdPick q25 true 26 49 ?_;refine aAny_done (by kernel_rfl) ?_;refine k25 _ ?_;refine n24 _ _ (weak_keep [1,16,17,18,49] _) ?_;refine zk ⟨?_⟩;refine v_condS _ rfl ?_ ?_
     ·intro hc2
      refine v_seqR [2] ?_;intro K27 k27;refine zAssign ⟨?_⟩;refine k27 _ ?_;refine zk ⟨?_⟩;refine v_ret ?_;refine r22 _ ?_;refine r21 _ ?_;refine r9 _ ?_;refine r8 _ ?_;refine r6 _ ?_;refine r0 _ ?_;refine zf ⟨?_⟩
      exact ret_pure rfl (by rw [townB,hh,←hR,hst];(try simp at hc2);first | (simp [hc2];done) | (rcases hc2 with h | h<;>simp [h];done) | (simp_all;done)) (.inl rfl)
     ·intro hc2
      refine v_skip ?_;refine n22 _ ?_;refine n21 _ _ (weak_keep [1,16,17,18] _) ?_;refine zk ⟨?_⟩;refine v_region ?_;intro K28 k28;refine zq5 ⟨?_⟩;refine k28 _ ?_;refine n9 _ (i+1) ?_ ?_ ?_
      ·refine weak_bothS [1,16,17,18] [0] ⟨?_⟩
       rfl
      ·exact ⟨by omega,by rw [←hR,hst];(try simp at hc2);first | (simp [hc2];done) | (simp_all;done)⟩
      ·show _ < _;omega
   ·intro hc1
    refine v_exit ?_;refine e11 _ _ ?_;refine e9 _ _ ?_;refine x8 _ ?_;refine n6 _ _ (weak_keep [] _) ?_;refine zk ⟨?_⟩;refine v_seqR [2] ?_;intro K29 k29;refine zAssign ⟨?_⟩;refine k29 _ ?_;refine zk ⟨?_⟩;refine v_ret ?_;refine r0 _ ?_;refine zf ⟨?_⟩
    exact ret_pure rfl (by rw [townB,hh,←hR,chain_end (by omega)];rfl) (.inl rfl)
def szStr1 (n:Int) (s:ByteArray):Int:=if n - (s.size:Int) < 0 then -1 else n - (s.size:Int)
theorem szStr1_le (n:Int) (s:ByteArray) (hn:0≤n):szStr1 n s≤n:=by
  unfold szStr1;split<;>omega
set_option maxHeartbeats 1000000 in
theorem toStringS_con (l:List ByteArray) (hl:l.length≤1048576):Con Tryz.prog 16 [.sl (l.map V.str)] [] (.ref 0) [.arr (l.map V.str) .flat]:=by
 refine v_con [.tmp 2] [] Tryz.func16 rfl rfl rfl (by simp [Tryz.ntmps16]) ?_
 intro Q0 n0 r0
 simp only [Tryz.ntmps16,envFrom,Nat.reduceAdd]
 have T:=Tys.mk (And.intro Ty.t3 (And.intro Ty.t9 Ty.t47))
 have F:=Fc.mk True.intro
 refine v_seqR [0] ?_;intro K1 k1;refine zAssign ⟨?_⟩;refine k1 _ ?_;refine zk ⟨?_⟩;refine v_seqR [0,3] ?_;intro K2 k2;refine zq43 ⟨?_⟩;refine k2 _ ?_;refine zk ⟨?_⟩;refine v_seq ?_;intro Q3 n3 e3 r3;refine v_seqR [0,3,4] ?_;intro K4 k4;refine zAssign ⟨?_⟩;refine k4 _ ?_;refine zk ⟨?_⟩;refine v_block ?_;intro Q5 n5 x5 e5 r5;refine v_loop (fun i=>⟨[(0,.sl (l.map V.str)),(3,.ref 0),(4,.int .i64 (Nat.cast i))],[.arr (fillTo V.str (V.str .empty) l i) .flat],false,22,0⟩) (fun i=>i≤l.length) (fun i=>l.length - i) 0 ?_ ?_ ?_
 ·refine weak_bothS [0,3,4] [1] ⟨?_⟩
  rw [fill_zero];rfl
 ·exact Nat.zero_le _
 ·rintro i hok6 Q6 n6 e6 r6
  have hi1:i≤l.length:=hok6
  refine v_seq ?_;intro Q7 n7 e7 r7;refine v_seqR [0,3,4,11] ?_;intro K8 k8;refine zq14 ⟨?_⟩;refine k8 _ ?_;refine zk ⟨?_⟩;refine v_condS _ rfl ?_ ?_
  ·intro hc0
   have hlt:i < l.length:=by omega
   obtain ⟨x,hx⟩:∃x,l[i]? =some x:=⟨l[i],List.getElem?_eq_getElem hlt⟩
   refine v_skip ?_;refine n7 _ _ (weak_keep [0,3,4] _) ?_;refine zk ⟨?_⟩;refine v_seq ?_;intro Q10 n10 e10 r10;refine v_block ?_;intro Q11 n11 x11 e11 r11;refine v_region ?_;intro K12 k12
   have F:=Fc.mk (And.intro (fun f=>getD_map (f:=f) hx) (And.intro (fun f z=>fill_len (f:=f) (z:=z) hi1) (And.intro (fun f z=>fill_get (f:=f) (z:=z) hlt) (fun f z=>fill_set (f:=f) (z:=z) hx))))
   refine zq45 ⟨?_⟩;refine v_op ?_;intro K k
   simp only [zE,zL,zN,aStepM,optable,set_some,Nat.reduceEqDiff,reduceIte,Nat.reduceLT,implies_true,forall_const,reduceCtorEq,V.ofValue,V.ofScalar,V.un,V.gd,aExec,aop,List.mem_cons,List.not_mem_nil,or_false,forall_eq_or_imp,forall_eq,aIndexAddr,row_mk,Blk.row,Go.Vm.V.cells,List.forall_mem_map,List.length_map,Int.toNat_natCast,Int.reduceToNat,TypeDesc.slice.injEq,Nat.reduceAdd,Nat.reduceLeDiff,Nat.reduceMul,Tryz.underlying9,Ty.c9,Ty.a9,Tryz.underlying47,Ty.c47,Ty.a47,getD_map hx,fill_len hi1,fill_get hlt,fill_set hx]
   repeat (refine And.intro (by first | omega | (exact fill_all (fun _=>rfl) rfl) | (intros;omega) | (intros;simp_all;done) | (intros;simp_all;omega)) ?_)
   refine k _ ?_;clear k K;refine zLoad ⟨?_⟩;refine v_op ?_;intro K k
   simp only [zE,zL,zN,aStepM,optable,set_some,Nat.reduceEqDiff,reduceIte,Nat.reduceLT,implies_true,forall_const,reduceCtorEq,V.ofValue,V.ofScalar,V.un,V.gd,aExec,aop,List.mem_cons,List.not_mem_nil,or_false,forall_eq_or_imp,forall_eq,aIndexAddr,row_mk,Blk.row,Go.Vm.V.cells,List.forall_mem_map,List.length_map,Int.toNat_natCast,Int.reduceToNat,TypeDesc.slice.injEq,Nat.reduceAdd,Nat.reduceLeDiff,Nat.reduceMul,Tryz.underlying9,Ty.c9,Ty.a9,Tryz.underlying47,Ty.c47,Ty.a47,getD_map hx,fill_len hi1,fill_get hlt,fill_set hx]
   repeat (refine And.intro (by first | omega | (exact fill_all (fun _=>rfl) rfl) | (intros;omega) | (intros;simp_all;done) | (intros;simp_all;omega)) ?_)
   refine k _ ?_;clear k K;refine v_op ?_;intro K k
   simp only [zE,zS,zJ,zL,zO,zN,aStepM,optable,set_some,Nat.reduceEqDiff,reduceIte,Nat.reduceLT,implies_true,forall_const,reduceCtorEq,V.ofValue,V.ofScalar,V.un,V.gd,aExec,aop,aStore,setCells,V.isVal,V.cells,kindOf,kindAll,V.noSl,V.noRef,gt_iff_lt,Nat.reduceAdd,Nat.reduceLeDiff,Nat.reduceMul,takeV,takeCell,takeCells,row_mk,Blk.row,killAll,Nat.reduceBEq,join_t,Tryz.underlying9,Ty.c9,Ty.a9,getD_map hx,fill_len hi1,fill_get hlt,fill_set hx]
   repeat (refine And.intro (by first | omega | (exact fill_all (fun _=>rfl) rfl) | (intros;omega) | (intros;simp_all;done) | (intros;simp_all;omega)) ?_)
   refine k _ ?_;clear k K;refine k12 _ ?_;refine n11 _ ?_;refine n10 _ _ (weak_keep [0,3,4] _) ?_;refine zk ⟨?_⟩;refine v_region ?_;intro K13 k13;refine zq6 ⟨?_⟩;refine k13 _ ?_;refine n6 _ (i+1) ?_ ?_ ?_
   ·refine weak_bothS [0,3,4] [0] ⟨?_⟩
    rfl
   ·exact hlt
   ·show _ < _;omega
  ·intro hc0
   refine v_exit ?_;refine e7 _ _ ?_;refine e6 _ _ ?_;refine x5 _ ?_;refine n3 _ _ (weak_keep [3] _) ?_;refine zk ⟨?_⟩;refine v_seqR [2] ?_;intro K14 k14;refine zq8 ⟨?_⟩;refine k14 _ ?_;refine zk ⟨?_⟩;refine v_ret ?_;refine r0 _ ?_;refine zf ⟨?_⟩
   rw [←fill_end (f:=V.str) (z:=(V.str .empty)) (show l.length≤i by omega)]
   exact ret_ref rfl (.inl rfl)
set_option maxHeartbeats 1000000 in
theorem szStringS_con (n:Int) (l:List ByteArray) (hn:0≤n∧n≤1048576) (hl:l.length≤9223372036854775807) (hls:∀s∈l,s.size≤9223372036854775807):Con Tryz.prog 14 [.sl (l.map V.str),.int .i64 n] [] (.int .i64 (if n - (l.length:Int) < 0 then -1 else szLst szStr1 (n - (l.length:Int)) l)) []:=by
 refine v_con [.tmp 4] [] Tryz.func14 rfl rfl rfl (by simp [Tryz.ntmps14]) ?_
 intro Q0 n0 r0
 simp only [Tryz.ntmps14,envFrom,Nat.reduceAdd]
 have T:=Tys.mk (And.intro Ty.t3 (And.intro Ty.t9 Ty.t47))
 have F:=Fc.mk True.intro
 refine v_seqR [0,1] ?_;intro K1 k1;refine zAssign ⟨?_⟩;refine k1 _ ?_;refine zk ⟨?_⟩;refine v_seqR [0,1] ?_;intro K2 k2;refine zq44 ⟨?_⟩;refine k2 _ ?_;refine zk ⟨?_⟩;refine v_seq ?_;intro Q3 n3 e3 r3;refine v_seqR [0,1,11] ?_;intro K4 k4;refine zq13 ⟨?_⟩;refine k4 _ ?_;refine zk ⟨?_⟩;refine v_condS _ rfl ?_ ?_
 ·intro hc0
  refine v_seqR [4] ?_;intro K6 k6;refine zAssign ⟨?_⟩;refine k6 _ ?_;refine zk ⟨?_⟩;refine v_ret ?_;refine r3 _ ?_;refine r0 _ ?_;refine zf ⟨?_⟩
  exact ret_pure rfl (by rw [if_pos (by omega)]) (.inl rfl)
 ·intro hc0
  refine v_skip ?_;refine n3 _ _ (weak_keep [0,1] _) ?_;refine zk ⟨?_⟩;refine v_seq ?_;intro Q7 n7 e7 r7;refine v_seqR [0,1,5] ?_;intro K8 k8;refine zAssign ⟨?_⟩;refine k8 _ ?_;refine zk ⟨?_⟩;refine v_block ?_;intro Q9 n9 x9 e9 r9;refine v_loop (fun p=>⟨[(0,.sl (l.map V.str)),(1,.int .i64 p.2),(5,.int .i64 (Nat.cast p.1))],[],false,28,0⟩) (fun p=>p.1≤l.length∧0≤p.2∧p.2≤1048576∧szLst szStr1 p.2 (l.drop p.1)=szLst szStr1 (n - (l.length:Int)) l) (fun p=>l.length - p.1) (0,n - (l.length:Int)) ?_ ?_ ?_
  ·refine weak_of [0,1,5] ?_
   simp only [keep_mk,keepE_nil,keepE_cons,look_cons,look_nil,Nat.reduceEqDiff,reduceIte]
   rfl
  ·exact ⟨Nat.zero_le _,by omega,by omega,by simp⟩
  ·rintro ⟨i,m⟩ hok10 Q10 n10 e10 r10
   obtain ⟨hi1,hm0,hm1,hR⟩:=hok10
   simp only [] at hi1 hm0 hm1 hR⊢
   refine v_seq ?_;intro Q11 n11 e11 r11;refine v_seqR [0,1,5,15] ?_;intro K12 k12;refine zq14 ⟨?_⟩;refine k12 _ ?_;refine zk ⟨?_⟩;refine v_condS _ rfl ?_ ?_
   ·intro hc1
    have hlt:i < l.length:=by omega
    obtain ⟨x,hx⟩:∃x,l[i]? =some x:=⟨l[i],List.getElem?_eq_getElem hlt⟩
    have hlx:=hls x (List.mem_of_getElem? hx)
    have hstep:szLst szStr1 m (l.drop i)=if szStr1 m x < 0 then -1 else szLst szStr1 (szStr1 m x) (l.drop (i+1)):=by rw [getElem_drop_cons hx,szLst]
    refine v_skip ?_;refine n11 _ _ (weak_keep [0,1,5] _) ?_;refine zk ⟨?_⟩;refine v_seq ?_;intro Q14 n14 e14 r14;refine v_block ?_;intro Q15 n15 x15 e15 r15;refine v_seqR [0,1,5] ?_;intro K16 k16
    have F:=Fc.mk (fun f=>getD_map (f:=f) hx)
    refine zq20 ⟨?_⟩;refine zq4 ⟨?_⟩;refine zq37 ⟨?_⟩;refine k16 _ ?_;refine zk ⟨?_⟩;refine v_seqR [0,1,5,26] ?_;intro K17 k17;refine zq13 ⟨?_⟩;refine k17 _ ?_;refine zk ⟨?_⟩;refine v_condS _ rfl ?_ ?_
    ·intro hc2
     have hneg:szStr1 m x=-1:=by rw [szStr1,if_pos hc2]
     refine v_seqR [4] ?_;intro K19 k19;refine zAssign ⟨?_⟩;refine k19 _ ?_;refine zk ⟨?_⟩;refine v_ret ?_;refine r15 _ ?_;refine r14 _ ?_;refine r10 _ ?_;refine r9 _ ?_;refine r7 _ ?_;refine r0 _ ?_;refine zf ⟨?_⟩
     exact ret_pure rfl (by rw [if_neg (by omega),←hR,hstep,if_pos (by omega)]) (.inl rfl)
    ·intro hc2
     have hpos:szStr1 m x=m - (x.size:Int):=by rw [szStr1,if_neg (by omega)]
     refine v_skip ?_;refine n15 _ ?_;refine n14 _ _ (weak_keep [0,1,5] _) ?_;refine zk ⟨?_⟩;refine v_region ?_;intro K20 k20;refine zq6 ⟨?_⟩;refine k20 _ ?_;refine n10 _ (i+1,m - (x.size:Int)) ?_ ?_ ?_
     ·refine weak_of [0,1,5] ?_
      simp only [keep_mk,keepE_nil,keepE_cons,look_cons,look_nil,Nat.reduceEqDiff,reduceIte]
      rfl
     ·exact ⟨by simp only [];omega,by simp only [];omega,by simp only [];omega,by simp only [];rw [←hR,hstep,if_neg (by omega),hpos]⟩
     ·show _ < _;simp only [];omega
   ·intro hc1
    refine v_exit ?_;refine e11 _ _ ?_;refine e10 _ _ ?_;refine x9 _ ?_;refine n7 _ _ (weak_keep [1] _) ?_;refine zk ⟨?_⟩;refine v_seqR [4] ?_;intro K21 k21;refine zq8 ⟨?_⟩;refine k21 _ ?_;refine zk ⟨?_⟩;refine v_ret ?_;refine r0 _ ?_;refine zf ⟨?_⟩
    exact ret_pure rfl (by rw [if_neg (by omega),←hR,List.drop_of_length_le (by omega)];rfl) (.inl rfl)
set_option maxHeartbeats 1000000 in
theorem eqStringS_con (a b:List ByteArray) (ha:a.length≤1048576):Con Tryz.prog 19 [.sl (a.map V.str),.sl (b.map V.str)] [] (.bool (decide (a=b))) []:=by
 refine v_con [.tmp 4] [] Tryz.func19 rfl rfl rfl (by simp [Tryz.ntmps19]) ?_
 intro Q0 n0 r0
 simp only [Tryz.ntmps19,envFrom,Nat.reduceAdd]
 have T:=Tys.mk (And.intro Ty.t3 (And.intro Ty.t9 Ty.t47))
 have F:=Fc.mk True.intro
 refine v_seqR [0,1] ?_;intro K1 k1;refine zAssign ⟨?_⟩;refine k1 _ ?_;refine zk ⟨?_⟩;refine v_seq ?_;intro Q2 n2 e2 r2;refine v_seqR [0,1,10] ?_;intro K3 k3;refine zq46 ⟨?_⟩;refine k3 _ ?_;refine zk ⟨?_⟩;refine v_condS _ rfl ?_ ?_
 ·intro hc0
  refine v_seqR [4] ?_;intro K5 k5;refine zAssign ⟨?_⟩;refine k5 _ ?_;refine zk ⟨?_⟩;refine v_ret ?_;refine r2 _ ?_;refine r0 _ ?_;refine zf ⟨?_⟩
  exact ret_pure rfl (by rw [decide_eq_false (fun h=>by subst h;simp at hc0)]) (.inl rfl)
 ·intro hc0
  have hab:a.length=b.length:=by omega
  refine v_skip ?_;refine n2 _ _ (weak_keep [0,1] _) ?_;refine zk ⟨?_⟩;refine v_seq ?_;intro Q6 n6 e6 r6;refine v_seqR [0,1,5] ?_;intro K7 k7;refine zAssign ⟨?_⟩;refine k7 _ ?_;refine zk ⟨?_⟩;refine v_block ?_;intro Q8 n8 x8 e8 r8;refine v_loop (fun i=>⟨[(0,.sl (a.map V.str)),(1,.sl (b.map V.str)),(5,.int .i64 (Nat.cast i))],[],false,26,0⟩) (fun i=>i≤a.length∧((a=b)↔(a.drop i=b.drop i))) (fun i=>a.length - i) 0 ?_ ?_ ?_
  ·refine weak_of [0,1,5] ?_
   simp only [keep_mk,keepE_nil,keepE_cons,look_cons,look_nil,Nat.reduceEqDiff,reduceIte]
   rfl
  ·exact ⟨Nat.zero_le _,by simp⟩
  ·rintro i hok9 Q9 n9 e9 r9
   obtain ⟨hi1,hR⟩:=hok9
   refine v_seq ?_;intro Q10 n10 e10 r10;refine v_seqR [0,1,5,14] ?_;intro K11 k11;refine zq14 ⟨?_⟩;refine k11 _ ?_;refine zk ⟨?_⟩;refine v_condS _ rfl ?_ ?_
   ·intro hc1
    have hlt:i < a.length:=by omega
    obtain ⟨x,hx⟩:∃x,a[i]? =some x:=⟨a[i],List.getElem?_eq_getElem hlt⟩
    obtain ⟨y,hy⟩:∃y,b[i]? =some y:=⟨b[i],List.getElem?_eq_getElem (by omega)⟩
    have hstep:=eq_drop hab hx hy
    refine v_skip ?_;refine n10 _ _ (weak_keep [0,1,5] _) ?_;refine zk ⟨?_⟩;refine v_seq ?_;intro Q13 n13 e13 r13;refine v_block ?_;intro Q14 n14 x14 e14 r14;refine v_seq ?_;intro Q15 n15 e15 r15;refine v_draw (by kernel_rfl) ?_;intro K16 q16 k16
    show aAny _ _ _ _ 9 (Array.replicate 9 false) _
    have F:=Fc.mk (And.intro (fun f=>getD_map (f:=f) hx) (fun f=>getD_map (f:=f) hy))
    refine zdMove q16 true 0 17 ?_;refine zdMove q16 true 1 18 ?_;refine zdIndexAddr q16 true 2 19 ?_;refine zdLoad q16 true 3 20 ?_;refine zdMove q16 true 4 21 ?_;refine zdMove q16 true 5 22 ?_;refine zdIndexAddr q16 true 6 23 ?_;refine zdLoad q16 true 7 24 ?_;refine zdBinOp q16 true 8 25 ?_;refine aAny_done (by kernel_rfl) ?_;refine k16 _ ?_;refine n15 _ _ (weak_keep [0,1,5,25] _) ?_;refine zk ⟨?_⟩;refine v_condS _ rfl ?_ ?_
    ·intro hc2
     refine v_seqR [4] ?_;intro K18 k18;refine zAssign ⟨?_⟩;refine k18 _ ?_;refine zk ⟨?_⟩;refine v_ret ?_;refine r14 _ ?_;refine r13 _ ?_;refine r9 _ ?_;refine r8 _ ?_;refine r6 _ ?_;refine r0 _ ?_;refine zf ⟨?_⟩
     exact ret_pure rfl (by rw [decide_eq_false (fun h=>hc2 (hstep.1 (hR.1 h)).1)]) (.inl rfl)
    ·intro hc2
     refine v_skip ?_;refine n14 _ ?_;refine n13 _ _ (weak_keep [0,1,5] _) ?_;refine zk ⟨?_⟩;refine v_region ?_;intro K19 k19;refine zq6 ⟨?_⟩;refine k19 _ ?_;refine n9 _ (i+1) ?_ ?_ ?_
     ·refine weak_of [0,1,5] ?_
      simp only [keep_mk,keepE_nil,keepE_cons,look_cons,look_nil,Nat.reduceEqDiff,reduceIte]
      rfl
     ·exact ⟨by omega,hR.trans (hstep.trans ⟨fun h=>h.2,fun h=>⟨hc2,h⟩⟩)⟩
     ·show _ < _;omega
   ·intro hc1
    refine v_exit ?_;refine e10 _ _ ?_;refine e9 _ _ ?_;refine x8 _ ?_;refine n6 _ _ (weak_keep [] _) ?_;refine zk ⟨?_⟩;refine v_seqR [4] ?_;intro K20 k20;refine zAssign ⟨?_⟩;refine k20 _ ?_;refine zk ⟨?_⟩;refine v_ret ?_;refine r0 _ ?_;refine zf ⟨?_⟩
    exact ret_pure rfl (by rw [decide_eq_true (hR.2 (by rw [List.drop_of_length_le (by omega),List.drop_of_length_le (by omega)]))]) (.inl rfl)
end Go.Proofs.YtaefoaghpehbpaaGreatDoor
