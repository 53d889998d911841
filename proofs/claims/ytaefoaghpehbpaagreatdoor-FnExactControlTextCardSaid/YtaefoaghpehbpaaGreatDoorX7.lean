/- What functions compute. No condition. -/
import Derived.Test.YtaefoaghpehbpaaGreatDoorUz
import Derived.Test.YtaefoaghpehbpaaGreatDoorUty
import Derived.Test.YtaefoaghpehbpaaGreatDoorUmG
import Derived.Test.YtaefoaghpehbpaaGreatDoorX6
import Derived.Test.YtaefoaghpehbpaaGreatDoorX4
import Derived.Test.YtaefoaghpehbpaaGreatDoorX1
import Derived.Test.YtaefoaghpehbpaaGreatDoorX3
set_option linter.unusedSimpArgs false
set_option linter.unusedVariables false
set_option linter.defProp false
namespace Go.Proofs.YtaefoaghpehbpaaGreatDoor
open Go Go.Vm
def szIncident1 (n:Int) (t:Int×Int×Bool×List ByteArray):Int:=szSL n t.2.2.2
theorem szIncident1_le (n:Int) (t:Int×Int×Bool×List ByteArray) (hn:0≤n):szIncident1 n t≤n:=szSL_le hn
theorem szIncident_lens {n:Int} {l:List (Int×Int×Bool×List ByteArray)} (hn:0≤n) (h:0≤szLst szIncident1 n l):∀t∈l,(t.2.2.2.length:Int)≤n:=
  szLst_le (f:=szIncident1) (g:=fun t=>(t.2.2.2.length:Int)) (fun n x h0 h1=>⟨szSL_len h1,szIncident1_le n x h0⟩) hn h
set_option maxHeartbeats 1000000 in
theorem szIncident_con (x0:Int) (x1:Int) (x2:Bool) (x3:List ByteArray) (n:Int) (hn:0≤n∧n≤1048576) (hlx:x3.length≤9223372036854775807) (hlxs:∀s∈x3,s.size≤9223372036854775807):Con Tryz.prog 119 [.agg [V.int .i64 x0,V.int .i64 x1,V.bool x2,V.sl (x3.map V.str)],.int .i64 n] [] (.int .i64 (szIncident1 n (x0,x1,x2,x3))) []:=by
 refine v_con [.tmp 4] [] Tryz.func119 rfl rfl rfl (by simp [Tryz.ntmps119]) ?_
 intro Q0 n0 r0
 simp only [Tryz.ntmps119,envFrom,Nat.reduceAdd]
 have T:=Tys.mk (And.intro Ty.t3 (And.intro Ty.t4 (And.intro Ty.t9 (And.intro Ty.t47 Ty.t147))))
 have F:=Fc.mk True.intro
 refine v_seqR [1,2] ?_;intro K1 k1;refine zq9 ⟨?_⟩;refine k1 _ ?_;refine zk ⟨?_⟩;refine v_seqR [1] ?_;intro K2 k2;refine zq26 ⟨?_⟩;refine zc ((szStringS_con n x3 hn hlx hlxs:Con _ _ _ _ (.int .i64 (szSL n x3)) _)) ⟨?_⟩;refine zAssign ⟨?_⟩;refine k2 _ ?_;refine zk ⟨?_⟩;refine v_seq ?_;intro Q3 n3 e3 r3;refine v_seqR [1,10] ?_;intro K4 k4;refine zq13 ⟨?_⟩;refine k4 _ ?_;refine zk ⟨?_⟩;refine v_condS _ rfl ?_ ?_
 ·intro hc0
  refine v_seqR [4] ?_;intro K6 k6;refine zAssign ⟨?_⟩;refine k6 _ ?_;refine zk ⟨?_⟩;refine v_ret ?_;refine r3 _ ?_;refine r0 _ ?_;refine zf ⟨?_⟩
  exact ret_pure rfl (by rw [show szIncident1 n (x0,x1,x2,x3)=-1 from szSL_neg hc0]) (.inl rfl)
 ·intro hc0
  refine v_skip ?_;refine n3 _ _ (weak_keep [1] _) ?_;refine zk ⟨?_⟩;refine v_seqR [4] ?_;intro K7 k7;refine zq8 ⟨?_⟩;refine k7 _ ?_;refine zk ⟨?_⟩;refine v_ret ?_;refine r0 _ ?_;refine zf ⟨?_⟩
  exact ret_pure rfl rfl (.inl rfl)
set_option maxHeartbeats 1000000 in
theorem szIncidentS_con (n:Int) (ll:List (Int×Int×Bool×List ByteArray)) (hn:0≤n∧n≤1048576) (hl:ll.length≤9223372036854775807) (hls:∀t∈ll,t.2.2.2.length≤9223372036854775807∧∀s∈t.2.2.2,s.size≤9223372036854775807):Con Tryz.prog 53 [.sl (ll.map (fun t:Int×Int×Bool×List ByteArray=>V.agg [V.int .i64 t.1,V.int .i64 t.2.1,V.bool t.2.2.1,V.sl (t.2.2.2.map V.str)])),.int .i64 n] [] (.int .i64 (if n - ll.length < 0 then -1 else szLst szIncident1 (n - ll.length) ll)) []:=by
 refine v_con [.tmp 4] [] Tryz.func53 rfl rfl rfl (by simp [Tryz.ntmps53]) ?_
 intro Q0 n0 r0
 simp only [Tryz.ntmps53,envFrom,Nat.reduceAdd]
 have T:=Tys.mk (And.intro Ty.t3 (And.intro Ty.t4 (And.intro Ty.t9 (And.intro Ty.t26 (And.intro Ty.t47 Ty.t147)))))
 have F:=Fc.mk True.intro
 refine v_seqR [0,1] ?_;intro K1 k1;refine zAssign ⟨?_⟩;refine k1 _ ?_;refine zk ⟨?_⟩;refine v_seqR [0,1] ?_;intro K2 k2;refine zq44 ⟨?_⟩;refine k2 _ ?_;refine zk ⟨?_⟩;refine v_seq ?_;intro Q3 n3 e3 r3;refine v_seqR [0,1,11] ?_;intro K4 k4;refine zq13 ⟨?_⟩;refine k4 _ ?_;refine zk ⟨?_⟩;refine v_condS _ rfl ?_ ?_
 ·intro hc0
  refine v_seqR [4] ?_;intro K6 k6;refine zAssign ⟨?_⟩;refine k6 _ ?_;refine zk ⟨?_⟩;refine v_ret ?_;refine r3 _ ?_;refine r0 _ ?_;refine zf ⟨?_⟩
  exact ret_pure rfl (by rw [if_pos (by omega)]) (.inl rfl)
 ·intro hc0
  refine v_skip ?_;refine n3 _ _ (weak_keep [0,1] _) ?_;refine zk ⟨?_⟩;refine v_seq ?_;intro Q7 n7 e7 r7;refine v_seqR [0,1,5] ?_;intro K8 k8;refine zAssign ⟨?_⟩;refine k8 _ ?_;refine zk ⟨?_⟩;refine v_block ?_;intro Q9 n9 x9 e9 r9;refine v_loop (fun p=>⟨[(0,.sl (ll.map (fun t:Int×Int×Bool×List ByteArray=>V.agg [V.int .i64 t.1,V.int .i64 t.2.1,V.bool t.2.2.1,V.sl (t.2.2.2.map V.str)]))),(1,.int .i64 p.2),(5,.int .i64 (Nat.cast p.1))],[],false,27,0⟩) (fun p=>p.1≤ll.length∧0≤p.2∧p.2≤1048576∧szLst szIncident1 p.2 (ll.drop p.1)=szLst szIncident1 (n - ll.length) ll) (fun p=>ll.length - p.1) (0,n - ll.length) ?_ ?_ ?_
  ·refine weak_of [0,1,5] ?_
   simp only [keep_mk,keepE_nil,keepE_cons,look_cons,look_nil,Nat.reduceEqDiff,reduceIte]
   rfl
  ·exact ⟨Nat.zero_le _,by omega,by omega,by simp⟩
  ·rintro ⟨i,m⟩ hok10 Q10 n10 e10 r10
   obtain ⟨hi1,hm0,hm1,hR⟩:=hok10
   simp only [] at hi1 hm0 hm1 hR⊢
   refine v_seq ?_;intro Q11 n11 e11 r11;refine v_seqR [0,1,5,15] ?_;intro K12 k12;refine zq14 ⟨?_⟩;refine k12 _ ?_;refine zk ⟨?_⟩;refine v_condS _ rfl ?_ ?_
   ·intro hc1
    have hlt:i < ll.length:=by omega
    obtain ⟨⟨x0,x1,x2,x3⟩,hx⟩:∃x:Int×Int×Bool×List ByteArray,ll[i]? =some x:=⟨ll[i]'(by omega),List.getElem?_eq_getElem (by omega)⟩
    have hlx:=hls _ (List.mem_of_getElem? hx)
    simp only [] at hlx
    have hstep:szLst szIncident1 m (ll.drop i)=if szIncident1 m (x0,x1,x2,x3) < 0 then -1 else szLst szIncident1 (szIncident1 m (x0,x1,x2,x3)) (ll.drop (i+1)):=by rw [getElem_drop_cons hx,szLst]
    have hzle:=szIncident1_le m (x0,x1,x2,x3) hm0
    refine v_skip ?_;refine n11 _ _ (weak_keep [0,1,5] _) ?_;refine zk ⟨?_⟩;refine v_seq ?_;intro Q14 n14 e14 r14;refine v_block ?_;intro Q15 n15 x15 e15 r15;refine v_seqR [0,1,5] ?_;intro K16 k16
    have F:=Fc.mk (fun f=>getD_map (f:=f) hx)
    refine zq2 ⟨?_⟩;refine zq4 ⟨?_⟩;refine zMove ⟨?_⟩;refine zc (szIncident_con x0 x1 x2 x3 m ⟨hm0,hm1⟩ hlx.1 hlx.2) ⟨?_⟩;refine zAssign ⟨?_⟩;refine k16 _ ?_;refine zk ⟨?_⟩;refine v_seqR [0,1,5,25] ?_;intro K17 k17;refine zq13 ⟨?_⟩;refine k17 _ ?_;refine zk ⟨?_⟩;refine v_condS _ rfl ?_ ?_
    ·intro hc2
     refine v_seqR [4] ?_;intro K19 k19;refine zAssign ⟨?_⟩;refine k19 _ ?_;refine zk ⟨?_⟩;refine v_ret ?_;refine r15 _ ?_;refine r14 _ ?_;refine r10 _ ?_;refine r9 _ ?_;refine r7 _ ?_;refine r0 _ ?_;refine zf ⟨?_⟩
     exact ret_pure rfl (by rw [if_neg (by omega),←hR,hstep,if_pos hc2]) (.inl rfl)
    ·intro hc2
     refine v_skip ?_;refine n15 _ ?_;refine n14 _ _ (weak_keep [0,1,5] _) ?_;refine zk ⟨?_⟩;refine v_region ?_;intro K20 k20;refine zq6 ⟨?_⟩;refine k20 _ ?_;refine n10 _ (i+1,szIncident1 m (x0,x1,x2,x3)) ?_ ?_ ?_
     ·refine weak_of [0,1,5] ?_
      simp only [keep_mk,keepE_nil,keepE_cons,look_cons,look_nil,Nat.reduceEqDiff,reduceIte]
      rfl
     ·exact ⟨by simp only [];omega,by simp only [];omega,by simp only [];omega,by simp only [];rw [←hR,hstep,if_neg (by omega)]⟩
     ·show _ < _;simp only [];omega
   ·intro hc1
    refine v_exit ?_;refine e11 _ _ ?_;refine e10 _ _ ?_;refine x9 _ ?_;refine n7 _ _ (weak_keep [1] _) ?_;refine zk ⟨?_⟩;refine v_seqR [4] ?_;intro K21 k21;refine zq8 ⟨?_⟩;refine k21 _ ?_;refine zk ⟨?_⟩;refine v_ret ?_;refine r0 _ ?_;refine zf ⟨?_⟩
    exact ret_pure rfl (by rw [if_neg (by omega),←hR,List.drop_of_length_le (by omega)];rfl) (.inl rfl)
set_option maxHeartbeats 1000000 in
theorem toIncident_con (x0:Int) (x1:Int) (x2:Bool) (x3:List ByteArray) (hlx:x3.length≤1048576):Con Tryz.prog 127 [.agg [V.int .i64 x0,V.int .i64 x1,V.bool x2,V.sl (x3.map V.str)]] [] (.agg [V.int .i64 x0,V.int .i64 x1,V.bool x2,.ref 0]) [.arr (x3.map V.str) .flat]:=by
 refine v_con [.cell 2 78] [] Tryz.func127 rfl rfl rfl (by simp [Tryz.ntmps127]) ?_
 intro Q0 n0 r0
 simp only [Tryz.ntmps127,envFrom,Nat.reduceAdd]
 have T:=Tys.mk (And.intro Ty.t3 (And.intro Ty.t4 (And.intro Ty.t9 (And.intro Ty.t47 (And.intro Ty.t78 Ty.t147)))))
 have F:=Fc.mk True.intro
 refine v_seqR [1,2] ?_;intro K1 k1;refine zq50 ⟨?_⟩;refine k1 _ ?_;refine zk ⟨?_⟩;refine v_seqR [1,2,3] ?_;intro K2 k2;refine zAlloc ⟨?_⟩;refine k2 _ ?_;refine zk ⟨?_⟩;refine v_seqR [1,2,3] ?_;intro K3 k3;refine zq30 ⟨?_⟩;refine k3 _ ?_;refine zk ⟨?_⟩;refine v_seqR [1,2,3] ?_;intro K4 k4;refine zq30 ⟨?_⟩;refine k4 _ ?_;refine zk ⟨?_⟩;refine v_seqR [1,2,3] ?_;intro K5 k5;refine zq30 ⟨?_⟩;refine k5 _ ?_;refine zk ⟨?_⟩;refine v_seqR [2,3] ?_;intro K6 k6;refine zq1 ⟨?_⟩;refine zc (toStringS_con x3 hlx) ⟨?_⟩;refine zq24 ⟨?_⟩;refine k6 _ ?_;refine zk ⟨?_⟩;refine v_seqR [2] ?_;intro K7 k7;refine zq49 ⟨?_⟩;refine k7 _ ?_;refine zk ⟨?_⟩;refine v_ret ?_;refine r0 _ ?_;refine zf ⟨?_⟩
 simp only [zE,zL,zO,zN,aStepM,optable,set_some,Nat.reduceEqDiff,reduceIte,Nat.reduceLT,implies_true,forall_const,reduceCtorEq,V.ofValue,V.ofScalar,V.un,V.gd,aLoad,row_mk,Blk.row,PartOK,Go.Vm.part,V.cells,V.noSl,V.noRef,Nat.reduceAdd,Nat.reduceLeDiff,Nat.reduceMul,Tryz.underlying3,Ty.c3,Ty.a3,Tryz.underlying4,Ty.c4,Ty.a4,Tryz.underlying47,Ty.c47,Ty.a47,Tryz.underlying78,Ty.c78,Ty.a78]
 exact ret_gen [5] rfl rfl (by decide) rfl (by simp) (by simp [Blk.kindIs]) rfl
set_option maxHeartbeats 1000000 in
theorem toIncidentS_con (l:List (Int×Int×Bool×List ByteArray)) (hl:l.length≤1048576) (hls:∀t∈l,t.2.2.2.length≤1048576):Con Tryz.prog 61 [.sl (l.map (fun t:Int×Int×Bool×List ByteArray=>V.agg [V.int .i64 t.1,V.int .i64 t.2.1,V.bool t.2.2.1,V.sl (t.2.2.2.map V.str)]))] [] (.ref 0) [.arr (l.map (fun t:Int×Int×Bool×List ByteArray=>V.agg [V.int .i64 t.1,V.int .i64 t.2.1,V.bool t.2.2.1,V.sl (t.2.2.2.map V.str)])) (fillK l.length)]:=by
 refine v_con [.tmp 2] [] Tryz.func61 rfl rfl rfl (by simp [Tryz.ntmps61]) ?_
 intro Q0 n0 r0
 simp only [Tryz.ntmps61,envFrom,Nat.reduceAdd]
 have T:=Tys.mk (And.intro Ty.t3 (And.intro Ty.t4 (And.intro Ty.t9 (And.intro Ty.t26 (And.intro Ty.t39 (And.intro Ty.t47 (And.intro Ty.t78 Ty.t147)))))))
 have F:=Fc.mk True.intro
 refine v_seqR [0] ?_;intro K1 k1;refine zAssign ⟨?_⟩;refine k1 _ ?_;refine zk ⟨?_⟩;refine v_seqR [0,3] ?_;intro K2 k2;refine zq43 ⟨?_⟩;refine k2 _ ?_;refine zk ⟨?_⟩;refine v_seq ?_;intro Q3 n3 e3 r3;refine v_seqR [0,3,4] ?_;intro K4 k4;refine zAssign ⟨?_⟩;refine k4 _ ?_;refine zk ⟨?_⟩;refine v_block ?_;intro Q5 n5 x5 e5 r5;refine v_loop (fun i=>⟨[(0,.sl (l.map (fun t:Int×Int×Bool×List ByteArray=>V.agg [V.int .i64 t.1,V.int .i64 t.2.1,V.bool t.2.2.1,V.sl (t.2.2.2.map V.str)]))),(3,.ref 0),(4,.int .i64 (Nat.cast i))],[.arr (fillTo (fun t:Int×Int×Bool×List ByteArray=>V.agg [V.int .i64 t.1,V.int .i64 t.2.1,V.bool t.2.2.1,V.sl (t.2.2.2.map V.str)]) (V.agg [V.int .i64 0,V.int .i64 0,V.bool false,V.sl []]) l i) (fillK i)],false,23,0⟩) (fun i=>i≤l.length) (fun i=>l.length - i) 0 ?_ ?_ ?_
 ·refine weak_bothS [0,3,4] [1] ⟨?_⟩
  rw [fill_zero];rfl
 ·exact Nat.zero_le _
 ·rintro i hok6 Q6 n6 e6 r6
  have hi1:i≤l.length:=hok6
  refine v_seq ?_;intro Q7 n7 e7 r7;refine v_seqR [0,3,4,11] ?_;intro K8 k8;refine zq14 ⟨?_⟩;refine k8 _ ?_;refine zk ⟨?_⟩;refine v_condS _ rfl ?_ ?_
  ·intro hc0
   have hlt:i < l.length:=by omega
   obtain ⟨⟨x0,x1,x2,x3⟩,hx⟩:∃x:Int×Int×Bool×List ByteArray,l[i]? =some x:=⟨l[i]'(by omega),List.getElem?_eq_getElem (by omega)⟩
   have hlx:=hls _ (List.mem_of_getElem? hx)
   simp only [] at hlx
   refine v_skip ?_;refine n7 _ _ (weak_keep [0,3,4] _) ?_;refine zk ⟨?_⟩;refine v_seq ?_;intro Q10 n10 e10 r10;refine v_block ?_;intro Q11 n11 x11 e11 r11;refine v_region ?_;intro K12 k12
   have F:=Fc.mk (And.intro (fun f=>getD_map (f:=f) hx) (And.intro (fun f z=>fill_len (f:=f) (z:=z) hi1) (And.intro (fun f z=>fill_get (f:=f) (z:=z) hlt) (fun f z=>fill_set (f:=f) (z:=z) hx))))
   refine zq45 ⟨?_⟩;refine v_op ?_;intro K k
   simp only [zE,zL,zN,aStepM,optable,set_some,Nat.reduceEqDiff,reduceIte,Nat.reduceLT,implies_true,forall_const,reduceCtorEq,V.ofValue,V.ofScalar,V.un,V.gd,aExec,aop,List.mem_cons,List.not_mem_nil,or_false,forall_eq_or_imp,forall_eq,aIndexAddr,row_mk,Blk.row,Go.Vm.V.cells,List.forall_mem_map,List.length_map,Int.toNat_natCast,Int.reduceToNat,TypeDesc.slice.injEq,Nat.reduceAdd,Nat.reduceLeDiff,Nat.reduceMul,Tryz.underlying26,Ty.c26,Ty.a26,Tryz.underlying147,Ty.c147,Ty.a147,contentL,Value.oneCell',List.all_cons,List.all_nil,Bool.and_self,getD_map hx,fill_len hi1,fill_get hlt,fill_set hx]
   repeat (refine And.intro (by first | omega | (exact fill_all (fun _=>rfl) rfl) | (intros;omega) | (intros;simp_all;done) | (intros;simp_all;omega)) ?_)
   refine k _ ?_;clear k K;refine zLoad ⟨?_⟩;refine zc (toIncident_con x0 x1 x2 x3 hlx) ⟨?_⟩;refine v_op ?_;intro K k
   simp only [zE,zL,zN,aStepM,optable,set_some,Nat.reduceEqDiff,reduceIte,Nat.reduceLT,implies_true,forall_const,reduceCtorEq,V.ofValue,V.ofScalar,V.un,V.gd,aExec,aop,List.mem_cons,List.not_mem_nil,or_false,forall_eq_or_imp,forall_eq,aIndexAddr,row_mk,Blk.row,Go.Vm.V.cells,List.forall_mem_map,List.length_map,Int.toNat_natCast,Int.reduceToNat,TypeDesc.slice.injEq,Nat.reduceAdd,Nat.reduceLeDiff,Nat.reduceMul,Tryz.underlying39,Ty.c39,Ty.a39,Tryz.underlying78,Ty.c78,Ty.a78,contentL,Value.oneCell',List.all_cons,List.all_nil,Bool.and_self,getD_map hx,fill_len hi1,fill_get hlt,fill_set hx]
   repeat (refine And.intro (by first | omega | (exact fill_all (fun _=>rfl) rfl) | (intros;omega) | (intros;simp_all;done) | (intros;simp_all;omega)) ?_)
   refine k _ ?_;clear k K;refine v_op ?_;intro K k
   simp only [zE,zS,zJ,zL,zO,zN,aStepM,optable,set_some,Nat.reduceEqDiff,reduceIte,Nat.reduceLT,implies_true,forall_const,reduceCtorEq,V.ofValue,V.ofScalar,V.un,V.gd,aExec,aop,aStore,setCells,V.isVal,V.cells,kindOf,kindAll,V.noSl,V.noRef,gt_iff_lt,Nat.reduceAdd,Nat.reduceLeDiff,Nat.reduceMul,takeV,takeCell,takeCells,row_mk,Blk.row,killAll,Nat.reduceBEq,join_t,Tryz.underlying3,Ty.c3,Ty.a3,Tryz.underlying4,Ty.c4,Ty.a4,Tryz.underlying47,Ty.c47,Ty.a47,Tryz.underlying78,Ty.c78,Ty.a78,contentL,Value.oneCell',getD_map hx,fill_len hi1,fill_get hlt,fill_set hx]
   repeat (refine And.intro (by first | omega | (exact fill_all (fun _=>rfl) rfl) | (intros;omega) | (intros;simp_all;done) | (intros;simp_all;omega)) ?_)
   refine k _ ?_;clear k K;refine k12 _ ?_;refine n11 _ ?_;refine n10 _ _ (weak_keep [0,3,4] _) ?_;refine zk ⟨?_⟩;refine v_region ?_;intro K13 k13;refine zq6 ⟨?_⟩;refine k13 _ ?_;refine n6 _ (i+1) ?_ ?_ ?_
   ·refine weak_bothS [0,3,4] [0] ⟨?_⟩
    rfl
   ·exact hlt
   ·show _ < _;omega
  ·intro hc0
   refine v_exit ?_;refine e7 _ _ ?_;refine e6 _ _ ?_;refine x5 _ ?_;refine n3 _ _ (weak_keep [3] _) ?_;refine zk ⟨?_⟩;refine v_seqR [2] ?_;intro K14 k14;refine zq8 ⟨?_⟩;refine k14 _ ?_;refine zk ⟨?_⟩;refine v_ret ?_;refine r0 _ ?_;refine zf ⟨?_⟩
   have hend:l.length=i:=by omega
   rw [←fill_end (f:=(fun t:Int×Int×Bool×List ByteArray=>V.agg [V.int .i64 t.1,V.int .i64 t.2.1,V.bool t.2.2.1,V.sl (t.2.2.2.map V.str)])) (z:=(V.agg [V.int .i64 0,V.int .i64 0,V.bool false,V.sl []])) (show l.length≤i by omega),hend]
   exact ret_ref rfl (fillK_or _)
set_option maxHeartbeats 1000000 in
theorem eqIncident_con (x0:Int) (x1:Int) (x2:Bool) (x3:List ByteArray) (y0:Int) (y1:Int) (y2:Bool) (y3:List ByteArray) (hlx:x3.length≤1048576):Con Tryz.prog 143 [.agg [V.int .i64 x0,V.int .i64 x1,V.bool x2,V.sl (x3.map V.str)],.agg [V.int .i64 y0,V.int .i64 y1,V.bool y2,V.sl (y3.map V.str)]] [] (.bool (decide ((x0,x1,x2,x3)=(y0,y1,y2,y3)))) []:=by
 refine v_con [.tmp 4] [] Tryz.func143 rfl rfl rfl (by simp [Tryz.ntmps143]) ?_
 intro Q0 n0 r0
 simp only [Tryz.ntmps143,envFrom,Nat.reduceAdd]
 have T:=Tys.mk (And.intro Ty.t3 (And.intro Ty.t4 (And.intro Ty.t9 (And.intro Ty.t47 Ty.t78))))
 have F:=Fc.mk True.intro
 refine v_seqR [2,3] ?_;intro K1 k1;refine zq32 ⟨?_⟩;refine k1 _ ?_;refine zk ⟨?_⟩;refine v_seq ?_;intro Q2 n2 e2 r2;refine v_seqR [2,3,9] ?_;intro K3 k3;refine zq27 ⟨?_⟩;refine k3 _ ?_;refine zk ⟨?_⟩;refine v_condS _ rfl ?_ ?_
 ·intro hc0
  refine v_seqR [4] ?_;intro K5 k5;refine zAssign ⟨?_⟩;refine k5 _ ?_;refine zk ⟨?_⟩;refine v_ret ?_;refine r2 _ ?_;refine r0 _ ?_;refine zf ⟨?_⟩
  exact ret_pure rfl (by rw [decide_eq_false (by intro h;simp only [Prod.mk.injEq] at h;exact hc0 h.1)]) (.inl rfl)
 ·intro hc0
  refine v_skip ?_;refine n2 _ _ (weak_keep [2,3] _) ?_;refine zk ⟨?_⟩;refine v_seq ?_;intro Q6 n6 e6 r6;refine v_seqR [2,3,14] ?_;intro K7 k7;refine zq27 ⟨?_⟩;refine k7 _ ?_;refine zk ⟨?_⟩;refine v_condS _ rfl ?_ ?_
  ·intro hc1
   refine v_seqR [4] ?_;intro K9 k9;refine zAssign ⟨?_⟩;refine k9 _ ?_;refine zk ⟨?_⟩;refine v_ret ?_;refine r6 _ ?_;refine r0 _ ?_;refine zf ⟨?_⟩
   exact ret_pure rfl (by rw [decide_eq_false (by intro h;simp only [Prod.mk.injEq] at h;exact hc1 h.2.1)]) (.inl rfl)
  ·intro hc1
   refine v_skip ?_;refine n6 _ _ (weak_keep [2,3] _) ?_;refine zk ⟨?_⟩;refine v_seq ?_;intro Q10 n10 e10 r10;refine v_seqR [2,3,19] ?_;intro K11 k11;refine zq27 ⟨?_⟩;refine k11 _ ?_;refine zk ⟨?_⟩;refine v_condS _ rfl ?_ ?_
   ·intro hc2
    refine v_seqR [4] ?_;intro K13 k13;refine zAssign ⟨?_⟩;refine k13 _ ?_;refine zk ⟨?_⟩;refine v_ret ?_;refine r10 _ ?_;refine r0 _ ?_;refine zf ⟨?_⟩
    exact ret_pure rfl (by rw [decide_eq_false (by intro h;simp only [Prod.mk.injEq] at h;have hb:=h.2.2.1;rw [hb] at hc2;simp at hc2)]) (.inl rfl)
   ·intro hc2
    refine v_skip ?_;refine n10 _ _ (weak_keep [2,3] _) ?_;refine zk ⟨?_⟩;refine v_seq ?_;intro Q14 n14 e14 r14;refine v_seqR [25] ?_;intro K15 k15;refine zq19 ⟨?_⟩;refine zc (eqStringS_con x3 y3 hlx) ⟨?_⟩;refine zUnOp ⟨?_⟩;refine k15 _ ?_;refine zk ⟨?_⟩;refine v_condS _ rfl ?_ ?_
    ·intro hc3
     refine v_seqR [4] ?_;intro K17 k17;refine zAssign ⟨?_⟩;refine k17 _ ?_;refine zk ⟨?_⟩;refine v_ret ?_;refine r14 _ ?_;refine r0 _ ?_;refine zf ⟨?_⟩
     exact ret_pure rfl (by rw [decide_eq_false (by intro h;simp only [Prod.mk.injEq] at h;(try simp at hc3);exact hc3 h.2.2.2)]) (.inl rfl)
    ·intro hc3
     refine v_skip ?_;refine n14 _ _ (weak_keep [] _) ?_;refine zk ⟨?_⟩;refine v_seqR [4] ?_;intro K18 k18;refine zAssign ⟨?_⟩;refine k18 _ ?_;refine zk ⟨?_⟩;refine v_ret ?_;refine r0 _ ?_;refine zf ⟨?_⟩
     exact ret_pure rfl (by rw [decide_eq_true (by (try simp at hc3);rw [hc0,hc1,(eq_of_beq hc2:x2=y2),hc3])]) (.inl rfl)
set_option maxHeartbeats 1000000 in
theorem eqIncidentS_con (a b:List (Int×Int×Bool×List ByteArray)) (ha:a.length≤1048576) (has:∀t∈a,t.2.2.2.length≤1048576):Con Tryz.prog 72 [.sl (a.map (fun t:Int×Int×Bool×List ByteArray=>V.agg [V.int .i64 t.1,V.int .i64 t.2.1,V.bool t.2.2.1,V.sl (t.2.2.2.map V.str)])),.sl (b.map (fun t:Int×Int×Bool×List ByteArray=>V.agg [V.int .i64 t.1,V.int .i64 t.2.1,V.bool t.2.2.1,V.sl (t.2.2.2.map V.str)]))] [] (.bool (decide (a=b))) []:=by
 refine v_con [.tmp 4] [] Tryz.func72 rfl rfl rfl (by simp [Tryz.ntmps72]) ?_
 intro Q0 n0 r0
 simp only [Tryz.ntmps72,envFrom,Nat.reduceAdd]
 have T:=Tys.mk (And.intro Ty.t3 (And.intro Ty.t4 (And.intro Ty.t9 (And.intro Ty.t39 (And.intro Ty.t47 Ty.t78)))))
 have F:=Fc.mk True.intro
 refine v_seqR [0,1] ?_;intro K1 k1;refine zAssign ⟨?_⟩;refine k1 _ ?_;refine zk ⟨?_⟩;refine v_seq ?_;intro Q2 n2 e2 r2;refine v_seqR [0,1,10] ?_;intro K3 k3;refine zq46 ⟨?_⟩;refine k3 _ ?_;refine zk ⟨?_⟩;refine v_condS _ rfl ?_ ?_
 ·intro hc0
  refine v_seqR [4] ?_;intro K5 k5;refine zAssign ⟨?_⟩;refine k5 _ ?_;refine zk ⟨?_⟩;refine v_ret ?_;refine r2 _ ?_;refine r0 _ ?_;refine zf ⟨?_⟩
  exact ret_pure rfl (by rw [decide_eq_false (fun h=>by subst h;simp at hc0)]) (.inl rfl)
 ·intro hc0
  have hab:a.length=b.length:=by omega
  refine v_skip ?_;refine n2 _ _ (weak_keep [0,1] _) ?_;refine zk ⟨?_⟩;refine v_seq ?_;intro Q6 n6 e6 r6;refine v_seqR [0,1,5] ?_;intro K7 k7;refine zAssign ⟨?_⟩;refine k7 _ ?_;refine zk ⟨?_⟩;refine v_block ?_;intro Q8 n8 x8 e8 r8;refine v_loop (fun i=>⟨[(0,.sl (a.map (fun t:Int×Int×Bool×List ByteArray=>V.agg [V.int .i64 t.1,V.int .i64 t.2.1,V.bool t.2.2.1,V.sl (t.2.2.2.map V.str)]))),(1,.sl (b.map (fun t:Int×Int×Bool×List ByteArray=>V.agg [V.int .i64 t.1,V.int .i64 t.2.1,V.bool t.2.2.1,V.sl (t.2.2.2.map V.str)]))),(5,.int .i64 (Nat.cast i))],[],false,27,0⟩) (fun i=>i≤a.length∧((a=b)↔(a.drop i=b.drop i))) (fun i=>a.length - i) 0 ?_ ?_ ?_
  ·refine weak_of [0,1,5] ?_
   simp only [keep_mk,keepE_nil,keepE_cons,look_cons,look_nil,Nat.reduceEqDiff,reduceIte]
   rfl
  ·exact ⟨Nat.zero_le _,by simp⟩
  ·rintro i hok9 Q9 n9 e9 r9
   obtain ⟨hi1,hR⟩:=hok9
   refine v_seq ?_;intro Q10 n10 e10 r10;refine v_seqR [0,1,5,14] ?_;intro K11 k11;refine zq14 ⟨?_⟩;refine k11 _ ?_;refine zk ⟨?_⟩;refine v_condS _ rfl ?_ ?_
   ·intro hc1
    have hlt:i < a.length:=by omega
    obtain ⟨⟨x0,x1,x2,x3⟩,hx⟩:∃x:Int×Int×Bool×List ByteArray,a[i]? =some x:=⟨a[i]'(by omega),List.getElem?_eq_getElem (by omega)⟩
    obtain ⟨⟨y0,y1,y2,y3⟩,hy⟩:∃x:Int×Int×Bool×List ByteArray,b[i]? =some x:=⟨b[i]'(by omega),List.getElem?_eq_getElem (by omega)⟩
    have hstep:=eq_drop hab hx hy
    have hlx:=has _ (List.mem_of_getElem? hx)
    simp only [] at hlx
    refine v_skip ?_;refine n10 _ _ (weak_keep [0,1,5] _) ?_;refine zk ⟨?_⟩;refine v_seq ?_;intro Q13 n13 e13 r13;refine v_block ?_;intro Q14 n14 x14 e14 r14;refine v_seq ?_;intro Q15 n15 e15 r15;refine v_draw (by kernel_rfl) ?_;intro K16 q16 k16
    show aAny _ _ _ _ 10 (Array.replicate 10 false) _
    have F:=Fc.mk (And.intro (fun f=>getD_map (f:=f) hx) (fun f=>getD_map (f:=f) hy))
    refine zdMove q16 true 0 17 ?_;refine zdMove q16 true 1 18 ?_;refine zdIndexAddr q16 true 2 19 ?_;refine zdLoad q16 true 3 20 ?_;refine zdMove q16 true 4 21 ?_;refine zdMove q16 true 5 22 ?_;refine zdIndexAddr q16 true 6 23 ?_;refine zdLoad q16 true 7 24 ?_;refine zoc 8 (eqIncident_con x0 x1 x2 x3 y0 y1 y2 y3 hlx) ⟨?_⟩;refine zdUnOp q16 true 9 26 ?_;refine aAny_done (by kernel_rfl) ?_;refine k16 _ ?_;refine n15 _ _ (weak_keep [0,1,5,26] _) ?_;refine zk ⟨?_⟩;refine v_condS _ rfl ?_ ?_
    ·intro hc2
     refine v_seqR [4] ?_;intro K18 k18;refine zAssign ⟨?_⟩;refine k18 _ ?_;refine zk ⟨?_⟩;refine v_ret ?_;refine r14 _ ?_;refine r13 _ ?_;refine r9 _ ?_;refine r8 _ ?_;refine r6 _ ?_;refine r0 _ ?_;refine zf ⟨?_⟩
     exact ret_pure rfl (by rw [decide_eq_false (fun h=>hc2 (hstep.1 (hR.1 h)).1)]) (.inl rfl)
    ·intro hc2
     refine v_skip ?_;refine n14 _ ?_;refine n13 _ _ (weak_keep [0,1,5] _) ?_;refine zk ⟨?_⟩;refine v_region ?_;intro K19 k19;refine zq6 ⟨?_⟩;refine k19 _ ?_;refine n9 _ (i+1) ?_ ?_ ?_
     ·refine weak_of [0,1,5] ?_
      simp only [keep_mk,keepE_nil,keepE_cons,look_cons,look_nil,Nat.reduceEqDiff,reduceIte]
      rfl
     ·exact ⟨by omega,hR.trans (hstep.trans ⟨fun h=>h.2,fun h=>⟨hc2,h⟩⟩)⟩
     ·show _ < _;omega
   ·intro hc1
    refine v_exit ?_;refine e10 _ _ ?_;refine e9 _ _ ?_;refine x8 _ ?_;refine n6 _ _ (weak_keep [] _) ?_;refine zk ⟨?_⟩;refine v_seqR [4] ?_;intro K20 k20;refine zAssign ⟨?_⟩;refine k20 _ ?_;refine zk ⟨?_⟩;refine v_ret ?_;refine r0 _ ?_;refine zf ⟨?_⟩
    exact ret_pure rfl (by rw [decide_eq_true (hR.2 (by rw [List.drop_of_length_le (by omega),List.drop_of_length_le (by omega)]))]) (.inl rfl)
def szWant1 (n:Int) (t:Int×List Int):Int:=szS n t.2
theorem szWant1_le (n:Int) (t:Int×List Int) (hn:0≤n):szWant1 n t≤n:=szS_le hn
theorem szWant_lens {n:Int} {l:List (Int×List Int)} (hn:0≤n) (h:0≤szLst szWant1 n l):∀t∈l,(t.2.length:Int)≤n:=
  szLst_le (f:=szWant1) (g:=fun t=>(t.2.length:Int)) (fun n x h0 h1=>⟨szS_len h1,szWant1_le n x h0⟩) hn h
set_option maxHeartbeats 1000000 in
theorem szWant_con (x0:Int) (x1:List Int) (n:Int) (hn:0≤n∧n≤1048576) (hlx:x1.length≤9223372036854775807):Con Tryz.prog 120 [.agg [V.int .i64 x0,V.sl (x1.map (V.int .i64))],.int .i64 n] [] (.int .i64 (szWant1 n (x0,x1))) []:=by
 refine v_con [.tmp 4] [] Tryz.func120 rfl rfl rfl (by simp [Tryz.ntmps120]) ?_
 intro Q0 n0 r0
 simp only [Tryz.ntmps120,envFrom,Nat.reduceAdd]
 have T:=Tys.mk (And.intro Ty.t3 (And.intro Ty.t49 Ty.t149))
 have F:=Fc.mk True.intro
 refine v_seqR [1,2] ?_;intro K1 k1;refine zq9 ⟨?_⟩;refine k1 _ ?_;refine zk ⟨?_⟩;refine v_seqR [1] ?_;intro K2 k2;refine zq26 ⟨?_⟩;refine zc ((szIntS_con n x1 hn hlx:Con _ _ _ _ (.int .i64 (szS n x1)) _)) ⟨?_⟩;refine zAssign ⟨?_⟩;refine k2 _ ?_;refine zk ⟨?_⟩;refine v_seq ?_;intro Q3 n3 e3 r3;refine v_seqR [1,10] ?_;intro K4 k4;refine zq13 ⟨?_⟩;refine k4 _ ?_;refine zk ⟨?_⟩;refine v_condS _ rfl ?_ ?_
 ·intro hc0
  refine v_seqR [4] ?_;intro K6 k6;refine zAssign ⟨?_⟩;refine k6 _ ?_;refine zk ⟨?_⟩;refine v_ret ?_;refine r3 _ ?_;refine r0 _ ?_;refine zf ⟨?_⟩
  exact ret_pure rfl (by rw [show szWant1 n (x0,x1)=-1 from szS_neg hc0]) (.inl rfl)
 ·intro hc0
  refine v_skip ?_;refine n3 _ _ (weak_keep [1] _) ?_;refine zk ⟨?_⟩;refine v_seqR [4] ?_;intro K7 k7;refine zq8 ⟨?_⟩;refine k7 _ ?_;refine zk ⟨?_⟩;refine v_ret ?_;refine r0 _ ?_;refine zf ⟨?_⟩
  exact ret_pure rfl rfl (.inl rfl)
set_option maxHeartbeats 1000000 in
theorem szWantS_con (n:Int) (ll:List (Int×List Int)) (hn:0≤n∧n≤1048576) (hl:ll.length≤9223372036854775807) (hls:∀t∈ll,t.2.length≤9223372036854775807):Con Tryz.prog 54 [.sl (ll.map (fun t:Int×List Int=>V.agg [V.int .i64 t.1,V.sl (t.2.map (V.int .i64))])),.int .i64 n] [] (.int .i64 (if n - ll.length < 0 then -1 else szLst szWant1 (n - ll.length) ll)) []:=by
 refine v_con [.tmp 4] [] Tryz.func54 rfl rfl rfl (by simp [Tryz.ntmps54]) ?_
 intro Q0 n0 r0
 simp only [Tryz.ntmps54,envFrom,Nat.reduceAdd]
 have T:=Tys.mk (And.intro Ty.t3 (And.intro Ty.t27 (And.intro Ty.t49 Ty.t149)))
 have F:=Fc.mk True.intro
 refine v_seqR [0,1] ?_;intro K1 k1;refine zAssign ⟨?_⟩;refine k1 _ ?_;refine zk ⟨?_⟩;refine v_seqR [0,1] ?_;intro K2 k2;refine zq44 ⟨?_⟩;refine k2 _ ?_;refine zk ⟨?_⟩;refine v_seq ?_;intro Q3 n3 e3 r3;refine v_seqR [0,1,11] ?_;intro K4 k4;refine zq13 ⟨?_⟩;refine k4 _ ?_;refine zk ⟨?_⟩;refine v_condS _ rfl ?_ ?_
 ·intro hc0
  refine v_seqR [4] ?_;intro K6 k6;refine zAssign ⟨?_⟩;refine k6 _ ?_;refine zk ⟨?_⟩;refine v_ret ?_;refine r3 _ ?_;refine r0 _ ?_;refine zf ⟨?_⟩
  exact ret_pure rfl (by rw [if_pos (by omega)]) (.inl rfl)
 ·intro hc0
  refine v_skip ?_;refine n3 _ _ (weak_keep [0,1] _) ?_;refine zk ⟨?_⟩;refine v_seq ?_;intro Q7 n7 e7 r7;refine v_seqR [0,1,5] ?_;intro K8 k8;refine zAssign ⟨?_⟩;refine k8 _ ?_;refine zk ⟨?_⟩;refine v_block ?_;intro Q9 n9 x9 e9 r9;refine v_loop (fun p=>⟨[(0,.sl (ll.map (fun t:Int×List Int=>V.agg [V.int .i64 t.1,V.sl (t.2.map (V.int .i64))]))),(1,.int .i64 p.2),(5,.int .i64 (Nat.cast p.1))],[],false,27,0⟩) (fun p=>p.1≤ll.length∧0≤p.2∧p.2≤1048576∧szLst szWant1 p.2 (ll.drop p.1)=szLst szWant1 (n - ll.length) ll) (fun p=>ll.length - p.1) (0,n - ll.length) ?_ ?_ ?_
  ·refine weak_of [0,1,5] ?_
   simp only [keep_mk,keepE_nil,keepE_cons,look_cons,look_nil,Nat.reduceEqDiff,reduceIte]
   rfl
  ·exact ⟨Nat.zero_le _,by omega,by omega,by simp⟩
  ·rintro ⟨i,m⟩ hok10 Q10 n10 e10 r10
   obtain ⟨hi1,hm0,hm1,hR⟩:=hok10
   simp only [] at hi1 hm0 hm1 hR⊢
   refine v_seq ?_;intro Q11 n11 e11 r11;refine v_seqR [0,1,5,15] ?_;intro K12 k12;refine zq14 ⟨?_⟩;refine k12 _ ?_;refine zk ⟨?_⟩;refine v_condS _ rfl ?_ ?_
   ·intro hc1
    have hlt:i < ll.length:=by omega
    obtain ⟨⟨x0,x1⟩,hx⟩:∃x:Int×List Int,ll[i]? =some x:=⟨ll[i]'(by omega),List.getElem?_eq_getElem (by omega)⟩
    have hlx:=hls _ (List.mem_of_getElem? hx)
    simp only [] at hlx
    have hstep:szLst szWant1 m (ll.drop i)=if szWant1 m (x0,x1) < 0 then -1 else szLst szWant1 (szWant1 m (x0,x1)) (ll.drop (i+1)):=by rw [getElem_drop_cons hx,szLst]
    have hzle:=szWant1_le m (x0,x1) hm0
    refine v_skip ?_;refine n11 _ _ (weak_keep [0,1,5] _) ?_;refine zk ⟨?_⟩;refine v_seq ?_;intro Q14 n14 e14 r14;refine v_block ?_;intro Q15 n15 x15 e15 r15;refine v_seqR [0,1,5] ?_;intro K16 k16
    have F:=Fc.mk (fun f=>getD_map (f:=f) hx)
    refine zq2 ⟨?_⟩;refine zq4 ⟨?_⟩;refine zMove ⟨?_⟩;refine zc (szWant_con x0 x1 m ⟨hm0,hm1⟩ hlx) ⟨?_⟩;refine zAssign ⟨?_⟩;refine k16 _ ?_;refine zk ⟨?_⟩;refine v_seqR [0,1,5,25] ?_;intro K17 k17;refine zq13 ⟨?_⟩;refine k17 _ ?_;refine zk ⟨?_⟩;refine v_condS _ rfl ?_ ?_
    ·intro hc2
     refine v_seqR [4] ?_;intro K19 k19;refine zAssign ⟨?_⟩;refine k19 _ ?_;refine zk ⟨?_⟩;refine v_ret ?_;refine r15 _ ?_;refine r14 _ ?_;refine r10 _ ?_;refine r9 _ ?_;refine r7 _ ?_;refine r0 _ ?_;refine zf ⟨?_⟩
     exact ret_pure rfl (by rw [if_neg (by omega),←hR,hstep,if_pos hc2]) (.inl rfl)
    ·intro hc2
     refine v_skip ?_;refine n15 _ ?_;refine n14 _ _ (weak_keep [0,1,5] _) ?_;refine zk ⟨?_⟩;refine v_region ?_;intro K20 k20;refine zq6 ⟨?_⟩;refine k20 _ ?_;refine n10 _ (i+1,szWant1 m (x0,x1)) ?_ ?_ ?_
     ·refine weak_of [0,1,5] ?_
      simp only [keep_mk,keepE_nil,keepE_cons,look_cons,look_nil,Nat.reduceEqDiff,reduceIte]
      rfl
     ·exact ⟨by simp only [];omega,by simp only [];omega,by simp only [];omega,by simp only [];rw [←hR,hstep,if_neg (by omega)]⟩
     ·show _ < _;simp only [];omega
   ·intro hc1
    refine v_exit ?_;refine e11 _ _ ?_;refine e10 _ _ ?_;refine x9 _ ?_;refine n7 _ _ (weak_keep [1] _) ?_;refine zk ⟨?_⟩;refine v_seqR [4] ?_;intro K21 k21;refine zq8 ⟨?_⟩;refine k21 _ ?_;refine zk ⟨?_⟩;refine v_ret ?_;refine r0 _ ?_;refine zf ⟨?_⟩
    exact ret_pure rfl (by rw [if_neg (by omega),←hR,List.drop_of_length_le (by omega)];rfl) (.inl rfl)
set_option maxHeartbeats 1000000 in
theorem toWant_con (x0:Int) (x1:List Int) (hlx:x1.length≤1048576):Con Tryz.prog 128 [.agg [V.int .i64 x0,V.sl (x1.map (V.int .i64))]] [] (.agg [V.int .i64 x0,.ref 0]) [.arr (x1.map (V.int .i64)) .flat]:=by
 refine v_con [.cell 2 95] [] Tryz.func128 rfl rfl rfl (by simp [Tryz.ntmps128]) ?_
 intro Q0 n0 r0
 simp only [Tryz.ntmps128,envFrom,Nat.reduceAdd]
 have T:=Tys.mk (And.intro Ty.t3 (And.intro Ty.t49 (And.intro Ty.t95 Ty.t149)))
 have F:=Fc.mk True.intro
 refine v_seqR [1,2] ?_;intro K1 k1;refine zq50 ⟨?_⟩;refine k1 _ ?_;refine zk ⟨?_⟩;refine v_seqR [1,2,3] ?_;intro K2 k2;refine zAlloc ⟨?_⟩;refine k2 _ ?_;refine zk ⟨?_⟩;refine v_seqR [1,2,3] ?_;intro K3 k3;refine zq30 ⟨?_⟩;refine k3 _ ?_;refine zk ⟨?_⟩;refine v_seqR [2,3] ?_;intro K4 k4;refine zq1 ⟨?_⟩;refine zc (toIntS_con x1 hlx) ⟨?_⟩;refine zq24 ⟨?_⟩;refine k4 _ ?_;refine zk ⟨?_⟩;refine v_seqR [2] ?_;intro K5 k5;refine zq49 ⟨?_⟩;refine k5 _ ?_;refine zk ⟨?_⟩;refine v_ret ?_;refine r0 _ ?_;refine zf ⟨?_⟩
 simp only [zE,zL,zO,zN,aStepM,optable,set_some,Nat.reduceEqDiff,reduceIte,Nat.reduceLT,implies_true,forall_const,reduceCtorEq,V.ofValue,V.ofScalar,V.un,V.gd,aLoad,row_mk,Blk.row,PartOK,Go.Vm.part,V.cells,V.noSl,V.noRef,Nat.reduceAdd,Nat.reduceLeDiff,Nat.reduceMul,Tryz.underlying3,Ty.c3,Ty.a3,Tryz.underlying49,Ty.c49,Ty.a49,Tryz.underlying95,Ty.c95,Ty.a95]
 exact ret_gen [5] rfl rfl (by decide) rfl (by simp) (by simp [Blk.kindIs]) rfl
set_option maxHeartbeats 1000000 in
theorem toWantS_con (l:List (Int×List Int)) (hl:l.length≤1048576) (hls:∀t∈l,t.2.length≤1048576):Con Tryz.prog 62 [.sl (l.map (fun t:Int×List Int=>V.agg [V.int .i64 t.1,V.sl (t.2.map (V.int .i64))]))] [] (.ref 0) [.arr (l.map (fun t:Int×List Int=>V.agg [V.int .i64 t.1,V.sl (t.2.map (V.int .i64))])) (fillK l.length)]:=by
 refine v_con [.tmp 2] [] Tryz.func62 rfl rfl rfl (by simp [Tryz.ntmps62]) ?_
 intro Q0 n0 r0
 simp only [Tryz.ntmps62,envFrom,Nat.reduceAdd]
 have T:=Tys.mk (And.intro Ty.t3 (And.intro Ty.t27 (And.intro Ty.t40 (And.intro Ty.t49 (And.intro Ty.t95 Ty.t149)))))
 have F:=Fc.mk True.intro
 refine v_seqR [0] ?_;intro K1 k1;refine zAssign ⟨?_⟩;refine k1 _ ?_;refine zk ⟨?_⟩;refine v_seqR [0,3] ?_;intro K2 k2;refine zq43 ⟨?_⟩;refine k2 _ ?_;refine zk ⟨?_⟩;refine v_seq ?_;intro Q3 n3 e3 r3;refine v_seqR [0,3,4] ?_;intro K4 k4;refine zAssign ⟨?_⟩;refine k4 _ ?_;refine zk ⟨?_⟩;refine v_block ?_;intro Q5 n5 x5 e5 r5;refine v_loop (fun i=>⟨[(0,.sl (l.map (fun t:Int×List Int=>V.agg [V.int .i64 t.1,V.sl (t.2.map (V.int .i64))]))),(3,.ref 0),(4,.int .i64 (Nat.cast i))],[.arr (fillTo (fun t:Int×List Int=>V.agg [V.int .i64 t.1,V.sl (t.2.map (V.int .i64))]) (V.agg [V.int .i64 0,V.sl []]) l i) (fillK i)],false,23,0⟩) (fun i=>i≤l.length) (fun i=>l.length - i) 0 ?_ ?_ ?_
 ·refine weak_bothS [0,3,4] [1] ⟨?_⟩
  rw [fill_zero];rfl
 ·exact Nat.zero_le _
 ·rintro i hok6 Q6 n6 e6 r6
  have hi1:i≤l.length:=hok6
  refine v_seq ?_;intro Q7 n7 e7 r7;refine v_seqR [0,3,4,11] ?_;intro K8 k8;refine zq14 ⟨?_⟩;refine k8 _ ?_;refine zk ⟨?_⟩;refine v_condS _ rfl ?_ ?_
  ·intro hc0
   have hlt:i < l.length:=by omega
   obtain ⟨⟨x0,x1⟩,hx⟩:∃x:Int×List Int,l[i]? =some x:=⟨l[i]'(by omega),List.getElem?_eq_getElem (by omega)⟩
   have hlx:=hls _ (List.mem_of_getElem? hx)
   simp only [] at hlx
   refine v_skip ?_;refine n7 _ _ (weak_keep [0,3,4] _) ?_;refine zk ⟨?_⟩;refine v_seq ?_;intro Q10 n10 e10 r10;refine v_block ?_;intro Q11 n11 x11 e11 r11;refine v_region ?_;intro K12 k12
   have F:=Fc.mk (And.intro (fun f=>getD_map (f:=f) hx) (And.intro (fun f z=>fill_len (f:=f) (z:=z) hi1) (And.intro (fun f z=>fill_get (f:=f) (z:=z) hlt) (fun f z=>fill_set (f:=f) (z:=z) hx))))
   refine zq45 ⟨?_⟩;refine v_op ?_;intro K k
   simp only [zE,zL,zN,aStepM,optable,set_some,Nat.reduceEqDiff,reduceIte,Nat.reduceLT,implies_true,forall_const,reduceCtorEq,V.ofValue,V.ofScalar,V.un,V.gd,aExec,aop,List.mem_cons,List.not_mem_nil,or_false,forall_eq_or_imp,forall_eq,aIndexAddr,row_mk,Blk.row,Go.Vm.V.cells,List.forall_mem_map,List.length_map,Int.toNat_natCast,Int.reduceToNat,TypeDesc.slice.injEq,Nat.reduceAdd,Nat.reduceLeDiff,Nat.reduceMul,Tryz.underlying27,Ty.c27,Ty.a27,Tryz.underlying149,Ty.c149,Ty.a149,contentL,Value.oneCell',List.all_cons,List.all_nil,Bool.and_self,getD_map hx,fill_len hi1,fill_get hlt,fill_set hx]
   repeat (refine And.intro (by first | omega | (exact fill_all (fun _=>rfl) rfl) | (intros;omega) | (intros;simp_all;done) | (intros;simp_all;omega)) ?_)
   refine k _ ?_;clear k K;refine zLoad ⟨?_⟩;refine zc (toWant_con x0 x1 hlx) ⟨?_⟩;refine v_op ?_;intro K k
   simp only [zE,zL,zN,aStepM,optable,set_some,Nat.reduceEqDiff,reduceIte,Nat.reduceLT,implies_true,forall_const,reduceCtorEq,V.ofValue,V.ofScalar,V.un,V.gd,aExec,aop,List.mem_cons,List.not_mem_nil,or_false,forall_eq_or_imp,forall_eq,aIndexAddr,row_mk,Blk.row,Go.Vm.V.cells,List.forall_mem_map,List.length_map,Int.toNat_natCast,Int.reduceToNat,TypeDesc.slice.injEq,Nat.reduceAdd,Nat.reduceLeDiff,Nat.reduceMul,Tryz.underlying40,Ty.c40,Ty.a40,Tryz.underlying95,Ty.c95,Ty.a95,contentL,Value.oneCell',List.all_cons,List.all_nil,Bool.and_self,getD_map hx,fill_len hi1,fill_get hlt,fill_set hx]
   repeat (refine And.intro (by first | omega | (exact fill_all (fun _=>rfl) rfl) | (intros;omega) | (intros;simp_all;done) | (intros;simp_all;omega)) ?_)
   refine k _ ?_;clear k K;refine v_op ?_;intro K k
   simp only [zE,zS,zJ,zL,zO,zN,aStepM,optable,set_some,Nat.reduceEqDiff,reduceIte,Nat.reduceLT,implies_true,forall_const,reduceCtorEq,V.ofValue,V.ofScalar,V.un,V.gd,aExec,aop,aStore,setCells,V.isVal,V.cells,kindOf,kindAll,V.noSl,V.noRef,gt_iff_lt,Nat.reduceAdd,Nat.reduceLeDiff,Nat.reduceMul,takeV,takeCell,takeCells,row_mk,Blk.row,killAll,Nat.reduceBEq,join_t,Tryz.underlying3,Ty.c3,Ty.a3,Tryz.underlying49,Ty.c49,Ty.a49,Tryz.underlying95,Ty.c95,Ty.a95,contentL,Value.oneCell',getD_map hx,fill_len hi1,fill_get hlt,fill_set hx]
   repeat (refine And.intro (by first | omega | (exact fill_all (fun _=>rfl) rfl) | (intros;omega) | (intros;simp_all;done) | (intros;simp_all;omega)) ?_)
   refine k _ ?_;clear k K;refine k12 _ ?_;refine n11 _ ?_;refine n10 _ _ (weak_keep [0,3,4] _) ?_;refine zk ⟨?_⟩;refine v_region ?_;intro K13 k13;refine zq6 ⟨?_⟩;refine k13 _ ?_;refine n6 _ (i+1) ?_ ?_ ?_
   ·refine weak_bothS [0,3,4] [0] ⟨?_⟩
    rfl
   ·exact hlt
   ·show _ < _;omega
  ·intro hc0
   refine v_exit ?_;refine e7 _ _ ?_;refine e6 _ _ ?_;refine x5 _ ?_;refine n3 _ _ (weak_keep [3] _) ?_;refine zk ⟨?_⟩;refine v_seqR [2] ?_;intro K14 k14;refine zq8 ⟨?_⟩;refine k14 _ ?_;refine zk ⟨?_⟩;refine v_ret ?_;refine r0 _ ?_;refine zf ⟨?_⟩
   have hend:l.length=i:=by omega
   rw [←fill_end (f:=(fun t:Int×List Int=>V.agg [V.int .i64 t.1,V.sl (t.2.map (V.int .i64))])) (z:=(V.agg [V.int .i64 0,V.sl []])) (show l.length≤i by omega),hend]
   exact ret_ref rfl (fillK_or _)
set_option maxHeartbeats 1000000 in
theorem eqWant_con (x0:Int) (x1:List Int) (y0:Int) (y1:List Int) (hlx:x1.length≤1048576):Con Tryz.prog 144 [.agg [V.int .i64 x0,V.sl (x1.map (V.int .i64))],.agg [V.int .i64 y0,V.sl (y1.map (V.int .i64))]] [] (.bool (decide ((x0,x1)=(y0,y1)))) []:=by
 refine v_con [.tmp 4] [] Tryz.func144 rfl rfl rfl (by simp [Tryz.ntmps144]) ?_
 intro Q0 n0 r0
 simp only [Tryz.ntmps144,envFrom,Nat.reduceAdd]
 have T:=Tys.mk (And.intro Ty.t3 (And.intro Ty.t4 (And.intro Ty.t49 Ty.t95)))
 have F:=Fc.mk True.intro
 refine v_seqR [2,3] ?_;intro K1 k1;refine zq32 ⟨?_⟩;refine k1 _ ?_;refine zk ⟨?_⟩;refine v_seq ?_;intro Q2 n2 e2 r2;refine v_seqR [2,3,9] ?_;intro K3 k3;refine zq27 ⟨?_⟩;refine k3 _ ?_;refine zk ⟨?_⟩;refine v_condS _ rfl ?_ ?_
 ·intro hc0
  refine v_seqR [4] ?_;intro K5 k5;refine zAssign ⟨?_⟩;refine k5 _ ?_;refine zk ⟨?_⟩;refine v_ret ?_;refine r2 _ ?_;refine r0 _ ?_;refine zf ⟨?_⟩
  exact ret_pure rfl (by rw [decide_eq_false (by intro h;simp only [Prod.mk.injEq] at h;exact hc0 h.1)]) (.inl rfl)
 ·intro hc0
  refine v_skip ?_;refine n2 _ _ (weak_keep [2,3] _) ?_;refine zk ⟨?_⟩;refine v_seq ?_;intro Q6 n6 e6 r6;refine v_seqR [15] ?_;intro K7 k7;refine zq19 ⟨?_⟩;refine zc (eqIntS_con x1 y1 hlx) ⟨?_⟩;refine zUnOp ⟨?_⟩;refine k7 _ ?_;refine zk ⟨?_⟩;refine v_condS _ rfl ?_ ?_
  ·intro hc1
   refine v_seqR [4] ?_;intro K9 k9;refine zAssign ⟨?_⟩;refine k9 _ ?_;refine zk ⟨?_⟩;refine v_ret ?_;refine r6 _ ?_;refine r0 _ ?_;refine zf ⟨?_⟩
   exact ret_pure rfl (by rw [decide_eq_false (by intro h;simp only [Prod.mk.injEq] at h;(try simp at hc1);exact hc1 h.2)]) (.inl rfl)
  ·intro hc1
   refine v_skip ?_;refine n6 _ _ (weak_keep [] _) ?_;refine zk ⟨?_⟩;refine v_seqR [4] ?_;intro K10 k10;refine zAssign ⟨?_⟩;refine k10 _ ?_;refine zk ⟨?_⟩;refine v_ret ?_;refine r0 _ ?_;refine zf ⟨?_⟩
   exact ret_pure rfl (by rw [decide_eq_true (by (try simp at hc1);rw [hc0,hc1])]) (.inl rfl)
set_option maxHeartbeats 1000000 in
theorem eqWantS_con (a b:List (Int×List Int)) (ha:a.length≤1048576) (has:∀t∈a,t.2.length≤1048576):Con Tryz.prog 73 [.sl (a.map (fun t:Int×List Int=>V.agg [V.int .i64 t.1,V.sl (t.2.map (V.int .i64))])),.sl (b.map (fun t:Int×List Int=>V.agg [V.int .i64 t.1,V.sl (t.2.map (V.int .i64))]))] [] (.bool (decide (a=b))) []:=by
 refine v_con [.tmp 4] [] Tryz.func73 rfl rfl rfl (by simp [Tryz.ntmps73]) ?_
 intro Q0 n0 r0
 simp only [Tryz.ntmps73,envFrom,Nat.reduceAdd]
 have T:=Tys.mk (And.intro Ty.t3 (And.intro Ty.t4 (And.intro Ty.t40 (And.intro Ty.t49 Ty.t95))))
 have F:=Fc.mk True.intro
 refine v_seqR [0,1] ?_;intro K1 k1;refine zAssign ⟨?_⟩;refine k1 _ ?_;refine zk ⟨?_⟩;refine v_seq ?_;intro Q2 n2 e2 r2;refine v_seqR [0,1,10] ?_;intro K3 k3;refine zq46 ⟨?_⟩;refine k3 _ ?_;refine zk ⟨?_⟩;refine v_condS _ rfl ?_ ?_
 ·intro hc0
  refine v_seqR [4] ?_;intro K5 k5;refine zAssign ⟨?_⟩;refine k5 _ ?_;refine zk ⟨?_⟩;refine v_ret ?_;refine r2 _ ?_;refine r0 _ ?_;refine zf ⟨?_⟩
  exact ret_pure rfl (by rw [decide_eq_false (fun h=>by subst h;simp at hc0)]) (.inl rfl)
 ·intro hc0
  have hab:a.length=b.length:=by omega
  refine v_skip ?_;refine n2 _ _ (weak_keep [0,1] _) ?_;refine zk ⟨?_⟩;refine v_seq ?_;intro Q6 n6 e6 r6;refine v_seqR [0,1,5] ?_;intro K7 k7;refine zAssign ⟨?_⟩;refine k7 _ ?_;refine zk ⟨?_⟩;refine v_block ?_;intro Q8 n8 x8 e8 r8;refine v_loop (fun i=>⟨[(0,.sl (a.map (fun t:Int×List Int=>V.agg [V.int .i64 t.1,V.sl (t.2.map (V.int .i64))]))),(1,.sl (b.map (fun t:Int×List Int=>V.agg [V.int .i64 t.1,V.sl (t.2.map (V.int .i64))]))),(5,.int .i64 (Nat.cast i))],[],false,27,0⟩) (fun i=>i≤a.length∧((a=b)↔(a.drop i=b.drop i))) (fun i=>a.length - i) 0 ?_ ?_ ?_
  ·refine weak_of [0,1,5] ?_
   simp only [keep_mk,keepE_nil,keepE_cons,look_cons,look_nil,Nat.reduceEqDiff,reduceIte]
   rfl
  ·exact ⟨Nat.zero_le _,by simp⟩
  ·rintro i hok9 Q9 n9 e9 r9
   obtain ⟨hi1,hR⟩:=hok9
   refine v_seq ?_;intro Q10 n10 e10 r10;refine v_seqR [0,1,5,14] ?_;intro K11 k11;refine zq14 ⟨?_⟩;refine k11 _ ?_;refine zk ⟨?_⟩;refine v_condS _ rfl ?_ ?_
   ·intro hc1
    have hlt:i < a.length:=by omega
    obtain ⟨⟨x0,x1⟩,hx⟩:∃x:Int×List Int,a[i]? =some x:=⟨a[i]'(by omega),List.getElem?_eq_getElem (by omega)⟩
    obtain ⟨⟨y0,y1⟩,hy⟩:∃x:Int×List Int,b[i]? =some x:=⟨b[i]'(by omega),List.getElem?_eq_getElem (by omega)⟩
    have hstep:=eq_drop hab hx hy
    have hlx:=has _ (List.mem_of_getElem? hx)
    simp only [] at hlx
    refine v_skip ?_;refine n10 _ _ (weak_keep [0,1,5] _) ?_;refine zk ⟨?_⟩;refine v_seq ?_;intro Q13 n13 e13 r13;refine v_block ?_;intro Q14 n14 x14 e14 r14;refine v_seq ?_;intro Q15 n15 e15 r15;refine v_draw (by kernel_rfl) ?_;intro K16 q16 k16
    show aAny _ _ _ _ 10 (Array.replicate 10 false) _
    have F:=Fc.mk (And.intro (fun f=>getD_map (f:=f) hx) (fun f=>getD_map (f:=f) hy))
    refine zdMove q16 true 0 17 ?_;refine zdMove q16 true 1 18 ?_;refine zdIndexAddr q16 true 2 19 ?_;refine zdLoad q16 true 3 20 ?_;refine zdMove q16 true 4 21 ?_;refine zdMove q16 true 5 22 ?_;refine zdIndexAddr q16 true 6 23 ?_;refine zdLoad q16 true 7 24 ?_;refine zoc 8 (eqWant_con x0 x1 y0 y1 hlx) ⟨?_⟩;refine zdUnOp q16 true 9 26 ?_;refine aAny_done (by kernel_rfl) ?_;refine k16 _ ?_;refine n15 _ _ (weak_keep [0,1,5,26] _) ?_;refine zk ⟨?_⟩;refine v_condS _ rfl ?_ ?_
    ·intro hc2
     refine v_seqR [4] ?_;intro K18 k18;refine zAssign ⟨?_⟩;refine k18 _ ?_;refine zk ⟨?_⟩;refine v_ret ?_;refine r14 _ ?_;refine r13 _ ?_;refine r9 _ ?_;refine r8 _ ?_;refine r6 _ ?_;refine r0 _ ?_;refine zf ⟨?_⟩
     exact ret_pure rfl (by rw [decide_eq_false (fun h=>hc2 (hstep.1 (hR.1 h)).1)]) (.inl rfl)
    ·intro hc2
     refine v_skip ?_;refine n14 _ ?_;refine n13 _ _ (weak_keep [0,1,5] _) ?_;refine zk ⟨?_⟩;refine v_region ?_;intro K19 k19;refine zq6 ⟨?_⟩;refine k19 _ ?_;refine n9 _ (i+1) ?_ ?_ ?_
     ·refine weak_of [0,1,5] ?_
      simp only [keep_mk,keepE_nil,keepE_cons,look_cons,look_nil,Nat.reduceEqDiff,reduceIte]
      rfl
     ·exact ⟨by omega,hR.trans (hstep.trans ⟨fun h=>h.2,fun h=>⟨hc2,h⟩⟩)⟩
     ·show _ < _;omega
   ·intro hc1
    refine v_exit ?_;refine e10 _ _ ?_;refine e9 _ _ ?_;refine x8 _ ?_;refine n6 _ _ (weak_keep [] _) ?_;refine zk ⟨?_⟩;refine v_seqR [4] ?_;intro K20 k20;refine zAssign ⟨?_⟩;refine k20 _ ?_;refine zk ⟨?_⟩;refine v_ret ?_;refine r0 _ ?_;refine zf ⟨?_⟩
    exact ret_pure rfl (by rw [decide_eq_true (hR.2 (by rw [List.drop_of_length_le (by omega),List.drop_of_length_le (by omega)]))]) (.inl rfl)
set_option maxHeartbeats 1000000 in
theorem indexFuncIncident_con (l:List (Int×Int×Bool×List ByteArray)) (g:Nat) (caps:List V) (p:Int×Int×Bool×List ByteArray→Bool) (hl:l.length≤1048576) (hc:Caps caps) (hg:∀x0 x1 x2 x3,(x0,x1,x2,x3)∈l→Con Tryz.prog g (V.agg [V.int .i64 x0,V.int .i64 x1,V.bool x2,V.sl (x3.map V.str)]::caps) [] (.bool (p (x0,x1,x2,x3))) []):Con Tryz.prog 173 [.sl (l.map (fun t:Int×Int×Bool×List ByteArray=>V.agg [V.int .i64 t.1,V.int .i64 t.2.1,V.bool t.2.2.1,V.sl (t.2.2.2.map V.str)])),.fn g caps] [] (.int .i64 (firstP p 0 l)) []:=by
 refine v_con [.tmp 4] [] Tryz.func173 rfl rfl rfl (by simp [Tryz.ntmps173]) ?_
 intro Q0 n0 r0
 simp only [Tryz.ntmps173,envFrom,Nat.reduceAdd]
 have T:=Tys.mk (And.intro Ty.t3 (And.intro Ty.t4 (And.intro Ty.t9 (And.intro Ty.t39 (And.intro Ty.t47 Ty.t78)))))
 have F:=Fc.mk True.intro
 refine v_seqR [0,1] ?_;intro K1 k1;refine zAssign ⟨?_⟩;refine k1 _ ?_;refine zk ⟨?_⟩;refine v_seq ?_;intro Q2 n2 e2 r2;refine v_seqR [0,1,7,8] ?_;intro K3 k3;refine zq15 ⟨?_⟩;refine k3 _ ?_;refine zk ⟨?_⟩;refine v_block ?_;intro Q4 n4 x4 e4 r4;refine v_loop (fun i=>⟨[(0,.sl (l.map (fun t:Int×Int×Bool×List ByteArray=>V.agg [V.int .i64 t.1,V.int .i64 t.2.1,V.bool t.2.2.1,V.sl (t.2.2.2.map V.str)]))),(1,.fn g caps),(7,.int .i64 l.length),(8,.int .i64 (Nat.cast i))],[],false,19,0⟩) (fun i=>i≤l.length∧firstP p i (l.drop i)=firstP p 0 l) (fun i=>l.length - i) 0 ?_ ?_ ?_
 ·refine weak_of [0,1,7,8] ?_
  simp only [keep_mk,keepE_nil,keepE_cons,look_cons,look_nil,Nat.reduceEqDiff,reduceIte]
  rfl
 ·exact ⟨Nat.zero_le _,rfl⟩
 ·rintro i hok5 Q5 n5 e5 r5
  obtain ⟨hi1,hR⟩:=hok5
  refine v_seqR [0,1,7,8,9] ?_;intro K6 k6;refine zBinOp ⟨?_⟩;refine k6 _ ?_;refine zk ⟨?_⟩;refine v_seq ?_;intro Q7 n7 e7 r7;refine v_condS _ rfl ?_ ?_
  ·intro hc0
   have hlt:i < l.length:=by omega
   obtain ⟨⟨x0,x1,x2,x3⟩,hx⟩:∃x:Int×Int×Bool×List ByteArray,l[i]? =some x:=⟨l[i]'(by omega),List.getElem?_eq_getElem (by omega)⟩
   have hst:=first_step (p:=p) hx
   refine v_skip ?_;refine n7 _ _ (weak_keep [0,1,7,8] _) ?_;refine zk ⟨?_⟩;refine v_seq ?_;intro Q9 n9 e9 r9;refine v_block ?_;intro Q10 n10 x10 e10 r10;refine v_seqR [0,1,5,7,8] ?_;intro K11 k11
   have F:=Fc.mk (fun f=>getD_map (f:=f) hx)
   refine zq8 ⟨?_⟩;refine k11 _ ?_;refine zk ⟨?_⟩;refine v_seqR [0,1,5,7,8,16] ?_;intro K12 k12;refine zq20 ⟨?_⟩;refine zq4 ⟨?_⟩;refine zcc (hg x0 x1 x2 x3 (List.mem_of_getElem? hx)) ⟨?_⟩;refine k12 _ ?_;refine zk ⟨?_⟩;refine v_condS _ rfl ?_ ?_
   ·intro hc1
    refine v_seqR [4] ?_;intro K14 k14;refine zq8 ⟨?_⟩;refine k14 _ ?_;refine zk ⟨?_⟩;refine v_ret ?_;refine r10 _ ?_;refine r9 _ ?_;refine r5 _ ?_;refine r4 _ ?_;refine r2 _ ?_;refine r0 _ ?_;refine zf ⟨?_⟩
    exact ret_pure rfl (by rw [←hR,hst,if_pos hc1]) (.inl rfl)
   ·intro hc1
    refine v_skip ?_;refine n10 _ ?_;refine n9 _ _ (weak_keep [0,1,7,8] _) ?_;refine zk ⟨?_⟩;refine v_region ?_;intro K15 k15;refine zq5 ⟨?_⟩;refine k15 _ ?_;refine n5 _ (i+1) ?_ ?_ ?_
    ·refine weak_bothC [0,1,7,8] [] ⟨?_⟩
     rfl
    ·exact ⟨by omega,by rw [←hR,hst,if_neg (by simp [hc1])]⟩
    ·show _ < _;omega
  ·intro hc0
   refine v_exit ?_;refine e7 _ _ ?_;refine e5 _ _ ?_;refine x4 _ ?_;refine n2 _ _ (weak_keep [] _) ?_;refine zk ⟨?_⟩;refine v_seqR [4] ?_;intro K16 k16;refine zAssign ⟨?_⟩;refine k16 _ ?_;refine zk ⟨?_⟩;refine v_ret ?_;refine r0 _ ?_;refine zf ⟨?_⟩
   exact ret_pure rfl (by rw [←hR,first_end (by omega)]) (.inl rfl)
end Go.Proofs.YtaefoaghpehbpaaGreatDoor
