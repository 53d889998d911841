/- What functions compute. No condition. -/
import Derived.Test.YtmhaafinhpopmaaGreatDoorX24
set_option linter.unusedSimpArgs false
set_option linter.unusedVariables false
set_option linter.defProp false
namespace Go.Proofs.YtmhaafinhpopmaaGreatDoor
open Go Go.Vm
set_option maxHeartbeats 8000000
theorem indexFuncStr_con (l:List ByteArray) (g:Nat) (caps:List V) (p:ByteArray→Bool) (hl:l.length≤1048576) (hc:Caps caps) (hg:∀x0,x0∈l→Con Tryz.prog g (V.str x0::caps) [] (.bool (p x0)) []):Con Tryz.prog 230 [.sl (l.map V.str),.fn g caps] [] (.int .i64 (firstP p 0 l)) []:=by
 refine v_con [.tmp 4] [] Tryz.func230 rfl rfl rfl (by simp [Tryz.ntmps230]) ?_;intro Q0 n0 r0;simp only [Tryz.ntmps230,envFrom,Nat.reduceAdd];have T:=Tys.mk (ai Ty.t3 (ai Ty.t4 (ai Ty.t9 Ty.t59)));have F:=Fc.mk True.intro;refine yR [0,1] ⟨?_⟩;refine v_seq ?_;intros;refine yR [0,1,7,8] ⟨?_⟩;refine v_block ?_;intros;refine v_loop (fun i=>⟨[(0,.sl (l.map V.str)),(1,.fn g caps),(7,.int .i64 l.length),(8,.int .i64 (Nat.cast i))],[],false,19,0⟩) (fun i=>i≤l.length∧firstP p i (l.drop i)=firstP p 0 l) (fun i=>l.length - i) 0 ?_ ?_ ?_
 ·refine weak_of [0,1,7,8] ?_;simp only [keep_mk,keepE_nil,keepE_cons,look_cons,look_nil,Nat.reduceEqDiff,reduceIte];rfl
 ·exact ⟨qld _,rfl⟩
 ·rintro i hok5 Q5 n5 e5 r5;obtain ⟨hi1,hR⟩:=hok5;refine yR [0,1,7,8,9] ⟨?_⟩;refine v_seq ?_;intros;refine v_condS _ rfl ?_ ?_
  ·intro hc0;have hlt:i < l.length:=by omega
   obtain ⟨x0,hx⟩:∃x:ByteArray,l[i]? =some x:=⟨l[i]'(by omega),qla (by omega)⟩;have hst:=first_step (p:=p) hx;refine zn [0,1,7,8] ⟨?_⟩;refine v_seq ?_;intros;refine v_block ?_;intros;have F:=Fc.mk (gdm hx);refine yR [0,1,5,7,8] ⟨?_⟩;refine v_seqR [0,1,5,7,8,16] ?_;intro K12 k12;refine zq4 ⟨?_⟩;refine zMove ⟨?_⟩;refine zIndexAddr ⟨?_⟩;refine zLoad ⟨?_⟩;refine zcc (hg x0 (qlb hx)) ⟨?_⟩;refine k12 _ ?_;refine zk ⟨?_⟩;refine v_condS _ rfl ?_ ?_
   ·intro hc1;refine yR [4] ⟨?_⟩;refine zr ⟨?_⟩;exact ret_pure rfl (by rw [←hR,hst,if_pos hc1]) (.inl rfl)
   ·intro hc1;refine zn [0,1,7,8] ⟨?_⟩;refine yV ⟨?_⟩;refine n5 _ (i+1) ?_ ?_ ?_
    ·refine weak_bothC [0,1,7,8] [] ⟨?_⟩;rfl
    ·exact ⟨by omega,by rw [←hR,hst,if_neg (by simp [hc1])]⟩
    ·show _ < _;omega
  ·intro hc0;refine zn [] ⟨?_⟩;refine yR [4] ⟨?_⟩;refine zr ⟨?_⟩;exact ret_pure rfl (by rw [←hR,first_end (by omega)]) (.inl rfl)
theorem deleteFuncStr_con (l:List ByteArray) (g:Nat) (caps:List V) (p:ByteArray→Bool) (hl:l.length≤1048576) (hc:Caps caps) (hg:∀x0,x0∈l→Con Tryz.prog g (V.str x0::caps) [] (.bool (p x0)) []):Con Tryz.prog 199 [.ref 0,.fn g caps] [.arr (l.map V.str) .thin] (.ref 1) [.dead,.arr ((l.filter (fun x=> !p x)).map V.str) .thin]:=by
 refine v_con [.tmp 4] [] Tryz.func199 rfl rfl rfl (by simp [Tryz.ntmps199]) ?_;intro Q0 n0 r0;simp only [Tryz.ntmps199,envFrom,Nat.reduceAdd];have T:=Tys.mk (ai Ty.t3 (ai Ty.t4 (ai Ty.t9 (ai Ty.t59 Ty.t207))));have F:=Fc.mk True.intro;refine yR [0,1] ⟨?_⟩;refine v_seqR [0,1,5] ?_;intro K2 k2;refine zq4 ⟨?_⟩;refine zcc (indexFuncStr_con l g caps p hl hc hg) ⟨?_⟩;refine zAssign ⟨?_⟩;refine k2 _ ?_;refine zk ⟨?_⟩;refine v_seq ?_;intros;refine yR [0,1,5,12] ⟨?_⟩;refine v_condS _ rfl ?_ ?_
 ·intro hc0;have hfil:=first_none hc0;refine v_seq ?_;intro Q6 n6 e6 r6;refine yV ⟨?_⟩;apply n6
  ·apply weak_trans (weak_keep [4] _);simp only [keep_mk,keepE_nil,keepE_cons,look_cons,look_nil,Nat.reduceEqDiff,reduceIte];exact weak_retireW 0 4 (l.map V.str) .thin (by simp) rfl (.inr rfl) rfl
  try simp only [atSlot_cons,atSlot_nil,Nat.reduceEqDiff,reduceIte,List.set_cons_zero,List.set_cons_succ]
  refine zr ⟨?_⟩;rw [hfil];exact ret_all rfl (by simp [newIds,refsOf,refs2,refs1]) (by simp) rfl (by simp [newIds,refsOf,refs2,refs1]) (by simp [Blk.kindIs]) rfl
 ·intro hc0;obtain ⟨k0,hk1,hk2,hk3,_⟩:=first_some hc0;rw [Nat.zero_add] at hk2;refine zn [0,1,5] ⟨?_⟩;refine v_seq ?_;intros;have F:=Fc.mk hk2;refine yR [0,1,5,6] ⟨?_⟩;refine v_block ?_;intros;refine v_loop (fun q=>⟨[(0,.ref 0),(1,.fn g caps),(5,.int .i64 (Nat.cast q.1)),(6,.int .i64 (Nat.cast q.2.1))],[.arr (q.2.2.map V.str) .thin],false,42,0⟩) (fun q=>q.1≤q.2.1∧q.2.1≤l.length∧q.2.2.length=l.length∧q.2.2.take q.1=(l.take q.2.1).filter (fun x=> !p x)∧q.2.2.drop q.2.1=l.drop q.2.1) (fun q=>l.length - q.2.1) ((k0,k0+1,l):Nat×Nat×List ByteArray) ?_ ?_ ?_
  ·refine weak_bothC [0,1,5,6] [0] ⟨?_⟩;rfl
  ·exact ⟨Nat.le_succ _,hk1,rfl,hk3.symm,rfl⟩
  ·rintro ⟨i,j,ys⟩ hok11 Q11 n11 e11 r11;obtain ⟨hi1,hi2,hyl,hR,hD⟩:=hok11;simp only [] at hi1 hi2 hyl hR hD⊢;refine v_seq ?_;intros;refine yR [0,1,5,6,19] ⟨?_⟩;refine v_condS _ rfl ?_ ?_
   ·intro hc1;have hlt:j < l.length:=by rw [←hyl];simpa using hc1
    obtain ⟨x0,hx⟩:∃x:ByteArray,l[j]? =some x:=⟨l[j]'(by omega),qla (by omega)⟩;have hy:=del_get hx hD;obtain ⟨y0,hyi⟩:∃x:ByteArray,ys[i]? =some x:=⟨ys[i]'(by omega),qla (by omega)⟩;have hsm:(ys.map V.str).set i (.str x0)=(ys.set i x0).map V.str:=by rw [List.map_set]
    refine zn [0,1,5,6] ⟨?_⟩;refine v_seq ?_;intros;refine v_block ?_;intros;have F:=Fc.mk (ai hk2 (ai (gdm hy) (gdm hyi)));refine yR [0,1,5,6,7] ⟨?_⟩;refine v_seqR [0,1,5,6,7,29] ?_;intro K18 k18;refine zq4 ⟨?_⟩;refine zcc (hg x0 (qlb hx)) ⟨?_⟩;refine zUnOp ⟨?_⟩;refine k18 _ ?_;refine zk ⟨?_⟩;refine v_condS _ rfl ?_ ?_
    ·intro hc2;refine yR [0,1,5,6] ⟨?_⟩;refine yQ [0,1,5,6] ⟨?_⟩;refine yV ⟨?_⟩;refine n11 _ (i+1,j+1,ys.set i x0) ?_ ?_ ?_
     ·refine weak_bothC [0,1,5,6] [0] ⟨?_⟩;rw [hsm];rfl
     ·exact ⟨Nat.succ_le_succ hi1,hlt,by rw [qlh];exact hyl,(del_keep hi1 hyl hx hc2 hR hD).1,(del_keep hi1 hyl hx hc2 hR hD).2⟩
     ·show _ < _;show l.length - (j+1) < l.length - j;omega
    ·intro hc2;refine zn [0,1,5,6] ⟨?_⟩;refine yV ⟨?_⟩;refine n11 _ (i,j+1,ys) ?_ ?_ ?_
     ·refine weak_bothC [0,1,5,6] [0] ⟨?_⟩;rfl
     ·exact ⟨Nat.le_succ_of_le hi1,hlt,hyl,(del_drop hx hc2 hR hD).1,(del_drop hx hc2 hR hD).2⟩
     ·show _ < _;show l.length - (j+1) < l.length - j;omega
   ·intro hc1;have hjl:l.length≤j:=by rw [←hyl];simpa using hc1
    have hend:=del_end (by omega) hjl hR;have hil:=hend.1;refine zn [0,5] ⟨?_⟩;refine v_seqR [0,5] ?_;intro K24 k24;refine zq4 ⟨?_⟩;refine v_op ?_;intro K k;simp only [zE,zL,zN,aStepM,optable,set_some,Nat.reduceEqDiff,reduceIte,Nat.reduceLT,implies_true,forall_const,reduceCtorEq,V.ofValue,V.ofScalar,V.un,V.gd,aExec,aop,List.set_cons_zero,List.set_cons_succ,aSlice,forall_eq',bound,ElemsOK,Option.map_none,Option.isNone_none,row_mk,Blk.row,TypeDesc.slice.injEq,List.forall_mem_map,List.length_map,Go.Vm.V.cells,Int.toNat_natCast,Int.reduceToNat,←List.map_take,←List.map_drop,List.take_length,Nat.reduceAdd,Nat.reduceLeDiff,Nat.reduceMul,Tryz.underlying9,Ty.c9,Ty.a9,Tryz.underlying59,Ty.c59,Ty.a59,hk2];repeat (refine ai (by first | omega | (intro x hx;simp only [List.mem_append,List.mem_map,List.mem_replicate] at hx;rcases hx with (⟨_,_,rfl⟩ | ⟨_,rfl⟩) | ⟨_,_,rfl⟩<;>rfl) | (simp;omega)) ?_)
    refine k _ ?_;clear k K;refine zClear ⟨?_⟩;refine k24 _ ?_;refine zk ⟨?_⟩;refine v_seq ?_;intro Q25 n25 e25 r25;refine v_region ?_;intro K26 k26;refine zq4 ⟨?_⟩;refine v_op ?_;intro K k;simp only [zE,zL,zN,aStepM,optable,set_some,Nat.reduceEqDiff,reduceIte,Nat.reduceLT,implies_true,forall_const,reduceCtorEq,V.ofValue,V.ofScalar,V.un,V.gd,aExec,aop,List.set_cons_zero,List.set_cons_succ,aSlice,forall_eq',bound,ElemsOK,Option.map_none,Option.isNone_none,row_mk,Blk.row,TypeDesc.slice.injEq,List.forall_mem_map,List.length_map,Go.Vm.V.cells,Int.toNat_natCast,Int.reduceToNat,←List.map_take,←List.map_drop,List.take_length,Nat.reduceAdd,Nat.reduceLeDiff,Nat.reduceMul,Tryz.underlying9,Ty.c9,Ty.a9,Tryz.underlying59,Ty.c59,Ty.a59,hk2];repeat (refine ai (by first | omega | (intro x hx;simp only [List.mem_append,List.mem_map,List.mem_replicate] at hx;rcases hx with (⟨_,_,rfl⟩ | ⟨_,rfl⟩) | ⟨_,_,rfl⟩<;>rfl) | (simp;omega)) ?_)
    refine k _ ?_;clear k K;refine zAssign ⟨?_⟩;refine k26 _ ?_;apply n25
    ·apply weak_trans (weak_keep [4] _);simp only [keep_mk,keepE_nil,keepE_cons,look_cons,look_nil,Nat.reduceEqDiff,reduceIte];exact weak_retire 0 _ 4 _ .thin (by simp) rfl (.inr rfl) rfl
    try simp only [atSlot_cons,atSlot_nil,Nat.reduceEqDiff,reduceIte,List.set_cons_zero,List.set_cons_succ]
    refine zr ⟨?_⟩;exact ret_all rfl (by simp [newIds,refsOf,refs2,refs1]) (by simp) rfl (by simp [newIds,refsOf,refs2,refs1,hend.2,←hend.1]) (by simp [Blk.kindIs]) rfl
theorem following_con (x:Int):Con Tryz.prog 198 [.int .i64 x] [] (.ref 0) [.arr ((nextI x).map (V.int .i64)) .flat]:=by
 refine v_con [.tmp 2] [] Tryz.func198 rfl rfl rfl (by simp [Tryz.ntmps198]) ?_;intro Q0 n0 r0;simp only [Tryz.ntmps198,envFrom,Nat.reduceAdd];have T:=Tys.mk (ai Ty.t3 Ty.t35);have F:=Fc.mk True.intro;refine yR [0] ⟨?_⟩;refine v_seq ?_;intros;refine yR [3] ⟨?_⟩;refine v_block ?_;intros;refine yR [3,4] ⟨?_⟩;refine v_condS _ rfl ?_ ?_
 ·intro hc0;refine yR [2] ⟨?_⟩;refine zr ⟨?_⟩;rw [show nextI x=[1,5] from by simp [nextI,hc0]];exact ret_ref rfl (.inl rfl)
 ·intro hc0;refine yR [3,7] ⟨?_⟩;refine v_condS _ rfl ?_ ?_
  ·intro hc1;refine yR [2] ⟨?_⟩;refine zr ⟨?_⟩;rw [show nextI x=[2,0] from by simp [nextI,hc0,hc1]];exact ret_ref rfl (.inl rfl)
  ·intro hc1;refine yR [3,10] ⟨?_⟩;refine v_condS _ rfl ?_ ?_
   ·intro hc2;refine yR [2] ⟨?_⟩;refine zr ⟨?_⟩;rw [show nextI x=[3,4] from by simp [nextI,hc0,hc1,hc2]];exact ret_ref rfl (.inl rfl)
   ·intro hc2;refine yR [3,13] ⟨?_⟩;refine v_condS _ rfl ?_ ?_
    ·intro hc3;refine yR [2] ⟨?_⟩;refine zr ⟨?_⟩;rw [show nextI x=[4] from by simp [nextI,hc0,hc1,hc2,hc3]];exact ret_ref rfl (.inl rfl)
    ·intro hc3;refine yR [16] ⟨?_⟩;refine v_condS _ rfl ?_ ?_
     ·intro hc4;refine yR [2] ⟨?_⟩;refine zr ⟨?_⟩;rw [show nextI x=[0,1,5] from by simp [nextI,hc0,hc1,hc2,hc3,hc4]];exact ret_ref rfl (.inl rfl)
     ·intro hc4;refine zn [] ⟨?_⟩;refine yR [2] ⟨?_⟩;refine zr ⟨?_⟩;rw [show nextI x=[0] from by simp [nextI,hc0,hc1,hc2,hc3,hc4]];exact ret_ref rfl (.inl rfl)
theorem apNext_con (x:Int):Con Tryz.prog 235 [.int .i64 x] [] (.ref 0) [.arr ((nextX x).map (V.int .i64)) .flat]:=by
 refine v_con [.tmp 2] [] Tryz.func235 rfl rfl rfl (by simp [Tryz.ntmps235]) ?_;intro Q0 n0 r0;simp only [Tryz.ntmps235,envFrom,Nat.reduceAdd];have T:=Tys.mk (ai Ty.t3 Ty.t35);have F:=Fc.mk True.intro;refine yR [0] ⟨?_⟩;refine v_seq ?_;intros;refine yR [3] ⟨?_⟩;refine v_block ?_;intros;refine yR [3,4] ⟨?_⟩;refine v_condS _ rfl ?_ ?_
 ·intro hc0;refine yR [2] ⟨?_⟩;refine zr ⟨?_⟩;rw [show nextX x=[1,5] from by simp [nextX,hc0]];exact ret_ref rfl (.inl rfl)
 ·intro hc0;refine yR [3,7] ⟨?_⟩;refine v_condS _ rfl ?_ ?_
  ·intro hc1;refine yR [2] ⟨?_⟩;refine zr ⟨?_⟩;rw [show nextX x=[0,2] from by simp [nextX,hc0,hc1]];exact ret_ref rfl (.inl rfl)
  ·intro hc1;refine yR [3,10] ⟨?_⟩;refine v_condS _ rfl ?_ ?_
   ·intro hc2;refine yR [2] ⟨?_⟩;refine zr ⟨?_⟩;rw [show nextX x=[3,4] from by simp [nextX,hc0,hc1,hc2]];exact ret_ref rfl (.inl rfl)
   ·intro hc2;refine yR [3,13] ⟨?_⟩;refine v_condS _ rfl ?_ ?_
    ·intro hc3;refine yR [2] ⟨?_⟩;refine zr ⟨?_⟩;rw [show nextX x=[4] from by simp [nextX,hc0,hc1,hc2,hc3]];exact ret_ref rfl (.inl rfl)
    ·intro hc3;refine yR [16] ⟨?_⟩;refine v_condS _ rfl ?_ ?_
     ·intro hc4;refine yR [2] ⟨?_⟩;refine zr ⟨?_⟩;rw [show nextX x=[0,1,5] from by simp [nextX,hc0,hc1,hc2,hc3,hc4]];exact ret_ref rfl (.inl rfl)
     ·intro hc4;refine zn [] ⟨?_⟩;refine yR [2] ⟨?_⟩;refine zr ⟨?_⟩;rw [show nextX x=[0] from by simp [nextX,hc0,hc1,hc2,hc3,hc4]];exact ret_ref rfl (.inl rfl)
theorem apMay_con (a b:Int):Con Tryz.prog 214 [.int .i64 a,.int .i64 b] [] (.bool (decide (b∈nextI a))) []:=by
 refine v_con [.tmp 4] [] Tryz.func214 rfl rfl rfl (by simp [Tryz.ntmps214]) ?_;intro Q0 n0 r0;simp only [Tryz.ntmps214,envFrom,Nat.reduceAdd];have T:=Tys.mk (ai Ty.t3 (ai Ty.t4 Ty.t35));have F:=Fc.mk True.intro;refine yR [0,1] ⟨?_⟩;refine yRcc [4] (apNext_con a) (l1Has_con (nextX a) b (by have:=next_len a;omega)) ⟨?_⟩;refine zr ⟨?_⟩;exact ret_pure rfl (by rw [decide_eq_decide.2 (next_mem a b)]) (.inl rfl)
set_option maxRecDepth 8000 in
theorem implChange_con (fl:List TA) (s:ByteArray) (t:Int) (hl:fl.length≤1048576) (hls:∀t∈fl,t.1.size≤9223372036854775807) (hF:fleetB fl=true):Con Tryz.prog 153 [.sl (fl.map (fun t:TA=>V.agg [V.str t.1,V.int .i64 t.2.1,V.int .i64 t.2.2.1,V.int .i64 t.2.2.2.1,V.int .i64 t.2.2.2.2])),.str s,.int .i64 t] [] (.tup [.ref 0,.bool (chgB fl s t)]) [.arr ((orNil (chgB fl s t) (chgF fl s t)).map (fun t:TA=>V.agg [V.str t.1,V.int .i64 t.2.1,V.int .i64 t.2.2.1,V.int .i64 t.2.2.2.1,V.int .i64 t.2.2.2.2])) .flat]:=by
 refine v_con [.tmp 6,.tmp 7] [] Tryz.func153 rfl rfl rfl (by simp [Tryz.ntmps153]) ?_;intro Q0 n0 r0;simp only [Tryz.ntmps153,envFrom,Nat.reduceAdd];have T:=Tys.mk (ai Ty.t3 (ai Ty.t4 (ai Ty.t9 (ai Ty.t35 (ai Ty.t63 Ty.t156)))));have F:=Fc.mk True.intro;rcases chg_cases fl s t with ⟨ha1,hA⟩ | ⟨k,⟨a0,a1,a2,a3,a4⟩,ha1,ha2,hq,hA⟩ | ⟨k,⟨a0,a1,a2,a3,a4⟩,ha1,ha2,hq,hA⟩
 ·skip;have hnk:decide ((-1:Int) < 0)=true:=rfl;have F:=Fc.mk (ai hF (ai ha1 hnk));refine yR [0,1,2] ⟨?_⟩;refine yRc [0,2,8] (findAppliance_con fl s hl) ⟨?_⟩;refine v_seq ?_;intros;refine v_seqR [0,2,8,35] ?_;intro K4 k4;refine zMove ⟨?_⟩;refine zc (isFleet_con fl hl hls) ⟨?_⟩;refine zq15 ⟨?_⟩;refine zgc (isState_con t) ⟨?_⟩;refine zq16 ⟨?_⟩;refine zPs ⟨?_⟩;refine zgMove ⟨?_⟩;refine zPs ⟨?_⟩;refine zq17 ⟨?_⟩;refine k4 _ ?_;refine zk ⟨?_⟩;refine v_cond _ rfl ?_ ?_
  ·intro hc0;try simp only [zC,reduceCtorEq] at hc0
   have hB:(chgB fl s t)=false:=by
    first
    |exact hA
    |(rw [hA];simpa using hc0)
   refine yR [6,7] ⟨?_⟩;refine zr ⟨?_⟩;simp only [hB,orNil_f,List.map_nil];exact ret_ref_tup rfl rfl rfl (.inl rfl)
  ·intro hc0;exfalso;simp at hc0
 ·skip;have hkl:k < fl.length:=(qlc.1 ha2).1;have hnk:decide ((k:Int) < (0:Int))=false:=decide_eq_false (by omega);have F:=Fc.mk (ai hF (ai ha1 (ai hnk hq)));refine yR [0,1,2] ⟨?_⟩;refine yRc [0,2,8] (findAppliance_con fl s hl) ⟨?_⟩;refine v_seq ?_;intros;refine v_seqR [0,2,8,35] ?_;intro K10 k10;refine zMove ⟨?_⟩;refine zc (isFleet_con fl hl hls) ⟨?_⟩;refine zq15 ⟨?_⟩;refine zgc (isState_con t) ⟨?_⟩;refine zq16 ⟨?_⟩;refine zPs ⟨?_⟩;refine zgMove ⟨?_⟩;refine zPs ⟨?_⟩;refine zq17 ⟨?_⟩;refine k10 _ ?_;refine zk ⟨?_⟩;refine v_cond _ rfl ?_ ?_
  ·intro hc0;try simp only [zC,reduceCtorEq] at hc0
   have hB:(chgB fl s t)=false:=by
    first
    |exact hA
    |(rw [hA];simpa using hc0)
   refine yR [6,7] ⟨?_⟩;refine zr ⟨?_⟩;simp only [hB,orNil_f,List.map_nil];exact ret_ref_tup rfl rfl rfl (.inl rfl)
  ·intro hc0;exfalso;simp at hc0
 ·skip;have hkl:k < fl.length:=(qlc.1 ha2).1;have hnk:decide ((k:Int) < (0:Int))=false:=decide_eq_false (by omega);simp only [] at hA;have hcf:=chgF_at (t:=t) ha1 ha2;simp only [] at hcf;have hsm:(fl.map (fun t:TA=>V.agg [V.str t.1,V.int .i64 t.2.1,V.int .i64 t.2.2.1,V.int .i64 t.2.2.2.1,V.int .i64 t.2.2.2.2])).set k (V.agg [V.str a0,V.int .i64 a1,V.int .i64 a2,V.int .i64 a3,V.int .i64 t])=(fl.set k (a0,a1,a2,a3,t)).map (fun t:TA=>V.agg [V.str t.1,V.int .i64 t.2.1,V.int .i64 t.2.2.1,V.int .i64 t.2.2.2.1,V.int .i64 t.2.2.2.2]):=by have q:=List.map_set (f:=(fun t:TA=>V.agg [V.str t.1,V.int .i64 t.2.1,V.int .i64 t.2.2.1,V.int .i64 t.2.2.2.1,V.int .i64 t.2.2.2.2])) (l:=fl) (i:=k) (a:=(a0,a1,a2,a3,t));exact q.symm
  have F:=Fc.mk (ai hF (ai ha1 (ai hnk (ai hq (ai @qlq (ai (gdm ha2) hsm))))));refine yR [0,1,2] ⟨?_⟩;refine yRc [0,2,8] (findAppliance_con fl s hl) ⟨?_⟩;refine v_seq ?_;intros;refine v_seqR [0,2,8,35] ?_;intro K16 k16;refine zMove ⟨?_⟩;refine zc (isFleet_con fl hl hls) ⟨?_⟩;refine zq15 ⟨?_⟩;refine zgc (isState_con t) ⟨?_⟩;refine zq16 ⟨?_⟩;refine ztc (following_con a4) ⟨?_⟩;refine zgMove ⟨?_⟩;refine ztc (slContains_con (nextI a4) t (by have:=next_len a4;omega)) ⟨?_⟩;refine zq17 ⟨?_⟩;refine k16 _ ?_;refine zk ⟨?_⟩;refine v_condS _ rfl ?_ ?_
  ·intro hc0;have hB:(chgB fl s t)=false:=by
    first
    |exact hA
    |(rw [hA];simpa using hc0)
   refine yR [6,7] ⟨?_⟩;refine zr ⟨?_⟩;simp only [hB,orNil_f,List.map_nil];exact ret_ref_tup rfl rfl rfl (.inl rfl)
  ·intro hc0;have hB:(chgB fl s t)=true:=by
    rw [hA];simpa using hc0
   refine zn [0,2,8] ⟨?_⟩;refine yRc [2,8,9] (cloneAppliance_con fl hl) ⟨?_⟩;refine yR [9] ⟨?_⟩;refine yR [6,7] ⟨?_⟩;refine zr ⟨?_⟩;simp only [hB,orNil_t,hcf];exact ret_ref_tup rfl rfl rfl (.inl rfl)
set_option maxRecDepth 8000 in
theorem specChange_con (fl:List TA) (s:ByteArray) (t:Int) (hl:fl.length≤1048576) (hls:∀t∈fl,t.1.size≤9223372036854775807) (hF:fleetB fl=true):Con Tryz.prog 176 [.sl (fl.map (fun t:TA=>V.agg [V.str t.1,V.int .i64 t.2.1,V.int .i64 t.2.2.1,V.int .i64 t.2.2.2.1,V.int .i64 t.2.2.2.2])),.str s,.int .i64 t] [] (.tup [.ref 0,.bool (chgB fl s t)]) [.arr ((orNil (chgB fl s t) (chgF fl s t)).map (fun t:TA=>V.agg [V.str t.1,V.int .i64 t.2.1,V.int .i64 t.2.2.1,V.int .i64 t.2.2.2.1,V.int .i64 t.2.2.2.2])) .flat]:=by
 refine v_con [.tmp 6,.tmp 7] [] Tryz.func176 rfl rfl rfl (by simp [Tryz.ntmps176]) ?_;intro Q0 n0 r0;simp only [Tryz.ntmps176,envFrom,Nat.reduceAdd];have T:=Tys.mk (ai Ty.t3 (ai Ty.t4 (ai Ty.t9 (ai Ty.t63 Ty.t156))));have F:=Fc.mk True.intro;rcases chg_cases fl s t with ⟨ha1,hA⟩ | ⟨k,⟨a0,a1,a2,a3,a4⟩,ha1,ha2,hq,hA⟩ | ⟨k,⟨a0,a1,a2,a3,a4⟩,ha1,ha2,hq,hA⟩
 ·skip;have hnk:decide ((-1:Int) < 0)=true:=rfl;have F:=Fc.mk (ai hF (ai ha1 hnk));refine yR [0,1,2] ⟨?_⟩;refine yRc [0,2,8] (apFind_con fl s hl) ⟨?_⟩;refine v_seq ?_;intros;refine v_seqR [0,2,8,34] ?_;intro K4 k4;refine zMove ⟨?_⟩;refine zc (apFleet_con fl hl hls) ⟨?_⟩;refine zq15 ⟨?_⟩;refine zgc (apState_con t) ⟨?_⟩;refine zq16 ⟨?_⟩;refine zgMove ⟨?_⟩;refine zPs ⟨?_⟩;refine zq17 ⟨?_⟩;refine k4 _ ?_;refine zk ⟨?_⟩;refine v_cond _ rfl ?_ ?_
  ·intro hc0;try simp only [zC,reduceCtorEq] at hc0
   have hB:(chgB fl s t)=false:=by
    first
    |exact hA
    |(rw [hA];simpa using hc0)
   refine yR [6,7] ⟨?_⟩;refine zr ⟨?_⟩;simp only [hB,orNil_f,List.map_nil];exact ret_ref_tup rfl rfl rfl (.inl rfl)
  ·intro hc0;exfalso;simp at hc0
 ·skip;have hkl:k < fl.length:=(qlc.1 ha2).1;have hnk:decide ((k:Int) < (0:Int))=false:=decide_eq_false (by omega);have F:=Fc.mk (ai hF (ai ha1 (ai hnk hq)));refine yR [0,1,2] ⟨?_⟩;refine yRc [0,2,8] (apFind_con fl s hl) ⟨?_⟩;refine v_seq ?_;intros;refine v_seqR [0,2,8,34] ?_;intro K10 k10;refine zMove ⟨?_⟩;refine zc (apFleet_con fl hl hls) ⟨?_⟩;refine zq15 ⟨?_⟩;refine zgc (apState_con t) ⟨?_⟩;refine zq16 ⟨?_⟩;refine zgMove ⟨?_⟩;refine zPs ⟨?_⟩;refine zq17 ⟨?_⟩;refine k10 _ ?_;refine zk ⟨?_⟩;refine v_cond _ rfl ?_ ?_
  ·intro hc0;try simp only [zC,reduceCtorEq] at hc0
   have hB:(chgB fl s t)=false:=by
    first
    |exact hA
    |(rw [hA];simpa using hc0)
   refine yR [6,7] ⟨?_⟩;refine zr ⟨?_⟩;simp only [hB,orNil_f,List.map_nil];exact ret_ref_tup rfl rfl rfl (.inl rfl)
  ·intro hc0;exfalso;simp at hc0
 ·skip;have hkl:k < fl.length:=(qlc.1 ha2).1;have hnk:decide ((k:Int) < (0:Int))=false:=decide_eq_false (by omega);simp only [] at hA;have hcf:=chgF_at (t:=t) ha1 ha2;simp only [] at hcf;have hsm:(fl.map (fun t:TA=>V.agg [V.str t.1,V.int .i64 t.2.1,V.int .i64 t.2.2.1,V.int .i64 t.2.2.2.1,V.int .i64 t.2.2.2.2])).set k (V.agg [V.str a0,V.int .i64 a1,V.int .i64 a2,V.int .i64 a3,V.int .i64 t])=(fl.set k (a0,a1,a2,a3,t)).map (fun t:TA=>V.agg [V.str t.1,V.int .i64 t.2.1,V.int .i64 t.2.2.1,V.int .i64 t.2.2.2.1,V.int .i64 t.2.2.2.2]):=by have q:=List.map_set (f:=(fun t:TA=>V.agg [V.str t.1,V.int .i64 t.2.1,V.int .i64 t.2.2.1,V.int .i64 t.2.2.2.1,V.int .i64 t.2.2.2.2])) (l:=fl) (i:=k) (a:=(a0,a1,a2,a3,t));exact q.symm
  have F:=Fc.mk (ai hF (ai ha1 (ai hnk (ai hq (ai @qlq (ai (gdm ha2) hsm))))));refine yR [0,1,2] ⟨?_⟩;refine yRc [0,2,8] (apFind_con fl s hl) ⟨?_⟩;refine v_seq ?_;intros;refine v_seqR [0,2,8,34] ?_;intro K16 k16;refine zMove ⟨?_⟩;refine zc (apFleet_con fl hl hls) ⟨?_⟩;refine zq15 ⟨?_⟩;refine zgc (apState_con t) ⟨?_⟩;refine zq16 ⟨?_⟩;refine zgMove ⟨?_⟩;refine ztc (apMay_con a4 t) ⟨?_⟩;refine zq17 ⟨?_⟩;refine k16 _ ?_;refine zk ⟨?_⟩;refine v_condS _ rfl ?_ ?_
  ·intro hc0;have hB:(chgB fl s t)=false:=by
    first
    |exact hA
    |(rw [hA];simpa using hc0)
   refine yR [6,7] ⟨?_⟩;refine zr ⟨?_⟩;simp only [hB,orNil_f,List.map_nil];exact ret_ref_tup rfl rfl rfl (.inl rfl)
  ·intro hc0;have hB:(chgB fl s t)=true:=by
    rw [hA];simpa using hc0
   refine zn [0,2,8] ⟨?_⟩;refine yR [0,2,8,9] ⟨?_⟩;refine yR [0,8,9] ⟨?_⟩;refine yRc [6,7] (apWith_con fl k a0 a1 a2 a3 t hl hkl) ⟨?_⟩;refine zr ⟨?_⟩;simp only [hB,orNil_t,hcf];exact ret_ref_tup rfl rfl rfl (.inl rfl)
theorem remove1_con (a s:ByteArray):Con Tryz.prog 200 [.str a,.pv [.str s] 0 0] [] (.bool (decide (a=s))) []:=by
 refine v_con [.tmp 3] [] Tryz.func200 rfl rfl rfl (by simp [Tryz.ntmps200]) ?_;intro Q0 n0 r0;simp only [Tryz.ntmps200,envFrom,Nat.reduceAdd];have T:=Tys.mk Ty.t9;have F:=Fc.mk True.intro;refine yR [0,1] ⟨?_⟩;refine yR [3] ⟨?_⟩;refine zr ⟨?_⟩;exact ret_pure rfl (by first | rfl | simp) (.inl rfl)
set_option maxRecDepth 8000 in
theorem remove_con (l:List TI) (i:Nat) (s:ByteArray) (x0:Int) (x1:Int) (x2:Bool) (x3:List ByteArray) (hx:l[i]? =some (x0,x1,x2,x3)) (hne:x3≠[]) (hnl:x3.length≤1048576):Con Tryz.prog 154 [.ptr 0 i 0,.str s] [.arr (l.map (fun t:TI=>V.agg [V.int .i64 t.1,V.int .i64 t.2.1,V.bool t.2.2.1,V.sl (t.2.2.2.map V.str)])) .deep] (.tup []) [.arr ((l.set i (x0,x1,x2,(x3.filter fun y=> !decide (y=s)))).map (fun t:TI=>V.agg [V.int .i64 t.1,V.int .i64 t.2.1,V.bool t.2.2.1,V.sl (t.2.2.2.map V.str)])) .deep]:=by
 have hil:=(qlc.1 hx).1;have hix:(l.map (fun t:TI=>V.agg [V.int .i64 t.1,V.int .i64 t.2.1,V.bool t.2.2.1,V.sl (t.2.2.2.map V.str)]))[i]? =some (V.agg ([V.int .i64 x0,V.int .i64 x1,V.bool x2]++[V.sl (x3.map V.str)])):=by rw [List.getElem?_map,hx];rfl
 have hg:((l.map (fun t:TI=>V.agg [V.int .i64 t.1,V.int .i64 t.2.1,V.bool t.2.2.1,V.sl (t.2.2.2.map V.str)])).set i (V.agg [V.int .i64 x0,V.int .i64 x1,V.bool x2,V.ref 1])).getD i .any=V.agg [V.int .i64 x0,V.int .i64 x1,V.bool x2,V.ref 1]:=by rw [qlk,qlm (by rw [ql9];exact hil)];rfl
 have hfin:(l.map (fun t:TI=>V.agg [V.int .i64 t.1,V.int .i64 t.2.1,V.bool t.2.2.1,V.sl (t.2.2.2.map V.str)])).set i (V.agg [V.int .i64 x0,V.int .i64 x1,V.bool x2,V.sl ((x3.filter fun y=> !decide (y=s)).map V.str)])=(l.set i (x0,x1,x2,(x3.filter fun y=> !decide (y=s)))).map (fun t:TI=>V.agg [V.int .i64 t.1,V.int .i64 t.2.1,V.bool t.2.2.1,V.sl (t.2.2.2.map V.str)]):=by have q:=List.map_set (f:=(fun t:TI=>V.agg [V.int .i64 t.1,V.int .i64 t.2.1,V.bool t.2.2.1,V.sl (t.2.2.2.map V.str)])) (l:=l) (i:=i) (a:=(x0,x1,x2,(x3.filter fun y=> !decide (y=s))));exact q.symm
 refine v_conW [] [(199,[0])] Tryz.func154 rfl rfl rfl (by simp [Tryz.ntmps154]) _ (weak_trans (weak_outL 0 i _ [V.int .i64 x0,V.int .i64 x1,V.bool x2] (x3.map V.str) .deep .flat rfl (.inl rfl) hix (by simpa using hne) (.inr ⟨rfl,by rw [List.all_map,qls];intro a _;rfl⟩) rfl) (weak_thin 1 _ rfl)) ?_;intro Q0 n0 r0;simp only [Tryz.ntmps154,envFrom,Nat.reduceAdd,List.set_cons_zero,List.set_cons_succ,List.cons_append,List.nil_append,List.length_cons,List.length_nil];have T:=Tys.mk (ai Ty.t3 (ai Ty.t4 (ai Ty.t9 (ai Ty.t59 (ai Ty.t154 Ty.t207)))));have F:=Fc.mk True.intro;have F:=Fc.mk (ai hg (ai @List.set_set.{0} @qlh.{0}));refine yR [0,3] ⟨?_⟩;refine yVl (deleteFuncStr_con x3 _ _ (fun y=>decide (y=s)) hnl (.pv _ .nil) (fun y0 _=>remove1_con y0 s)) ⟨?_⟩;refine n0 _ _ (weak_dp 0 _ _ _ rfl (.inl ⟨rfl,rfl⟩) (by rw [hfin,List.all_map,qls];intro a _;rfl)) ?_;try simp only [List.set_cons_zero,List.set_cons_succ,List.cons_append,List.nil_append,List.length_cons,List.length_nil,Nat.reduceAdd]
 refine zf ⟨?_⟩;rw [hfin];exact ret_all rfl (by simp [newIds,refsOf,refs2,refs1]) (by simp) rfl (by simp [newIds,refsOf,refs2,refs1]) (by simp [Blk.kindIs]) rfl
theorem ctl_fleet {n:Int} {ss:List TS} {fl:List TA} {ins:List TI} {ws:List TW} (h:ctlB n ss fl ins ws=true):fleetB fl=true:=by
  simp only [ctlB,ctlH,dsB,Bool.and_eq_true] at h;exact h.1.1.1.1.1.1.2
theorem filt_take {l:List ByteArray} {s:ByteArray} {j:Nat} {y:ByteArray} (h:l[j]? =some y):(l.take (j+1)).filter (fun z=> !decide (z=s))=if y=s then (l.take j).filter (fun z=> !decide (z=s)) else (l.take j).filter (fun z=> !decide (z=s))++[y]:=by
  rw [List.take_add_one,h,Option.toList_some,List.filter_append]
  by_cases q:y=s<;>simp [q]
set_option maxRecDepth 8000 in
theorem ixDrop_con (l:List TI) (k:Nat) (s:ByteArray) (x0:Int) (x1:Int) (x2:Bool) (x3:List ByteArray) (hl:l.length≤1048576) (hli:∀x∈l,x.2.2.2.length≤1048576) (hk:l[k]? =some (x0,x1,x2,x3)):Con Tryz.prog 177 [.sl (l.map (fun t:TI=>V.agg [V.int .i64 t.1,V.int .i64 t.2.1,V.bool t.2.2.1,V.sl (t.2.2.2.map V.str)])),.int .i64 (Nat.cast k),.str s] [] (.ref 0) [.arr ((l.set k (x0,x1,x2,(x3.filter fun y=> !decide (y=s)))).map (fun t:TI=>V.agg [V.int .i64 t.1,V.int .i64 t.2.1,V.bool t.2.2.1,V.sl (t.2.2.2.map V.str)])) .deep]:=by
 have hkl:=(qlc.1 hk).1;have hnl:=hli _ (qlb hk);simp only [] at hnl;have hfin:(l.map (fun t:TI=>V.agg [V.int .i64 t.1,V.int .i64 t.2.1,V.bool t.2.2.1,V.sl (t.2.2.2.map V.str)])).set k (V.agg [V.int .i64 x0,V.int .i64 x1,V.bool x2,V.sl ((x3.filter fun y=> !decide (y=s)).map V.str)])=(l.set k (x0,x1,x2,(x3.filter fun y=> !decide (y=s)))).map (fun t:TI=>V.agg [V.int .i64 t.1,V.int .i64 t.2.1,V.bool t.2.2.1,V.sl (t.2.2.2.map V.str)]):=by have q:=List.map_set (f:=(fun t:TI=>V.agg [V.int .i64 t.1,V.int .i64 t.2.1,V.bool t.2.2.1,V.sl (t.2.2.2.map V.str)])) (l:=l) (i:=k) (a:=(x0,x1,x2,(x3.filter fun y=> !decide (y=s))));exact q.symm
 refine v_con [.tmp 6] [] Tryz.func177 rfl rfl rfl (by simp [Tryz.ntmps177]) ?_;intro Q0 n0 r0;simp only [Tryz.ntmps177,envFrom,Nat.reduceAdd];have T:=Tys.mk (ai Ty.t3 (ai Ty.t4 (ai Ty.t9 (ai Ty.t59 (ai Ty.t64 Ty.t154)))));have F:=Fc.mk True.intro;have F:=Fc.mk (ai @qlq (gdm hk));refine yR [0,1,2] ⟨?_⟩;refine v_seq ?_;intro Q2 n2 e2 r2;refine yVc (ixOwn_con l hl hli) ⟨?_⟩;apply n2
 ·apply weak_trans (weak_keep [0,1,2,7] _);simp only [keep_mk,keepE_nil,keepE_cons,look_cons,look_nil,Nat.reduceEqDiff,reduceIte];exact weak_trans (weak_fk 1 l.length _ rfl) weak_view
 try simp only [atSlot_cons,atSlot_nil,Nat.reduceEqDiff,reduceIte,List.set_cons_zero,List.set_cons_succ]
 refine yR [0,1,2,7,8] ⟨?_⟩;refine yR [0,1,2,7,8] ⟨?_⟩;refine v_seq ?_;intros;refine yR [1,2,7,8,22,23,24] ⟨?_⟩;refine v_block ?_;intros;refine v_loop (fun j=>⟨[(1,.int .i64 (Nat.cast k)),(2,.str s),(7,.ref 0),(8,.ptr 1 0 0),(22,.sl (x3.map V.str)),(23,.int .i64 x3.length),(24,.int .i64 (Nat.cast j))],[.arr (l.map (fun t:TI=>V.agg [V.int .i64 t.1,V.int .i64 t.2.1,V.bool t.2.2.1,V.sl (t.2.2.2.map V.str)])) .deep,.box (.agg [.int .i64 x0,.int .i64 x1,.bool x2,.ref 2]) .mix,.arr (((x3.take j).filter fun z=> !decide (z=s)).map V.str) .flat],true,43,0⟩) (fun j=>j≤x3.length) (fun j=>x3.length - j) 0 ?_ ?_ ?_
 ·refine weak_bothN [1,2,7,8,22,23,24] [1,3,4] ⟨?_⟩;rfl
 ·exact qld _
 ·rintro j hok9 Q9 n9 e9 r9;have hj1:j≤x3.length:=hok9;refine yR [1,2,7,8,22,23,24,25] ⟨?_⟩;refine v_seq ?_;intros;refine v_condS _ rfl ?_ ?_
  ·intro hc0;have hlt:j < x3.length:=by omega
   obtain ⟨y,hy⟩:∃y,x3[j]? =some y:=⟨_,qla hlt⟩;have hst:=filt_take (s:=s) hy;have hfl:((x3.take j).filter fun z=> !decide (z=s)).length≤1048576:=qlx (List.length_filter_le ..) (by rw [qln];omega);refine zn [1,2,7,8,22,23,24] ⟨?_⟩;refine v_seq ?_;intros;refine v_block ?_;intros;have F:=Fc.mk (ai @qlq (ai (gdm hk) (gdm hy)));refine yR [1,2,7,8,10,22,23,24] ⟨?_⟩;refine yR [1,2,7,8,10,22,23,24,30] ⟨?_⟩;refine v_condS _ rfl ?_ ?_
   ·intro hc1;have hst2:((x3.take j).filter fun z=> !decide (z=s)).map V.str++[V.str y]=((x3.take (j+1)).filter fun z=> !decide (z=s)).map V.str:=by rw [hst,if_neg (by simpa using hc1),ql3];rfl
    refine yQ [1,2,7,8,22,23,24] ⟨?_⟩;refine yV ⟨?_⟩;refine n9 _ (j+1) ?_ ?_ ?_
    ·refine weak_bothN [1,2,7,8,22,23,24] [0,1,4] ⟨?_⟩;rw [←hst2];rfl
    ·exact hlt
    ·show _ < _;omega
   ·intro hc1;have hst2:((x3.take j).filter fun z=> !decide (z=s))=((x3.take (j+1)).filter fun z=> !decide (z=s)):=by rw [hst,if_pos (by simpa using hc1)]
    refine zn [1,2,7,8,22,23,24] ⟨?_⟩;refine yV ⟨?_⟩;refine n9 _ (j+1) ?_ ?_ ?_
    ·refine weak_bothN [1,2,7,8,22,23,24] [0,1,2] ⟨?_⟩;rw [←hst2];rfl
    ·exact hlt
    ·show _ < _;omega
  ·intro hc0;have hje:x3.take j=x3:=List.take_of_length_le (by omega);rw [hje];refine zn [1,7,8] ⟨?_⟩;have F:=Fc.mk (ai @qlq (ai (gdm hk) hfin));refine yR [7] ⟨?_⟩;refine yR [6] ⟨?_⟩;refine zr ⟨?_⟩;exact rta
set_option maxRecDepth 100000 in
theorem reportState_con (n:Int) (ss:List TS) (fl:List TA) (ins:List TI) (ws:List TW) (s:ByteArray) (t:Int) (hl:fl.length≤1048576) (hil:ins.length≤1048576) (hin:∀x∈ins,x.2.2.2.length≤1048576) (hwl:ws.length≤1048576) (hwn:∀x∈ws,x.2.length≤1048576) (hls:∀t∈fl,t.1.size≤9223372036854775807) (hB:(ctlB n ss fl ins ws)=true):Con Tryz.prog 92 [.pv [.agg [.sl (fl.map (fun t:TA=>V.agg [V.str t.1,V.int .i64 t.2.1,V.int .i64 t.2.2.1,V.int .i64 t.2.2.2.1,V.int .i64 t.2.2.2.2])),.sl (ins.map (fun t:TI=>V.agg [V.int .i64 t.1,V.int .i64 t.2.1,V.bool t.2.2.1,V.sl (t.2.2.2.map V.str)])),.sl (ws.map (fun t:TW=>V.agg [V.int .i64 t.1,V.sl (t.2.map (V.int .i64))]))]] 0 0,.str s,.int .i64 t] [] (.tup [.agg [.ref 0,.ref 1,.ref 2],.bool (repB fl s t)]) [.arr ((orNil (repB fl s t) (chgF fl s t)).map (fun t:TA=>V.agg [V.str t.1,V.int .i64 t.2.1,V.int .i64 t.2.2.1,V.int .i64 t.2.2.2.1,V.int .i64 t.2.2.2.2])) .flat,.arr ((orNil (repB fl s t) (repI ins s t)).map (fun t:TI=>V.agg [V.int .i64 t.1,V.int .i64 t.2.1,V.bool t.2.2.1,V.sl (t.2.2.2.map V.str)])) (fillK (orNil (repB fl s t) (repI ins s t)).length),.arr ((orNil (repB fl s t) ws).map (fun t:TW=>V.agg [V.int .i64 t.1,V.sl (t.2.map (V.int .i64))])) (fillK (orNil (repB fl s t) ws).length)]:=by
 have hF:=ctl_fleet hB;refine v_con [.cell 6 67,.tmp 7] [(154,[0])] Tryz.func92 rfl rfl rfl (by simp [Tryz.ntmps92]) ?_;intro Q0 n0 r0;simp only [Tryz.ntmps92,envFrom,Nat.reduceAdd];have T:=Tys.mk (ai Ty.t3 (ai Ty.t4 (ai Ty.t9 (ai Ty.t35 (ai Ty.t59 (ai Ty.t63 (ai Ty.t64 (ai Ty.t65 (ai Ty.t67 (ai Ty.t122 (ai Ty.t154 (ai Ty.t156 Ty.t158))))))))))));have F:=Fc.mk True.intro;refine yR [0,1,2,6] ⟨?_⟩;refine yRc [0,1,2,6,8,9] (implChange_con fl s t hl hls hF) ⟨?_⟩;refine v_seq ?_;intros;refine yR [0,1,2,6,8,27] ⟨?_⟩;refine v_condS _ rfl ?_ ?_
 ·intro hc0;have hA:(repB fl s t)=false:=by
   rw [repB]
   by_cases q:t=1<;>cases q2:chgB fl s t<;>simp [q,q2] at hc0⊢
  refine yR [6,7] ⟨?_⟩;refine zq1 ⟨?_⟩;simp only [hA,orNil_f,List.map_nil,List.length_nil,fillK_0];exact rta
 ·intro hc0;have hA:(repB fl s t)=true:=by
   rw [repB]
   by_cases q:t=1<;>cases q2:chgB fl s t<;>simp [q,q2] at hc0⊢
  have hch:chgB fl s t=true:=by rw [repB,qlf] at hA;exact hA.1
  simp only [hch,orNil_t];refine zn [0,1,2,6,8] ⟨?_⟩;refine yRc [0,1,2,6,8,10] (copyControl_con fl ins ws hl hil hin hwl hwn) ⟨?_⟩;refine yR [0,1,2,6,10] ⟨?_⟩;refine yRc [1,2,6,10,11] (committedAt_con ins s hil hin) ⟨?_⟩;refine v_seq ?_;intro Q10 n10 e10 r10;refine v_seq ?_;intro Q11 n11 e11 r11;refine yVg (isBusy_con .empty 0 0 0 t) ⟨?_⟩;apply n11
  ·apply weak_trans (weak_keep [1,6,10,11,46] _);simp only [keep_mk,keepE_nil,keepE_cons,look_cons,look_nil,Nat.reduceEqDiff,reduceIte];exact weak_fk 6 ins.length _ rfl
  try simp only [atSlot_cons,atSlot_nil,Nat.reduceEqDiff,reduceIte,List.set_cons_zero,List.set_cons_succ]
  refine v_condS _ rfl ?_ ?_
  ·intro hc1;have hcm:0≤commF ins s∧¬(1≤t∧t≤3):=by
    have h:=hc1
    by_cases q:0≤commF ins s<;>by_cases q2:1≤t<;>by_cases q3:t≤3<;>simp [busyA,q,q2,q3] at h⊢<;>(first | done | omega)
   obtain ⟨m,⟨x0,x1,x2,x3⟩,hm1,hm2,hm3⟩:=commF_at hcm.1;simp only [] at hm2;have hml:=(qlc.1 hm1).1;have hnl:=hin _ (qlb hm1);simp only [] at hnl;have hRI:=repI_at hcm.2 hm3 hm1;simp only [] at hRI;refine v_region ?_;intro K14 k14;have F:=Fc.mk (ai hm3 (ai @qlq (gdm hm1)));refine zq9 ⟨?_⟩;refine zMove ⟨?_⟩;refine zIndexAddr ⟨?_⟩;refine zMove ⟨?_⟩;refine v_op ?_;intro K k;simp only [zE,zM,aStepM,optable,set_some,Nat.reduceEqDiff,reduceIte,Nat.reduceLT,implies_true,forall_const,reduceCtorEq,V.ofValue,V.ofScalar,V.un,V.gd,aExec,lentIds,lendOf,Tryz.underlying3,Ty.c3,Ty.a3,Ty.b3,Ty.s3,Tryz.underlying4,Ty.c4,Ty.a4,Ty.b4,Ty.s4,Tryz.underlying9,Ty.c9,Ty.a9,Ty.b9,Ty.s9,Tryz.underlying59,Ty.c59,Ty.a59,Ty.b59,Ty.s59,Tryz.underlying154,Ty.c154,Ty.a154,Ty.b154,Ty.s154];repeat (refine ai (by first | rfl | (intros;simp_all;done)) ?_)
   refine aCall_lent _ (remove_con ins m s x0 x1 x2 x3 hm1 (inS_ne hm2) hnl) (toArgs_ptrl rfl rfl) rfl ⟨by simp [Blk.kindIs,fillK_mix,thK_mix],by simp⟩ (by first | exact .inl rfl | exact .inr (by simp [Blk.kindIs])) ⟨rfl,by simp [Blk.kindIs,fillK_fd,thK_fd]⟩ ?_;refine k _ ?_;clear k K;simp only [zY,zW,set_some,Nat.reduceEqDiff,reduceIte,rho_one,rho_s,V.ren,V.renL,List.set_cons_zero,List.set_cons_succ,Nat.reduceAdd];refine k14 _ ?_;refine n10 _ _ (weak_keep [6,10] _) ?_;refine zk ⟨?_⟩;refine v_seq ?_;intro Q15 n15 e15 r15;refine yV ⟨?_⟩;apply n15
   ·apply weak_trans (weak_keep [6,7] _);simp only [keep_mk,keepE_nil,keepE_cons,look_cons,look_nil,Nat.reduceEqDiff,reduceIte];exact weak_kf 6 _ (ins.set m (x0,x1,x2,x3.filter fun y=> !decide (y=s))).length rfl (ql9 _)
   try simp only [atSlot_cons,atSlot_nil,Nat.reduceEqDiff,reduceIte,List.set_cons_zero,List.set_cons_succ]
   refine zq1 ⟨?_⟩;simp only [hA,orNil_t];rw [hRI];exact rta
  ·intro hc1;have hno:¬(0≤commF ins s∧¬(1≤t∧t≤3)):=by
    intro hcm;have h:=hc1
    by_cases q:0≤commF ins s<;>by_cases q2:1≤t<;>by_cases q3:t≤3<;>simp [busyA,q,q2,q3] at h hcm<;>(first | done | omega)
   have hRI:=repI_no hno;refine zn [6,10] ⟨?_⟩;refine v_seq ?_;intro Q17 n17 e17 r17;refine yV ⟨?_⟩;apply n17
   ·apply weak_trans (weak_keep [6,7] _);simp only [keep_mk,keepE_nil,keepE_cons,look_cons,look_nil,Nat.reduceEqDiff,reduceIte];exact weak_kf 6 _ ins.length rfl (ql9 _)
   try simp only [atSlot_cons,atSlot_nil,Nat.reduceEqDiff,reduceIte,List.set_cons_zero,List.set_cons_succ]
   refine zq1 ⟨?_⟩;simp only [hA,orNil_t];rw [hRI];exact rta
set_option maxRecDepth 100000 in
theorem roReport_con (n:Int) (ss:List TS) (fl:List TA) (ins:List TI) (ws:List TW) (s:ByteArray) (t:Int) (hl:fl.length≤1048576) (hil:ins.length≤1048576) (hin:∀x∈ins,x.2.2.2.length≤1048576) (hwl:ws.length≤1048576) (hwn:∀x∈ws,x.2.length≤1048576) (hls:∀t∈fl,t.1.size≤9223372036854775807) (hB:(ctlB n ss fl ins ws)=true):Con Tryz.prog 131 [.agg [.sl (fl.map (fun t:TA=>V.agg [V.str t.1,V.int .i64 t.2.1,V.int .i64 t.2.2.1,V.int .i64 t.2.2.2.1,V.int .i64 t.2.2.2.2])),.sl (ins.map (fun t:TI=>V.agg [V.int .i64 t.1,V.int .i64 t.2.1,V.bool t.2.2.1,V.sl (t.2.2.2.map V.str)])),.sl (ws.map (fun t:TW=>V.agg [V.int .i64 t.1,V.sl (t.2.map (V.int .i64))]))],.str s,.int .i64 t] [] (.tup [.agg [.ref 0,.ref 1,.ref 2],.bool (repB fl s t)]) [.arr ((orNil (repB fl s t) (chgF fl s t)).map (fun t:TA=>V.agg [V.str t.1,V.int .i64 t.2.1,V.int .i64 t.2.2.1,V.int .i64 t.2.2.2.1,V.int .i64 t.2.2.2.2])) .flat,.arr ((orNil (repB fl s t) (repI ins s t)).map (fun t:TI=>V.agg [V.int .i64 t.1,V.int .i64 t.2.1,V.bool t.2.2.1,V.sl (t.2.2.2.map V.str)])) (fillK (orNil (repB fl s t) (repI ins s t)).length),.arr ((orNil (repB fl s t) ws).map (fun t:TW=>V.agg [V.int .i64 t.1,V.sl (t.2.map (V.int .i64))])) (fillK (orNil (repB fl s t) ws).length)]:=by
 have hF:=ctl_fleet hB;refine v_con [.cell 6 67,.tmp 7] [] Tryz.func131 rfl rfl rfl (by simp [Tryz.ntmps131]) ?_;intro Q0 n0 r0;simp only [Tryz.ntmps131,envFrom,Nat.reduceAdd];have T:=Tys.mk (ai Ty.t3 (ai Ty.t4 (ai Ty.t9 (ai Ty.t35 (ai Ty.t59 (ai Ty.t63 (ai Ty.t64 (ai Ty.t65 (ai Ty.t67 (ai Ty.t154 (ai Ty.t156 Ty.t158)))))))))));have F:=Fc.mk True.intro;refine yR [1,2,3,6] ⟨?_⟩;refine yRc [1,2,3,6,8,9] (specChange_con fl s t hl hls hF) ⟨?_⟩;refine v_seq ?_;intros;refine yR [1,2,3,6,8,25] ⟨?_⟩;refine v_condS _ rfl ?_ ?_
 ·intro hc0;have hA:(repB fl s t)=false:=by
   rw [repB]
   by_cases q:t=1<;>cases q2:chgB fl s t<;>simp [q,q2] at hc0⊢
  refine yR [6,7] ⟨?_⟩;refine zq1 ⟨?_⟩;simp only [hA,orNil_f,List.map_nil,List.length_nil,fillK_0];exact rta
 ·intro hc0;have hA:(repB fl s t)=true:=by
   rw [repB]
   by_cases q:t=1<;>cases q2:chgB fl s t<;>simp [q,q2] at hc0⊢
  have hch:chgB fl s t=true:=by rw [repB,qlf] at hA;exact hA.1
  simp only [hch,orNil_t];refine zn [1,2,3,6,8] ⟨?_⟩;refine yRc [1,2,3,6,8,10] (roOwn_con fl ins ws hl hil hin hwl hwn) ⟨?_⟩;refine yR [1,2,3,6,10] ⟨?_⟩;refine v_seq ?_;intros;refine yRc [1,2,3,6,10,11] (ixOf_con ins s hil hin) ⟨?_⟩;refine yRg [1,3,6,10,11,41] (roBusy_con t) ⟨?_⟩;refine v_condS _ rfl ?_ ?_
  ·intro hc1;have hcm:0≤commF ins s∧¬(1≤t∧t≤3):=by
    have h:=hc1
    by_cases q:0≤commF ins s<;>by_cases q2:1≤t<;>by_cases q3:t≤3<;>simp [busyA,q,q2,q3] at h⊢<;>(first | done | omega)
   obtain ⟨m,⟨x0,x1,x2,x3⟩,hm1,hm2,hm3⟩:=commF_at hcm.1;simp only [] at hm2;have hml:=(qlc.1 hm1).1;have hnl:=hin _ (qlb hm1);simp only [] at hnl;have hRI:=repI_at hcm.2 hm3 hm1;simp only [] at hRI;have F:=Fc.mk (ai hm3 (ai @qlq (gdm hm1)));refine yQc [6,10] (ixDrop_con ins m s x0 x1 x2 x3 hil hin hm1) ⟨?_⟩;refine v_seq ?_;intro Q14 n14 e14 r14;refine yV ⟨?_⟩;apply n14
   ·apply weak_trans (weak_keep [6,7] _);simp only [keep_mk,keepE_nil,keepE_cons,look_cons,look_nil,Nat.reduceEqDiff,reduceIte];exact weak_kf 13 _ (ins.set m (x0,x1,x2,x3.filter fun y=> !decide (y=s))).length rfl (ql9 _)
   try simp only [atSlot_cons,atSlot_nil,Nat.reduceEqDiff,reduceIte,List.set_cons_zero,List.set_cons_succ]
   refine zq1 ⟨?_⟩;simp only [hA,orNil_t];rw [hRI];exact rta
  ·intro hc1;have hno:¬(0≤commF ins s∧¬(1≤t∧t≤3)):=by
    intro hcm;have h:=hc1
    by_cases q:0≤commF ins s<;>by_cases q2:1≤t<;>by_cases q3:t≤3<;>simp [busyA,q,q2,q3] at h hcm<;>(first | done | omega)
   have hRI:=repI_no hno;refine zn [6,10] ⟨?_⟩;refine yR [6,7] ⟨?_⟩;refine zq1 ⟨?_⟩;simp only [hA,orNil_t];rw [hRI];exact rta
end Go.Proofs.YtmhaafinhpopmaaGreatDoor
