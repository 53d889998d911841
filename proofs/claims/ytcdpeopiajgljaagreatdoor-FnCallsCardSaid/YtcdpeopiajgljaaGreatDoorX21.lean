/- What functions compute. No condition. -/
import Derived.Test.YtcdpeopiajgljaaGreatDoorUz
import Derived.Test.YtcdpeopiajgljaaGreatDoorUty
import Derived.Test.YtcdpeopiajgljaaGreatDoorUmG
import Derived.Test.YtcdpeopiajgljaaGreatDoorX12
import Derived.Test.YtcdpeopiajgljaaGreatDoorX5
set_option linter.unusedSimpArgs false
set_option linter.unusedVariables false
set_option linter.defProp false
namespace Go.Proofs.YtcdpeopiajgljaaGreatDoor
open Go Go.Vm
set_option maxHeartbeats 8000000
theorem drawAddCall_con (code:List Int) (hcode:∀x∈code,0≤x∧x≤255) (hcl:code.length≤9223372036854775807):ConX Tryz.prog 5 [.sl (code.map (V.int .u8))] [] (fun r O'=>∃(l:List (Int×Int×Int×Int×Int)) (x0 x1 x2 x3 x4:Int),(l.length≤22)∧r=.tup [.ref 0,.agg [.int .i64 x0,.int .i64 x1,.int .i64 x2,.int .i64 x3,.int .i64 x4]]∧O'=[.arr (l.map (fun t:Int×Int×Int×Int×Int=>V.agg [V.int .i64 t.1,V.int .i64 t.2.1,V.int .i64 t.2.2.1,V.int .i64 t.2.2.2.1,V.int .i64 t.2.2.2.2])) .flat]):=by
 refine v_conX [.tmp 2,.cell 3 26] [(27,[0]),(37,[0]),(28,[0]),(29,[0,1]),(43,[0]),(56,[0])] Tryz.func5 rfl rfl rfl (by simp [Tryz.ntmps5]) ?_
 intro Q0 n0 r0
 simp only [Tryz.ntmps5,envFrom,Nat.reduceAdd]
 have T:=Tys.mk (ai Ty.t3 (ai Ty.t5 (ai Ty.t22 (ai Ty.t24 (ai Ty.t26 (ai Ty.t35 (ai Ty.t51 (ai Ty.t52 Ty.t54))))))))
 have F:=Fc.mk True.intro
 refine yR [0,3] ⟨?_⟩;refine yR [3,4] ⟨?_⟩;refine v_seqR [2,3] ?_;intro K3 k3;refine zMove ⟨?_⟩;refine v_op ?_;intro K k
 simp only [zE,zM,aStepM,optable,set_some,Nat.reduceEqDiff,reduceIte,Nat.reduceLT,implies_true,forall_const,reduceCtorEq,V.ofValue,V.ofScalar,V.un,V.gd,aExec,lentIds,lendOf,‹Tys _›.h,‹Fc _›.h]
 repeat (refine andC ?_)
 refine aCall_lentXA (drawCalls_con code 0 0 hcode hcl (by omega)) ?_
 rintro _ _ ⟨v9,a9,s9,h9,k9,rfl,rfl⟩
 refine ⟨_,_,rfl,by first | exact .inr (List.all_eq_true.1 rfl) | exact .inl ⟨rfl,by simp [Blk.kindIs,fillK_fd,thK_fd]⟩,?_⟩;refine k _ ?_;clear k K
 simp only [zY,zW,set_some,Nat.reduceEqDiff,reduceIte,rho_one,rho_s,rho2_s,rho2_0,rho2_1,V.ren,V.renL,List.set_cons_zero,List.set_cons_succ,rho,Nat.reduceAdd,Nat.add_zero]
 refine zq2 ⟨?_⟩;refine zq3 ⟨?_⟩;refine v_op ?_;intro K k
 simp only [zE,zM,aStepM,optable,set_some,Nat.reduceEqDiff,reduceIte,Nat.reduceLT,implies_true,forall_const,reduceCtorEq,V.ofValue,V.ofScalar,V.un,V.gd,aExec,lentIds,lendOf,‹Tys _›.h,‹Fc _›.h]
 repeat (refine andC ?_)
 refine aCall_lent2XA (among_con code a9 s9 [-1,100000] (by simp) hcode hcl (by omega)) ?_
 rintro _ _ ⟨v14,a14,s14,h14,k14,rfl,rfl⟩
 refine ⟨_,_,_,rfl,by first | exact .inr (List.all_eq_true.1 rfl) | exact .inl ⟨rfl,by simp [Blk.kindIs,fillK_fd,thK_fd]⟩,?_⟩;refine k _ ?_;clear k K
 simp only [zY,zW,set_some,Nat.reduceEqDiff,reduceIte,rho_one,rho_s,rho2_s,rho2_0,rho2_1,V.ren,V.renL,List.set_cons_zero,List.set_cons_succ,rho,Nat.reduceAdd,Nat.add_zero]
 simp only [List.mem_cons,List.not_mem_nil,or_false] at h14
 refine zBuildSlice ⟨?_⟩;refine v_op ?_;intro K k
 simp only [zE,zM,aStepM,optable,set_some,Nat.reduceEqDiff,reduceIte,Nat.reduceLT,implies_true,forall_const,reduceCtorEq,V.ofValue,V.ofScalar,V.un,V.gd,aExec,lentIds,lendOf,‹Tys _›.h,‹Fc _›.h]
 repeat (refine andC ?_)
 refine aCall_lent2XA (among_con code a14 s14 [0,5,20,99999,v14] (by simp) hcode hcl (by omega)) ?_
 rintro _ _ ⟨v16,a16,s16,h16,k16,rfl,rfl⟩
 refine ⟨_,_,_,rfl,by first | exact .inr (List.all_eq_true.1 rfl) | exact .inl ⟨rfl,by simp [Blk.kindIs,fillK_fd,thK_fd]⟩,?_⟩;refine k _ ?_;clear k K
 simp only [zY,zW,set_some,Nat.reduceEqDiff,reduceIte,rho_one,rho_s,rho2_s,rho2_0,rho2_1,V.ren,V.renL,List.set_cons_zero,List.set_cons_succ,rho,Nat.reduceAdd,Nat.add_zero]
 simp only [List.mem_cons,List.not_mem_nil,or_false] at h16
 refine v_op ?_;intro K k
 simp only [zE,zM,aStepM,optable,set_some,Nat.reduceEqDiff,reduceIte,Nat.reduceLT,implies_true,forall_const,reduceCtorEq,V.ofValue,V.ofScalar,V.un,V.gd,aExec,lentIds,lendOf,‹Tys _›.h,‹Fc _›.h]
 repeat (refine andC ?_)
 refine aCall_lentXA (drawCall_con code a16 s16 (v16) hcode hcl (by omega)) ?_
 rintro _ _ ⟨e17,f17,g17,q17,u17,a17,s17,h17,k17,rfl,rfl⟩
 refine ⟨_,_,rfl,by first | exact .inr (List.all_eq_true.1 rfl) | exact .inl ⟨rfl,by simp [Blk.kindIs,fillK_fd,thK_fd]⟩,?_⟩;refine k _ ?_;clear k K
 simp only [zY,zW,set_some,Nat.reduceEqDiff,reduceIte,rho_one,rho_s,rho2_s,rho2_0,rho2_1,V.ren,V.renL,List.set_cons_zero,List.set_cons_succ,rho,Nat.reduceAdd,Nat.add_zero]
 refine zAssign ⟨?_⟩;refine zStore ⟨?_⟩;refine k3 _ ?_;refine zq1 ⟨?_⟩;refine zCl ⟨?_⟩;refine ret_viewX ?_
 exact ⟨v9,e17,f17,g17,q17,u17,by omega,rfl,rfl⟩
theorem drawRepeatedCalls_con (code:List Int) (hcode:∀x∈code,0≤x∧x≤255) (hcl:code.length≤9223372036854775807):ConX Tryz.prog 10 [.sl (code.map (V.int .u8))] [] (fun r O'=>∃(l:List (Int×Int×Int×Int×Int)) (wn:Int),(l.length≤22)∧r=.tup [.ref 0,.int .i64 wn]∧O'=[.arr (l.map (fun t:Int×Int×Int×Int×Int=>V.agg [V.int .i64 t.1,V.int .i64 t.2.1,V.int .i64 t.2.2.1,V.int .i64 t.2.2.2.1,V.int .i64 t.2.2.2.2])) .flat]):=by
 refine v_conX [.tmp 2,.tmp 3] [(27,[0]),(37,[0]),(28,[0]),(29,[0,1]),(43,[0]),(56,[0])] Tryz.func10 rfl rfl rfl (by simp [Tryz.ntmps10]) ?_
 intro Q0 n0 r0
 simp only [Tryz.ntmps10,envFrom,Nat.reduceAdd]
 have T:=Tys.mk (ai Ty.t3 (ai Ty.t5 (ai Ty.t22 (ai Ty.t24 (ai Ty.t26 (ai Ty.t51 (ai Ty.t52 Ty.t54)))))))
 have F:=Fc.mk True.intro
 refine yR [0] ⟨?_⟩;refine yR [4] ⟨?_⟩;refine v_seqR [2,3] ?_;intro K3 k3;refine zMove ⟨?_⟩;refine v_op ?_;intro K k
 simp only [zE,zM,aStepM,optable,set_some,Nat.reduceEqDiff,reduceIte,Nat.reduceLT,implies_true,forall_const,reduceCtorEq,V.ofValue,V.ofScalar,V.un,V.gd,aExec,lentIds,lendOf,‹Tys _›.h,‹Fc _›.h]
 repeat (refine andC ?_)
 refine aCall_lentXA (drawCalls_con code 0 0 hcode hcl (by omega)) ?_
 rintro _ _ ⟨v9,a9,s9,h9,k9,rfl,rfl⟩
 refine ⟨_,_,rfl,by first | exact .inr (List.all_eq_true.1 rfl) | exact .inl ⟨rfl,by simp [Blk.kindIs,fillK_fd,thK_fd]⟩,?_⟩;refine k _ ?_;clear k K
 simp only [zY,zW,set_some,Nat.reduceEqDiff,reduceIte,rho_one,rho_s,rho2_s,rho2_0,rho2_1,V.ren,V.renL,List.set_cons_zero,List.set_cons_succ,rho,Nat.reduceAdd,Nat.add_zero]
 refine zMove ⟨?_⟩;refine v_op ?_;intro K k
 simp only [zE,zM,aStepM,optable,set_some,Nat.reduceEqDiff,reduceIte,Nat.reduceLT,implies_true,forall_const,reduceCtorEq,V.ofValue,V.ofScalar,V.un,V.gd,aExec,lentIds,lendOf,‹Tys _›.h,‹Fc _›.h]
 repeat (refine andC ?_)
 refine aCall_lentXA (drawWindowOf_con code a9 s9 hcode hcl (by omega)) ?_
 rintro _ _ ⟨v11,a11,s11,h11,k11,rfl,rfl⟩
 refine ⟨_,_,rfl,by first | exact .inr (List.all_eq_true.1 rfl) | exact .inl ⟨rfl,by simp [Blk.kindIs,fillK_fd,thK_fd]⟩,?_⟩;refine k _ ?_;clear k K
 simp only [zY,zW,set_some,Nat.reduceEqDiff,reduceIte,rho_one,rho_s,rho2_s,rho2_0,rho2_1,V.ren,V.renL,List.set_cons_zero,List.set_cons_succ,rho,Nat.reduceAdd,Nat.add_zero]
 refine zAssign ⟨?_⟩;refine zAssign ⟨?_⟩;refine k3 _ ?_;refine zq1 ⟨?_⟩;refine ret_viewX ?_
 exact ⟨v9,v11,by omega,rfl,rfl⟩
theorem drawBusiestWindow_con (code:List Int) (hcode:∀x∈code,0≤x∧x≤255) (hcl:code.length≤9223372036854775807):ConX Tryz.prog 15 [.sl (code.map (V.int .u8))] [] (fun r O'=>∃(l:List (Int×Int×Int×Int×Int)) (n:Int),(l.length≤22)∧r=.tup [.ref 0,.int .i64 n]∧O'=[.arr (l.map (fun t:Int×Int×Int×Int×Int=>V.agg [V.int .i64 t.1,V.int .i64 t.2.1,V.int .i64 t.2.2.1,V.int .i64 t.2.2.2.1,V.int .i64 t.2.2.2.2])) .flat]):=by
 refine v_conX [.tmp 2,.tmp 3] [(27,[0]),(37,[0]),(28,[0]),(29,[0,1]),(43,[0]),(56,[0])] Tryz.func15 rfl rfl rfl (by simp [Tryz.ntmps15]) ?_
 intro Q0 n0 r0
 simp only [Tryz.ntmps15,envFrom,Nat.reduceAdd]
 have T:=Tys.mk (ai Ty.t3 (ai Ty.t5 (ai Ty.t22 (ai Ty.t24 (ai Ty.t26 (ai Ty.t35 (ai Ty.t51 (ai Ty.t52 Ty.t54))))))))
 have F:=Fc.mk True.intro
 refine yR [0] ⟨?_⟩;refine yR [4] ⟨?_⟩;refine v_seqR [2,3] ?_;intro K3 k3;refine zMove ⟨?_⟩;refine v_op ?_;intro K k
 simp only [zE,zM,aStepM,optable,set_some,Nat.reduceEqDiff,reduceIte,Nat.reduceLT,implies_true,forall_const,reduceCtorEq,V.ofValue,V.ofScalar,V.un,V.gd,aExec,lentIds,lendOf,‹Tys _›.h,‹Fc _›.h]
 repeat (refine andC ?_)
 refine aCall_lentXA (drawCalls_con code 0 0 hcode hcl (by omega)) ?_
 rintro _ _ ⟨v9,a9,s9,h9,k9,rfl,rfl⟩
 refine ⟨_,_,rfl,by first | exact .inr (List.all_eq_true.1 rfl) | exact .inl ⟨rfl,by simp [Blk.kindIs,fillK_fd,thK_fd]⟩,?_⟩;refine k _ ?_;clear k K
 simp only [zY,zW,set_some,Nat.reduceEqDiff,reduceIte,rho_one,rho_s,rho2_s,rho2_0,rho2_1,V.ren,V.renL,List.set_cons_zero,List.set_cons_succ,rho,Nat.reduceAdd,Nat.add_zero]
 refine zq2 ⟨?_⟩;refine zBuildSlice ⟨?_⟩;refine v_op ?_;intro K k
 simp only [zE,zM,aStepM,optable,set_some,Nat.reduceEqDiff,reduceIte,Nat.reduceLT,implies_true,forall_const,reduceCtorEq,V.ofValue,V.ofScalar,V.un,V.gd,aExec,lentIds,lendOf,‹Tys _›.h,‹Fc _›.h]
 repeat (refine andC ?_)
 refine aCall_lent2XA (among_con code a9 s9 [0,1001] (by simp) hcode hcl (by omega)) ?_
 rintro _ _ ⟨v13,a13,s13,h13,k13,rfl,rfl⟩
 refine ⟨_,_,_,rfl,by first | exact .inr (List.all_eq_true.1 rfl) | exact .inl ⟨rfl,by simp [Blk.kindIs,fillK_fd,thK_fd]⟩,?_⟩;refine k _ ?_;clear k K
 simp only [zY,zW,set_some,Nat.reduceEqDiff,reduceIte,rho_one,rho_s,rho2_s,rho2_0,rho2_1,V.ren,V.renL,List.set_cons_zero,List.set_cons_succ,rho,Nat.reduceAdd,Nat.add_zero]
 simp only [List.mem_cons,List.not_mem_nil,or_false] at h13
 refine zBuildSlice ⟨?_⟩;refine v_op ?_;intro K k
 simp only [zE,zM,aStepM,optable,set_some,Nat.reduceEqDiff,reduceIte,Nat.reduceLT,implies_true,forall_const,reduceCtorEq,V.ofValue,V.ofScalar,V.un,V.gd,aExec,lentIds,lendOf,‹Tys _›.h,‹Fc _›.h]
 repeat (refine andC ?_)
 refine aCall_lent2XA (among_con code a13 s13 [1,2,5,60,1000,v13] (by simp) hcode hcl (by omega)) ?_
 rintro _ _ ⟨v15,a15,s15,h15,k15,rfl,rfl⟩
 refine ⟨_,_,_,rfl,by first | exact .inr (List.all_eq_true.1 rfl) | exact .inl ⟨rfl,by simp [Blk.kindIs,fillK_fd,thK_fd]⟩,?_⟩;refine k _ ?_;clear k K
 simp only [zY,zW,set_some,Nat.reduceEqDiff,reduceIte,rho_one,rho_s,rho2_s,rho2_0,rho2_1,V.ren,V.renL,List.set_cons_zero,List.set_cons_succ,rho,Nat.reduceAdd,Nat.add_zero]
 simp only [List.mem_cons,List.not_mem_nil,or_false] at h15
 refine zAssign ⟨?_⟩;refine zAssign ⟨?_⟩;refine k3 _ ?_;refine zq1 ⟨?_⟩;refine ret_viewX ?_
 exact ⟨v9,v15,by omega,rfl,rfl⟩
theorem drawDistanceOf_con (code:List Int) (hcode:∀x∈code,0≤x∧x≤255) (hcl:code.length≤9223372036854775807):ConX Tryz.prog 18 [.sl (code.map (V.int .u8))] [] (fun r O'=>∃(x0 x1 x2 x3 x4 y0 y1 y2 y3 y4:Int),(True)∧r=.tup [.agg [.int .i64 x0,.int .i64 x1,.int .i64 x2,.int .i64 x3,.int .i64 x4],.agg [.int .i64 y0,.int .i64 y1,.int .i64 y2,.int .i64 y3,.int .i64 y4]]∧O'=[]):=by
 refine v_conX [.cell 2 26,.cell 3 26] [(27,[0]),(37,[0]),(28,[0]),(29,[0,1]),(43,[0]),(56,[0])] Tryz.func18 rfl rfl rfl (by simp [Tryz.ntmps18]) ?_
 intro Q0 n0 r0
 simp only [Tryz.ntmps18,envFrom,Nat.reduceAdd]
 have T:=Tys.mk (ai Ty.t3 (ai Ty.t5 (ai Ty.t22 (ai Ty.t26 (ai Ty.t51 (ai Ty.t52 Ty.t54))))))
 have F:=Fc.mk True.intro
 refine yR [0,2,3] ⟨?_⟩;refine yR [2,3,4] ⟨?_⟩;refine v_seqR [2,3] ?_;intro K3 k3;refine zq2 ⟨?_⟩;refine v_op ?_;intro K k
 simp only [zE,zM,aStepM,optable,set_some,Nat.reduceEqDiff,reduceIte,Nat.reduceLT,implies_true,forall_const,reduceCtorEq,V.ofValue,V.ofScalar,V.un,V.gd,aExec,lentIds,lendOf,‹Tys _›.h,‹Fc _›.h]
 repeat (refine andC ?_)
 refine aCall_lentXA (pick_con code 0 0 (20) hcode hcl (by omega)) ?_
 rintro _ _ ⟨v10,a10,s10,h10,k10,rfl,rfl⟩
 refine ⟨_,_,rfl,by first | exact .inr (List.all_eq_true.1 rfl) | exact .inl ⟨rfl,by simp [Blk.kindIs,fillK_fd,thK_fd]⟩,?_⟩;refine k _ ?_;clear k K
 simp only [zY,zW,set_some,Nat.reduceEqDiff,reduceIte,rho_one,rho_s,rho2_s,rho2_0,rho2_1,V.ren,V.renL,List.set_cons_zero,List.set_cons_succ,rho,Nat.reduceAdd,Nat.add_zero]
 refine v_op ?_;intro K k
 simp only [zE,zM,aStepM,optable,set_some,Nat.reduceEqDiff,reduceIte,Nat.reduceLT,implies_true,forall_const,reduceCtorEq,V.ofValue,V.ofScalar,V.un,V.gd,aExec,lentIds,lendOf,‹Tys _›.h,‹Fc _›.h]
 repeat (refine andC ?_)
 refine aCall_lentXA (drawCall_con code a10 s10 (v10) hcode hcl (by omega)) ?_
 rintro _ _ ⟨e11,f11,g11,q11,u11,a11,s11,h11,k11,rfl,rfl⟩
 refine ⟨_,_,rfl,by first | exact .inr (List.all_eq_true.1 rfl) | exact .inl ⟨rfl,by simp [Blk.kindIs,fillK_fd,thK_fd]⟩,?_⟩;refine k _ ?_;clear k K
 simp only [zY,zW,set_some,Nat.reduceEqDiff,reduceIte,rho_one,rho_s,rho2_s,rho2_0,rho2_1,V.ren,V.renL,List.set_cons_zero,List.set_cons_succ,rho,Nat.reduceAdd,Nat.add_zero]
 refine zq2 ⟨?_⟩;refine v_op ?_;intro K k
 simp only [zE,zM,aStepM,optable,set_some,Nat.reduceEqDiff,reduceIte,Nat.reduceLT,implies_true,forall_const,reduceCtorEq,V.ofValue,V.ofScalar,V.un,V.gd,aExec,lentIds,lendOf,‹Tys _›.h,‹Fc _›.h]
 repeat (refine andC ?_)
 refine aCall_lentXA (pick_con code a11 s11 (20) hcode hcl (by omega)) ?_
 rintro _ _ ⟨v14,a14,s14,h14,k14,rfl,rfl⟩
 refine ⟨_,_,rfl,by first | exact .inr (List.all_eq_true.1 rfl) | exact .inl ⟨rfl,by simp [Blk.kindIs,fillK_fd,thK_fd]⟩,?_⟩;refine k _ ?_;clear k K
 simp only [zY,zW,set_some,Nat.reduceEqDiff,reduceIte,rho_one,rho_s,rho2_s,rho2_0,rho2_1,V.ren,V.renL,List.set_cons_zero,List.set_cons_succ,rho,Nat.reduceAdd,Nat.add_zero]
 refine v_op ?_;intro K k
 simp only [zE,zM,aStepM,optable,set_some,Nat.reduceEqDiff,reduceIte,Nat.reduceLT,implies_true,forall_const,reduceCtorEq,V.ofValue,V.ofScalar,V.un,V.gd,aExec,lentIds,lendOf,‹Tys _›.h,‹Fc _›.h]
 repeat (refine andC ?_)
 refine aCall_lentXA (drawCall_con code a14 s14 (v14) hcode hcl (by omega)) ?_
 rintro _ _ ⟨e15,f15,g15,q15,u15,a15,s15,h15,k15,rfl,rfl⟩
 refine ⟨_,_,rfl,by first | exact .inr (List.all_eq_true.1 rfl) | exact .inl ⟨rfl,by simp [Blk.kindIs,fillK_fd,thK_fd]⟩,?_⟩;refine k _ ?_;clear k K
 simp only [zY,zW,set_some,Nat.reduceEqDiff,reduceIte,rho_one,rho_s,rho2_s,rho2_0,rho2_1,V.ren,V.renL,List.set_cons_zero,List.set_cons_succ,rho,Nat.reduceAdd,Nat.add_zero]
 refine zStore ⟨?_⟩;refine zStore ⟨?_⟩;refine k3 _ ?_;refine zq1 ⟨?_⟩;refine zCl ⟨?_⟩
 try refine zCl ⟨?_⟩
 refine ret_viewX ?_
 exact ⟨e11,f11,g11,q11,u11,e15,f15,g15,q15,u15,rfl,rfl⟩
theorem drawAreCalls_con (code:List Int) (hcode:∀x∈code,0≤x∧x≤255) (hcl:code.length≤9223372036854775807):ConX Tryz.prog 46 [.sl (code.map (V.int .u8))] [] (fun r O'=>∃(l:List (Int×Int×Int×Int×Int)),(l.length≤22)∧r=.ref 0∧O'=[.arr (l.map (fun t:Int×Int×Int×Int×Int=>V.agg [V.int .i64 t.1,V.int .i64 t.2.1,V.int .i64 t.2.2.1,V.int .i64 t.2.2.2.1,V.int .i64 t.2.2.2.2])) .flat]):=by
 refine v_conX [.tmp 2] [(27,[0]),(37,[0]),(28,[0]),(29,[0,1]),(43,[0]),(56,[0])] Tryz.func46 rfl rfl rfl (by simp [Tryz.ntmps46]) ?_
 intro Q0 n0 r0
 simp only [Tryz.ntmps46,envFrom,Nat.reduceAdd]
 have T:=Tys.mk (ai Ty.t3 (ai Ty.t5 (ai Ty.t22 (ai Ty.t24 (ai Ty.t26 (ai Ty.t51 (ai Ty.t52 Ty.t54)))))))
 have F:=Fc.mk True.intro
 refine yR [0] ⟨?_⟩;refine yR [3] ⟨?_⟩;refine v_seqR [2] ?_;intro K3 k3;refine zMove ⟨?_⟩;refine v_op ?_;intro K k
 simp only [zE,zM,aStepM,optable,set_some,Nat.reduceEqDiff,reduceIte,Nat.reduceLT,implies_true,forall_const,reduceCtorEq,V.ofValue,V.ofScalar,V.un,V.gd,aExec,lentIds,lendOf,‹Tys _›.h,‹Fc _›.h]
 repeat (refine andC ?_)
 refine aCall_lentXA (drawCalls_con code 0 0 hcode hcl (by omega)) ?_
 rintro _ _ ⟨v8,a8,s8,h8,k8,rfl,rfl⟩
 refine ⟨_,_,rfl,by first | exact .inr (List.all_eq_true.1 rfl) | exact .inl ⟨rfl,by simp [Blk.kindIs,fillK_fd,thK_fd]⟩,?_⟩;refine k _ ?_;clear k K
 simp only [zY,zW,set_some,Nat.reduceEqDiff,reduceIte,rho_one,rho_s,rho2_s,rho2_0,rho2_1,V.ren,V.renL,List.set_cons_zero,List.set_cons_succ,rho,Nat.reduceAdd,Nat.add_zero]
 refine zAssign ⟨?_⟩;refine k3 _ ?_;refine zq1 ⟨?_⟩;refine ret_viewX ?_
 exact ⟨v8,by omega,rfl,rfl⟩
theorem drawCallsText_con (code:List Int) (hcode:∀x∈code,0≤x∧x≤255) (hcl:code.length≤9223372036854775807):ConX Tryz.prog 21 [.sl (code.map (V.int .u8))] [] (fun r O'=>∃(l:List (Int×Int×Int×Int×Int)),(l.length≤22)∧r=.ref 0∧O'=[.arr (l.map (fun t:Int×Int×Int×Int×Int=>V.agg [V.int .i64 t.1,V.int .i64 t.2.1,V.int .i64 t.2.2.1,V.int .i64 t.2.2.2.1,V.int .i64 t.2.2.2.2])) .flat]):=by
 refine v_conX [.tmp 2] [] Tryz.func21 rfl rfl rfl (by simp [Tryz.ntmps21]) ?_
 intro Q0 n0 r0
 simp only [Tryz.ntmps21,envFrom,Nat.reduceAdd]
 have T:=Tys.mk (ai Ty.t3 (ai Ty.t5 (ai Ty.t22 (ai Ty.t24 Ty.t26))))
 have F:=Fc.mk True.intro
 refine yR [0] ⟨?_⟩;refine v_seqR [2] ?_;intro K2 k2;refine zMove ⟨?_⟩;refine v_op ?_;intro K k
 simp only [zE,zM,aStepM,optable,set_some,Nat.reduceEqDiff,reduceIte,Nat.reduceLT,implies_true,forall_const,reduceCtorEq,V.ofValue,V.ofScalar,V.un,V.gd,aExec,lentIds,lendOf,‹Tys _›.h,‹Fc _›.h]
 repeat (refine andC ?_)
 refine aCall_newXA (drawAreCalls_con code hcode hcl) ?_
 rintro _ _ ⟨l,hql,rfl,rfl⟩
 refine ⟨by first | exact .inl ⟨rfl,by simp [Blk.kindIs,fillK_fd,thK_fd]⟩ | exact .inr (by simp [V.coldIn,V.cold,idx]),?_⟩;refine k _ ?_;clear k K
 simp only [zY,zW,set_some,Nat.reduceEqDiff,reduceIte,rho_one,rho_s,V.ren,V.renL,List.set_cons_zero,List.set_cons_succ,rho,Nat.reduceAdd,Nat.add_zero]
 refine zAssign ⟨?_⟩;refine k2 _ ?_;refine zq1 ⟨?_⟩;refine ret_viewX ?_
 exact ⟨l,hql,rfl,rfl⟩
end Go.Proofs.YtcdpeopiajgljaaGreatDoor
