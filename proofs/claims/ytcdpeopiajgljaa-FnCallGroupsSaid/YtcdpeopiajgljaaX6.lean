/- What functions compute. No condition. -/
import Derived.Test.YtcdpeopiajgljaaUz
import Derived.Test.YtcdpeopiajgljaaUty
import Derived.Test.YtcdpeopiajgljaaUmG
import Derived.Test.YtcdpeopiajgljaaX5
import Derived.Test.YtcdpeopiajgljaaX2
import Derived.Test.YtcdpeopiajgljaaX3
import Derived.Test.YtcdpeopiajgljaaX4
import Derived.Test.YtcdpeopiajgljaaX1
set_option linter.unusedSimpArgs false
set_option linter.unusedVariables false
set_option linter.defProp false
namespace Go.Proofs.Ytcdpeopiajgljaa
open Go Go.Vm
set_option maxHeartbeats 8000000
theorem drawGroupCalls_con (code:List Int) (hcode:∀x∈code,0≤x∧x≤255) (hcl:code.length≤9223372036854775807):ConX Try.prog 22 [.sl (code.map (V.int .u8))] [] (fun r O'=>∃(l:List (Int×Int×Int×Int×Int)) (wn rd:Int),(l.length≤22)∧r=.tup [.ref 0,.int .i64 wn,.int .i64 rd]∧O'=[.arr (l.map (fun t:Int×Int×Int×Int×Int=>V.agg [V.int .i64 t.1,V.int .i64 t.2.1,V.int .i64 t.2.2.1,V.int .i64 t.2.2.2.1,V.int .i64 t.2.2.2.2])) .flat]):=by
 refine v_conX [.tmp 2,.tmp 3,.tmp 4] [(58,[0]),(59,[0]),(60,[0])] Try.func22 rfl rfl rfl (by simp [Try.ntmps22]) ?_
 intro Q0 n0 r0
 simp only [Try.ntmps22,envFrom,Nat.reduceAdd]
 have T:=Tys.mk (ai Ty.t3 (ai Ty.t5 (ai Ty.t48 (ai Ty.t50 (ai Ty.t65 (ai Ty.t95 (ai Ty.t96 Ty.t98)))))))
 have F:=Fc.mk True.intro
 refine yR [0] ⟨?_⟩;refine yR [5] ⟨?_⟩;refine v_seqR [2,3,4] ?_;intro K3 k3;refine zMove ⟨?_⟩;refine v_op ?_;intro K k
 simp only [zE,zM,aStepM,optable,set_some,Nat.reduceEqDiff,reduceIte,Nat.reduceLT,implies_true,forall_const,reduceCtorEq,V.ofValue,V.ofScalar,V.un,V.gd,aExec,lentIds,lendOf,‹Tys _›.h,‹Fc _›.h]
 repeat (refine andC ?_)
 refine aCall_lentXA (drawCalls_con code 0 0 hcode hcl (by omega)) ?_
 rintro _ _ ⟨v10,a10,s10,h10,k10,rfl,rfl⟩
 refine ⟨_,_,rfl,by first | exact .inr (List.all_eq_true.1 rfl) | exact .inl ⟨rfl,by simp [Blk.kindIs,fillK_fd,thK_fd]⟩,?_⟩;refine k _ ?_;clear k K
 simp only [zY,zW,set_some,Nat.reduceEqDiff,reduceIte,rho_one,rho_s,rho2_s,rho2_0,rho2_1,V.ren,V.renL,List.set_cons_zero,List.set_cons_succ,rho,Nat.reduceAdd,Nat.add_zero]
 refine zMove ⟨?_⟩;refine v_op ?_;intro K k
 simp only [zE,zM,aStepM,optable,set_some,Nat.reduceEqDiff,reduceIte,Nat.reduceLT,implies_true,forall_const,reduceCtorEq,V.ofValue,V.ofScalar,V.un,V.gd,aExec,lentIds,lendOf,‹Tys _›.h,‹Fc _›.h]
 repeat (refine andC ?_)
 refine aCall_lentXA (drawWindowOf_con code a10 s10 hcode hcl (by omega)) ?_
 rintro _ _ ⟨v12,a12,s12,h12,k12,rfl,rfl⟩
 refine ⟨_,_,rfl,by first | exact .inr (List.all_eq_true.1 rfl) | exact .inl ⟨rfl,by simp [Blk.kindIs,fillK_fd,thK_fd]⟩,?_⟩;refine k _ ?_;clear k K
 simp only [zY,zW,set_some,Nat.reduceEqDiff,reduceIte,rho_one,rho_s,rho2_s,rho2_0,rho2_1,V.ren,V.renL,List.set_cons_zero,List.set_cons_succ,rho,Nat.reduceAdd,Nat.add_zero]
 refine zMove ⟨?_⟩;refine v_op ?_;intro K k
 simp only [zE,zM,aStepM,optable,set_some,Nat.reduceEqDiff,reduceIte,Nat.reduceLT,implies_true,forall_const,reduceCtorEq,V.ofValue,V.ofScalar,V.un,V.gd,aExec,lentIds,lendOf,‹Tys _›.h,‹Fc _›.h]
 repeat (refine andC ?_)
 refine aCall_lentXA (drawRadiusOf_con code a12 s12 hcode hcl (by omega)) ?_
 rintro _ _ ⟨v14,a14,s14,h14,k14,rfl,rfl⟩
 refine ⟨_,_,rfl,by first | exact .inr (List.all_eq_true.1 rfl) | exact .inl ⟨rfl,by simp [Blk.kindIs,fillK_fd,thK_fd]⟩,?_⟩;refine k _ ?_;clear k K
 simp only [zY,zW,set_some,Nat.reduceEqDiff,reduceIte,rho_one,rho_s,rho2_s,rho2_0,rho2_1,V.ren,V.renL,List.set_cons_zero,List.set_cons_succ,rho,Nat.reduceAdd,Nat.add_zero]
 refine zq9 ⟨?_⟩;refine zAssign ⟨?_⟩;refine k3 _ ?_;refine zq2 ⟨?_⟩;refine ret_viewX ?_
 exact ⟨v10,v12,v14,by omega,rfl,rfl⟩
theorem drawGroupFor_con (code:List Int) (hcode:∀x∈code,0≤x∧x≤255) (hcl:code.length≤9223372036854775807):ConX Try.prog 35 [.sl (code.map (V.int .u8))] [] (fun r O'=>∃(l:List (Int×Int×Int×Int×Int)) (wn rd x0 x1 x2 x3 x4:Int),(l.length≤22)∧r=.tup [.ref 0,.int .i64 wn,.int .i64 rd,.agg [.int .i64 x0,.int .i64 x1,.int .i64 x2,.int .i64 x3,.int .i64 x4]]∧O'=[.arr (l.map (fun t:Int×Int×Int×Int×Int=>V.agg [V.int .i64 t.1,V.int .i64 t.2.1,V.int .i64 t.2.2.1,V.int .i64 t.2.2.2.1,V.int .i64 t.2.2.2.2])) .flat]):=by
 refine v_conX [.tmp 2,.tmp 3,.tmp 4,.cell 5 65] [(58,[0]),(59,[0]),(60,[0]),(79,[0]),(102,[0,1]),(80,[0]),(101,[0])] Try.func35 rfl rfl rfl (by simp [Try.ntmps35]) ?_
 intro Q0 n0 r0
 simp only [Try.ntmps35,envFrom,Nat.reduceAdd]
 have T:=Tys.mk (ai Ty.t3 (ai Ty.t5 (ai Ty.t48 (ai Ty.t50 (ai Ty.t65 (ai Ty.t95 (ai Ty.t96 Ty.t98)))))))
 have F:=Fc.mk True.intro
 refine yR [0,5] ⟨?_⟩;refine yR [5,6] ⟨?_⟩;refine v_seqR [2,3,4,5] ?_;intro K3 k3;refine zMove ⟨?_⟩;refine v_op ?_;intro K k
 simp only [zE,zM,aStepM,optable,set_some,Nat.reduceEqDiff,reduceIte,Nat.reduceLT,implies_true,forall_const,reduceCtorEq,V.ofValue,V.ofScalar,V.un,V.gd,aExec,lentIds,lendOf,‹Tys _›.h,‹Fc _›.h]
 repeat (refine andC ?_)
 refine aCall_lentXA (drawCalls_con code 0 0 hcode hcl (by omega)) ?_
 rintro _ _ ⟨v11,a11,s11,h11,k11,rfl,rfl⟩
 refine ⟨_,_,rfl,by first | exact .inr (List.all_eq_true.1 rfl) | exact .inl ⟨rfl,by simp [Blk.kindIs,fillK_fd,thK_fd]⟩,?_⟩;refine k _ ?_;clear k K
 simp only [zY,zW,set_some,Nat.reduceEqDiff,reduceIte,rho_one,rho_s,rho2_s,rho2_0,rho2_1,V.ren,V.renL,List.set_cons_zero,List.set_cons_succ,rho,Nat.reduceAdd,Nat.add_zero]
 refine zMove ⟨?_⟩;refine v_op ?_;intro K k
 simp only [zE,zM,aStepM,optable,set_some,Nat.reduceEqDiff,reduceIte,Nat.reduceLT,implies_true,forall_const,reduceCtorEq,V.ofValue,V.ofScalar,V.un,V.gd,aExec,lentIds,lendOf,‹Tys _›.h,‹Fc _›.h]
 repeat (refine andC ?_)
 refine aCall_lentXA (drawWindowOf_con code a11 s11 hcode hcl (by omega)) ?_
 rintro _ _ ⟨v13,a13,s13,h13,k13,rfl,rfl⟩
 refine ⟨_,_,rfl,by first | exact .inr (List.all_eq_true.1 rfl) | exact .inl ⟨rfl,by simp [Blk.kindIs,fillK_fd,thK_fd]⟩,?_⟩;refine k _ ?_;clear k K
 simp only [zY,zW,set_some,Nat.reduceEqDiff,reduceIte,rho_one,rho_s,rho2_s,rho2_0,rho2_1,V.ren,V.renL,List.set_cons_zero,List.set_cons_succ,rho,Nat.reduceAdd,Nat.add_zero]
 refine zMove ⟨?_⟩;refine v_op ?_;intro K k
 simp only [zE,zM,aStepM,optable,set_some,Nat.reduceEqDiff,reduceIte,Nat.reduceLT,implies_true,forall_const,reduceCtorEq,V.ofValue,V.ofScalar,V.un,V.gd,aExec,lentIds,lendOf,‹Tys _›.h,‹Fc _›.h]
 repeat (refine andC ?_)
 refine aCall_lentXA (drawRadiusOf_con code a13 s13 hcode hcl (by omega)) ?_
 rintro _ _ ⟨v15,a15,s15,h15,k15,rfl,rfl⟩
 refine ⟨_,_,rfl,by first | exact .inr (List.all_eq_true.1 rfl) | exact .inl ⟨rfl,by simp [Blk.kindIs,fillK_fd,thK_fd]⟩,?_⟩;refine k _ ?_;clear k K
 simp only [zY,zW,set_some,Nat.reduceEqDiff,reduceIte,rho_one,rho_s,rho2_s,rho2_0,rho2_1,V.ren,V.renL,List.set_cons_zero,List.set_cons_succ,rho,Nat.reduceAdd,Nat.add_zero]
 refine zq3 ⟨?_⟩;refine v_op ?_;intro K k
 simp only [zE,zM,aStepM,optable,set_some,Nat.reduceEqDiff,reduceIte,Nat.reduceLT,implies_true,forall_const,reduceCtorEq,V.ofValue,V.ofScalar,V.un,V.gd,aExec,lentIds,lendOf,‹Tys _›.h,‹Fc _›.h]
 repeat (refine andC ?_)
 refine aCall_lentXA (pick_con code a15 s15 (60) hcode hcl (by omega)) ?_
 rintro _ _ ⟨v18,a18,s18,h18,k18,rfl,rfl⟩
 refine ⟨_,_,rfl,by first | exact .inr (List.all_eq_true.1 rfl) | exact .inl ⟨rfl,by simp [Blk.kindIs,fillK_fd,thK_fd]⟩,?_⟩;refine k _ ?_;clear k K
 simp only [zY,zW,set_some,Nat.reduceEqDiff,reduceIte,rho_one,rho_s,rho2_s,rho2_0,rho2_1,V.ren,V.renL,List.set_cons_zero,List.set_cons_succ,rho,Nat.reduceAdd,Nat.add_zero]
 refine v_op ?_;intro K k
 simp only [zE,zM,aStepM,optable,set_some,Nat.reduceEqDiff,reduceIte,Nat.reduceLT,implies_true,forall_const,reduceCtorEq,V.ofValue,V.ofScalar,V.un,V.gd,aExec,lentIds,lendOf,‹Tys _›.h,‹Fc _›.h]
 repeat (refine andC ?_)
 refine aCall_lentXA (drawCall_con code a18 s18 (v18) hcode hcl (by omega)) ?_
 rintro _ _ ⟨e19,f19,g19,q19,u19,a19,s19,h19,k19,rfl,rfl⟩
 refine ⟨_,_,rfl,by first | exact .inr (List.all_eq_true.1 rfl) | exact .inl ⟨rfl,by simp [Blk.kindIs,fillK_fd,thK_fd]⟩,?_⟩;refine k _ ?_;clear k K
 simp only [zY,zW,set_some,Nat.reduceEqDiff,reduceIte,rho_one,rho_s,rho2_s,rho2_0,rho2_1,V.ren,V.renL,List.set_cons_zero,List.set_cons_succ,rho,Nat.reduceAdd,Nat.add_zero]
 refine zq9 ⟨?_⟩;refine zAssign ⟨?_⟩;refine zStore ⟨?_⟩;refine k3 _ ?_;refine zq2 ⟨?_⟩;refine zCl ⟨?_⟩;refine ret_viewX ?_
 exact ⟨v11,v13,v15,e19,f19,g19,q19,u19,by omega,rfl,rfl⟩
theorem drawAreOneEvent_con (code:List Int) (hcode:∀x∈code,0≤x∧x≤255) (hcl:code.length≤9223372036854775807):ConX Try.prog 36 [.sl (code.map (V.int .u8))] [] (fun r O'=>∃(x0 x1 x2 x3 x4 y0 y1 y2 y3 y4 wn rd:Int),(-1≤wn)∧r=.tup [.agg [.int .i64 x0,.int .i64 x1,.int .i64 x2,.int .i64 x3,.int .i64 x4],.agg [.int .i64 y0,.int .i64 y1,.int .i64 y2,.int .i64 y3,.int .i64 y4],.int .i64 wn,.int .i64 rd]∧O'=[]):=by
 refine v_conX [.cell 2 65,.cell 3 65,.tmp 4,.tmp 5] [(58,[0]),(59,[0]),(60,[0]),(79,[0]),(102,[0,1]),(80,[0]),(101,[0])] Try.func36 rfl rfl rfl (by simp [Try.ntmps36]) ?_
 intro Q0 n0 r0
 simp only [Try.ntmps36,envFrom,Nat.reduceAdd]
 have T:=Tys.mk (ai Ty.t3 (ai Ty.t5 (ai Ty.t48 (ai Ty.t65 (ai Ty.t95 (ai Ty.t96 Ty.t98))))))
 have F:=Fc.mk True.intro
 refine yR [0,2,3] ⟨?_⟩;refine yR [2,3,6] ⟨?_⟩;refine v_seqR [2,3,4,5] ?_;intro K3 k3;refine zq3 ⟨?_⟩;refine v_op ?_;intro K k
 simp only [zE,zM,aStepM,optable,set_some,Nat.reduceEqDiff,reduceIte,Nat.reduceLT,implies_true,forall_const,reduceCtorEq,V.ofValue,V.ofScalar,V.un,V.gd,aExec,lentIds,lendOf,‹Tys _›.h,‹Fc _›.h]
 repeat (refine andC ?_)
 refine aCall_lentXA (pick_con code 0 0 (20) hcode hcl (by omega)) ?_
 rintro _ _ ⟨v12,a12,s12,h12,k12,rfl,rfl⟩
 refine ⟨_,_,rfl,by first | exact .inr (List.all_eq_true.1 rfl) | exact .inl ⟨rfl,by simp [Blk.kindIs,fillK_fd,thK_fd]⟩,?_⟩;refine k _ ?_;clear k K
 simp only [zY,zW,set_some,Nat.reduceEqDiff,reduceIte,rho_one,rho_s,rho2_s,rho2_0,rho2_1,V.ren,V.renL,List.set_cons_zero,List.set_cons_succ,rho,Nat.reduceAdd,Nat.add_zero]
 refine v_op ?_;intro K k
 simp only [zE,zM,aStepM,optable,set_some,Nat.reduceEqDiff,reduceIte,Nat.reduceLT,implies_true,forall_const,reduceCtorEq,V.ofValue,V.ofScalar,V.un,V.gd,aExec,lentIds,lendOf,‹Tys _›.h,‹Fc _›.h]
 repeat (refine andC ?_)
 refine aCall_lentXA (drawCall_con code a12 s12 (v12) hcode hcl (by omega)) ?_
 rintro _ _ ⟨e13,f13,g13,q13,u13,a13,s13,h13,k13,rfl,rfl⟩
 refine ⟨_,_,rfl,by first | exact .inr (List.all_eq_true.1 rfl) | exact .inl ⟨rfl,by simp [Blk.kindIs,fillK_fd,thK_fd]⟩,?_⟩;refine k _ ?_;clear k K
 simp only [zY,zW,set_some,Nat.reduceEqDiff,reduceIte,rho_one,rho_s,rho2_s,rho2_0,rho2_1,V.ren,V.renL,List.set_cons_zero,List.set_cons_succ,rho,Nat.reduceAdd,Nat.add_zero]
 refine zq3 ⟨?_⟩;refine v_op ?_;intro K k
 simp only [zE,zM,aStepM,optable,set_some,Nat.reduceEqDiff,reduceIte,Nat.reduceLT,implies_true,forall_const,reduceCtorEq,V.ofValue,V.ofScalar,V.un,V.gd,aExec,lentIds,lendOf,‹Tys _›.h,‹Fc _›.h]
 repeat (refine andC ?_)
 refine aCall_lentXA (pick_con code a13 s13 (20) hcode hcl (by omega)) ?_
 rintro _ _ ⟨v16,a16,s16,h16,k16,rfl,rfl⟩
 refine ⟨_,_,rfl,by first | exact .inr (List.all_eq_true.1 rfl) | exact .inl ⟨rfl,by simp [Blk.kindIs,fillK_fd,thK_fd]⟩,?_⟩;refine k _ ?_;clear k K
 simp only [zY,zW,set_some,Nat.reduceEqDiff,reduceIte,rho_one,rho_s,rho2_s,rho2_0,rho2_1,V.ren,V.renL,List.set_cons_zero,List.set_cons_succ,rho,Nat.reduceAdd,Nat.add_zero]
 refine v_op ?_;intro K k
 simp only [zE,zM,aStepM,optable,set_some,Nat.reduceEqDiff,reduceIte,Nat.reduceLT,implies_true,forall_const,reduceCtorEq,V.ofValue,V.ofScalar,V.un,V.gd,aExec,lentIds,lendOf,‹Tys _›.h,‹Fc _›.h]
 repeat (refine andC ?_)
 refine aCall_lentXA (drawCall_con code a16 s16 (v16) hcode hcl (by omega)) ?_
 rintro _ _ ⟨e17,f17,g17,q17,u17,a17,s17,h17,k17,rfl,rfl⟩
 refine ⟨_,_,rfl,by first | exact .inr (List.all_eq_true.1 rfl) | exact .inl ⟨rfl,by simp [Blk.kindIs,fillK_fd,thK_fd]⟩,?_⟩;refine k _ ?_;clear k K
 simp only [zY,zW,set_some,Nat.reduceEqDiff,reduceIte,rho_one,rho_s,rho2_s,rho2_0,rho2_1,V.ren,V.renL,List.set_cons_zero,List.set_cons_succ,rho,Nat.reduceAdd,Nat.add_zero]
 refine zMove ⟨?_⟩;refine v_op ?_;intro K k
 simp only [zE,zM,aStepM,optable,set_some,Nat.reduceEqDiff,reduceIte,Nat.reduceLT,implies_true,forall_const,reduceCtorEq,V.ofValue,V.ofScalar,V.un,V.gd,aExec,lentIds,lendOf,‹Tys _›.h,‹Fc _›.h]
 repeat (refine andC ?_)
 refine aCall_lentXA (drawWindowOf_con code a17 s17 hcode hcl (by omega)) ?_
 rintro _ _ ⟨v19,a19,s19,h19,k19,rfl,rfl⟩
 refine ⟨_,_,rfl,by first | exact .inr (List.all_eq_true.1 rfl) | exact .inl ⟨rfl,by simp [Blk.kindIs,fillK_fd,thK_fd]⟩,?_⟩;refine k _ ?_;clear k K
 simp only [zY,zW,set_some,Nat.reduceEqDiff,reduceIte,rho_one,rho_s,rho2_s,rho2_0,rho2_1,V.ren,V.renL,List.set_cons_zero,List.set_cons_succ,rho,Nat.reduceAdd,Nat.add_zero]
 refine zMove ⟨?_⟩;refine v_op ?_;intro K k
 simp only [zE,zM,aStepM,optable,set_some,Nat.reduceEqDiff,reduceIte,Nat.reduceLT,implies_true,forall_const,reduceCtorEq,V.ofValue,V.ofScalar,V.un,V.gd,aExec,lentIds,lendOf,‹Tys _›.h,‹Fc _›.h]
 repeat (refine andC ?_)
 refine aCall_lentXA (drawRadiusOf_con code a19 s19 hcode hcl (by omega)) ?_
 rintro _ _ ⟨v21,a21,s21,h21,k21,rfl,rfl⟩
 refine ⟨_,_,rfl,by first | exact .inr (List.all_eq_true.1 rfl) | exact .inl ⟨rfl,by simp [Blk.kindIs,fillK_fd,thK_fd]⟩,?_⟩;refine k _ ?_;clear k K
 simp only [zY,zW,set_some,Nat.reduceEqDiff,reduceIte,rho_one,rho_s,rho2_s,rho2_0,rho2_1,V.ren,V.renL,List.set_cons_zero,List.set_cons_succ,rho,Nat.reduceAdd,Nat.add_zero]
 refine zStore ⟨?_⟩;refine zStore ⟨?_⟩;refine zq9 ⟨?_⟩;refine k3 _ ?_;refine zq2 ⟨?_⟩;refine zCl ⟨?_⟩
 try refine zCl ⟨?_⟩
 refine ret_viewX ?_
 exact ⟨e13,f13,g13,q13,u13,e17,f17,g17,q17,u17,v19,v21,by omega,rfl,rfl⟩
set_option maxRecDepth 8000 in
theorem specGroupFor_con (l:List (Int×Int×Int×Int×Int)) (hl:l.length≤1048576) (wn rd:Int) (c0:Int) (c1:Int) (c2:Int) (c3:Int) (c4:Int):Con Try.prog 34 [.sl (l.map (fun t:Int×Int×Int×Int×Int=>V.agg [V.int .i64 t.1,V.int .i64 t.2.1,V.int .i64 t.2.2.1,V.int .i64 t.2.2.2.1,V.int .i64 t.2.2.2.2])),.int .i64 wn,.int .i64 rd,.agg [V.int .i64 c0,V.int .i64 c1,V.int .i64 c2,V.int .i64 c3,V.int .i64 c4]] [] (.tup [.int .i64 (gfV l wn rd (c0,c1,c2,c3,c4)),.bool (gfB l wn rd (c0,c1,c2,c3,c4))]) []:=by
 refine v_con [.tmp 8,.tmp 9] [] Try.func34 rfl rfl rfl (by simp [Try.ntmps34]) ?_
 intro Q0 n0 r0
 simp only [Try.ntmps34,envFrom,Nat.reduceAdd]
 have T:=Tys.mk (ai Ty.t3 (ai Ty.t4 (ai Ty.t26 (ai Ty.t50 (ai Ty.t53 Ty.t65)))))
 have F:=Fc.mk True.intro
 refine yR [0,1,2,7] ⟨?_⟩;refine v_seq ?_;intros;refine yRcgg [0,1,2,7,27] (clGood_con l hl) (clLimits_con wn rd) (clOne_con c0 c1 c2 c3 c4) ⟨?_⟩;refine v_condS _ rfl ?_ ?_
 ·intro hc0
  have hB:(gfB l wn rd (c0,c1,c2,c3,c4))=false:=by
   cases hq:(gfB l wn rd (c0,c1,c2,c3,c4)) with
   |false=>rfl
   |true=>
    exfalso
    rw [gfB,gcB,Bool.and_eq_true,Bool.and_eq_true,Bool.and_eq_true] at hq
    simp [hq.1.1.1,hq.1.1.2,hq.1.2] at hc0
  refine yR [8,9] ⟨?_⟩;refine zr ⟨?_⟩
  exact ret_pure rfl (by rw [gfV,hB];rfl) (.inl rfl)
 ·intro hc0
  have hq:(csB l=true∧winB wn rd=true)∧cOne (c0,c1,c2,c3,c4)=true:=by
   (try simp at hc0)
   first | exact hc0 | exact ⟨⟨hc0.1,hc0.2.1⟩,hc0.2.2⟩ | exact ⟨⟨hc0.2.2,hc0.2.1⟩,hc0.1⟩ | (refine ⟨⟨?_,?_⟩,?_⟩<;>simp_all)
  have hb:=hq.1.1
  have hco:=hq.2
  have hea:=cs_each hb
  have hgB:(gfB l wn rd (c0,c1,c2,c3,c4))=decide (0≤(gfF l wn rd (c0,c1,c2,c3,c4))):=by rw [gfB,gcB,hb,hq.1.2,hco];rfl
  have hGl:(groupsC l wn rd).length≤l.length:=outTo_len _ _ _
  refine zn [0,1,2,7] ⟨?_⟩;refine v_seq ?_;intros;refine yRc [0,1,2,7,31,32,33] (clGroups_con l wn rd hb) ⟨?_⟩;refine v_block ?_;intros;refine v_loop (fun gi=>⟨[(0,.sl (l.map (fun t:Int×Int×Int×Int×Int=>V.agg [V.int .i64 t.1,V.int .i64 t.2.1,V.int .i64 t.2.2.1,V.int .i64 t.2.2.2.1,V.int .i64 t.2.2.2.2]))),(1,.int .i64 wn),(2,.int .i64 rd),(7,.ptr 0 0 0),(31,.ref 1),(32,.int .i64 (groupsC l wn rd).length),(33,.int .i64 (Nat.cast gi))],[.box (.agg [V.int .i64 c0,V.int .i64 c1,V.int .i64 c2,V.int .i64 c3,V.int .i64 c4]) .flat,.arr ((groupsC l wn rd).map (fun l:List Int=>V.sl (l.map (V.int .i64)))) (fillK (groupsC l wn rd).length)],true,55,0⟩) (fun gi=>gi≤(groupsC l wn rd).length∧firstP (fun g:List Int=>g.any (hasI l wn rd (c0,c1,c2,c3,c4))) gi ((groupsC l wn rd).drop gi)=firstP (fun g:List Int=>g.any (hasI l wn rd (c0,c1,c2,c3,c4))) 0 (groupsC l wn rd)) (fun gi=>(groupsC l wn rd).length - gi) 0 ?_ ?_ ?_
  ·refine weak_trans (weak_keep [0,1,2,7,31,32,33] _) ?_
   simp only [keep_mk,keepE_nil,keepE_cons,look_cons,look_nil,Nat.reduceEqDiff,reduceIte]
   exact weak_view
  ·exact ⟨Nat.zero_le _,rfl⟩
  ·rintro gi hok9 Q9 n9 e9 r9
   obtain ⟨hi1,hR⟩:=hok9
   refine yR [0,1,2,7,31,32,33,34] ⟨?_⟩;refine v_seq ?_;intros;refine v_condS _ rfl ?_ ?_
   ·intro hc1
    have hlt:gi < (groupsC l wn rd).length:=by omega
    obtain ⟨g,hg⟩:∃x,(groupsC l wn rd)[gi]? =some x:=⟨(groupsC l wn rd)[gi],List.getElem?_eq_getElem hlt⟩
    have hgm:=groups_in (List.mem_of_getElem? hg)
    have hgl:=groups_len (List.mem_of_getElem? hg)
    have hst:=first_step (p:=(fun g:List Int=>g.any (hasI l wn rd (c0,c1,c2,c3,c4)))) hg
    refine zn [0,1,2,7,31,32,33] ⟨?_⟩;refine v_seq ?_;intros;refine v_block ?_;intros
    have F:=Fc.mk (gdm hg)
    refine yR [0,1,2,7,10,11,31,32,33] ⟨?_⟩;refine yR [0,1,2,7,10,31,32,33,38,39,40] ⟨?_⟩;refine v_block ?_;intros;refine v_loop (fun jj=>⟨[(0,.sl (l.map (fun t:Int×Int×Int×Int×Int=>V.agg [V.int .i64 t.1,V.int .i64 t.2.1,V.int .i64 t.2.2.1,V.int .i64 t.2.2.2.1,V.int .i64 t.2.2.2.2]))),(1,.int .i64 wn),(2,.int .i64 rd),(7,.ptr 0 0 0),(10,.int .i64 (Nat.cast gi)),(31,.ref 1),(32,.int .i64 (groupsC l wn rd).length),(33,.int .i64 (Nat.cast gi)),(38,.sl (g.map (V.int .i64))),(39,.int .i64 g.length),(40,.int .i64 (Nat.cast jj))],[.box (.agg [V.int .i64 c0,V.int .i64 c1,V.int .i64 c2,V.int .i64 c3,V.int .i64 c4]) .flat,.arr ((groupsC l wn rd).map (fun l:List Int=>V.sl (l.map (V.int .i64)))) (fillK (groupsC l wn rd).length)],true,55,0⟩) (fun jj=>jj≤g.length∧(g.drop jj).any (hasI l wn rd (c0,c1,c2,c3,c4))=g.any (hasI l wn rd (c0,c1,c2,c3,c4))) (fun jj=>g.length - jj) (0:Nat) ?_ ?_ ?_
    ·refine weak_bothS [0,1,2,7,10,31,32,33,38,39,40] [0,1] ⟨?_⟩
     rfl
    ·exact ⟨Nat.zero_le _,rfl⟩
    ·rintro jj hok18 Q18 n18 e18 r18
     obtain ⟨hj1,hJ⟩:=hok18
     refine yR [0,1,2,7,10,31,32,33,38,39,40,41] ⟨?_⟩;refine v_seq ?_;intros;refine v_condS _ rfl ?_ ?_
     ·intro hc2
      have hltj:jj < g.length:=by omega
      obtain ⟨xg,hxg⟩:∃x,g[jj]? =some x:=⟨g[jj],List.getElem?_eq_getElem hltj⟩
      obtain ⟨xn,rfl,hxn⟩:=hgm _ (List.mem_of_getElem? hxg)
      obtain ⟨⟨x0,x1,x2,x3,x4⟩,hx⟩:∃x:Int×Int×Int×Int×Int,l[xn]? =some x:=⟨l[xn]'(by omega),List.getElem?_eq_getElem (by omega)⟩
      have hxo:=hea _ (List.mem_of_getElem? hx)
      have hha:(hasI l wn rd (c0,c1,c2,c3,c4)) (xn:Int)=nearB wn rd (x0,x1,x2,x3,x4) (c0,c1,c2,c3,c4):=hasI_at hx
      have hsj:(g.drop jj).any (hasI l wn rd (c0,c1,c2,c3,c4))=(nearB wn rd (x0,x1,x2,x3,x4) (c0,c1,c2,c3,c4) || (g.drop (jj+1)).any (hasI l wn rd (c0,c1,c2,c3,c4))):=by rw [getElem_drop_cons hxg,List.any_cons,hha]
      refine zn [0,1,2,7,10,31,32,33,38,39,40] ⟨?_⟩;refine v_seq ?_;intros;refine v_block ?_;intros
      have F:=Fc.mk (ai (gdm hg) (ai (gdm hxg) (ai @Int.toNat_natCast (gdm hx))))
      refine yR [0,1,2,7,10,13,31,32,33,38,39,40] ⟨?_⟩;refine v_seq ?_;intro Q25 n25 e25 r25;refine v_draw (by kernel_rfl) ?_;intro K26 q26 k26
      show aAny _ _ _ _ 8 (Array.replicate 8 false) _
      refine zdMove q26 true 0 44 ?_;refine zdMove q26 true 1 45 ?_;refine zdIndexAddr q26 true 2 46 ?_;refine zdLoad q26 true 3 47 ?_;refine zdLoad q26 true 4 48 ?_;refine zdMove q26 true 5 49 ?_;refine zdMove q26 true 6 50 ?_;refine zoc 7 (clSame_con x0 x1 x2 x3 x4 c0 c1 c2 c3 c4 hxo hco wn rd) ⟨?_⟩;refine aAny_done (by kernel_rfl) ?_;refine k26 _ ?_;refine n25 _ _ (weak_keep [0,1,2,7,10,31,32,33,38,39,40,51] _) ?_;refine zk ⟨?_⟩;refine v_condS _ rfl ?_ ?_
      ·intro hc3
       have hnr:=hc3
       have hyes:g.any (hasI l wn rd (c0,c1,c2,c3,c4))=true:=by rw [←hJ,hsj,hnr];rfl
       have hgF:(gfF l wn rd (c0,c1,c2,c3,c4))=(gi:Int):=by rw [gfF,←hR,hst,if_pos hyes]
       have hB1:(gfB l wn rd (c0,c1,c2,c3,c4))=true:=by rw [hgB,hgF];simp
       refine yR [8,9] ⟨?_⟩;refine zr ⟨?_⟩
       exact ret_pure rfl (by rw [gfV,hB1,if_pos rfl,hgF]) (.inr rfl)
      ·intro hc3
       have hnr:=hc3
       refine zn [0,1,2,7,10,31,32,33,38,39,40] ⟨?_⟩;refine yV ⟨?_⟩;refine n18 _ (jj+1) ?_ ?_ ?_
       ·refine weak_bothS [0,1,2,7,10,31,32,33,38,39,40] [0,1] ⟨?_⟩
        rfl
       ·exact ⟨hltj,by rw [←hJ,hsj,show nearB wn rd _ _=false from by simpa using hnr,Bool.false_or]⟩
       ·show _ < _;omega
     ·intro hc2
      have hno:g.any (hasI l wn rd (c0,c1,c2,c3,c4))=false:=by rw [←hJ,List.drop_of_length_le (by omega)];rfl
      refine zn [0,1,2,7,31,32,33] ⟨?_⟩;refine yV ⟨?_⟩;refine n9 _ (gi+1) ?_ ?_ ?_
      ·refine weak_bothS [0,1,2,7,31,32,33] [0,1] ⟨?_⟩
       rfl
      ·exact ⟨hlt,by rw [←hR,hst,if_neg (by rw [hno];exact Bool.false_ne_true)]⟩
      ·show _ < _;omega
   ·intro hc1
    have hgF:(gfF l wn rd (c0,c1,c2,c3,c4))=-1:=by rw [gfF,←hR,first_end (by omega)]
    have hB1:(gfB l wn rd (c0,c1,c2,c3,c4))=false:=by rw [hgB,hgF];rfl
    refine zn [] ⟨?_⟩;refine yR [8,9] ⟨?_⟩;refine zr ⟨?_⟩
    exact ret_pure rfl (by rw [gfV,hB1];rfl) (.inr rfl)
set_option maxRecDepth 8000 in
theorem implGroupFor_con (l:List (Int×Int×Int×Int×Int)) (hl:l.length≤1048576) (wn rd:Int) (c0:Int) (c1:Int) (c2:Int) (c3:Int) (c4:Int):Con Try.prog 33 [.sl (l.map (fun t:Int×Int×Int×Int×Int=>V.agg [V.int .i64 t.1,V.int .i64 t.2.1,V.int .i64 t.2.2.1,V.int .i64 t.2.2.2.1,V.int .i64 t.2.2.2.2])),.int .i64 wn,.int .i64 rd,.agg [V.int .i64 c0,V.int .i64 c1,V.int .i64 c2,V.int .i64 c3,V.int .i64 c4]] [] (.tup [.int .i64 (gfV l wn rd (c0,c1,c2,c3,c4)),.bool (gfB l wn rd (c0,c1,c2,c3,c4))]) []:=by
 refine v_con [.tmp 8,.tmp 9] [] Try.func33 rfl rfl rfl (by simp [Try.ntmps33]) ?_
 intro Q0 n0 r0
 simp only [Try.ntmps33,envFrom,Nat.reduceAdd]
 have T:=Tys.mk (ai Ty.t3 (ai Ty.t4 (ai Ty.t26 (ai Ty.t50 (ai Ty.t53 Ty.t65)))))
 have F:=Fc.mk True.intro
 refine yR [4,5,6,7] ⟨?_⟩;refine v_seq ?_;intros;refine yRcgg [4,5,6,7,25] (areCalls_con l hl) (windowFits_con wn rd) (isCall_con c0 c1 c2 c3 c4) ⟨?_⟩;refine v_condS _ rfl ?_ ?_
 ·intro hc0
  have hB:(gfB l wn rd (c0,c1,c2,c3,c4))=false:=by
   cases hq:(gfB l wn rd (c0,c1,c2,c3,c4)) with
   |false=>rfl
   |true=>
    exfalso
    rw [gfB,gcB,Bool.and_eq_true,Bool.and_eq_true,Bool.and_eq_true] at hq
    simp [hq.1.1.1,hq.1.1.2,hq.1.2] at hc0
  refine yR [8,9] ⟨?_⟩;refine zr ⟨?_⟩
  exact ret_pure rfl (by rw [gfV,hB];rfl) (.inl rfl)
 ·intro hc0
  have hq:(csB l=true∧winB wn rd=true)∧cOne (c0,c1,c2,c3,c4)=true:=by
   (try simp at hc0)
   first | exact hc0 | exact ⟨⟨hc0.1,hc0.2.1⟩,hc0.2.2⟩ | exact ⟨⟨hc0.2.2,hc0.2.1⟩,hc0.1⟩ | (refine ⟨⟨?_,?_⟩,?_⟩<;>simp_all)
  have hb:=hq.1.1
  have hco:=hq.2
  have hea:=cs_each hb
  have hgB:(gfB l wn rd (c0,c1,c2,c3,c4))=decide (0≤(gfF l wn rd (c0,c1,c2,c3,c4))):=by rw [gfB,gcB,hb,hq.1.2,hco];rfl
  have hGl:(groupsC l wn rd).length≤l.length:=outTo_len _ _ _
  refine zn [4,5,6,7] ⟨?_⟩;refine v_seq ?_;intros;refine yRc [4,5,6,7,29,30,31] (groupCalls_con l wn rd hb) ⟨?_⟩;refine v_block ?_;intros;refine v_loop (fun gi=>⟨[(4,.ptr 0 0 0),(5,.ptr 1 0 0),(6,.ptr 2 0 0),(7,.ptr 3 0 0),(29,.ref 4),(30,.int .i64 (groupsC l wn rd).length),(31,.int .i64 (Nat.cast gi))],[.box (.sl (l.map (fun t:Int×Int×Int×Int×Int=>V.agg [V.int .i64 t.1,V.int .i64 t.2.1,V.int .i64 t.2.2.1,V.int .i64 t.2.2.2.1,V.int .i64 t.2.2.2.2]))) .shal,.box (.int .i64 wn) .flat,.box (.int .i64 rd) .flat,.box (.agg [V.int .i64 c0,V.int .i64 c1,V.int .i64 c2,V.int .i64 c3,V.int .i64 c4]) .flat,.arr ((groupsC l wn rd).map (fun l:List Int=>V.sl (l.map (V.int .i64)))) (fillK (groupsC l wn rd).length)],true,41,0⟩) (fun gi=>gi≤(groupsC l wn rd).length∧firstP (fun g:List Int=>g.any (hasI l wn rd (c0,c1,c2,c3,c4))) gi ((groupsC l wn rd).drop gi)=firstP (fun g:List Int=>g.any (hasI l wn rd (c0,c1,c2,c3,c4))) 0 (groupsC l wn rd)) (fun gi=>(groupsC l wn rd).length - gi) 0 ?_ ?_ ?_
  ·refine weak_trans (weak_keep [4,5,6,7,29,30,31] _) ?_
   simp only [keep_mk,keepE_nil,keepE_cons,look_cons,look_nil,Nat.reduceEqDiff,reduceIte]
   exact weak_view
  ·exact ⟨Nat.zero_le _,rfl⟩
  ·rintro gi hok9 Q9 n9 e9 r9
   obtain ⟨hi1,hR⟩:=hok9
   refine yR [4,5,6,7,29,30,31,32] ⟨?_⟩;refine v_seq ?_;intros;refine v_condS _ rfl ?_ ?_
   ·intro hc1
    have hlt:gi < (groupsC l wn rd).length:=by omega
    obtain ⟨g,hg⟩:∃x,(groupsC l wn rd)[gi]? =some x:=⟨(groupsC l wn rd)[gi],List.getElem?_eq_getElem hlt⟩
    have hgm:=groups_in (List.mem_of_getElem? hg)
    have hgl:=groups_len (List.mem_of_getElem? hg)
    have hst:=first_step (p:=(fun g:List Int=>g.any (hasI l wn rd (c0,c1,c2,c3,c4)))) hg
    have hclos:∀z0,z0∈g→Con Try.prog 78 (V.int .i64 z0::[.pv [.sl (l.map (fun t:Int×Int×Int×Int×Int=>V.agg [V.int .i64 t.1,V.int .i64 t.2.1,V.int .i64 t.2.2.1,V.int .i64 t.2.2.2.1,V.int .i64 t.2.2.2.2]))] 0 0,.pv [.agg [V.int .i64 c0,V.int .i64 c1,V.int .i64 c2,V.int .i64 c3,V.int .i64 c4]] 0 0,.pv [.int .i64 wn] 0 0,.pv [.int .i64 rd] 0 0]) [] (.bool ((hasI l wn rd (c0,c1,c2,c3,c4)) z0)) []:=by
     intro z0 hm
     obtain ⟨xn,rfl,hxn⟩:=hgm z0 hm
     obtain ⟨⟨x0,x1,x2,x3,x4⟩,hx⟩:∃x:Int×Int×Int×Int×Int,l[xn]? =some x:=⟨l[xn]'(by omega),List.getElem?_eq_getElem (by omega)⟩
     rw [hasI_at hx]
     exact groupFor1_con l hl xn x0 x1 x2 x3 x4 c0 c1 c2 c3 c4 wn rd hx (hea _ (List.mem_of_getElem? hx)) hco
    refine zn [4,5,6,7,29,30,31] ⟨?_⟩;refine v_seq ?_;intros;refine v_block ?_;intros
    have F:=Fc.mk (gdm hg)
    refine yR [4,5,6,7,10,11,29,30,31] ⟨?_⟩;refine yRc [4,5,6,7,10,29,30,31,38] (containsFuncInt_con g _ _ (hasI l wn rd (c0,c1,c2,c3,c4)) (by omega) (.pv _ (.pv _ (.pv _ (.pv _ .nil)))) hclos) ⟨?_⟩;refine v_condS _ rfl ?_ ?_
    ·intro hc2
     have hgF:(gfF l wn rd (c0,c1,c2,c3,c4))=(gi:Int):=by rw [gfF,←hR,hst,if_pos hc2]
     have hB1:(gfB l wn rd (c0,c1,c2,c3,c4))=true:=by rw [hgB,hgF];simp
     refine yR [8,9] ⟨?_⟩;refine zr ⟨?_⟩
     exact ret_pure rfl (by rw [gfV,hB1,if_pos rfl,hgF]) (.inr rfl)
    ·intro hc2
     have hnr:=hc2
     refine zn [4,5,6,7,29,30,31] ⟨?_⟩;refine yV ⟨?_⟩;refine n9 _ (gi+1) ?_ ?_ ?_
     ·refine weak_bothS [4,5,6,7,29,30,31] [0,1,2,3,4] ⟨?_⟩
      rfl
     ·exact ⟨hlt,by rw [←hR,hst,if_neg (by simpa using hnr)]⟩
     ·show _ < _;omega
   ·intro hc1
    have hgF:(gfF l wn rd (c0,c1,c2,c3,c4))=-1:=by rw [gfF,←hR,first_end (by omega)]
    have hB1:(gfB l wn rd (c0,c1,c2,c3,c4))=false:=by rw [hgB,hgF];rfl
    refine zn [] ⟨?_⟩;refine yR [8,9] ⟨?_⟩;refine zr ⟨?_⟩
    exact ret_pure rfl (by rw [gfV,hB1];rfl) (.inr rfl)
theorem rise_pw {lo hi:Int}:∀{l:List Int} {p:Option Int},risingFrom lo hi p l=true→l.Pairwise (· < ·)∧∀q,p=some q→∀x∈l,q < x
  | [],_,_=>⟨List.Pairwise.nil,fun _ _ x hx=>by cases hx⟩
  | y ::l,p,h=>by
    have h2:risingFrom lo hi (some y) l=true:=by
      cases p<;>simp [risingFrom] at h<;>simp [h]
    obtain ⟨h3,h4⟩:=rise_pw h2
    refine ⟨List.pairwise_cons.2 ⟨h4 y rfl,h3⟩,fun q hq x hx=> ?_⟩
    subst hq
    have h5:q < y:=by
      simp [risingFrom] at h;exact h.1.2
    rcases List.mem_cons.1 hx with e | e
    · rw [e];exact h5
    · have:=h4 y rfl x e;omega
def atC (l:List (Int×Int×Int×Int×Int)) (i:Int):(Int×Int×Int×Int×Int):=l.getD i.toNat (0,0,0,0,0)
theorem atC_at {l:List (Int×Int×Int×Int×Int)} {k:Nat} {x:(Int×Int×Int×Int×Int)} (h:l[k]? =some x):atC l (k:Int)=x:=by rw [atC,Int.toNat_natCast,List.getD_eq_getElem?_getD,h];rfl
def colX (l:List (Int×Int×Int×Int×Int)) (g:List Int):List Int:=g.map fun i=>(atC l i).2.1
def colY (l:List (Int×Int×Int×Int×Int)) (g:List Int):List Int:=g.map fun i=>(atC l i).2.2.1
def colP (l:List (Int×Int×Int×Int×Int)) (g:List Int):List Int:=g.map fun i=>(atC l i).2.2.2.2
theorem colX_snoc {l:List (Int×Int×Int×Int×Int)} {g:List Int} {j k:Nat} {x:(Int×Int×Int×Int×Int)} (hg:g[j]? =some (k:Int)) (hx:l[k]? =some x):colX l (g.take (j+1))=colX l (g.take j)++[x.2.1]:=by
  rw [List.take_add_one,hg,colX,List.map_append]
  show _++[(atC l (k:Int)).2.1]=_
  rw [atC_at hx];rfl
theorem colY_snoc {l:List (Int×Int×Int×Int×Int)} {g:List Int} {j k:Nat} {x:(Int×Int×Int×Int×Int)} (hg:g[j]? =some (k:Int)) (hx:l[k]? =some x):colY l (g.take (j+1))=colY l (g.take j)++[x.2.2.1]:=by
  rw [List.take_add_one,hg,colY,List.map_append]
  show _++[(atC l (k:Int)).2.2.1]=_
  rw [atC_at hx];rfl
theorem colP_at {l:List (Int×Int×Int×Int×Int)} {g:List Int} {j k:Nat} {x:(Int×Int×Int×Int×Int)} (hg:g[j]? =some (k:Int)) (hx:l[k]? =some x):(colP l g)[j]? =some x.2.2.2.2:=by
  rw [colP,List.getElem?_map,hg]
  show some (atC l (k:Int)).2.2.2.2=_
  rw [atC_at hx]
theorem colX_len (l:List (Int×Int×Int×Int×Int)) (g:List Int):(colX l g).length=g.length:=List.length_map ..
theorem colY_len (l:List (Int×Int×Int×Int×Int)) (g:List Int):(colY l g).length=g.length:=List.length_map ..
theorem colP_len (l:List (Int×Int×Int×Int×Int)) (g:List Int):(colP l g).length=g.length:=List.length_map ..
def midI (zs:List Int):Int:=(sortL zs).getD (zs.length / 2) 0
theorem midI_at {zs:List Int} (h:0 < zs.length):(sortL zs)[zs.length / 2]? =some (midI zs):=by
  have:zs.length / 2 < (sortL zs).length:=by rw [(gsort_perm zs).length_eq];omega
  rw [midI,List.getD_eq_getElem?_getD,List.getElem?_eq_getElem this];rfl
def mgB (l:List (Int×Int×Int×Int×Int)) (g:List Int):Bool:=csB l && isG l.length g
def mgX (l:List (Int×Int×Int×Int×Int)) (g:List Int):Int:=if mgB l g=true then midI (colX l g) else 0
def mgY (l:List (Int×Int×Int×Int×Int)) (g:List Int):Int:=if mgB l g=true then midI (colY l g) else 0
def addP (l:List Int) (n:Int):List Int:=if n∈l then l else putL l n
def putTo (zs:List Int) (i:Nat):List Int:=(zs.take i).foldl addP []
theorem putTo_zero (zs:List Int):putTo zs 0=[]:=rfl
theorem putTo_step {zs:List Int} {i:Nat} {z:Int} (h:zs[i]? =some z):putTo zs (i+1)=addP (putTo zs i) z:=by
  rw [putTo,List.take_add_one,h,List.foldl_append];rfl
theorem putTo_past {zs:List Int} {i:Nat} (h:zs[i]? =none):putTo zs (i+1)=putTo zs i:=by
  rw [putTo,List.take_add_one,h];simp [putTo]
theorem addP_facts {l:List Int} {n:Int} (h:l.Pairwise (· < ·)):(addP l n).Pairwise (· < ·)∧(∀x,x∈addP l n↔x=n∨x∈l)∧(addP l n).length=if n∈l then l.length else l.length+1:=by
  by_cases q:n∈l
  · rw [addP,if_pos q,if_pos q]
    exact ⟨h,fun x=>⟨.inr,fun e=>e.elim (fun e=>e ▸ q) id⟩,rfl⟩
  · rw [addP,if_neg q,if_neg q]
    exact put_new h q
theorem putTo_inv (zs:List Int):∀i,(putTo zs i).Pairwise (· < ·)∧(putTo zs i).length≤i
  | 0=>⟨List.Pairwise.nil,Nat.le_refl _⟩
  | i + 1=>by
    obtain ⟨h1,h2⟩:=putTo_inv zs i
    cases q:zs[i]? with
    | none=>rw [putTo_past q];exact ⟨h1,Nat.le_succ_of_le h2⟩
    | some z=>
      rw [putTo_step q]
      obtain ⟨f1,_,f3⟩:=addP_facts (n:=z) h1
      refine ⟨f1,?_⟩
      rw [f3];split<;>omega
theorem putTo_pos {zs:List Int}:∀{i:Nat},0 < i→i≤zs.length→1≤(putTo zs i).length
  | 0,h,_=>absurd h (Nat.lt_irrefl _)
  | i+1,_,h=>by
    rw [putTo_step (List.getElem?_eq_getElem (show i < zs.length by omega))]
    have f:=(addP_facts (n:=zs[i]) (putTo_inv zs i).1).2.1 zs[i]
    have:=List.length_pos_of_mem (f.2 (.inl rfl))
    omega
theorem isG_facts {n:Nat} {g:List Int} (h:isG n g=true):(∀x∈g,∃k:Nat,x=(k:Int)∧k < n)∧0 < g.length∧g.Pairwise (· < ·):=by
  rw [isG,Bool.and_eq_true,decide_eq_true_eq] at h
  have h1:risingFrom 0 ((n:Int) - 1) none g=true:=by simpa [risingAt] using h.1
  refine ⟨fun x hx=> ?_,h.2,(rise_pw h1).1⟩
  have:=rising_in h1 x hx
  exact ⟨x.toNat,by omega,by omega⟩
theorem inc_len:∀{g:List Int} {lo hi:Int},g.Pairwise (· < ·)→(∀x∈g,lo≤x∧x < hi)→lo≤hi→(g.length:Int)≤hi - lo
  | [],lo,hi,_,_,h=>by rw [List.length_nil];omega
  | x::t,lo,hi,hp,hm,_=>by
    rw [List.pairwise_cons] at hp
    have hx:=hm x (List.mem_cons_self ..)
    have:=inc_len (g:=t) (lo:=x+1) (hi:=hi) hp.2 (fun y hy=>⟨by have:=hp.1 y hy;omega,(hm y (List.mem_cons_of_mem _ hy)).2⟩) (by omega)
    rw [List.length_cons];omega
theorem incr_len {n:Nat} {g:List Int} (h:g.Pairwise (· < ·)) (hm:∀x∈g,∃k:Nat,x=(k:Int)∧k < n):g.length≤n:=by
  have:=inc_len (lo:=0) (hi:=(n:Int)) h (fun x hx=>by obtain ⟨k,rfl,hk⟩:=hm x hx;omega) (by omega)
  omega
def cgN (l:List (Int×Int×Int×Int×Int)) (g:List Int):Int:=if mgB l g=true then ((putTo (colP l g) g.length).length:Int) else 0
theorem cg_bounds {l:List (Int×Int×Int×Int×Int)} {g:List Int} (h:mgB l g=true):1≤cgN l g∧cgN l g≤(g.length:Int):=by
  have h1:isG l.length g=true:=by rw [mgB,Bool.and_eq_true] at h;exact h.2
  rw [cgN,if_pos h]
  have h2:=(putTo_inv (colP l g) g.length).2
  have h3:=putTo_pos (zs:=colP l g) (isG_facts h1).2.1 (by rw [colP_len];exact Nat.le_refl _)
  omega
theorem ins_sort {zs:List Int} {n:Int} {k:Nat} (h1:∀j v,k≤j→(sortL zs)[j]? =some v→n < v) (h2:k=0∨∃v,(sortL zs)[k - 1]? =some v∧v≤n):(sortL zs).take k++[n]++(sortL zs).drop k=sortL (zs++[n]):=by
  have hs:=gsort_srt zs
  have hlo:∀x∈(sortL zs).take k,x≤n:=by
    intro x hx
    obtain ⟨i,hi,rfl⟩:=List.getElem_of_mem hx
    rw [List.length_take] at hi
    rcases h2 with e | ⟨v,hv,hn⟩
    · omega
    · obtain ⟨hk,hkv⟩:=List.getElem?_eq_some_iff.1 hv
      rw [List.getElem_take]
      rcases Nat.lt_or_ge i (k - 1) with q | q
      · have:=List.pairwise_iff_getElem.1 hs i (k - 1) (by omega) hk q
        omega
      · have e:i=k - 1:=by omega
        subst e
        omega
  have hhi:∀x∈(sortL zs).drop k,n≤x:=by
    intro x hx
    obtain ⟨i,hi,rfl⟩:=List.getElem_of_mem hx
    rw [List.length_drop] at hi
    rw [List.getElem_drop]
    have:=h1 (k+i) _ (Nat.le_add_right _ _) (List.getElem?_eq_getElem (by omega))
    omega
  refine List.Perm.eq_of_pairwise (le:=(·≤·)) (fun a b _ _ h1 h2=>by omega) ?_ (gsort_srt _) ?_
  · rw [List.append_assoc,List.pairwise_append]
    refine ⟨hs.sublist (List.take_sublist ..),?_,?_⟩
    · rw [List.singleton_append,List.pairwise_cons]
      exact ⟨hhi,hs.sublist (List.drop_sublist ..)⟩
    · intro a ha b hb
      rw [List.singleton_append] at hb
      rcases List.mem_cons.1 hb with e | e
      · rw [e];exact hlo a ha
      · have:=hlo a ha;have:=hhi b e;omega
  · refine List.Perm.trans ?_ (gsort_perm _).symm
    refine List.Perm.trans ?_ ((gsort_perm zs).append_right [n])
    rw [List.append_assoc]
    refine List.Perm.trans (List.Perm.append_left _ List.perm_append_comm) ?_
    rw [←List.append_assoc,List.take_append_drop]
set_option maxRecDepth 8000 in
theorem clMiddle_con (l:List Int) (hl:l.length≤1048576) (h0:0 < l.length):Con Try.prog 72 [.sl (l.map (V.int .i64))] [] (.int .i64 (midI l)) []:=by
 refine v_con [.tmp 2] [] Try.func72 rfl rfl rfl (by simp [Try.ntmps72]) ?_
 intro Q0 n0 r0
 simp only [Try.ntmps72,envFrom,Nat.reduceAdd]
 have T:=Tys.mk (ai Ty.t3 Ty.t26)
 have F:=Fc.mk True.intro
 refine yR [0] ⟨?_⟩;refine yR [0,3] ⟨?_⟩;refine v_seq ?_;intros;refine yR [3,7,8,9] ⟨?_⟩;refine v_block ?_;intros;refine v_loop (fun i=>⟨[(3,.ref 0),(7,.sl (l.map (V.int .i64))),(8,.int .i64 l.length),(9,.int .i64 (Nat.cast i))],[.arr ((sortL (l.take i)).map (V.int .i64)) .flat],false,46,0⟩) (fun i=>i≤l.length) (fun i=>l.length - i) 0 ?_ ?_ ?_
 ·refine weak_bothS [3,7,8,9] [0] ⟨?_⟩
  rw [List.take_zero,show sortL []=[] from by simp [sortL]];rfl
 ·exact Nat.zero_le _
 ·rintro i hok6 Q6 n6 e6 r6
  have hi1:i≤l.length:=hok6
  refine yR [3,7,8,9,10] ⟨?_⟩;refine v_seq ?_;intros;refine v_condS _ rfl ?_ ?_
  ·intro hc0
   have hlt:i < l.length:=by omega
   obtain ⟨z,hz⟩:∃z,l[i]? =some z:=⟨l[i],List.getElem?_eq_getElem hlt⟩
   have hsl:(sortL (l.take i)).length=i:=by rw [(gsort_perm _).length_eq,List.length_take];omega
   refine zn [3,7,8,9] ⟨?_⟩;refine v_seq ?_;intro Q10 n10 e10 r10;refine v_block ?_;intro Q11 n11 x11 e11 r11
   have F:=Fc.mk (ai (gdm hz) hsl)
   refine yR [3,5,7,8,9] ⟨?_⟩;refine yR [3,5,6,7,8,9] ⟨?_⟩;refine v_seq ?_;intros;refine v_block ?_;intros;refine v_loop (fun q=>⟨[(3,.ref 0),(5,.int .i64 z),(6,.int .i64 (Nat.cast q.1)),(7,.sl (l.map (V.int .i64))),(8,.int .i64 l.length),(9,.int .i64 (Nat.cast i))],[.arr ((sortL (l.take i)).map (V.int .i64)) .flat],false,46,0⟩) (fun q=>q.1≤i∧∀j v,q.1≤j→(sortL (l.take i))[j]? =some v→z < v) (fun q=>q.1) ((i,0):Nat×Nat) ?_ ?_ ?_
   ·refine weak_trans (weak_keep [3,5,6,7,8,9] _) ?_
    simp only [keep_mk,keepE_nil,keepE_cons,look_cons,look_nil,Nat.reduceEqDiff,reduceIte]
    exact weak_refl _ _
   ·exact ⟨Nat.le_refl _,fun j v h1 h2=>by rw [List.getElem?_eq_none (by rw [hsl];exact h1)] at h2;cases h2⟩
   ·rintro ⟨ka,u0⟩ hok16 Q16 n16 e16 r16
    obtain ⟨hk1,hgt⟩:=hok16
    simp only [] at hk1 hgt⊢
    rcases Nat.eq_zero_or_pos ka with h0k | h0k
    ·skip
     have hk0:¬((0:Int) < (ka:Int)):=by omega
     refine v_seq ?_;intros
     have F:=Fc.mk (ai (gdm hz) (ai hsl (ai hk0 (ai @decide_false @Bool.false_and))))
     refine yR [3,5,6,7,8,9,25] ⟨?_⟩;refine v_cond _ rfl ?_ ?_
     ·intro hc1
      exfalso;simp at hc1
     ·intro hc1
      try simp only [zC,reduceCtorEq] at hc1
      have hins:=ins_sort (zs:=l.take i) (n:=z) (k:=ka) hgt (by
       rcases Nat.eq_zero_or_pos ka with q | q
       ·exact .inl q
       ·right
        first
        |(exfalso;omega)
        |(refine ⟨v,by rw [show ka - 1=kb by omega];exact hv,?_⟩;simpa using hc1))
      have htk:((sortL (l.take i)).take ka).length=ka:=by rw [List.length_take];omega
      have hst:sortL (l.take (i+1))=(sortL (l.take i)).take ka++[z]++(sortL (l.take i)).drop ka:=by rw [hins,List.take_add_one,hz];rfl
      have hdk:((sortL (l.take i)).drop ka).length=i - ka:=by rw [List.length_drop];omega
      have hns:(((sortL (l.take i)).take ka).map (V.int .i64)).all V.noSl=true:=by rw [List.all_map,List.all_eq_true];intro a _;rfl
      have hns2:(((sortL (l.take i)).drop ka).map (V.int .i64)).all V.noSl=true:=by rw [List.all_map,List.all_eq_true];intro a _;rfl
      have hsn:((sortL (l.take i)).take ka).map (V.int .i64)++[V.int .i64 z]=((sortL (l.take i)).take ka++[z]).map (V.int .i64):=by rw [List.map_append];rfl
      have hns3:(((sortL (l.take i)).take ka++[z]).map (V.int .i64)).all V.noSl=true:=by rw [List.all_map,List.all_eq_true];intro a _;rfl
      have hk1l:((sortL (l.take i)).take ka++[z]).length=ka+1:=by rw [List.length_append,htk];rfl
      have hdm:List.take (i - ka) (List.drop ka (List.map (V.int .i64) (sortL (List.take i l))))=((sortL (l.take i)).drop ka).map (V.int .i64):=by rw [←List.map_drop,List.take_of_length_le (by rw [List.length_map,hdk];exact Nat.le_refl _)]
      refine zn [3,5,6,7,8,9] ⟨?_⟩;refine v_draw (by kernel_rfl) ?_;intro K20 q20 k20
      show aAny _ _ _ _ 12 (Array.replicate 12 false) _
      have F:=Fc.mk (ai (gdm hz) (ai hsl (ai hk0 (ai @decide_false (ai @Bool.false_and (ai hns (ai hns2 (ai htk (ai hdk (ai hsn (ai hns3 (ai hk1l hdm))))))))))))
      refine zdMove q20 true 0 28 ?_;refine zdMove q20 true 1 29 ?_;refine zdSlice q20 true 2 30 ?_;refine zdMove q20 true 4 32 ?_;refine zdMove q20 false 7 35 ?_;refine zdMove q20 false 8 36 ?_;refine aAny_three 3 5 9 rfl rfl rfl (by kernel_rfl) ?_ ?_ ?_
      ·refine zsc (l1Own_con ((sortL (l.take i)).take ka) (by omega)) ⟨?_⟩
       refine aAny_two 5 9 rfl rfl (by kernel_rfl) ?_ ?_
       ·refine zsBuildSlice ⟨?_⟩
        refine aAny_two 6 9 rfl rfl (by kernel_rfl) ?_ ?_
        ·refine zsAppend ⟨?_⟩
         refine zdSlice q20 true 9 37 ?_;refine zoAppend 10 ⟨?_⟩;refine zoAssign 11 ⟨?_⟩;refine aAny_done (by kernel_rfl) ?_;refine k20 _ ?_;refine n11 _ ?_;refine n10 _ _ (weak_keep [3,7,8,9] _) ?_;refine zk ⟨?_⟩;refine yV ⟨?_⟩;refine n6 _ (i+1) ?_ ?_ ?_
         ·refine weak_bothS [3,7,8,9] [4] ⟨?_⟩
          rw [hst,List.map_append (l₂:=List.drop ka (sortL (List.take i l)))];rfl
         ·exact hlt
         ·show _ < _;omega
        ·refine zsSlice ⟨?_⟩
         refine zoAppend 6 ⟨?_⟩;refine zoAppend 10 ⟨?_⟩;refine zoAssign 11 ⟨?_⟩;refine aAny_done (by kernel_rfl) ?_;refine k20 _ ?_;refine n11 _ ?_;refine n10 _ _ (weak_keep [3,7,8,9] _) ?_;refine zk ⟨?_⟩;refine yV ⟨?_⟩;refine n6 _ (i+1) ?_ ?_ ?_
         ·refine weak_bothS [3,7,8,9] [4] ⟨?_⟩
          rw [hst,List.map_append (l₂:=List.drop ka (sortL (List.take i l)))];rfl
         ·exact hlt
         ·show _ < _;omega
       ·refine zsSlice ⟨?_⟩
        refine zoBuildSlice 5 ⟨?_⟩;refine zoAppend 6 ⟨?_⟩;refine zoAppend 10 ⟨?_⟩;refine zoAssign 11 ⟨?_⟩;refine aAny_done (by kernel_rfl) ?_;refine k20 _ ?_;refine n11 _ ?_;refine n10 _ _ (weak_keep [3,7,8,9] _) ?_;refine zk ⟨?_⟩;refine yV ⟨?_⟩;refine n6 _ (i+1) ?_ ?_ ?_
        ·refine weak_bothS [3,7,8,9] [4] ⟨?_⟩
         rw [hst,List.map_append (l₂:=List.drop ka (sortL (List.take i l)))];rfl
        ·exact hlt
        ·show _ < _;omega
      ·refine zsBuildSlice ⟨?_⟩
       refine aAny_two 3 9 rfl rfl (by kernel_rfl) ?_ ?_
       ·refine zsc (l1Own_con ((sortL (l.take i)).take ka) (by omega)) ⟨?_⟩
        refine aAny_two 6 9 rfl rfl (by kernel_rfl) ?_ ?_
        ·refine zsAppend ⟨?_⟩
         refine zdSlice q20 true 9 37 ?_;refine zoAppend 10 ⟨?_⟩;refine zoAssign 11 ⟨?_⟩;refine aAny_done (by kernel_rfl) ?_;refine k20 _ ?_;refine n11 _ ?_;refine n10 _ _ (weak_keep [3,7,8,9] _) ?_;refine zk ⟨?_⟩;refine yV ⟨?_⟩;refine n6 _ (i+1) ?_ ?_ ?_
         ·refine weak_bothS [3,7,8,9] [4] ⟨?_⟩
          rw [hst,List.map_append (l₂:=List.drop ka (sortL (List.take i l)))];rfl
         ·exact hlt
         ·show _ < _;omega
        ·refine zsSlice ⟨?_⟩
         refine zoAppend 6 ⟨?_⟩;refine zoAppend 10 ⟨?_⟩;refine zoAssign 11 ⟨?_⟩;refine aAny_done (by kernel_rfl) ?_;refine k20 _ ?_;refine n11 _ ?_;refine n10 _ _ (weak_keep [3,7,8,9] _) ?_;refine zk ⟨?_⟩;refine yV ⟨?_⟩;refine n6 _ (i+1) ?_ ?_ ?_
         ·refine weak_bothS [3,7,8,9] [4] ⟨?_⟩
          rw [hst,List.map_append (l₂:=List.drop ka (sortL (List.take i l)))];rfl
         ·exact hlt
         ·show _ < _;omega
       ·refine zsSlice ⟨?_⟩
        refine zoc 3 (l1Own_con ((sortL (l.take i)).take ka) (by omega)) ⟨?_⟩;refine zoAppend 6 ⟨?_⟩;refine zoAppend 10 ⟨?_⟩;refine zoAssign 11 ⟨?_⟩;refine aAny_done (by kernel_rfl) ?_;refine k20 _ ?_;refine n11 _ ?_;refine n10 _ _ (weak_keep [3,7,8,9] _) ?_;refine zk ⟨?_⟩;refine yV ⟨?_⟩;refine n6 _ (i+1) ?_ ?_ ?_
        ·refine weak_bothS [3,7,8,9] [4] ⟨?_⟩
         rw [hst,List.map_append (l₂:=List.drop ka (sortL (List.take i l)))];rfl
        ·exact hlt
        ·show _ < _;omega
      ·refine zsSlice ⟨?_⟩
       refine aAny_two 3 5 rfl rfl (by kernel_rfl) ?_ ?_
       ·refine zsc (l1Own_con ((sortL (l.take i)).take ka) (by omega)) ⟨?_⟩
        refine zoBuildSlice 5 ⟨?_⟩;refine zoAppend 6 ⟨?_⟩;refine zoAppend 10 ⟨?_⟩;refine zoAssign 11 ⟨?_⟩;refine aAny_done (by kernel_rfl) ?_;refine k20 _ ?_;refine n11 _ ?_;refine n10 _ _ (weak_keep [3,7,8,9] _) ?_;refine zk ⟨?_⟩;refine yV ⟨?_⟩;refine n6 _ (i+1) ?_ ?_ ?_
        ·refine weak_bothS [3,7,8,9] [4] ⟨?_⟩
         rw [hst,List.map_append (l₂:=List.drop ka (sortL (List.take i l)))];rfl
        ·exact hlt
        ·show _ < _;omega
       ·refine zsBuildSlice ⟨?_⟩
        refine zoc 3 (l1Own_con ((sortL (l.take i)).take ka) (by omega)) ⟨?_⟩;refine zoAppend 6 ⟨?_⟩;refine zoAppend 10 ⟨?_⟩;refine zoAssign 11 ⟨?_⟩;refine aAny_done (by kernel_rfl) ?_;refine k20 _ ?_;refine n11 _ ?_;refine n10 _ _ (weak_keep [3,7,8,9] _) ?_;refine zk ⟨?_⟩;refine yV ⟨?_⟩;refine n6 _ (i+1) ?_ ?_ ?_
        ·refine weak_bothS [3,7,8,9] [4] ⟨?_⟩
         rw [hst,List.map_append (l₂:=List.drop ka (sortL (List.take i l)))];rfl
        ·exact hlt
        ·show _ < _;omega
    ·skip
     obtain ⟨kb,hkk⟩:∃kb,ka=kb+1:=⟨ka - 1,by omega⟩
     obtain ⟨v,hv⟩:∃v,(sortL (l.take i))[kb]? =some v:=⟨_,List.getElem?_eq_getElem (by omega)⟩
     have hk0:(0:Int) < (ka:Int):=by omega
     have hkb:(ka:Int) - 1=(kb:Int):=by omega
     refine v_seq ?_;intros
     have F:=Fc.mk (ai (gdm hz) (ai hsl (ai hk0 (ai @decide_true (ai @Bool.true_and (ai hkb (ai @Int.toNat_natCast (gdm hv))))))))
     refine yR [3,5,6,7,8,9,25] ⟨?_⟩;refine v_condS _ rfl ?_ ?_
     ·intro hc1
      have hkv:=hc1
      refine zn [3,5,6,7,8,9] ⟨?_⟩;refine v_block ?_;intros;refine yV ⟨?_⟩;refine n16 _ (kb,0) ?_ ?_ ?_
      ·exact weak_same [3,5,6,7,8,9] [0]
      ·exact ⟨by omega,fun j v h1 h2=>by
        by_cases e:j=kb
        ·subst e;rw [hv] at h2;cases h2;simpa using hkv
        ·exact hgt j v (by omega) h2⟩
      ·show _ < _;omega
     ·intro hc1
      have hins:=ins_sort (zs:=l.take i) (n:=z) (k:=ka) hgt (by
       rcases Nat.eq_zero_or_pos ka with q | q
       ·exact .inl q
       ·right
        first
        |(exfalso;omega)
        |(refine ⟨v,by rw [show ka - 1=kb by omega];exact hv,?_⟩;simpa using hc1))
      have htk:((sortL (l.take i)).take ka).length=ka:=by rw [List.length_take];omega
      have hst:sortL (l.take (i+1))=(sortL (l.take i)).take ka++[z]++(sortL (l.take i)).drop ka:=by rw [hins,List.take_add_one,hz];rfl
      have hdk:((sortL (l.take i)).drop ka).length=i - ka:=by rw [List.length_drop];omega
      have hns:(((sortL (l.take i)).take ka).map (V.int .i64)).all V.noSl=true:=by rw [List.all_map,List.all_eq_true];intro a _;rfl
      have hns2:(((sortL (l.take i)).drop ka).map (V.int .i64)).all V.noSl=true:=by rw [List.all_map,List.all_eq_true];intro a _;rfl
      have hsn:((sortL (l.take i)).take ka).map (V.int .i64)++[V.int .i64 z]=((sortL (l.take i)).take ka++[z]).map (V.int .i64):=by rw [List.map_append];rfl
      have hns3:(((sortL (l.take i)).take ka++[z]).map (V.int .i64)).all V.noSl=true:=by rw [List.all_map,List.all_eq_true];intro a _;rfl
      have hk1l:((sortL (l.take i)).take ka++[z]).length=ka+1:=by rw [List.length_append,htk];rfl
      have hdm:List.take (i - ka) (List.drop ka (List.map (V.int .i64) (sortL (List.take i l))))=((sortL (l.take i)).drop ka).map (V.int .i64):=by rw [←List.map_drop,List.take_of_length_le (by rw [List.length_map,hdk];exact Nat.le_refl _)]
      refine zn [3,5,6,7,8,9] ⟨?_⟩;refine v_draw (by kernel_rfl) ?_;intro K34 q34 k34
      show aAny _ _ _ _ 12 (Array.replicate 12 false) _
      have F:=Fc.mk (ai (gdm hz) (ai hsl (ai hk0 (ai @decide_true (ai @Bool.true_and (ai hkb (ai @Int.toNat_natCast (ai (gdm hv) (ai hns (ai hns2 (ai htk (ai hdk (ai hsn (ai hns3 (ai hk1l hdm)))))))))))))))
      refine zdMove q34 true 0 28 ?_;refine zdMove q34 true 1 29 ?_;refine zdSlice q34 true 2 30 ?_;refine zdMove q34 true 4 32 ?_;refine zdMove q34 false 7 35 ?_;refine zdMove q34 false 8 36 ?_;refine aAny_three 3 5 9 rfl rfl rfl (by kernel_rfl) ?_ ?_ ?_
      ·refine zsc (l1Own_con ((sortL (l.take i)).take ka) (by omega)) ⟨?_⟩
       refine aAny_two 5 9 rfl rfl (by kernel_rfl) ?_ ?_
       ·refine zsBuildSlice ⟨?_⟩
        refine aAny_two 6 9 rfl rfl (by kernel_rfl) ?_ ?_
        ·refine zsAppend ⟨?_⟩
         refine zdSlice q34 true 9 37 ?_;refine zoAppend 10 ⟨?_⟩;refine zoAssign 11 ⟨?_⟩;refine aAny_done (by kernel_rfl) ?_;refine k34 _ ?_;refine n11 _ ?_;refine n10 _ _ (weak_keep [3,7,8,9] _) ?_;refine zk ⟨?_⟩;refine yV ⟨?_⟩;refine n6 _ (i+1) ?_ ?_ ?_
         ·refine weak_bothS [3,7,8,9] [4] ⟨?_⟩
          rw [hst,List.map_append (l₂:=List.drop ka (sortL (List.take i l)))];rfl
         ·exact hlt
         ·show _ < _;omega
        ·refine zsSlice ⟨?_⟩
         refine zoAppend 6 ⟨?_⟩;refine zoAppend 10 ⟨?_⟩;refine zoAssign 11 ⟨?_⟩;refine aAny_done (by kernel_rfl) ?_;refine k34 _ ?_;refine n11 _ ?_;refine n10 _ _ (weak_keep [3,7,8,9] _) ?_;refine zk ⟨?_⟩;refine yV ⟨?_⟩;refine n6 _ (i+1) ?_ ?_ ?_
         ·refine weak_bothS [3,7,8,9] [4] ⟨?_⟩
          rw [hst,List.map_append (l₂:=List.drop ka (sortL (List.take i l)))];rfl
         ·exact hlt
         ·show _ < _;omega
       ·refine zsSlice ⟨?_⟩
        refine zoBuildSlice 5 ⟨?_⟩;refine zoAppend 6 ⟨?_⟩;refine zoAppend 10 ⟨?_⟩;refine zoAssign 11 ⟨?_⟩;refine aAny_done (by kernel_rfl) ?_;refine k34 _ ?_;refine n11 _ ?_;refine n10 _ _ (weak_keep [3,7,8,9] _) ?_;refine zk ⟨?_⟩;refine yV ⟨?_⟩;refine n6 _ (i+1) ?_ ?_ ?_
        ·refine weak_bothS [3,7,8,9] [4] ⟨?_⟩
         rw [hst,List.map_append (l₂:=List.drop ka (sortL (List.take i l)))];rfl
        ·exact hlt
        ·show _ < _;omega
      ·refine zsBuildSlice ⟨?_⟩
       refine aAny_two 3 9 rfl rfl (by kernel_rfl) ?_ ?_
       ·refine zsc (l1Own_con ((sortL (l.take i)).take ka) (by omega)) ⟨?_⟩
        refine aAny_two 6 9 rfl rfl (by kernel_rfl) ?_ ?_
        ·refine zsAppend ⟨?_⟩
         refine zdSlice q34 true 9 37 ?_;refine zoAppend 10 ⟨?_⟩;refine zoAssign 11 ⟨?_⟩;refine aAny_done (by kernel_rfl) ?_;refine k34 _ ?_;refine n11 _ ?_;refine n10 _ _ (weak_keep [3,7,8,9] _) ?_;refine zk ⟨?_⟩;refine yV ⟨?_⟩;refine n6 _ (i+1) ?_ ?_ ?_
         ·refine weak_bothS [3,7,8,9] [4] ⟨?_⟩
          rw [hst,List.map_append (l₂:=List.drop ka (sortL (List.take i l)))];rfl
         ·exact hlt
         ·show _ < _;omega
        ·refine zsSlice ⟨?_⟩
         refine zoAppend 6 ⟨?_⟩;refine zoAppend 10 ⟨?_⟩;refine zoAssign 11 ⟨?_⟩;refine aAny_done (by kernel_rfl) ?_;refine k34 _ ?_;refine n11 _ ?_;refine n10 _ _ (weak_keep [3,7,8,9] _) ?_;refine zk ⟨?_⟩;refine yV ⟨?_⟩;refine n6 _ (i+1) ?_ ?_ ?_
         ·refine weak_bothS [3,7,8,9] [4] ⟨?_⟩
          rw [hst,List.map_append (l₂:=List.drop ka (sortL (List.take i l)))];rfl
         ·exact hlt
         ·show _ < _;omega
       ·refine zsSlice ⟨?_⟩
        refine zoc 3 (l1Own_con ((sortL (l.take i)).take ka) (by omega)) ⟨?_⟩;refine zoAppend 6 ⟨?_⟩;refine zoAppend 10 ⟨?_⟩;refine zoAssign 11 ⟨?_⟩;refine aAny_done (by kernel_rfl) ?_;refine k34 _ ?_;refine n11 _ ?_;refine n10 _ _ (weak_keep [3,7,8,9] _) ?_;refine zk ⟨?_⟩;refine yV ⟨?_⟩;refine n6 _ (i+1) ?_ ?_ ?_
        ·refine weak_bothS [3,7,8,9] [4] ⟨?_⟩
         rw [hst,List.map_append (l₂:=List.drop ka (sortL (List.take i l)))];rfl
        ·exact hlt
        ·show _ < _;omega
      ·refine zsSlice ⟨?_⟩
       refine aAny_two 3 5 rfl rfl (by kernel_rfl) ?_ ?_
       ·refine zsc (l1Own_con ((sortL (l.take i)).take ka) (by omega)) ⟨?_⟩
        refine zoBuildSlice 5 ⟨?_⟩;refine zoAppend 6 ⟨?_⟩;refine zoAppend 10 ⟨?_⟩;refine zoAssign 11 ⟨?_⟩;refine aAny_done (by kernel_rfl) ?_;refine k34 _ ?_;refine n11 _ ?_;refine n10 _ _ (weak_keep [3,7,8,9] _) ?_;refine zk ⟨?_⟩;refine yV ⟨?_⟩;refine n6 _ (i+1) ?_ ?_ ?_
        ·refine weak_bothS [3,7,8,9] [4] ⟨?_⟩
         rw [hst,List.map_append (l₂:=List.drop ka (sortL (List.take i l)))];rfl
        ·exact hlt
        ·show _ < _;omega
       ·refine zsBuildSlice ⟨?_⟩
        refine zoc 3 (l1Own_con ((sortL (l.take i)).take ka) (by omega)) ⟨?_⟩;refine zoAppend 6 ⟨?_⟩;refine zoAppend 10 ⟨?_⟩;refine zoAssign 11 ⟨?_⟩;refine aAny_done (by kernel_rfl) ?_;refine k34 _ ?_;refine n11 _ ?_;refine n10 _ _ (weak_keep [3,7,8,9] _) ?_;refine zk ⟨?_⟩;refine yV ⟨?_⟩;refine n6 _ (i+1) ?_ ?_ ?_
        ·refine weak_bothS [3,7,8,9] [4] ⟨?_⟩
         rw [hst,List.map_append (l₂:=List.drop ka (sortL (List.take i l)))];rfl
        ·exact hlt
        ·show _ < _;omega
  ·intro hc0
   have hie:i=l.length:=by omega
   subst hie
   rw [List.take_length]
   have hsl:(sortL l).length=l.length:=(gsort_perm l).length_eq
   have hmd:=midI_at h0
   have hdv:Int.tdiv (l.length:Int) 2=((l.length / 2:Nat):Int):=by rw [Int.tdiv_eq_ediv_of_nonneg (by omega)];omega
   refine zn [3] ⟨?_⟩
   have F:=Fc.mk (ai hsl (ai hdv (ai @Int.toNat_natCast (gdm hmd))))
   refine yR [2] ⟨?_⟩;refine zr ⟨?_⟩
   exact ret_pure rfl rfl (.inl rfl)
set_option maxRecDepth 8000 in
theorem specMiddle_con (l:List (Int×Int×Int×Int×Int)) (hl:l.length≤1048576) (g:List Int) (hg:g.length≤1048576):Con Try.prog 30 [.sl (l.map (fun t:Int×Int×Int×Int×Int=>V.agg [V.int .i64 t.1,V.int .i64 t.2.1,V.int .i64 t.2.2.1,V.int .i64 t.2.2.2.1,V.int .i64 t.2.2.2.2])),.sl (g.map (V.int .i64))] [] (.tup [.int .i64 (mgX l g),.int .i64 (mgY l g),.bool (mgB l g)]) []:=by
 refine v_con [.tmp 4,.tmp 5,.tmp 6] [] Try.func30 rfl rfl rfl (by simp [Try.ntmps30]) ?_
 intro Q0 n0 r0
 simp only [Try.ntmps30,envFrom,Nat.reduceAdd]
 have T:=Tys.mk (ai Ty.t3 (ai Ty.t4 (ai Ty.t26 (ai Ty.t50 Ty.t65))))
 have F:=Fc.mk True.intro
 refine yR [0,1] ⟨?_⟩;refine v_seq ?_;intros;refine yRc [0,1,14] (clGroup_con l hl g hg) ⟨?_⟩;refine v_condS _ rfl ?_ ?_
 ·intro hc0
  have hB:mgB l g=false:=by
   cases hq:mgB l g with
   |false=>rfl
   |true=>
    exfalso
    rw [mgB,Bool.and_eq_true] at hq
    simp [hq.1,hq.2] at hc0
  refine yR [4,5,6] ⟨?_⟩;refine zr ⟨?_⟩
  exact ret_pure rfl (by rw [mgX,mgY,hB];rfl) (.inl rfl)
 ·intro hc0
  have hq:csB l=true∧isG l.length g=true:=by
   (try simp at hc0)
   first | exact hc0 | exact ⟨hc0.2,hc0.1⟩ | (refine ⟨?_,?_⟩<;>simp_all)
  have hB:mgB l g=true:=by rw [mgB,hq.1,hq.2];rfl
  have hgi:=isG_facts hq.2
  have hgl:=incr_len hgi.2.2 hgi.1
  have hl20:=cs_len hq.1
  have hz0:=hgi.2.1
  have hcxl:=colX_len l g
  have hcyl:=colY_len l g
  have hcpl:=colP_len l g
  refine zn [0,1] ⟨?_⟩;refine yR [0,1,7,8] ⟨?_⟩;refine v_seq ?_;intros;refine yR [0,7,8,15,16,17] ⟨?_⟩;refine v_block ?_;intros;refine v_loop (fun j=>⟨[(0,.sl (l.map (fun t:Int×Int×Int×Int×Int=>V.agg [V.int .i64 t.1,V.int .i64 t.2.1,V.int .i64 t.2.2.1,V.int .i64 t.2.2.2.1,V.int .i64 t.2.2.2.2]))),(7,.ref 0),(8,.ref 1),(15,.sl (g.map (V.int .i64))),(16,.int .i64 g.length),(17,.int .i64 (Nat.cast j))],[.arr ((colX l (g.take j)).map (V.int .i64)) .flat,.arr ((colY l (g.take j)).map (V.int .i64)) .flat],false,42,0⟩) (fun j=>j≤g.length) (fun j=>g.length - j) 0 ?_ ?_ ?_
  ·refine weak_bothS [0,7,8,15,16,17] [0,1] ⟨?_⟩
   rfl
  ·exact Nat.zero_le _
  ·rintro j hok10 Q10 n10 e10 r10
   have hj1:j≤g.length:=hok10
   refine yR [0,7,8,15,16,17,18] ⟨?_⟩;refine v_seq ?_;intros;refine v_condS _ rfl ?_ ?_
   ·intro hc1
    have hlt:j < g.length:=by omega
    obtain ⟨xg,hxg⟩:∃x,g[j]? =some x:=⟨g[j],List.getElem?_eq_getElem hlt⟩
    obtain ⟨xn,rfl,hxn⟩:=hgi.1 _ (List.mem_of_getElem? hxg)
    obtain ⟨⟨x0,x1,x2,x3,x4⟩,hx⟩:∃x:Int×Int×Int×Int×Int,l[xn]? =some x:=⟨l[xn]'(by omega),List.getElem?_eq_getElem (by omega)⟩
    have hsx:=colX_snoc hxg hx
    have hsy:=colY_snoc hxg hx
    have hcx:(colX l (g.take j)).length=j:=by rw [colX_len,List.length_take];omega
    have hcy:(colY l (g.take j)).length=j:=by rw [colY_len,List.length_take];omega
    refine zn [0,7,8,15,16,17] ⟨?_⟩;refine v_seq ?_;intros;refine v_block ?_;intros
    have F:=Fc.mk (ai (gdm hxg) (ai @Int.toNat_natCast (gdm hx)))
    refine yR [0,7,8,10,15,16,17] ⟨?_⟩;refine yR [0,7,8,10,15,16,17] ⟨?_⟩;refine yQ [0,7,8,15,16,17] ⟨?_⟩;refine yV ⟨?_⟩;refine n10 _ (j+1) ?_ ?_ ?_
    ·refine weak_bothS [0,7,8,15,16,17] [3,5] ⟨?_⟩
     rw [hsx,hsy,List.map_append,List.map_append];rfl
    ·exact hlt
    ·show _ < _;omega
   ·intro hc1
    have hje:g.take j=g:=List.take_of_length_le (by omega)
    rw [hje]
    refine zn [7,8] ⟨?_⟩;refine yRcc [4,5,6] (clMiddle_con (colX l g) (by omega) (by omega)) (clMiddle_con (colY l g) (by omega) (by omega)) ⟨?_⟩;refine zr ⟨?_⟩
    exact ret_pure rfl (by rw [mgX,mgY,if_pos hB,if_pos hB,hB]) (.inl rfl)
set_option maxRecDepth 8000 in
theorem implMiddle_con (l:List (Int×Int×Int×Int×Int)) (hl:l.length≤1048576) (g:List Int) (hg:g.length≤1048576):Con Try.prog 29 [.sl (l.map (fun t:Int×Int×Int×Int×Int=>V.agg [V.int .i64 t.1,V.int .i64 t.2.1,V.int .i64 t.2.2.1,V.int .i64 t.2.2.2.1,V.int .i64 t.2.2.2.2])),.sl (g.map (V.int .i64))] [] (.tup [.int .i64 (mgX l g),.int .i64 (mgY l g),.bool (mgB l g)]) []:=by
 refine v_con [.tmp 4,.tmp 5,.tmp 6] [(71,[0])] Try.func29 rfl rfl rfl (by simp [Try.ntmps29]) ?_
 intro Q0 n0 r0
 simp only [Try.ntmps29,envFrom,Nat.reduceAdd]
 have T:=Tys.mk (ai Ty.t3 (ai Ty.t4 (ai Ty.t26 (ai Ty.t50 Ty.t65))))
 have F:=Fc.mk True.intro
 refine yR [0,1] ⟨?_⟩;refine v_seq ?_;intros;refine yRcg [0,1,19] (areCalls_con l hl) (isGroup_con l hl g hg) ⟨?_⟩;refine v_condS _ rfl ?_ ?_
 ·intro hc0
  have hB:mgB l g=false:=by
   cases hq:mgB l g with
   |false=>rfl
   |true=>
    exfalso
    rw [mgB,Bool.and_eq_true] at hq
    simp [hq.1,hq.2] at hc0
  refine yR [4,5,6] ⟨?_⟩;refine zr ⟨?_⟩
  exact ret_pure rfl (by rw [mgX,mgY,hB];rfl) (.inl rfl)
 ·intro hc0
  have hq:csB l=true∧isG l.length g=true:=by
   (try simp at hc0)
   first | exact hc0 | exact ⟨hc0.2,hc0.1⟩ | (refine ⟨?_,?_⟩<;>simp_all)
  have hB:mgB l g=true:=by rw [mgB,hq.1,hq.2];rfl
  have hgi:=isG_facts hq.2
  have hgl:=incr_len hgi.2.2 hgi.1
  have hl20:=cs_len hq.1
  have hz0:=hgi.2.1
  have hcxl:=colX_len l g
  have hcyl:=colY_len l g
  have hcpl:=colP_len l g
  refine zn [0,1] ⟨?_⟩;refine yR [0,1,7,8] ⟨?_⟩;refine v_seq ?_;intros;refine yR [0,7,8,20,21,22] ⟨?_⟩;refine v_block ?_;intros;refine v_loop (fun j=>⟨[(0,.sl (l.map (fun t:Int×Int×Int×Int×Int=>V.agg [V.int .i64 t.1,V.int .i64 t.2.1,V.int .i64 t.2.2.1,V.int .i64 t.2.2.2.1,V.int .i64 t.2.2.2.2]))),(7,.ref 0),(8,.ref 1),(20,.sl (g.map (V.int .i64))),(21,.int .i64 g.length),(22,.int .i64 (Nat.cast j))],[.arr ((colX l (g.take j)).map (V.int .i64)) .flat,.arr ((colY l (g.take j)).map (V.int .i64)) .flat],false,59,0⟩) (fun j=>j≤g.length) (fun j=>g.length - j) 0 ?_ ?_ ?_
  ·refine weak_bothS [0,7,8,20,21,22] [0,1] ⟨?_⟩
   rfl
  ·exact Nat.zero_le _
  ·rintro j hok10 Q10 n10 e10 r10
   have hj1:j≤g.length:=hok10
   refine yR [0,7,8,20,21,22,23] ⟨?_⟩;refine v_seq ?_;intros;refine v_condS _ rfl ?_ ?_
   ·intro hc1
    have hlt:j < g.length:=by omega
    obtain ⟨xg,hxg⟩:∃x,g[j]? =some x:=⟨g[j],List.getElem?_eq_getElem hlt⟩
    obtain ⟨xn,rfl,hxn⟩:=hgi.1 _ (List.mem_of_getElem? hxg)
    obtain ⟨⟨x0,x1,x2,x3,x4⟩,hx⟩:∃x:Int×Int×Int×Int×Int,l[xn]? =some x:=⟨l[xn]'(by omega),List.getElem?_eq_getElem (by omega)⟩
    have hsx:=colX_snoc hxg hx
    have hsy:=colY_snoc hxg hx
    have hcx:(colX l (g.take j)).length=j:=by rw [colX_len,List.length_take];omega
    have hcy:(colY l (g.take j)).length=j:=by rw [colY_len,List.length_take];omega
    refine zn [0,7,8,20,21,22] ⟨?_⟩;refine v_seq ?_;intros;refine v_block ?_;intros
    have F:=Fc.mk (ai (gdm hxg) (ai @Int.toNat_natCast (gdm hx)))
    refine yR [0,7,8,10,20,21,22] ⟨?_⟩;refine yR [0,7,8,10,20,21,22] ⟨?_⟩;refine yQ [0,7,8,20,21,22] ⟨?_⟩;refine yV ⟨?_⟩;refine n10 _ (j+1) ?_ ?_ ?_
    ·refine weak_bothS [0,7,8,20,21,22] [3,5] ⟨?_⟩
     rw [hsx,hsy,List.map_append,List.map_append];rfl
    ·exact hlt
    ·show _ < _;omega
   ·intro hc1
    have hje:g.take j=g:=List.take_of_length_le (by omega)
    rw [hje]
    have hsxl:(sortL (colX l g)).length=g.length:=by rw [(gsort_perm _).length_eq];omega
    have hsyl:(sortL (colY l g)).length=g.length:=by rw [(gsort_perm _).length_eq];omega
    have hmx:=midI_at (zs:=colX l g) (by omega)
    have hmy:=midI_at (zs:=colY l g) (by omega)
    rw [hcxl] at hmx
    rw [hcyl] at hmy
    have hdv:Int.tdiv (g.length:Int) 2=((g.length / 2:Nat):Int):=by rw [Int.tdiv_eq_ediv_of_nonneg (by omega)];omega
    refine zn [7,8] ⟨?_⟩
    have F:=Fc.mk (ai hsxl (ai hsyl (ai hdv (ai @Int.toNat_natCast (ai (gdm hmx) (gdm hmy))))))
    refine yRl [7,8] (sortAny_con (colX l g) (by omega)) ⟨?_⟩;refine yRl [7,8] (sortAny_con (colY l g) (by omega)) ⟨?_⟩;refine v_seq ?_;intro Q22 n22 e22 r22;refine v_draw (by kernel_rfl) ?_;intro K23 q23 k23
    show aAny _ _ _ _ 15 (Array.replicate 15 false) _
    refine zdMove q23 true 0 47 ?_;refine zdMove q23 true 1 48 ?_;refine zdLen q23 true 2 49 ?_;refine zdBinOpW q23 true 3 50 ?_;refine zdIndexAddr q23 true 4 51 ?_;refine zdLoad q23 true 5 52 ?_;refine zdMove q23 true 6 53 ?_;refine zdMove q23 true 7 54 ?_;refine zdLen q23 true 8 55 ?_;refine zdBinOpW q23 true 9 56 ?_;refine zdIndexAddr q23 true 10 57 ?_;refine zdLoad q23 true 11 58 ?_;refine zoAssign 12 ⟨?_⟩;refine zoAssign 13 ⟨?_⟩;refine zoAssign 14 ⟨?_⟩;refine aAny_done (by kernel_rfl) ?_;refine k23 _ ?_;refine n22 _ _ (weak_keep [4,5,6] _) ?_;refine zq2 ⟨?_⟩
    exact ret_pure rfl (by rw [mgX,mgY,if_pos hB,if_pos hB,hB]) (.inl rfl)
end Go.Proofs.Ytcdpeopiajgljaa
