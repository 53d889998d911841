/- What functions compute. No condition. -/
import Derived.Test.YtcdpeopiajgljaaUz
import Derived.Test.YtcdpeopiajgljaaUty
import Derived.Test.YtcdpeopiajgljaaUmG
import Derived.Test.YtcdpeopiajgljaaX2
import Derived.Test.YtcdpeopiajgljaaX4
import Derived.Test.YtcdpeopiajgljaaX1
import Derived.Test.YtcdpeopiajgljaaX3
set_option linter.unusedSimpArgs false
set_option linter.unusedVariables false
set_option linter.defProp false
namespace Go.Proofs.Ytcdpeopiajgljaa
open Go Go.Vm
set_option maxHeartbeats 8000000
theorem snoc_Call {a:List (Int×Int×Int×Int×Int)} {x0:Int} {x1:Int} {x2:Int} {x3:Int} {x4:Int}:a.map (fun t:Int×Int×Int×Int×Int=>V.agg [V.int .i64 t.1,V.int .i64 t.2.1,V.int .i64 t.2.2.1,V.int .i64 t.2.2.2.1,V.int .i64 t.2.2.2.2])++[V.agg [V.int .i64 x0,V.int .i64 x1,V.int .i64 x2,V.int .i64 x3,V.int .i64 x4]]=(a++[(x0,x1,x2,x3,x4)]).map (fun t:Int×Int×Int×Int×Int=>V.agg [V.int .i64 t.1,V.int .i64 t.2.1,V.int .i64 t.2.2.1,V.int .i64 t.2.2.2.1,V.int .i64 t.2.2.2.2]):=by simp
theorem drawWindowOf_con (code:List Int) (a s:Int) (hcode:∀x∈code,0≤x∧x≤255) (hcl:code.length≤9223372036854775807) (ha:0≤a∧a < 17000000000):ConX Try.prog 59 [.ptr 0 0 0] [.box (.agg [.sl (code.map (V.int .u8)),.int .i64 a,.int .u64 s]) .shal] (fun r O'=>∃(v:Int) (a' s':Int),(-1≤v∧v≤121)∧(a≤a'∧a'≤a+4)∧r=.int .i64 v∧O'=[.box (.agg [.sl (code.map (V.int .u8)),.int .i64 a',.int .u64 s']) .shal]):=by
 refine v_conX [.tmp 2] [(102,[0,1])] Try.func59 rfl rfl rfl (by simp [Try.ntmps59]) ?_
 intro Q0 n0 r0
 simp only [Try.ntmps59,envFrom,Nat.reduceAdd]
 have T:=Tys.mk (ai Ty.t3 (ai Ty.t5 (ai Ty.t26 (ai Ty.t48 (ai Ty.t95 (ai Ty.t96 Ty.t98))))))
 have F:=Fc.mk True.intro
 refine yR [0] ⟨?_⟩;refine v_seqR [2] ?_;intro K2 k2;refine zMove ⟨?_⟩;refine zq1 ⟨?_⟩;refine v_op ?_;intro K k
 simp only [zE,zM,aStepM,optable,set_some,Nat.reduceEqDiff,reduceIte,Nat.reduceLT,implies_true,forall_const,reduceCtorEq,V.ofValue,V.ofScalar,V.un,V.gd,aExec,lentIds,lendOf,‹Tys _›.h,‹Fc _›.h]
 repeat (refine andC ?_)
 refine aCall_lent2XA (among_con code a s [-1,121] (by simp) hcode hcl (by omega)) ?_
 rintro _ _ ⟨v6,a6,s6,h6,k6,rfl,rfl⟩
 refine ⟨_,_,_,rfl,by first | exact .inr (List.all_eq_true.1 rfl) | exact .inl ⟨rfl,by simp [Blk.kindIs,fillK_fd,thK_fd]⟩,?_⟩;refine k _ ?_;clear k K
 simp only [zY,zW,set_some,Nat.reduceEqDiff,reduceIte,rho_one,rho_s,rho2_s,rho2_0,rho2_1,V.ren,V.renL,List.set_cons_zero,List.set_cons_succ,rho,Nat.reduceAdd,Nat.add_zero]
 simp only [List.mem_cons,List.not_mem_nil,or_false] at h6
 refine zBuildSlice ⟨?_⟩;refine v_op ?_;intro K k
 simp only [zE,zM,aStepM,optable,set_some,Nat.reduceEqDiff,reduceIte,Nat.reduceLT,implies_true,forall_const,reduceCtorEq,V.ofValue,V.ofScalar,V.un,V.gd,aExec,lentIds,lendOf,‹Tys _›.h,‹Fc _›.h]
 repeat (refine andC ?_)
 refine aCall_lent2XA (among_con code a6 s6 [0,1,5,10,60,120,v6] (by simp) hcode hcl (by omega)) ?_
 rintro _ _ ⟨v8,a8,s8,h8,k8,rfl,rfl⟩
 refine ⟨_,_,_,rfl,by first | exact .inr (List.all_eq_true.1 rfl) | exact .inl ⟨rfl,by simp [Blk.kindIs,fillK_fd,thK_fd]⟩,?_⟩;refine k _ ?_;clear k K
 simp only [zY,zW,set_some,Nat.reduceEqDiff,reduceIte,rho_one,rho_s,rho2_s,rho2_0,rho2_1,V.ren,V.renL,List.set_cons_zero,List.set_cons_succ,rho,Nat.reduceAdd,Nat.add_zero]
 simp only [List.mem_cons,List.not_mem_nil,or_false] at h8
 refine zAssign ⟨?_⟩;refine k2 _ ?_;refine zq2 ⟨?_⟩;refine ret_viewX ?_
 exact ⟨_,_,_,by omega,by omega,rfl,rfl⟩
theorem drawRadiusOf_con (code:List Int) (a s:Int) (hcode:∀x∈code,0≤x∧x≤255) (hcl:code.length≤9223372036854775807) (ha:0≤a∧a < 17000000000):ConX Try.prog 60 [.ptr 0 0 0] [.box (.agg [.sl (code.map (V.int .u8)),.int .i64 a,.int .u64 s]) .shal] (fun r O'=>∃(v:Int) (a' s':Int),(-1≤v∧v≤5001)∧(a≤a'∧a'≤a+4)∧r=.int .i64 v∧O'=[.box (.agg [.sl (code.map (V.int .u8)),.int .i64 a',.int .u64 s']) .shal]):=by
 refine v_conX [.tmp 2] [(102,[0,1])] Try.func60 rfl rfl rfl (by simp [Try.ntmps60]) ?_
 intro Q0 n0 r0
 simp only [Try.ntmps60,envFrom,Nat.reduceAdd]
 have T:=Tys.mk (ai Ty.t3 (ai Ty.t5 (ai Ty.t26 (ai Ty.t48 (ai Ty.t95 (ai Ty.t96 Ty.t98))))))
 have F:=Fc.mk True.intro
 refine yR [0] ⟨?_⟩;refine v_seqR [2] ?_;intro K2 k2;refine zMove ⟨?_⟩;refine zq1 ⟨?_⟩;refine v_op ?_;intro K k
 simp only [zE,zM,aStepM,optable,set_some,Nat.reduceEqDiff,reduceIte,Nat.reduceLT,implies_true,forall_const,reduceCtorEq,V.ofValue,V.ofScalar,V.un,V.gd,aExec,lentIds,lendOf,‹Tys _›.h,‹Fc _›.h]
 repeat (refine andC ?_)
 refine aCall_lent2XA (among_con code a s [-1,5001] (by simp) hcode hcl (by omega)) ?_
 rintro _ _ ⟨v6,a6,s6,h6,k6,rfl,rfl⟩
 refine ⟨_,_,_,rfl,by first | exact .inr (List.all_eq_true.1 rfl) | exact .inl ⟨rfl,by simp [Blk.kindIs,fillK_fd,thK_fd]⟩,?_⟩;refine k _ ?_;clear k K
 simp only [zY,zW,set_some,Nat.reduceEqDiff,reduceIte,rho_one,rho_s,rho2_s,rho2_0,rho2_1,V.ren,V.renL,List.set_cons_zero,List.set_cons_succ,rho,Nat.reduceAdd,Nat.add_zero]
 simp only [List.mem_cons,List.not_mem_nil,or_false] at h6
 refine zBuildSlice ⟨?_⟩;refine v_op ?_;intro K k
 simp only [zE,zM,aStepM,optable,set_some,Nat.reduceEqDiff,reduceIte,Nat.reduceLT,implies_true,forall_const,reduceCtorEq,V.ofValue,V.ofScalar,V.un,V.gd,aExec,lentIds,lendOf,‹Tys _›.h,‹Fc _›.h]
 repeat (refine andC ?_)
 refine aCall_lent2XA (among_con code a6 s6 [0,50,100,200,1000,5000,v6] (by simp) hcode hcl (by omega)) ?_
 rintro _ _ ⟨v8,a8,s8,h8,k8,rfl,rfl⟩
 refine ⟨_,_,_,rfl,by first | exact .inr (List.all_eq_true.1 rfl) | exact .inl ⟨rfl,by simp [Blk.kindIs,fillK_fd,thK_fd]⟩,?_⟩;refine k _ ?_;clear k K
 simp only [zY,zW,set_some,Nat.reduceEqDiff,reduceIte,rho_one,rho_s,rho2_s,rho2_0,rho2_1,V.ren,V.renL,List.set_cons_zero,List.set_cons_succ,rho,Nat.reduceAdd,Nat.add_zero]
 simp only [List.mem_cons,List.not_mem_nil,or_false] at h8
 refine zAssign ⟨?_⟩;refine k2 _ ?_;refine zq2 ⟨?_⟩;refine ret_viewX ?_
 exact ⟨_,_,_,by omega,by omega,rfl,rfl⟩
set_option maxRecDepth 8000 in
theorem drawCall_con (code:List Int) (a s:Int) (m0:Int) (hcode:∀x∈code,0≤x∧x≤255) (hcl:code.length≤9223372036854775807) (ha:0≤a∧a < 16000000000):ConX Try.prog 79 [.ptr 0 0 0,.int .i64 m0] [.box (.agg [.sl (code.map (V.int .u8)),.int .i64 a,.int .u64 s]) .shal] (fun r O'=>∃(x0 x1 x2 x3 x4:Int) (a' s':Int),(True)∧(a≤a'∧a'≤a+20)∧r=.agg [.int .i64 x0,.int .i64 x1,.int .i64 x2,.int .i64 x3,.int .i64 x4]∧O'=[.box (.agg [.sl (code.map (V.int .u8)),.int .i64 a',.int .u64 s']) .shal]):=by
 refine v_conX [.cell 4 65] [(102,[0,1]),(80,[0]),(101,[0])] Try.func79 rfl rfl rfl (by simp [Try.ntmps79]) ?_
 intro Q0 n0 r0
 simp only [Try.ntmps79,envFrom,Nat.reduceAdd]
 have T:=Tys.mk (ai Ty.t3 (ai Ty.t5 (ai Ty.t26 (ai Ty.t48 (ai Ty.t65 (ai Ty.t95 (ai Ty.t96 Ty.t98)))))))
 have F:=Fc.mk True.intro
 refine yR [0,1,4] ⟨?_⟩;refine v_seqR [0,4,5] ?_;intro K2 k2;refine zMove ⟨?_⟩;refine zq1 ⟨?_⟩;refine v_op ?_;intro K k
 simp only [zE,zM,aStepM,optable,set_some,Nat.reduceEqDiff,reduceIte,Nat.reduceLT,implies_true,forall_const,reduceCtorEq,V.ofValue,V.ofScalar,V.un,V.gd,aExec,lentIds,lendOf,‹Tys _›.h,‹Fc _›.h]
 repeat (refine andC ?_)
 refine aCall_lent2XA (among_con code a s [100,150,160,4000,9999,0] (by simp) hcode hcl (by omega)) ?_
 rintro _ _ ⟨v9,a9,s9,h9,k9,rfl,rfl⟩
 refine ⟨_,_,_,rfl,by first | exact .inr (List.all_eq_true.1 rfl) | exact .inl ⟨rfl,by simp [Blk.kindIs,fillK_fd,thK_fd]⟩,?_⟩;refine k _ ?_;clear k K
 simp only [zY,zW,set_some,Nat.reduceEqDiff,reduceIte,rho_one,rho_s,rho2_s,rho2_0,rho2_1,V.ren,V.renL,List.set_cons_zero,List.set_cons_succ,rho,Nat.reduceAdd,Nat.add_zero]
 simp only [List.mem_cons,List.not_mem_nil,or_false] at h9
 refine zMove ⟨?_⟩;refine v_op ?_;intro K k
 simp only [zE,zM,aStepM,optable,set_some,Nat.reduceEqDiff,reduceIte,Nat.reduceLT,implies_true,forall_const,reduceCtorEq,V.ofValue,V.ofScalar,V.un,V.gd,aExec,lentIds,lendOf,‹Tys _›.h,‹Fc _›.h]
 repeat (refine andC ?_)
 refine aCall_lentXA (pick_con code a9 s9 (3) hcode hcl (by omega)) ?_
 rintro _ _ ⟨v11,a11,s11,h11,k11,rfl,rfl⟩
 refine ⟨_,_,rfl,by first | exact .inr (List.all_eq_true.1 rfl) | exact .inl ⟨rfl,by simp [Blk.kindIs,fillK_fd,thK_fd]⟩,?_⟩;refine k _ ?_;clear k K
 simp only [zY,zW,set_some,Nat.reduceEqDiff,reduceIte,rho_one,rho_s,rho2_s,rho2_0,rho2_1,V.ren,V.renL,List.set_cons_zero,List.set_cons_succ,rho,Nat.reduceAdd,Nat.add_zero]
 refine zBinOpW ⟨?_⟩;refine zBinOpW ⟨?_⟩;refine zq1 ⟨?_⟩;refine v_op ?_;intro K k
 simp only [zE,zM,aStepM,optable,set_some,Nat.reduceEqDiff,reduceIte,Nat.reduceLT,implies_true,forall_const,reduceCtorEq,V.ofValue,V.ofScalar,V.un,V.gd,aExec,lentIds,lendOf,‹Tys _›.h,‹Fc _›.h]
 repeat (refine andC ?_)
 refine aCall_lent2XA (among_con code a11 s11 [100,120,130,0,5000] (by simp) hcode hcl (by omega)) ?_
 rintro _ _ ⟨v16,a16,s16,h16,k16,rfl,rfl⟩
 refine ⟨_,_,_,rfl,by first | exact .inr (List.all_eq_true.1 rfl) | exact .inl ⟨rfl,by simp [Blk.kindIs,fillK_fd,thK_fd]⟩,?_⟩;refine k _ ?_;clear k K
 simp only [zY,zW,set_some,Nat.reduceEqDiff,reduceIte,rho_one,rho_s,rho2_s,rho2_0,rho2_1,V.ren,V.renL,List.set_cons_zero,List.set_cons_succ,rho,Nat.reduceAdd,Nat.add_zero]
 simp only [List.mem_cons,List.not_mem_nil,or_false] at h16
 refine zq1 ⟨?_⟩;refine v_op ?_;intro K k
 simp only [zE,zM,aStepM,optable,set_some,Nat.reduceEqDiff,reduceIte,Nat.reduceLT,implies_true,forall_const,reduceCtorEq,V.ofValue,V.ofScalar,V.un,V.gd,aExec,lentIds,lendOf,‹Tys _›.h,‹Fc _›.h]
 repeat (refine andC ?_)
 refine aCall_lent2XA (among_con code a16 s16 [0,1,1,2,5] (by simp) hcode hcl (by omega)) ?_
 rintro _ _ ⟨v19,a19,s19,h19,k19,rfl,rfl⟩
 refine ⟨_,_,_,rfl,by first | exact .inr (List.all_eq_true.1 rfl) | exact .inl ⟨rfl,by simp [Blk.kindIs,fillK_fd,thK_fd]⟩,?_⟩;refine k _ ?_;clear k K
 simp only [zY,zW,set_some,Nat.reduceEqDiff,reduceIte,rho_one,rho_s,rho2_s,rho2_0,rho2_1,V.ren,V.renL,List.set_cons_zero,List.set_cons_succ,rho,Nat.reduceAdd,Nat.add_zero]
 simp only [List.mem_cons,List.not_mem_nil,or_false] at h19
 refine zq1 ⟨?_⟩;refine v_op ?_;intro K k
 simp only [zE,zM,aStepM,optable,set_some,Nat.reduceEqDiff,reduceIte,Nat.reduceLT,implies_true,forall_const,reduceCtorEq,V.ofValue,V.ofScalar,V.un,V.gd,aExec,lentIds,lendOf,‹Tys _›.h,‹Fc _›.h]
 repeat (refine andC ?_)
 refine aCall_lent2XA (among_con code a19 s19 [7,7,8,9,9999,1] (by simp) hcode hcl (by omega)) ?_
 rintro _ _ ⟨v22,a22,s22,h22,k22,rfl,rfl⟩
 refine ⟨_,_,_,rfl,by first | exact .inr (List.all_eq_true.1 rfl) | exact .inl ⟨rfl,by simp [Blk.kindIs,fillK_fd,thK_fd]⟩,?_⟩;refine k _ ?_;clear k K
 simp only [zY,zW,set_some,Nat.reduceEqDiff,reduceIte,rho_one,rho_s,rho2_s,rho2_0,rho2_1,V.ren,V.renL,List.set_cons_zero,List.set_cons_succ,rho,Nat.reduceAdd,Nat.add_zero]
 simp only [List.mem_cons,List.not_mem_nil,or_false] at h22
 refine zBuild ⟨?_⟩;refine zAlloc ⟨?_⟩;refine zStore ⟨?_⟩;refine k2 _ ?_;refine zk ⟨?_⟩;refine v_seq ?_;intros;refine yR [0,4,5,26] ⟨?_⟩;refine v_condS _ rfl ?_ ?_
 ·intro hc0
  refine yQ [0,4,5] ⟨?_⟩;refine v_seq ?_;intro Q7 n7 e7 r7;refine v_seqR [0,4,5,29] ?_;intro K8 k8;refine zMove ⟨?_⟩;refine v_op ?_;intro K k
  simp only [zE,zM,aStepM,optable,set_some,Nat.reduceEqDiff,reduceIte,Nat.reduceLT,implies_true,forall_const,reduceCtorEq,V.ofValue,V.ofScalar,V.un,V.gd,aExec,lentIds,lendOf,‹Tys _›.h,‹Fc _›.h]
  repeat (refine andC ?_)
  refine aCall_lentXA (pick_con code a22 s22 (60) hcode hcl (by omega)) ?_
  rintro _ _ ⟨v29,a29,s29,h29,k29,rfl,rfl⟩
  refine ⟨_,_,rfl,by first | exact .inr (List.all_eq_true.1 rfl) | exact .inl ⟨rfl,by simp [Blk.kindIs,fillK_fd,thK_fd]⟩,?_⟩;refine k _ ?_;clear k K
  simp only [zY,zW,set_some,Nat.reduceEqDiff,reduceIte,rho_one,rho_s,rho2_s,rho2_0,rho2_1,V.ren,V.renL,List.set_cons_zero,List.set_cons_succ,rho,Nat.reduceAdd,Nat.add_zero]
  refine k8 _ ?_;refine zk ⟨?_⟩;refine v_block ?_;intro Q9 n9 x9 e9 r9;refine yR [0,4,5,29,30] ⟨?_⟩;refine v_condS _ rfl ?_ ?_
  ·intro hc1
   refine v_region ?_;intro K12 k12;refine zq1 ⟨?_⟩;refine v_op ?_;intro K k
   simp only [zE,zM,aStepM,optable,set_some,Nat.reduceEqDiff,reduceIte,Nat.reduceLT,implies_true,forall_const,reduceCtorEq,V.ofValue,V.ofScalar,V.un,V.gd,aExec,lentIds,lendOf,‹Tys _›.h,‹Fc _›.h]
   repeat (refine andC ?_)
   refine aCall_lent2XA (among_con code a29 s29 [-1,10000,-9223372036854775808] (by simp) hcode hcl (by omega)) ?_
   rintro _ _ ⟨v34,a34,s34,h34,k34,rfl,rfl⟩
   refine ⟨_,_,_,rfl,by first | exact .inr (List.all_eq_true.1 rfl) | exact .inl ⟨rfl,by simp [Blk.kindIs,fillK_fd,thK_fd]⟩,?_⟩;refine k _ ?_;clear k K
   simp only [zY,zW,set_some,Nat.reduceEqDiff,reduceIte,rho_one,rho_s,rho2_s,rho2_0,rho2_1,V.ren,V.renL,List.set_cons_zero,List.set_cons_succ,rho,Nat.reduceAdd,Nat.add_zero]
   simp only [List.mem_cons,List.not_mem_nil,or_false] at h34
   refine zq7 ⟨?_⟩;refine k12 _ ?_;refine n9 _ ?_;refine n7 _ _ (weak_keep [4,5] _) ?_;refine zk ⟨?_⟩;refine yR [4] ⟨?_⟩;refine zq4 ⟨?_⟩;refine ret_viewX ?_
   exact ⟨_,_,_,_,_,_,_,by omega,rfl,rfl⟩
  ·intro hc1
   refine yR [0,4,5,29,36] ⟨?_⟩;refine v_condS _ rfl ?_ ?_
   ·intro hc2
    refine v_region ?_;intro K16 k16;refine zq1 ⟨?_⟩;refine v_op ?_;intro K k
    simp only [zE,zM,aStepM,optable,set_some,Nat.reduceEqDiff,reduceIte,Nat.reduceLT,implies_true,forall_const,reduceCtorEq,V.ofValue,V.ofScalar,V.un,V.gd,aExec,lentIds,lendOf,‹Tys _›.h,‹Fc _›.h]
    repeat (refine andC ?_)
    refine aCall_lent2XA (among_con code a29 s29 [-1,6] (by simp) hcode hcl (by omega)) ?_
    rintro _ _ ⟨v40,a40,s40,h40,k40,rfl,rfl⟩
    refine ⟨_,_,_,rfl,by first | exact .inr (List.all_eq_true.1 rfl) | exact .inl ⟨rfl,by simp [Blk.kindIs,fillK_fd,thK_fd]⟩,?_⟩;refine k _ ?_;clear k K
    simp only [zY,zW,set_some,Nat.reduceEqDiff,reduceIte,rho_one,rho_s,rho2_s,rho2_0,rho2_1,V.ren,V.renL,List.set_cons_zero,List.set_cons_succ,rho,Nat.reduceAdd,Nat.add_zero]
    simp only [List.mem_cons,List.not_mem_nil,or_false] at h40
    refine zq7 ⟨?_⟩;refine k16 _ ?_;refine n9 _ ?_;refine n7 _ _ (weak_keep [4,5] _) ?_;refine zk ⟨?_⟩;refine yR [4] ⟨?_⟩;refine zq4 ⟨?_⟩;refine ret_viewX ?_
    exact ⟨_,_,_,_,_,_,_,by omega,rfl,rfl⟩
   ·intro hc2
    refine yR [0,4,5,29,42] ⟨?_⟩;refine v_condS _ rfl ?_ ?_
    ·intro hc3
     refine v_region ?_;intro K20 k20;refine zq1 ⟨?_⟩;refine v_op ?_;intro K k
     simp only [zE,zM,aStepM,optable,set_some,Nat.reduceEqDiff,reduceIte,Nat.reduceLT,implies_true,forall_const,reduceCtorEq,V.ofValue,V.ofScalar,V.un,V.gd,aExec,lentIds,lendOf,‹Tys _›.h,‹Fc _›.h]
     repeat (refine andC ?_)
     refine aCall_lent2XA (among_con code a29 s29 [0,10000] (by simp) hcode hcl (by omega)) ?_
     rintro _ _ ⟨v46,a46,s46,h46,k46,rfl,rfl⟩
     refine ⟨_,_,_,rfl,by first | exact .inr (List.all_eq_true.1 rfl) | exact .inl ⟨rfl,by simp [Blk.kindIs,fillK_fd,thK_fd]⟩,?_⟩;refine k _ ?_;clear k K
     simp only [zY,zW,set_some,Nat.reduceEqDiff,reduceIte,rho_one,rho_s,rho2_s,rho2_0,rho2_1,V.ren,V.renL,List.set_cons_zero,List.set_cons_succ,rho,Nat.reduceAdd,Nat.add_zero]
     simp only [List.mem_cons,List.not_mem_nil,or_false] at h46
     refine zq7 ⟨?_⟩;refine k20 _ ?_;refine n9 _ ?_;refine n7 _ _ (weak_keep [4,5] _) ?_;refine zk ⟨?_⟩;refine yR [4] ⟨?_⟩;refine zq4 ⟨?_⟩;refine ret_viewX ?_
     exact ⟨_,_,_,_,_,_,_,by omega,rfl,rfl⟩
    ·intro hc3
     refine yR [0,4,5,48] ⟨?_⟩;refine v_condS _ rfl ?_ ?_
     ·intro hc4
      refine v_region ?_;intro K24 k24;refine zq1 ⟨?_⟩;refine v_op ?_;intro K k
      simp only [zE,zM,aStepM,optable,set_some,Nat.reduceEqDiff,reduceIte,Nat.reduceLT,implies_true,forall_const,reduceCtorEq,V.ofValue,V.ofScalar,V.un,V.gd,aExec,lentIds,lendOf,‹Tys _›.h,‹Fc _›.h]
      repeat (refine andC ?_)
      refine aCall_lent2XA (among_con code a29 s29 [-1,10000,9223372036854775807] (by simp) hcode hcl (by omega)) ?_
      rintro _ _ ⟨v52,a52,s52,h52,k52,rfl,rfl⟩
      refine ⟨_,_,_,rfl,by first | exact .inr (List.all_eq_true.1 rfl) | exact .inl ⟨rfl,by simp [Blk.kindIs,fillK_fd,thK_fd]⟩,?_⟩;refine k _ ?_;clear k K
      simp only [zY,zW,set_some,Nat.reduceEqDiff,reduceIte,rho_one,rho_s,rho2_s,rho2_0,rho2_1,V.ren,V.renL,List.set_cons_zero,List.set_cons_succ,rho,Nat.reduceAdd,Nat.add_zero]
      simp only [List.mem_cons,List.not_mem_nil,or_false] at h52
      refine zq7 ⟨?_⟩;refine k24 _ ?_;refine n9 _ ?_;refine n7 _ _ (weak_keep [4,5] _) ?_;refine zk ⟨?_⟩;refine yR [4] ⟨?_⟩;refine zq4 ⟨?_⟩;refine ret_viewX ?_
      exact ⟨_,_,_,_,_,_,_,by omega,rfl,rfl⟩
     ·intro hc4
      refine zn [4,5] ⟨?_⟩;refine yR [4] ⟨?_⟩;refine zq4 ⟨?_⟩;refine ret_viewX ?_
      exact ⟨_,_,_,_,_,_,_,by omega,rfl,rfl⟩
 ·intro hc0
  refine zn [0,4,5] ⟨?_⟩;refine v_seq ?_;intro Q27 n27 e27 r27;refine v_seqR [0,4,5,29] ?_;intro K28 k28;refine zMove ⟨?_⟩;refine v_op ?_;intro K k
  simp only [zE,zM,aStepM,optable,set_some,Nat.reduceEqDiff,reduceIte,Nat.reduceLT,implies_true,forall_const,reduceCtorEq,V.ofValue,V.ofScalar,V.un,V.gd,aExec,lentIds,lendOf,‹Tys _›.h,‹Fc _›.h]
  repeat (refine andC ?_)
  refine aCall_lentXA (pick_con code a22 s22 (60) hcode hcl (by omega)) ?_
  rintro _ _ ⟨v29,a29,s29,h29,k29,rfl,rfl⟩
  refine ⟨_,_,rfl,by first | exact .inr (List.all_eq_true.1 rfl) | exact .inl ⟨rfl,by simp [Blk.kindIs,fillK_fd,thK_fd]⟩,?_⟩;refine k _ ?_;clear k K
  simp only [zY,zW,set_some,Nat.reduceEqDiff,reduceIte,rho_one,rho_s,rho2_s,rho2_0,rho2_1,V.ren,V.renL,List.set_cons_zero,List.set_cons_succ,rho,Nat.reduceAdd,Nat.add_zero]
  refine k28 _ ?_;refine zk ⟨?_⟩;refine v_block ?_;intro Q29 n29 x29 e29 r29;refine yR [0,4,5,29,30] ⟨?_⟩;refine v_condS _ rfl ?_ ?_
  ·intro hc5
   refine v_region ?_;intro K32 k32;refine zq1 ⟨?_⟩;refine v_op ?_;intro K k
   simp only [zE,zM,aStepM,optable,set_some,Nat.reduceEqDiff,reduceIte,Nat.reduceLT,implies_true,forall_const,reduceCtorEq,V.ofValue,V.ofScalar,V.un,V.gd,aExec,lentIds,lendOf,‹Tys _›.h,‹Fc _›.h]
   repeat (refine andC ?_)
   refine aCall_lent2XA (among_con code a29 s29 [-1,10000,-9223372036854775808] (by simp) hcode hcl (by omega)) ?_
   rintro _ _ ⟨v34,a34,s34,h34,k34,rfl,rfl⟩
   refine ⟨_,_,_,rfl,by first | exact .inr (List.all_eq_true.1 rfl) | exact .inl ⟨rfl,by simp [Blk.kindIs,fillK_fd,thK_fd]⟩,?_⟩;refine k _ ?_;clear k K
   simp only [zY,zW,set_some,Nat.reduceEqDiff,reduceIte,rho_one,rho_s,rho2_s,rho2_0,rho2_1,V.ren,V.renL,List.set_cons_zero,List.set_cons_succ,rho,Nat.reduceAdd,Nat.add_zero]
   simp only [List.mem_cons,List.not_mem_nil,or_false] at h34
   refine zq7 ⟨?_⟩;refine k32 _ ?_;refine n29 _ ?_;refine n27 _ _ (weak_keep [4,5] _) ?_;refine zk ⟨?_⟩;refine yR [4] ⟨?_⟩;refine zq4 ⟨?_⟩;refine ret_viewX ?_
   exact ⟨_,_,_,_,_,_,_,by omega,rfl,rfl⟩
  ·intro hc5
   refine yR [0,4,5,29,36] ⟨?_⟩;refine v_condS _ rfl ?_ ?_
   ·intro hc6
    refine v_region ?_;intro K36 k36;refine zq1 ⟨?_⟩;refine v_op ?_;intro K k
    simp only [zE,zM,aStepM,optable,set_some,Nat.reduceEqDiff,reduceIte,Nat.reduceLT,implies_true,forall_const,reduceCtorEq,V.ofValue,V.ofScalar,V.un,V.gd,aExec,lentIds,lendOf,‹Tys _›.h,‹Fc _›.h]
    repeat (refine andC ?_)
    refine aCall_lent2XA (among_con code a29 s29 [-1,6] (by simp) hcode hcl (by omega)) ?_
    rintro _ _ ⟨v40,a40,s40,h40,k40,rfl,rfl⟩
    refine ⟨_,_,_,rfl,by first | exact .inr (List.all_eq_true.1 rfl) | exact .inl ⟨rfl,by simp [Blk.kindIs,fillK_fd,thK_fd]⟩,?_⟩;refine k _ ?_;clear k K
    simp only [zY,zW,set_some,Nat.reduceEqDiff,reduceIte,rho_one,rho_s,rho2_s,rho2_0,rho2_1,V.ren,V.renL,List.set_cons_zero,List.set_cons_succ,rho,Nat.reduceAdd,Nat.add_zero]
    simp only [List.mem_cons,List.not_mem_nil,or_false] at h40
    refine zq7 ⟨?_⟩;refine k36 _ ?_;refine n29 _ ?_;refine n27 _ _ (weak_keep [4,5] _) ?_;refine zk ⟨?_⟩;refine yR [4] ⟨?_⟩;refine zq4 ⟨?_⟩;refine ret_viewX ?_
    exact ⟨_,_,_,_,_,_,_,by omega,rfl,rfl⟩
   ·intro hc6
    refine yR [0,4,5,29,42] ⟨?_⟩;refine v_condS _ rfl ?_ ?_
    ·intro hc7
     refine v_region ?_;intro K40 k40;refine zq1 ⟨?_⟩;refine v_op ?_;intro K k
     simp only [zE,zM,aStepM,optable,set_some,Nat.reduceEqDiff,reduceIte,Nat.reduceLT,implies_true,forall_const,reduceCtorEq,V.ofValue,V.ofScalar,V.un,V.gd,aExec,lentIds,lendOf,‹Tys _›.h,‹Fc _›.h]
     repeat (refine andC ?_)
     refine aCall_lent2XA (among_con code a29 s29 [0,10000] (by simp) hcode hcl (by omega)) ?_
     rintro _ _ ⟨v46,a46,s46,h46,k46,rfl,rfl⟩
     refine ⟨_,_,_,rfl,by first | exact .inr (List.all_eq_true.1 rfl) | exact .inl ⟨rfl,by simp [Blk.kindIs,fillK_fd,thK_fd]⟩,?_⟩;refine k _ ?_;clear k K
     simp only [zY,zW,set_some,Nat.reduceEqDiff,reduceIte,rho_one,rho_s,rho2_s,rho2_0,rho2_1,V.ren,V.renL,List.set_cons_zero,List.set_cons_succ,rho,Nat.reduceAdd,Nat.add_zero]
     simp only [List.mem_cons,List.not_mem_nil,or_false] at h46
     refine zq7 ⟨?_⟩;refine k40 _ ?_;refine n29 _ ?_;refine n27 _ _ (weak_keep [4,5] _) ?_;refine zk ⟨?_⟩;refine yR [4] ⟨?_⟩;refine zq4 ⟨?_⟩;refine ret_viewX ?_
     exact ⟨_,_,_,_,_,_,_,by omega,rfl,rfl⟩
    ·intro hc7
     refine yR [0,4,5,48] ⟨?_⟩;refine v_condS _ rfl ?_ ?_
     ·intro hc8
      refine v_region ?_;intro K44 k44;refine zq1 ⟨?_⟩;refine v_op ?_;intro K k
      simp only [zE,zM,aStepM,optable,set_some,Nat.reduceEqDiff,reduceIte,Nat.reduceLT,implies_true,forall_const,reduceCtorEq,V.ofValue,V.ofScalar,V.un,V.gd,aExec,lentIds,lendOf,‹Tys _›.h,‹Fc _›.h]
      repeat (refine andC ?_)
      refine aCall_lent2XA (among_con code a29 s29 [-1,10000,9223372036854775807] (by simp) hcode hcl (by omega)) ?_
      rintro _ _ ⟨v52,a52,s52,h52,k52,rfl,rfl⟩
      refine ⟨_,_,_,rfl,by first | exact .inr (List.all_eq_true.1 rfl) | exact .inl ⟨rfl,by simp [Blk.kindIs,fillK_fd,thK_fd]⟩,?_⟩;refine k _ ?_;clear k K
      simp only [zY,zW,set_some,Nat.reduceEqDiff,reduceIte,rho_one,rho_s,rho2_s,rho2_0,rho2_1,V.ren,V.renL,List.set_cons_zero,List.set_cons_succ,rho,Nat.reduceAdd,Nat.add_zero]
      simp only [List.mem_cons,List.not_mem_nil,or_false] at h52
      refine zq7 ⟨?_⟩;refine k44 _ ?_;refine n29 _ ?_;refine n27 _ _ (weak_keep [4,5] _) ?_;refine zk ⟨?_⟩;refine yR [4] ⟨?_⟩;refine zq4 ⟨?_⟩;refine ret_viewX ?_
      exact ⟨_,_,_,_,_,_,_,by omega,rfl,rfl⟩
     ·intro hc8
      refine zn [4,5] ⟨?_⟩;refine yR [4] ⟨?_⟩;refine zq4 ⟨?_⟩;refine ret_viewX ?_
      exact ⟨_,_,_,_,_,_,_,by omega,rfl,rfl⟩
set_option maxRecDepth 8000 in
theorem drawCalls_con (code:List Int) (a s:Int) (hcode:∀x∈code,0≤x∧x≤255) (hcl:code.length≤9223372036854775807) (ha:0≤a∧a < 15000000000):ConX Try.prog 58 [.ptr 0 0 0] [.box (.agg [.sl (code.map (V.int .u8)),.int .i64 a,.int .u64 s]) .shal] (fun r O'=>∃(l:List (Int×Int×Int×Int×Int)) (a' s':Int),(l.length≤22)∧(a≤a'∧a'≤a+2000)∧r=.ref 1∧O'=[.box (.agg [.sl (code.map (V.int .u8)),.int .i64 a',.int .u64 s']) .shal,.arr (l.map (fun t:Int×Int×Int×Int×Int=>V.agg [V.int .i64 t.1,V.int .i64 t.2.1,V.int .i64 t.2.2.1,V.int .i64 t.2.2.2.1,V.int .i64 t.2.2.2.2])) .flat]):=by
 refine v_conX [.tmp 2] [(102,[0,1]),(80,[0]),(101,[0]),(79,[0])] Try.func58 rfl rfl rfl (by simp [Try.ntmps58]) ?_
 intro Q0 n0 r0
 simp only [Try.ntmps58,envFrom,Nat.reduceAdd]
 have T:=Tys.mk (ai Ty.t3 (ai Ty.t4 (ai Ty.t5 (ai Ty.t26 (ai Ty.t48 (ai Ty.t50 (ai Ty.t65 (ai Ty.t95 (ai Ty.t96 Ty.t98)))))))))
 have F:=Fc.mk True.intro
 refine yR [0] ⟨?_⟩;refine yR [0,3] ⟨?_⟩;refine v_seqR [0,3,4] ?_;intro K3 k3;refine zMove ⟨?_⟩;refine v_op ?_;intro K k
 simp only [zE,zM,aStepM,optable,set_some,Nat.reduceEqDiff,reduceIte,Nat.reduceLT,implies_true,forall_const,reduceCtorEq,V.ofValue,V.ofScalar,V.un,V.gd,aExec,lentIds,lendOf,‹Tys _›.h,‹Fc _›.h]
 repeat (refine andC ?_)
 refine aCall_lentXA (pick_con code a s (10) hcode hcl (by omega)) ?_
 rintro _ _ ⟨v7,a7,s7,h7,k7,rfl,rfl⟩
 refine ⟨_,_,rfl,by first | exact .inr (List.all_eq_true.1 rfl) | exact .inl ⟨rfl,by simp [Blk.kindIs,fillK_fd,thK_fd]⟩,?_⟩;refine k _ ?_;clear k K
 simp only [zY,zW,set_some,Nat.reduceEqDiff,reduceIte,rho_one,rho_s,rho2_s,rho2_0,rho2_1,V.ren,V.renL,List.set_cons_zero,List.set_cons_succ,rho,Nat.reduceAdd,Nat.add_zero]
 refine zAssign ⟨?_⟩;refine k3 _ ?_;refine zk ⟨?_⟩;refine v_seqR [0,3,4,5] ?_;intro K4 k4;refine zMove ⟨?_⟩;refine v_op ?_;intro K k
 simp only [zE,zM,aStepM,optable,set_some,Nat.reduceEqDiff,reduceIte,Nat.reduceLT,implies_true,forall_const,reduceCtorEq,V.ofValue,V.ofScalar,V.un,V.gd,aExec,lentIds,lendOf,‹Tys _›.h,‹Fc _›.h]
 repeat (refine andC ?_)
 refine aCall_lentXA (pick_con code a7 s7 (8) hcode hcl (by omega)) ?_
 rintro _ _ ⟨v9,a9,s9,h9,k9,rfl,rfl⟩
 refine ⟨_,_,rfl,by first | exact .inr (List.all_eq_true.1 rfl) | exact .inl ⟨rfl,by simp [Blk.kindIs,fillK_fd,thK_fd]⟩,?_⟩;refine k _ ?_;clear k K
 simp only [zY,zW,set_some,Nat.reduceEqDiff,reduceIte,rho_one,rho_s,rho2_s,rho2_0,rho2_1,V.ren,V.renL,List.set_cons_zero,List.set_cons_succ,rho,Nat.reduceAdd,Nat.add_zero]
 refine zAssign ⟨?_⟩;refine k4 _ ?_;refine zk ⟨?_⟩;refine v_join (A:=TS) (fun p=>⟨[(0,.ptr 0 0 0),(3,.ref 1),(4,.int .i64 v7),(5,.int .i64 p.1)],[.box (.agg [.sl (code.map (V.int .u8)),.int .i64 p.2.1,.int .u64 p.2.2]) .shal,.arr [] .flat],false,43,0⟩) (fun p=>(0≤p.1∧p.1≤21)∧a≤p.2.1∧p.2.1≤a+8) ?_ ?_
 ·intro Q5 n5 e5 r5
  refine v_seqR [0,3,4,5,11] ?_;intro K6 k6;refine zMove ⟨?_⟩;refine v_op ?_;intro K k
  simp only [zE,zM,aStepM,optable,set_some,Nat.reduceEqDiff,reduceIte,Nat.reduceLT,implies_true,forall_const,reduceCtorEq,V.ofValue,V.ofScalar,V.un,V.gd,aExec,lentIds,lendOf,‹Tys _›.h,‹Fc _›.h]
  repeat (refine andC ?_)
  refine aCall_lentXA (one_con code a9 s9 (12) hcode hcl (by omega)) ?_
  rintro _ _ ⟨v11,a11,s11,h11,k11,rfl,rfl⟩
  refine ⟨_,_,rfl,by first | exact .inr (List.all_eq_true.1 rfl) | exact .inl ⟨rfl,by simp [Blk.kindIs,fillK_fd,thK_fd]⟩,?_⟩;refine k _ ?_;clear k K
  simp only [zY,zW,set_some,Nat.reduceEqDiff,reduceIte,rho_one,rho_s,rho2_s,rho2_0,rho2_1,V.ren,V.renL,List.set_cons_zero,List.set_cons_succ,rho,Nat.reduceAdd,Nat.add_zero]
  refine k6 _ ?_;refine zk ⟨?_⟩;refine v_condS _ rfl ?_ ?_
  ·intro hc0
   refine v_region ?_;intro K8 k8;refine zMove ⟨?_⟩;refine v_op ?_;intro K k
   simp only [zE,zM,aStepM,optable,set_some,Nat.reduceEqDiff,reduceIte,Nat.reduceLT,implies_true,forall_const,reduceCtorEq,V.ofValue,V.ofScalar,V.un,V.gd,aExec,lentIds,lendOf,‹Tys _›.h,‹Fc _›.h]
   repeat (refine andC ?_)
   refine aCall_lentXA (pick_con code a11 s11 (2) hcode hcl (by omega)) ?_
   rintro _ _ ⟨v13,a13,s13,h13,k13,rfl,rfl⟩
   refine ⟨_,_,rfl,by first | exact .inr (List.all_eq_true.1 rfl) | exact .inl ⟨rfl,by simp [Blk.kindIs,fillK_fd,thK_fd]⟩,?_⟩;refine k _ ?_;clear k K
   simp only [zY,zW,set_some,Nat.reduceEqDiff,reduceIte,rho_one,rho_s,rho2_s,rho2_0,rho2_1,V.ren,V.renL,List.set_cons_zero,List.set_cons_succ,rho,Nat.reduceAdd,Nat.add_zero]
   refine zBinOpW ⟨?_⟩;refine zAssign ⟨?_⟩;refine k8 _ ?_;refine n5 (20+v13,a13,s13) _ ?_ ?_
   ·exact ⟨by show 0≤20+v13∧20+v13≤21;omega,by show a≤a13∧a13≤a+8;omega⟩
   ·refine weak_both [0,3,4,5] [0,2] (by decide) (by simp) ?_ ?_ ?_
    ·simp [keep_mk,keepE_nil,keepE_cons,look_cons,V.only,V.onlyL,idx]<;>(first | rfl | decide)
    ·simp [Blk.kindIs,fillK_mix,thK_mix]
    simp only [keep_mk,keepE_nil,keepE_cons,look_cons,look_nil,Nat.reduceEqDiff,reduceIte,St.comp,List.map_cons,List.map_nil,V.ren,V.renL,idx,List.getD_cons_zero,List.getD_cons_succ,Nat.reduceBEq,cond_true,cond_false,Option.map_some,Option.getD_some,Nat.reduceAdd,Nat.beq_eq_true_eq]
    all_goals rfl
  ·intro hc0
   refine v_skip ?_;refine n5 (v9,a11,s11) _ ?_ ?_
   ·exact ⟨by show 0≤v9∧v9≤21;omega,by show a≤a11∧a11≤a+8;omega⟩
   ·refine weak_both [0,3,4,5] [0,2] (by decide) (by simp) ?_ ?_ ?_
    ·simp [keep_mk,keepE_nil,keepE_cons,look_cons,V.only,V.onlyL,idx]<;>(first | rfl | decide)
    ·simp [Blk.kindIs,fillK_mix,thK_mix]
    simp only [keep_mk,keepE_nil,keepE_cons,look_cons,look_nil,Nat.reduceEqDiff,reduceIte,St.comp,List.map_cons,List.map_nil,V.ren,V.renL,idx,List.getD_cons_zero,List.getD_cons_succ,Nat.reduceBEq,cond_true,cond_false,Option.map_some,Option.getD_some,Nat.reduceAdd,Nat.beq_eq_true_eq]
    all_goals rfl
 ·rintro ⟨n,a1,s1⟩ hok5
  obtain ⟨hn,ha1⟩:=hok5
  simp only [] at hn ha1⊢
  refine v_seq ?_;intros;refine v_block ?_;intros;refine v_loop (fun p=>⟨[(0,.ptr 0 0 0),(3,.ref 1),(4,.int .i64 p.2.1),(5,.int .i64 n)],[.box (.agg [.sl (code.map (V.int .u8)),.int .i64 p.2.2.1,.int .u64 p.2.2.2]) .shal,.arr (p.1.map (fun t:Int×Int×Int×Int×Int=>V.agg [V.int .i64 t.1,V.int .i64 t.2.1,V.int .i64 t.2.2.1,V.int .i64 t.2.2.2.1,V.int .i64 t.2.2.2.2])) .flat],false,43,0⟩) (fun p=>(p.1.length:Int)≤n∧(0≤p.2.1∧p.2.1≤10+40 * (p.1.length:Int))∧a1≤p.2.2.1∧p.2.2.1≤a1+30 * (p.1.length:Int)) (fun p=>(n - (p.1.length:Int)).toNat) (([],v7,a1,s1):List (Int×Int×Int×Int×Int)×Int×Int×Int) ?_ ?_ ?_
  ·refine weak_both [0,3,4,5] [0,1] (by decide) (by simp) ?_ ?_ ?_
   ·simp [keep_mk,keepE_nil,keepE_cons,look_cons,V.only,V.onlyL,idx]<;>(first | rfl | decide)
   ·simp [Blk.kindIs,fillK_mix,thK_mix]
   simp only [keep_mk,keepE_nil,keepE_cons,look_cons,look_nil,Nat.reduceEqDiff,reduceIte,St.comp,List.map_cons,List.map_nil,V.ren,V.renL,idx,List.getD_cons_zero,List.getD_cons_succ,Nat.reduceBEq,cond_true,cond_false,Option.map_some,Option.getD_some,Nat.reduceAdd,Nat.beq_eq_true_eq]
   all_goals rfl
  ·exact ⟨by simpa using hn.1,by simp;omega,by simp⟩
  ·rintro ⟨acc,mn,a2,s2⟩ hok11 Q11 n11 e11 r11
   obtain ⟨hal,hk,ha2⟩:=hok11
   simp only [] at hal hk ha2⊢
   refine v_seq ?_;intros
   have F:=Fc.mk True.intro
   refine yR [0,3,4,5,18] ⟨?_⟩;refine v_condS _ rfl ?_ ?_
   ·intro hc1
    refine zn [0,3,4,5] ⟨?_⟩;refine v_block ?_;intro Q15 n15 x15 e15 r15;refine v_seqR [0,3,4,5] ?_;intro K16 k16;refine zq3 ⟨?_⟩;refine zMove ⟨?_⟩;refine v_op ?_;intro K k
    simp only [zE,zM,aStepM,optable,set_some,Nat.reduceEqDiff,reduceIte,Nat.reduceLT,implies_true,forall_const,reduceCtorEq,V.ofValue,V.ofScalar,V.un,V.gd,aExec,lentIds,lendOf,‹Tys _›.h,‹Fc _›.h]
    repeat (refine andC ?_)
    refine aCall_lentXA (drawCall_con code a2 s2 (mn) hcode hcl (by omega)) ?_
    rintro _ _ ⟨e22,f22,g22,q22,u22,a22,s22,h22,k22,rfl,rfl⟩
    refine ⟨_,_,rfl,by first | exact .inr (List.all_eq_true.1 rfl) | exact .inl ⟨rfl,by simp [Blk.kindIs,fillK_fd,thK_fd]⟩,?_⟩;refine k _ ?_;clear k K
    simp only [zY,zW,set_some,Nat.reduceEqDiff,reduceIte,rho_one,rho_s,rho2_s,rho2_0,rho2_1,V.ren,V.renL,List.set_cons_zero,List.set_cons_succ,rho,Nat.reduceAdd,Nat.add_zero]
    refine zBuildSlice ⟨?_⟩;refine zAppend ⟨?_⟩;refine zAssign ⟨?_⟩;refine k16 _ ?_;refine zk ⟨?_⟩;refine v_region ?_;intro K17 k17;refine zMove ⟨?_⟩;refine zq1 ⟨?_⟩;refine v_op ?_;intro K k
    simp only [zE,zM,aStepM,optable,set_some,Nat.reduceEqDiff,reduceIte,Nat.reduceLT,implies_true,forall_const,reduceCtorEq,V.ofValue,V.ofScalar,V.un,V.gd,aExec,lentIds,lendOf,‹Tys _›.h,‹Fc _›.h]
    repeat (refine andC ?_)
    refine aCall_lent2XA (among_con code a22 s22 [0,0,1,3,5,40] (by simp) hcode hcl (by omega)) ?_
    rintro _ _ ⟨v28,a28,s28,h28,k28,rfl,rfl⟩
    refine ⟨_,_,_,rfl,by first | exact .inr (List.all_eq_true.1 rfl) | exact .inl ⟨rfl,by simp [Blk.kindIs,fillK_fd,thK_fd]⟩,?_⟩;refine k _ ?_;clear k K
    simp only [zY,zW,set_some,Nat.reduceEqDiff,reduceIte,rho_one,rho_s,rho2_s,rho2_0,rho2_1,V.ren,V.renL,List.set_cons_zero,List.set_cons_succ,rho,Nat.reduceAdd,Nat.add_zero]
    simp only [List.mem_cons,List.not_mem_nil,or_false] at h28
    refine zBinOpW ⟨?_⟩;refine zAssign ⟨?_⟩;refine k17 _ ?_;refine n15 _ ?_;refine n11 _ (acc++[(e22,f22,g22,q22,u22)],mn+v28,a28,s28) ?_ ?_ ?_
    ·refine weak_bothS [0,3,4,5] [0,3] ⟨?_⟩
     rw [snoc_Call]
    ·exact ⟨by show ((acc++_).length:Int)≤n;simp;omega,by show 0≤mn+v28∧mn+v28≤10+40 * ((acc++_).length:Int);simp;omega,by show a1≤a28∧a28≤a1+30 * ((acc++_).length:Int);simp;omega⟩
    ·show _ < _;show (n - ((acc++_).length:Int)).toNat < (n - (acc.length:Int)).toNat;simp;omega
   ·intro hc1
    refine zn [0,3] ⟨?_⟩;refine v_seq ?_;intro Q18 n18 e18 r18;refine v_seqR [0,3,31] ?_;intro K19 k19;refine zMove ⟨?_⟩;refine v_op ?_;intro K k
    simp only [zE,zM,aStepM,optable,set_some,Nat.reduceEqDiff,reduceIte,Nat.reduceLT,implies_true,forall_const,reduceCtorEq,V.ofValue,V.ofScalar,V.un,V.gd,aExec,lentIds,lendOf,‹Tys _›.h,‹Fc _›.h]
    repeat (refine andC ?_)
    refine aCall_lentXA (pick_con code a2 s2 (24) hcode hcl (by omega)) ?_
    rintro _ _ ⟨v31,a31,s31,h31,k31,rfl,rfl⟩
    refine ⟨_,_,rfl,by first | exact .inr (List.all_eq_true.1 rfl) | exact .inl ⟨rfl,by simp [Blk.kindIs,fillK_fd,thK_fd]⟩,?_⟩;refine k _ ?_;clear k K
    simp only [zY,zW,set_some,Nat.reduceEqDiff,reduceIte,rho_one,rho_s,rho2_s,rho2_0,rho2_1,V.ren,V.renL,List.set_cons_zero,List.set_cons_succ,rho,Nat.reduceAdd,Nat.add_zero]
    refine k19 _ ?_;refine zk ⟨?_⟩;refine v_block ?_;intro Q20 n20 x20 e20 r20;refine yR [0,3,32] ⟨?_⟩;refine v_condS _ rfl ?_ ?_
    ·intro hc2
     skip
     refine v_region ?_;intro K23 k23
     have F:=Fc.mk @snoc_Call
     refine zq3 ⟨?_⟩;refine zq1 ⟨?_⟩;refine v_op ?_;intro K k
     simp only [zE,zM,aStepM,optable,set_some,Nat.reduceEqDiff,reduceIte,Nat.reduceLT,implies_true,forall_const,reduceCtorEq,V.ofValue,V.ofScalar,V.un,V.gd,aExec,lentIds,lendOf,‹Tys _›.h,‹Fc _›.h]
     repeat (refine andC ?_)
     refine aCall_lent2XA (among_con code a31 s31 [0,99999,100000,-1] (by simp) hcode hcl (by omega)) ?_
     rintro _ _ ⟨v38,a38,s38,h38,k38,rfl,rfl⟩
     refine ⟨_,_,_,rfl,by first | exact .inr (List.all_eq_true.1 rfl) | exact .inl ⟨rfl,by simp [Blk.kindIs,fillK_fd,thK_fd]⟩,?_⟩;refine k _ ?_;clear k K
     simp only [zY,zW,set_some,Nat.reduceEqDiff,reduceIte,rho_one,rho_s,rho2_s,rho2_0,rho2_1,V.ren,V.renL,List.set_cons_zero,List.set_cons_succ,rho,Nat.reduceAdd,Nat.add_zero]
     simp only [List.mem_cons,List.not_mem_nil,or_false] at h38
     refine v_op ?_;intro K k
     simp only [zE,zM,aStepM,optable,set_some,Nat.reduceEqDiff,reduceIte,Nat.reduceLT,implies_true,forall_const,reduceCtorEq,V.ofValue,V.ofScalar,V.un,V.gd,aExec,lentIds,lendOf,‹Tys _›.h,‹Fc _›.h]
     repeat (refine andC ?_)
     refine aCall_lentXA (drawCall_con code a38 s38 (v38) hcode hcl (by omega)) ?_
     rintro _ _ ⟨e39,f39,g39,q39,u39,a39,s39,h39,k39,rfl,rfl⟩
     refine ⟨_,_,rfl,by first | exact .inr (List.all_eq_true.1 rfl) | exact .inl ⟨rfl,by simp [Blk.kindIs,fillK_fd,thK_fd]⟩,?_⟩;refine k _ ?_;clear k K
     simp only [zY,zW,set_some,Nat.reduceEqDiff,reduceIte,rho_one,rho_s,rho2_s,rho2_0,rho2_1,V.ren,V.renL,List.set_cons_zero,List.set_cons_succ,rho,Nat.reduceAdd,Nat.add_zero]
     refine zBuildSlice ⟨?_⟩;refine zAppend ⟨?_⟩;refine zAssign ⟨?_⟩;refine k23 _ ?_;refine n20 _ ?_;refine n18 _ _ (weak_keep [3] _) ?_;refine zk ⟨?_⟩;refine yR [2] ⟨?_⟩;refine zr ⟨?_⟩;refine ret_viewX ?_
     exact ⟨acc++[(e39,f39,g39,q39,u39)],_,_,by simp;omega,by omega,rfl,rfl⟩
    ·intro hc2
     refine zn [3] ⟨?_⟩;refine yR [2] ⟨?_⟩;refine zr ⟨?_⟩;refine ret_viewX ?_
     exact ⟨acc,_,_,by omega,by omega,rfl,rfl⟩
def oeB (x y:(Int×Int×Int×Int×Int)) (wn rd:Int):Bool:=cOne x && cOne y && winB wn rd
def gcB (l:List (Int×Int×Int×Int×Int)) (wn rd:Int):Bool:=csB l && winB wn rd
def gcR (l:List (Int×Int×Int×Int×Int)) (wn rd:Int):List (List Int):=if gcB l wn rd=true then groupsC l wn rd else []
def isG (n:Nat) (g:List Int):Bool:=risingAt 0 ((n:Int) - 1) g 0 && decide (0 < g.length)
def hasI (l:List (Int×Int×Int×Int×Int)) (wn rd:Int) (c:(Int×Int×Int×Int×Int)) (i:Int):Bool:=match l[i.toNat]? with
  | some x=>nearB wn rd x c
  | none=>false
def gfF (l:List (Int×Int×Int×Int×Int)) (wn rd:Int) (c:(Int×Int×Int×Int×Int)):Int:=firstP (fun g:List Int=>g.any (hasI l wn rd c)) 0 (groupsC l wn rd)
def gfB (l:List (Int×Int×Int×Int×Int)) (wn rd:Int) (c:(Int×Int×Int×Int×Int)):Bool:=gcB l wn rd && cOne c && decide (0≤gfF l wn rd c)
def gfV (l:List (Int×Int×Int×Int×Int)) (wn rd:Int) (c:(Int×Int×Int×Int×Int)):Int:=if gfB l wn rd c=true then gfF l wn rd c else 0
theorem implAreCalls_con (l:List (Int×Int×Int×Int×Int)) (hl:l.length≤1048576):Con Try.prog 26 [.sl (l.map (fun t:Int×Int×Int×Int×Int=>V.agg [V.int .i64 t.1,V.int .i64 t.2.1,V.int .i64 t.2.2.1,V.int .i64 t.2.2.2.1,V.int .i64 t.2.2.2.2]))] [] (.bool (csB l)) []:=by
 refine v_con [.tmp 2] [] Try.func26 rfl rfl rfl (by simp [Try.ntmps26]) ?_
 intro Q0 n0 r0
 simp only [Try.ntmps26,envFrom,Nat.reduceAdd]
 have T:=Tys.mk (ai Ty.t3 (ai Ty.t4 (ai Ty.t50 Ty.t65)))
 have F:=Fc.mk True.intro
 refine yR [0] ⟨?_⟩;refine yRc [2] (areCalls_con l hl) ⟨?_⟩;refine zr ⟨?_⟩
 exact ret_pure rfl rfl (.inl rfl)
theorem implGroupCalls_con (l:List (Int×Int×Int×Int×Int)) (hl:l.length≤1048576) (wn rd:Int):Con Try.prog 23 [.sl (l.map (fun t:Int×Int×Int×Int×Int=>V.agg [V.int .i64 t.1,V.int .i64 t.2.1,V.int .i64 t.2.2.1,V.int .i64 t.2.2.2.1,V.int .i64 t.2.2.2.2])),.int .i64 wn,.int .i64 rd] [] (.tup [.ref 0,.bool (gcB l wn rd)]) [.arr ((gcR l wn rd).map (fun l:List Int=>V.sl (l.map (V.int .i64)))) (fillK (gcR l wn rd).length)]:=by
 refine v_con [.tmp 6,.tmp 7] [] Try.func23 rfl rfl rfl (by simp [Try.ntmps23]) ?_
 intro Q0 n0 r0
 simp only [Try.ntmps23,envFrom,Nat.reduceAdd]
 have T:=Tys.mk (ai Ty.t3 (ai Ty.t4 (ai Ty.t26 (ai Ty.t50 (ai Ty.t53 Ty.t65)))))
 have F:=Fc.mk True.intro
 refine yR [0,1,2] ⟨?_⟩;refine v_seq ?_;intros;refine yRcg [0,1,2,16] (areCalls_con l hl) (windowFits_con wn rd) ⟨?_⟩;refine v_condS _ rfl ?_ ?_
 ·intro hc0
  have hB:gcB l wn rd=false:=by
   cases hq:gcB l wn rd with
   |false=>rfl
   |true=>
    exfalso
    rw [gcB,Bool.and_eq_true] at hq
    simp [hq.1,hq.2] at hc0
  refine yR [6,7] ⟨?_⟩;refine zr ⟨?_⟩
  have hz:gcR l wn rd=[]:=by rw [gcR,hB];rfl
  rw [hz,hB]
  exact ret_ref_tup rfl rfl rfl (.inl rfl)
 ·intro hc0
  have hq:csB l=true∧winB wn rd=true:=by
   (try simp at hc0)
   first | exact hc0 | exact ⟨hc0.2,hc0.1⟩ | (refine ⟨?_,?_⟩<;>simp_all)
  have hb:=hq.1
  have hB:gcB l wn rd=true:=by rw [gcB,hq.1,hq.2];rfl
  refine zn [0,1,2] ⟨?_⟩;refine yRc [6,7] (groupCalls_con l wn rd hb) ⟨?_⟩;refine zr ⟨?_⟩
  have hz:gcR l wn rd=groupsC l wn rd:=by rw [gcR,if_pos hB]
  rw [hz,hB]
  exact ret_ref_tup rfl rfl rfl (fillK_or _)
theorem specGroupCalls_con (l:List (Int×Int×Int×Int×Int)) (hl:l.length≤1048576) (wn rd:Int):Con Try.prog 24 [.sl (l.map (fun t:Int×Int×Int×Int×Int=>V.agg [V.int .i64 t.1,V.int .i64 t.2.1,V.int .i64 t.2.2.1,V.int .i64 t.2.2.2.1,V.int .i64 t.2.2.2.2])),.int .i64 wn,.int .i64 rd] [] (.tup [.ref 0,.bool (gcB l wn rd)]) [.arr ((gcR l wn rd).map (fun l:List Int=>V.sl (l.map (V.int .i64)))) (fillK (gcR l wn rd).length)]:=by
 refine v_con [.tmp 6,.tmp 7] [] Try.func24 rfl rfl rfl (by simp [Try.ntmps24]) ?_
 intro Q0 n0 r0
 simp only [Try.ntmps24,envFrom,Nat.reduceAdd]
 have T:=Tys.mk (ai Ty.t3 (ai Ty.t4 (ai Ty.t26 (ai Ty.t50 (ai Ty.t53 Ty.t65)))))
 have F:=Fc.mk True.intro
 refine yR [0,1,2] ⟨?_⟩;refine v_seq ?_;intros;refine yRcg [0,1,2,16] (clGood_con l hl) (clLimits_con wn rd) ⟨?_⟩;refine v_condS _ rfl ?_ ?_
 ·intro hc0
  have hB:gcB l wn rd=false:=by
   cases hq:gcB l wn rd with
   |false=>rfl
   |true=>
    exfalso
    rw [gcB,Bool.and_eq_true] at hq
    simp [hq.1,hq.2] at hc0
  refine yR [6,7] ⟨?_⟩;refine zr ⟨?_⟩
  have hz:gcR l wn rd=[]:=by rw [gcR,hB];rfl
  rw [hz,hB]
  exact ret_ref_tup rfl rfl rfl (.inl rfl)
 ·intro hc0
  have hq:csB l=true∧winB wn rd=true:=by
   (try simp at hc0)
   first | exact hc0 | exact ⟨hc0.2,hc0.1⟩ | (refine ⟨?_,?_⟩<;>simp_all)
  have hb:=hq.1
  have hB:gcB l wn rd=true:=by rw [gcB,hq.1,hq.2];rfl
  refine zn [0,1,2] ⟨?_⟩;refine yRc [6,7] (clGroups_con l wn rd hb) ⟨?_⟩;refine zr ⟨?_⟩
  have hz:gcR l wn rd=groupsC l wn rd:=by rw [gcR,if_pos hB]
  rw [hz,hB]
  exact ret_ref_tup rfl rfl rfl (fillK_or _)
theorem implAreOneEvent_con (x0:Int) (x1:Int) (x2:Int) (x3:Int) (x4:Int) (y0:Int) (y1:Int) (y2:Int) (y3:Int) (y4:Int) (wn rd:Int):Con Try.prog 31 [.agg [V.int .i64 x0,V.int .i64 x1,V.int .i64 x2,V.int .i64 x3,V.int .i64 x4],.agg [V.int .i64 y0,V.int .i64 y1,V.int .i64 y2,V.int .i64 y3,V.int .i64 y4],.int .i64 wn,.int .i64 rd] [] (.tup [.bool (oeB (x0,x1,x2,x3,x4) (y0,y1,y2,y3,y4) wn rd && nearB wn rd (x0,x1,x2,x3,x4) (y0,y1,y2,y3,y4)),.bool (oeB (x0,x1,x2,x3,x4) (y0,y1,y2,y3,y4) wn rd)]) []:=by
 refine v_con [.tmp 8,.tmp 9] [] Try.func31 rfl rfl rfl (by simp [Try.ntmps31]) ?_
 intro Q0 n0 r0
 simp only [Try.ntmps31,envFrom,Nat.reduceAdd]
 have T:=Tys.mk (ai Ty.t3 (ai Ty.t4 Ty.t65))
 have F:=Fc.mk True.intro
 refine yR [2,3,4,5] ⟨?_⟩;refine v_seq ?_;intros;refine yRcgg [2,3,4,5,23] (isCall_con x0 x1 x2 x3 x4) (isCall_con y0 y1 y2 y3 y4) (windowFits_con wn rd) ⟨?_⟩;refine v_condS _ rfl ?_ ?_
 ·intro hc0
  have hB:oeB (x0,x1,x2,x3,x4) (y0,y1,y2,y3,y4) wn rd=false:=by
   cases hq:oeB (x0,x1,x2,x3,x4) (y0,y1,y2,y3,y4) wn rd with
   |false=>rfl
   |true=>
    exfalso
    rw [oeB,Bool.and_eq_true,Bool.and_eq_true] at hq
    simp [hq.1.1,hq.1.2,hq.2] at hc0
  refine yR [8,9] ⟨?_⟩;refine zr ⟨?_⟩
  exact ret_pure rfl (by rw [hB];rfl) (.inl rfl)
 ·intro hc0
  have hq:(cOne (x0,x1,x2,x3,x4)=true∧cOne (y0,y1,y2,y3,y4)=true)∧winB wn rd=true:=by
   (try simp at hc0)
   first | exact hc0 | exact ⟨⟨hc0.1,hc0.2.1⟩,hc0.2.2⟩ | exact ⟨⟨hc0.2.2,hc0.2.1⟩,hc0.1⟩ | (refine ⟨⟨?_,?_⟩,?_⟩<;>simp_all)
  have hx:=hq.1.1
  have hy:=hq.1.2
  have hB:oeB (x0,x1,x2,x3,x4) (y0,y1,y2,y3,y4) wn rd=true:=by rw [oeB,hx,hy,hq.2];rfl
  refine zn [2,3,4,5] ⟨?_⟩;refine yRc [8,9] (oneEvent_con x0 x1 x2 x3 x4 y0 y1 y2 y3 y4 hx hy wn rd) ⟨?_⟩;refine zr ⟨?_⟩
  exact ret_pure rfl (by rw [hB,Bool.true_and]) (.inl rfl)
theorem specAreOneEvent_con (x0:Int) (x1:Int) (x2:Int) (x3:Int) (x4:Int) (y0:Int) (y1:Int) (y2:Int) (y3:Int) (y4:Int) (wn rd:Int):Con Try.prog 32 [.agg [V.int .i64 x0,V.int .i64 x1,V.int .i64 x2,V.int .i64 x3,V.int .i64 x4],.agg [V.int .i64 y0,V.int .i64 y1,V.int .i64 y2,V.int .i64 y3,V.int .i64 y4],.int .i64 wn,.int .i64 rd] [] (.tup [.bool (oeB (x0,x1,x2,x3,x4) (y0,y1,y2,y3,y4) wn rd && nearB wn rd (x0,x1,x2,x3,x4) (y0,y1,y2,y3,y4)),.bool (oeB (x0,x1,x2,x3,x4) (y0,y1,y2,y3,y4) wn rd)]) []:=by
 refine v_con [.tmp 8,.tmp 9] [] Try.func32 rfl rfl rfl (by simp [Try.ntmps32]) ?_
 intro Q0 n0 r0
 simp only [Try.ntmps32,envFrom,Nat.reduceAdd]
 have T:=Tys.mk (ai Ty.t3 (ai Ty.t4 Ty.t65))
 have F:=Fc.mk True.intro
 refine yR [2,3,4,5] ⟨?_⟩;refine v_seq ?_;intros;refine yRcgg [2,3,4,5,23] (clOne_con x0 x1 x2 x3 x4) (clOne_con y0 y1 y2 y3 y4) (clLimits_con wn rd) ⟨?_⟩;refine v_condS _ rfl ?_ ?_
 ·intro hc0
  have hB:oeB (x0,x1,x2,x3,x4) (y0,y1,y2,y3,y4) wn rd=false:=by
   cases hq:oeB (x0,x1,x2,x3,x4) (y0,y1,y2,y3,y4) wn rd with
   |false=>rfl
   |true=>
    exfalso
    rw [oeB,Bool.and_eq_true,Bool.and_eq_true] at hq
    simp [hq.1.1,hq.1.2,hq.2] at hc0
  refine yR [8,9] ⟨?_⟩;refine zr ⟨?_⟩
  exact ret_pure rfl (by rw [hB];rfl) (.inl rfl)
 ·intro hc0
  have hq:(cOne (x0,x1,x2,x3,x4)=true∧cOne (y0,y1,y2,y3,y4)=true)∧winB wn rd=true:=by
   (try simp at hc0)
   first | exact hc0 | exact ⟨⟨hc0.1,hc0.2.1⟩,hc0.2.2⟩ | exact ⟨⟨hc0.2.2,hc0.2.1⟩,hc0.1⟩ | (refine ⟨⟨?_,?_⟩,?_⟩<;>simp_all)
  have hx:=hq.1.1
  have hy:=hq.1.2
  have hB:oeB (x0,x1,x2,x3,x4) (y0,y1,y2,y3,y4) wn rd=true:=by rw [oeB,hx,hy,hq.2];rfl
  refine zn [2,3,4,5] ⟨?_⟩;refine yRc [8,9] (clSame_con x0 x1 x2 x3 x4 y0 y1 y2 y3 y4 hx hy wn rd) ⟨?_⟩;refine zr ⟨?_⟩
  exact ret_pure rfl (by rw [hB,Bool.true_and]) (.inl rfl)
theorem clGroup_con (l:List (Int×Int×Int×Int×Int)) (hl:l.length≤1048576) (g:List Int) (hg:g.length≤1048576):Con Try.prog 69 [.sl (l.map (fun t:Int×Int×Int×Int×Int=>V.agg [V.int .i64 t.1,V.int .i64 t.2.1,V.int .i64 t.2.2.1,V.int .i64 t.2.2.2.1,V.int .i64 t.2.2.2.2])),.sl (g.map (V.int .i64))] [] (.bool (csB l && isG l.length g)) []:=by
 refine v_con [.tmp 4] [] Try.func69 rfl rfl rfl (by simp [Try.ntmps69]) ?_
 intro Q0 n0 r0
 simp only [Try.ntmps69,envFrom,Nat.reduceAdd]
 have T:=Tys.mk (ai Ty.t3 (ai Ty.t4 (ai Ty.t26 (ai Ty.t50 Ty.t65))))
 have F:=Fc.mk True.intro
 refine yR [0,1] ⟨?_⟩;refine yRcg [4] (clGood_con l hl) (l1Rising_con g 0 ((l.length:Int) - 1) hg) ⟨?_⟩;refine zr ⟨?_⟩
 exact ret_pure rfl (by congr 1;rw [isG];cases csB l<;>by_cases q:0 < g.length<;>simp [q]) (.inl rfl)
theorem isGroup_con (l:List (Int×Int×Int×Int×Int)) (hl:l.length≤1048576) (g:List Int) (hg:g.length≤1048576):Con Try.prog 68 [.sl (l.map (fun t:Int×Int×Int×Int×Int=>V.agg [V.int .i64 t.1,V.int .i64 t.2.1,V.int .i64 t.2.2.1,V.int .i64 t.2.2.2.1,V.int .i64 t.2.2.2.2])),.sl (g.map (V.int .i64))] [] (.bool (isG l.length g)) []:=by
 refine v_con [.tmp 4] [] Try.func68 rfl rfl rfl (by simp [Try.ntmps68]) ?_
 intro Q0 n0 r0
 simp only [Try.ntmps68,envFrom,Nat.reduceAdd]
 have T:=Tys.mk (ai Ty.t3 (ai Ty.t4 (ai Ty.t26 (ai Ty.t50 Ty.t65))))
 have F:=Fc.mk True.intro
 refine yR [0,1] ⟨?_⟩;refine v_seq ?_;intros;refine yR [0,1,7,8,9] ⟨?_⟩;refine v_block ?_;intros;refine v_loop (fun i=>⟨[(0,.sl (l.map (fun t:Int×Int×Int×Int×Int=>V.agg [V.int .i64 t.1,V.int .i64 t.2.1,V.int .i64 t.2.2.1,V.int .i64 t.2.2.2.1,V.int .i64 t.2.2.2.2]))),(1,.sl (g.map (V.int .i64))),(7,.sl (g.map (V.int .i64))),(8,.int .i64 g.length),(9,.int .i64 (Nat.cast i))],[],false,37,0⟩) (fun i=>i≤g.length∧risingAt 0 ((l.length:Int) - 1) g i=risingAt 0 ((l.length:Int) - 1) g 0) (fun i=>g.length - i) 0 ?_ ?_ ?_
 ·refine weak_of [0,1,7,8,9] ?_
  simp only [keep_mk,keepE_nil,keepE_cons,look_cons,look_nil,Nat.reduceEqDiff,reduceIte]
  rfl
 ·exact ⟨Nat.zero_le _,rfl⟩
 ·rintro i hok5 Q5 n5 e5 r5
  obtain ⟨hi1,hR⟩:=hok5
  refine yR [0,1,7,8,9,10] ⟨?_⟩;refine v_seq ?_;intros;refine v_condS _ rfl ?_ ?_
  ·intro hc0
   have hlt:i < g.length:=by omega
   obtain ⟨x,hx⟩:∃x,g[i]? =some x:=⟨g[i],List.getElem?_eq_getElem hlt⟩
   rcases Nat.eq_zero_or_pos i with h0 | h0
   ·skip
    have hi0:¬((0:Int) < (i:Int)):=by omega
    have hstep:risingAt 0 ((l.length:Int) - 1) g i=(inR x 0 ((l.length:Int) - 1) && risingAt 0 ((l.length:Int) - 1) g (i+1)):=by subst h0;exact risingAt_zero hx
    refine zn [0,1,7,8,9] ⟨?_⟩;refine v_seq ?_;intros;refine v_block ?_;intros
    have F:=Fc.mk (ai (gdm hx) (ai hi0 (ai @decide_false @Bool.and_false)))
    refine yR [0,1,5,6,7,8,9] ⟨?_⟩;refine yRc [0,1,7,8,9,32] (inside_con _ _ _) ⟨?_⟩;refine v_condS _ rfl ?_ ?_
    ·intro hc1
     refine yR [4] ⟨?_⟩;refine zr ⟨?_⟩
     exact ret_pure rfl (by rw [isG,←hR,hstep];congr 1;simp [inR];intros;omega) (.inl rfl)
    ·intro hc1
     refine zn [0,1,7,8,9] ⟨?_⟩;refine yV ⟨?_⟩;refine n5 _ (i+1) ?_ ?_ ?_
     ·refine weak_bothS [0,1,7,8,9] [] ⟨?_⟩
      rfl
     ·exact ⟨by omega,by rw [←hR,hstep];simp [inR];intros;omega⟩
     ·show _ < _;omega
   ·skip
    obtain ⟨y,hy⟩:∃y,g[i - 1]? =some y:=⟨g[i - 1],List.getElem?_eq_getElem (by omega)⟩
    have hi0:(0:Int) < i:=by omega
    have hk:((i:Int) - 1).toNat=i - 1:=by omega
    have hstep:=risingAt_succ (lo:=0) (hi:=(l.length:Int) - 1) h0 hy hx
    refine zn [0,1,7,8,9] ⟨?_⟩;refine v_seq ?_;intros;refine v_block ?_;intros
    have F:=Fc.mk (ai (gdm hx) (ai hi0 (ai hk (ai (gdm hy) (ai @decide_true @Bool.and_true)))))
    refine yR [0,1,5,6,7,8,9] ⟨?_⟩;refine yRc [0,1,7,8,9,32] (inside_con _ _ _) ⟨?_⟩;refine v_condS _ rfl ?_ ?_
    ·intro hc1
     refine yR [4] ⟨?_⟩;refine zr ⟨?_⟩
     exact ret_pure rfl (by rw [isG,←hR,hstep];congr 1;simp [inR];intros;omega) (.inl rfl)
    ·intro hc1
     refine zn [0,1,7,8,9] ⟨?_⟩;refine yV ⟨?_⟩;refine n5 _ (i+1) ?_ ?_ ?_
     ·refine weak_bothS [0,1,7,8,9] [] ⟨?_⟩
      rfl
     ·exact ⟨by omega,by rw [←hR,hstep];simp [inR];intros;omega⟩
     ·show _ < _;omega
  ·intro hc0
   refine zn [1] ⟨?_⟩;refine yR [4] ⟨?_⟩;refine zr ⟨?_⟩
   exact ret_pure rfl (by rw [isG,←hR,risingAt_end (by omega),Bool.true_and];congr 1;simp) (.inl rfl)
theorem indexFuncInt_con (l:List Int) (g:Nat) (caps:List V) (p:Int→Bool) (hl:l.length≤1048576) (hc:Caps caps) (hg:∀x0,x0∈l→Con Try.prog g (V.int .i64 x0::caps) [] (.bool (p x0)) []):Con Try.prog 112 [.sl (l.map (V.int .i64)),.fn g caps] [] (.int .i64 (firstP p 0 l)) []:=by
 refine v_con [.tmp 4] [] Try.func112 rfl rfl rfl (by simp [Try.ntmps112]) ?_
 intro Q0 n0 r0
 simp only [Try.ntmps112,envFrom,Nat.reduceAdd]
 have T:=Tys.mk (ai Ty.t3 (ai Ty.t4 Ty.t26))
 have F:=Fc.mk True.intro
 refine yR [0,1] ⟨?_⟩;refine v_seq ?_;intros;refine yR [0,1,7,8] ⟨?_⟩;refine v_block ?_;intros;refine v_loop (fun i=>⟨[(0,.sl (l.map (V.int .i64))),(1,.fn g caps),(7,.int .i64 l.length),(8,.int .i64 (Nat.cast i))],[],false,19,0⟩) (fun i=>i≤l.length∧firstP p i (l.drop i)=firstP p 0 l) (fun i=>l.length - i) 0 ?_ ?_ ?_
 ·refine weak_of [0,1,7,8] ?_
  simp only [keep_mk,keepE_nil,keepE_cons,look_cons,look_nil,Nat.reduceEqDiff,reduceIte]
  rfl
 ·exact ⟨Nat.zero_le _,rfl⟩
 ·rintro i hok5 Q5 n5 e5 r5
  obtain ⟨hi1,hR⟩:=hok5
  refine yR [0,1,7,8,9] ⟨?_⟩;refine v_seq ?_;intros;refine v_condS _ rfl ?_ ?_
  ·intro hc0
   have hlt:i < l.length:=by omega
   obtain ⟨x0,hx⟩:∃x,l[i]? =some x:=⟨l[i],List.getElem?_eq_getElem hlt⟩
   have hst:=first_step (p:=p) hx
   refine zn [0,1,7,8] ⟨?_⟩;refine v_seq ?_;intros;refine v_block ?_;intros
   have F:=Fc.mk (gdm hx)
   refine yR [0,1,5,7,8] ⟨?_⟩;refine v_seqR [0,1,5,7,8,16] ?_;intro K12 k12;refine zq3 ⟨?_⟩;refine zMove ⟨?_⟩;refine zIndexAddr ⟨?_⟩;refine zLoad ⟨?_⟩;refine zcc (hg x0 (List.mem_of_getElem? hx)) ⟨?_⟩;refine k12 _ ?_;refine zk ⟨?_⟩;refine v_condS _ rfl ?_ ?_
   ·intro hc1
    refine yR [4] ⟨?_⟩;refine zr ⟨?_⟩
    exact ret_pure rfl (by rw [←hR,hst,if_pos hc1]) (.inl rfl)
   ·intro hc1
    refine zn [0,1,7,8] ⟨?_⟩;refine yV ⟨?_⟩;refine n5 _ (i+1) ?_ ?_ ?_
    ·refine weak_bothC [0,1,7,8] [] ⟨?_⟩
     rfl
    ·exact ⟨by omega,by rw [←hR,hst,if_neg (by simp [hc1])]⟩
    ·show _ < _;omega
  ·intro hc0
   refine zn [] ⟨?_⟩;refine yR [4] ⟨?_⟩;refine zr ⟨?_⟩
   exact ret_pure rfl (by rw [←hR,first_end (by omega)]) (.inl rfl)
theorem containsFuncInt_con (l:List Int) (g:Nat) (caps:List V) (p:Int→Bool) (hl:l.length≤1048576) (hc:Caps caps) (hg:∀x0,x0∈l→Con Try.prog g (V.int .i64 x0::caps) [] (.bool (p x0)) []):Con Try.prog 77 [.sl (l.map (V.int .i64)),.fn g caps] [] (.bool (l.any p)) []:=by
 refine v_con [.tmp 4] [] Try.func77 rfl rfl rfl (by simp [Try.ntmps77]) ?_
 intro Q0 n0 r0
 simp only [Try.ntmps77,envFrom,Nat.reduceAdd]
 have T:=Tys.mk (ai Ty.t3 Ty.t26)
 have F:=Fc.mk True.intro
 refine yR [0,1] ⟨?_⟩;refine v_seqR [4] ?_;intro K2 k2;refine zq3 ⟨?_⟩;refine zcc (indexFuncInt_con l g caps p hl hc hg) ⟨?_⟩;refine zBinOp ⟨?_⟩;refine zAssign ⟨?_⟩;refine k2 _ ?_;refine zq2 ⟨?_⟩
 exact ret_pure rfl (by rw [first_any]) (.inl rfl)
theorem out_mem {m:List Int} {n:Nat} {g:List Int}:∀{i:Nat},g∈outTo m n i→∃c,c < i∧g=grpTo m c n∧0 < (grpTo m c n).length
  | 0,h=>nomatch h
  | i + 1,h=>by
    rw [outTo] at h
    rcases List.mem_append.1 h with q | q
    · obtain ⟨c,h1,h2⟩:=out_mem q
      exact ⟨c,Nat.lt_succ_of_lt h1,h2⟩
    · by_cases hp:0 < (grpTo m i n).length
      · rw [if_pos hp,List.mem_singleton] at q
        exact ⟨i,Nat.lt_succ_self _,q,hp⟩
      · rw [if_neg hp] at q;cases q
theorem groups_in {l:List (Int×Int×Int×Int×Int)} {wn rd:Int} {g:List Int} (h:g∈groupsC l wn rd):∀x∈g,∃k:Nat,x=(k:Int)∧k < l.length:=by
  obtain ⟨c,_,rfl,_⟩:=out_mem h
  intro x hx
  obtain ⟨j,h1,h2,_⟩:=grpTo_mem.1 hx
  exact ⟨j,h1,h2⟩
theorem groups_len {l:List (Int×Int×Int×Int×Int)} {wn rd:Int} {g:List Int} (h:g∈groupsC l wn rd):g.length≤l.length:=by
  obtain ⟨c,_,rfl,_⟩:=out_mem h
  exact grpTo_len _ _ _
theorem hasI_at {l:List (Int×Int×Int×Int×Int)} {wn rd:Int} {c x:(Int×Int×Int×Int×Int)} {k:Nat} (h:l[k]? =some x):hasI l wn rd c (k:Int)=nearB wn rd x c:=by
  rw [hasI,Int.toNat_natCast,h]
set_option maxRecDepth 8000 in
theorem groupFor1_con (l:List (Int×Int×Int×Int×Int)) (hl:l.length≤1048576) (xn:Nat) (x0:Int) (x1:Int) (x2:Int) (x3:Int) (x4:Int) (c0:Int) (c1:Int) (c2:Int) (c3:Int) (c4:Int) (wn rd:Int) (hx:l[xn]? =some (x0,x1,x2,x3,x4)) (hxo:cOne (x0,x1,x2,x3,x4)=true) (hco:cOne (c0,c1,c2,c3,c4)=true):Con Try.prog 78 [.int .i64 (Nat.cast xn),.pv [.sl (l.map (fun t:Int×Int×Int×Int×Int=>V.agg [V.int .i64 t.1,V.int .i64 t.2.1,V.int .i64 t.2.2.1,V.int .i64 t.2.2.2.1,V.int .i64 t.2.2.2.2]))] 0 0,.pv [.agg [V.int .i64 c0,V.int .i64 c1,V.int .i64 c2,V.int .i64 c3,V.int .i64 c4]] 0 0,.pv [.int .i64 wn] 0 0,.pv [.int .i64 rd] 0 0] [] (.bool (nearB wn rd (x0,x1,x2,x3,x4) (c0,c1,c2,c3,c4))) []:=by
 have hxn:xn < l.length:=(List.getElem?_eq_some_iff.1 hx).1
 refine v_con [.tmp 6] [] Try.func78 rfl rfl rfl (by simp [Try.ntmps78]) ?_
 intro Q0 n0 r0
 simp only [Try.ntmps78,envFrom,Nat.reduceAdd]
 have T:=Tys.mk (ai Ty.t3 (ai Ty.t4 (ai Ty.t50 Ty.t65)))
 have F:=Fc.mk True.intro
 have F:=Fc.mk (ai (gdm hx) @Int.toNat_natCast)
 refine yR [0,1,2,3,4] ⟨?_⟩;refine v_seq ?_;intro Q2 n2 e2 r2;refine v_draw (by kernel_rfl) ?_;intro K3 q3 k3
 show aAny _ _ _ _ 9 (Array.replicate 9 false) _
 refine zdLoad q3 true 0 7 ?_;refine zdMove q3 true 1 8 ?_;refine zdIndexAddr q3 true 2 9 ?_;refine zdLoad q3 true 3 10 ?_;refine zdLoad q3 true 4 11 ?_;refine zdLoad q3 true 5 12 ?_;refine zdLoad q3 true 6 13 ?_;refine zoc 7 (oneEvent_con x0 x1 x2 x3 x4 c0 c1 c2 c3 c4 hxo hco wn rd) ⟨?_⟩;refine zoAssign 8 ⟨?_⟩;refine aAny_done (by kernel_rfl) ?_;refine k3 _ ?_;refine n2 _ _ (weak_keep [6] _) ?_;refine zq2 ⟨?_⟩
 exact ret_pure rfl rfl (.inl rfl)
end Go.Proofs.Ytcdpeopiajgljaa
