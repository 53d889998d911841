/- What functions compute. No condition. -/
import Derived.Test.YtcdpeopiajgljaaGreatDoorUz
import Derived.Test.YtcdpeopiajgljaaGreatDoorUty
import Derived.Test.YtcdpeopiajgljaaGreatDoorUmG
import Derived.Test.YtcdpeopiajgljaaGreatDoorX5
set_option linter.unusedSimpArgs false
set_option linter.unusedVariables false
set_option linter.defProp false
namespace Go.Proofs.YtcdpeopiajgljaaGreatDoor
open Go Go.Vm
set_option maxHeartbeats 8000000
theorem snoc_Call {a:List (Int×Int×Int×Int×Int)} {x0:Int} {x1:Int} {x2:Int} {x3:Int} {x4:Int}:a.map (fun t:Int×Int×Int×Int×Int=>V.agg [V.int .i64 t.1,V.int .i64 t.2.1,V.int .i64 t.2.2.1,V.int .i64 t.2.2.2.1,V.int .i64 t.2.2.2.2])++[V.agg [V.int .i64 x0,V.int .i64 x1,V.int .i64 x2,V.int .i64 x3,V.int .i64 x4]]=(a++[(x0,x1,x2,x3,x4)]).map (fun t:Int×Int×Int×Int×Int=>V.agg [V.int .i64 t.1,V.int .i64 t.2.1,V.int .i64 t.2.2.1,V.int .i64 t.2.2.2.1,V.int .i64 t.2.2.2.2]):=by simp
theorem drawWindowOf_con (code:List Int) (a s:Int) (hcode:∀x∈code,0≤x∧x≤255) (hcl:code.length≤9223372036854775807) (ha:0≤a∧a < 17000000000):ConX Tryz.prog 37 [.ptr 0 0 0] [.box (.agg [.sl (code.map (V.int .u8)),.int .i64 a,.int .u64 s]) .shal] (fun r O'=>∃(v:Int) (a' s':Int),(-1≤v∧v≤121)∧(a≤a'∧a'≤a+4)∧r=.int .i64 v∧O'=[.box (.agg [.sl (code.map (V.int .u8)),.int .i64 a',.int .u64 s']) .shal]):=by
 refine v_conX [.tmp 2] [(29,[0,1])] Tryz.func37 rfl rfl rfl (by simp [Tryz.ntmps37]) ?_
 intro Q0 n0 r0
 simp only [Tryz.ntmps37,envFrom,Nat.reduceAdd]
 have T:=Tys.mk (ai Ty.t3 (ai Ty.t5 (ai Ty.t22 (ai Ty.t35 (ai Ty.t51 (ai Ty.t52 Ty.t54))))))
 have F:=Fc.mk True.intro
 refine yR [0] ⟨?_⟩;refine v_seqR [2] ?_;intro K2 k2;refine zq2 ⟨?_⟩;refine zBuildSlice ⟨?_⟩;refine v_op ?_;intro K k
 simp only [zE,zM,aStepM,optable,set_some,Nat.reduceEqDiff,reduceIte,Nat.reduceLT,implies_true,forall_const,reduceCtorEq,V.ofValue,V.ofScalar,V.un,V.gd,aExec,lentIds,lendOf,‹Tys _›.h,‹Fc _›.h]
 repeat (refine andC ?_)
 refine aCall_lent2XA (among_con code a s [-1,121] (by simp) hcode hcl (by omega)) ?_
 rintro _ _ ⟨v6,a6,s6,h6,k6,rfl,rfl⟩
 refine ⟨_,_,_,rfl,by first | exact .inr (List.all_eq_true.1 rfl) | exact .inl ⟨rfl,by simp [Blk.kindIs,fillK_fd,thK_fd]⟩,?_⟩;refine k _ ?_;clear k K
 simp only [zY,zW,set_some,Nat.reduceEqDiff,reduceIte,rho_one,rho_s,rho2_s,rho2_0,rho2_1,V.ren,V.renL,List.set_cons_zero,List.set_cons_succ,rho,Nat.reduceAdd,Nat.add_zero]
 simp only [List.mem_cons,List.not_mem_nil,or_false] at h6
 refine zBuildSlice ⟨?_⟩;refine v_op ?_;intro K k
 simp only [zE,zM,aStepM,optable,set_some,Nat.reduceEqDiff,reduceIte,Nat.reduceLT,implies_true,forall_const,reduceCtorEq,V.ofValue,V.ofScalar,V.un,V.gd,aExec,lentIds,lendOf,‹Tys _›.h,‹Fc _›.h]
 repeat (refine andC ?_)
 refine aCall_lent2XA (among_con code a6 s6 [0,1,5,10,60,120,v6] (by simp) hcode hcl (by omega)) ?_
 rintro _ _ ⟨v8,a8,s8,h8,k8,rfl,rfl⟩
 refine ⟨_,_,_,rfl,by first | exact .inr (List.all_eq_true.1 rfl) | exact .inl ⟨rfl,by simp [Blk.kindIs,fillK_fd,thK_fd]⟩,?_⟩;refine k _ ?_;clear k K
 simp only [zY,zW,set_some,Nat.reduceEqDiff,reduceIte,rho_one,rho_s,rho2_s,rho2_0,rho2_1,V.ren,V.renL,List.set_cons_zero,List.set_cons_succ,rho,Nat.reduceAdd,Nat.add_zero]
 simp only [List.mem_cons,List.not_mem_nil,or_false] at h8
 refine zAssign ⟨?_⟩;refine k2 _ ?_;refine zq1 ⟨?_⟩;refine ret_viewX ?_
 exact ⟨_,_,_,by omega,by omega,rfl,rfl⟩
set_option maxRecDepth 8000 in
theorem drawCall_con (code:List Int) (a s:Int) (m0:Int) (hcode:∀x∈code,0≤x∧x≤255) (hcl:code.length≤9223372036854775807) (ha:0≤a∧a < 16000000000):ConX Tryz.prog 28 [.ptr 0 0 0,.int .i64 m0] [.box (.agg [.sl (code.map (V.int .u8)),.int .i64 a,.int .u64 s]) .shal] (fun r O'=>∃(x0 x1 x2 x3 x4:Int) (a' s':Int),(True)∧(a≤a'∧a'≤a+20)∧r=.agg [.int .i64 x0,.int .i64 x1,.int .i64 x2,.int .i64 x3,.int .i64 x4]∧O'=[.box (.agg [.sl (code.map (V.int .u8)),.int .i64 a',.int .u64 s']) .shal]):=by
 refine v_conX [.cell 4 26] [(29,[0,1]),(43,[0]),(56,[0])] Tryz.func28 rfl rfl rfl (by simp [Tryz.ntmps28]) ?_
 intro Q0 n0 r0
 simp only [Tryz.ntmps28,envFrom,Nat.reduceAdd]
 have T:=Tys.mk (ai Ty.t3 (ai Ty.t5 (ai Ty.t22 (ai Ty.t26 (ai Ty.t35 (ai Ty.t51 (ai Ty.t52 Ty.t54)))))))
 have F:=Fc.mk True.intro
 refine yR [0,1,4] ⟨?_⟩;refine v_seqR [0,4,5] ?_;intro K2 k2;refine zq2 ⟨?_⟩;refine zBuildSlice ⟨?_⟩;refine v_op ?_;intro K k
 simp only [zE,zM,aStepM,optable,set_some,Nat.reduceEqDiff,reduceIte,Nat.reduceLT,implies_true,forall_const,reduceCtorEq,V.ofValue,V.ofScalar,V.un,V.gd,aExec,lentIds,lendOf,‹Tys _›.h,‹Fc _›.h]
 repeat (refine andC ?_)
 refine aCall_lent2XA (among_con code a s [100,150,160,4000,9999,0] (by simp) hcode hcl (by omega)) ?_
 rintro _ _ ⟨v9,a9,s9,h9,k9,rfl,rfl⟩
 refine ⟨_,_,_,rfl,by first | exact .inr (List.all_eq_true.1 rfl) | exact .inl ⟨rfl,by simp [Blk.kindIs,fillK_fd,thK_fd]⟩,?_⟩;refine k _ ?_;clear k K
 simp only [zY,zW,set_some,Nat.reduceEqDiff,reduceIte,rho_one,rho_s,rho2_s,rho2_0,rho2_1,V.ren,V.renL,List.set_cons_zero,List.set_cons_succ,rho,Nat.reduceAdd,Nat.add_zero]
 simp only [List.mem_cons,List.not_mem_nil,or_false] at h9
 refine zMove ⟨?_⟩;refine v_op ?_;intro K k
 simp only [zE,zM,aStepM,optable,set_some,Nat.reduceEqDiff,reduceIte,Nat.reduceLT,implies_true,forall_const,reduceCtorEq,V.ofValue,V.ofScalar,V.un,V.gd,aExec,lentIds,lendOf,‹Tys _›.h,‹Fc _›.h]
 repeat (refine andC ?_)
 refine aCall_lentXA (pick_con code a9 s9 (3) hcode hcl (by omega)) ?_
 rintro _ _ ⟨v11,a11,s11,h11,k11,rfl,rfl⟩
 refine ⟨_,_,rfl,by first | exact .inr (List.all_eq_true.1 rfl) | exact .inl ⟨rfl,by simp [Blk.kindIs,fillK_fd,thK_fd]⟩,?_⟩;refine k _ ?_;clear k K
 simp only [zY,zW,set_some,Nat.reduceEqDiff,reduceIte,rho_one,rho_s,rho2_s,rho2_0,rho2_1,V.ren,V.renL,List.set_cons_zero,List.set_cons_succ,rho,Nat.reduceAdd,Nat.add_zero]
 refine zBinOpW ⟨?_⟩;refine zBinOpW ⟨?_⟩;refine zq3 ⟨?_⟩;refine v_op ?_;intro K k
 simp only [zE,zM,aStepM,optable,set_some,Nat.reduceEqDiff,reduceIte,Nat.reduceLT,implies_true,forall_const,reduceCtorEq,V.ofValue,V.ofScalar,V.un,V.gd,aExec,lentIds,lendOf,‹Tys _›.h,‹Fc _›.h]
 repeat (refine andC ?_)
 refine aCall_lent2XA (among_con code a11 s11 [100,120,130,0,5000] (by simp) hcode hcl (by omega)) ?_
 rintro _ _ ⟨v16,a16,s16,h16,k16,rfl,rfl⟩
 refine ⟨_,_,_,rfl,by first | exact .inr (List.all_eq_true.1 rfl) | exact .inl ⟨rfl,by simp [Blk.kindIs,fillK_fd,thK_fd]⟩,?_⟩;refine k _ ?_;clear k K
 simp only [zY,zW,set_some,Nat.reduceEqDiff,reduceIte,rho_one,rho_s,rho2_s,rho2_0,rho2_1,V.ren,V.renL,List.set_cons_zero,List.set_cons_succ,rho,Nat.reduceAdd,Nat.add_zero]
 simp only [List.mem_cons,List.not_mem_nil,or_false] at h16
 refine zq3 ⟨?_⟩;refine v_op ?_;intro K k
 simp only [zE,zM,aStepM,optable,set_some,Nat.reduceEqDiff,reduceIte,Nat.reduceLT,implies_true,forall_const,reduceCtorEq,V.ofValue,V.ofScalar,V.un,V.gd,aExec,lentIds,lendOf,‹Tys _›.h,‹Fc _›.h]
 repeat (refine andC ?_)
 refine aCall_lent2XA (among_con code a16 s16 [0,1,1,2,5] (by simp) hcode hcl (by omega)) ?_
 rintro _ _ ⟨v19,a19,s19,h19,k19,rfl,rfl⟩
 refine ⟨_,_,_,rfl,by first | exact .inr (List.all_eq_true.1 rfl) | exact .inl ⟨rfl,by simp [Blk.kindIs,fillK_fd,thK_fd]⟩,?_⟩;refine k _ ?_;clear k K
 simp only [zY,zW,set_some,Nat.reduceEqDiff,reduceIte,rho_one,rho_s,rho2_s,rho2_0,rho2_1,V.ren,V.renL,List.set_cons_zero,List.set_cons_succ,rho,Nat.reduceAdd,Nat.add_zero]
 simp only [List.mem_cons,List.not_mem_nil,or_false] at h19
 refine zq3 ⟨?_⟩;refine v_op ?_;intro K k
 simp only [zE,zM,aStepM,optable,set_some,Nat.reduceEqDiff,reduceIte,Nat.reduceLT,implies_true,forall_const,reduceCtorEq,V.ofValue,V.ofScalar,V.un,V.gd,aExec,lentIds,lendOf,‹Tys _›.h,‹Fc _›.h]
 repeat (refine andC ?_)
 refine aCall_lent2XA (among_con code a19 s19 [7,7,8,9,9999,1] (by simp) hcode hcl (by omega)) ?_
 rintro _ _ ⟨v22,a22,s22,h22,k22,rfl,rfl⟩
 refine ⟨_,_,_,rfl,by first | exact .inr (List.all_eq_true.1 rfl) | exact .inl ⟨rfl,by simp [Blk.kindIs,fillK_fd,thK_fd]⟩,?_⟩;refine k _ ?_;clear k K
 simp only [zY,zW,set_some,Nat.reduceEqDiff,reduceIte,rho_one,rho_s,rho2_s,rho2_0,rho2_1,V.ren,V.renL,List.set_cons_zero,List.set_cons_succ,rho,Nat.reduceAdd,Nat.add_zero]
 simp only [List.mem_cons,List.not_mem_nil,or_false] at h22
 refine zBuild ⟨?_⟩;refine zAlloc ⟨?_⟩;refine zStore ⟨?_⟩;refine k2 _ ?_;refine zk ⟨?_⟩;refine v_seq ?_;intros;refine yR [0,4,5,26] ⟨?_⟩;refine v_condS _ rfl ?_ ?_
 ·intro hc0
  refine yQ [0,4,5] ⟨?_⟩;refine v_seq ?_;intro Q7 n7 e7 r7;refine v_seqR [0,4,5,29] ?_;intro K8 k8;refine zMove ⟨?_⟩;refine v_op ?_;intro K k
  simp only [zE,zM,aStepM,optable,set_some,Nat.reduceEqDiff,reduceIte,Nat.reduceLT,implies_true,forall_const,reduceCtorEq,V.ofValue,V.ofScalar,V.un,V.gd,aExec,lentIds,lendOf,‹Tys _›.h,‹Fc _›.h]
  repeat (refine andC ?_)
  refine aCall_lentXA (pick_con code a22 s22 (60) hcode hcl (by omega)) ?_
  rintro _ _ ⟨v29,a29,s29,h29,k29,rfl,rfl⟩
  refine ⟨_,_,rfl,by first | exact .inr (List.all_eq_true.1 rfl) | exact .inl ⟨rfl,by simp [Blk.kindIs,fillK_fd,thK_fd]⟩,?_⟩;refine k _ ?_;clear k K
  simp only [zY,zW,set_some,Nat.reduceEqDiff,reduceIte,rho_one,rho_s,rho2_s,rho2_0,rho2_1,V.ren,V.renL,List.set_cons_zero,List.set_cons_succ,rho,Nat.reduceAdd,Nat.add_zero]
  refine k8 _ ?_;refine zk ⟨?_⟩;refine v_block ?_;intro Q9 n9 x9 e9 r9;refine yR [0,4,5,29,30] ⟨?_⟩;refine v_condS _ rfl ?_ ?_
  ·intro hc1
   refine v_region ?_;intro K12 k12;refine zq3 ⟨?_⟩;refine v_op ?_;intro K k
   simp only [zE,zM,aStepM,optable,set_some,Nat.reduceEqDiff,reduceIte,Nat.reduceLT,implies_true,forall_const,reduceCtorEq,V.ofValue,V.ofScalar,V.un,V.gd,aExec,lentIds,lendOf,‹Tys _›.h,‹Fc _›.h]
   repeat (refine andC ?_)
   refine aCall_lent2XA (among_con code a29 s29 [-1,10000,-9223372036854775808] (by simp) hcode hcl (by omega)) ?_
   rintro _ _ ⟨v34,a34,s34,h34,k34,rfl,rfl⟩
   refine ⟨_,_,_,rfl,by first | exact .inr (List.all_eq_true.1 rfl) | exact .inl ⟨rfl,by simp [Blk.kindIs,fillK_fd,thK_fd]⟩,?_⟩;refine k _ ?_;clear k K
   simp only [zY,zW,set_some,Nat.reduceEqDiff,reduceIte,rho_one,rho_s,rho2_s,rho2_0,rho2_1,V.ren,V.renL,List.set_cons_zero,List.set_cons_succ,rho,Nat.reduceAdd,Nat.add_zero]
   simp only [List.mem_cons,List.not_mem_nil,or_false] at h34
   refine zq7 ⟨?_⟩;refine k12 _ ?_;refine n9 _ ?_;refine n7 _ _ (weak_keep [4,5] _) ?_;refine zk ⟨?_⟩;refine yR [4] ⟨?_⟩;refine zq4 ⟨?_⟩;refine ret_viewX ?_
   exact ⟨_,_,_,_,_,_,_,by omega,rfl,rfl⟩
  ·intro hc1
   refine yR [0,4,5,29,36] ⟨?_⟩;refine v_condS _ rfl ?_ ?_
   ·intro hc2
    refine v_region ?_;intro K16 k16;refine zq3 ⟨?_⟩;refine v_op ?_;intro K k
    simp only [zE,zM,aStepM,optable,set_some,Nat.reduceEqDiff,reduceIte,Nat.reduceLT,implies_true,forall_const,reduceCtorEq,V.ofValue,V.ofScalar,V.un,V.gd,aExec,lentIds,lendOf,‹Tys _›.h,‹Fc _›.h]
    repeat (refine andC ?_)
    refine aCall_lent2XA (among_con code a29 s29 [-1,6] (by simp) hcode hcl (by omega)) ?_
    rintro _ _ ⟨v40,a40,s40,h40,k40,rfl,rfl⟩
    refine ⟨_,_,_,rfl,by first | exact .inr (List.all_eq_true.1 rfl) | exact .inl ⟨rfl,by simp [Blk.kindIs,fillK_fd,thK_fd]⟩,?_⟩;refine k _ ?_;clear k K
    simp only [zY,zW,set_some,Nat.reduceEqDiff,reduceIte,rho_one,rho_s,rho2_s,rho2_0,rho2_1,V.ren,V.renL,List.set_cons_zero,List.set_cons_succ,rho,Nat.reduceAdd,Nat.add_zero]
    simp only [List.mem_cons,List.not_mem_nil,or_false] at h40
    refine zq7 ⟨?_⟩;refine k16 _ ?_;refine n9 _ ?_;refine n7 _ _ (weak_keep [4,5] _) ?_;refine zk ⟨?_⟩;refine yR [4] ⟨?_⟩;refine zq4 ⟨?_⟩;refine ret_viewX ?_
    exact ⟨_,_,_,_,_,_,_,by omega,rfl,rfl⟩
   ·intro hc2
    refine yR [0,4,5,29,42] ⟨?_⟩;refine v_condS _ rfl ?_ ?_
    ·intro hc3
     refine v_region ?_;intro K20 k20;refine zq3 ⟨?_⟩;refine v_op ?_;intro K k
     simp only [zE,zM,aStepM,optable,set_some,Nat.reduceEqDiff,reduceIte,Nat.reduceLT,implies_true,forall_const,reduceCtorEq,V.ofValue,V.ofScalar,V.un,V.gd,aExec,lentIds,lendOf,‹Tys _›.h,‹Fc _›.h]
     repeat (refine andC ?_)
     refine aCall_lent2XA (among_con code a29 s29 [0,10000] (by simp) hcode hcl (by omega)) ?_
     rintro _ _ ⟨v46,a46,s46,h46,k46,rfl,rfl⟩
     refine ⟨_,_,_,rfl,by first | exact .inr (List.all_eq_true.1 rfl) | exact .inl ⟨rfl,by simp [Blk.kindIs,fillK_fd,thK_fd]⟩,?_⟩;refine k _ ?_;clear k K
     simp only [zY,zW,set_some,Nat.reduceEqDiff,reduceIte,rho_one,rho_s,rho2_s,rho2_0,rho2_1,V.ren,V.renL,List.set_cons_zero,List.set_cons_succ,rho,Nat.reduceAdd,Nat.add_zero]
     simp only [List.mem_cons,List.not_mem_nil,or_false] at h46
     refine zq7 ⟨?_⟩;refine k20 _ ?_;refine n9 _ ?_;refine n7 _ _ (weak_keep [4,5] _) ?_;refine zk ⟨?_⟩;refine yR [4] ⟨?_⟩;refine zq4 ⟨?_⟩;refine ret_viewX ?_
     exact ⟨_,_,_,_,_,_,_,by omega,rfl,rfl⟩
    ·intro hc3
     refine yR [0,4,5,48] ⟨?_⟩;refine v_condS _ rfl ?_ ?_
     ·intro hc4
      refine v_region ?_;intro K24 k24;refine zq3 ⟨?_⟩;refine v_op ?_;intro K k
      simp only [zE,zM,aStepM,optable,set_some,Nat.reduceEqDiff,reduceIte,Nat.reduceLT,implies_true,forall_const,reduceCtorEq,V.ofValue,V.ofScalar,V.un,V.gd,aExec,lentIds,lendOf,‹Tys _›.h,‹Fc _›.h]
      repeat (refine andC ?_)
      refine aCall_lent2XA (among_con code a29 s29 [-1,10000,9223372036854775807] (by simp) hcode hcl (by omega)) ?_
      rintro _ _ ⟨v52,a52,s52,h52,k52,rfl,rfl⟩
      refine ⟨_,_,_,rfl,by first | exact .inr (List.all_eq_true.1 rfl) | exact .inl ⟨rfl,by simp [Blk.kindIs,fillK_fd,thK_fd]⟩,?_⟩;refine k _ ?_;clear k K
      simp only [zY,zW,set_some,Nat.reduceEqDiff,reduceIte,rho_one,rho_s,rho2_s,rho2_0,rho2_1,V.ren,V.renL,List.set_cons_zero,List.set_cons_succ,rho,Nat.reduceAdd,Nat.add_zero]
      simp only [List.mem_cons,List.not_mem_nil,or_false] at h52
      refine zq7 ⟨?_⟩;refine k24 _ ?_;refine n9 _ ?_;refine n7 _ _ (weak_keep [4,5] _) ?_;refine zk ⟨?_⟩;refine yR [4] ⟨?_⟩;refine zq4 ⟨?_⟩;refine ret_viewX ?_
      exact ⟨_,_,_,_,_,_,_,by omega,rfl,rfl⟩
     ·intro hc4
      refine zn [4,5] ⟨?_⟩;refine yR [4] ⟨?_⟩;refine zq4 ⟨?_⟩;refine ret_viewX ?_
      exact ⟨_,_,_,_,_,_,_,by omega,rfl,rfl⟩
 ·intro hc0
  refine zn [0,4,5] ⟨?_⟩;refine v_seq ?_;intro Q27 n27 e27 r27;refine v_seqR [0,4,5,29] ?_;intro K28 k28;refine zMove ⟨?_⟩;refine v_op ?_;intro K k
  simp only [zE,zM,aStepM,optable,set_some,Nat.reduceEqDiff,reduceIte,Nat.reduceLT,implies_true,forall_const,reduceCtorEq,V.ofValue,V.ofScalar,V.un,V.gd,aExec,lentIds,lendOf,‹Tys _›.h,‹Fc _›.h]
  repeat (refine andC ?_)
  refine aCall_lentXA (pick_con code a22 s22 (60) hcode hcl (by omega)) ?_
  rintro _ _ ⟨v29,a29,s29,h29,k29,rfl,rfl⟩
  refine ⟨_,_,rfl,by first | exact .inr (List.all_eq_true.1 rfl) | exact .inl ⟨rfl,by simp [Blk.kindIs,fillK_fd,thK_fd]⟩,?_⟩;refine k _ ?_;clear k K
  simp only [zY,zW,set_some,Nat.reduceEqDiff,reduceIte,rho_one,rho_s,rho2_s,rho2_0,rho2_1,V.ren,V.renL,List.set_cons_zero,List.set_cons_succ,rho,Nat.reduceAdd,Nat.add_zero]
  refine k28 _ ?_;refine zk ⟨?_⟩;refine v_block ?_;intro Q29 n29 x29 e29 r29;refine yR [0,4,5,29,30] ⟨?_⟩;refine v_condS _ rfl ?_ ?_
  ·intro hc5
   refine v_region ?_;intro K32 k32;refine zq3 ⟨?_⟩;refine v_op ?_;intro K k
   simp only [zE,zM,aStepM,optable,set_some,Nat.reduceEqDiff,reduceIte,Nat.reduceLT,implies_true,forall_const,reduceCtorEq,V.ofValue,V.ofScalar,V.un,V.gd,aExec,lentIds,lendOf,‹Tys _›.h,‹Fc _›.h]
   repeat (refine andC ?_)
   refine aCall_lent2XA (among_con code a29 s29 [-1,10000,-9223372036854775808] (by simp) hcode hcl (by omega)) ?_
   rintro _ _ ⟨v34,a34,s34,h34,k34,rfl,rfl⟩
   refine ⟨_,_,_,rfl,by first | exact .inr (List.all_eq_true.1 rfl) | exact .inl ⟨rfl,by simp [Blk.kindIs,fillK_fd,thK_fd]⟩,?_⟩;refine k _ ?_;clear k K
   simp only [zY,zW,set_some,Nat.reduceEqDiff,reduceIte,rho_one,rho_s,rho2_s,rho2_0,rho2_1,V.ren,V.renL,List.set_cons_zero,List.set_cons_succ,rho,Nat.reduceAdd,Nat.add_zero]
   simp only [List.mem_cons,List.not_mem_nil,or_false] at h34
   refine zq7 ⟨?_⟩;refine k32 _ ?_;refine n29 _ ?_;refine n27 _ _ (weak_keep [4,5] _) ?_;refine zk ⟨?_⟩;refine yR [4] ⟨?_⟩;refine zq4 ⟨?_⟩;refine ret_viewX ?_
   exact ⟨_,_,_,_,_,_,_,by omega,rfl,rfl⟩
  ·intro hc5
   refine yR [0,4,5,29,36] ⟨?_⟩;refine v_condS _ rfl ?_ ?_
   ·intro hc6
    refine v_region ?_;intro K36 k36;refine zq3 ⟨?_⟩;refine v_op ?_;intro K k
    simp only [zE,zM,aStepM,optable,set_some,Nat.reduceEqDiff,reduceIte,Nat.reduceLT,implies_true,forall_const,reduceCtorEq,V.ofValue,V.ofScalar,V.un,V.gd,aExec,lentIds,lendOf,‹Tys _›.h,‹Fc _›.h]
    repeat (refine andC ?_)
    refine aCall_lent2XA (among_con code a29 s29 [-1,6] (by simp) hcode hcl (by omega)) ?_
    rintro _ _ ⟨v40,a40,s40,h40,k40,rfl,rfl⟩
    refine ⟨_,_,_,rfl,by first | exact .inr (List.all_eq_true.1 rfl) | exact .inl ⟨rfl,by simp [Blk.kindIs,fillK_fd,thK_fd]⟩,?_⟩;refine k _ ?_;clear k K
    simp only [zY,zW,set_some,Nat.reduceEqDiff,reduceIte,rho_one,rho_s,rho2_s,rho2_0,rho2_1,V.ren,V.renL,List.set_cons_zero,List.set_cons_succ,rho,Nat.reduceAdd,Nat.add_zero]
    simp only [List.mem_cons,List.not_mem_nil,or_false] at h40
    refine zq7 ⟨?_⟩;refine k36 _ ?_;refine n29 _ ?_;refine n27 _ _ (weak_keep [4,5] _) ?_;refine zk ⟨?_⟩;refine yR [4] ⟨?_⟩;refine zq4 ⟨?_⟩;refine ret_viewX ?_
    exact ⟨_,_,_,_,_,_,_,by omega,rfl,rfl⟩
   ·intro hc6
    refine yR [0,4,5,29,42] ⟨?_⟩;refine v_condS _ rfl ?_ ?_
    ·intro hc7
     refine v_region ?_;intro K40 k40;refine zq3 ⟨?_⟩;refine v_op ?_;intro K k
     simp only [zE,zM,aStepM,optable,set_some,Nat.reduceEqDiff,reduceIte,Nat.reduceLT,implies_true,forall_const,reduceCtorEq,V.ofValue,V.ofScalar,V.un,V.gd,aExec,lentIds,lendOf,‹Tys _›.h,‹Fc _›.h]
     repeat (refine andC ?_)
     refine aCall_lent2XA (among_con code a29 s29 [0,10000] (by simp) hcode hcl (by omega)) ?_
     rintro _ _ ⟨v46,a46,s46,h46,k46,rfl,rfl⟩
     refine ⟨_,_,_,rfl,by first | exact .inr (List.all_eq_true.1 rfl) | exact .inl ⟨rfl,by simp [Blk.kindIs,fillK_fd,thK_fd]⟩,?_⟩;refine k _ ?_;clear k K
     simp only [zY,zW,set_some,Nat.reduceEqDiff,reduceIte,rho_one,rho_s,rho2_s,rho2_0,rho2_1,V.ren,V.renL,List.set_cons_zero,List.set_cons_succ,rho,Nat.reduceAdd,Nat.add_zero]
     simp only [List.mem_cons,List.not_mem_nil,or_false] at h46
     refine zq7 ⟨?_⟩;refine k40 _ ?_;refine n29 _ ?_;refine n27 _ _ (weak_keep [4,5] _) ?_;refine zk ⟨?_⟩;refine yR [4] ⟨?_⟩;refine zq4 ⟨?_⟩;refine ret_viewX ?_
     exact ⟨_,_,_,_,_,_,_,by omega,rfl,rfl⟩
    ·intro hc7
     refine yR [0,4,5,48] ⟨?_⟩;refine v_condS _ rfl ?_ ?_
     ·intro hc8
      refine v_region ?_;intro K44 k44;refine zq3 ⟨?_⟩;refine v_op ?_;intro K k
      simp only [zE,zM,aStepM,optable,set_some,Nat.reduceEqDiff,reduceIte,Nat.reduceLT,implies_true,forall_const,reduceCtorEq,V.ofValue,V.ofScalar,V.un,V.gd,aExec,lentIds,lendOf,‹Tys _›.h,‹Fc _›.h]
      repeat (refine andC ?_)
      refine aCall_lent2XA (among_con code a29 s29 [-1,10000,9223372036854775807] (by simp) hcode hcl (by omega)) ?_
      rintro _ _ ⟨v52,a52,s52,h52,k52,rfl,rfl⟩
      refine ⟨_,_,_,rfl,by first | exact .inr (List.all_eq_true.1 rfl) | exact .inl ⟨rfl,by simp [Blk.kindIs,fillK_fd,thK_fd]⟩,?_⟩;refine k _ ?_;clear k K
      simp only [zY,zW,set_some,Nat.reduceEqDiff,reduceIte,rho_one,rho_s,rho2_s,rho2_0,rho2_1,V.ren,V.renL,List.set_cons_zero,List.set_cons_succ,rho,Nat.reduceAdd,Nat.add_zero]
      simp only [List.mem_cons,List.not_mem_nil,or_false] at h52
      refine zq7 ⟨?_⟩;refine k44 _ ?_;refine n29 _ ?_;refine n27 _ _ (weak_keep [4,5] _) ?_;refine zk ⟨?_⟩;refine yR [4] ⟨?_⟩;refine zq4 ⟨?_⟩;refine ret_viewX ?_
      exact ⟨_,_,_,_,_,_,_,by omega,rfl,rfl⟩
     ·intro hc8
      refine zn [4,5] ⟨?_⟩;refine yR [4] ⟨?_⟩;refine zq4 ⟨?_⟩;refine ret_viewX ?_
      exact ⟨_,_,_,_,_,_,_,by omega,rfl,rfl⟩
set_option maxRecDepth 8000 in
theorem drawCalls_con (code:List Int) (a s:Int) (hcode:∀x∈code,0≤x∧x≤255) (hcl:code.length≤9223372036854775807) (ha:0≤a∧a < 15000000000):ConX Tryz.prog 27 [.ptr 0 0 0] [.box (.agg [.sl (code.map (V.int .u8)),.int .i64 a,.int .u64 s]) .shal] (fun r O'=>∃(l:List (Int×Int×Int×Int×Int)) (a' s':Int),(l.length≤22)∧(a≤a'∧a'≤a+2000)∧r=.ref 1∧O'=[.box (.agg [.sl (code.map (V.int .u8)),.int .i64 a',.int .u64 s']) .shal,.arr (l.map (fun t:Int×Int×Int×Int×Int=>V.agg [V.int .i64 t.1,V.int .i64 t.2.1,V.int .i64 t.2.2.1,V.int .i64 t.2.2.2.1,V.int .i64 t.2.2.2.2])) .flat]):=by
 refine v_conX [.tmp 2] [(29,[0,1]),(43,[0]),(56,[0]),(28,[0])] Tryz.func27 rfl rfl rfl (by simp [Tryz.ntmps27]) ?_
 intro Q0 n0 r0
 simp only [Tryz.ntmps27,envFrom,Nat.reduceAdd]
 have T:=Tys.mk (ai Ty.t3 (ai Ty.t4 (ai Ty.t5 (ai Ty.t22 (ai Ty.t24 (ai Ty.t26 (ai Ty.t35 (ai Ty.t51 (ai Ty.t52 Ty.t54)))))))))
 have F:=Fc.mk True.intro
 refine yR [0] ⟨?_⟩;refine yR [0,3] ⟨?_⟩;refine v_seqR [0,3,4] ?_;intro K3 k3;refine zMove ⟨?_⟩;refine v_op ?_;intro K k
 simp only [zE,zM,aStepM,optable,set_some,Nat.reduceEqDiff,reduceIte,Nat.reduceLT,implies_true,forall_const,reduceCtorEq,V.ofValue,V.ofScalar,V.un,V.gd,aExec,lentIds,lendOf,‹Tys _›.h,‹Fc _›.h]
 repeat (refine andC ?_)
 refine aCall_lentXA (pick_con code a s (10) hcode hcl (by omega)) ?_
 rintro _ _ ⟨v7,a7,s7,h7,k7,rfl,rfl⟩
 refine ⟨_,_,rfl,by first | exact .inr (List.all_eq_true.1 rfl) | exact .inl ⟨rfl,by simp [Blk.kindIs,fillK_fd,thK_fd]⟩,?_⟩;refine k _ ?_;clear k K
 simp only [zY,zW,set_some,Nat.reduceEqDiff,reduceIte,rho_one,rho_s,rho2_s,rho2_0,rho2_1,V.ren,V.renL,List.set_cons_zero,List.set_cons_succ,rho,Nat.reduceAdd,Nat.add_zero]
 refine zAssign ⟨?_⟩;refine k3 _ ?_;refine zk ⟨?_⟩;refine v_seqR [0,3,4,5] ?_;intro K4 k4;refine zMove ⟨?_⟩;refine v_op ?_;intro K k
 simp only [zE,zM,aStepM,optable,set_some,Nat.reduceEqDiff,reduceIte,Nat.reduceLT,implies_true,forall_const,reduceCtorEq,V.ofValue,V.ofScalar,V.un,V.gd,aExec,lentIds,lendOf,‹Tys _›.h,‹Fc _›.h]
 repeat (refine andC ?_)
 refine aCall_lentXA (pick_con code a7 s7 (8) hcode hcl (by omega)) ?_
 rintro _ _ ⟨v9,a9,s9,h9,k9,rfl,rfl⟩
 refine ⟨_,_,rfl,by first | exact .inr (List.all_eq_true.1 rfl) | exact .inl ⟨rfl,by simp [Blk.kindIs,fillK_fd,thK_fd]⟩,?_⟩;refine k _ ?_;clear k K
 simp only [zY,zW,set_some,Nat.reduceEqDiff,reduceIte,rho_one,rho_s,rho2_s,rho2_0,rho2_1,V.ren,V.renL,List.set_cons_zero,List.set_cons_succ,rho,Nat.reduceAdd,Nat.add_zero]
 refine zAssign ⟨?_⟩;refine k4 _ ?_;refine zk ⟨?_⟩;refine v_join (A:=TS) (fun p=>⟨[(0,.ptr 0 0 0),(3,.ref 1),(4,.int .i64 v7),(5,.int .i64 p.1)],[.box (.agg [.sl (code.map (V.int .u8)),.int .i64 p.2.1,.int .u64 p.2.2]) .shal,.arr [] .flat],false,43,0⟩) (fun p=>(0≤p.1∧p.1≤21)∧a≤p.2.1∧p.2.1≤a+8) ?_ ?_
 ·intro Q5 n5 e5 r5
  refine v_seqR [0,3,4,5,11] ?_;intro K6 k6;refine zMove ⟨?_⟩;refine v_op ?_;intro K k
  simp only [zE,zM,aStepM,optable,set_some,Nat.reduceEqDiff,reduceIte,Nat.reduceLT,implies_true,forall_const,reduceCtorEq,V.ofValue,V.ofScalar,V.un,V.gd,aExec,lentIds,lendOf,‹Tys _›.h,‹Fc _›.h]
  repeat (refine andC ?_)
  refine aCall_lentXA (one_con code a9 s9 (12) hcode hcl (by omega)) ?_
  rintro _ _ ⟨v11,a11,s11,h11,k11,rfl,rfl⟩
  refine ⟨_,_,rfl,by first | exact .inr (List.all_eq_true.1 rfl) | exact .inl ⟨rfl,by simp [Blk.kindIs,fillK_fd,thK_fd]⟩,?_⟩;refine k _ ?_;clear k K
  simp only [zY,zW,set_some,Nat.reduceEqDiff,reduceIte,rho_one,rho_s,rho2_s,rho2_0,rho2_1,V.ren,V.renL,List.set_cons_zero,List.set_cons_succ,rho,Nat.reduceAdd,Nat.add_zero]
  refine k6 _ ?_;refine zk ⟨?_⟩;refine v_condS _ rfl ?_ ?_
  ·intro hc0
   refine v_region ?_;intro K8 k8;refine zMove ⟨?_⟩;refine v_op ?_;intro K k
   simp only [zE,zM,aStepM,optable,set_some,Nat.reduceEqDiff,reduceIte,Nat.reduceLT,implies_true,forall_const,reduceCtorEq,V.ofValue,V.ofScalar,V.un,V.gd,aExec,lentIds,lendOf,‹Tys _›.h,‹Fc _›.h]
   repeat (refine andC ?_)
   refine aCall_lentXA (pick_con code a11 s11 (2) hcode hcl (by omega)) ?_
   rintro _ _ ⟨v13,a13,s13,h13,k13,rfl,rfl⟩
   refine ⟨_,_,rfl,by first | exact .inr (List.all_eq_true.1 rfl) | exact .inl ⟨rfl,by simp [Blk.kindIs,fillK_fd,thK_fd]⟩,?_⟩;refine k _ ?_;clear k K
   simp only [zY,zW,set_some,Nat.reduceEqDiff,reduceIte,rho_one,rho_s,rho2_s,rho2_0,rho2_1,V.ren,V.renL,List.set_cons_zero,List.set_cons_succ,rho,Nat.reduceAdd,Nat.add_zero]
   refine zBinOpW ⟨?_⟩;refine zAssign ⟨?_⟩;refine k8 _ ?_;refine n5 (20+v13,a13,s13) _ ?_ ?_
   ·exact ⟨by show 0≤20+v13∧20+v13≤21;omega,by show a≤a13∧a13≤a+8;omega⟩
   ·refine weak_both [0,3,4,5] [0,2] (by decide) (by simp) ?_ ?_ ?_
    ·simp [keep_mk,keepE_nil,keepE_cons,look_cons,V.only,V.onlyL,idx]<;>(first | rfl | decide)
    ·simp [Blk.kindIs,fillK_mix,thK_mix]
    simp only [keep_mk,keepE_nil,keepE_cons,look_cons,look_nil,Nat.reduceEqDiff,reduceIte,St.comp,List.map_cons,List.map_nil,V.ren,V.renL,idx,List.getD_cons_zero,List.getD_cons_succ,Nat.reduceBEq,cond_true,cond_false,Option.map_some,Option.getD_some,Nat.reduceAdd,Nat.beq_eq_true_eq]
    all_goals rfl
  ·intro hc0
   refine v_skip ?_;refine n5 (v9,a11,s11) _ ?_ ?_
   ·exact ⟨by show 0≤v9∧v9≤21;omega,by show a≤a11∧a11≤a+8;omega⟩
   ·refine weak_both [0,3,4,5] [0,2] (by decide) (by simp) ?_ ?_ ?_
    ·simp [keep_mk,keepE_nil,keepE_cons,look_cons,V.only,V.onlyL,idx]<;>(first | rfl | decide)
    ·simp [Blk.kindIs,fillK_mix,thK_mix]
    simp only [keep_mk,keepE_nil,keepE_cons,look_cons,look_nil,Nat.reduceEqDiff,reduceIte,St.comp,List.map_cons,List.map_nil,V.ren,V.renL,idx,List.getD_cons_zero,List.getD_cons_succ,Nat.reduceBEq,cond_true,cond_false,Option.map_some,Option.getD_some,Nat.reduceAdd,Nat.beq_eq_true_eq]
    all_goals rfl
 ·rintro ⟨n,a1,s1⟩ hok5
  obtain ⟨hn,ha1⟩:=hok5
  simp only [] at hn ha1⊢
  refine v_seq ?_;intros;refine v_block ?_;intros;refine v_loop (fun p=>⟨[(0,.ptr 0 0 0),(3,.ref 1),(4,.int .i64 p.2.1),(5,.int .i64 n)],[.box (.agg [.sl (code.map (V.int .u8)),.int .i64 p.2.2.1,.int .u64 p.2.2.2]) .shal,.arr (p.1.map (fun t:Int×Int×Int×Int×Int=>V.agg [V.int .i64 t.1,V.int .i64 t.2.1,V.int .i64 t.2.2.1,V.int .i64 t.2.2.2.1,V.int .i64 t.2.2.2.2])) .flat],false,43,0⟩) (fun p=>(p.1.length:Int)≤n∧(0≤p.2.1∧p.2.1≤10+40 * (p.1.length:Int))∧a1≤p.2.2.1∧p.2.2.1≤a1+30 * (p.1.length:Int)) (fun p=>(n - (p.1.length:Int)).toNat) (([],v7,a1,s1):List (Int×Int×Int×Int×Int)×Int×Int×Int) ?_ ?_ ?_
  ·refine weak_both [0,3,4,5] [0,1] (by decide) (by simp) ?_ ?_ ?_
   ·simp [keep_mk,keepE_nil,keepE_cons,look_cons,V.only,V.onlyL,idx]<;>(first | rfl | decide)
   ·simp [Blk.kindIs,fillK_mix,thK_mix]
   simp only [keep_mk,keepE_nil,keepE_cons,look_cons,look_nil,Nat.reduceEqDiff,reduceIte,St.comp,List.map_cons,List.map_nil,V.ren,V.renL,idx,List.getD_cons_zero,List.getD_cons_succ,Nat.reduceBEq,cond_true,cond_false,Option.map_some,Option.getD_some,Nat.reduceAdd,Nat.beq_eq_true_eq]
   all_goals rfl
  ·exact ⟨by simpa using hn.1,by simp;omega,by simp⟩
  ·rintro ⟨acc,mn,a2,s2⟩ hok11 Q11 n11 e11 r11
   obtain ⟨hal,hk,ha2⟩:=hok11
   simp only [] at hal hk ha2⊢
   refine v_seq ?_;intros
   have F:=Fc.mk True.intro
   refine yR [0,3,4,5,18] ⟨?_⟩;refine v_condS _ rfl ?_ ?_
   ·intro hc1
    refine zn [0,3,4,5] ⟨?_⟩;refine v_block ?_;intro Q15 n15 x15 e15 r15;refine v_seqR [0,3,4,5] ?_;intro K16 k16;refine zq2 ⟨?_⟩;refine zMove ⟨?_⟩;refine v_op ?_;intro K k
    simp only [zE,zM,aStepM,optable,set_some,Nat.reduceEqDiff,reduceIte,Nat.reduceLT,implies_true,forall_const,reduceCtorEq,V.ofValue,V.ofScalar,V.un,V.gd,aExec,lentIds,lendOf,‹Tys _›.h,‹Fc _›.h]
    repeat (refine andC ?_)
    refine aCall_lentXA (drawCall_con code a2 s2 (mn) hcode hcl (by omega)) ?_
    rintro _ _ ⟨e22,f22,g22,q22,u22,a22,s22,h22,k22,rfl,rfl⟩
    refine ⟨_,_,rfl,by first | exact .inr (List.all_eq_true.1 rfl) | exact .inl ⟨rfl,by simp [Blk.kindIs,fillK_fd,thK_fd]⟩,?_⟩;refine k _ ?_;clear k K
    simp only [zY,zW,set_some,Nat.reduceEqDiff,reduceIte,rho_one,rho_s,rho2_s,rho2_0,rho2_1,V.ren,V.renL,List.set_cons_zero,List.set_cons_succ,rho,Nat.reduceAdd,Nat.add_zero]
    refine zBuildSlice ⟨?_⟩;refine zAppend ⟨?_⟩;refine zAssign ⟨?_⟩;refine k16 _ ?_;refine zk ⟨?_⟩;refine v_region ?_;intro K17 k17;refine zq2 ⟨?_⟩;refine zBuildSlice ⟨?_⟩;refine v_op ?_;intro K k
    simp only [zE,zM,aStepM,optable,set_some,Nat.reduceEqDiff,reduceIte,Nat.reduceLT,implies_true,forall_const,reduceCtorEq,V.ofValue,V.ofScalar,V.un,V.gd,aExec,lentIds,lendOf,‹Tys _›.h,‹Fc _›.h]
    repeat (refine andC ?_)
    refine aCall_lent2XA (among_con code a22 s22 [0,0,1,3,5,40] (by simp) hcode hcl (by omega)) ?_
    rintro _ _ ⟨v28,a28,s28,h28,k28,rfl,rfl⟩
    refine ⟨_,_,_,rfl,by first | exact .inr (List.all_eq_true.1 rfl) | exact .inl ⟨rfl,by simp [Blk.kindIs,fillK_fd,thK_fd]⟩,?_⟩;refine k _ ?_;clear k K
    simp only [zY,zW,set_some,Nat.reduceEqDiff,reduceIte,rho_one,rho_s,rho2_s,rho2_0,rho2_1,V.ren,V.renL,List.set_cons_zero,List.set_cons_succ,rho,Nat.reduceAdd,Nat.add_zero]
    simp only [List.mem_cons,List.not_mem_nil,or_false] at h28
    refine zBinOpW ⟨?_⟩;refine zAssign ⟨?_⟩;refine k17 _ ?_;refine n15 _ ?_;refine n11 _ (acc++[(e22,f22,g22,q22,u22)],mn+v28,a28,s28) ?_ ?_ ?_
    ·refine weak_bothS [0,3,4,5] [0,3] ⟨?_⟩
     rw [snoc_Call]
    ·exact ⟨by show ((acc++_).length:Int)≤n;simp;omega,by show 0≤mn+v28∧mn+v28≤10+40 * ((acc++_).length:Int);simp;omega,by show a1≤a28∧a28≤a1+30 * ((acc++_).length:Int);simp;omega⟩
    ·show _ < _;show (n - ((acc++_).length:Int)).toNat < (n - (acc.length:Int)).toNat;simp;omega
   ·intro hc1
    refine zn [0,3] ⟨?_⟩;refine v_seq ?_;intro Q18 n18 e18 r18;refine v_seqR [0,3,31] ?_;intro K19 k19;refine zMove ⟨?_⟩;refine v_op ?_;intro K k
    simp only [zE,zM,aStepM,optable,set_some,Nat.reduceEqDiff,reduceIte,Nat.reduceLT,implies_true,forall_const,reduceCtorEq,V.ofValue,V.ofScalar,V.un,V.gd,aExec,lentIds,lendOf,‹Tys _›.h,‹Fc _›.h]
    repeat (refine andC ?_)
    refine aCall_lentXA (pick_con code a2 s2 (24) hcode hcl (by omega)) ?_
    rintro _ _ ⟨v31,a31,s31,h31,k31,rfl,rfl⟩
    refine ⟨_,_,rfl,by first | exact .inr (List.all_eq_true.1 rfl) | exact .inl ⟨rfl,by simp [Blk.kindIs,fillK_fd,thK_fd]⟩,?_⟩;refine k _ ?_;clear k K
    simp only [zY,zW,set_some,Nat.reduceEqDiff,reduceIte,rho_one,rho_s,rho2_s,rho2_0,rho2_1,V.ren,V.renL,List.set_cons_zero,List.set_cons_succ,rho,Nat.reduceAdd,Nat.add_zero]
    refine k19 _ ?_;refine zk ⟨?_⟩;refine v_block ?_;intro Q20 n20 x20 e20 r20;refine yR [0,3,32] ⟨?_⟩;refine v_condS _ rfl ?_ ?_
    ·intro hc2
     skip
     refine v_region ?_;intro K23 k23
     have F:=Fc.mk @snoc_Call
     refine zq2 ⟨?_⟩;refine zq3 ⟨?_⟩;refine v_op ?_;intro K k
     simp only [zE,zM,aStepM,optable,set_some,Nat.reduceEqDiff,reduceIte,Nat.reduceLT,implies_true,forall_const,reduceCtorEq,V.ofValue,V.ofScalar,V.un,V.gd,aExec,lentIds,lendOf,‹Tys _›.h,‹Fc _›.h]
     repeat (refine andC ?_)
     refine aCall_lent2XA (among_con code a31 s31 [0,99999,100000,-1] (by simp) hcode hcl (by omega)) ?_
     rintro _ _ ⟨v38,a38,s38,h38,k38,rfl,rfl⟩
     refine ⟨_,_,_,rfl,by first | exact .inr (List.all_eq_true.1 rfl) | exact .inl ⟨rfl,by simp [Blk.kindIs,fillK_fd,thK_fd]⟩,?_⟩;refine k _ ?_;clear k K
     simp only [zY,zW,set_some,Nat.reduceEqDiff,reduceIte,rho_one,rho_s,rho2_s,rho2_0,rho2_1,V.ren,V.renL,List.set_cons_zero,List.set_cons_succ,rho,Nat.reduceAdd,Nat.add_zero]
     simp only [List.mem_cons,List.not_mem_nil,or_false] at h38
     refine v_op ?_;intro K k
     simp only [zE,zM,aStepM,optable,set_some,Nat.reduceEqDiff,reduceIte,Nat.reduceLT,implies_true,forall_const,reduceCtorEq,V.ofValue,V.ofScalar,V.un,V.gd,aExec,lentIds,lendOf,‹Tys _›.h,‹Fc _›.h]
     repeat (refine andC ?_)
     refine aCall_lentXA (drawCall_con code a38 s38 (v38) hcode hcl (by omega)) ?_
     rintro _ _ ⟨e39,f39,g39,q39,u39,a39,s39,h39,k39,rfl,rfl⟩
     refine ⟨_,_,rfl,by first | exact .inr (List.all_eq_true.1 rfl) | exact .inl ⟨rfl,by simp [Blk.kindIs,fillK_fd,thK_fd]⟩,?_⟩;refine k _ ?_;clear k K
     simp only [zY,zW,set_some,Nat.reduceEqDiff,reduceIte,rho_one,rho_s,rho2_s,rho2_0,rho2_1,V.ren,V.renL,List.set_cons_zero,List.set_cons_succ,rho,Nat.reduceAdd,Nat.add_zero]
     refine zBuildSlice ⟨?_⟩;refine zAppend ⟨?_⟩;refine zAssign ⟨?_⟩;refine k23 _ ?_;refine n20 _ ?_;refine n18 _ _ (weak_keep [3] _) ?_;refine zk ⟨?_⟩;refine yR [2] ⟨?_⟩;refine zr ⟨?_⟩;refine ret_viewX ?_
     exact ⟨acc++[(e39,f39,g39,q39,u39)],_,_,by simp;omega,by omega,rfl,rfl⟩
    ·intro hc2
     refine zn [3] ⟨?_⟩;refine yR [2] ⟨?_⟩;refine zr ⟨?_⟩;refine ret_viewX ?_
     exact ⟨acc,_,_,by omega,by omega,rfl,rfl⟩
end Go.Proofs.YtcdpeopiajgljaaGreatDoor
