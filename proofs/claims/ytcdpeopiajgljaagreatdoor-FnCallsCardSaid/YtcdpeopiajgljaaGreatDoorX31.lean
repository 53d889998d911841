/- What functions compute. No condition. -/
import Derived.Test.YtcdpeopiajgljaaGreatDoorUz
import Derived.Test.YtcdpeopiajgljaaGreatDoorUty
import Derived.Test.YtcdpeopiajgljaaGreatDoorUmG
import Derived.Test.YtcdpeopiajgljaaGreatDoorX23
import Derived.Test.YtcdpeopiajgljaaGreatDoorX12
import Derived.Test.YtcdpeopiajgljaaGreatDoorX10
import Derived.Test.YtcdpeopiajgljaaGreatDoorX24
import Derived.Test.YtcdpeopiajgljaaGreatDoorX5
import Derived.Test.YtcdpeopiajgljaaGreatDoorX30
import Derived.Test.YtcdpeopiajgljaaGreatDoorX6
set_option linter.unusedSimpArgs false
set_option linter.unusedVariables false
set_option linter.defProp false
namespace Go.Proofs.YtcdpeopiajgljaaGreatDoor
open Go Go.Vm
set_option maxHeartbeats 8000000
theorem drawParseCalls_con (code:List Int) (hcode:∀x∈code,0≤x∧x≤255) (hcl:code.length≤9223372036854775807):ConX Tryz.prog 24 [.sl (code.map (V.int .u8))] [] (fun r O'=>∃(v:ByteArray),(v.size≤700)∧r=.str v∧O'=[]):=by
 refine v_conX [.tmp 2] [(27,[0]),(37,[0]),(28,[0]),(29,[0,1]),(43,[0]),(56,[0]),(50,[0,1]),(49,[0])] Tryz.func24 rfl rfl rfl (by simp [Tryz.ntmps24]) ?_
 intro Q0 n0 r0
 simp only [Tryz.ntmps24,envFrom,Nat.reduceAdd]
 have T:=Tys.mk (ai Ty.t3 (ai Ty.t4 (ai Ty.t5 (ai Ty.t9 (ai Ty.t22 (ai Ty.t24 (ai Ty.t26 (ai Ty.t51 (ai Ty.t52 (ai Ty.t54 Ty.t71))))))))))
 have F:=Fc.mk True.intro
 refine yR [0] ⟨?_⟩;refine yR [3] ⟨?_⟩;refine v_seqR [3,4] ?_;intro K3 k3;refine zMove ⟨?_⟩;refine v_op ?_;intro K k
 simp only [zE,zM,aStepM,optable,set_some,Nat.reduceEqDiff,reduceIte,Nat.reduceLT,implies_true,forall_const,reduceCtorEq,V.ofValue,V.ofScalar,V.un,V.gd,aExec,lentIds,lendOf,‹Tys _›.h,‹Fc _›.h]
 repeat (refine andC ?_)
 refine aCall_lentXA (drawCalls_con code 0 0 hcode hcl (by omega)) ?_
 rintro _ _ ⟨v10,a10,s10,h10,k10,rfl,rfl⟩
 refine ⟨_,_,rfl,by first | exact .inr (List.all_eq_true.1 rfl) | exact .inl ⟨rfl,by simp [Blk.kindIs,fillK_fd,thK_fd]⟩,?_⟩;refine k _ ?_;clear k K
 simp only [zY,zW,set_some,Nat.reduceEqDiff,reduceIte,rho_one,rho_s,rho2_s,rho2_0,rho2_1,V.ren,V.renL,List.set_cons_zero,List.set_cons_succ,rho,Nat.reduceAdd,Nat.add_zero]
 refine zAssign ⟨?_⟩;refine k3 _ ?_;refine zk ⟨?_⟩;refine yR [3,4,5] ⟨?_⟩;refine v_join (A:=ByteArray×Int×Int) (fun p=>⟨[(3,.ptr 0 0 0),(5,.str p.1)],[.box (.agg [.sl (code.map (V.int .u8)),.int .i64 p.2.1,.int .u64 p.2.2]) .shal],false,29,0⟩) (fun p=>p.1.size≤660∧0≤p.2.1∧p.2.1≤3000) ?_ ?_
 ·intro Q5 n5 e5 r5
  refine yRc [3,4,5,12] (clGood_con v10 (by omega)) ⟨?_⟩;refine v_condS _ rfl ?_ ?_
  ·intro hc0
   have hb:csB v10=true:=hc0
   have hcz:=ctTo_size (cs_each hb) v10.length
   have hc20:=cs_len hb
   refine yVc (clText_con v10 hb) ⟨?_⟩;refine n5 (ctx v10,a10,s10) _ ?_ ?_
   ·exact ⟨by show (ctx v10).size≤660;rw [ctx];omega,by show 0≤a10;omega,by show a10≤3000;omega⟩
   ·refine weak_both [3,5] [0] (by decide) (by simp) ?_ ?_ ?_
    ·simp [keep_mk,keepE_nil,keepE_cons,look_cons,V.only,V.onlyL,idx]<;>(first | rfl | decide)
    ·simp [Blk.kindIs,fillK_mix,thK_mix]
    simp only [keep_mk,keepE_nil,keepE_cons,look_cons,look_nil,Nat.reduceEqDiff,reduceIte,St.comp,List.map_cons,List.map_nil,V.ren,V.renL,idx,List.getD_cons_zero,List.getD_cons_succ,Nat.reduceBEq,cond_true,cond_false,Option.map_some,Option.getD_some,Nat.reduceAdd,Nat.beq_eq_true_eq]
    all_goals rfl
  ·intro hc0
   refine v_skip ?_;refine n5 ((⟨#[53,44,49,48,48,44,49,48,48,44,49,44,55,59]⟩:ByteArray),a10,s10) _ ?_ ?_
   ·exact ⟨by show ((⟨#[53,44,49,48,48,44,49,48,48,44,49,44,55,59]⟩:ByteArray)).size≤660;decide,by show 0≤a10;omega,by show a10≤3000;omega⟩
   ·refine weak_both [3,5] [0] (by decide) (by simp) ?_ ?_ ?_
    ·simp [keep_mk,keepE_nil,keepE_cons,look_cons,V.only,V.onlyL,idx]<;>(first | rfl | decide)
    ·simp [Blk.kindIs,fillK_mix,thK_mix]
    simp only [keep_mk,keepE_nil,keepE_cons,look_cons,look_nil,Nat.reduceEqDiff,reduceIte,St.comp,List.map_cons,List.map_nil,V.ren,V.renL,idx,List.getD_cons_zero,List.getD_cons_succ,Nat.reduceBEq,cond_true,cond_false,Option.map_some,Option.getD_some,Nat.reduceAdd,Nat.beq_eq_true_eq]
    all_goals rfl
 ·rintro ⟨st,a1,s1⟩ hok5
  obtain ⟨hst,ha1,ha2⟩:=hok5
  simp only [] at hst ha1 ha2⊢
  refine v_seq ?_;intros;refine v_seqR [3,5,16] ?_;intro K10 k10
  have F:=Fc.mk True.intro
  refine zMove ⟨?_⟩;refine v_op ?_;intro K k
  simp only [zE,zM,aStepM,optable,set_some,Nat.reduceEqDiff,reduceIte,Nat.reduceLT,implies_true,forall_const,reduceCtorEq,V.ofValue,V.ofScalar,V.un,V.gd,aExec,lentIds,lendOf,‹Tys _›.h,‹Fc _›.h]
  repeat (refine andC ?_)
  refine aCall_lentXA (pick_con code a1 s1 (6) hcode hcl (by omega)) ?_
  rintro _ _ ⟨v16,a16,s16,h16,k16,rfl,rfl⟩
  refine ⟨_,_,rfl,by first | exact .inr (List.all_eq_true.1 rfl) | exact .inl ⟨rfl,by simp [Blk.kindIs,fillK_fd,thK_fd]⟩,?_⟩;refine k _ ?_;clear k K
  simp only [zY,zW,set_some,Nat.reduceEqDiff,reduceIte,rho_one,rho_s,rho2_s,rho2_0,rho2_1,V.ren,V.renL,List.set_cons_zero,List.set_cons_succ,rho,Nat.reduceAdd,Nat.add_zero]
  refine k10 _ ?_;refine zk ⟨?_⟩;refine v_block ?_;intros;refine v_seq ?_;intros;refine yR [3,5,16,17] ⟨?_⟩;refine v_condS _ rfl ?_ ?_
  ·intro hc1
   refine zn [3,5,16,17] ⟨?_⟩;refine v_condS _ rfl ?_ ?_
   ·intro hc2
    refine v_seqR [2] ?_;intro K16 k16;refine zq2 ⟨?_⟩;refine v_op ?_;intro K k
    simp only [zE,zM,aStepM,optable,set_some,Nat.reduceEqDiff,reduceIte,Nat.reduceLT,implies_true,forall_const,reduceCtorEq,V.ofValue,V.ofScalar,V.un,V.gd,aExec,lentIds,lendOf,‹Tys _›.h,‹Fc _›.h]
    repeat (refine andC ?_)
    refine aCall_lentXA (spoilt_con code a16 s16 st (⟨#[44,59,48,49,57]⟩:ByteArray) (by omega) (by decide) hcode hcl (by omega)) ?_
    rintro _ _ ⟨v22,a22,s22,h22,k22,rfl,rfl⟩
    refine ⟨_,_,rfl,by first | exact .inr (List.all_eq_true.1 rfl) | exact .inl ⟨rfl,by simp [Blk.kindIs,fillK_fd,thK_fd]⟩,?_⟩;refine k _ ?_;clear k K
    simp only [zY,zW,set_some,Nat.reduceEqDiff,reduceIte,rho_one,rho_s,rho2_s,rho2_0,rho2_1,V.ren,V.renL,List.set_cons_zero,List.set_cons_succ,rho,Nat.reduceAdd,Nat.add_zero]
    refine zAssign ⟨?_⟩;refine k16 _ ?_;refine zq1 ⟨?_⟩;refine ret_viewX ?_
    exact ⟨v22,by omega,rfl,rfl⟩
   ·intro hc2
    refine yR [3,5,23] ⟨?_⟩;refine v_condS _ rfl ?_ ?_
    ·intro hc3
     refine v_seqR [2] ?_;intro K19 k19;refine zq3 ⟨?_⟩;refine v_op ?_;intro K k
     simp only [zE,zM,aStepM,optable,set_some,Nat.reduceEqDiff,reduceIte,Nat.reduceLT,implies_true,forall_const,reduceCtorEq,V.ofValue,V.ofScalar,V.un,V.gd,aExec,lentIds,lendOf,‹Tys _›.h,‹Fc _›.h]
     repeat (refine andC ?_)
     refine aCall_lent2XA (of_con code a16 s16 [.empty,(⟨#[59]⟩:ByteArray),(⟨#[53,44,49,48,48,44,49,48,48,44,49,44,55]⟩:ByteArray),(⟨#[53,44,49,48,48,44,49,48,48,44,49,59]⟩:ByteArray),(⟨#[48,53,44,49,48,48,44,49,48,48,44,49,44,55,59]⟩:ByteArray),(⟨#[54,44,48,44,48,44,49,44,55,59,53,44,48,44,48,44,49,44,55,59]⟩:ByteArray),(⟨#[53,44,49,48,48,44,49,48,48,44,54,44,55,59]⟩:ByteArray)] (by simp) hcode hcl (by omega)) ?_
     rintro _ _ ⟨v27,a27,s27,h27,k27,rfl,rfl⟩
     have hz27:v27.size≤30:=by
      simp only [List.mem_cons,List.not_mem_nil,or_false] at h27
      rcases h27 with e | e | e | e | e | e | e<;>(rw [e];decide)
     refine ⟨_,_,_,rfl,by first | exact .inr (List.all_eq_true.1 rfl) | exact .inl ⟨rfl,by simp [Blk.kindIs,fillK_fd,thK_fd]⟩,?_⟩;refine k _ ?_;clear k K
     simp only [zY,zW,set_some,Nat.reduceEqDiff,reduceIte,rho_one,rho_s,rho2_s,rho2_0,rho2_1,V.ren,V.renL,List.set_cons_zero,List.set_cons_succ,rho,Nat.reduceAdd,Nat.add_zero]
     refine zAssign ⟨?_⟩;refine k19 _ ?_;refine zq1 ⟨?_⟩;refine ret_viewX ?_
     exact ⟨v27,by omega,rfl,rfl⟩
    ·intro hc3
     refine zn [5] ⟨?_⟩;refine yR [2] ⟨?_⟩;refine zr ⟨?_⟩;refine ret_viewX ?_
     exact ⟨st,by omega,rfl,rfl⟩
  ·intro hc1
   refine yQ [3,5,16,17] ⟨?_⟩;refine v_condS _ rfl ?_ ?_
   ·intro hc4
    refine v_seqR [2] ?_;intro K23 k23;refine zq2 ⟨?_⟩;refine v_op ?_;intro K k
    simp only [zE,zM,aStepM,optable,set_some,Nat.reduceEqDiff,reduceIte,Nat.reduceLT,implies_true,forall_const,reduceCtorEq,V.ofValue,V.ofScalar,V.un,V.gd,aExec,lentIds,lendOf,‹Tys _›.h,‹Fc _›.h]
    repeat (refine andC ?_)
    refine aCall_lentXA (spoilt_con code a16 s16 st (⟨#[44,59,48,49,57]⟩:ByteArray) (by omega) (by decide) hcode hcl (by omega)) ?_
    rintro _ _ ⟨v22,a22,s22,h22,k22,rfl,rfl⟩
    refine ⟨_,_,rfl,by first | exact .inr (List.all_eq_true.1 rfl) | exact .inl ⟨rfl,by simp [Blk.kindIs,fillK_fd,thK_fd]⟩,?_⟩;refine k _ ?_;clear k K
    simp only [zY,zW,set_some,Nat.reduceEqDiff,reduceIte,rho_one,rho_s,rho2_s,rho2_0,rho2_1,V.ren,V.renL,List.set_cons_zero,List.set_cons_succ,rho,Nat.reduceAdd,Nat.add_zero]
    refine zAssign ⟨?_⟩;refine k23 _ ?_;refine zq1 ⟨?_⟩;refine ret_viewX ?_
    exact ⟨v22,by omega,rfl,rfl⟩
   ·intro hc4
    refine yR [3,5,23] ⟨?_⟩;refine v_condS _ rfl ?_ ?_
    ·intro hc5
     refine v_seqR [2] ?_;intro K26 k26;refine zq3 ⟨?_⟩;refine v_op ?_;intro K k
     simp only [zE,zM,aStepM,optable,set_some,Nat.reduceEqDiff,reduceIte,Nat.reduceLT,implies_true,forall_const,reduceCtorEq,V.ofValue,V.ofScalar,V.un,V.gd,aExec,lentIds,lendOf,‹Tys _›.h,‹Fc _›.h]
     repeat (refine andC ?_)
     refine aCall_lent2XA (of_con code a16 s16 [.empty,(⟨#[59]⟩:ByteArray),(⟨#[53,44,49,48,48,44,49,48,48,44,49,44,55]⟩:ByteArray),(⟨#[53,44,49,48,48,44,49,48,48,44,49,59]⟩:ByteArray),(⟨#[48,53,44,49,48,48,44,49,48,48,44,49,44,55,59]⟩:ByteArray),(⟨#[54,44,48,44,48,44,49,44,55,59,53,44,48,44,48,44,49,44,55,59]⟩:ByteArray),(⟨#[53,44,49,48,48,44,49,48,48,44,54,44,55,59]⟩:ByteArray)] (by simp) hcode hcl (by omega)) ?_
     rintro _ _ ⟨v27,a27,s27,h27,k27,rfl,rfl⟩
     have hz27:v27.size≤30:=by
      simp only [List.mem_cons,List.not_mem_nil,or_false] at h27
      rcases h27 with e | e | e | e | e | e | e<;>(rw [e];decide)
     refine ⟨_,_,_,rfl,by first | exact .inr (List.all_eq_true.1 rfl) | exact .inl ⟨rfl,by simp [Blk.kindIs,fillK_fd,thK_fd]⟩,?_⟩;refine k _ ?_;clear k K
     simp only [zY,zW,set_some,Nat.reduceEqDiff,reduceIte,rho_one,rho_s,rho2_s,rho2_0,rho2_1,V.ren,V.renL,List.set_cons_zero,List.set_cons_succ,rho,Nat.reduceAdd,Nat.add_zero]
     refine zAssign ⟨?_⟩;refine k26 _ ?_;refine zq1 ⟨?_⟩;refine ret_viewX ?_
     exact ⟨v27,by omega,rfl,rfl⟩
    ·intro hc5
     refine zn [5] ⟨?_⟩;refine yR [2] ⟨?_⟩;refine zr ⟨?_⟩;refine ret_viewX ?_
     exact ⟨st,by omega,rfl,rfl⟩
end Go.Proofs.YtcdpeopiajgljaaGreatDoor
