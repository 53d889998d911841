/- What functions compute. No condition. -/
import Derived.Test.YtbameklegpgkfaaDoorUz
import Derived.Test.YtbameklegpgkfaaDoorUty
import Derived.Test.YtbameklegpgkfaaDoorUmG
import Derived.Test.YtbameklegpgkfaaDoorX14
import Derived.Test.YtbameklegpgkfaaDoorX3
import Derived.Test.YtbameklegpgkfaaDoorX13
import Derived.Test.YtbameklegpgkfaaDoorX11
import Derived.Test.YtbameklegpgkfaaDoorX12
import Derived.Test.YtbameklegpgkfaaDoorX9
import Derived.Test.YtbameklegpgkfaaDoorX4
set_option linter.unusedSimpArgs false
set_option linter.unusedVariables false
set_option linter.defProp false
namespace Go.Proofs.YtbameklegpgkfaaDoor
open Go Go.Vm
set_option maxRecDepth 8000 in
set_option maxHeartbeats 6000000 in
theorem lawFnLoads_con (c1 c2:List Int) (hc1:∀x∈c1,0≤x∧x≤255) (hc2:∀x∈c2,0≤x∧x≤255) (hn1:c1.length≤9223372036854775807) (hn2:c2.length≤9223372036854775807):Con Tryd.prog 5 [.sl (c1.map (V.int .u8)),.sl (c2.map (V.int .u8))] [] (.bool true) []:=by
 refine v_con [.tmp 4] [] Tryd.func5 rfl rfl rfl (by simp [Tryd.ntmps5]) ?_
 intro Q0 n0 r0
 simp only [Tryd.ntmps5,envFrom,Nat.reduceAdd]
 have T:=Tys.mk (And.intro Ty.t3 (And.intro Ty.t4 (And.intro Ty.t5 (And.intro Ty.t9 (And.intro Ty.t22 (And.intro Ty.t63 (And.intro Ty.t65 (And.intro Ty.t66 (And.intro Ty.t74 Ty.t93)))))))))
 have F:=Fc.mk True.intro
 refine v_seqR [0,1] ?_;intro K1 k1;refine zAssign ⟨?_⟩;refine k1 _ ?_;refine zk ⟨?_⟩;refine v_seq ?_;intro Q2 n2 e2 r2;refine v_seqR [0,1,60] ?_;intro K3 k3;refine zq5 ⟨?_⟩;refine zq5 ⟨?_⟩;refine zBinOpW ⟨?_⟩;refine zBinOp ⟨?_⟩;refine k3 _ ?_;refine zk ⟨?_⟩;refine v_condS _ rfl ?_ ?_
 ·intro hc0
  refine v_seqR [4] ?_;intro K5 k5;refine zAssign ⟨?_⟩;refine k5 _ ?_;refine zk ⟨?_⟩;refine v_ret ?_;refine r2 _ ?_;refine r0 _ ?_;refine zf ⟨?_⟩
  exact ret_pure rfl rfl (.inl rfl)
 ·intro hc0
  refine v_skip ?_;refine n2 _ _ (weak_keep [0,1] _) ?_;refine zk ⟨?_⟩;refine v_seqR [1,5,6,7] ?_;intro K6 k6;refine zMove ⟨?_⟩;refine v_op ?_;intro K k
  simp only [zE,zM,aStepM,optable,set_some,Nat.reduceEqDiff,reduceIte,Nat.reduceLT,implies_true,forall_const,reduceCtorEq,V.ofValue,V.ofScalar,V.un,V.gd,aExec,lentIds,lendOf,‹Tys _›.h,‹Fc _›.h]
  repeat (refine andC ?_)
  refine aCall_newXA (drawFill_con c1 hc1 hn1) ?_
  rintro _ _ ⟨xa,xl,w,rest,⟨⟨hxa,hxl,hxz⟩,⟨hwl,hwz⟩,hrl,hrz⟩,rfl,rfl⟩
  refine ⟨by first | exact .inl ⟨rfl,by simp [Blk.kindIs,fillK_fd]⟩ | exact .inr (by simp [V.coldIn,V.cold,idx]),?_⟩;refine k _ ?_;clear k K
  simp only [zY,zW,set_some,Nat.reduceEqDiff,reduceIte,rho_one,rho_s,V.ren,V.renL,List.set_cons_zero,List.set_cons_succ,rho,Nat.reduceAdd,Nat.add_zero]
  have hrz2:∀x∈rest,x.1.size≤9223372036854775807∧x.2.length≤1048576∧∀t∈x.2,t.1.size≤9223372036854775807:=fun x h=>by
   obtain ⟨a,b,c⟩:=hrz x h
   exact ⟨by omega,by omega,fun t ht=>Nat.le_trans (c t ht) (by omega)⟩
  obtain ⟨hfi1,hfi2⟩:=fill_imp xa xl w rest
  obtain ⟨hfl1,hfl2,hfl3⟩:=fill_len xa xl w rest
  refine zq48 ⟨?_⟩;refine k6 _ ?_;refine zk ⟨?_⟩;refine v_seqR [1,5,6,7,8,9,10] ?_;intro K7 k7;refine zq33 ⟨?_⟩;refine zc (implFill_con xa xl w rest (by omega) (by omega) (fun x h=>Nat.le_trans (hxz x h) (by omega)) (by omega) (fun x h=>Nat.le_trans (hwz x h) (by omega)) (by omega) hrz2) ⟨?_⟩;refine zq48 ⟨?_⟩;refine k7 _ ?_;refine zk ⟨?_⟩;refine v_seqR [1,5,6,7,8,9,10,11,12,13] ?_;intro K8 k8;refine zq33 ⟨?_⟩;refine zc (specFill_con xa xl w rest (by omega) (by omega) (fun x h=>Nat.le_trans (hxz x h) (by omega)) (by omega) (fun x h=>Nat.le_trans (hwz x h) (by omega)) (by omega) hrz2) ⟨?_⟩;refine zq48 ⟨?_⟩;refine k8 _ ?_;refine zk ⟨?_⟩;refine v_seqR [1,5,6,7,8,9,10,11,12,13,14,15] ?_;intro K9 k9;refine zq33 ⟨?_⟩;refine zc (implCan_con xa xl w rest (by omega) (by omega) (fun x h=>Nat.le_trans (hxz x h) (by omega)) (by omega) (fun x h=>Nat.le_trans (hwz x h) (by omega)) (by omega) hrz2) ⟨?_⟩;refine zq16 ⟨?_⟩;refine k9 _ ?_;refine zk ⟨?_⟩;refine v_seqR [1,5,6,7,8,9,10,11,12,13,14,15,16,17] ?_;intro K10 k10;refine zq33 ⟨?_⟩;refine zc (specCan_con xa xl w rest (by omega) (by omega) (fun x h=>Nat.le_trans (hxz x h) (by omega)) (by omega) (fun x h=>Nat.le_trans (hwz x h) (by omega)) (by omega) hrz2) ⟨?_⟩;refine zq16 ⟨?_⟩;refine k10 _ ?_;refine zk ⟨?_⟩;refine v_seqR [1,5,6,7,8,9,10,11,12,13,14,15,16,17,18,19,20] ?_;intro K11 k11;refine zMove ⟨?_⟩;refine v_op ?_;intro K k
  simp only [zE,zM,aStepM,optable,set_some,Nat.reduceEqDiff,reduceIte,Nat.reduceLT,implies_true,forall_const,reduceCtorEq,V.ofValue,V.ofScalar,V.un,V.gd,aExec,lentIds,lendOf,‹Tys _›.h,‹Fc _›.h]
  repeat (refine andC ?_)
  refine aCall_newXA (drawDue_con c2 hc2 hn2) ?_
  rintro _ _ ⟨ya,yl,yd,ye,⟨⟨hya,hyl,hyz⟩,hyd,hye⟩,rfl,rfl⟩
  refine ⟨by first | exact .inl ⟨rfl,by simp [Blk.kindIs,fillK_fd]⟩ | exact .inr (by simp [V.coldIn,V.cold,idx]),?_⟩;refine k _ ?_;clear k K
  simp only [zY,zW,set_some,Nat.reduceEqDiff,reduceIte,rho_one,rho_s,V.ren,V.renL,List.set_cons_zero,List.set_cons_succ,rho,Nat.reduceAdd,Nat.add_zero]
  have hYl:(orN (dueB ya yl yd ye) (dueL yl yd ye)).length≤18:=orN_len (Nat.le_trans (dueL_len _ _ _) hyl)
  refine zq48 ⟨?_⟩;refine k11 _ ?_;refine zk ⟨?_⟩;refine v_seqR [1,5,6,7,8,9,10,11,12,13,14,15,16,17,18,19,20,21,22] ?_;intro K12 k12;refine zq33 ⟨?_⟩;refine zc (implDue_con ya yl yd ye (by omega) (by omega) (fun x h=>Nat.le_trans (hyz x h) (by omega))) ⟨?_⟩;refine zq16 ⟨?_⟩;refine k12 _ ?_;refine zk ⟨?_⟩;refine v_seqR [1,5,6,7,8,9,10,11,12,13,14,15,16,17,21,22,23,24] ?_;intro K13 k13;refine zq33 ⟨?_⟩;refine zc (specDue_con ya yl yd ye (by omega) (by omega) (fun x h=>Nat.le_trans (hyz x h) (by omega))) ⟨?_⟩;refine zq16 ⟨?_⟩;refine k13 _ ?_;refine zk ⟨?_⟩;refine v_seqR [1,5,6,7,8,9,10,11,12,13,14,15,16,17,21,22,23,24,25,26,27] ?_;intro K14 k14;refine zMove ⟨?_⟩;refine v_op ?_;intro K k
  simp only [zE,zM,aStepM,optable,set_some,Nat.reduceEqDiff,reduceIte,Nat.reduceLT,implies_true,forall_const,reduceCtorEq,V.ofValue,V.ofScalar,V.un,V.gd,aExec,lentIds,lendOf,‹Tys _›.h,‹Fc _›.h]
  repeat (refine andC ?_)
  refine aCall_newXA (drawChk_con c2 hc2 hn2) ?_
  rintro _ _ ⟨za,zl,zs,zd,⟨⟨hza,hzl,hzz⟩,hzs,hzd⟩,rfl,rfl⟩
  refine ⟨by first | exact .inl ⟨rfl,by simp [Blk.kindIs,fillK_fd]⟩ | exact .inr (by simp [V.coldIn,V.cold,idx]),?_⟩;refine k _ ?_;clear k K
  simp only [zY,zW,set_some,Nat.reduceEqDiff,reduceIte,rho_one,rho_s,V.ren,V.renL,List.set_cons_zero,List.set_cons_succ,rho,Nat.reduceAdd,Nat.add_zero]
  have hZl:(orN (chkB za zl zs zd) (chkL zl zs zd)).length≤18:=orN_len (by rw [chkL_len];exact hzl)
  refine zq48 ⟨?_⟩;refine k14 _ ?_;refine zk ⟨?_⟩;refine v_seqR [1,5,6,7,8,9,10,11,12,13,14,15,16,17,21,22,23,24,25,26,27,28,29] ?_;intro K15 k15;refine zq33 ⟨?_⟩;refine zc (implChk_con za zl zs zd (by omega) (by omega) (fun x h=>Nat.le_trans (hzz x h) (by omega))) ⟨?_⟩;refine zq9 ⟨?_⟩;refine zq10 ⟨?_⟩;refine zAssign ⟨?_⟩;refine k15 _ ?_;refine zk ⟨?_⟩;refine v_seqR [1,5,6,7,8,9,10,11,12,13,14,15,16,17,21,22,23,24,25,26,27,28,29,30,31] ?_;intro K16 k16;refine zq33 ⟨?_⟩;refine zc (specChk_con za zl zs zd (by omega) (by omega) (fun x h=>Nat.le_trans (hzz x h) (by omega))) ⟨?_⟩;refine zq9 ⟨?_⟩;refine zq10 ⟨?_⟩;refine zAssign ⟨?_⟩;refine k16 _ ?_;refine zk ⟨?_⟩;refine v_seqR [1,5,6,7,8,9,10,11,12,13,14,15,16,17,21,22,23,24,25,26,27,28,29,30,31,32,33] ?_;intro K17 k17;refine zMove ⟨?_⟩;refine v_op ?_;intro K k
  simp only [zE,zM,aStepM,optable,set_some,Nat.reduceEqDiff,reduceIte,Nat.reduceLT,implies_true,forall_const,reduceCtorEq,V.ofValue,V.ofScalar,V.un,V.gd,aExec,lentIds,lendOf,‹Tys _›.h,‹Fc _›.h]
  repeat (refine andC ?_)
  refine aCall_newXA (drawCount_con c2 hc2 hn2) ?_
  rintro _ _ ⟨cl,cs,⟨⟨hkl2,hkz⟩,hks⟩,rfl,rfl⟩
  refine ⟨by first | exact .inl ⟨rfl,by simp [Blk.kindIs,fillK_fd]⟩ | exact .inr (by simp [V.coldIn,V.cold,idx]),?_⟩;refine k _ ?_;clear k K
  simp only [zY,zW,set_some,Nat.reduceEqDiff,reduceIte,rho_one,rho_s,V.ren,V.renL,List.set_cons_zero,List.set_cons_succ,rho,Nat.reduceAdd,Nat.add_zero]
  have hkz2:∀x∈cl,x.1.size≤9223372036854775807∧x.2.length≤1048576∧∀t∈x.2,t.1.size≤9223372036854775807:=fun x h=>by
   obtain ⟨a,b,c⟩:=hkz x h
   exact ⟨by omega,by omega,fun t ht=>Nat.le_trans (c t ht) (by omega)⟩
  refine zq16 ⟨?_⟩;refine k17 _ ?_;refine zk ⟨?_⟩;refine v_seqR [1,5,6,7,8,9,10,11,12,13,14,15,16,17,21,22,23,24,25,26,27,28,29,30,31,32,33,34,35] ?_;intro K18 k18;refine zq3 ⟨?_⟩;refine zc (implCount_con cl (by omega) hkz2 cs (by omega)) ⟨?_⟩;refine zq16 ⟨?_⟩;refine k18 _ ?_;refine zk ⟨?_⟩;refine v_seqR [1,5,6,7,8,9,10,11,12,13,14,15,16,17,21,22,23,24,25,26,27,28,29,30,31,34,35,36,37] ?_;intro K19 k19;refine zq3 ⟨?_⟩;refine zc (specCount_con cl (by omega) hkz2 cs (by omega)) ⟨?_⟩;refine zq16 ⟨?_⟩;refine k19 _ ?_;refine zk ⟨?_⟩;refine v_seqR [5,6,7,8,9,10,11,12,13,14,15,16,17,21,22,23,24,25,26,27,28,29,30,31,34,35,36,37,38] ?_;intro K20 k20;refine zMove ⟨?_⟩;refine v_op ?_;intro K k
  simp only [zE,zM,aStepM,optable,set_some,Nat.reduceEqDiff,reduceIte,Nat.reduceLT,implies_true,forall_const,reduceCtorEq,V.ofValue,V.ofScalar,V.un,V.gd,aExec,lentIds,lendOf,‹Tys _›.h,‹Fc _›.h]
  repeat (refine andC ?_)
  refine aCall_newXA (drawLText_con c2 hc2 hn2) ?_
  rintro _ _ ⟨ua,ul,⟨hua,hul,huz⟩,rfl,rfl⟩
  refine ⟨by first | exact .inl ⟨rfl,by simp [Blk.kindIs,fillK_fd]⟩ | exact .inr (by simp [V.coldIn,V.cold,idx]),?_⟩;refine k _ ?_;clear k K
  simp only [zY,zW,set_some,Nat.reduceEqDiff,reduceIte,rho_one,rho_s,V.ren,V.renL,List.set_cons_zero,List.set_cons_succ,rho,Nat.reduceAdd,Nat.add_zero]
  refine zq10 ⟨?_⟩;refine k20 _ ?_;refine zk ⟨?_⟩;refine v_seqR [5,6,7,8,9,10,11,12,13,14,15,16,17,21,22,23,24,25,26,27,28,29,30,31,34,35,36,37,38,39,40] ?_;intro K21 k21;refine zLoad ⟨?_⟩;refine zc (implLText_con ua ul (by omega) (by omega) (fun x h=>Nat.le_trans (huz x h) (by omega))) ⟨?_⟩;refine zq16 ⟨?_⟩;refine k21 _ ?_;refine zk ⟨?_⟩;refine v_seqR [5,6,7,8,9,10,11,12,13,14,15,16,17,21,22,23,24,25,26,27,28,29,30,31,34,35,36,37,38,39,40,41,42] ?_;intro K22 k22;refine zLoad ⟨?_⟩;refine zc (specLText_con ua ul (by omega) (by omega) (fun x h=>Nat.le_trans (huz x h) (by omega))) ⟨?_⟩;refine zq16 ⟨?_⟩;refine k22 _ ?_;refine zk ⟨?_⟩;refine v_seq ?_;intro Q23 n23 e23 r23;refine v_seqR [5,6,7,8,9,10,12,25,26,27,28,29,30,246] ?_;intro K24 k24;refine zq56 ⟨?_⟩;refine zq51 ⟨?_⟩;refine zgLoad ⟨?_⟩;refine zgc (qLoad_con (orS (fillB xa xl w rest) xa) (orN (fillB xa xl w rest) (fillX xl w rest)) (by omega)) ⟨?_⟩;refine zq12 ⟨?_⟩;refine zq15 ⟨?_⟩;refine zgc (qLoads_con (orN (fillB xa xl w rest) (fillR xl w rest)) (by omega) hfl3) ⟨?_⟩;refine zq12 ⟨?_⟩;refine zq30 ⟨?_⟩;refine zq30 ⟨?_⟩;refine zq30 ⟨?_⟩;refine zq15 ⟨?_⟩;refine zgc (qTexts_con (orN (dueB ya yl yd ye) (dueL yl yd ye)) (by omega)) ⟨?_⟩;refine zq12 ⟨?_⟩;refine zq30 ⟨?_⟩;refine zq51 ⟨?_⟩;refine zgLoad ⟨?_⟩;refine zgc (qLoad_con (orS (chkB za zl zs zd) za) (orN (chkB za zl zs zd) (chkL zl zs zd)) (by omega)) ⟨?_⟩;refine zq12 ⟨?_⟩;refine zq30 ⟨?_⟩;refine zq30 ⟨?_⟩;refine zq30 ⟨?_⟩;refine zq30 ⟨?_⟩;refine zq15 ⟨?_⟩;refine zgMove ⟨?_⟩
  refine zgMove ⟨?_⟩;refine zgPick ⟨?_⟩;refine zq8 ⟨?_⟩;refine zq4 ⟨?_⟩;refine zgLoad ⟨?_⟩;refine zgc (implIsLoad_con ua ul (by omega) (by omega) (fun x h=>Nat.le_trans (huz x h) (by omega))) ⟨?_⟩;refine zq8 ⟨?_⟩;refine k24 _ ?_;refine zk ⟨?_⟩;refine v_cond _ rfl ?_ ?_
  ·intro hc1
   exfalso;simp [nbeq,hfi1,hfi2] at hc1
  ·intro hc1
   try simp only [zC,reduceCtorEq] at hc1
   refine v_skip ?_;refine n23 _ _ (weak_keep [5,6,7,8,9,10,12,25,26,27,28,29,30] _) ?_;refine zk ⟨?_⟩;refine v_join (A:=Unit) (fun u0=>⟨[(25,.ptr 1 0 0),(26,.str zs),(27,.int .i64 zd),(28,.ptr 3 0 0),(29,.bool (chkB za zl zs zd)),(30,.ptr 5 0 0)],[.arr (zl.map (fun t:ByteArray×Int×Int=>V.agg [V.str t.1,V.int .i64 t.2.1,V.int .i64 t.2.2])) .flat,.box (.agg [.str za,.ref 0]) .mix,.arr ((orN (chkB za zl zs zd) (chkL zl zs zd)).map (fun t:ByteArray×Int×Int=>V.agg [V.str t.1,V.int .i64 t.2.1,V.int .i64 t.2.2])) .flat,.box (.agg [.str (orS (chkB za zl zs zd) za),.ref 2]) .mix,.arr ((orN (chkB za zl zs zd) (chkL zl zs zd)).map (fun t:ByteArray×Int×Int=>V.agg [V.str t.1,V.int .i64 t.2.1,V.int .i64 t.2.2])) .flat,.box (.agg [.str (orS (chkB za zl zs zd) za),.ref 4]) .mix],false,346,0⟩) (fun u0=>True) ?_ ?_
   ·intro Q26 n26 e26 r26
    refine v_seqR [5,6,7,8,9,12,25,26,27,28,29,30,247] ?_;intro K27 k27;refine zMove ⟨?_⟩;refine k27 _ ?_;refine zk ⟨?_⟩;refine v_condS _ rfl ?_ ?_
    ·intro hc2
     have hM:=hc2
     simp only [hM,orS,if_true,orN_t]
     obtain ⟨⟨hXl,hXs⟩,hRl,hRz⟩:=fill_sz hM
     obtain ⟨hms1,hms2⟩:=fill_miss hM
     have hlw:=fill_law hM
     have hgf:=fillG_facts (show fillG xa xl w rest=true by have h:=hM;rw [fillB,Bool.and_eq_true] at h;exact h.1)
     have hK1:∀x∈(xa,xl)::rest,x.1.size≤9223372036854775807∧x.2.length≤1048576∧∀t∈x.2,t.1.size≤9223372036854775807:=fun x hx=>by
      rcases List.mem_cons.1 hx with rfl | hx
      ·exact ⟨by show xa.size≤_;omega,by show xl.length≤_;omega,fun y hy=>Nat.le_trans (hxz y hy) (by omega)⟩
      ·exact hrz2 x hx
     have hK2:∀x∈(xa,(fillX xl w rest))::(fillR xl w rest),x.1.size≤9223372036854775807∧x.2.length≤1048576∧∀t∈x.2,t.1.size≤9223372036854775807:=fun x hx=>by
      rcases List.mem_cons.1 hx with rfl | hx
      ·exact ⟨by show xa.size≤_;omega,by show List.length (fillX xl w rest)≤_;omega,hXs⟩
      ·exact hRz x hx
     refine v_seqR [5,6,7,8,9,12,25,26,27,28,29,30,43,44] ?_;intro K29 k29;refine zq31 ⟨?_⟩;refine zc (implMissing_con w (fillX xl w rest) (by omega) (by omega) (fun x h=>Nat.le_trans (hwz x h) (by omega)) hXs) ⟨?_⟩;refine zq16 ⟨?_⟩;refine k29 _ ?_;refine zk ⟨?_⟩;refine v_seq ?_;intro Q30 n30 e30 r30;refine v_seqR [5,6,7,8,9,25,26,27,28,29,30,268] ?_;intro K31 k31;refine zMove ⟨?_⟩;refine zq50 ⟨?_⟩;refine zq4 ⟨?_⟩;refine zgLen ⟨?_⟩;refine zgMove ⟨?_⟩;refine zq40 ⟨?_⟩;refine k31 _ ?_;refine zk ⟨?_⟩;refine v_cond _ rfl ?_ ?_
     ·intro hc3
      exfalso;have e1:=hlw.2.1
      simp [hms1,hms2,e1] at hc3
     ·intro hc3
      try simp only [zC,reduceCtorEq] at hc3
      refine v_skip ?_;refine n30 _ _ (weak_keep [5,6,7,8,9,25,26,27,28,29,30] _) ?_;refine zk ⟨?_⟩;refine v_seq ?_;intro Q33 n33 e33 r33;refine v_region ?_;intro K34 k34;refine zq14 ⟨?_⟩;refine k34 _ ?_
      apply n33
      ·apply weak_trans (weak_keep [5,7,8,9,25,26,27,28,29,30,269,270,271] _)
       simp only [keep_mk,keepE_nil,keepE_cons,look_cons,look_nil,Nat.reduceEqDiff,reduceIte]
       exact weak_trans (weak_giveB 4 0 [V.str xa] [] _ .flat rfl rfl (.inl rfl) (by decide)) (weak_trans (weak_giveB 8 5 [V.str xa] [] _ .flat rfl rfl (.inl rfl) (by decide)) (weak_trans (weak_giveup 7 2 _ (fillK rest.length) rfl rfl ((fillK_or _).imp id .inl)) (weak_giveup 9 6 _ .deep rfl rfl (.inr (.inl rfl)))))
      try simp only [atSlot_cons,atSlot_nil,Nat.reduceEqDiff,reduceIte,List.set_cons_zero,List.set_cons_succ]
      refine v_block ?_;intro Q35 n35 x35 e35 r35;refine v_loop (fun i=>⟨[(5,.ptr 1 0 0),(7,.sl (rest.map (fun t:ByteArray×List (ByteArray×Int×Int)=>V.agg [V.str t.1,V.sl (t.2.map (fun t:ByteArray×Int×Int=>V.agg [V.str t.1,V.int .i64 t.2.1,V.int .i64 t.2.2]))]))),(8,.ptr 2 0 0),(9,.sl ((fillR xl w rest).map (fun t:ByteArray×List (ByteArray×Int×Int)=>V.agg [V.str t.1,V.sl (t.2.map (fun t:ByteArray×Int×Int=>V.agg [V.str t.1,V.int .i64 t.2.1,V.int .i64 t.2.2]))]))),(25,.ptr 4 0 0),(26,.str zs),(27,.int .i64 zd),(28,.ptr 6 0 0),(29,.bool (chkB za zl zs zd)),(30,.ptr 8 0 0),(269,.ref 0),(270,.int .i64 w.length),(271,.int .i64 (Nat.cast i))],[.arr (w.map (fun t:ByteArray×Int×Int=>V.agg [V.str t.1,V.int .i64 t.2.1,V.int .i64 t.2.2])) .flat,.box (.agg [.str xa,.sl (xl.map (fun t:ByteArray×Int×Int=>V.agg [V.str t.1,V.int .i64 t.2.1,V.int .i64 t.2.2]))]) .mix,.box (.agg [.str xa,.sl ((fillX xl w rest).map (fun t:ByteArray×Int×Int=>V.agg [V.str t.1,V.int .i64 t.2.1,V.int .i64 t.2.2]))]) .mix,.arr (zl.map (fun t:ByteArray×Int×Int=>V.agg [V.str t.1,V.int .i64 t.2.1,V.int .i64 t.2.2])) .flat,.box (.agg [.str za,.ref 3]) .mix,.arr ((orN (chkB za zl zs zd) (chkL zl zs zd)).map (fun t:ByteArray×Int×Int=>V.agg [V.str t.1,V.int .i64 t.2.1,V.int .i64 t.2.2])) .flat,.box (.agg [.str (orS (chkB za zl zs zd) za),.ref 5]) .mix,.arr ((orN (chkB za zl zs zd) (chkL zl zs zd)).map (fun t:ByteArray×Int×Int=>V.agg [V.str t.1,V.int .i64 t.2.1,V.int .i64 t.2.2])) .flat,.box (.agg [.str (orS (chkB za zl zs zd) za),.ref 7]) .mix],false,346,0⟩) (fun i=>i≤w.length) (fun i=>w.length - i) 0 ?_ ?_ ?_
      ·refine weak_bothN [5,7,8,9,25,26,27,28,29,30,269,270,271] [1,4,8,18,20,21,23,24,26] ⟨?_⟩
       rfl
      ·exact Nat.zero_le _
      ·rintro i hok36 Q36 n36 e36 r36
       have hi1:i≤w.length:=hok36
       refine v_seqR [5,7,8,9,25,26,27,28,29,30,269,270,271,272] ?_;intro K37 k37;refine zBinOp ⟨?_⟩;refine k37 _ ?_;refine zk ⟨?_⟩;refine v_seq ?_;intro Q38 n38 e38 r38;refine v_condS _ rfl ?_ ?_
       ·intro hc4
        have hlt:i < w.length:=by omega
        obtain ⟨⟨t0,t1,t2⟩,hx⟩:∃x:ByteArray×Int×Int,w[i]? =some x:=⟨w[i]'(by omega),List.getElem?_eq_getElem (by omega)⟩
        have htn:=(hgf.w.ok _ (List.mem_of_getElem? hx)).1
        simp only [] at htn
        have htz:=tn_size htn
        obtain ⟨hcb1,hcb2,hcv⟩:=fill_cnt hM htn
        refine v_skip ?_;refine n38 _ _ (weak_keep [5,7,8,9,25,26,27,28,29,30,269,270,271] _) ?_;refine zk ⟨?_⟩;refine v_seq ?_;intro Q40 n40 e40 r40;refine v_block ?_;intro Q41 n41 x41 e41 r41;refine v_seqR [5,7,8,9,25,26,27,28,29,30,46,269,270,271] ?_;intro K42 k42
        have F:=Fc.mk (fun f=>getD_map (f:=f) hx)
        refine zq23 ⟨?_⟩;refine k42 _ ?_;refine zk ⟨?_⟩
        apply v_seq1
        ·intro Q43 n43 e43 r43
         refine v_draw (by kernel_rfl) ?_;intro K44 q44 k44
         show aAny _ _ _ _ 12 (Array.replicate 12 false) _
         refine zdLoadX q44 true 0 276 ?_;refine zdMove q44 true 2 278 ?_;refine zdFieldAddr q44 false 4 280 ?_;refine aAny_two 1 5 rfl rfl (by kernel_rfl) ?_ ?_
         ·refine zsBuildSlice ⟨?_⟩
          refine aAny_two 3 5 rfl rfl (by kernel_rfl) ?_ ?_
          ·refine zsAppend ⟨?_⟩
           refine zdLoadX q44 true 5 281 ?_;refine zoc 6 (specCount_con ((xa,xl)::rest) (by rw [List.length_cons];omega) hK1 t0 (by omega)) ⟨?_⟩;refine zdMove q44 true 7 275 ?_;refine zdExtract q44 true 8 283 ?_;refine zdExtract q44 true 9 284 ?_;refine zoAssign 10 ⟨?_⟩;refine zoAssign 11 ⟨?_⟩;refine aAny_done (by kernel_rfl) ?_;refine k44 _ ?_;refine n43 _ ?_
           exact weak_one [5,7,8,9,25,26,27,28,29,30,46,47,48,269,270,271] [0,1,2,3,4,5,6,7,8,9,10,11]
          ·intro K k
           skip
           simp only [zE,zL,zO,zN,aStepM,optable,set_some,Nat.reduceEqDiff,reduceIte,Nat.reduceLT,implies_true,forall_const,reduceCtorEq,V.ofValue,V.ofScalar,V.un,V.gd,aExec,aop,aLoad,row_mk,Blk.row,PartOK,Go.Vm.part,V.cells,V.noSl,V.noRef,Nat.reduceAdd,Nat.reduceLeDiff,Nat.reduceMul,Tryd.underlying9,Ty.c9,Ty.a9,getD_map hx]
           repeat (refine And.intro (by first | omega | (intros;omega) | (intros;simp_all;done) | (intros;simp_all;omega)) ?_)
           refine k _ ?_;clear k K;refine zoAppend 3 ⟨?_⟩;refine zoc 6 (specCount_con ((xa,xl)::rest) (by rw [List.length_cons];omega) hK1 t0 (by omega)) ⟨?_⟩;refine zdMove q44 true 7 275 ?_;refine zdExtract q44 true 8 283 ?_;refine zdExtract q44 true 9 284 ?_;refine zoAssign 10 ⟨?_⟩;refine zoAssign 11 ⟨?_⟩;refine aAny_done (by kernel_rfl) ?_;refine k44 _ ?_;refine n43 _ ?_
           exact weak_same [5,7,8,9,25,26,27,28,29,30,46,47,48,269,270,271] [0,1,2,3,4,5,6,7,8,9,10,11]
         ·intro K k
          skip
          simp only [zE,zL,zO,zN,aStepM,optable,set_some,Nat.reduceEqDiff,reduceIte,Nat.reduceLT,implies_true,forall_const,reduceCtorEq,V.ofValue,V.ofScalar,V.un,V.gd,aExec,aop,aLoad,row_mk,Blk.row,PartOK,Go.Vm.part,V.cells,V.noSl,V.noRef,Nat.reduceAdd,Nat.reduceLeDiff,Nat.reduceMul,Tryd.underlying9,Ty.c9,Ty.a9,getD_map hx]
          repeat (refine And.intro (by first | omega | (intros;omega) | (intros;simp_all;done) | (intros;simp_all;omega)) ?_)
          refine k _ ?_;clear k K;refine zoBuildSlice 1 ⟨?_⟩;refine zoAppend 3 ⟨?_⟩;refine zoc 6 (specCount_con ((xa,xl)::rest) (by rw [List.length_cons];omega) hK1 t0 (by omega)) ⟨?_⟩;refine zdMove q44 true 7 275 ?_;refine zdExtract q44 true 8 283 ?_;refine zdExtract q44 true 9 284 ?_;refine zoAssign 10 ⟨?_⟩;refine zoAssign 11 ⟨?_⟩;refine aAny_done (by kernel_rfl) ?_;refine k44 _ ?_;refine n43 _ ?_
          exact weak_same [5,7,8,9,25,26,27,28,29,30,46,47,48,269,270,271] [0,1,2,3,4,5,6,7,8,9,10,11]
        ·refine zkm ⟨?_⟩
         apply v_seq1
         ·intro Q45 n45 e45 r45
          refine v_draw (by kernel_rfl) ?_;intro K46 q46 k46
          show aAny _ _ _ _ 12 (Array.replicate 12 false) _
          have F:=Fc.mk (fun f=>getD_map (f:=f) hx)
          refine zdLoadX q46 true 0 286 ?_;refine zdMove q46 true 2 288 ?_;refine zdFieldAddr q46 false 4 290 ?_;refine aAny_two 1 5 rfl rfl (by kernel_rfl) ?_ ?_
          ·refine zsBuildSlice ⟨?_⟩
           refine aAny_two 3 5 rfl rfl (by kernel_rfl) ?_ ?_
           ·refine zsAppend ⟨?_⟩
            refine zdLoadX q46 true 5 291 ?_;refine zoc 6 (implCount_con ((xa,(fillX xl w rest))::(fillR xl w rest)) (by rw [List.length_cons];omega) hK2 t0 (by omega)) ⟨?_⟩;refine zdMove q46 true 7 285 ?_;refine zdExtract q46 true 8 293 ?_;refine zdExtract q46 true 9 294 ?_;refine zoAssign 10 ⟨?_⟩;refine zoAssign 11 ⟨?_⟩;refine aAny_done (by kernel_rfl) ?_;refine k46 _ ?_;refine n45 _ ?_
            exact weak_one [5,7,8,9,25,26,27,28,29,30,47,48,49,50,269,270,271] [0,1,2,3,4,5,6,7,8,9,10,11,12,13]
           ·intro K k
            skip
            simp only [zE,zL,zO,zN,aStepM,optable,set_some,Nat.reduceEqDiff,reduceIte,Nat.reduceLT,implies_true,forall_const,reduceCtorEq,V.ofValue,V.ofScalar,V.un,V.gd,aExec,aop,aLoad,row_mk,Blk.row,PartOK,Go.Vm.part,V.cells,V.noSl,V.noRef,Nat.reduceAdd,Nat.reduceLeDiff,Nat.reduceMul,Tryd.underlying9,Ty.c9,Ty.a9,getD_map hx]
            repeat (refine And.intro (by first | omega | (intros;omega) | (intros;simp_all;done) | (intros;simp_all;omega)) ?_)
            refine k _ ?_;clear k K;refine zoAppend 3 ⟨?_⟩;refine zoc 6 (implCount_con ((xa,(fillX xl w rest))::(fillR xl w rest)) (by rw [List.length_cons];omega) hK2 t0 (by omega)) ⟨?_⟩;refine zdMove q46 true 7 285 ?_;refine zdExtract q46 true 8 293 ?_;refine zdExtract q46 true 9 294 ?_;refine zoAssign 10 ⟨?_⟩;refine zoAssign 11 ⟨?_⟩;refine aAny_done (by kernel_rfl) ?_;refine k46 _ ?_;refine n45 _ ?_
            exact weak_same [5,7,8,9,25,26,27,28,29,30,47,48,49,50,269,270,271] [0,1,2,3,4,5,6,7,8,9,10,11,12,13]
          ·intro K k
           skip
           simp only [zE,zL,zO,zN,aStepM,optable,set_some,Nat.reduceEqDiff,reduceIte,Nat.reduceLT,implies_true,forall_const,reduceCtorEq,V.ofValue,V.ofScalar,V.un,V.gd,aExec,aop,aLoad,row_mk,Blk.row,PartOK,Go.Vm.part,V.cells,V.noSl,V.noRef,Nat.reduceAdd,Nat.reduceLeDiff,Nat.reduceMul,Tryd.underlying9,Ty.c9,Ty.a9,getD_map hx]
           repeat (refine And.intro (by first | omega | (intros;omega) | (intros;simp_all;done) | (intros;simp_all;omega)) ?_)
           refine k _ ?_;clear k K;refine zoBuildSlice 1 ⟨?_⟩;refine zoAppend 3 ⟨?_⟩;refine zoc 6 (implCount_con ((xa,(fillX xl w rest))::(fillR xl w rest)) (by rw [List.length_cons];omega) hK2 t0 (by omega)) ⟨?_⟩;refine zdMove q46 true 7 285 ?_;refine zdExtract q46 true 8 293 ?_;refine zdExtract q46 true 9 294 ?_;refine zoAssign 10 ⟨?_⟩;refine zoAssign 11 ⟨?_⟩;refine aAny_done (by kernel_rfl) ?_;refine k46 _ ?_;refine n45 _ ?_
           exact weak_same [5,7,8,9,25,26,27,28,29,30,47,48,49,50,269,270,271] [0,1,2,3,4,5,6,7,8,9,10,11,12,13]
         ·refine zkm ⟨?_⟩
          refine v_seqR [5,7,8,9,25,26,27,28,29,30,269,270,271,305] ?_;intro K47 k47
          have F:=Fc.mk (fun f=>getD_map (f:=f) hx)
          refine zMove ⟨?_⟩;refine zq18 ⟨?_⟩;refine zq12 ⟨?_⟩;refine zq30 ⟨?_⟩;refine k47 _ ?_;refine zk ⟨?_⟩;refine v_cond _ rfl ?_ ?_
          ·intro hc5
           exfalso;simp [hcb1,hcb2,hcv] at hc5
          ·intro hc5
           try simp only [zC,reduceCtorEq] at hc5
           refine v_skip ?_;refine n41 _ ?_;refine n40 _ _ (weak_keep [5,7,8,9,25,26,27,28,29,30,269,270,271] _) ?_;refine zk ⟨?_⟩;refine v_region ?_;intro K49 k49;refine zq6 ⟨?_⟩;refine k49 _ ?_;refine n36 _ (i+1) ?_ ?_ ?_
           ·refine weak_bothN [5,7,8,9,25,26,27,28,29,30,269,270,271] [0,1,2,3,4,5,6,7,8] ⟨?_⟩
            rfl
           ·exact hlt
           ·show _ < _;omega
       ·intro hc4
        refine v_exit ?_;refine e38 _ _ ?_;refine e36 _ _ ?_;refine x35 _ ?_;refine n26 () _ ?_ ?_
        ·exact True.intro
        ·exact weak_same [25,26,27,28,29,30] [3,4,5,6,7,8]
    ·intro hc2
     refine v_skip ?_;refine n26 () _ ?_ ?_
     ·exact True.intro
     ·exact weak_same [25,26,27,28,29,30] [18,20,21,23,24,26]
   ·rintro ⟨⟩ hok26
    have _hu:True:=hok26
    refine v_seq ?_;intro Q50 n50 e50 r50;refine v_seqR [25,26,27,28,30,307] ?_;intro K51 k51
    have F:=Fc.mk True.intro
    refine zMove ⟨?_⟩;refine k51 _ ?_;refine zk ⟨?_⟩;refine v_condS _ rfl ?_ ?_
    ·intro hc6
     have hZ:=hc6
     simp only [hZ,orS,if_true,orN_t]
     obtain ⟨hzd1,hzd2,hzd3,hzd4,hzd5,hZs⟩:=chk_law hZ
     have hDl:=dueL_len (chkL zl zs zd) zd 1
     have hDo:(orN (dueB za (chkL zl zs zd) zd 1) (dueL (chkL zl zs zd) zd 1)).length≤12:=orN_len (by omega)
     refine v_seqR [25,26,27,30,51,52] ?_;intro K53 k53;refine zLoad ⟨?_⟩;refine zMove ⟨?_⟩;refine zc (implDue_con za (chkL zl zs zd) zd 1 (by omega) (by omega) hZs) ⟨?_⟩;refine zq16 ⟨?_⟩;refine k53 _ ?_;refine zk ⟨?_⟩;refine v_seqR [25,26,30,51,52,53,54] ?_;intro K54 k54;refine zLoad ⟨?_⟩;refine zMove ⟨?_⟩;refine zc (specDue_con za (chkL zl zs zd) zd 1 (by omega) (by omega) hZs) ⟨?_⟩;refine zq16 ⟨?_⟩;refine k54 _ ?_;refine zk ⟨?_⟩;refine v_seqR [345] ?_;intro K55 k55;refine zMove ⟨?_⟩;refine zq18 ⟨?_⟩;refine zq12 ⟨?_⟩;refine zq15 ⟨?_⟩;refine zgc (qTexts_con (orN (dueB za (chkL zl zs zd) zd 1) (dueL (chkL zl zs zd) zd 1)) (by omega)) ⟨?_⟩;refine zq12 ⟨?_⟩;refine zq15 ⟨?_⟩;refine zgc (qSay_con (orN (dueB za (chkL zl zs zd) zd 1) (dueL (chkL zl zs zd) zd 1)) zs (by omega)) ⟨?_⟩;refine zPick ⟨?_⟩;refine zMove ⟨?_⟩;refine zq22 ⟨?_⟩;refine zgLen ⟨?_⟩;refine zq22 ⟨?_⟩;refine zq40 ⟨?_⟩;refine k55 _ ?_;refine zk ⟨?_⟩;refine v_cond _ rfl ?_ ?_
     ·intro hc7
      exfalso;simp [hzd1,hzd2,hzd3,orN] at hc7
     ·intro hc7
      try simp only [zC,reduceCtorEq] at hc7
      refine v_skip ?_;refine n50 _ _ (weak_keep [] _) ?_;refine zk ⟨?_⟩;refine v_seqR [4] ?_;intro K57 k57;refine zAssign ⟨?_⟩;refine k57 _ ?_;refine zk ⟨?_⟩;refine v_ret ?_;refine r0 _ ?_;refine zf ⟨?_⟩
      exact ret_pure rfl rfl (.inl rfl)
    ·intro hc6
     refine v_skip ?_;refine n50 _ _ (weak_keep [] _) ?_;refine zk ⟨?_⟩;refine v_seqR [4] ?_;intro K58 k58;refine zAssign ⟨?_⟩;refine k58 _ ?_;refine zk ⟨?_⟩;refine v_ret ?_;refine r0 _ ?_;refine zf ⟨?_⟩
     exact ret_pure rfl rfl (.inl rfl)
end Go.Proofs.YtbameklegpgkfaaDoor
