/- What functions compute. No condition. -/
import Derived.Test.YtcdpeopiajgljaaGreatDoorUz
import Derived.Test.YtcdpeopiajgljaaGreatDoorUty
import Derived.Test.YtcdpeopiajgljaaGreatDoorUmG
set_option linter.unusedSimpArgs false
set_option linter.unusedVariables false
set_option linter.defProp false
namespace Go.Proofs.YtcdpeopiajgljaaGreatDoor
open Go Go.Vm
set_option maxHeartbeats 8000000
theorem and255 (a:Int):0≤IntKind.i64.wrap (IntKind.u64.wrap ((BitVec.ofInt IntKind.u64.bits a &&& BitVec.ofInt IntKind.u64.bits 255).toNat:Int))∧IntKind.i64.wrap (IntKind.u64.wrap ((BitVec.ofInt IntKind.u64.bits a &&& BitVec.ofInt IntKind.u64.bits 255).toNat:Int))≤255:=by
  have h:(BitVec.ofInt IntKind.u64.bits a &&& BitVec.ofInt IntKind.u64.bits 255).toNat≤255:=by
    rw [BitVec.toNat_and]
    exact Nat.le_trans Nat.and_le_right (by decide)
  generalize (BitVec.ofInt IntKind.u64.bits a &&& BitVec.ofInt IntKind.u64.bits 255).toNat=n at h
  have e:IntKind.u64.wrap (n:Int)=n:=by
    simp only [IntKind.wrap,IntKind.bits,IntKind.signed]
    simp
    omega
  rw [e,wrap64 (by omega) (by omega)]
  omega
theorem tmod_in {x m:Int} (hx:0≤x) (hm:1 < m):0≤x.tmod m∧x.tmod m < m:=⟨Int.tmod_nonneg m hx,Int.tmod_lt_of_pos x (by omega)⟩
theorem next_con (code:List Int) (a s:Int) (hcode:∀x∈code,0≤x∧x≤255) (hcl:code.length≤9223372036854775807) (ha:0≤a∧a < 20000000000):ConX Tryz.prog 60 [.ptr 0 0 0] [.box (.agg [.sl (code.map (V.int .u8)),.int .i64 a,.int .u64 s]) .shal] (fun r O'=>∃(v:Int) (a' s':Int),(0≤v∧v≤255)∧(a≤a'∧a'≤a+1)∧r=.int .i64 v∧O'=[.box (.agg [.sl (code.map (V.int .u8)),.int .i64 a',.int .u64 s']) .shal]):=by
 refine v_conX [.tmp 2] [] Tryz.func60 rfl rfl rfl (by simp [Tryz.ntmps60]) ?_
 intro Q0 n0 r0
 simp only [Tryz.ntmps60,envFrom,Nat.reduceAdd]
 have T:=Tys.mk (ai Ty.t3 (ai Ty.t5 (ai Ty.t22 (ai Ty.t52 (ai Ty.t54 Ty.t83)))))
 have F:=Fc.mk True.intro
 refine yR [0] ⟨?_⟩;refine yR [0,3] ⟨?_⟩;refine v_seq ?_;intro Q3 n3 e3 r3;refine v_seq ?_;intro Q4 n4 e4 r4;refine v_draw (by kernel_rfl) ?_;intro K5 q5 k5
 show aAny _ _ _ _ 10 (Array.replicate 10 false) _
 refine zdMove q5 true 0 4 ?_;refine zdNilCheck q5 true 1 5 ?_;refine zdFieldAddr q5 true 2 6 ?_;refine zdLoad q5 true 3 7 ?_;refine zdMove q5 true 4 8 ?_;refine zdNilCheck q5 true 5 9 ?_;refine zdFieldAddr q5 true 6 10 ?_;refine zdLoad q5 true 7 11 ?_;refine zdLen q5 true 8 12 ?_;refine zdBinOp q5 true 9 13 ?_;refine aAny_done (by kernel_rfl) ?_;refine k5 _ ?_;refine n4 _ _ (weak_keep [0,3,13] _) ?_;refine zk ⟨?_⟩;refine v_condS _ rfl ?_ ?_
 ·intro hc0
  have hlt:a.toNat < code.length:=by omega
  obtain ⟨x,hx⟩:∃x,code[a.toNat]? =some x:=⟨code[a.toNat],List.getElem?_eq_getElem hlt⟩
  have hxb:=hcode x (List.mem_of_getElem? hx)
  have hxw:IntKind.i64.wrap x=x:=wrap64 (by omega) (by omega)
  refine v_draw (by kernel_rfl) ?_;intro K7 q7 k7
  show aAny _ _ _ _ 12 (Array.replicate 12 false) _
  have F:=Fc.mk (ai (gdm hx) hxw)
  refine zdMove q7 true 0 14 ?_;refine zdNilCheck q7 true 1 15 ?_;refine zdFieldAddr q7 true 2 16 ?_;refine zdLoad q7 true 3 17 ?_;refine zdMove q7 true 4 18 ?_;refine zdNilCheck q7 true 5 19 ?_;refine zdFieldAddr q7 true 6 20 ?_;refine zdLoad q7 true 7 21 ?_;refine zdIndexAddr q7 true 8 22 ?_;refine zdLoad q7 true 9 23 ?_;refine zdConvert q7 true 10 24 ?_;refine zoAssign 11 ⟨?_⟩;refine aAny_done (by kernel_rfl) ?_;refine k7 _ ?_;refine n3 _ _ (weak_keep [0,3] _) ?_;refine zk ⟨?_⟩;refine yR [0,3] ⟨?_⟩;refine yR [0,3] ⟨?_⟩;refine v_seq ?_;intros;refine v_seq ?_;intro Q11 n11 e11 r11;refine v_draw (by kernel_rfl) ?_;intro K12 q12 k12
  show aAny _ _ _ _ 10 (Array.replicate 10 false) _
  refine zdMove q12 true 0 44 ?_;refine zdNilCheck q12 true 1 45 ?_;refine zdFieldAddr q12 true 2 46 ?_;refine zdLoad q12 true 3 47 ?_;refine zdMove q12 true 4 48 ?_;refine zdNilCheck q12 true 5 49 ?_;refine zdFieldAddr q12 true 6 50 ?_;refine zdLoad q12 true 7 51 ?_;refine zdLen q12 true 8 52 ?_;refine zdBinOp q12 true 9 53 ?_;refine aAny_done (by kernel_rfl) ?_;refine k12 _ ?_;refine n11 _ _ (weak_keep [0,3,53] _) ?_;refine zk ⟨?_⟩;refine v_condS _ rfl ?_ ?_
  ·intro hc1
   refine yR [2] ⟨?_⟩;refine zr ⟨?_⟩;refine ret_viewX ?_
   exact ⟨_,_,_,by omega,by omega,rfl,rfl⟩
  ·intro hc1
   refine zn [0] ⟨?_⟩;refine yR [2] ⟨?_⟩;refine zr ⟨?_⟩;refine ret_viewX ?_
   exact ⟨_,_,_,and255 _,by omega,rfl,rfl⟩
 ·intro hc0
  refine zn [0,3] ⟨?_⟩;refine yR [0,3] ⟨?_⟩;refine yR [0,3] ⟨?_⟩;refine v_seq ?_;intros;refine v_seq ?_;intro Q19 n19 e19 r19;refine v_draw (by kernel_rfl) ?_;intro K20 q20 k20
  show aAny _ _ _ _ 10 (Array.replicate 10 false) _
  refine zdMove q20 true 0 44 ?_;refine zdNilCheck q20 true 1 45 ?_;refine zdFieldAddr q20 true 2 46 ?_;refine zdLoad q20 true 3 47 ?_;refine zdMove q20 true 4 48 ?_;refine zdNilCheck q20 true 5 49 ?_;refine zdFieldAddr q20 true 6 50 ?_;refine zdLoad q20 true 7 51 ?_;refine zdLen q20 true 8 52 ?_;refine zdBinOp q20 true 9 53 ?_;refine aAny_done (by kernel_rfl) ?_;refine k20 _ ?_;refine n19 _ _ (weak_keep [0,3,53] _) ?_;refine zk ⟨?_⟩;refine v_condS _ rfl ?_ ?_
  ·intro hc2
   refine yR [2] ⟨?_⟩;refine zr ⟨?_⟩;refine ret_viewX ?_
   exact ⟨_,_,_,by omega,by omega,rfl,rfl⟩
  ·intro hc2
   refine zn [0] ⟨?_⟩;refine yR [2] ⟨?_⟩;refine zr ⟨?_⟩;refine ret_viewX ?_
   exact ⟨_,_,_,and255 _,by omega,rfl,rfl⟩
theorem pick_con (code:List Int) (a s:Int) (m:Int) (hcode:∀x∈code,0≤x∧x≤255) (hcl:code.length≤9223372036854775807) (ha:0≤a∧a < 19000000000):ConX Tryz.prog 43 [.ptr 0 0 0,.int .i64 m] [.box (.agg [.sl (code.map (V.int .u8)),.int .i64 a,.int .u64 s]) .shal] (fun r O'=>∃(v:Int) (a' s':Int),(0≤v∧(v < m∨(m≤1∧v=0)))∧(a≤a'∧a'≤a+2)∧r=.int .i64 v∧O'=[.box (.agg [.sl (code.map (V.int .u8)),.int .i64 a',.int .u64 s']) .shal]):=by
 refine v_conX [.tmp 4] [(60,[0])] Tryz.func43 rfl rfl rfl (by simp [Tryz.ntmps43]) ?_
 intro Q0 n0 r0
 simp only [Tryz.ntmps43,envFrom,Nat.reduceAdd]
 have T:=Tys.mk (ai Ty.t3 (ai Ty.t5 (ai Ty.t22 (ai Ty.t51 (ai Ty.t52 Ty.t54)))))
 have F:=Fc.mk True.intro
 refine yR [0,1] ⟨?_⟩;refine v_seq ?_;intros;refine yR [0,1,7] ⟨?_⟩;refine v_condS _ rfl ?_ ?_
 ·intro hc0
  refine yR [4] ⟨?_⟩;refine zr ⟨?_⟩;refine ret_viewX ?_
  exact ⟨0,_,_,by omega,by omega,rfl,rfl⟩
 ·intro hc0
  refine zn [0,1] ⟨?_⟩;refine v_seqR [0,1,5] ?_;intro K6 k6;refine zMove ⟨?_⟩;refine v_op ?_;intro K k
  simp only [zE,zM,aStepM,optable,set_some,Nat.reduceEqDiff,reduceIte,Nat.reduceLT,implies_true,forall_const,reduceCtorEq,V.ofValue,V.ofScalar,V.un,V.gd,aExec,lentIds,lendOf,‹Tys _›.h,‹Fc _›.h]
  repeat (refine andC ?_)
  refine aCall_lentXA (next_con code a s hcode hcl (by omega)) ?_
  rintro _ _ ⟨v9,a9,s9,h9,k9,rfl,rfl⟩
  refine ⟨_,_,rfl,by first | exact .inr (List.all_eq_true.1 rfl) | exact .inl ⟨rfl,by simp [Blk.kindIs,fillK_fd,thK_fd]⟩,?_⟩;refine k _ ?_;clear k K
  simp only [zY,zW,set_some,Nat.reduceEqDiff,reduceIte,rho_one,rho_s,rho2_s,rho2_0,rho2_1,V.ren,V.renL,List.set_cons_zero,List.set_cons_succ,rho,Nat.reduceAdd,Nat.add_zero]
  refine zAssign ⟨?_⟩;refine k6 _ ?_;refine zk ⟨?_⟩;refine v_seq ?_;intro Q7 n7 e7 r7;refine yR [0,1,5,11] ⟨?_⟩;refine v_condS _ rfl ?_ ?_
  ·intro hc1
   refine v_region ?_;intro K10 k10;refine zMove ⟨?_⟩;refine zBinOpW ⟨?_⟩;refine zMove ⟨?_⟩;refine v_op ?_;intro K k
   simp only [zE,zM,aStepM,optable,set_some,Nat.reduceEqDiff,reduceIte,Nat.reduceLT,implies_true,forall_const,reduceCtorEq,V.ofValue,V.ofScalar,V.un,V.gd,aExec,lentIds,lendOf,‹Tys _›.h,‹Fc _›.h]
   repeat (refine andC ?_)
   refine aCall_lentXA (next_con code a9 s9 hcode hcl (by omega)) ?_
   rintro _ _ ⟨v15,a15,s15,h15,k15,rfl,rfl⟩
   refine ⟨_,_,rfl,by first | exact .inr (List.all_eq_true.1 rfl) | exact .inl ⟨rfl,by simp [Blk.kindIs,fillK_fd,thK_fd]⟩,?_⟩;refine k _ ?_;clear k K
   simp only [zY,zW,set_some,Nat.reduceEqDiff,reduceIte,rho_one,rho_s,rho2_s,rho2_0,rho2_1,V.ren,V.renL,List.set_cons_zero,List.set_cons_succ,rho,Nat.reduceAdd,Nat.add_zero]
   refine zBinOpW ⟨?_⟩;refine zAssign ⟨?_⟩;refine k10 _ ?_;refine n7 _ _ (weak_keep [1,5] _) ?_;refine zk ⟨?_⟩;refine yR [4] ⟨?_⟩;refine zr ⟨?_⟩
   have hm1:1 < m:=by omega
   have ht:=tmod_in (x:=v9 * 256+v15) (m:=m) (by omega) hm1
   refine ret_viewX ?_
   exact ⟨_,_,_,by omega,by omega,rfl,rfl⟩
  ·intro hc1
   refine zn [1,5] ⟨?_⟩;refine yR [4] ⟨?_⟩;refine zr ⟨?_⟩
   have hm1:1 < m:=by omega
   have ht:=tmod_in (x:=v9) (m:=m) (by omega) hm1
   refine ret_viewX ?_
   exact ⟨_,_,_,by omega,by omega,rfl,rfl⟩
theorem one_con (code:List Int) (a s:Int) (m:Int) (hcode:∀x∈code,0≤x∧x≤255) (hcl:code.length≤9223372036854775807) (ha:0≤a∧a < 18000000000):ConX Tryz.prog 56 [.ptr 0 0 0,.int .i64 m] [.box (.agg [.sl (code.map (V.int .u8)),.int .i64 a,.int .u64 s]) .shal] (fun r O'=>∃(v:Bool) (a' s':Int),(True)∧(a≤a'∧a'≤a+2)∧r=.bool v∧O'=[.box (.agg [.sl (code.map (V.int .u8)),.int .i64 a',.int .u64 s']) .shal]):=by
 refine v_conX [.tmp 4] [(43,[0])] Tryz.func56 rfl rfl rfl (by simp [Tryz.ntmps56]) ?_
 intro Q0 n0 r0
 simp only [Tryz.ntmps56,envFrom,Nat.reduceAdd]
 have T:=Tys.mk (ai Ty.t3 (ai Ty.t5 (ai Ty.t22 (ai Ty.t51 (ai Ty.t52 Ty.t54)))))
 have F:=Fc.mk True.intro
 refine yR [0,1] ⟨?_⟩;refine v_seqR [4] ?_;intro K2 k2;refine zq2 ⟨?_⟩;refine v_op ?_;intro K k
 simp only [zE,zM,aStepM,optable,set_some,Nat.reduceEqDiff,reduceIte,Nat.reduceLT,implies_true,forall_const,reduceCtorEq,V.ofValue,V.ofScalar,V.un,V.gd,aExec,lentIds,lendOf,‹Tys _›.h,‹Fc _›.h]
 repeat (refine andC ?_)
 refine aCall_lentXA (pick_con code a s (m) hcode hcl (by omega)) ?_
 rintro _ _ ⟨v7,a7,s7,h7,k7,rfl,rfl⟩
 refine ⟨_,_,rfl,by first | exact .inr (List.all_eq_true.1 rfl) | exact .inl ⟨rfl,by simp [Blk.kindIs,fillK_fd,thK_fd]⟩,?_⟩;refine k _ ?_;clear k K
 simp only [zY,zW,set_some,Nat.reduceEqDiff,reduceIte,rho_one,rho_s,rho2_s,rho2_0,rho2_1,V.ren,V.renL,List.set_cons_zero,List.set_cons_succ,rho,Nat.reduceAdd,Nat.add_zero]
 refine zBinOp ⟨?_⟩;refine zAssign ⟨?_⟩;refine k2 _ ?_;refine zq1 ⟨?_⟩;refine ret_viewX ?_
 exact ⟨_,_,_,trivial,by omega,rfl,rfl⟩
theorem among_con (code:List Int) (a s:Int) (l:List Int) (hl:0 < l.length∧l.length≤1048576) (hcode:∀x∈code,0≤x∧x≤255) (hcl:code.length≤9223372036854775807) (ha:0≤a∧a < 18000000000):ConX Tryz.prog 29 [.ptr 0 0 0,.ref 1] [.box (.agg [.sl (code.map (V.int .u8)),.int .i64 a,.int .u64 s]) .shal,.arr (l.map (V.int .i64)) .flat] (fun r O'=>∃(v:Int) (a' s':Int),(v∈l)∧(a≤a'∧a'≤a+2)∧r=.int .i64 v∧O'=[.box (.agg [.sl (code.map (V.int .u8)),.int .i64 a',.int .u64 s']) .shal,.arr (l.map (V.int .i64)) .flat]):=by
 refine v_conX [.tmp 4] [(43,[0])] Tryz.func29 rfl rfl rfl (by simp [Tryz.ntmps29]) ?_
 intro Q0 n0 r0
 simp only [Tryz.ntmps29,envFrom,Nat.reduceAdd]
 have T:=Tys.mk (ai Ty.t3 (ai Ty.t5 (ai Ty.t22 (ai Ty.t35 (ai Ty.t51 (ai Ty.t52 Ty.t54))))))
 have F:=Fc.mk True.intro
 refine yR [0,1] ⟨?_⟩;refine v_seqR [4] ?_;intro K2 k2;refine zq2 ⟨?_⟩;refine zMove ⟨?_⟩;refine zLen ⟨?_⟩;refine v_op ?_;intro K k
 simp only [zE,zM,aStepM,optable,set_some,Nat.reduceEqDiff,reduceIte,Nat.reduceLT,implies_true,forall_const,reduceCtorEq,V.ofValue,V.ofScalar,V.un,V.gd,aExec,lentIds,lendOf,‹Tys _›.h,‹Fc _›.h]
 repeat (refine andC ?_)
 refine aCall_lentXA (pick_con code a s ((l.length:Int)) hcode hcl (by omega)) ?_
 rintro _ _ ⟨v9,a9,s9,h9,k9,rfl,rfl⟩
 obtain ⟨x,hx⟩:∃x,l[v9.toNat]? =some x:=⟨l[v9.toNat]'(by omega),List.getElem?_eq_getElem (by omega)⟩
 refine ⟨_,_,rfl,by first | exact .inr (List.all_eq_true.1 rfl) | exact .inl ⟨rfl,by simp [Blk.kindIs,fillK_fd,thK_fd]⟩,?_⟩;refine k _ ?_;clear k K
 simp only [zY,zW,set_some,Nat.reduceEqDiff,reduceIte,rho_one,rho_s,rho2_s,rho2_0,rho2_1,V.ren,V.renL,List.set_cons_zero,List.set_cons_succ,rho,Nat.reduceAdd,Nat.add_zero]
 have F:=Fc.mk (gdm hx)
 refine zIndexAddr ⟨?_⟩;refine zLoad ⟨?_⟩;refine zAssign ⟨?_⟩;refine k2 _ ?_;refine zq1 ⟨?_⟩;refine ret_viewX ?_
 exact ⟨_,_,_,List.mem_of_getElem? hx,by omega,rfl,rfl⟩
theorem u8_all {c:List Int} (h:∀a∈c,(Lit.int .u8 a).wf=true):∀x∈c,0≤x∧x≤255:=by
  intro x hx
  have:=h x hx
  simp [Lit.wf,IntKind.min,IntKind.max,IntKind.signed,IntKind.bits] at this
  omega
end Go.Proofs.YtcdpeopiajgljaaGreatDoor
