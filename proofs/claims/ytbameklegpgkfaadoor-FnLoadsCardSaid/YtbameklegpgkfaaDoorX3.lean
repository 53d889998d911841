/- What functions compute. No condition. -/
import Derived.Test.YtbameklegpgkfaaDoorUz
import Derived.Test.YtbameklegpgkfaaDoorUty
import Derived.Test.YtbameklegpgkfaaDoorUmG
import Derived.Test.YtbameklegpgkfaaDoorShelf
import Derived.Test.YtbameklegpgkfaaDoorX1
set_option linter.unusedSimpArgs false
set_option linter.unusedVariables false
set_option linter.defProp false
namespace Go.Proofs.YtbameklegpgkfaaDoor
open Go Go.Vm
theorem and255 (a:Int):0≤IntKind.i64.wrap (IntKind.u64.wrap ((BitVec.ofInt IntKind.u64.bits a &&& BitVec.ofInt IntKind.u64.bits 255).toNat:Int))∧IntKind.i64.wrap (IntKind.u64.wrap ((BitVec.ofInt IntKind.u64.bits a &&& BitVec.ofInt IntKind.u64.bits 255).toNat:Int))≤255:=by
  have h:(BitVec.ofInt IntKind.u64.bits a &&& BitVec.ofInt IntKind.u64.bits 255).toNat≤255:=by
    rw [BitVec.toNat_and]
    exact Nat.le_trans Nat.and_le_right (by decide)
  generalize (BitVec.ofInt IntKind.u64.bits a &&& BitVec.ofInt IntKind.u64.bits 255).toNat=n at h
  have e:IntKind.u64.wrap (n:Int)=n:=by
    simp only [IntKind.wrap,IntKind.bits,IntKind.signed]
    simp
    omega
  rw [e,wrap64 (by omega) (by omega)]
  omega
theorem tmod_in {x m:Int} (hx:0≤x) (hm:1 < m):0≤x.tmod m∧x.tmod m < m:=⟨Int.tmod_nonneg m hx,Int.tmod_lt_of_pos x (by omega)⟩
set_option maxHeartbeats 1000000 in
theorem next_con (code:List Int) (a s:Int) (hcode:∀x∈code,0≤x∧x≤255) (hcl:code.length≤9223372036854775807) (ha:0≤a∧a < 20000000000):ConX Tryd.prog 147 [.ptr 0 0 0] [.box (.agg [.sl (code.map (V.int .u8)),.int .i64 a,.int .u64 s]) .shal] (fun r O'=>∃(v:Int) (a' s':Int),(0≤v∧v≤255)∧(a≤a'∧a'≤a+1)∧r=.int .i64 v∧O'=[.box (.agg [.sl (code.map (V.int .u8)),.int .i64 a',.int .u64 s']) .shal]):=by
 refine v_conX [.tmp 2] [] Tryd.func147 rfl rfl rfl (by simp [Tryd.ntmps147]) ?_
 intro Q0 n0 r0
 simp only [Tryd.ntmps147,envFrom,Nat.reduceAdd]
 have T:=Tys.mk (And.intro Ty.t3 (And.intro Ty.t5 (And.intro Ty.t22 (And.intro Ty.t96 (And.intro Ty.t98 Ty.t141)))))
 have F:=Fc.mk True.intro
 refine v_seqR [0] ?_;intro K1 k1;refine zAssign ⟨?_⟩;refine k1 _ ?_;refine zk ⟨?_⟩;refine v_seqR [0,3] ?_;intro K2 k2;refine zAssign ⟨?_⟩;refine k2 _ ?_;refine zk ⟨?_⟩;refine v_seq ?_;intro Q3 n3 e3 r3;refine v_seq ?_;intro Q4 n4 e4 r4;refine v_draw (by kernel_rfl) ?_;intro K5 q5 k5
 show aAny _ _ _ _ 10 (Array.replicate 10 false) _
 refine zdMove q5 true 0 4 ?_;refine zdNilCheck q5 true 1 5 ?_;refine zdFieldAddr q5 true 2 6 ?_;refine zdLoad q5 true 3 7 ?_;refine zdMove q5 true 4 8 ?_;refine zdNilCheck q5 true 5 9 ?_;refine zdFieldAddr q5 true 6 10 ?_;refine zdLoad q5 true 7 11 ?_;refine zdLen q5 true 8 12 ?_;refine zdBinOp q5 true 9 13 ?_;refine aAny_done (by kernel_rfl) ?_;refine k5 _ ?_;refine n4 _ _ (weak_keep [0,3,13] _) ?_;refine zk ⟨?_⟩;refine v_condS _ rfl ?_ ?_
 ·intro hc0
  have hlt:a.toNat < code.length:=by omega
  obtain ⟨x,hx⟩:∃x,code[a.toNat]? =some x:=⟨code[a.toNat],List.getElem?_eq_getElem hlt⟩
  have hxb:=hcode x (List.mem_of_getElem? hx)
  have hxw:IntKind.i64.wrap x=x:=wrap64 (by omega) (by omega)
  refine v_draw (by kernel_rfl) ?_;intro K7 q7 k7
  show aAny _ _ _ _ 12 (Array.replicate 12 false) _
  have F:=Fc.mk (And.intro (fun f=>getD_map (f:=f) hx) hxw)
  refine zdMove q7 true 0 14 ?_;refine zdNilCheck q7 true 1 15 ?_;refine zdFieldAddr q7 true 2 16 ?_;refine zdLoad q7 true 3 17 ?_;refine zdMove q7 true 4 18 ?_;refine zdNilCheck q7 true 5 19 ?_;refine zdFieldAddr q7 true 6 20 ?_;refine zdLoad q7 true 7 21 ?_;refine zdIndexAddr q7 true 8 22 ?_;refine zdLoad q7 true 9 23 ?_;refine zdConvert q7 true 10 24 ?_;refine zoAssign 11 ⟨?_⟩;refine aAny_done (by kernel_rfl) ?_;refine k7 _ ?_;refine n3 _ _ (weak_keep [0,3] _) ?_;refine zk ⟨?_⟩;refine v_seqR [0,3] ?_;intro K8 k8;refine zMove ⟨?_⟩;refine zNilCheck ⟨?_⟩;refine zq2 ⟨?_⟩;refine zBinOpW ⟨?_⟩;refine zNilCheck ⟨?_⟩;refine zq24 ⟨?_⟩;refine k8 _ ?_;refine zk ⟨?_⟩;refine v_seqR [0,3] ?_;intro K9 k9;refine zq3 ⟨?_⟩;refine zNilCheck ⟨?_⟩;refine zq2 ⟨?_⟩;refine zq6 ⟨?_⟩;refine zConvert ⟨?_⟩;refine zBinOpW ⟨?_⟩;refine zBinOpW ⟨?_⟩;refine zNilCheck ⟨?_⟩;refine zq24 ⟨?_⟩;refine k9 _ ?_;refine zk ⟨?_⟩;refine v_seq ?_;intro Q10 n10 e10 r10;refine v_seq ?_;intro Q11 n11 e11 r11;refine v_draw (by kernel_rfl) ?_;intro K12 q12 k12
  show aAny _ _ _ _ 10 (Array.replicate 10 false) _
  refine zdMove q12 true 0 44 ?_;refine zdNilCheck q12 true 1 45 ?_;refine zdFieldAddr q12 true 2 46 ?_;refine zdLoad q12 true 3 47 ?_;refine zdMove q12 true 4 48 ?_;refine zdNilCheck q12 true 5 49 ?_;refine zdFieldAddr q12 true 6 50 ?_;refine zdLoad q12 true 7 51 ?_;refine zdLen q12 true 8 52 ?_;refine zdBinOp q12 true 9 53 ?_;refine aAny_done (by kernel_rfl) ?_;refine k12 _ ?_;refine n11 _ _ (weak_keep [0,3,53] _) ?_;refine zk ⟨?_⟩;refine v_condS _ rfl ?_ ?_
  ·intro hc1
   refine v_seqR [2] ?_;intro K14 k14;refine zq19 ⟨?_⟩;refine k14 _ ?_;refine zk ⟨?_⟩;refine v_ret ?_;refine r10 _ ?_;refine r0 _ ?_;refine zf ⟨?_⟩;refine ret_viewX ?_
   exact ⟨_,_,_,by omega,by omega,rfl,rfl⟩
  ·intro hc1
   refine v_skip ?_;refine n10 _ _ (weak_keep [0] _) ?_;refine zk ⟨?_⟩;refine v_seqR [2] ?_;intro K15 k15;refine zMove ⟨?_⟩;refine zNilCheck ⟨?_⟩;refine zq49 ⟨?_⟩;refine zBinOp ⟨?_⟩;refine zConvert ⟨?_⟩;refine zAssign ⟨?_⟩;refine k15 _ ?_;refine zk ⟨?_⟩;refine v_ret ?_;refine r0 _ ?_;refine zf ⟨?_⟩;refine ret_viewX ?_
   exact ⟨_,_,_,and255 _,by omega,rfl,rfl⟩
 ·intro hc0
  refine v_skip ?_;refine n3 _ _ (weak_keep [0,3] _) ?_;refine zk ⟨?_⟩;refine v_seqR [0,3] ?_;intro K16 k16;refine zMove ⟨?_⟩;refine zNilCheck ⟨?_⟩;refine zq2 ⟨?_⟩;refine zBinOpW ⟨?_⟩;refine zNilCheck ⟨?_⟩;refine zq24 ⟨?_⟩;refine k16 _ ?_;refine zk ⟨?_⟩;refine v_seqR [0,3] ?_;intro K17 k17;refine zq3 ⟨?_⟩;refine zNilCheck ⟨?_⟩;refine zq2 ⟨?_⟩;refine zq6 ⟨?_⟩;refine zConvert ⟨?_⟩;refine zBinOpW ⟨?_⟩;refine zBinOpW ⟨?_⟩;refine zNilCheck ⟨?_⟩;refine zq24 ⟨?_⟩;refine k17 _ ?_;refine zk ⟨?_⟩;refine v_seq ?_;intro Q18 n18 e18 r18;refine v_seq ?_;intro Q19 n19 e19 r19;refine v_draw (by kernel_rfl) ?_;intro K20 q20 k20
  show aAny _ _ _ _ 10 (Array.replicate 10 false) _
  refine zdMove q20 true 0 44 ?_;refine zdNilCheck q20 true 1 45 ?_;refine zdFieldAddr q20 true 2 46 ?_;refine zdLoad q20 true 3 47 ?_;refine zdMove q20 true 4 48 ?_;refine zdNilCheck q20 true 5 49 ?_;refine zdFieldAddr q20 true 6 50 ?_;refine zdLoad q20 true 7 51 ?_;refine zdLen q20 true 8 52 ?_;refine zdBinOp q20 true 9 53 ?_;refine aAny_done (by kernel_rfl) ?_;refine k20 _ ?_;refine n19 _ _ (weak_keep [0,3,53] _) ?_;refine zk ⟨?_⟩;refine v_condS _ rfl ?_ ?_
  ·intro hc2
   refine v_seqR [2] ?_;intro K22 k22;refine zq19 ⟨?_⟩;refine k22 _ ?_;refine zk ⟨?_⟩;refine v_ret ?_;refine r18 _ ?_;refine r0 _ ?_;refine zf ⟨?_⟩;refine ret_viewX ?_
   exact ⟨_,_,_,by omega,by omega,rfl,rfl⟩
  ·intro hc2
   refine v_skip ?_;refine n18 _ _ (weak_keep [0] _) ?_;refine zk ⟨?_⟩;refine v_seqR [2] ?_;intro K23 k23;refine zMove ⟨?_⟩;refine zNilCheck ⟨?_⟩;refine zq49 ⟨?_⟩;refine zBinOp ⟨?_⟩;refine zConvert ⟨?_⟩;refine zAssign ⟨?_⟩;refine k23 _ ?_;refine zk ⟨?_⟩;refine v_ret ?_;refine r0 _ ?_;refine zf ⟨?_⟩;refine ret_viewX ?_
   exact ⟨_,_,_,and255 _,by omega,rfl,rfl⟩
set_option maxHeartbeats 1000000 in
theorem pick_con (code:List Int) (a s:Int) (m:Int) (hcode:∀x∈code,0≤x∧x≤255) (hcl:code.length≤9223372036854775807) (ha:0≤a∧a < 19000000000):ConX Tryd.prog 73 [.ptr 0 0 0,.int .i64 m] [.box (.agg [.sl (code.map (V.int .u8)),.int .i64 a,.int .u64 s]) .shal] (fun r O'=>∃(v:Int) (a' s':Int),(0≤v∧(v < m∨(m≤1∧v=0)))∧(a≤a'∧a'≤a+2)∧r=.int .i64 v∧O'=[.box (.agg [.sl (code.map (V.int .u8)),.int .i64 a',.int .u64 s']) .shal]):=by
 refine v_conX [.tmp 4] [(147,[0])] Tryd.func73 rfl rfl rfl (by simp [Tryd.ntmps73]) ?_
 intro Q0 n0 r0
 simp only [Tryd.ntmps73,envFrom,Nat.reduceAdd]
 have T:=Tys.mk (And.intro Ty.t3 (And.intro Ty.t5 (And.intro Ty.t22 (And.intro Ty.t95 (And.intro Ty.t96 Ty.t98)))))
 have F:=Fc.mk True.intro
 refine v_seqR [0,1] ?_;intro K1 k1;refine zAssign ⟨?_⟩;refine k1 _ ?_;refine zk ⟨?_⟩;refine v_seq ?_;intro Q2 n2 e2 r2;refine v_seqR [0,1,7] ?_;intro K3 k3;refine zq26 ⟨?_⟩;refine k3 _ ?_;refine zk ⟨?_⟩;refine v_condS _ rfl ?_ ?_
 ·intro hc0
  refine v_seqR [4] ?_;intro K5 k5;refine zAssign ⟨?_⟩;refine k5 _ ?_;refine zk ⟨?_⟩;refine v_ret ?_;refine r2 _ ?_;refine r0 _ ?_;refine zf ⟨?_⟩;refine ret_viewX ?_
  exact ⟨0,_,_,by omega,by omega,rfl,rfl⟩
 ·intro hc0
  refine v_skip ?_;refine n2 _ _ (weak_keep [0,1] _) ?_;refine zk ⟨?_⟩;refine v_seqR [0,1,5] ?_;intro K6 k6;refine zMove ⟨?_⟩;refine v_op ?_;intro K k
  simp only [zE,zM,aStepM,optable,set_some,Nat.reduceEqDiff,reduceIte,Nat.reduceLT,implies_true,forall_const,reduceCtorEq,V.ofValue,V.ofScalar,V.un,V.gd,aExec,lentIds,lendOf,‹Tys _›.h,‹Fc _›.h]
  repeat (refine andC ?_)
  refine aCall_lentXA (next_con code a s hcode hcl (by omega)) ?_
  rintro _ _ ⟨v9,a9,s9,h9,k9,rfl,rfl⟩
  refine ⟨_,_,rfl,by first | exact .inr (List.all_eq_true.1 rfl) | exact .inl ⟨rfl,by simp [Blk.kindIs,fillK_fd]⟩,?_⟩;refine k _ ?_;clear k K
  simp only [zY,zW,set_some,Nat.reduceEqDiff,reduceIte,rho_one,rho_s,rho2_s,rho2_0,rho2_1,V.ren,V.renL,List.set_cons_zero,List.set_cons_succ,rho,Nat.reduceAdd,Nat.add_zero]
  refine zAssign ⟨?_⟩;refine k6 _ ?_;refine zk ⟨?_⟩;refine v_seq ?_;intro Q7 n7 e7 r7;refine v_seqR [0,1,5,11] ?_;intro K8 k8;refine zq26 ⟨?_⟩;refine k8 _ ?_;refine zk ⟨?_⟩;refine v_condS _ rfl ?_ ?_
  ·intro hc1
   refine v_region ?_;intro K10 k10;refine zMove ⟨?_⟩;refine zq6 ⟨?_⟩;refine v_op ?_;intro K k
   simp only [zE,zM,aStepM,optable,set_some,Nat.reduceEqDiff,reduceIte,Nat.reduceLT,implies_true,forall_const,reduceCtorEq,V.ofValue,V.ofScalar,V.un,V.gd,aExec,lentIds,lendOf,‹Tys _›.h,‹Fc _›.h]
   repeat (refine andC ?_)
   refine aCall_lentXA (next_con code a9 s9 hcode hcl (by omega)) ?_
   rintro _ _ ⟨v15,a15,s15,h15,k15,rfl,rfl⟩
   refine ⟨_,_,rfl,by first | exact .inr (List.all_eq_true.1 rfl) | exact .inl ⟨rfl,by simp [Blk.kindIs,fillK_fd]⟩,?_⟩;refine k _ ?_;clear k K
   simp only [zY,zW,set_some,Nat.reduceEqDiff,reduceIte,rho_one,rho_s,rho2_s,rho2_0,rho2_1,V.ren,V.renL,List.set_cons_zero,List.set_cons_succ,rho,Nat.reduceAdd,Nat.add_zero]
   refine zq25 ⟨?_⟩;refine k10 _ ?_;refine n7 _ _ (weak_keep [1,5] _) ?_;refine zk ⟨?_⟩;refine v_seqR [4] ?_;intro K11 k11;refine zq3 ⟨?_⟩;refine zq28 ⟨?_⟩;refine k11 _ ?_;refine zk ⟨?_⟩;refine v_ret ?_;refine r0 _ ?_;refine zf ⟨?_⟩
   have hm1:1 < m:=by omega
   have ht:=tmod_in (x:=v9 * 256+v15) (m:=m) (by omega) hm1
   refine ret_viewX ?_
   exact ⟨_,_,_,by omega,by omega,rfl,rfl⟩
  ·intro hc1
   refine v_skip ?_;refine n7 _ _ (weak_keep [1,5] _) ?_;refine zk ⟨?_⟩;refine v_seqR [4] ?_;intro K12 k12;refine zq3 ⟨?_⟩;refine zq28 ⟨?_⟩;refine k12 _ ?_;refine zk ⟨?_⟩;refine v_ret ?_;refine r0 _ ?_;refine zf ⟨?_⟩
   have hm1:1 < m:=by omega
   have ht:=tmod_in (x:=v9) (m:=m) (by omega) hm1
   refine ret_viewX ?_
   exact ⟨_,_,_,by omega,by omega,rfl,rfl⟩
set_option maxHeartbeats 1000000 in
theorem one_con (code:List Int) (a s:Int) (m:Int) (hcode:∀x∈code,0≤x∧x≤255) (hcl:code.length≤9223372036854775807) (ha:0≤a∧a < 18000000000):ConX Tryd.prog 75 [.ptr 0 0 0,.int .i64 m] [.box (.agg [.sl (code.map (V.int .u8)),.int .i64 a,.int .u64 s]) .shal] (fun r O'=>∃(v:Bool) (a' s':Int),(True)∧(a≤a'∧a'≤a+2)∧r=.bool v∧O'=[.box (.agg [.sl (code.map (V.int .u8)),.int .i64 a',.int .u64 s']) .shal]):=by
 refine v_conX [.tmp 4] [(73,[0])] Tryd.func75 rfl rfl rfl (by simp [Tryd.ntmps75]) ?_
 intro Q0 n0 r0
 simp only [Tryd.ntmps75,envFrom,Nat.reduceAdd]
 have T:=Tys.mk (And.intro Ty.t3 (And.intro Ty.t5 (And.intro Ty.t22 (And.intro Ty.t95 (And.intro Ty.t96 Ty.t98)))))
 have F:=Fc.mk True.intro
 refine v_seqR [0,1] ?_;intro K1 k1;refine zAssign ⟨?_⟩;refine k1 _ ?_;refine zk ⟨?_⟩;refine v_seqR [4] ?_;intro K2 k2;refine zq3 ⟨?_⟩;refine v_op ?_;intro K k
 simp only [zE,zM,aStepM,optable,set_some,Nat.reduceEqDiff,reduceIte,Nat.reduceLT,implies_true,forall_const,reduceCtorEq,V.ofValue,V.ofScalar,V.un,V.gd,aExec,lentIds,lendOf,‹Tys _›.h,‹Fc _›.h]
 repeat (refine andC ?_)
 refine aCall_lentXA (pick_con code a s (m) hcode hcl (by omega)) ?_
 rintro _ _ ⟨v7,a7,s7,h7,k7,rfl,rfl⟩
 refine ⟨_,_,rfl,by first | exact .inr (List.all_eq_true.1 rfl) | exact .inl ⟨rfl,by simp [Blk.kindIs,fillK_fd]⟩,?_⟩;refine k _ ?_;clear k K
 simp only [zY,zW,set_some,Nat.reduceEqDiff,reduceIte,rho_one,rho_s,rho2_s,rho2_0,rho2_1,V.ren,V.renL,List.set_cons_zero,List.set_cons_succ,rho,Nat.reduceAdd,Nat.add_zero]
 refine zq28 ⟨?_⟩;refine k2 _ ?_;refine zk ⟨?_⟩;refine v_ret ?_;refine r0 _ ?_;refine zf ⟨?_⟩;refine ret_viewX ?_
 exact ⟨_,_,_,trivial,by omega,rfl,rfl⟩
set_option maxHeartbeats 1000000 in
theorem among_con (code:List Int) (a s:Int) (l:List Int) (hl:0 < l.length∧l.length≤1048576) (hcode:∀x∈code,0≤x∧x≤255) (hcl:code.length≤9223372036854775807) (ha:0≤a∧a < 18000000000):ConX Tryd.prog 76 [.ptr 0 0 0,.ref 1] [.box (.agg [.sl (code.map (V.int .u8)),.int .i64 a,.int .u64 s]) .shal,.arr (l.map (V.int .i64)) .flat] (fun r O'=>∃(v:Int) (a' s':Int),(v∈l)∧(a≤a'∧a'≤a+2)∧r=.int .i64 v∧O'=[.box (.agg [.sl (code.map (V.int .u8)),.int .i64 a',.int .u64 s']) .shal,.arr (l.map (V.int .i64)) .flat]):=by
 refine v_conX [.tmp 4] [(73,[0])] Tryd.func76 rfl rfl rfl (by simp [Tryd.ntmps76]) ?_
 intro Q0 n0 r0
 simp only [Tryd.ntmps76,envFrom,Nat.reduceAdd]
 have T:=Tys.mk (And.intro Ty.t3 (And.intro Ty.t5 (And.intro Ty.t22 (And.intro Ty.t36 (And.intro Ty.t95 (And.intro Ty.t96 Ty.t98))))))
 have F:=Fc.mk True.intro
 refine v_seqR [0,1] ?_;intro K1 k1;refine zAssign ⟨?_⟩;refine k1 _ ?_;refine zk ⟨?_⟩;refine v_seqR [4] ?_;intro K2 k2;refine zq3 ⟨?_⟩;refine zq5 ⟨?_⟩;refine v_op ?_;intro K k
 simp only [zE,zM,aStepM,optable,set_some,Nat.reduceEqDiff,reduceIte,Nat.reduceLT,implies_true,forall_const,reduceCtorEq,V.ofValue,V.ofScalar,V.un,V.gd,aExec,lentIds,lendOf,‹Tys _›.h,‹Fc _›.h]
 repeat (refine andC ?_)
 refine aCall_lentXA (pick_con code a s ((l.length:Int)) hcode hcl (by omega)) ?_
 rintro _ _ ⟨v9,a9,s9,h9,k9,rfl,rfl⟩
 obtain ⟨x,hx⟩:∃x,l[v9.toNat]? =some x:=⟨l[v9.toNat]'(by omega),List.getElem?_eq_getElem (by omega)⟩
 refine ⟨_,_,rfl,by first | exact .inr (List.all_eq_true.1 rfl) | exact .inl ⟨rfl,by simp [Blk.kindIs,fillK_fd]⟩,?_⟩;refine k _ ?_;clear k K
 simp only [zY,zW,set_some,Nat.reduceEqDiff,reduceIte,rho_one,rho_s,rho2_s,rho2_0,rho2_1,V.ren,V.renL,List.set_cons_zero,List.set_cons_succ,rho,Nat.reduceAdd,Nat.add_zero]
 have F:=Fc.mk (fun f=>getD_map (f:=f) hx)
 refine zq13 ⟨?_⟩;refine zAssign ⟨?_⟩;refine k2 _ ?_;refine zk ⟨?_⟩;refine v_ret ?_;refine r0 _ ?_;refine zf ⟨?_⟩;refine ret_viewX ?_
 exact ⟨_,_,_,List.mem_of_getElem? hx,by omega,rfl,rfl⟩
theorem u8_all {c:List Int} (h:∀a∈c,(Lit.int .u8 a).wf=true):∀x∈c,0≤x∧x≤255:=by
  intro x hx
  have:=h x hx
  simp [Lit.wf,IntKind.min,IntKind.max,IntKind.signed,IntKind.bits] at this
  omega
def dropOw (ow:Ow) (id:Nat):Ow:=fun b=>match ow b with
  | some (r,j)=>if j=id then none else some (r,j)
  | none=>none
theorem dropOw_ne {ow:Ow} {id b:Nat} (h:dropOw ow id b≠none):ow b≠none:=fun e=>h (by simp [dropOw,e])
theorem dropOw_keep {ow:Ow} {id b j:Nat} {r:Bool} (h:ow b=some (r,j)) (hj:j≠id):dropOw ow id b=ow b:=by simp [dropOw,h,hj]
theorem dropOw_in {ow:Ow} {id b:Nat} {r:Bool} (h:ow b=some (r,id)):dropOw ow id b=none:=by simp [dropOw,h]
theorem vok_drop {cx:Cx} {ow:Ow} {vw:Bool} {b:Nat} (id:Nat) (h:VOK cx ow vw b):VOK cx (dropOw ow id) vw b:=by
  refine ⟨?_,h.2⟩
  rcases h.1 with e | ⟨v,j,e⟩
  · exact .inl (by simp [dropOw,e])
  · by_cases q:j=id
    · exact .inl (by subst q;exact dropOw_in e)
    · exact .inr ⟨v,j,by rw [dropOw_keep e q];exact e⟩
theorem row_drop {cx:Cx} {w:World} {μ:Nat→Option Vm.Loc} {ow:Ow} {vw:Bool} {id j:Nat} {xs:List V} {k:Kd} (hj:j≠id) (h:RowOK cx w μ ow vw j xs k):RowOK cx w μ (dropOw ow id) vw j xs k:=by
  obtain ⟨l,h1,h2,h3⟩:=h
  refine ⟨l,h1,h2,h3.imp (fun z=>z) fun ⟨a1,a2,bl,a3,a4,a5⟩=>⟨a1,(dropOw_keep a2 hj).trans a2,bl,a3,?_,a5⟩⟩
  cases k with
  | flat=>exact a4
  | thin=>exact a4
  | deep | part=>exact ⟨a4.1,fun b hb=>(dropOw_keep (a4.2 b hb) hj).trans (a4.2 b hb)⟩
  | shal=>exact fun b hb=>vok_drop id (a4 b hb)
  | mix=>exact fun b hb=>vok_drop id (a4 b hb)
theorem weak_giveup {m:Nat} {s:St} (t i:Nat) (xs:List V) (k:Kd) (ht:s.get t=.ref i) (hO:s.O[i]? =some (.arr xs k)) (hk:k=.flat∨k=.deep∨k=.thin):Weak m s {s with env:=(t,.sl xs)::s.env,O:=s.O.set i .dead}:=by
  intro cx a w μ ow hmu h
  have hli:i < s.O.length:=(List.getElem?_eq_some_iff.1 hO).1
  have htc:takeCell s (.ref i)=some (.sl xs,[i],false):=by
    simp only [takeCell,St.row,hO,Option.bind_some,Blk.row]
    rcases hk with e | e | e<;>subst e<;>rfl
  refine ⟨μ,dropOw ow i,h.dfr,h.sz,fun t2=> ?_,fun j bk e=> ?_,fun j hj=>h.dom j (by rwa [List.length_set] at hj),fun b hb=>h.owl b (dropOw_ne hb),fun b hb=>h.own b (dropOw_ne hb),h.frm,h.mu⟩
  · obtain ⟨bl,r1,r2⟩:=h.env t2
    show ∃bl,Rep w μ (Vm.look t2 ((t,V.sl xs)::s.env)) _ bl∧_
    rw [look_cons]
    by_cases q:t2=t
    · subst q
      rw [if_pos rfl]
      rw [ht] at r1
      obtain ⟨bl',t1,_,_,t4,_⟩:=takeCell_rep h.sup r1 r2 htc
      obtain ⟨_,own⟩:=t4 rfl
      refine ⟨bl',t1.keep (MLe.zero μ) fun _ _=>rfl,fun b hb=> ?_⟩
      obtain ⟨j,hj,r,e⟩:=own b hb
      rw [List.mem_singleton] at hj
      subst hj
      exact ⟨.inl (dropOw_in e),.inr (h.own b (by rw [e];simp))⟩
    · rw [if_neg q]
      exact ⟨bl,r1,fun b hb=>vok_drop i (r2 b hb)⟩
  · have e2:(s.O.set i .dead)[j]? =some bk:=e
    by_cases q:j=i
    · subst q
      rw [List.getElem?_set_self hli] at e2
      simp only [Option.some.injEq] at e2
      subst e2
      trivial
    · rw [List.getElem?_set_ne (fun z=>q z.symm)] at e2
      have:=h.blk j bk e2
      cases bk with
      | dead=>trivial
      | arr ys k2=>exact row_drop q this
      | box y k2=>exact row_drop q this
theorem weak_giveB {m:Nat} {s:St} (b i:Nat) (pre post xs:List V) (k:Kd) (hb:s.O[b]? =some (.box (.agg (pre++.ref i::post)) .mix)) (hO:s.O[i]? =some (.arr xs k)) (hk:k=.flat∨k=.deep∨k=.thin) (hne:b≠i) :
    Weak m s {s with O:=(s.O.set b (.box (.agg (pre++.sl xs::post)) .mix)).set i .dead}:=by
  intro cx a w μ ow hmu h
  have hli:i < s.O.length:=(List.getElem?_eq_some_iff.1 hO).1
  have hlb:b < s.O.length:=(List.getElem?_eq_some_iff.1 hb).1
  have htc:takeCell s (.ref i)=some (.sl xs,[i],false):=by
    simp only [takeCell,St.row,hO,Option.bind_some,Blk.row]
    rcases hk with e | e | e<;>subst e<;>rfl
  refine ⟨μ,dropOw ow i,h.dfr,h.sz,fun t2=> ?_,fun j bk e=> ?_,fun j hj=>h.dom j (by rwa [List.length_set,List.length_set] at hj),fun y hy=>h.owl y (dropOw_ne hy),fun y hy=>h.own y (dropOw_ne hy),h.frm,h.mu⟩
  · obtain ⟨bl,r1,r2⟩:=h.env t2
    exact ⟨bl,r1,fun y hy=>vok_drop i (r2 y hy)⟩
  · by_cases q:j=i
    · subst q
      rw [List.getElem?_set_self (by rw [List.length_set];exact hli)] at e
      simp only [Option.some.injEq] at e
      subst e
      trivial
    · rw [List.getElem?_set_ne (fun z=>q z.symm)] at e
      by_cases qb:j=b
      · subst qb
        rw [List.getElem?_set_self hlb] at e
        simp only [Option.some.injEq] at e
        subst e
        obtain ⟨l,q1,q2,q3⟩:=h.blk j _ hb
        rcases q3 with ⟨_,q3⟩ | ⟨q3,q4,bl,⟨c1,c2,c3,c,tc,vs,c4,c5,c6,c7,c8⟩,q6,_⟩
        · cases q3
        have c6':RepL w μ (pre++V.ref i::post) vs bl:=by simpa [V.cells,Kd.mu] using c6
        obtain ⟨x1,x23,b1,b23,ev1,eb1,r1,r23⟩:=RepL.split pre (.ref i::post) c6'
        cases r23 with
        | cons _ x bx _ x3 b3 hx r3=>
          have hbx:bx=[]:=by cases hx;rfl
          subst hbx
          obtain ⟨bl',t1,_,_,t4,_⟩:=takeCell_rep h.sup hx (by simp) htc
          obtain ⟨_,own⟩:=t4 rfl
          have hv:∀y∈bl,VOK cx ow s.vw y:=q6
          refine ⟨l,q1,q2,.inr ⟨q3,(dropOw_keep q4 q).trans q4,b1++(bl'++b3),⟨c1,c2,?_,c,tc,vs,c4,c5,?_,c7,c8⟩,?_,fun _=>by simp⟩⟩
          · intro y hy
            rw [List.mem_singleton] at hy
            subst hy
            rw [←c3 _ (List.mem_singleton.2 rfl)]
            simp [V.cells]
          · have:RepL w μ (pre++V.sl xs::post) vs (b1++(bl'++b3)):=by
              rw [ev1]
              exact r1.append (RepL.cons _ _ _ _ _ _ (t1.keep (MLe.zero μ) fun _ _=>rfl) r3)
            simpa [V.cells,Kd.mu] using this
          · show ∀y∈b1++(bl'++b3),VOK cx (dropOw ow i) s.vw y
            intro y hy
            rcases List.mem_append.1 hy with hy | hy
            · exact vok_drop i (hv y (by rw [eb1];simp [hy]))
            · rcases List.mem_append.1 hy with hy | hy
              · obtain ⟨j2,hj,r,e⟩:=own y hy
                rw [List.mem_singleton] at hj
                subst hj
                exact ⟨.inl (dropOw_in e),.inr (h.own y (by rw [e];simp))⟩
              · exact vok_drop i (hv y (by rw [eb1];simp [hy]))
      · rw [List.getElem?_set_ne (fun z=>qb z.symm)] at e
        have:=h.blk j bk e
        cases bk with
        | dead=>trivial
        | arr ys k2=>exact row_drop q this
        | box y k2=>exact row_drop q this
theorem nbeq (b:Bool):(!b == b)=false:=by cases b<;>rfl
set_option maxHeartbeats 1000000 in
theorem of_con (code:List Int) (a s:Int) (l:List ByteArray) (hl:0 < l.length∧l.length≤1048576) (hcode:∀x∈code,0≤x∧x≤255) (hcl:code.length≤9223372036854775807) (ha:0≤a∧a < 18000000000):ConX Tryd.prog 155 [.ptr 0 0 0,.ref 1] [.box (.agg [.sl (code.map (V.int .u8)),.int .i64 a,.int .u64 s]) .shal,.arr (l.map V.str) .flat] (fun r O'=>∃(v:ByteArray) (a' s':Int),(v∈l)∧(a≤a'∧a'≤a+2)∧r=.str v∧O'=[.box (.agg [.sl (code.map (V.int .u8)),.int .i64 a',.int .u64 s']) .shal,.arr (l.map V.str) .flat]):=by
 refine v_conX [.tmp 4] [(73,[0])] Tryd.func155 rfl rfl rfl (by simp [Tryd.ntmps155]) ?_
 intro Q0 n0 r0
 simp only [Tryd.ntmps155,envFrom,Nat.reduceAdd]
 have T:=Tys.mk (And.intro Ty.t3 (And.intro Ty.t5 (And.intro Ty.t9 (And.intro Ty.t22 (And.intro Ty.t74 (And.intro Ty.t95 (And.intro Ty.t96 Ty.t98)))))))
 have F:=Fc.mk True.intro
 refine v_seqR [0,1] ?_;intro K1 k1;refine zAssign ⟨?_⟩;refine k1 _ ?_;refine zk ⟨?_⟩;refine v_seqR [4] ?_;intro K2 k2;refine zq3 ⟨?_⟩;refine zq5 ⟨?_⟩;refine v_op ?_;intro K k
 simp only [zE,zM,aStepM,optable,set_some,Nat.reduceEqDiff,reduceIte,Nat.reduceLT,implies_true,forall_const,reduceCtorEq,V.ofValue,V.ofScalar,V.un,V.gd,aExec,lentIds,lendOf,‹Tys _›.h,‹Fc _›.h]
 repeat (refine andC ?_)
 refine aCall_lentXA (pick_con code a s ((l.length:Int)) hcode hcl (by omega)) ?_
 rintro _ _ ⟨v9,a9,s9,h9,k9,rfl,rfl⟩
 obtain ⟨x,hx⟩:∃x,l[v9.toNat]? =some x:=⟨l[v9.toNat]'(by omega),List.getElem?_eq_getElem (by omega)⟩
 refine ⟨_,_,rfl,by first | exact .inr (List.all_eq_true.1 rfl) | exact .inl ⟨rfl,by simp [Blk.kindIs,fillK_fd]⟩,?_⟩;refine k _ ?_;clear k K
 simp only [zY,zW,set_some,Nat.reduceEqDiff,reduceIte,rho_one,rho_s,rho2_s,rho2_0,rho2_1,V.ren,V.renL,List.set_cons_zero,List.set_cons_succ,rho,Nat.reduceAdd,Nat.add_zero]
 have F:=Fc.mk (fun f=>getD_map (f:=f) hx)
 refine zq13 ⟨?_⟩;refine zAssign ⟨?_⟩;refine k2 _ ?_;refine zk ⟨?_⟩;refine v_ret ?_;refine r0 _ ?_;refine zf ⟨?_⟩;refine ret_viewX ?_
 exact ⟨_,_,_,List.mem_of_getElem? hx,by omega,rfl,rfl⟩
def okL (s:ByteArray) (i:Nat):Bool:=decide (97≤byteAt s i) && decide (byteAt s i≤122)
def roadB (s:ByteArray):Bool:=(List.range s.size).all (okL s)
theorem road_bad {s:ByteArray} {i:Nat} (hi:i < s.size) (h:okL s i=false):roadB s=false:=by
  rw [roadB,List.all_eq_false]
  exact ⟨i,List.mem_range.2 hi,by rw [h];simp⟩
theorem road_good {s:ByteArray} {i:Nat} (hi:s.size≤i) (h:∀j,j < i→okL s j=true):roadB s=true:=by
  rw [roadB,List.all_eq_true]
  intro j hj
  exact h j (Nat.lt_of_lt_of_le (List.mem_range.1 hj) hi)
theorem okL_step {s:ByteArray} {i:Nat} (h:∀j,j < i→okL s j=true) (hi:okL s i=true):∀j,j < i+1→okL s j=true:=by
  intro j hj
  rcases Nat.lt_or_ge j i with q | q
  · exact h j q
  · have:j=i:=by omega
    subst this;exact hi
def tnB (s:ByteArray):Bool:=roadB s && (decide (1≤(s.size:Int)) && decide ((s.size:Int)≤8))
def thOK (x:(ByteArray×Int×Int)):Bool:=tnB x.1 && (decide (1≤x.2.1) && decide (x.2.1≤99)) && (decide (0≤x.2.2) && decide (x.2.2≤9999))
def thBf (x y:(ByteArray×Int×Int)):Bool:=strLt x.1 y.1
def thsB (l:List (ByteArray×Int×Int)):Bool:=chainAt thOK thBf l 0 && decide ((l.length:Int)≤12)
theorem bless_trans:∀{a b c:List UInt8},Op.bytesLess a b=true→Op.bytesLess b c=true→Op.bytesLess a c=true
  | a,b,[],h,k=>by cases b<;>simp [Op.bytesLess] at k
  | a,[],c,h,k=>by cases a<;>simp [Op.bytesLess] at h
  | [],b,z::c,h,k=>rfl
  | x ::a,y::b,z::c,h,k=>by
    simp only [Op.bytesLess,Bool.or_eq_true,Bool.and_eq_true,decide_eq_true_eq,beq_iff_eq] at h k⊢
    rcases h with h | ⟨rfl,h⟩
    · rcases k with k | ⟨rfl,k⟩
      · exact .inl (UInt8.lt_trans h k)
      · exact .inl h
    · rcases k with k | ⟨rfl,k⟩
      · exact .inl k
      · exact .inr ⟨rfl,bless_trans h k⟩
theorem cmpB_lt:∀a b:List UInt8,(Lib.compareBytes a b < 0)↔Op.bytesLess a b=true
  | [],[]=>by simp [Lib.compareBytes,Op.bytesLess]
  | [],_::_=>by simp [Lib.compareBytes,Op.bytesLess]
  | _::_,[]=>by simp [Lib.compareBytes,Op.bytesLess]
  | x ::a,y::b=>by
    have ih:=cmpB_lt a b
    simp only [Lib.compareBytes,Op.bytesLess,Bool.or_eq_true,Bool.and_eq_true,decide_eq_true_eq,beq_iff_eq]
    by_cases h:x < y
    · simp [h]
    · by_cases h2:y < x
      · have hne:¬x=y:=fun e=>by subst e;exact absurd h2 (UInt8.lt_irrefl _)
        simp [h,h2,hne]
      · have he:x=y:=by
          apply UInt8.toNat_inj.1
          have h1:¬x.toNat < y.toNat:=h
          have h3:¬y.toNat < x.toNat:=h2
          omega
        simp [h,h2,he,ih]
theorem cmpB_eq:∀a b:List UInt8,(Lib.compareBytes a b=0)↔a=b
  | [],[]=>by simp [Lib.compareBytes]
  | [],_::_=>by simp [Lib.compareBytes]
  | _::_,[]=>by simp [Lib.compareBytes]
  | x ::a,y::b=>by
    have ih:=cmpB_eq a b
    simp only [Lib.compareBytes]
    by_cases h:x < y
    · have hne:¬x=y:=fun e=>by subst e;exact absurd h (UInt8.lt_irrefl _)
      simp [h,hne]
    · by_cases h2:y < x
      · have hne:¬x=y:=fun e=>by subst e;exact absurd h2 (UInt8.lt_irrefl _)
        simp [h,h2,hne]
      · have he:x=y:=by
          apply UInt8.toNat_inj.1
          have h1:¬x.toNat < y.toNat:=h
          have h3:¬y.toNat < x.toNat:=h2
          omega
        simp [h,h2,he,ih]
def cmpStr (a b:ByteArray):Int:=Lib.compareBytes a.data.toList b.data.toList
theorem toList_data (a:ByteArray):a.toList=a.data.toList:=ByteArray.toList_eq a
theorem cmpStr_lt (a b:ByteArray):(cmpStr a b < 0)↔strLt a b=true:=by
  rw [cmpStr,strLt,toList_data,toList_data];exact cmpB_lt _ _
theorem cmpStr_eq (a b:ByteArray):(cmpStr a b=0)↔a=b:=by
  rw [cmpStr,cmpB_eq]
  constructor
  · intro h;exact ByteArray.ext (Array.ext' h)
  · intro h;rw [h]
theorem str_trans {a b c:ByteArray} (h:strLt a b=true) (k:strLt b c=true):strLt a c=true:=bless_trans h k
theorem str_irr (a:ByteArray):strLt a a=false:=by
  have h:¬cmpStr a a < 0:=by rw [(cmpStr_eq a a).2 rfl];decide
  rw [cmpStr_lt] at h
  simpa using h
theorem bless_total:∀a b:List UInt8,Op.bytesLess a b=true∨a=b∨Op.bytesLess b a=true
  | [],[]=>.inr (.inl rfl)
  | [],_::_=>.inl rfl
  | _::_,[]=>.inr (.inr rfl)
  | x ::a,y::b=>by
    simp only [Op.bytesLess,Bool.or_eq_true,Bool.and_eq_true,decide_eq_true_eq,beq_iff_eq]
    by_cases h:x < y
    · exact .inl (.inl h)
    · by_cases h2:y < x
      · exact .inr (.inr (.inl h2))
      · have he:x=y:=by
          apply UInt8.toNat_inj.1
          have h1:¬x.toNat < y.toNat:=h
          have h3:¬y.toNat < x.toNat:=h2
          omega
        subst he
        rcases bless_total a b with q | q | q
        · exact .inl (.inr ⟨rfl,q⟩)
        · exact .inr (.inl (by rw [q]))
        · exact .inr (.inr (.inr ⟨rfl,q⟩))
theorem str_total (a b:ByteArray):strLt a b=true∨a=b∨strLt b a=true:=by
  unfold strLt
  rw [toList_data,toList_data]
  rcases bless_total a.data.toList b.data.toList with q | q | q
  · exact .inl q
  · exact .inr (.inl (ByteArray.ext (Array.ext' q)))
  · exact .inr (.inr q)
def SortedT (l:List (ByteArray×Int×Int)):Prop:=l.Pairwise fun x y=>strLt x.1 y.1=true
theorem chainFrom_srt:∀(l:List (ByteArray×Int×Int)) (p:Option (ByteArray×Int×Int)),chainFrom thOK thBf p l=true→(∀q,p=some q→∀x∈l,strLt q.1 x.1=true)∧SortedT l
  | [],p,_=>⟨fun _ _ x hx=>(by cases hx),List.Pairwise.nil⟩
  | x ::l,p,h=>by
    have h2:chainFrom thOK thBf (some x) l=true∧∀q,p=some q→strLt q.1 x.1=true:=by
      cases p with
      | none=>simp [chainFrom] at h;exact ⟨h.2,fun q e=>by cases e⟩
      | some r=>simp [chainFrom,thBf] at h;exact ⟨h.2,fun q e=>by cases e;exact h.1.2⟩
    obtain ⟨a1,a2⟩:=chainFrom_srt l (some x) h2.1
    refine ⟨fun q e y hy=> ?_,List.pairwise_cons.2 ⟨fun y hy=>a1 x rfl y hy,a2⟩⟩
    rcases List.mem_cons.1 hy with rfl | hy
    · exact h2.2 q e
    · exact str_trans (h2.2 q e) (a1 x rfl y hy)
theorem srt_chain:∀(l:List (ByteArray×Int×Int)) (p:Option (ByteArray×Int×Int)),(∀x∈l,thOK x=true)→(∀q,p=some q→∀x∈l,strLt q.1 x.1=true)→SortedT l→chainFrom thOK thBf p l=true
  | [],p,_,_,_=>by cases p<;>rfl
  | x::l,p,ho,hp,hs=>by
    have hs':=List.pairwise_cons.1 hs
    have ih:=srt_chain l (some x) (fun y hy=>ho y (List.mem_cons_of_mem _ hy)) (fun q e y hy=>by cases e;exact hs'.1 y hy) hs'.2
    have hx:=ho x (List.mem_cons_self ..)
    cases p with
    | none=>simp [chainFrom,hx,ih]
    | some q=>simp [chainFrom,hx,ih,thBf,hp q rfl x (List.mem_cons_self ..)]
structure ThOK (l:List (ByteArray×Int×Int)):Prop where
  srt:SortedT l
  ok:∀x∈l,tnB x.1=true∧(1≤x.2.1∧x.2.1≤99)∧(0≤x.2.2∧x.2.2≤9999)
  len:l.length≤12
theorem ths_iff (l:List (ByteArray×Int×Int)):thsB l=true↔ThOK l:=by
  have hc:chainAt thOK thBf l 0=chainFrom thOK thBf none l:=by simp [chainAt]
  have ho:∀x,thOK x=true↔tnB x.1=true∧(1≤x.2.1∧x.2.1≤99)∧(0≤x.2.2∧x.2.2≤9999):=by
    intro x;simp [thOK,and_assoc]
  rw [thsB,Bool.and_eq_true,decide_eq_true_eq,hc]
  constructor
  · rintro ⟨h,hl⟩
    exact ⟨(chainFrom_srt l none h).2,fun x hx=>(ho x).1 (chainFrom_ok h x hx),by omega⟩
  · intro h
    exact ⟨srt_chain l none (fun x hx=>(ho x).2 (h.ok x hx)) (fun q e=>by cases e) h.srt,by have:=h.len;omega⟩
def atT (l:List (ByteArray×Int×Int)) (s:ByteArray):Int:=firstP (fun t:(ByteArray×Int×Int)=>decide (t.1=s)) 0 l
def cntOf (l:List (ByteArray×Int×Int)) (s:ByteArray):Int:=match l.find? fun t=>decide (t.1=s) with
  | some t=>t.2.1
  | none=>0
def lbT (l:List (ByteArray×Int×Int)) (s:ByteArray):Nat:=(l.takeWhile fun t=>strLt t.1 s).length
def thereT (l:List (ByteArray×Int×Int)) (s:ByteArray):Bool:=match l[lbT l s]? with
  | some t=>decide (t.1=s)
  | none=>false
theorem lbT_le (l:List (ByteArray×Int×Int)) (s:ByteArray):lbT l s≤l.length:=List.Sublist.length_le (List.takeWhile_sublist _)
theorem at_gen (s:ByteArray):∀(l:List (ByteArray×Int×Int)) (i:Nat),(firstP (fun t:(ByteArray×Int×Int)=>decide (t.1=s)) i l=-1∧(∀x∈l,x.1≠s)∧cntOf l s=0)∨∃(k:Nat) (x:(ByteArray×Int×Int)),firstP (fun t:(ByteArray×Int×Int)=>decide (t.1=s)) i l=((i+k:Nat):Int)∧l[k]? =some x∧x.1=s∧cntOf l s=x.2.1
  | [],i=>.inl ⟨rfl,fun x hx=>(by cases hx),rfl⟩
  | y ::l,i=>by
    rw [firstP,cntOf,List.find?_cons]
    by_cases h:y.1=s
    · simp only [h,decide_true,if_true]
      exact .inr ⟨0,y,by simp,rfl,h,rfl⟩
    · simp only [h,decide_false,Bool.false_eq_true,if_false]
      rcases at_gen s l (i+1) with ⟨h1,h2,h3⟩ | ⟨k,x,h1,h2,h3,h4⟩
      · refine .inl ⟨h1,fun x hx=> ?_,h3⟩
        rcases List.mem_cons.1 hx with rfl | hx
        · exact h
        · exact h2 x hx
      · exact .inr ⟨k+1,x,by rw [h1];congr 1;omega,by simpa using h2,h3,h4⟩
theorem at_cases (l:List (ByteArray×Int×Int)) (s:ByteArray):(atT l s=-1∧(∀x∈l,x.1≠s)∧cntOf l s=0)∨∃(k:Nat) (x:(ByteArray×Int×Int)),atT l s=(k:Int)∧l[k]? =some x∧x.1=s∧cntOf l s=x.2.1:=by
  rcases at_gen s l 0 with h | ⟨k,x,h1,h2⟩
  · exact .inl h
  · exact .inr ⟨k,x,by rw [atT,h1,Nat.zero_add],h2⟩
theorem lb_spec (s:ByteArray):∀(l:List (ByteArray×Int×Int)),SortedT l→(∀k x,l[k]? =some x→k < lbT l s→strLt x.1 s=true)∧(∀k x,l[k]? =some x→lbT l s≤k→strLt x.1 s=false)
  | [],_=>⟨fun k x h=>(by simp at h),fun k x h=>(by simp at h)⟩
  | y ::l,hs=>by
    have hs':=List.pairwise_cons.1 hs
    obtain ⟨i1,i2⟩:=lb_spec s l hs'.2
    by_cases h:strLt y.1 s=true
    · have e:lbT (y::l) s=lbT l s+1:=by simp [lbT,List.takeWhile_cons,h]
      rw [e]
      constructor
      · intro k x hk hlt
        cases k with
        | zero=>simp at hk;subst hk;exact h
        | succ k=>exact i1 k x (by simpa using hk) (by omega)
      · intro k x hk hle
        cases k with
        | zero=>omega
        | succ k=>exact i2 k x (by simpa using hk) (by omega)
    · have hf:strLt y.1 s=false:=by simpa using h
      have e:lbT (y::l) s=0:=by simp [lbT,List.takeWhile_cons,hf]
      rw [e]
      refine ⟨fun k x _ hlt=>absurd hlt (Nat.not_lt_zero _),fun k x hk _=> ?_⟩
      cases k with
      | zero=>simp at hk;subst hk;exact hf
      | succ k=>
        have hm:=List.mem_of_getElem? (show l[k]? =some x by simpa using hk)
        cases hq:strLt x.1 s with
        | false=>rfl
        | true=>rw [str_trans (hs'.1 x hm) hq] at hf;cases hf
theorem lb_unique {s:ByteArray} {l:List (ByteArray×Int×Int)} (hs:SortedT l) {i:Nat} (hi:i≤l.length) (h1:∀k x,l[k]? =some x→k < i→strLt x.1 s=true) (h2:∀k x,l[k]? =some x→i≤k→strLt x.1 s=false):i=lbT l s:=by
  obtain ⟨g1,g2⟩:=lb_spec s l hs
  have hle:=lbT_le l s
  rcases Nat.lt_trichotomy i (lbT l s) with q | q | q
  · obtain ⟨x,hx⟩:∃x,l[i]? =some x:=⟨_,List.getElem?_eq_getElem (by omega)⟩
    have a:=g1 i x hx q
    have b:=h2 i x hx (Nat.le_refl _)
    rw [a] at b;cases b
  · exact q
  · obtain ⟨x,hx⟩:∃x,l[lbT l s]? =some x:=⟨_,List.getElem?_eq_getElem (by omega)⟩
    have a:=h1 _ x hx q
    have b:=g2 _ x hx (Nat.le_refl _)
    rw [a] at b;cases b
theorem there_cases {l:List (ByteArray×Int×Int)} (hs:SortedT l) (s:ByteArray):(thereT l s=false∧atT l s=-1∧(∀x∈l,x.1≠s)∧cntOf l s=0)∨∃x:(ByteArray×Int×Int),thereT l s=true∧atT l s=(lbT l s:Int)∧l[lbT l s]? =some x∧x.1=s∧cntOf l s=x.2.1:=by
  obtain ⟨g1,g2⟩:=lb_spec s l hs
  rcases at_cases l s with ⟨h1,h2,h3⟩ | ⟨k,x,h1,h2,h3,h4⟩
  · refine .inl ⟨?_,h1,h2,h3⟩
    unfold thereT
    split
    · rename_i t ht;exact decide_eq_false (h2 t (List.mem_of_getElem? ht))
    · rfl
  · have hk:k=lbT l s:=by
      rcases Nat.lt_trichotomy k (lbT l s) with q | q | q
      · have:=g1 k x h2 q;rw [h3,str_irr] at this;cases this
      · exact q
      · have hkl:=(List.getElem?_eq_some_iff.1 h2).1
        obtain ⟨y,hy⟩:∃y,l[lbT l s]? =some y:=⟨_,List.getElem?_eq_getElem (by omega)⟩
        have a:=g2 _ y hy (Nat.le_refl _)
        have b:strLt y.1 x.1=true:=by
          have e1:=(List.getElem?_eq_some_iff.1 hy)
          have e2:=(List.getElem?_eq_some_iff.1 h2)
          obtain ⟨hl1,e1⟩:=e1
          obtain ⟨hl2,e2⟩:=e2
          have:=List.pairwise_iff_getElem.1 hs _ _ hl1 hl2 q
          rwa [e1,e2] at this
        rw [h3,a] at b;cases b
    subst hk
    exact .inr ⟨x,by unfold thereT;rw [h2];exact decide_eq_true h3,h1,h2,h3,h4⟩
theorem cnt_bound {l:List (ByteArray×Int×Int)} (h:∀x∈l,1≤x.2.1∧x.2.1≤99) (s:ByteArray):0≤cntOf l s∧cntOf l s≤99:=by
  rcases at_cases l s with ⟨_,_,h3⟩ | ⟨k,x,_,h2,_,h4⟩
  · omega
  · have:=h x (List.mem_of_getElem? h2);omega
def missF (t:List (ByteArray×Int×Int)) (x:(ByteArray×Int×Int)):List (ByteArray×Int×Int):=if 0 < x.2.1 - cntOf t x.1 then [(x.1,x.2.1 - cntOf t x.1,0)] else []
def missL (w t:List (ByteArray×Int×Int)):List (ByteArray×Int×Int):=w.flatMap (missF t)
def spareF (w:List (ByteArray×Int×Int)) (x:(ByteArray×Int×Int)):List (ByteArray×Int×Int):=if 0 < x.2.1 - cntOf w x.1 then [(x.1,x.2.1 - cntOf w x.1,x.2.2)] else []
def spareL (w t:List (ByteArray×Int×Int)):List (ByteArray×Int×Int):=t.flatMap (spareF w)
theorem flatMap_step {α β:Type} {f:α→List β} {l:List α} {i:Nat} {x:α} (h:l[i]? =some x):(l.take (i+1)).flatMap f=(l.take i).flatMap f++f x:=by
  rw [List.take_add_one,h,Option.toList_some,List.flatMap_append];simp
theorem flatMap_lenLe {α β:Type} {f:α→List β} (hf:∀x,(f x).length≤1):∀l:List α,(l.flatMap f).length≤l.length
  | []=>Nat.le_refl _
  | x::l=>by
    rw [List.flatMap_cons,List.length_append,List.length_cons]
    have:=flatMap_lenLe hf l
    have:=hf x
    omega
theorem missF_len (t:List (ByteArray×Int×Int)) (x:(ByteArray×Int×Int)):(missF t x).length≤1:=by unfold missF;split<;>simp
theorem spareF_len (t:List (ByteArray×Int×Int)) (x:(ByteArray×Int×Int)):(spareF t x).length≤1:=by unfold spareF;split<;>simp
theorem lb_stop {s:ByteArray} {l:List (ByteArray×Int×Int)} (hs:SortedT l) {i:Nat} {x:(ByteArray×Int×Int)} (hx:l[i]? =some x) (hf:strLt x.1 s=false) (h1:∀k x,l[k]? =some x→k < i→strLt x.1 s=true):i=lbT l s∧thereT l s=decide (x.1=s):=by
  obtain ⟨hil,hxe⟩:=List.getElem?_eq_some_iff.1 hx
  have e:i=lbT l s:=lb_unique hs (by omega) h1 fun k y hk hle=>by
    rcases Nat.lt_or_eq_of_le hle with q | q
    · obtain ⟨hkl,hye⟩:=List.getElem?_eq_some_iff.1 hk
      have b:=List.pairwise_iff_getElem.1 hs _ _ hil hkl q
      rw [hxe,hye] at b
      cases h:strLt y.1 s with
      | false=>rfl
      | true=>rw [str_trans b h] at hf;cases hf
    · subst q;rw [hx] at hk;cases hk;exact hf
  refine ⟨e,?_⟩
  unfold thereT
  rw [←e,hx]
theorem lb_end {s:ByteArray} {l:List (ByteArray×Int×Int)} (hs:SortedT l) {i:Nat} (hi:i≤l.length) (hl:l.length≤i) (h1:∀k x,l[k]? =some x→k < i→strLt x.1 s=true):i=lbT l s∧thereT l s=false:=by
  have e:i=lbT l s:=lb_unique hs hi h1 fun k y hk hle=>by
    have:=(List.getElem?_eq_some_iff.1 hk).1;omega
  refine ⟨e,?_⟩
  unfold thereT
  rw [←e,List.getElem?_eq_none hl]
def missR (w t:List (ByteArray×Int×Int)):List (ByteArray×Int×Int):=if (thsB w && thsB t)=true then missL w t else []
def spareR (w t:List (ByteArray×Int×Int)):List (ByteArray×Int×Int):=if (thsB w && thsB t)=true then spareL w t else []
theorem missL_len (w t:List (ByteArray×Int×Int)):(missL w t).length≤w.length:=flatMap_lenLe (missF_len t) w
theorem spareL_len (w t:List (ByteArray×Int×Int)):(spareL w t).length≤t.length:=flatMap_lenLe (spareF_len w) t
theorem missR_len (w t:List (ByteArray×Int×Int)):(missR w t).length≤w.length:=by unfold missR;split;exact missL_len w t;exact Nat.zero_le _
theorem spareR_len (w t:List (ByteArray×Int×Int)):(spareR w t).length≤t.length:=by unfold spareR;split;exact spareL_len w t;exact Nat.zero_le _
theorem tn_size {s:ByteArray} (h:tnB s=true):s.size≤8:=by simp [tnB] at h;omega
set_option maxHeartbeats 1000000 in
theorem indexFuncThing_con (l:List (ByteArray×Int×Int)) (g:Nat) (caps:List V) (p:ByteArray×Int×Int→Bool) (hl:l.length≤1048576) (hc:Caps caps) (hg:∀x0 x1 x2,(x0,x1,x2)∈l→Con Tryd.prog g (V.agg [V.str x0,V.int .i64 x1,V.int .i64 x2]::caps) [] (.bool (p (x0,x1,x2))) []):Con Tryd.prog 169 [.sl (l.map (fun t:ByteArray×Int×Int=>V.agg [V.str t.1,V.int .i64 t.2.1,V.int .i64 t.2.2])),.fn g caps] [] (.int .i64 (firstP p 0 l)) []:=by
 refine v_con [.tmp 4] [] Tryd.func169 rfl rfl rfl (by simp [Tryd.ntmps169]) ?_
 intro Q0 n0 r0
 simp only [Tryd.ntmps169,envFrom,Nat.reduceAdd]
 have T:=Tys.mk (And.intro Ty.t3 (And.intro Ty.t4 (And.intro Ty.t9 (And.intro Ty.t63 Ty.t93))))
 have F:=Fc.mk True.intro
 refine v_seqR [0,1] ?_;intro K1 k1;refine zAssign ⟨?_⟩;refine k1 _ ?_;refine zk ⟨?_⟩;refine v_seq ?_;intro Q2 n2 e2 r2;refine v_seqR [0,1,7,8] ?_;intro K3 k3;refine zq14 ⟨?_⟩;refine k3 _ ?_;refine zk ⟨?_⟩;refine v_block ?_;intro Q4 n4 x4 e4 r4;refine v_loop (fun i=>⟨[(0,.sl (l.map (fun t:ByteArray×Int×Int=>V.agg [V.str t.1,V.int .i64 t.2.1,V.int .i64 t.2.2]))),(1,.fn g caps),(7,.int .i64 l.length),(8,.int .i64 (Nat.cast i))],[],false,19,0⟩) (fun i=>i≤l.length∧firstP p i (l.drop i)=firstP p 0 l) (fun i=>l.length - i) 0 ?_ ?_ ?_
 ·refine weak_of [0,1,7,8] ?_
  simp only [keep_mk,keepE_nil,keepE_cons,look_cons,look_nil,Nat.reduceEqDiff,reduceIte]
  rfl
 ·exact ⟨Nat.zero_le _,rfl⟩
 ·rintro i hok5 Q5 n5 e5 r5
  obtain ⟨hi1,hR⟩:=hok5
  refine v_seqR [0,1,7,8,9] ?_;intro K6 k6;refine zBinOp ⟨?_⟩;refine k6 _ ?_;refine zk ⟨?_⟩;refine v_seq ?_;intro Q7 n7 e7 r7;refine v_condS _ rfl ?_ ?_
  ·intro hc0
   have hlt:i < l.length:=by omega
   obtain ⟨⟨x0,x1,x2⟩,hx⟩:∃x:ByteArray×Int×Int,l[i]? =some x:=⟨l[i]'(by omega),List.getElem?_eq_getElem (by omega)⟩
   have hst:=first_step (p:=p) hx
   refine v_skip ?_;refine n7 _ _ (weak_keep [0,1,7,8] _) ?_;refine zk ⟨?_⟩;refine v_seq ?_;intro Q9 n9 e9 r9;refine v_block ?_;intro Q10 n10 x10 e10 r10;refine v_seqR [0,1,5,7,8] ?_;intro K11 k11
   have F:=Fc.mk (fun f=>getD_map (f:=f) hx)
   refine zq19 ⟨?_⟩;refine k11 _ ?_;refine zk ⟨?_⟩;refine v_seqR [0,1,5,7,8,16] ?_;intro K12 k12;refine zq3 ⟨?_⟩;refine zq32 ⟨?_⟩;refine zcc (hg x0 x1 x2 (List.mem_of_getElem? hx)) ⟨?_⟩;refine k12 _ ?_;refine zk ⟨?_⟩;refine v_condS _ rfl ?_ ?_
   ·intro hc1
    refine v_seqR [4] ?_;intro K14 k14;refine zq19 ⟨?_⟩;refine k14 _ ?_;refine zk ⟨?_⟩;refine v_ret ?_;refine r10 _ ?_;refine r9 _ ?_;refine r5 _ ?_;refine r4 _ ?_;refine r2 _ ?_;refine r0 _ ?_;refine zf ⟨?_⟩
    exact ret_pure rfl (by rw [←hR,hst,if_pos hc1]) (.inl rfl)
   ·intro hc1
    refine v_skip ?_;refine n10 _ ?_;refine n9 _ _ (weak_keep [0,1,7,8] _) ?_;refine zk ⟨?_⟩;refine v_region ?_;intro K15 k15;refine zq6 ⟨?_⟩;refine k15 _ ?_;refine n5 _ (i+1) ?_ ?_ ?_
    ·refine weak_bothC [0,1,7,8] [] ⟨?_⟩
     rfl
    ·exact ⟨by omega,by rw [←hR,hst,if_neg (by simp [hc1])]⟩
    ·show _ < _;omega
  ·intro hc0
   refine v_exit ?_;refine e7 _ _ ?_;refine e5 _ _ ?_;refine x4 _ ?_;refine n2 _ _ (weak_keep [] _) ?_;refine zk ⟨?_⟩;refine v_seqR [4] ?_;intro K16 k16;refine zAssign ⟨?_⟩;refine k16 _ ?_;refine zk ⟨?_⟩;refine v_ret ?_;refine r0 _ ?_;refine zf ⟨?_⟩
   exact ret_pure rfl (by rw [←hR,first_end (by omega)]) (.inl rfl)
set_option maxHeartbeats 1000000 in
theorem cloneThing_con (l:List (ByteArray×Int×Int)) (hl:l.length≤1048576):Con Tryd.prog 171 [.sl (l.map (fun t:ByteArray×Int×Int=>V.agg [V.str t.1,V.int .i64 t.2.1,V.int .i64 t.2.2]))] [] (.ref 0) [.arr (l.map (fun t:ByteArray×Int×Int=>V.agg [V.str t.1,V.int .i64 t.2.1,V.int .i64 t.2.2])) .flat]:=by
 have hns:(l.map (fun t:ByteArray×Int×Int=>V.agg [V.str t.1,V.int .i64 t.2.1,V.int .i64 t.2.2])).all V.noSl=true:=by rw [List.all_map,List.all_eq_true];intro a _;rfl
 refine v_con [.tmp 2] [] Tryd.func171 rfl rfl rfl (by simp [Tryd.ntmps171]) ?_
 intro Q0 n0 r0
 simp only [Tryd.ntmps171,envFrom,Nat.reduceAdd]
 have T:=Tys.mk (And.intro Ty.t3 (And.intro Ty.t9 (And.intro Ty.t63 Ty.t93)))
 have F:=Fc.mk True.intro
 refine v_seqR [0] ?_;intro K1 k1
 have F:=Fc.mk hns
 refine zAssign ⟨?_⟩;refine k1 _ ?_;refine zk ⟨?_⟩;refine v_seq ?_;intro Q2 n2 e2 r2;refine v_seqR [0,4] ?_;intro K3 k3;refine zMove ⟨?_⟩;refine zNil ⟨?_⟩
 intro nb4 hnb4
 refine k3 _ ?_;refine zk ⟨?_⟩;refine v_condS _ rfl ?_ ?_
 ·intro hc0
  have hnil:l=[]:=by cases l with | nil=>rfl | cons a b=>have:=hnb4 (by simp);rw [hc0] at this;cases this
  refine v_seqR [2] ?_;intro K5 k5;refine zAssign ⟨?_⟩;refine k5 _ ?_;refine zk ⟨?_⟩;refine v_ret ?_;refine r2 _ ?_;refine r0 _ ?_;refine zf ⟨?_⟩
  rw [hnil];exact ret_refK rfl rfl rfl
 ·intro hc0
  refine v_skip ?_;refine n2 _ _ (weak_keep [0] _) ?_;refine zk ⟨?_⟩;refine v_seqR [2] ?_;intro K6 k6;refine zBuildSlice ⟨?_⟩;refine zMove ⟨?_⟩;refine zq29 ⟨?_⟩;refine k6 _ ?_;refine zk ⟨?_⟩;refine v_ret ?_;refine r0 _ ?_;refine zf ⟨?_⟩
  exact ret_refK rfl rfl (by simp)
set_option maxHeartbeats 1000000 in
theorem eqName_con (s:ByteArray) (hs:s.size≤9223372036854775807):Con Tryd.prog 139 [.str s] [] (.bool (tnB s)) []:=by
 refine v_con [.tmp 2] [] Tryd.func139 rfl rfl rfl (by simp [Tryd.ntmps139]) ?_
 intro Q0 n0 r0
 simp only [Tryd.ntmps139,envFrom,Nat.reduceAdd]
 have T:=Tys.mk (And.intro Ty.t3 (And.intro Ty.t4 (And.intro Ty.t5 Ty.t9)))
 have F:=Fc.mk True.intro
 refine v_seqR [0] ?_;intro K1 k1;refine zAssign ⟨?_⟩;refine k1 _ ?_;refine zk ⟨?_⟩;refine v_seq ?_;intro Q2 n2 e2 r2;refine v_seqR [0,3] ?_;intro K3 k3;refine zAssign ⟨?_⟩;refine k3 _ ?_;refine zk ⟨?_⟩;refine v_block ?_;intro Q4 n4 x4 e4 r4;refine v_loop (fun i=>⟨[(0,.str s),(3,.int .i64 (Nat.cast i))],[],false,23,0⟩) (fun i=>i≤s.size∧∀j,j < i→okL s j=true) (fun i=>s.size - i) 0 ?_ ?_ ?_
 ·refine weak_of [0,3] ?_
  simp only [keep_mk,keepE_nil,keepE_cons,look_cons,look_nil,Nat.reduceEqDiff,reduceIte]
  rfl
 ·exact ⟨Nat.zero_le _,fun j h=>absurd h (Nat.not_lt_zero _)⟩
 ·rintro i hok5 Q5 n5 e5 r5
  obtain ⟨hi1,hR⟩:=hok5
  refine v_seq ?_;intro Q6 n6 e6 r6;refine v_seqR [0,3,7] ?_;intro K7 k7;refine zq54 ⟨?_⟩;refine zBinOp ⟨?_⟩;refine k7 _ ?_;refine zk ⟨?_⟩;refine v_condS _ rfl ?_ ?_
  ·intro hc0
   have hlt:i < s.size:=by omega
   refine v_skip ?_;refine n6 _ _ (weak_keep [0,3] _) ?_;refine zk ⟨?_⟩;refine v_seq ?_;intro Q9 n9 e9 r9;refine v_block ?_;intro Q10 n10 x10 e10 r10;refine v_seqR [0,3,19] ?_;intro K11 k11;refine zq3 ⟨?_⟩;refine zIndex ⟨?_⟩;refine zq52 ⟨?_⟩;refine zgIndex ⟨?_⟩;refine zq8 ⟨?_⟩;refine k11 _ ?_;refine zk ⟨?_⟩;refine v_condS _ rfl ?_ ?_
   ·intro hc1
    have hbad:okL s i=false:=by simp only [okL,Bool.and_eq_false_imp,decide_eq_true_eq,decide_eq_false_iff_not];omega
    refine v_seqR [2] ?_;intro K13 k13;refine zAssign ⟨?_⟩;refine k13 _ ?_;refine zk ⟨?_⟩;refine v_ret ?_;refine r10 _ ?_;refine r9 _ ?_;refine r5 _ ?_;refine r4 _ ?_;refine r2 _ ?_;refine r0 _ ?_;refine zf ⟨?_⟩
    exact ret_pure rfl (by (try rw [tnB]);rw [road_bad hlt hbad];rfl) (.inl rfl)
   ·intro hc1
    have hgood:okL s i=true:=by simp only [okL,Bool.and_eq_true,decide_eq_true_eq];omega
    refine v_skip ?_;refine n10 _ ?_;refine n9 _ _ (weak_keep [0,3] _) ?_;refine zk ⟨?_⟩;refine v_region ?_;intro K14 k14;refine zMove ⟨?_⟩;refine zq25 ⟨?_⟩;refine k14 _ ?_;refine n5 _ (i+1) ?_ ?_ ?_
    ·refine weak_of [0,3] ?_
     simp only [keep_mk,keepE_nil,keepE_cons,look_cons,look_nil,Nat.reduceEqDiff,reduceIte]
     rfl
    ·exact ⟨by omega,okL_step hR hgood⟩
    ·show _ < _;omega
  ·intro hc0
   refine v_exit ?_;refine e6 _ _ ?_;refine e5 _ _ ?_;refine x4 _ ?_;refine n2 _ _ (weak_keep [0] _) ?_;refine zk ⟨?_⟩;refine v_seqR [2] ?_;intro K15 k15;refine zq5 ⟨?_⟩;refine zc (l1In_con _ _ _) ⟨?_⟩;refine zAssign ⟨?_⟩;refine k15 _ ?_;refine zk ⟨?_⟩;refine v_ret ?_;refine r0 _ ?_;refine zf ⟨?_⟩
   exact ret_pure rfl (by (try rw [tnB]);rw [road_good (by omega) hR];rfl) (.inl rfl)
set_option maxHeartbeats 1000000 in
theorem isRoad_con (s:ByteArray) (hs:s.size≤9223372036854775807):Con Tryd.prog 172 [.str s] [] (.bool (roadB s && (decide (1≤(s.size:Int)) && decide ((s.size:Int)≤10)))) []:=by
 refine v_con [.tmp 2] [] Tryd.func172 rfl rfl rfl (by simp [Tryd.ntmps172]) ?_
 intro Q0 n0 r0
 simp only [Tryd.ntmps172,envFrom,Nat.reduceAdd]
 have T:=Tys.mk (And.intro Ty.t3 (And.intro Ty.t4 (And.intro Ty.t5 Ty.t9)))
 have F:=Fc.mk True.intro
 refine v_seqR [0] ?_;intro K1 k1;refine zAssign ⟨?_⟩;refine k1 _ ?_;refine zk ⟨?_⟩;refine v_seq ?_;intro Q2 n2 e2 r2;refine v_seqR [0,5,6] ?_;intro K3 k3;refine zq14 ⟨?_⟩;refine k3 _ ?_;refine zk ⟨?_⟩;refine v_block ?_;intro Q4 n4 x4 e4 r4;refine v_loop (fun i=>⟨[(0,.str s),(5,.int .i64 s.size),(6,.int .i64 (Nat.cast i))],[],false,23,0⟩) (fun i=>i≤s.size∧∀j,j < i→okL s j=true) (fun i=>s.size - i) 0 ?_ ?_ ?_
 ·refine weak_of [0,5,6] ?_
  simp only [keep_mk,keepE_nil,keepE_cons,look_cons,look_nil,Nat.reduceEqDiff,reduceIte]
  rfl
 ·exact ⟨Nat.zero_le _,fun j h=>absurd h (Nat.not_lt_zero _)⟩
 ·rintro i hok5 Q5 n5 e5 r5
  obtain ⟨hi1,hR⟩:=hok5
  refine v_seqR [0,5,6,7] ?_;intro K6 k6;refine zBinOp ⟨?_⟩;refine k6 _ ?_;refine zk ⟨?_⟩;refine v_seq ?_;intro Q7 n7 e7 r7;refine v_condS _ rfl ?_ ?_
  ·intro hc0
   have hlt:i < s.size:=by omega
   refine v_skip ?_;refine n7 _ _ (weak_keep [0,5,6] _) ?_;refine zk ⟨?_⟩;refine v_seq ?_;intro Q9 n9 e9 r9;refine v_block ?_;intro Q10 n10 x10 e10 r10;refine v_seqR [0,3,5,6] ?_;intro K11 k11;refine zq19 ⟨?_⟩;refine k11 _ ?_;refine zk ⟨?_⟩;refine v_seqR [0,5,6,18] ?_;intro K12 k12;refine zq3 ⟨?_⟩;refine zIndex ⟨?_⟩;refine zq52 ⟨?_⟩;refine zgIndex ⟨?_⟩;refine zq8 ⟨?_⟩;refine k12 _ ?_;refine zk ⟨?_⟩;refine v_condS _ rfl ?_ ?_
   ·intro hc1
    have hbad:okL s i=false:=by simp only [okL,Bool.and_eq_false_imp,decide_eq_true_eq,decide_eq_false_iff_not];omega
    refine v_seqR [2] ?_;intro K14 k14;refine zAssign ⟨?_⟩;refine k14 _ ?_;refine zk ⟨?_⟩;refine v_ret ?_;refine r10 _ ?_;refine r9 _ ?_;refine r5 _ ?_;refine r4 _ ?_;refine r2 _ ?_;refine r0 _ ?_;refine zf ⟨?_⟩
    exact ret_pure rfl (by (try rw [tnB]);rw [road_bad hlt hbad];rfl) (.inl rfl)
   ·intro hc1
    have hgood:okL s i=true:=by simp only [okL,Bool.and_eq_true,decide_eq_true_eq];omega
    refine v_skip ?_;refine n10 _ ?_;refine n9 _ _ (weak_keep [0,5,6] _) ?_;refine zk ⟨?_⟩;refine v_region ?_;intro K15 k15;refine zq6 ⟨?_⟩;refine k15 _ ?_;refine n5 _ (i+1) ?_ ?_ ?_
    ·refine weak_of [0,5,6] ?_
     simp only [keep_mk,keepE_nil,keepE_cons,look_cons,look_nil,Nat.reduceEqDiff,reduceIte]
     rfl
    ·exact ⟨by omega,okL_step hR hgood⟩
    ·show _ < _;omega
  ·intro hc0
   refine v_exit ?_;refine e7 _ _ ?_;refine e5 _ _ ?_;refine x4 _ ?_;refine n2 _ _ (weak_keep [0] _) ?_;refine zk ⟨?_⟩;refine v_seqR [2] ?_;intro K16 k16;refine zq5 ⟨?_⟩;refine zc (inside_con _ _ _) ⟨?_⟩;refine zAssign ⟨?_⟩;refine k16 _ ?_;refine zk ⟨?_⟩;refine v_ret ?_;refine r0 _ ?_;refine zf ⟨?_⟩
   exact ret_pure rfl (by (try rw [tnB]);rw [road_good (by omega) hR];rfl) (.inl rfl)
set_option maxHeartbeats 1000000 in
theorem isThingName_con (s:ByteArray) (hs:s.size≤9223372036854775807):Con Tryd.prog 135 [.str s] [] (.bool (tnB s)) []:=by
 refine v_con [.tmp 2] [] Tryd.func135 rfl rfl rfl (by simp [Tryd.ntmps135]) ?_
 intro Q0 n0 r0
 simp only [Tryd.ntmps135,envFrom,Nat.reduceAdd]
 have T:=Tys.mk (And.intro Ty.t3 (And.intro Ty.t4 Ty.t9))
 have F:=Fc.mk True.intro
 refine v_seqR [0] ?_;intro K1 k1;refine zAssign ⟨?_⟩;refine k1 _ ?_;refine zk ⟨?_⟩;refine v_seqR [2] ?_;intro K2 k2;refine zq5 ⟨?_⟩;refine zBinOp ⟨?_⟩;refine zq4 ⟨?_⟩;refine zgc (isRoad_con s hs) ⟨?_⟩;refine zPick ⟨?_⟩;refine zAssign ⟨?_⟩;refine k2 _ ?_;refine zk ⟨?_⟩;refine v_ret ?_;refine r0 _ ?_;refine zf ⟨?_⟩
 exact ret_pure rfl (by rw [tnB];cases roadB s<;>simp<;>(first | done | (rw [Bool.eq_iff_iff];simp;omega))) (.inl rfl)
set_option maxHeartbeats 1000000 in
theorem isThingDay_con (n:Int):Con Tryd.prog 128 [.int .i64 n] [] (.bool (decide (0≤n) && decide (n≤9999))) []:=by
 refine v_con [.tmp 2] [] Tryd.func128 rfl rfl rfl (by simp [Tryd.ntmps128]) ?_
 intro Q0 n0 r0
 simp only [Tryd.ntmps128,envFrom,Nat.reduceAdd]
 have T:=Tys.mk (And.intro Ty.t3 Ty.t4)
 have F:=Fc.mk True.intro
 refine v_seqR [0] ?_;intro K1 k1;refine zAssign ⟨?_⟩;refine k1 _ ?_;refine zk ⟨?_⟩;refine v_seqR [2] ?_;intro K2 k2;refine zMove ⟨?_⟩;refine zc (inside_con _ _ _) ⟨?_⟩;refine zAssign ⟨?_⟩;refine k2 _ ?_;refine zk ⟨?_⟩;refine v_ret ?_;refine r0 _ ?_;refine zf ⟨?_⟩
 exact ret_pure rfl (by first | rfl | simp) (.inl rfl)
set_option maxHeartbeats 1000000 in
theorem eqDay_con (n:Int):Con Tryd.prog 130 [.int .i64 n] [] (.bool (decide (0≤n) && decide (n≤9999))) []:=by
 refine v_con [.tmp 2] [] Tryd.func130 rfl rfl rfl (by simp [Tryd.ntmps130]) ?_
 intro Q0 n0 r0
 simp only [Tryd.ntmps130,envFrom,Nat.reduceAdd]
 have T:=Tys.mk (And.intro Ty.t3 Ty.t4)
 have F:=Fc.mk True.intro
 refine v_seqR [0] ?_;intro K1 k1;refine zAssign ⟨?_⟩;refine k1 _ ?_;refine zk ⟨?_⟩;refine v_seqR [2] ?_;intro K2 k2;refine zMove ⟨?_⟩;refine zc (l1In_con _ _ _) ⟨?_⟩;refine zAssign ⟨?_⟩;refine k2 _ ?_;refine zk ⟨?_⟩;refine v_ret ?_;refine r0 _ ?_;refine zf ⟨?_⟩
 exact ret_pure rfl (by first | rfl | simp) (.inl rfl)
set_option maxHeartbeats 1000000 in
theorem eqCount_con (n:Int):Con Tryd.prog 165 [.int .i64 n] [] (.bool (decide (1≤n) && decide (n≤99))) []:=by
 refine v_con [.tmp 2] [] Tryd.func165 rfl rfl rfl (by simp [Tryd.ntmps165]) ?_
 intro Q0 n0 r0
 simp only [Tryd.ntmps165,envFrom,Nat.reduceAdd]
 have T:=Tys.mk (And.intro Ty.t3 Ty.t4)
 have F:=Fc.mk True.intro
 refine v_seqR [0] ?_;intro K1 k1;refine zAssign ⟨?_⟩;refine k1 _ ?_;refine zk ⟨?_⟩;refine v_seqR [2] ?_;intro K2 k2;refine zMove ⟨?_⟩;refine zc (l1In_con _ _ _) ⟨?_⟩;refine zAssign ⟨?_⟩;refine k2 _ ?_;refine zk ⟨?_⟩;refine v_ret ?_;refine r0 _ ?_;refine zf ⟨?_⟩
 exact ret_pure rfl (by first | rfl | simp) (.inl rfl)
end Go.Proofs.YtbameklegpgkfaaDoor
