/- What functions compute. No condition. -/
import Derived.Test.YtmlicajgbgjphaaDoorUty
import Derived.Test.YtmlicajgbgjphaaDoorUmG
set_option linter.unusedSimpArgs false
set_option linter.unusedVariables false
set_option linter.defProp false
namespace Go.Proofs.YtmlicajgbgjphaaDoor
open Go Go.Vm

theorem and255 (a : Int) : 0 ≤ IntKind.i64.wrap (IntKind.u64.wrap ((BitVec.ofInt IntKind.u64.bits a &&& BitVec.ofInt IntKind.u64.bits 255).toNat : Int)) ∧ IntKind.i64.wrap (IntKind.u64.wrap ((BitVec.ofInt IntKind.u64.bits a &&& BitVec.ofInt IntKind.u64.bits 255).toNat : Int)) ≤ 255 := by
  have h : (BitVec.ofInt IntKind.u64.bits a &&& BitVec.ofInt IntKind.u64.bits 255).toNat ≤ 255 := by
    rw [BitVec.toNat_and]
    exact Nat.le_trans Nat.and_le_right (by decide)
  generalize (BitVec.ofInt IntKind.u64.bits a &&& BitVec.ofInt IntKind.u64.bits 255).toNat = n at h
  have e : IntKind.u64.wrap (n : Int) = n := by
    simp only [IntKind.wrap, IntKind.bits, IntKind.signed]
    simp
    omega
  rw [e, wrap64 (by omega) (by omega)]
  omega
theorem tmod_in {x m : Int} (hx : 0 ≤ x) (hm : 1 < m) : 0 ≤ x.tmod m ∧ x.tmod m < m := ⟨Int.tmod_nonneg m hx, Int.tmod_lt_of_pos x (by omega)⟩

set_option maxHeartbeats 1000000 in
theorem next_con (code : List Int) (a s : Int) (hcode : ∀ x ∈ code, 0 ≤ x ∧ x ≤ 255) (hcl : code.length ≤ 9223372036854775807) (ha : 0 ≤ a ∧ a < 20000000000) : ConX Tryd.prog 206 [.ptr 0 0 0] [.box (.agg [.sl (code.map (V.int .u8)), .int .i64 a, .int .u64 s]) .shal] (fun r O' => ∃ (v : Int) (a' s' : Int), (0 ≤ v ∧ v ≤ 255) ∧ (a ≤ a' ∧ a' ≤ a + 1) ∧ r = .int .i64 v ∧ O' = [.box (.agg [.sl (code.map (V.int .u8)), .int .i64 a', .int .u64 s']) .shal]) := by
 refine v_conX [.tmp 2] [] Tryd.func206 rfl rfl rfl (by simp [Tryd.ntmps206]) ?_
 intro Q0 n0 r0
 simp only [Tryd.ntmps206, envFrom, Nat.reduceAdd]
 have T := Tys.mk (And.intro Ty.t3 (And.intro Ty.t5 (And.intro Ty.t43 (And.intro Ty.t142 (And.intro Ty.t144 Ty.t202)))))
 have F := Fc.mk True.intro
 refine v_seqR [0] ?_; intro K1 k1
 refine zAssign ⟨?_⟩
 refine k1 _ ?_
 refine zk ⟨?_⟩
 refine v_seqR [0,3] ?_; intro K2 k2
 refine zAssign ⟨?_⟩
 refine k2 _ ?_
 refine zk ⟨?_⟩
 refine v_seq ?_; intro Q3 n3 e3 r3
 refine v_seq ?_; intro Q4 n4 e4 r4
 refine v_draw (by kernel_rfl) ?_; intro K5 q5 k5
 show aAny _ _ _ _ 10 (Array.replicate 10 false) _
 refine zdMove q5 true 0 4 ?_
 refine zdNilCheck q5 true 1 5 ?_
 refine zdFieldAddr q5 true 2 6 ?_
 refine zdLoad q5 true 3 7 ?_
 refine zdMove q5 true 4 8 ?_
 refine zdNilCheck q5 true 5 9 ?_
 refine zdFieldAddr q5 true 6 10 ?_
 refine zdLoad q5 true 7 11 ?_
 refine zdLen q5 true 8 12 ?_
 refine zdBinOp q5 true 9 13 ?_
 refine aAny_done (by kernel_rfl) ?_
 refine k5 _ ?_
 refine n4 _ _ (weak_keep [0, 3, 13] _) ?_
 refine zk ⟨?_⟩
 refine v_condS _ rfl ?_ ?_
 ·intro hc0
  have hlt : a.toNat < code.length := by omega
  obtain ⟨x, hx⟩ : ∃ x, code[a.toNat]? = some x := ⟨code[a.toNat], List.getElem?_eq_getElem hlt⟩
  have hxb := hcode x (List.mem_of_getElem? hx)
  have hxw : IntKind.i64.wrap x = x := wrap64 (by omega) (by omega)
  refine v_draw (by kernel_rfl) ?_; intro K7 q7 k7
  show aAny _ _ _ _ 12 (Array.replicate 12 false) _
  have F := Fc.mk (And.intro (fun f => getD_map (f := f) hx) hxw)
  refine zdMove q7 true 0 14 ?_
  refine zdNilCheck q7 true 1 15 ?_
  refine zdFieldAddr q7 true 2 16 ?_
  refine zdLoad q7 true 3 17 ?_
  refine zdMove q7 true 4 18 ?_
  refine zdNilCheck q7 true 5 19 ?_
  refine zdFieldAddr q7 true 6 20 ?_
  refine zdLoad q7 true 7 21 ?_
  refine zdIndexAddr q7 true 8 22 ?_
  refine zdLoad q7 true 9 23 ?_
  refine zdConvert q7 true 10 24 ?_
  refine zoAssign 11 ⟨?_⟩
  refine aAny_done (by kernel_rfl) ?_
  refine k7 _ ?_
  refine n3 _ _ (weak_keep [0, 3] _) ?_
  refine zk ⟨?_⟩
  refine v_seqR [0,3] ?_; intro K8 k8
  refine zMove ⟨?_⟩
  refine zNilCheck ⟨?_⟩
  refine zFieldAddr ⟨?_⟩
  refine zLoad ⟨?_⟩
  refine zBinOpW ⟨?_⟩
  refine zNilCheck ⟨?_⟩
  refine zFieldAddr ⟨?_⟩
  refine zStore ⟨?_⟩
  refine k8 _ ?_
  refine zk ⟨?_⟩
  refine v_seqR [0,3] ?_; intro K9 k9
  refine zMove ⟨?_⟩
  refine zMove ⟨?_⟩
  refine zNilCheck ⟨?_⟩
  refine zFieldAddr ⟨?_⟩
  refine zLoad ⟨?_⟩
  refine zBinOpW ⟨?_⟩
  refine zMove ⟨?_⟩
  refine zConvert ⟨?_⟩
  refine zBinOpW ⟨?_⟩
  refine zBinOpW ⟨?_⟩
  refine zNilCheck ⟨?_⟩
  refine zFieldAddr ⟨?_⟩
  refine zStore ⟨?_⟩
  refine k9 _ ?_
  refine zk ⟨?_⟩
  refine v_seq ?_; intro Q10 n10 e10 r10
  refine v_seq ?_; intro Q11 n11 e11 r11
  refine v_draw (by kernel_rfl) ?_; intro K12 q12 k12
  show aAny _ _ _ _ 10 (Array.replicate 10 false) _
  refine zdMove q12 true 0 44 ?_
  refine zdNilCheck q12 true 1 45 ?_
  refine zdFieldAddr q12 true 2 46 ?_
  refine zdLoad q12 true 3 47 ?_
  refine zdMove q12 true 4 48 ?_
  refine zdNilCheck q12 true 5 49 ?_
  refine zdFieldAddr q12 true 6 50 ?_
  refine zdLoad q12 true 7 51 ?_
  refine zdLen q12 true 8 52 ?_
  refine zdBinOp q12 true 9 53 ?_
  refine aAny_done (by kernel_rfl) ?_
  refine k12 _ ?_
  refine n11 _ _ (weak_keep [0, 3, 53] _) ?_
  refine zk ⟨?_⟩
  refine v_condS _ rfl ?_ ?_
  ·intro hc1
   refine v_seqR [2] ?_; intro K14 k14
   refine zMove ⟨?_⟩
   refine zAssign ⟨?_⟩
   refine k14 _ ?_
   refine zk ⟨?_⟩
   refine v_ret ?_
   refine r10 _ ?_
   refine r0 _ ?_
   refine zf ⟨?_⟩
   refine ret_viewX ?_
   exact ⟨_, _, _, by omega, by omega, rfl, rfl⟩
  ·intro hc1
   refine v_skip ?_
   refine n10 _ _ (weak_keep [0] _) ?_
   refine zk ⟨?_⟩
   refine v_seqR [2] ?_; intro K15 k15
   refine zMove ⟨?_⟩
   refine zNilCheck ⟨?_⟩
   refine zFieldAddr ⟨?_⟩
   refine zLoad ⟨?_⟩
   refine zBinOp ⟨?_⟩
   refine zBinOp ⟨?_⟩
   refine zConvert ⟨?_⟩
   refine zAssign ⟨?_⟩
   refine k15 _ ?_
   refine zk ⟨?_⟩
   refine v_ret ?_
   refine r0 _ ?_
   refine zf ⟨?_⟩
   refine ret_viewX ?_
   exact ⟨_, _, _, and255 _, by omega, rfl, rfl⟩
 ·intro hc0
  refine v_skip ?_
  refine n3 _ _ (weak_keep [0, 3] _) ?_
  refine zk ⟨?_⟩
  refine v_seqR [0,3] ?_; intro K16 k16
  refine zMove ⟨?_⟩
  refine zNilCheck ⟨?_⟩
  refine zFieldAddr ⟨?_⟩
  refine zLoad ⟨?_⟩
  refine zBinOpW ⟨?_⟩
  refine zNilCheck ⟨?_⟩
  refine zFieldAddr ⟨?_⟩
  refine zStore ⟨?_⟩
  refine k16 _ ?_
  refine zk ⟨?_⟩
  refine v_seqR [0,3] ?_; intro K17 k17
  refine zMove ⟨?_⟩
  refine zMove ⟨?_⟩
  refine zNilCheck ⟨?_⟩
  refine zFieldAddr ⟨?_⟩
  refine zLoad ⟨?_⟩
  refine zBinOpW ⟨?_⟩
  refine zMove ⟨?_⟩
  refine zConvert ⟨?_⟩
  refine zBinOpW ⟨?_⟩
  refine zBinOpW ⟨?_⟩
  refine zNilCheck ⟨?_⟩
  refine zFieldAddr ⟨?_⟩
  refine zStore ⟨?_⟩
  refine k17 _ ?_
  refine zk ⟨?_⟩
  refine v_seq ?_; intro Q18 n18 e18 r18
  refine v_seq ?_; intro Q19 n19 e19 r19
  refine v_draw (by kernel_rfl) ?_; intro K20 q20 k20
  show aAny _ _ _ _ 10 (Array.replicate 10 false) _
  refine zdMove q20 true 0 44 ?_
  refine zdNilCheck q20 true 1 45 ?_
  refine zdFieldAddr q20 true 2 46 ?_
  refine zdLoad q20 true 3 47 ?_
  refine zdMove q20 true 4 48 ?_
  refine zdNilCheck q20 true 5 49 ?_
  refine zdFieldAddr q20 true 6 50 ?_
  refine zdLoad q20 true 7 51 ?_
  refine zdLen q20 true 8 52 ?_
  refine zdBinOp q20 true 9 53 ?_
  refine aAny_done (by kernel_rfl) ?_
  refine k20 _ ?_
  refine n19 _ _ (weak_keep [0, 3, 53] _) ?_
  refine zk ⟨?_⟩
  refine v_condS _ rfl ?_ ?_
  ·intro hc2
   refine v_seqR [2] ?_; intro K22 k22
   refine zMove ⟨?_⟩
   refine zAssign ⟨?_⟩
   refine k22 _ ?_
   refine zk ⟨?_⟩
   refine v_ret ?_
   refine r18 _ ?_
   refine r0 _ ?_
   refine zf ⟨?_⟩
   refine ret_viewX ?_
   exact ⟨_, _, _, by omega, by omega, rfl, rfl⟩
  ·intro hc2
   refine v_skip ?_
   refine n18 _ _ (weak_keep [0] _) ?_
   refine zk ⟨?_⟩
   refine v_seqR [2] ?_; intro K23 k23
   refine zMove ⟨?_⟩
   refine zNilCheck ⟨?_⟩
   refine zFieldAddr ⟨?_⟩
   refine zLoad ⟨?_⟩
   refine zBinOp ⟨?_⟩
   refine zBinOp ⟨?_⟩
   refine zConvert ⟨?_⟩
   refine zAssign ⟨?_⟩
   refine k23 _ ?_
   refine zk ⟨?_⟩
   refine v_ret ?_
   refine r0 _ ?_
   refine zf ⟨?_⟩
   refine ret_viewX ?_
   exact ⟨_, _, _, and255 _, by omega, rfl, rfl⟩
set_option maxHeartbeats 1000000 in
theorem pick_con (code : List Int) (a s : Int) (m : Int) (hcode : ∀ x ∈ code, 0 ≤ x ∧ x ≤ 255) (hcl : code.length ≤ 9223372036854775807) (ha : 0 ≤ a ∧ a < 19000000000) : ConX Tryd.prog 122 [.ptr 0 0 0, .int .i64 m] [.box (.agg [.sl (code.map (V.int .u8)), .int .i64 a, .int .u64 s]) .shal] (fun r O' => ∃ (v : Int) (a' s' : Int), (0 ≤ v ∧ (v < m ∨ (m ≤ 1 ∧ v = 0))) ∧ (a ≤ a' ∧ a' ≤ a + 2) ∧ r = .int .i64 v ∧ O' = [.box (.agg [.sl (code.map (V.int .u8)), .int .i64 a', .int .u64 s']) .shal]) := by
 refine v_conX [.tmp 4] [(206, [0])] Tryd.func122 rfl rfl rfl (by simp [Tryd.ntmps122]) ?_
 intro Q0 n0 r0
 simp only [Tryd.ntmps122, envFrom, Nat.reduceAdd]
 have T := Tys.mk (And.intro Ty.t3 (And.intro Ty.t5 (And.intro Ty.t43 (And.intro Ty.t141 (And.intro Ty.t142 Ty.t144)))))
 have F := Fc.mk True.intro
 refine v_seqR [0,1] ?_; intro K1 k1
 refine zAssign ⟨?_⟩
 refine k1 _ ?_
 refine zk ⟨?_⟩
 refine v_seq ?_; intro Q2 n2 e2 r2
 refine v_seqR [0,1,7] ?_; intro K3 k3
 refine zMove ⟨?_⟩
 refine zBinOp ⟨?_⟩
 refine k3 _ ?_
 refine zk ⟨?_⟩
 refine v_condS _ rfl ?_ ?_
 ·intro hc0
  refine v_seqR [4] ?_; intro K5 k5
  refine zAssign ⟨?_⟩
  refine k5 _ ?_
  refine zk ⟨?_⟩
  refine v_ret ?_
  refine r2 _ ?_
  refine r0 _ ?_
  refine zf ⟨?_⟩
  refine ret_viewX ?_
  exact ⟨0, _, _, by omega, by omega, rfl, rfl⟩
 ·intro hc0
  refine v_skip ?_
  refine n2 _ _ (weak_keep [0, 1] _) ?_
  refine zk ⟨?_⟩
  refine v_seqR [0,1,5] ?_; intro K6 k6
  refine zMove ⟨?_⟩
  refine v_op ?_; intro K k
  simp only [zE, zM, aStepM, optable, set_some, Nat.reduceEqDiff, reduceIte, Nat.reduceLT, implies_true, forall_const, reduceCtorEq, V.ofValue, V.ofScalar, V.un, V.gd, aExec, lentIds, lendOf, ‹Tys _›.h, ‹Fc _›.h]
  repeat (refine andC ?_)
  refine aCall_lentXA (next_con code a s hcode hcl (by omega)) ?_
  rintro _ _ ⟨v9, a9, s9, h9, k9, rfl, rfl⟩
  refine ⟨_, _, rfl, by first | exact .inr (List.all_eq_true.1 rfl) | exact .inl ⟨rfl, by simp [Blk.kindIs, fillK_fd]⟩, ?_⟩
  refine k _ ?_; clear k K
  simp only [zY, zW, set_some, Nat.reduceEqDiff, reduceIte, rho_one, rho_s, rho2_s, rho2_0, rho2_1, V.ren, V.renL, List.set_cons_zero, List.set_cons_succ, rho, Nat.reduceAdd, Nat.add_zero]
  refine zAssign ⟨?_⟩
  refine k6 _ ?_
  refine zk ⟨?_⟩
  refine v_seq ?_; intro Q7 n7 e7 r7
  refine v_seqR [0,1,5,11] ?_; intro K8 k8
  refine zMove ⟨?_⟩
  refine zBinOp ⟨?_⟩
  refine k8 _ ?_
  refine zk ⟨?_⟩
  refine v_condS _ rfl ?_ ?_
  ·intro hc1
   refine v_region ?_; intro K10 k10
   refine zMove ⟨?_⟩
   refine zBinOpW ⟨?_⟩
   refine zMove ⟨?_⟩
   refine v_op ?_; intro K k
   simp only [zE, zM, aStepM, optable, set_some, Nat.reduceEqDiff, reduceIte, Nat.reduceLT, implies_true, forall_const, reduceCtorEq, V.ofValue, V.ofScalar, V.un, V.gd, aExec, lentIds, lendOf, ‹Tys _›.h, ‹Fc _›.h]
   repeat (refine andC ?_)
   refine aCall_lentXA (next_con code a9 s9 hcode hcl (by omega)) ?_
   rintro _ _ ⟨v15, a15, s15, h15, k15, rfl, rfl⟩
   refine ⟨_, _, rfl, by first | exact .inr (List.all_eq_true.1 rfl) | exact .inl ⟨rfl, by simp [Blk.kindIs, fillK_fd]⟩, ?_⟩
   refine k _ ?_; clear k K
   simp only [zY, zW, set_some, Nat.reduceEqDiff, reduceIte, rho_one, rho_s, rho2_s, rho2_0, rho2_1, V.ren, V.renL, List.set_cons_zero, List.set_cons_succ, rho, Nat.reduceAdd, Nat.add_zero]
   refine zBinOpW ⟨?_⟩
   refine zAssign ⟨?_⟩
   refine k10 _ ?_
   refine n7 _ _ (weak_keep [1, 5] _) ?_
   refine zk ⟨?_⟩
   refine v_seqR [4] ?_; intro K11 k11
   refine zMove ⟨?_⟩
   refine zMove ⟨?_⟩
   refine zBinOp ⟨?_⟩
   refine zAssign ⟨?_⟩
   refine k11 _ ?_
   refine zk ⟨?_⟩
   refine v_ret ?_
   refine r0 _ ?_
   refine zf ⟨?_⟩
   have hm1 : 1 < m := by omega
   have ht := tmod_in (x := v9 * 256 + v15) (m := m) (by omega) hm1
   refine ret_viewX ?_
   exact ⟨_, _, _, by omega, by omega, rfl, rfl⟩
  ·intro hc1
   refine v_skip ?_
   refine n7 _ _ (weak_keep [1, 5] _) ?_
   refine zk ⟨?_⟩
   refine v_seqR [4] ?_; intro K12 k12
   refine zMove ⟨?_⟩
   refine zMove ⟨?_⟩
   refine zBinOp ⟨?_⟩
   refine zAssign ⟨?_⟩
   refine k12 _ ?_
   refine zk ⟨?_⟩
   refine v_ret ?_
   refine r0 _ ?_
   refine zf ⟨?_⟩
   have hm1 : 1 < m := by omega
   have ht := tmod_in (x := v9) (m := m) (by omega) hm1
   refine ret_viewX ?_
   exact ⟨_, _, _, by omega, by omega, rfl, rfl⟩
set_option maxHeartbeats 1000000 in
theorem one_con (code : List Int) (a s : Int) (m : Int) (hcode : ∀ x ∈ code, 0 ≤ x ∧ x ≤ 255) (hcl : code.length ≤ 9223372036854775807) (ha : 0 ≤ a ∧ a < 18000000000) : ConX Tryd.prog 121 [.ptr 0 0 0, .int .i64 m] [.box (.agg [.sl (code.map (V.int .u8)), .int .i64 a, .int .u64 s]) .shal] (fun r O' => ∃ (v : Bool) (a' s' : Int), (True) ∧ (a ≤ a' ∧ a' ≤ a + 2) ∧ r = .bool v ∧ O' = [.box (.agg [.sl (code.map (V.int .u8)), .int .i64 a', .int .u64 s']) .shal]) := by
 refine v_conX [.tmp 4] [(122, [0])] Tryd.func121 rfl rfl rfl (by simp [Tryd.ntmps121]) ?_
 intro Q0 n0 r0
 simp only [Tryd.ntmps121, envFrom, Nat.reduceAdd]
 have T := Tys.mk (And.intro Ty.t3 (And.intro Ty.t5 (And.intro Ty.t43 (And.intro Ty.t141 (And.intro Ty.t142 Ty.t144)))))
 have F := Fc.mk True.intro
 refine v_seqR [0,1] ?_; intro K1 k1
 refine zAssign ⟨?_⟩
 refine k1 _ ?_
 refine zk ⟨?_⟩
 refine v_seqR [4] ?_; intro K2 k2
 refine zMove ⟨?_⟩
 refine zMove ⟨?_⟩
 refine v_op ?_; intro K k
 simp only [zE, zM, aStepM, optable, set_some, Nat.reduceEqDiff, reduceIte, Nat.reduceLT, implies_true, forall_const, reduceCtorEq, V.ofValue, V.ofScalar, V.un, V.gd, aExec, lentIds, lendOf, ‹Tys _›.h, ‹Fc _›.h]
 repeat (refine andC ?_)
 refine aCall_lentXA (pick_con code a s (m) hcode hcl (by omega)) ?_
 rintro _ _ ⟨v7, a7, s7, h7, k7, rfl, rfl⟩
 refine ⟨_, _, rfl, by first | exact .inr (List.all_eq_true.1 rfl) | exact .inl ⟨rfl, by simp [Blk.kindIs, fillK_fd]⟩, ?_⟩
 refine k _ ?_; clear k K
 simp only [zY, zW, set_some, Nat.reduceEqDiff, reduceIte, rho_one, rho_s, rho2_s, rho2_0, rho2_1, V.ren, V.renL, List.set_cons_zero, List.set_cons_succ, rho, Nat.reduceAdd, Nat.add_zero]
 refine zBinOp ⟨?_⟩
 refine zAssign ⟨?_⟩
 refine k2 _ ?_
 refine zk ⟨?_⟩
 refine v_ret ?_
 refine r0 _ ?_
 refine zf ⟨?_⟩
 refine ret_viewX ?_
 exact ⟨_, _, _, trivial, by omega, rfl, rfl⟩
set_option maxHeartbeats 1000000 in
theorem among_con (code : List Int) (a s : Int) (l : List Int) (hl : 0 < l.length ∧ l.length ≤ 1048576) (hcode : ∀ x ∈ code, 0 ≤ x ∧ x ≤ 255) (hcl : code.length ≤ 9223372036854775807) (ha : 0 ≤ a ∧ a < 18000000000) : ConX Tryd.prog 123 [.ptr 0 0 0, .ref 1] [.box (.agg [.sl (code.map (V.int .u8)), .int .i64 a, .int .u64 s]) .shal, .arr (l.map (V.int .i64)) .flat] (fun r O' => ∃ (v : Int) (a' s' : Int), (v ∈ l) ∧ (a ≤ a' ∧ a' ≤ a + 2) ∧ r = .int .i64 v ∧ O' = [.box (.agg [.sl (code.map (V.int .u8)), .int .i64 a', .int .u64 s']) .shal, .arr (l.map (V.int .i64)) .flat]) := by
 refine v_conX [.tmp 4] [(122, [0])] Tryd.func123 rfl rfl rfl (by simp [Tryd.ntmps123]) ?_
 intro Q0 n0 r0
 simp only [Tryd.ntmps123, envFrom, Nat.reduceAdd]
 have T := Tys.mk (And.intro Ty.t3 (And.intro Ty.t5 (And.intro Ty.t43 (And.intro Ty.t48 (And.intro Ty.t141 (And.intro Ty.t142 Ty.t144))))))
 have F := Fc.mk True.intro
 refine v_seqR [0,1] ?_; intro K1 k1
 refine zAssign ⟨?_⟩
 refine k1 _ ?_
 refine zk ⟨?_⟩
 refine v_seqR [4] ?_; intro K2 k2
 refine zMove ⟨?_⟩
 refine zMove ⟨?_⟩
 refine zMove ⟨?_⟩
 refine zLen ⟨?_⟩
 refine v_op ?_; intro K k
 simp only [zE, zM, aStepM, optable, set_some, Nat.reduceEqDiff, reduceIte, Nat.reduceLT, implies_true, forall_const, reduceCtorEq, V.ofValue, V.ofScalar, V.un, V.gd, aExec, lentIds, lendOf, ‹Tys _›.h, ‹Fc _›.h]
 repeat (refine andC ?_)
 refine aCall_lentXA (pick_con code a s ((l.length : Int)) hcode hcl (by omega)) ?_
 rintro _ _ ⟨v9, a9, s9, h9, k9, rfl, rfl⟩
 obtain ⟨x, hx⟩ : ∃ x, l[v9.toNat]? = some x := ⟨l[v9.toNat]'(by omega), List.getElem?_eq_getElem (by omega)⟩
 refine ⟨_, _, rfl, by first | exact .inr (List.all_eq_true.1 rfl) | exact .inl ⟨rfl, by simp [Blk.kindIs, fillK_fd]⟩, ?_⟩
 refine k _ ?_; clear k K
 simp only [zY, zW, set_some, Nat.reduceEqDiff, reduceIte, rho_one, rho_s, rho2_s, rho2_0, rho2_1, V.ren, V.renL, List.set_cons_zero, List.set_cons_succ, rho, Nat.reduceAdd, Nat.add_zero]
 have F := Fc.mk (fun f => getD_map (f := f) hx)
 refine zIndexAddr ⟨?_⟩
 refine zLoad ⟨?_⟩
 refine zAssign ⟨?_⟩
 refine k2 _ ?_
 refine zk ⟨?_⟩
 refine v_ret ?_
 refine r0 _ ?_
 refine zf ⟨?_⟩
 refine ret_viewX ?_
 exact ⟨_, _, _, List.mem_of_getElem? hx, by omega, rfl, rfl⟩
set_option maxHeartbeats 1000000 in
theorem withinOf_con (code : List Int) (a s : Int) (hcode : ∀ x ∈ code, 0 ≤ x ∧ x ≤ 255) (hcl : code.length ≤ 9223372036854775807) (ha : 0 ≤ a ∧ a < 17000000000) : ConX Tryd.prog 128 [.ptr 0 0 0] [.box (.agg [.sl (code.map (V.int .u8)), .int .i64 a, .int .u64 s]) .shal] (fun r O' => ∃ (v : Int) (a' s' : Int), (-1 ≤ v ∧ v ≤ 3601) ∧ (a ≤ a' ∧ a' ≤ a + 4) ∧ r = .int .i64 v ∧ O' = [.box (.agg [.sl (code.map (V.int .u8)), .int .i64 a', .int .u64 s']) .shal]) := by
 refine v_conX [.tmp 2] [(123, [0, 1])] Tryd.func128 rfl rfl rfl (by simp [Tryd.ntmps128]) ?_
 intro Q0 n0 r0
 simp only [Tryd.ntmps128, envFrom, Nat.reduceAdd]
 have T := Tys.mk (And.intro Ty.t3 (And.intro Ty.t5 (And.intro Ty.t43 (And.intro Ty.t48 (And.intro Ty.t141 (And.intro Ty.t142 Ty.t144))))))
 have F := Fc.mk True.intro
 refine v_seqR [0] ?_; intro K1 k1
 refine zAssign ⟨?_⟩
 refine k1 _ ?_
 refine zk ⟨?_⟩
 refine v_seqR [2] ?_; intro K2 k2
 refine zMove ⟨?_⟩
 refine zMove ⟨?_⟩
 refine zBuildSlice ⟨?_⟩
 refine v_op ?_; intro K k
 simp only [zE, zM, aStepM, optable, set_some, Nat.reduceEqDiff, reduceIte, Nat.reduceLT, implies_true, forall_const, reduceCtorEq, V.ofValue, V.ofScalar, V.un, V.gd, aExec, lentIds, lendOf, ‹Tys _›.h, ‹Fc _›.h]
 repeat (refine andC ?_)
 refine aCall_lent2XA (among_con code a s [-1, 3601] (by simp) hcode hcl (by omega)) ?_
 rintro _ _ ⟨v6, a6, s6, h6, k6, rfl, rfl⟩
 refine ⟨_, _, _, rfl, by first | exact .inr (List.all_eq_true.1 rfl) | exact .inl ⟨rfl, by simp [Blk.kindIs, fillK_fd]⟩, ?_⟩
 refine k _ ?_; clear k K
 simp only [zY, zW, set_some, Nat.reduceEqDiff, reduceIte, rho_one, rho_s, rho2_s, rho2_0, rho2_1, V.ren, V.renL, List.set_cons_zero, List.set_cons_succ, rho, Nat.reduceAdd, Nat.add_zero]
 simp only [List.mem_cons, List.not_mem_nil, or_false] at h6
 refine zBuildSlice ⟨?_⟩
 refine v_op ?_; intro K k
 simp only [zE, zM, aStepM, optable, set_some, Nat.reduceEqDiff, reduceIte, Nat.reduceLT, implies_true, forall_const, reduceCtorEq, V.ofValue, V.ofScalar, V.un, V.gd, aExec, lentIds, lendOf, ‹Tys _›.h, ‹Fc _›.h]
 repeat (refine andC ?_)
 refine aCall_lent2XA (among_con code a6 s6 [0, 5, 29, 30, 60, 3600, v6] (by simp) hcode hcl (by omega)) ?_
 rintro _ _ ⟨v8, a8, s8, h8, k8, rfl, rfl⟩
 refine ⟨_, _, _, rfl, by first | exact .inr (List.all_eq_true.1 rfl) | exact .inl ⟨rfl, by simp [Blk.kindIs, fillK_fd]⟩, ?_⟩
 refine k _ ?_; clear k K
 simp only [zY, zW, set_some, Nat.reduceEqDiff, reduceIte, rho_one, rho_s, rho2_s, rho2_0, rho2_1, V.ren, V.renL, List.set_cons_zero, List.set_cons_succ, rho, Nat.reduceAdd, Nat.add_zero]
 simp only [List.mem_cons, List.not_mem_nil, or_false] at h8
 refine zAssign ⟨?_⟩
 refine k2 _ ?_
 refine zk ⟨?_⟩
 refine v_ret ?_
 refine r0 _ ?_
 refine zf ⟨?_⟩
 refine ret_viewX ?_
 exact ⟨_, _, _, by omega, by omega, rfl, rfl⟩
theorem snoc_Detector {a : List (Int × Int × Int × Bool)} {x0 : Int} {x1 : Int} {x2 : Int} {x3 : Bool} : a.map (fun t : Int × Int × Int × Bool => V.agg [V.int .i64 t.1, V.int .i64 t.2.1, V.int .i64 t.2.2.1, V.bool t.2.2.2]) ++ [V.agg [V.int .i64 x0, V.int .i64 x1, V.int .i64 x2, V.bool x3]] = (a ++ [(x0, x1, x2, x3)]).map (fun t : Int × Int × Int × Bool => V.agg [V.int .i64 t.1, V.int .i64 t.2.1, V.int .i64 t.2.2.1, V.bool t.2.2.2]) := by simp
theorem setat_Detector {a : List (Int × Int × Int × Bool)} {i : Nat} {x0 : Int} {x1 : Int} {x2 : Int} {x3 : Bool} : (a.map (fun t : Int × Int × Int × Bool => V.agg [V.int .i64 t.1, V.int .i64 t.2.1, V.int .i64 t.2.2.1, V.bool t.2.2.2])).set i (V.agg [V.int .i64 x0, V.int .i64 x1, V.int .i64 x2, V.bool x3]) = (a.set i (x0, x1, x2, x3)).map (fun t : Int × Int × Int × Bool => V.agg [V.int .i64 t.1, V.int .i64 t.2.1, V.int .i64 t.2.2.1, V.bool t.2.2.2]) := by rw [List.map_set]

theorem snoc_Signal {a : List (Int × Int)} {x0 : Int} {x1 : Int} : a.map (fun t : Int × Int => V.agg [V.int .i64 t.1, V.int .i64 t.2]) ++ [V.agg [V.int .i64 x0, V.int .i64 x1]] = (a ++ [(x0, x1)]).map (fun t : Int × Int => V.agg [V.int .i64 t.1, V.int .i64 t.2]) := by simp
theorem setat_Signal {a : List (Int × Int)} {i : Nat} {x0 : Int} {x1 : Int} : (a.map (fun t : Int × Int => V.agg [V.int .i64 t.1, V.int .i64 t.2])).set i (V.agg [V.int .i64 x0, V.int .i64 x1]) = (a.set i (x0, x1)).map (fun t : Int × Int => V.agg [V.int .i64 t.1, V.int .i64 t.2]) := by rw [List.map_set]

set_option maxHeartbeats 1000000 in
theorem detectors_con (code : List Int) (a s : Int) (hcode : ∀ x ∈ code, 0 ≤ x ∧ x ≤ 255) (hcl : code.length ≤ 9223372036854775807) (ha : 0 ≤ a ∧ a < 16000000000) : ConX Tryd.prog 120 [.ptr 0 0 0] [.box (.agg [.sl (code.map (V.int .u8)), .int .i64 a, .int .u64 s]) .shal] (fun r O' => ∃ (l : List (Int × Int × Int × Bool)) (a' s' : Int), (l.length ≤ 21) ∧ (a ≤ a' ∧ a' ≤ a + 1000) ∧ r = .ref 1 ∧ O' = [.box (.agg [.sl (code.map (V.int .u8)), .int .i64 a', .int .u64 s']) .shal, .arr (l.map (fun t : Int × Int × Int × Bool => V.agg [V.int .i64 t.1, V.int .i64 t.2.1, V.int .i64 t.2.2.1, V.bool t.2.2.2])) .flat]) := by
 refine v_conX [.tmp 2] [(123, [0, 1]), (122, [0]), (121, [0])] Tryd.func120 rfl rfl rfl (by simp [Tryd.ntmps120]) ?_
 intro Q0 n0 r0
 simp only [Tryd.ntmps120, envFrom, Nat.reduceAdd]
 have T := Tys.mk (And.intro Ty.t3 (And.intro Ty.t4 (And.intro Ty.t5 (And.intro Ty.t33 (And.intro Ty.t43 (And.intro Ty.t48 (And.intro Ty.t61 (And.intro Ty.t141 (And.intro Ty.t142 Ty.t144)))))))))
 have F := Fc.mk True.intro
 refine v_seqR [0] ?_; intro K1 k1
 refine zAssign ⟨?_⟩
 refine k1 _ ?_
 refine zk ⟨?_⟩
 refine v_seqR [0,3] ?_; intro K2 k2
 refine zAssign ⟨?_⟩
 refine k2 _ ?_
 refine zk ⟨?_⟩
 refine v_seqR [0,3,4] ?_; intro K3 k3
 refine zMove ⟨?_⟩
 refine v_op ?_; intro K k
 simp only [zE, zM, aStepM, optable, set_some, Nat.reduceEqDiff, reduceIte, Nat.reduceLT, implies_true, forall_const, reduceCtorEq, V.ofValue, V.ofScalar, V.un, V.gd, aExec, lentIds, lendOf, ‹Tys _›.h, ‹Fc _›.h]
 repeat (refine andC ?_)
 refine aCall_lentXA (pick_con code a s (8) hcode hcl (by omega)) ?_
 rintro _ _ ⟨v8, a8, s8, h8, k8, rfl, rfl⟩
 refine ⟨_, _, rfl, by first | exact .inr (List.all_eq_true.1 rfl) | exact .inl ⟨rfl, by simp [Blk.kindIs, fillK_fd]⟩, ?_⟩
 refine k _ ?_; clear k K
 simp only [zY, zW, set_some, Nat.reduceEqDiff, reduceIte, rho_one, rho_s, rho2_s, rho2_0, rho2_1, V.ren, V.renL, List.set_cons_zero, List.set_cons_succ, rho, Nat.reduceAdd, Nat.add_zero]
 refine zAssign ⟨?_⟩
 refine k3 _ ?_
 refine zk ⟨?_⟩
 refine v_join (A := Int × Int × Int) (fun p => ⟨[(0, .ptr 0 0 0), (3, .ref 1), (4, .int .i64 p.1)], [.box (.agg [.sl (code.map (V.int .u8)), .int .i64 p.2.1, .int .u64 p.2.2]) .shal, .arr [] .flat], false, 73, 0⟩) (fun p => (0 ≤ p.1 ∧ p.1 ≤ 21) ∧ a ≤ p.2.1 ∧ p.2.1 ≤ a + 6) ?_ ?_
 ·intro Q4 n4 e4 r4
  refine v_seqR [0,3,4,10] ?_; intro K5 k5
  refine zMove ⟨?_⟩
  refine v_op ?_; intro K k
  simp only [zE, zM, aStepM, optable, set_some, Nat.reduceEqDiff, reduceIte, Nat.reduceLT, implies_true, forall_const, reduceCtorEq, V.ofValue, V.ofScalar, V.un, V.gd, aExec, lentIds, lendOf, ‹Tys _›.h, ‹Fc _›.h]
  repeat (refine andC ?_)
  refine aCall_lentXA (one_con code a8 s8 (12) hcode hcl (by omega)) ?_
  rintro _ _ ⟨v10, a10, s10, h10, k10, rfl, rfl⟩
  refine ⟨_, _, rfl, by first | exact .inr (List.all_eq_true.1 rfl) | exact .inl ⟨rfl, by simp [Blk.kindIs, fillK_fd]⟩, ?_⟩
  refine k _ ?_; clear k K
  simp only [zY, zW, set_some, Nat.reduceEqDiff, reduceIte, rho_one, rho_s, rho2_s, rho2_0, rho2_1, V.ren, V.renL, List.set_cons_zero, List.set_cons_succ, rho, Nat.reduceAdd, Nat.add_zero]
  refine k5 _ ?_
  refine zk ⟨?_⟩
  refine v_condS _ rfl ?_ ?_
  ·intro hc0
   refine v_region ?_; intro K7 k7
   refine zMove ⟨?_⟩
   refine v_op ?_; intro K k
   simp only [zE, zM, aStepM, optable, set_some, Nat.reduceEqDiff, reduceIte, Nat.reduceLT, implies_true, forall_const, reduceCtorEq, V.ofValue, V.ofScalar, V.un, V.gd, aExec, lentIds, lendOf, ‹Tys _›.h, ‹Fc _›.h]
   repeat (refine andC ?_)
   refine aCall_lentXA (pick_con code a10 s10 (2) hcode hcl (by omega)) ?_
   rintro _ _ ⟨v12, a12, s12, h12, k12, rfl, rfl⟩
   refine ⟨_, _, rfl, by first | exact .inr (List.all_eq_true.1 rfl) | exact .inl ⟨rfl, by simp [Blk.kindIs, fillK_fd]⟩, ?_⟩
   refine k _ ?_; clear k K
   simp only [zY, zW, set_some, Nat.reduceEqDiff, reduceIte, rho_one, rho_s, rho2_s, rho2_0, rho2_1, V.ren, V.renL, List.set_cons_zero, List.set_cons_succ, rho, Nat.reduceAdd, Nat.add_zero]
   refine zBinOpW ⟨?_⟩
   refine zAssign ⟨?_⟩
   refine k7 _ ?_
   refine n4 (20 + v12, a12, s12) _ ?_ ?_
   ·exact ⟨by show 0 ≤ 20 + v12 ∧ 20 + v12 ≤ 21; omega, by show a ≤ a12 ∧ a12 ≤ a + 6; omega⟩
   ·refine weak_both [0, 3, 4] [0, 2] (by decide) (by simp) ?_ ?_ ?_
    ·simp [keep_mk, keepE_nil, keepE_cons, look_cons, V.only, V.onlyL, idx] <;> (first | rfl | decide)
    ·simp [Blk.kindIs, fillK_mix]
    simp only [keep_mk, keepE_nil, keepE_cons, look_cons, look_nil, Nat.reduceEqDiff, reduceIte, St.comp, List.map_cons, List.map_nil, V.ren, V.renL, idx, List.getD_cons_zero, List.getD_cons_succ, Nat.reduceBEq, cond_true, cond_false, Option.map_some, Option.getD_some, Nat.reduceAdd, Nat.beq_eq_true_eq]
    all_goals rfl
  ·intro hc0
   refine v_skip ?_
   refine n4 (v8, a10, s10) _ ?_ ?_
   ·exact ⟨by show 0 ≤ v8 ∧ v8 ≤ 21; omega, by show a ≤ a10 ∧ a10 ≤ a + 6; omega⟩
   ·refine weak_both [0, 3, 4] [0, 2] (by decide) (by simp) ?_ ?_ ?_
    ·simp [keep_mk, keepE_nil, keepE_cons, look_cons, V.only, V.onlyL, idx] <;> (first | rfl | decide)
    ·simp [Blk.kindIs, fillK_mix]
    simp only [keep_mk, keepE_nil, keepE_cons, look_cons, look_nil, Nat.reduceEqDiff, reduceIte, St.comp, List.map_cons, List.map_nil, V.ren, V.renL, idx, List.getD_cons_zero, List.getD_cons_succ, Nat.reduceBEq, cond_true, cond_false, Option.map_some, Option.getD_some, Nat.reduceAdd, Nat.beq_eq_true_eq]
    all_goals rfl
 ·rintro ⟨n, a1, s1⟩ hok4
  obtain ⟨hn, ha1⟩ := hok4
  simp only [] at hn ha1 ⊢
  refine v_seq ?_; intro Q8 n8 e8 r8
  refine v_seqR [0,3,4,5] ?_; intro K9 k9
  have F := Fc.mk True.intro
  refine zAssign ⟨?_⟩
  refine k9 _ ?_
  refine zk ⟨?_⟩
  refine v_block ?_; intro Q10 n10 x10 e10 r10
  refine v_loop (fun p => ⟨[(0, .ptr 0 0 0), (3, .ref 1), (4, .int .i64 n), (5, .int .i64 p.2.1)], [.box (.agg [.sl (code.map (V.int .u8)), .int .i64 p.2.2.1, .int .u64 p.2.2.2]) .shal, .arr (p.1.map (fun t : Int × Int × Int × Bool => V.agg [V.int .i64 t.1, V.int .i64 t.2.1, V.int .i64 t.2.2.1, V.bool t.2.2.2])) .flat], false, 73, 0⟩) (fun p => (p.1.length : Int) ≤ n ∧ (0 ≤ p.2.1 ∧ p.2.1 ≤ 1 + 2 * (p.1.length : Int)) ∧ a1 ≤ p.2.2.1 ∧ p.2.2.1 ≤ a1 + 10 * (p.1.length : Int)) (fun p => (n - (p.1.length : Int)).toNat) (([], 1, a1, s1) : List (Int × Int × Int × Bool) × Int × Int × Int) ?_ ?_ ?_
  ·refine weak_both [0, 3, 4, 5] [0, 1] (by decide) (by simp) ?_ ?_ ?_
   ·simp [keep_mk, keepE_nil, keepE_cons, look_cons, V.only, V.onlyL, idx] <;> (first | rfl | decide)
   ·simp [Blk.kindIs, fillK_mix]
   simp only [keep_mk, keepE_nil, keepE_cons, look_cons, look_nil, Nat.reduceEqDiff, reduceIte, St.comp, List.map_cons, List.map_nil, V.ren, V.renL, idx, List.getD_cons_zero, List.getD_cons_succ, Nat.reduceBEq, cond_true, cond_false, Option.map_some, Option.getD_some, Nat.reduceAdd, Nat.beq_eq_true_eq]
   all_goals rfl
  ·exact ⟨by simpa using hn.1, by simp, by simp⟩
  ·rintro ⟨acc, k, a2, s2⟩ hok11 Q11 n11 e11 r11
   obtain ⟨hal, hk, ha2⟩ := hok11
   simp only [] at hal hk ha2 ⊢
   refine v_seq ?_; intro Q12 n12 e12 r12
   refine v_seqR [0,3,4,5,17] ?_; intro K13 k13
   refine zMove ⟨?_⟩
   refine zLen ⟨?_⟩
   refine zMove ⟨?_⟩
   refine zBinOp ⟨?_⟩
   refine k13 _ ?_
   refine zk ⟨?_⟩
   refine v_condS _ rfl ?_ ?_
   ·intro hc1
    refine v_skip ?_
    refine n12 _ _ (weak_keep [0, 3, 4, 5] _) ?_
    refine zk ⟨?_⟩
    refine v_seq ?_; intro Q15 n15 e15 r15
    refine v_block ?_; intro Q16 n16 x16 e16 r16
    refine v_region ?_; intro K17 k17
    refine zMove ⟨?_⟩
    refine zMove ⟨?_⟩
    refine zMove ⟨?_⟩
    refine v_op ?_; intro K k
    simp only [zE, zM, aStepM, optable, set_some, Nat.reduceEqDiff, reduceIte, Nat.reduceLT, implies_true, forall_const, reduceCtorEq, V.ofValue, V.ofScalar, V.un, V.gd, aExec, lentIds, lendOf, ‹Tys _›.h, ‹Fc _›.h]
    repeat (refine andC ?_)
    refine aCall_lentXA (pick_con code a2 s2 (3) hcode hcl (by omega)) ?_
    rintro _ _ ⟨v26, a26, s26, h26, k26, rfl, rfl⟩
    refine ⟨_, _, rfl, by first | exact .inr (List.all_eq_true.1 rfl) | exact .inl ⟨rfl, by simp [Blk.kindIs, fillK_fd]⟩, ?_⟩
    refine k _ ?_; clear k K
    simp only [zY, zW, set_some, Nat.reduceEqDiff, reduceIte, rho_one, rho_s, rho2_s, rho2_0, rho2_1, V.ren, V.renL, List.set_cons_zero, List.set_cons_succ, rho, Nat.reduceAdd, Nat.add_zero]
    refine zBinOpW ⟨?_⟩
    refine zMove ⟨?_⟩
    refine zBuildSlice ⟨?_⟩
    refine v_op ?_; intro K k
    simp only [zE, zM, aStepM, optable, set_some, Nat.reduceEqDiff, reduceIte, Nat.reduceLT, implies_true, forall_const, reduceCtorEq, V.ofValue, V.ofScalar, V.un, V.gd, aExec, lentIds, lendOf, ‹Tys _›.h, ‹Fc _›.h]
    repeat (refine andC ?_)
    refine aCall_lent2XA (among_con code a26 s26 [0, 0, 1, 1, 2] (by simp) hcode hcl (by omega)) ?_
    rintro _ _ ⟨v30, a30, s30, h30, k30, rfl, rfl⟩
    refine ⟨_, _, _, rfl, by first | exact .inr (List.all_eq_true.1 rfl) | exact .inl ⟨rfl, by simp [Blk.kindIs, fillK_fd]⟩, ?_⟩
    refine k _ ?_; clear k K
    simp only [zY, zW, set_some, Nat.reduceEqDiff, reduceIte, rho_one, rho_s, rho2_s, rho2_0, rho2_1, V.ren, V.renL, List.set_cons_zero, List.set_cons_succ, rho, Nat.reduceAdd, Nat.add_zero]
    simp only [List.mem_cons, List.not_mem_nil, or_false] at h30
    refine zMove ⟨?_⟩
    refine v_op ?_; intro K k
    simp only [zE, zM, aStepM, optable, set_some, Nat.reduceEqDiff, reduceIte, Nat.reduceLT, implies_true, forall_const, reduceCtorEq, V.ofValue, V.ofScalar, V.un, V.gd, aExec, lentIds, lendOf, ‹Tys _›.h, ‹Fc _›.h]
    repeat (refine andC ?_)
    refine aCall_lentXA (one_con code a30 s30 (6) hcode hcl (by omega)) ?_
    rintro _ _ ⟨v32, a32, s32, h32, k32, rfl, rfl⟩
    refine ⟨_, _, rfl, by first | exact .inr (List.all_eq_true.1 rfl) | exact .inl ⟨rfl, by simp [Blk.kindIs, fillK_fd]⟩, ?_⟩
    refine k _ ?_; clear k K
    simp only [zY, zW, set_some, Nat.reduceEqDiff, reduceIte, rho_one, rho_s, rho2_s, rho2_0, rho2_1, V.ren, V.renL, List.set_cons_zero, List.set_cons_succ, rho, Nat.reduceAdd, Nat.add_zero]
    refine zBuild ⟨?_⟩
    refine zBuildSlice ⟨?_⟩
    refine zAppend ⟨?_⟩
    refine zAssign ⟨?_⟩
    refine k17 _ ?_
    refine n16 _ ?_
    refine n15 _ _ (weak_keep [0, 3, 4, 5] _) ?_
    refine zk ⟨?_⟩
    refine v_region ?_; intro K18 k18
    refine zMove ⟨?_⟩
    refine zMove ⟨?_⟩
    refine zBuildSlice ⟨?_⟩
    refine v_op ?_; intro K k
    simp only [zE, zM, aStepM, optable, set_some, Nat.reduceEqDiff, reduceIte, Nat.reduceLT, implies_true, forall_const, reduceCtorEq, V.ofValue, V.ofScalar, V.un, V.gd, aExec, lentIds, lendOf, ‹Tys _›.h, ‹Fc _›.h]
    repeat (refine andC ?_)
    refine aCall_lent2XA (among_con code a32 s32 [1, 1, 2] (by simp) hcode hcl (by omega)) ?_
    rintro _ _ ⟨v21, a21, s21, h21, k21, rfl, rfl⟩
    refine ⟨_, _, _, rfl, by first | exact .inr (List.all_eq_true.1 rfl) | exact .inl ⟨rfl, by simp [Blk.kindIs, fillK_fd]⟩, ?_⟩
    refine k _ ?_; clear k K
    simp only [zY, zW, set_some, Nat.reduceEqDiff, reduceIte, rho_one, rho_s, rho2_s, rho2_0, rho2_1, V.ren, V.renL, List.set_cons_zero, List.set_cons_succ, rho, Nat.reduceAdd, Nat.add_zero]
    simp only [List.mem_cons, List.not_mem_nil, or_false] at h21
    refine zBinOpW ⟨?_⟩
    refine zAssign ⟨?_⟩
    refine k18 _ ?_
    refine n11 _ (acc ++ [(k, 1 + v26, v30, v32)], k + v21, a21, s21) ?_ ?_ ?_
    ·refine weak_bothS [0, 3, 4, 5] [0, 4] ⟨?_⟩
     rw [snoc_Detector]
    ·exact ⟨by show ((acc ++ _).length : Int) ≤ n; simp; omega, by show 0 ≤ k + v21 ∧ k + v21 ≤ 1 + 2 * ((acc ++ _).length : Int); simp; omega, by show a1 ≤ a21 ∧ a21 ≤ a1 + 10 * ((acc ++ _).length : Int); simp; omega⟩
    ·show _ < _; show (n - ((acc ++ _).length : Int)).toNat < (n - (acc.length : Int)).toNat; simp; omega
   ·intro hc1
    refine v_exit ?_
    refine e12 _ _ ?_
    refine e11 _ _ ?_
    refine x10 _ ?_
    refine n8 _ _ (weak_keep [0, 3, 4] _) ?_
    refine zk ⟨?_⟩
    refine v_seq ?_; intro Q19 n19 e19 r19
    refine v_seqR [0,3,4,41] ?_; intro K20 k20
    refine zMove ⟨?_⟩
    refine zBinOp ⟨?_⟩
    refine zMove ⟨?_⟩
    refine zgMove ⟨?_⟩
    refine v_opG ?_; intro K k
    apply aStep_guardX (id := 0) 2 true (hc := fun hG => one_con code a2 s2 (16) hcode hcl (by omega))
    ·exact (show 40 < 73 by decide)
    ·rfl
    ·first | rfl | (simp only [zV, guardV, Nat.reduceEqDiff, reduceIte]; done)
    ·intro hG F hF; simp only [zE, zM, aStepM, optable, set_some, Nat.reduceEqDiff, reduceIte, Nat.reduceLT, implies_true, forall_const, reduceCtorEq, V.ofValue, V.ofScalar, V.un, V.gd, aExec, lentIds, lendOf, ‹Tys _›.h, ‹Fc _›.h]; first | exact hF | exact ⟨by simpa using hG, hF⟩ | (refine ⟨?_, hF⟩; simp_all; done)
    ·exact ⟨_, true, a2, s2, trivial, by omega, rfl, rfl⟩
    ·rfl
    ·rfl
    ·exact ⟨by simp [Blk.kindIs, fillK_mix], by simp⟩
    ·exact .inl rfl
    rintro _ _ ⟨v40, a40, s40, h40, k40, rfl, rfl⟩
    refine ⟨_, rfl, ⟨rfl, rfl, by simp [Blk.kindIs, fillK_mix], .inr (List.all_eq_true.1 rfl)⟩, ?_⟩
    refine k _ ?_; clear k K
    simp only [zW, set_some, Nat.reduceEqDiff, reduceIte, List.set_cons_zero, List.set_cons_succ]
    refine zPick ⟨?_⟩
    refine k20 _ ?_
    refine zk ⟨?_⟩
    refine v_condS _ rfl ?_ ?_
    ·intro hc2
     have hnl : (acc.length : Int) = n := by omega
     have hn0 : 0 < n := by first | (simp at hc2; omega) | omega
     refine v_seqR [0,3,6] ?_; intro K22 k22
     refine zMove ⟨?_⟩
     refine zMove ⟨?_⟩
     refine v_op ?_; intro K k
     simp only [zE, zM, aStepM, optable, set_some, Nat.reduceEqDiff, reduceIte, Nat.reduceLT, implies_true, forall_const, reduceCtorEq, V.ofValue, V.ofScalar, V.un, V.gd, aExec, lentIds, lendOf, ‹Tys _›.h, ‹Fc _›.h]
     repeat (refine andC ?_)
     refine aCall_lentXA (pick_con code a40 s40 (n) hcode hcl (by omega)) ?_
     rintro _ _ ⟨v44, a44, s44, h44, k44, rfl, rfl⟩
     obtain ⟨⟨x0, x1, x2, x3⟩, hx⟩ : ∃ x : Int × Int × Int × Bool, acc[v44.toNat]? = some x := ⟨acc[v44.toNat]'(by omega), List.getElem?_eq_getElem (by omega)⟩
     refine ⟨_, _, rfl, by first | exact .inr (List.all_eq_true.1 rfl) | exact .inl ⟨rfl, by simp [Blk.kindIs, fillK_fd]⟩, ?_⟩
     refine k _ ?_; clear k K
     simp only [zY, zW, set_some, Nat.reduceEqDiff, reduceIte, rho_one, rho_s, rho2_s, rho2_0, rho2_1, V.ren, V.renL, List.set_cons_zero, List.set_cons_succ, rho, Nat.reduceAdd, Nat.add_zero]
     have F := Fc.mk (And.intro (fun f => getD_map (f := f) hx) @setat_Detector)
     refine zAssign ⟨?_⟩
     refine k22 _ ?_
     refine zk ⟨?_⟩
     refine v_seqR [0,3,6,46] ?_; intro K23 k23
     refine zMove ⟨?_⟩
     refine v_op ?_; intro K k
     simp only [zE, zM, aStepM, optable, set_some, Nat.reduceEqDiff, reduceIte, Nat.reduceLT, implies_true, forall_const, reduceCtorEq, V.ofValue, V.ofScalar, V.un, V.gd, aExec, lentIds, lendOf, ‹Tys _›.h, ‹Fc _›.h]
     repeat (refine andC ?_)
     refine aCall_lentXA (pick_con code a44 s44 (3) hcode hcl (by omega)) ?_
     rintro _ _ ⟨v46, a46, s46, h46, k46, rfl, rfl⟩
     refine ⟨_, _, rfl, by first | exact .inr (List.all_eq_true.1 rfl) | exact .inl ⟨rfl, by simp [Blk.kindIs, fillK_fd]⟩, ?_⟩
     refine k _ ?_; clear k K
     simp only [zY, zW, set_some, Nat.reduceEqDiff, reduceIte, rho_one, rho_s, rho2_s, rho2_0, rho2_1, V.ren, V.renL, List.set_cons_zero, List.set_cons_succ, rho, Nat.reduceAdd, Nat.add_zero]
     refine k23 _ ?_
     refine zk ⟨?_⟩
     refine v_block ?_; intro Q24 n24 x24 e24 r24
     refine v_seqR [0,3,6,46,54] ?_; intro K25 k25
     refine zBinOp ⟨?_⟩
     refine zAssign ⟨?_⟩
     refine k25 _ ?_
     refine zk ⟨?_⟩
     refine v_condS _ rfl ?_ ?_
     ·intro hc3
      refine v_region ?_; intro K27 k27
      refine zMove ⟨?_⟩
      refine zMove ⟨?_⟩
      refine zMove ⟨?_⟩
      refine zBuildSlice ⟨?_⟩
      refine v_op ?_; intro K k
      simp only [zE, zM, aStepM, optable, set_some, Nat.reduceEqDiff, reduceIte, Nat.reduceLT, implies_true, forall_const, reduceCtorEq, V.ofValue, V.ofScalar, V.un, V.gd, aExec, lentIds, lendOf, ‹Tys _›.h, ‹Fc _›.h]
      repeat (refine andC ?_)
      refine aCall_lent2XA (among_con code a46 s46 [0, 999, 1000] (by simp) hcode hcl (by omega)) ?_
      rintro _ _ ⟨v60, a60, s60, h60, k60, rfl, rfl⟩
      refine ⟨_, _, _, rfl, by first | exact .inr (List.all_eq_true.1 rfl) | exact .inl ⟨rfl, by simp [Blk.kindIs, fillK_fd]⟩, ?_⟩
      refine k _ ?_; clear k K
      simp only [zY, zW, set_some, Nat.reduceEqDiff, reduceIte, rho_one, rho_s, rho2_s, rho2_0, rho2_1, V.ren, V.renL, List.set_cons_zero, List.set_cons_succ, rho, Nat.reduceAdd, Nat.add_zero]
      simp only [List.mem_cons, List.not_mem_nil, or_false] at h60
      refine zIndexAddr ⟨?_⟩
      refine zFieldAddr ⟨?_⟩
      refine zStore ⟨?_⟩
      refine k27 _ ?_
      refine n24 _ ?_
      refine n19 _ _ (weak_keep [3] _) ?_
      refine zk ⟨?_⟩
      refine v_seqR [2] ?_; intro K28 k28
      refine zMove ⟨?_⟩
      refine zAssign ⟨?_⟩
      refine k28 _ ?_
      refine zk ⟨?_⟩
      refine v_ret ?_
      refine r0 _ ?_
      refine zf ⟨?_⟩
      refine ret_viewX ?_
      exact ⟨acc.set v44.toNat (v60, x1, x2, x3), _, _, by rw [List.length_set]; omega, by omega, rfl, rfl⟩
     ·intro hc3
      refine v_seqR [0,3,6,63] ?_; intro K29 k29
      refine zBinOp ⟨?_⟩
      refine zAssign ⟨?_⟩
      refine k29 _ ?_
      refine zk ⟨?_⟩
      refine v_condS _ rfl ?_ ?_
      ·intro hc4
       refine v_region ?_; intro K31 k31
       refine zMove ⟨?_⟩
       refine zMove ⟨?_⟩
       refine zMove ⟨?_⟩
       refine zBuildSlice ⟨?_⟩
       refine v_op ?_; intro K k
       simp only [zE, zM, aStepM, optable, set_some, Nat.reduceEqDiff, reduceIte, Nat.reduceLT, implies_true, forall_const, reduceCtorEq, V.ofValue, V.ofScalar, V.un, V.gd, aExec, lentIds, lendOf, ‹Tys _›.h, ‹Fc _›.h]
       repeat (refine andC ?_)
       refine aCall_lent2XA (among_con code a46 s46 [0, 9, 10] (by simp) hcode hcl (by omega)) ?_
       rintro _ _ ⟨v69, a69, s69, h69, k69, rfl, rfl⟩
       refine ⟨_, _, _, rfl, by first | exact .inr (List.all_eq_true.1 rfl) | exact .inl ⟨rfl, by simp [Blk.kindIs, fillK_fd]⟩, ?_⟩
       refine k _ ?_; clear k K
       simp only [zY, zW, set_some, Nat.reduceEqDiff, reduceIte, rho_one, rho_s, rho2_s, rho2_0, rho2_1, V.ren, V.renL, List.set_cons_zero, List.set_cons_succ, rho, Nat.reduceAdd, Nat.add_zero]
       simp only [List.mem_cons, List.not_mem_nil, or_false] at h69
       refine zIndexAddr ⟨?_⟩
       refine zFieldAddr ⟨?_⟩
       refine zStore ⟨?_⟩
       refine k31 _ ?_
       refine n24 _ ?_
       refine n19 _ _ (weak_keep [3] _) ?_
       refine zk ⟨?_⟩
       refine v_seqR [2] ?_; intro K32 k32
       refine zMove ⟨?_⟩
       refine zAssign ⟨?_⟩
       refine k32 _ ?_
       refine zk ⟨?_⟩
       refine v_ret ?_
       refine r0 _ ?_
       refine zf ⟨?_⟩
       refine ret_viewX ?_
       exact ⟨acc.set v44.toNat (x0, v69, x2, x3), _, _, by rw [List.length_set]; omega, by omega, rfl, rfl⟩
      ·intro hc4
       refine v_region ?_; intro K33 k33
       refine zMove ⟨?_⟩
       refine zMove ⟨?_⟩
       refine zMove ⟨?_⟩
       refine zBuildSlice ⟨?_⟩
       refine v_op ?_; intro K k
       simp only [zE, zM, aStepM, optable, set_some, Nat.reduceEqDiff, reduceIte, Nat.reduceLT, implies_true, forall_const, reduceCtorEq, V.ofValue, V.ofScalar, V.un, V.gd, aExec, lentIds, lendOf, ‹Tys _›.h, ‹Fc _›.h]
       repeat (refine andC ?_)
       refine aCall_lent2XA (among_con code a46 s46 [-1, 3] (by simp) hcode hcl (by omega)) ?_
       rintro _ _ ⟨v51, a51, s51, h51, k51, rfl, rfl⟩
       refine ⟨_, _, _, rfl, by first | exact .inr (List.all_eq_true.1 rfl) | exact .inl ⟨rfl, by simp [Blk.kindIs, fillK_fd]⟩, ?_⟩
       refine k _ ?_; clear k K
       simp only [zY, zW, set_some, Nat.reduceEqDiff, reduceIte, rho_one, rho_s, rho2_s, rho2_0, rho2_1, V.ren, V.renL, List.set_cons_zero, List.set_cons_succ, rho, Nat.reduceAdd, Nat.add_zero]
       simp only [List.mem_cons, List.not_mem_nil, or_false] at h51
       refine zIndexAddr ⟨?_⟩
       refine zFieldAddr ⟨?_⟩
       refine zStore ⟨?_⟩
       refine k33 _ ?_
       refine n24 _ ?_
       refine n19 _ _ (weak_keep [3] _) ?_
       refine zk ⟨?_⟩
       refine v_seqR [2] ?_; intro K34 k34
       refine zMove ⟨?_⟩
       refine zAssign ⟨?_⟩
       refine k34 _ ?_
       refine zk ⟨?_⟩
       refine v_ret ?_
       refine r0 _ ?_
       refine zf ⟨?_⟩
       refine ret_viewX ?_
       exact ⟨acc.set v44.toNat (x0, x1, v51, x3), _, _, by rw [List.length_set]; omega, by omega, rfl, rfl⟩
    ·intro hc2
     refine v_skip ?_
     refine n19 _ _ (weak_keep [3] _) ?_
     refine zk ⟨?_⟩
     refine v_seqR [2] ?_; intro K35 k35
     refine zMove ⟨?_⟩
     refine zAssign ⟨?_⟩
     refine k35 _ ?_
     refine zk ⟨?_⟩
     refine v_ret ?_
     refine r0 _ ?_
     refine zf ⟨?_⟩
     refine ret_viewX ?_
     exact ⟨acc, _, _, by omega, by omega, rfl, rfl⟩
set_option maxHeartbeats 1000000 in
theorem signals_con (code : List Int) (a s : Int) (hcode : ∀ x ∈ code, 0 ≤ x ∧ x ≤ 255) (hcl : code.length ≤ 9223372036854775807) (ha : 0 ≤ a ∧ a < 16000000000) : ConX Tryd.prog 127 [.ptr 0 0 0] [.box (.agg [.sl (code.map (V.int .u8)), .int .i64 a, .int .u64 s]) .shal] (fun r O' => ∃ (l : List (Int × Int)) (a' s' : Int), (l.length ≤ 61) ∧ (a ≤ a' ∧ a' ≤ a + 1000) ∧ r = .ref 1 ∧ O' = [.box (.agg [.sl (code.map (V.int .u8)), .int .i64 a', .int .u64 s']) .shal, .arr (l.map (fun t : Int × Int => V.agg [V.int .i64 t.1, V.int .i64 t.2])) .flat]) := by
 refine v_conX [.tmp 2] [(123, [0, 1]), (122, [0]), (121, [0])] Tryd.func127 rfl rfl rfl (by simp [Tryd.ntmps127]) ?_
 intro Q0 n0 r0
 simp only [Tryd.ntmps127, envFrom, Nat.reduceAdd]
 have T := Tys.mk (And.intro Ty.t3 (And.intro Ty.t4 (And.intro Ty.t5 (And.intro Ty.t43 (And.intro Ty.t48 (And.intro Ty.t51 (And.intro Ty.t65 (And.intro Ty.t141 (And.intro Ty.t142 Ty.t144)))))))))
 have F := Fc.mk True.intro
 refine v_seqR [0] ?_; intro K1 k1
 refine zAssign ⟨?_⟩
 refine k1 _ ?_
 refine zk ⟨?_⟩
 refine v_seqR [0,3] ?_; intro K2 k2
 refine zAssign ⟨?_⟩
 refine k2 _ ?_
 refine zk ⟨?_⟩
 refine v_seqR [0,3,4] ?_; intro K3 k3
 refine zMove ⟨?_⟩
 refine v_op ?_; intro K k
 simp only [zE, zM, aStepM, optable, set_some, Nat.reduceEqDiff, reduceIte, Nat.reduceLT, implies_true, forall_const, reduceCtorEq, V.ofValue, V.ofScalar, V.un, V.gd, aExec, lentIds, lendOf, ‹Tys _›.h, ‹Fc _›.h]
 repeat (refine andC ?_)
 refine aCall_lentXA (pick_con code a s (9) hcode hcl (by omega)) ?_
 rintro _ _ ⟨v8, a8, s8, h8, k8, rfl, rfl⟩
 refine ⟨_, _, rfl, by first | exact .inr (List.all_eq_true.1 rfl) | exact .inl ⟨rfl, by simp [Blk.kindIs, fillK_fd]⟩, ?_⟩
 refine k _ ?_; clear k K
 simp only [zY, zW, set_some, Nat.reduceEqDiff, reduceIte, rho_one, rho_s, rho2_s, rho2_0, rho2_1, V.ren, V.renL, List.set_cons_zero, List.set_cons_succ, rho, Nat.reduceAdd, Nat.add_zero]
 refine zAssign ⟨?_⟩
 refine k3 _ ?_
 refine zk ⟨?_⟩
 refine v_join (A := Int × Int × Int) (fun p => ⟨[(0, .ptr 0 0 0), (3, .ref 1), (4, .int .i64 p.1)], [.box (.agg [.sl (code.map (V.int .u8)), .int .i64 p.2.1, .int .u64 p.2.2]) .shal, .arr [] .flat], false, 57, 0⟩) (fun p => (0 ≤ p.1 ∧ p.1 ≤ 61) ∧ a ≤ p.2.1 ∧ p.2.1 ≤ a + 6) ?_ ?_
 ·intro Q4 n4 e4 r4
  refine v_seqR [0,3,4,10] ?_; intro K5 k5
  refine zMove ⟨?_⟩
  refine v_op ?_; intro K k
  simp only [zE, zM, aStepM, optable, set_some, Nat.reduceEqDiff, reduceIte, Nat.reduceLT, implies_true, forall_const, reduceCtorEq, V.ofValue, V.ofScalar, V.un, V.gd, aExec, lentIds, lendOf, ‹Tys _›.h, ‹Fc _›.h]
  repeat (refine andC ?_)
  refine aCall_lentXA (one_con code a8 s8 (12) hcode hcl (by omega)) ?_
  rintro _ _ ⟨v10, a10, s10, h10, k10, rfl, rfl⟩
  refine ⟨_, _, rfl, by first | exact .inr (List.all_eq_true.1 rfl) | exact .inl ⟨rfl, by simp [Blk.kindIs, fillK_fd]⟩, ?_⟩
  refine k _ ?_; clear k K
  simp only [zY, zW, set_some, Nat.reduceEqDiff, reduceIte, rho_one, rho_s, rho2_s, rho2_0, rho2_1, V.ren, V.renL, List.set_cons_zero, List.set_cons_succ, rho, Nat.reduceAdd, Nat.add_zero]
  refine k5 _ ?_
  refine zk ⟨?_⟩
  refine v_condS _ rfl ?_ ?_
  ·intro hc0
   refine v_region ?_; intro K7 k7
   refine zMove ⟨?_⟩
   refine v_op ?_; intro K k
   simp only [zE, zM, aStepM, optable, set_some, Nat.reduceEqDiff, reduceIte, Nat.reduceLT, implies_true, forall_const, reduceCtorEq, V.ofValue, V.ofScalar, V.un, V.gd, aExec, lentIds, lendOf, ‹Tys _›.h, ‹Fc _›.h]
   repeat (refine andC ?_)
   refine aCall_lentXA (pick_con code a10 s10 (2) hcode hcl (by omega)) ?_
   rintro _ _ ⟨v12, a12, s12, h12, k12, rfl, rfl⟩
   refine ⟨_, _, rfl, by first | exact .inr (List.all_eq_true.1 rfl) | exact .inl ⟨rfl, by simp [Blk.kindIs, fillK_fd]⟩, ?_⟩
   refine k _ ?_; clear k K
   simp only [zY, zW, set_some, Nat.reduceEqDiff, reduceIte, rho_one, rho_s, rho2_s, rho2_0, rho2_1, V.ren, V.renL, List.set_cons_zero, List.set_cons_succ, rho, Nat.reduceAdd, Nat.add_zero]
   refine zBinOpW ⟨?_⟩
   refine zAssign ⟨?_⟩
   refine k7 _ ?_
   refine n4 (60 + v12, a12, s12) _ ?_ ?_
   ·exact ⟨by show 0 ≤ 60 + v12 ∧ 60 + v12 ≤ 61; omega, by show a ≤ a12 ∧ a12 ≤ a + 6; omega⟩
   ·refine weak_both [0, 3, 4] [0, 2] (by decide) (by simp) ?_ ?_ ?_
    ·simp [keep_mk, keepE_nil, keepE_cons, look_cons, V.only, V.onlyL, idx] <;> (first | rfl | decide)
    ·simp [Blk.kindIs, fillK_mix]
    simp only [keep_mk, keepE_nil, keepE_cons, look_cons, look_nil, Nat.reduceEqDiff, reduceIte, St.comp, List.map_cons, List.map_nil, V.ren, V.renL, idx, List.getD_cons_zero, List.getD_cons_succ, Nat.reduceBEq, cond_true, cond_false, Option.map_some, Option.getD_some, Nat.reduceAdd, Nat.beq_eq_true_eq]
    all_goals rfl
  ·intro hc0
   refine v_skip ?_
   refine n4 (v8, a10, s10) _ ?_ ?_
   ·exact ⟨by show 0 ≤ v8 ∧ v8 ≤ 61; omega, by show a ≤ a10 ∧ a10 ≤ a + 6; omega⟩
   ·refine weak_both [0, 3, 4] [0, 2] (by decide) (by simp) ?_ ?_ ?_
    ·simp [keep_mk, keepE_nil, keepE_cons, look_cons, V.only, V.onlyL, idx] <;> (first | rfl | decide)
    ·simp [Blk.kindIs, fillK_mix]
    simp only [keep_mk, keepE_nil, keepE_cons, look_cons, look_nil, Nat.reduceEqDiff, reduceIte, St.comp, List.map_cons, List.map_nil, V.ren, V.renL, idx, List.getD_cons_zero, List.getD_cons_succ, Nat.reduceBEq, cond_true, cond_false, Option.map_some, Option.getD_some, Nat.reduceAdd, Nat.beq_eq_true_eq]
    all_goals rfl
 ·rintro ⟨n, a1, s1⟩ hok4
  obtain ⟨hn, ha1⟩ := hok4
  simp only [] at hn ha1 ⊢
  refine v_seqR [0,3,4,5] ?_; intro K8 k8
  have F := Fc.mk True.intro
  refine zMove ⟨?_⟩
  refine v_op ?_; intro K k
  simp only [zE, zM, aStepM, optable, set_some, Nat.reduceEqDiff, reduceIte, Nat.reduceLT, implies_true, forall_const, reduceCtorEq, V.ofValue, V.ofScalar, V.un, V.gd, aExec, lentIds, lendOf, ‹Tys _›.h, ‹Fc _›.h]
  repeat (refine andC ?_)
  refine aCall_lentXA (pick_con code a1 s1 (50) hcode hcl (by omega)) ?_
  rintro _ _ ⟨v15, a15, s15, h15, k15, rfl, rfl⟩
  refine ⟨_, _, rfl, by first | exact .inr (List.all_eq_true.1 rfl) | exact .inl ⟨rfl, by simp [Blk.kindIs, fillK_fd]⟩, ?_⟩
  refine k _ ?_; clear k K
  simp only [zY, zW, set_some, Nat.reduceEqDiff, reduceIte, rho_one, rho_s, rho2_s, rho2_0, rho2_1, V.ren, V.renL, List.set_cons_zero, List.set_cons_succ, rho, Nat.reduceAdd, Nat.add_zero]
  refine zAssign ⟨?_⟩
  refine k8 _ ?_
  refine zk ⟨?_⟩
  refine v_seq ?_; intro Q9 n9 e9 r9
  refine v_block ?_; intro Q10 n10 x10 e10 r10
  refine v_loop (fun p => ⟨[(0, .ptr 0 0 0), (3, .ref 1), (4, .int .i64 n), (5, .int .i64 p.2.1)], [.box (.agg [.sl (code.map (V.int .u8)), .int .i64 p.2.2.1, .int .u64 p.2.2.2]) .shal, .arr (p.1.map (fun t : Int × Int => V.agg [V.int .i64 t.1, V.int .i64 t.2])) .flat], false, 57, 0⟩) (fun p => (p.1.length : Int) ≤ n ∧ (0 ≤ p.2.1 ∧ p.2.1 ≤ 50 + 100 * (p.1.length : Int)) ∧ a1 ≤ p.2.2.1 ∧ p.2.2.1 ≤ a1 + 2 + 10 * (p.1.length : Int)) (fun p => (n - (p.1.length : Int)).toNat) (([], v15, a15, s15) : List (Int × Int) × Int × Int × Int) ?_ ?_ ?_
  ·refine weak_both [0, 3, 4, 5] [0, 1] (by decide) (by simp) ?_ ?_ ?_
   ·simp [keep_mk, keepE_nil, keepE_cons, look_cons, V.only, V.onlyL, idx] <;> (first | rfl | decide)
   ·simp [Blk.kindIs, fillK_mix]
   simp only [keep_mk, keepE_nil, keepE_cons, look_cons, look_nil, Nat.reduceEqDiff, reduceIte, St.comp, List.map_cons, List.map_nil, V.ren, V.renL, idx, List.getD_cons_zero, List.getD_cons_succ, Nat.reduceBEq, cond_true, cond_false, Option.map_some, Option.getD_some, Nat.reduceAdd, Nat.beq_eq_true_eq]
   all_goals rfl
  ·exact ⟨by simpa using hn.1, by simp; omega, by simp; omega⟩
  ·rintro ⟨acc, k, a2, s2⟩ hok11 Q11 n11 e11 r11
   obtain ⟨hal, hk, ha2⟩ := hok11
   simp only [] at hal hk ha2 ⊢
   refine v_seq ?_; intro Q12 n12 e12 r12
   refine v_seqR [0,3,4,5,19] ?_; intro K13 k13
   refine zMove ⟨?_⟩
   refine zLen ⟨?_⟩
   refine zMove ⟨?_⟩
   refine zBinOp ⟨?_⟩
   refine k13 _ ?_
   refine zk ⟨?_⟩
   refine v_condS _ rfl ?_ ?_
   ·intro hc1
    refine v_skip ?_
    refine n12 _ _ (weak_keep [0, 3, 4, 5] _) ?_
    refine zk ⟨?_⟩
    refine v_block ?_; intro Q15 n15 x15 e15 r15
    refine v_seqR [0,3,4,5] ?_; intro K16 k16
    refine zMove ⟨?_⟩
    refine zMove ⟨?_⟩
    refine zMove ⟨?_⟩
    refine v_op ?_; intro K k
    simp only [zE, zM, aStepM, optable, set_some, Nat.reduceEqDiff, reduceIte, Nat.reduceLT, implies_true, forall_const, reduceCtorEq, V.ofValue, V.ofScalar, V.un, V.gd, aExec, lentIds, lendOf, ‹Tys _›.h, ‹Fc _›.h]
    repeat (refine andC ?_)
    refine aCall_lentXA (pick_con code a2 s2 (8) hcode hcl (by omega)) ?_
    rintro _ _ ⟨v23, a23, s23, h23, k23, rfl, rfl⟩
    refine ⟨_, _, rfl, by first | exact .inr (List.all_eq_true.1 rfl) | exact .inl ⟨rfl, by simp [Blk.kindIs, fillK_fd]⟩, ?_⟩
    refine k _ ?_; clear k K
    simp only [zY, zW, set_some, Nat.reduceEqDiff, reduceIte, rho_one, rho_s, rho2_s, rho2_0, rho2_1, V.ren, V.renL, List.set_cons_zero, List.set_cons_succ, rho, Nat.reduceAdd, Nat.add_zero]
    refine zBinOpW ⟨?_⟩
    refine zBuild ⟨?_⟩
    refine zBuildSlice ⟨?_⟩
    refine zAppend ⟨?_⟩
    refine zAssign ⟨?_⟩
    refine k16 _ ?_
    refine zk ⟨?_⟩
    refine v_region ?_; intro K17 k17
    refine zMove ⟨?_⟩
    refine zMove ⟨?_⟩
    refine zBuildSlice ⟨?_⟩
    refine v_op ?_; intro K k
    simp only [zE, zM, aStepM, optable, set_some, Nat.reduceEqDiff, reduceIte, Nat.reduceLT, implies_true, forall_const, reduceCtorEq, V.ofValue, V.ofScalar, V.un, V.gd, aExec, lentIds, lendOf, ‹Tys _›.h, ‹Fc _›.h]
    repeat (refine andC ?_)
    refine aCall_lent2XA (among_con code a23 s23 [0, 5, 29, 30, 31, 100] (by simp) hcode hcl (by omega)) ?_
    rintro _ _ ⟨v31, a31, s31, h31, k31, rfl, rfl⟩
    refine ⟨_, _, _, rfl, by first | exact .inr (List.all_eq_true.1 rfl) | exact .inl ⟨rfl, by simp [Blk.kindIs, fillK_fd]⟩, ?_⟩
    refine k _ ?_; clear k K
    simp only [zY, zW, set_some, Nat.reduceEqDiff, reduceIte, rho_one, rho_s, rho2_s, rho2_0, rho2_1, V.ren, V.renL, List.set_cons_zero, List.set_cons_succ, rho, Nat.reduceAdd, Nat.add_zero]
    simp only [List.mem_cons, List.not_mem_nil, or_false] at h31
    refine zBinOpW ⟨?_⟩
    refine zAssign ⟨?_⟩
    refine k17 _ ?_
    refine n15 _ ?_
    refine n11 _ (acc ++ [(k, 1 + v23)], k + v31, a31, s31) ?_ ?_ ?_
    ·refine weak_bothS [0, 3, 4, 5] [0, 3] ⟨?_⟩
     rw [snoc_Signal]
    ·exact ⟨by show ((acc ++ _).length : Int) ≤ n; simp; omega, by show 0 ≤ k + v31 ∧ k + v31 ≤ 50 + 100 * ((acc ++ _).length : Int); simp; omega, by show a1 ≤ a31 ∧ a31 ≤ a1 + 2 + 10 * ((acc ++ _).length : Int); simp; omega⟩
    ·show _ < _; show (n - ((acc ++ _).length : Int)).toNat < (n - (acc.length : Int)).toNat; simp; omega
   ·intro hc1
    refine v_exit ?_
    refine e12 _ _ ?_
    refine e11 _ _ ?_
    refine x10 _ ?_
    refine n9 _ _ (weak_keep [0, 3, 4] _) ?_
    refine zk ⟨?_⟩
    refine v_seq ?_; intro Q18 n18 e18 r18
    refine v_seqR [0,3,4,38] ?_; intro K19 k19
    refine zMove ⟨?_⟩
    refine zBinOp ⟨?_⟩
    refine zMove ⟨?_⟩
    refine zgMove ⟨?_⟩
    refine v_opG ?_; intro K k
    apply aStep_guardX (id := 0) 2 true (hc := fun hG => one_con code a2 s2 (16) hcode hcl (by omega))
    ·exact (show 37 < 57 by decide)
    ·rfl
    ·first | rfl | (simp only [zV, guardV, Nat.reduceEqDiff, reduceIte]; done)
    ·intro hG F hF; simp only [zE, zM, aStepM, optable, set_some, Nat.reduceEqDiff, reduceIte, Nat.reduceLT, implies_true, forall_const, reduceCtorEq, V.ofValue, V.ofScalar, V.un, V.gd, aExec, lentIds, lendOf, ‹Tys _›.h, ‹Fc _›.h]; first | exact hF | exact ⟨by simpa using hG, hF⟩ | (refine ⟨?_, hF⟩; simp_all; done)
    ·exact ⟨_, true, a2, s2, trivial, by omega, rfl, rfl⟩
    ·rfl
    ·rfl
    ·exact ⟨by simp [Blk.kindIs, fillK_mix], by simp⟩
    ·exact .inl rfl
    rintro _ _ ⟨v37, a37, s37, h37, k37, rfl, rfl⟩
    refine ⟨_, rfl, ⟨rfl, rfl, by simp [Blk.kindIs, fillK_mix], .inr (List.all_eq_true.1 rfl)⟩, ?_⟩
    refine k _ ?_; clear k K
    simp only [zW, set_some, Nat.reduceEqDiff, reduceIte, List.set_cons_zero, List.set_cons_succ]
    refine zPick ⟨?_⟩
    refine k19 _ ?_
    refine zk ⟨?_⟩
    refine v_condS _ rfl ?_ ?_
    ·intro hc2
     have hnl : (acc.length : Int) = n := by omega
     have hn0 : 0 < n := by first | (simp at hc2; omega) | omega
     refine v_seqR [0,3,6] ?_; intro K21 k21
     refine zMove ⟨?_⟩
     refine zMove ⟨?_⟩
     refine v_op ?_; intro K k
     simp only [zE, zM, aStepM, optable, set_some, Nat.reduceEqDiff, reduceIte, Nat.reduceLT, implies_true, forall_const, reduceCtorEq, V.ofValue, V.ofScalar, V.un, V.gd, aExec, lentIds, lendOf, ‹Tys _›.h, ‹Fc _›.h]
     repeat (refine andC ?_)
     refine aCall_lentXA (pick_con code a37 s37 (n) hcode hcl (by omega)) ?_
     rintro _ _ ⟨v41, a41, s41, h41, k41, rfl, rfl⟩
     obtain ⟨⟨x0, x1⟩, hx⟩ : ∃ x : Int × Int, acc[v41.toNat]? = some x := ⟨acc[v41.toNat]'(by omega), List.getElem?_eq_getElem (by omega)⟩
     refine ⟨_, _, rfl, by first | exact .inr (List.all_eq_true.1 rfl) | exact .inl ⟨rfl, by simp [Blk.kindIs, fillK_fd]⟩, ?_⟩
     refine k _ ?_; clear k K
     simp only [zY, zW, set_some, Nat.reduceEqDiff, reduceIte, rho_one, rho_s, rho2_s, rho2_0, rho2_1, V.ren, V.renL, List.set_cons_zero, List.set_cons_succ, rho, Nat.reduceAdd, Nat.add_zero]
     have F := Fc.mk (And.intro (fun f => getD_map (f := f) hx) @setat_Signal)
     refine zAssign ⟨?_⟩
     refine k21 _ ?_
     refine zk ⟨?_⟩
     refine v_seqR [0,3,6] ?_; intro K22 k22
     refine zMove ⟨?_⟩
     refine zMove ⟨?_⟩
     refine zMove ⟨?_⟩
     refine zBuildSlice ⟨?_⟩
     refine v_op ?_; intro K k
     simp only [zE, zM, aStepM, optable, set_some, Nat.reduceEqDiff, reduceIte, Nat.reduceLT, implies_true, forall_const, reduceCtorEq, V.ofValue, V.ofScalar, V.un, V.gd, aExec, lentIds, lendOf, ‹Tys _›.h, ‹Fc _›.h]
     repeat (refine andC ?_)
     refine aCall_lent2XA (among_con code a41 s41 [-1, 86399, 86400, 0] (by simp) hcode hcl (by omega)) ?_
     rintro _ _ ⟨v46, a46, s46, h46, k46, rfl, rfl⟩
     refine ⟨_, _, _, rfl, by first | exact .inr (List.all_eq_true.1 rfl) | exact .inl ⟨rfl, by simp [Blk.kindIs, fillK_fd]⟩, ?_⟩
     refine k _ ?_; clear k K
     simp only [zY, zW, set_some, Nat.reduceEqDiff, reduceIte, rho_one, rho_s, rho2_s, rho2_0, rho2_1, V.ren, V.renL, List.set_cons_zero, List.set_cons_succ, rho, Nat.reduceAdd, Nat.add_zero]
     simp only [List.mem_cons, List.not_mem_nil, or_false] at h46
     refine zIndexAddr ⟨?_⟩
     refine zFieldAddr ⟨?_⟩
     refine zStore ⟨?_⟩
     refine k22 _ ?_
     refine zk ⟨?_⟩
     refine v_region ?_; intro K23 k23
     refine zMove ⟨?_⟩
     refine zMove ⟨?_⟩
     refine zMove ⟨?_⟩
     refine zBuildSlice ⟨?_⟩
     refine v_op ?_; intro K k
     simp only [zE, zM, aStepM, optable, set_some, Nat.reduceEqDiff, reduceIte, Nat.reduceLT, implies_true, forall_const, reduceCtorEq, V.ofValue, V.ofScalar, V.un, V.gd, aExec, lentIds, lendOf, ‹Tys _›.h, ‹Fc _›.h]
     repeat (refine andC ?_)
     refine aCall_lent2XA (among_con code a46 s46 [0, 999, 1000, 1] (by simp) hcode hcl (by omega)) ?_
     rintro _ _ ⟨v53, a53, s53, h53, k53, rfl, rfl⟩
     have hx2 : (acc.set v41.toNat (v46, x1))[v41.toNat]? = some (v46, x1) := by rw [List.getElem?_set_self (by omega)]
     refine ⟨_, _, _, rfl, by first | exact .inr (List.all_eq_true.1 rfl) | exact .inl ⟨rfl, by simp [Blk.kindIs, fillK_fd]⟩, ?_⟩
     refine k _ ?_; clear k K
     simp only [zY, zW, set_some, Nat.reduceEqDiff, reduceIte, rho_one, rho_s, rho2_s, rho2_0, rho2_1, V.ren, V.renL, List.set_cons_zero, List.set_cons_succ, rho, Nat.reduceAdd, Nat.add_zero]
     simp only [List.mem_cons, List.not_mem_nil, or_false] at h53
     have F := Fc.mk (And.intro (fun f => getD_map (f := f) hx) (And.intro @setat_Signal (And.intro (fun f => getD_map (f := f) hx2) @List.length_set.{0})))
     refine zIndexAddr ⟨?_⟩
     refine zFieldAddr ⟨?_⟩
     refine zStore ⟨?_⟩
     refine k23 _ ?_
     refine n18 _ _ (weak_keep [3] _) ?_
     refine zk ⟨?_⟩
     refine v_seqR [2] ?_; intro K24 k24
     refine zMove ⟨?_⟩
     refine zAssign ⟨?_⟩
     refine k24 _ ?_
     refine zk ⟨?_⟩
     refine v_ret ?_
     refine r0 _ ?_
     refine zf ⟨?_⟩
     refine ret_viewX ?_
     exact ⟨(acc.set v41.toNat (v46, x1)).set v41.toNat (v46, v53), _, _, by rw [List.length_set, List.length_set]; omega, by omega, rfl, rfl⟩
    ·intro hc2
     refine v_skip ?_
     refine n18 _ _ (weak_keep [3] _) ?_
     refine zk ⟨?_⟩
     refine v_seqR [2] ?_; intro K25 k25
     refine zMove ⟨?_⟩
     refine zAssign ⟨?_⟩
     refine k25 _ ?_
     refine zk ⟨?_⟩
     refine v_ret ?_
     refine r0 _ ?_
     refine zf ⟨?_⟩
     refine ret_viewX ?_
     exact ⟨acc, _, _, by omega, by omega, rfl, rfl⟩
end Go.Proofs.YtmlicajgbgjphaaDoor
