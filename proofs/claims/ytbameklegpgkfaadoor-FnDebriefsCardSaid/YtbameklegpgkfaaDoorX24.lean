/- What functions compute. No condition. -/
import Derived.Test.YtbameklegpgkfaaDoorUty
import Derived.Test.YtbameklegpgkfaaDoorUmG
import Derived.Test.YtbameklegpgkfaaDoorX5
set_option linter.unusedSimpArgs false
set_option linter.unusedVariables false
set_option linter.defProp false
namespace Go.Proofs.YtbameklegpgkfaaDoor
open Go Go.Vm

theorem and255 (a : Int) : 0 ≤ IntKind.i64.wrap (IntKind.u64.wrap ((BitVec.ofInt IntKind.u64.bits a &&& BitVec.ofInt IntKind.u64.bits 255).toNat : Int)) ∧ IntKind.i64.wrap (IntKind.u64.wrap ((BitVec.ofInt IntKind.u64.bits a &&& BitVec.ofInt IntKind.u64.bits 255).toNat : Int)) ≤ 255 := by
  have h : (BitVec.ofInt IntKind.u64.bits a &&& BitVec.ofInt IntKind.u64.bits 255).toNat ≤ 255 := by
    rw [BitVec.toNat_and]
    exact Nat.le_trans Nat.and_le_right (by decide)
  generalize (BitVec.ofInt IntKind.u64.bits a &&& BitVec.ofInt IntKind.u64.bits 255).toNat = n at h
  have e : IntKind.u64.wrap (n : Int) = n := by
    simp only [IntKind.wrap, IntKind.bits, IntKind.signed]
    simp
    omega
  rw [e, wrap64 (by omega) (by omega)]
  omega
theorem tmod_in {x m : Int} (hx : 0 ≤ x) (hm : 1 < m) : 0 ≤ x.tmod m ∧ x.tmod m < m := ⟨Int.tmod_nonneg m hx, Int.tmod_lt_of_pos x (by omega)⟩

set_option maxHeartbeats 1000000 in
theorem next_con (code : List Int) (a s : Int) (hcode : ∀ x ∈ code, 0 ≤ x ∧ x ≤ 255) (hcl : code.length ≤ 9223372036854775807) (ha : 0 ≤ a ∧ a < 20000000000) : ConX Tryd.prog 147 [.ptr 0 0 0] [.box (.agg [.sl (code.map (V.int .u8)), .int .i64 a, .int .u64 s]) .shal] (fun r O' => ∃ (v : Int) (a' s' : Int), (0 ≤ v ∧ v ≤ 255) ∧ (a ≤ a' ∧ a' ≤ a + 1) ∧ r = .int .i64 v ∧ O' = [.box (.agg [.sl (code.map (V.int .u8)), .int .i64 a', .int .u64 s']) .shal]) := by
 refine v_conX [.tmp 2] [] Tryd.func147 rfl rfl rfl (by simp [Tryd.ntmps147]) ?_
 intro Q0 n0 r0
 simp only [Tryd.ntmps147, envFrom, Nat.reduceAdd]
 have T := Tys.mk (And.intro Ty.t3 (And.intro Ty.t5 (And.intro Ty.t22 (And.intro Ty.t96 (And.intro Ty.t98 Ty.t141)))))
 have F := Fc.mk True.intro
 refine v_seqR [0] ?_; intro K1 k1
 refine zAssign ⟨?_⟩
 refine k1 _ ?_
 refine zk ⟨?_⟩
 refine v_seqR [0,3] ?_; intro K2 k2
 refine zAssign ⟨?_⟩
 refine k2 _ ?_
 refine zk ⟨?_⟩
 refine v_seq ?_; intro Q3 n3 e3 r3
 refine v_seq ?_; intro Q4 n4 e4 r4
 refine v_draw (by kernel_rfl) ?_; intro K5 q5 k5
 show aAny _ _ _ _ 10 (Array.replicate 10 false) _
 refine zdMove q5 true 0 4 ?_
 refine zdNilCheck q5 true 1 5 ?_
 refine zdFieldAddr q5 true 2 6 ?_
 refine zdLoad q5 true 3 7 ?_
 refine zdMove q5 true 4 8 ?_
 refine zdNilCheck q5 true 5 9 ?_
 refine zdFieldAddr q5 true 6 10 ?_
 refine zdLoad q5 true 7 11 ?_
 refine zdLen q5 true 8 12 ?_
 refine zdBinOp q5 true 9 13 ?_
 refine aAny_done (by kernel_rfl) ?_
 refine k5 _ ?_
 refine n4 _ _ (weak_keep [0, 3, 13] _) ?_
 refine zk ⟨?_⟩
 refine v_condS _ rfl ?_ ?_
 ·intro hc0
  have hlt : a.toNat < code.length := by omega
  obtain ⟨x, hx⟩ : ∃ x, code[a.toNat]? = some x := ⟨code[a.toNat], List.getElem?_eq_getElem hlt⟩
  have hxb := hcode x (List.mem_of_getElem? hx)
  have hxw : IntKind.i64.wrap x = x := wrap64 (by omega) (by omega)
  refine v_draw (by kernel_rfl) ?_; intro K7 q7 k7
  show aAny _ _ _ _ 12 (Array.replicate 12 false) _
  have F := Fc.mk (And.intro (fun f => getD_map (f := f) hx) hxw)
  refine zdMove q7 true 0 14 ?_
  refine zdNilCheck q7 true 1 15 ?_
  refine zdFieldAddr q7 true 2 16 ?_
  refine zdLoad q7 true 3 17 ?_
  refine zdMove q7 true 4 18 ?_
  refine zdNilCheck q7 true 5 19 ?_
  refine zdFieldAddr q7 true 6 20 ?_
  refine zdLoad q7 true 7 21 ?_
  refine zdIndexAddr q7 true 8 22 ?_
  refine zdLoad q7 true 9 23 ?_
  refine zdConvert q7 true 10 24 ?_
  refine zoAssign 11 ⟨?_⟩
  refine aAny_done (by kernel_rfl) ?_
  refine k7 _ ?_
  refine n3 _ _ (weak_keep [0, 3] _) ?_
  refine zk ⟨?_⟩
  refine v_seqR [0,3] ?_; intro K8 k8
  refine zMove ⟨?_⟩
  refine zNilCheck ⟨?_⟩
  refine zFieldAddr ⟨?_⟩
  refine zLoad ⟨?_⟩
  refine zBinOpW ⟨?_⟩
  refine zNilCheck ⟨?_⟩
  refine zFieldAddr ⟨?_⟩
  refine zStore ⟨?_⟩
  refine k8 _ ?_
  refine zk ⟨?_⟩
  refine v_seqR [0,3] ?_; intro K9 k9
  refine zMove ⟨?_⟩
  refine zMove ⟨?_⟩
  refine zNilCheck ⟨?_⟩
  refine zFieldAddr ⟨?_⟩
  refine zLoad ⟨?_⟩
  refine zBinOpW ⟨?_⟩
  refine zMove ⟨?_⟩
  refine zConvert ⟨?_⟩
  refine zBinOpW ⟨?_⟩
  refine zBinOpW ⟨?_⟩
  refine zNilCheck ⟨?_⟩
  refine zFieldAddr ⟨?_⟩
  refine zStore ⟨?_⟩
  refine k9 _ ?_
  refine zk ⟨?_⟩
  refine v_seq ?_; intro Q10 n10 e10 r10
  refine v_seq ?_; intro Q11 n11 e11 r11
  refine v_draw (by kernel_rfl) ?_; intro K12 q12 k12
  show aAny _ _ _ _ 10 (Array.replicate 10 false) _
  refine zdMove q12 true 0 44 ?_
  refine zdNilCheck q12 true 1 45 ?_
  refine zdFieldAddr q12 true 2 46 ?_
  refine zdLoad q12 true 3 47 ?_
  refine zdMove q12 true 4 48 ?_
  refine zdNilCheck q12 true 5 49 ?_
  refine zdFieldAddr q12 true 6 50 ?_
  refine zdLoad q12 true 7 51 ?_
  refine zdLen q12 true 8 52 ?_
  refine zdBinOp q12 true 9 53 ?_
  refine aAny_done (by kernel_rfl) ?_
  refine k12 _ ?_
  refine n11 _ _ (weak_keep [0, 3, 53] _) ?_
  refine zk ⟨?_⟩
  refine v_condS _ rfl ?_ ?_
  ·intro hc1
   refine v_seqR [2] ?_; intro K14 k14
   refine zMove ⟨?_⟩
   refine zAssign ⟨?_⟩
   refine k14 _ ?_
   refine zk ⟨?_⟩
   refine v_ret ?_
   refine r10 _ ?_
   refine r0 _ ?_
   refine zf ⟨?_⟩
   refine ret_viewX ?_
   exact ⟨_, _, _, by omega, by omega, rfl, rfl⟩
  ·intro hc1
   refine v_skip ?_
   refine n10 _ _ (weak_keep [0] _) ?_
   refine zk ⟨?_⟩
   refine v_seqR [2] ?_; intro K15 k15
   refine zMove ⟨?_⟩
   refine zNilCheck ⟨?_⟩
   refine zFieldAddr ⟨?_⟩
   refine zLoad ⟨?_⟩
   refine zBinOp ⟨?_⟩
   refine zBinOp ⟨?_⟩
   refine zConvert ⟨?_⟩
   refine zAssign ⟨?_⟩
   refine k15 _ ?_
   refine zk ⟨?_⟩
   refine v_ret ?_
   refine r0 _ ?_
   refine zf ⟨?_⟩
   refine ret_viewX ?_
   exact ⟨_, _, _, and255 _, by omega, rfl, rfl⟩
 ·intro hc0
  refine v_skip ?_
  refine n3 _ _ (weak_keep [0, 3] _) ?_
  refine zk ⟨?_⟩
  refine v_seqR [0,3] ?_; intro K16 k16
  refine zMove ⟨?_⟩
  refine zNilCheck ⟨?_⟩
  refine zFieldAddr ⟨?_⟩
  refine zLoad ⟨?_⟩
  refine zBinOpW ⟨?_⟩
  refine zNilCheck ⟨?_⟩
  refine zFieldAddr ⟨?_⟩
  refine zStore ⟨?_⟩
  refine k16 _ ?_
  refine zk ⟨?_⟩
  refine v_seqR [0,3] ?_; intro K17 k17
  refine zMove ⟨?_⟩
  refine zMove ⟨?_⟩
  refine zNilCheck ⟨?_⟩
  refine zFieldAddr ⟨?_⟩
  refine zLoad ⟨?_⟩
  refine zBinOpW ⟨?_⟩
  refine zMove ⟨?_⟩
  refine zConvert ⟨?_⟩
  refine zBinOpW ⟨?_⟩
  refine zBinOpW ⟨?_⟩
  refine zNilCheck ⟨?_⟩
  refine zFieldAddr ⟨?_⟩
  refine zStore ⟨?_⟩
  refine k17 _ ?_
  refine zk ⟨?_⟩
  refine v_seq ?_; intro Q18 n18 e18 r18
  refine v_seq ?_; intro Q19 n19 e19 r19
  refine v_draw (by kernel_rfl) ?_; intro K20 q20 k20
  show aAny _ _ _ _ 10 (Array.replicate 10 false) _
  refine zdMove q20 true 0 44 ?_
  refine zdNilCheck q20 true 1 45 ?_
  refine zdFieldAddr q20 true 2 46 ?_
  refine zdLoad q20 true 3 47 ?_
  refine zdMove q20 true 4 48 ?_
  refine zdNilCheck q20 true 5 49 ?_
  refine zdFieldAddr q20 true 6 50 ?_
  refine zdLoad q20 true 7 51 ?_
  refine zdLen q20 true 8 52 ?_
  refine zdBinOp q20 true 9 53 ?_
  refine aAny_done (by kernel_rfl) ?_
  refine k20 _ ?_
  refine n19 _ _ (weak_keep [0, 3, 53] _) ?_
  refine zk ⟨?_⟩
  refine v_condS _ rfl ?_ ?_
  ·intro hc2
   refine v_seqR [2] ?_; intro K22 k22
   refine zMove ⟨?_⟩
   refine zAssign ⟨?_⟩
   refine k22 _ ?_
   refine zk ⟨?_⟩
   refine v_ret ?_
   refine r18 _ ?_
   refine r0 _ ?_
   refine zf ⟨?_⟩
   refine ret_viewX ?_
   exact ⟨_, _, _, by omega, by omega, rfl, rfl⟩
  ·intro hc2
   refine v_skip ?_
   refine n18 _ _ (weak_keep [0] _) ?_
   refine zk ⟨?_⟩
   refine v_seqR [2] ?_; intro K23 k23
   refine zMove ⟨?_⟩
   refine zNilCheck ⟨?_⟩
   refine zFieldAddr ⟨?_⟩
   refine zLoad ⟨?_⟩
   refine zBinOp ⟨?_⟩
   refine zBinOp ⟨?_⟩
   refine zConvert ⟨?_⟩
   refine zAssign ⟨?_⟩
   refine k23 _ ?_
   refine zk ⟨?_⟩
   refine v_ret ?_
   refine r0 _ ?_
   refine zf ⟨?_⟩
   refine ret_viewX ?_
   exact ⟨_, _, _, and255 _, by omega, rfl, rfl⟩
set_option maxHeartbeats 1000000 in
theorem pick_con (code : List Int) (a s : Int) (m : Int) (hcode : ∀ x ∈ code, 0 ≤ x ∧ x ≤ 255) (hcl : code.length ≤ 9223372036854775807) (ha : 0 ≤ a ∧ a < 19000000000) : ConX Tryd.prog 73 [.ptr 0 0 0, .int .i64 m] [.box (.agg [.sl (code.map (V.int .u8)), .int .i64 a, .int .u64 s]) .shal] (fun r O' => ∃ (v : Int) (a' s' : Int), (0 ≤ v ∧ (v < m ∨ (m ≤ 1 ∧ v = 0))) ∧ (a ≤ a' ∧ a' ≤ a + 2) ∧ r = .int .i64 v ∧ O' = [.box (.agg [.sl (code.map (V.int .u8)), .int .i64 a', .int .u64 s']) .shal]) := by
 refine v_conX [.tmp 4] [(147, [0])] Tryd.func73 rfl rfl rfl (by simp [Tryd.ntmps73]) ?_
 intro Q0 n0 r0
 simp only [Tryd.ntmps73, envFrom, Nat.reduceAdd]
 have T := Tys.mk (And.intro Ty.t3 (And.intro Ty.t5 (And.intro Ty.t22 (And.intro Ty.t95 (And.intro Ty.t96 Ty.t98)))))
 have F := Fc.mk True.intro
 refine v_seqR [0,1] ?_; intro K1 k1
 refine zAssign ⟨?_⟩
 refine k1 _ ?_
 refine zk ⟨?_⟩
 refine v_seq ?_; intro Q2 n2 e2 r2
 refine v_seqR [0,1,7] ?_; intro K3 k3
 refine zMove ⟨?_⟩
 refine zBinOp ⟨?_⟩
 refine k3 _ ?_
 refine zk ⟨?_⟩
 refine v_condS _ rfl ?_ ?_
 ·intro hc0
  refine v_seqR [4] ?_; intro K5 k5
  refine zAssign ⟨?_⟩
  refine k5 _ ?_
  refine zk ⟨?_⟩
  refine v_ret ?_
  refine r2 _ ?_
  refine r0 _ ?_
  refine zf ⟨?_⟩
  refine ret_viewX ?_
  exact ⟨0, _, _, by omega, by omega, rfl, rfl⟩
 ·intro hc0
  refine v_skip ?_
  refine n2 _ _ (weak_keep [0, 1] _) ?_
  refine zk ⟨?_⟩
  refine v_seqR [0,1,5] ?_; intro K6 k6
  refine zMove ⟨?_⟩
  refine v_op ?_; intro K k
  simp only [zE, zM, aStepM, optable, set_some, Nat.reduceEqDiff, reduceIte, Nat.reduceLT, implies_true, forall_const, reduceCtorEq, V.ofValue, V.ofScalar, V.un, V.gd, aExec, lentIds, lendOf, ‹Tys _›.h, ‹Fc _›.h]
  repeat (refine andC ?_)
  refine aCall_lentXA (next_con code a s hcode hcl (by omega)) ?_
  rintro _ _ ⟨v9, a9, s9, h9, k9, rfl, rfl⟩
  refine ⟨_, _, rfl, by first | exact .inr (List.all_eq_true.1 rfl) | exact .inl ⟨rfl, by simp [Blk.kindIs, fillK_fd]⟩, ?_⟩
  refine k _ ?_; clear k K
  simp only [zY, zW, set_some, Nat.reduceEqDiff, reduceIte, rho_one, rho_s, rho2_s, rho2_0, rho2_1, V.ren, V.renL, List.set_cons_zero, List.set_cons_succ, rho, Nat.reduceAdd, Nat.add_zero]
  refine zAssign ⟨?_⟩
  refine k6 _ ?_
  refine zk ⟨?_⟩
  refine v_seq ?_; intro Q7 n7 e7 r7
  refine v_seqR [0,1,5,11] ?_; intro K8 k8
  refine zMove ⟨?_⟩
  refine zBinOp ⟨?_⟩
  refine k8 _ ?_
  refine zk ⟨?_⟩
  refine v_condS _ rfl ?_ ?_
  ·intro hc1
   refine v_region ?_; intro K10 k10
   refine zMove ⟨?_⟩
   refine zBinOpW ⟨?_⟩
   refine zMove ⟨?_⟩
   refine v_op ?_; intro K k
   simp only [zE, zM, aStepM, optable, set_some, Nat.reduceEqDiff, reduceIte, Nat.reduceLT, implies_true, forall_const, reduceCtorEq, V.ofValue, V.ofScalar, V.un, V.gd, aExec, lentIds, lendOf, ‹Tys _›.h, ‹Fc _›.h]
   repeat (refine andC ?_)
   refine aCall_lentXA (next_con code a9 s9 hcode hcl (by omega)) ?_
   rintro _ _ ⟨v15, a15, s15, h15, k15, rfl, rfl⟩
   refine ⟨_, _, rfl, by first | exact .inr (List.all_eq_true.1 rfl) | exact .inl ⟨rfl, by simp [Blk.kindIs, fillK_fd]⟩, ?_⟩
   refine k _ ?_; clear k K
   simp only [zY, zW, set_some, Nat.reduceEqDiff, reduceIte, rho_one, rho_s, rho2_s, rho2_0, rho2_1, V.ren, V.renL, List.set_cons_zero, List.set_cons_succ, rho, Nat.reduceAdd, Nat.add_zero]
   refine zBinOpW ⟨?_⟩
   refine zAssign ⟨?_⟩
   refine k10 _ ?_
   refine n7 _ _ (weak_keep [1, 5] _) ?_
   refine zk ⟨?_⟩
   refine v_seqR [4] ?_; intro K11 k11
   refine zMove ⟨?_⟩
   refine zMove ⟨?_⟩
   refine zBinOp ⟨?_⟩
   refine zAssign ⟨?_⟩
   refine k11 _ ?_
   refine zk ⟨?_⟩
   refine v_ret ?_
   refine r0 _ ?_
   refine zf ⟨?_⟩
   have hm1 : 1 < m := by omega
   have ht := tmod_in (x := v9 * 256 + v15) (m := m) (by omega) hm1
   refine ret_viewX ?_
   exact ⟨_, _, _, by omega, by omega, rfl, rfl⟩
  ·intro hc1
   refine v_skip ?_
   refine n7 _ _ (weak_keep [1, 5] _) ?_
   refine zk ⟨?_⟩
   refine v_seqR [4] ?_; intro K12 k12
   refine zMove ⟨?_⟩
   refine zMove ⟨?_⟩
   refine zBinOp ⟨?_⟩
   refine zAssign ⟨?_⟩
   refine k12 _ ?_
   refine zk ⟨?_⟩
   refine v_ret ?_
   refine r0 _ ?_
   refine zf ⟨?_⟩
   have hm1 : 1 < m := by omega
   have ht := tmod_in (x := v9) (m := m) (by omega) hm1
   refine ret_viewX ?_
   exact ⟨_, _, _, by omega, by omega, rfl, rfl⟩
set_option maxHeartbeats 1000000 in
theorem one_con (code : List Int) (a s : Int) (m : Int) (hcode : ∀ x ∈ code, 0 ≤ x ∧ x ≤ 255) (hcl : code.length ≤ 9223372036854775807) (ha : 0 ≤ a ∧ a < 18000000000) : ConX Tryd.prog 75 [.ptr 0 0 0, .int .i64 m] [.box (.agg [.sl (code.map (V.int .u8)), .int .i64 a, .int .u64 s]) .shal] (fun r O' => ∃ (v : Bool) (a' s' : Int), (True) ∧ (a ≤ a' ∧ a' ≤ a + 2) ∧ r = .bool v ∧ O' = [.box (.agg [.sl (code.map (V.int .u8)), .int .i64 a', .int .u64 s']) .shal]) := by
 refine v_conX [.tmp 4] [(73, [0])] Tryd.func75 rfl rfl rfl (by simp [Tryd.ntmps75]) ?_
 intro Q0 n0 r0
 simp only [Tryd.ntmps75, envFrom, Nat.reduceAdd]
 have T := Tys.mk (And.intro Ty.t3 (And.intro Ty.t5 (And.intro Ty.t22 (And.intro Ty.t95 (And.intro Ty.t96 Ty.t98)))))
 have F := Fc.mk True.intro
 refine v_seqR [0,1] ?_; intro K1 k1
 refine zAssign ⟨?_⟩
 refine k1 _ ?_
 refine zk ⟨?_⟩
 refine v_seqR [4] ?_; intro K2 k2
 refine zMove ⟨?_⟩
 refine zMove ⟨?_⟩
 refine v_op ?_; intro K k
 simp only [zE, zM, aStepM, optable, set_some, Nat.reduceEqDiff, reduceIte, Nat.reduceLT, implies_true, forall_const, reduceCtorEq, V.ofValue, V.ofScalar, V.un, V.gd, aExec, lentIds, lendOf, ‹Tys _›.h, ‹Fc _›.h]
 repeat (refine andC ?_)
 refine aCall_lentXA (pick_con code a s (m) hcode hcl (by omega)) ?_
 rintro _ _ ⟨v7, a7, s7, h7, k7, rfl, rfl⟩
 refine ⟨_, _, rfl, by first | exact .inr (List.all_eq_true.1 rfl) | exact .inl ⟨rfl, by simp [Blk.kindIs, fillK_fd]⟩, ?_⟩
 refine k _ ?_; clear k K
 simp only [zY, zW, set_some, Nat.reduceEqDiff, reduceIte, rho_one, rho_s, rho2_s, rho2_0, rho2_1, V.ren, V.renL, List.set_cons_zero, List.set_cons_succ, rho, Nat.reduceAdd, Nat.add_zero]
 refine zBinOp ⟨?_⟩
 refine zAssign ⟨?_⟩
 refine k2 _ ?_
 refine zk ⟨?_⟩
 refine v_ret ?_
 refine r0 _ ?_
 refine zf ⟨?_⟩
 refine ret_viewX ?_
 exact ⟨_, _, _, trivial, by omega, rfl, rfl⟩
set_option maxHeartbeats 1000000 in
theorem among_con (code : List Int) (a s : Int) (l : List Int) (hl : 0 < l.length ∧ l.length ≤ 1048576) (hcode : ∀ x ∈ code, 0 ≤ x ∧ x ≤ 255) (hcl : code.length ≤ 9223372036854775807) (ha : 0 ≤ a ∧ a < 18000000000) : ConX Tryd.prog 76 [.ptr 0 0 0, .ref 1] [.box (.agg [.sl (code.map (V.int .u8)), .int .i64 a, .int .u64 s]) .shal, .arr (l.map (V.int .i64)) .flat] (fun r O' => ∃ (v : Int) (a' s' : Int), (v ∈ l) ∧ (a ≤ a' ∧ a' ≤ a + 2) ∧ r = .int .i64 v ∧ O' = [.box (.agg [.sl (code.map (V.int .u8)), .int .i64 a', .int .u64 s']) .shal, .arr (l.map (V.int .i64)) .flat]) := by
 refine v_conX [.tmp 4] [(73, [0])] Tryd.func76 rfl rfl rfl (by simp [Tryd.ntmps76]) ?_
 intro Q0 n0 r0
 simp only [Tryd.ntmps76, envFrom, Nat.reduceAdd]
 have T := Tys.mk (And.intro Ty.t3 (And.intro Ty.t5 (And.intro Ty.t22 (And.intro Ty.t36 (And.intro Ty.t95 (And.intro Ty.t96 Ty.t98))))))
 have F := Fc.mk True.intro
 refine v_seqR [0,1] ?_; intro K1 k1
 refine zAssign ⟨?_⟩
 refine k1 _ ?_
 refine zk ⟨?_⟩
 refine v_seqR [4] ?_; intro K2 k2
 refine zMove ⟨?_⟩
 refine zMove ⟨?_⟩
 refine zMove ⟨?_⟩
 refine zLen ⟨?_⟩
 refine v_op ?_; intro K k
 simp only [zE, zM, aStepM, optable, set_some, Nat.reduceEqDiff, reduceIte, Nat.reduceLT, implies_true, forall_const, reduceCtorEq, V.ofValue, V.ofScalar, V.un, V.gd, aExec, lentIds, lendOf, ‹Tys _›.h, ‹Fc _›.h]
 repeat (refine andC ?_)
 refine aCall_lentXA (pick_con code a s ((l.length : Int)) hcode hcl (by omega)) ?_
 rintro _ _ ⟨v9, a9, s9, h9, k9, rfl, rfl⟩
 obtain ⟨x, hx⟩ : ∃ x, l[v9.toNat]? = some x := ⟨l[v9.toNat]'(by omega), List.getElem?_eq_getElem (by omega)⟩
 refine ⟨_, _, rfl, by first | exact .inr (List.all_eq_true.1 rfl) | exact .inl ⟨rfl, by simp [Blk.kindIs, fillK_fd]⟩, ?_⟩
 refine k _ ?_; clear k K
 simp only [zY, zW, set_some, Nat.reduceEqDiff, reduceIte, rho_one, rho_s, rho2_s, rho2_0, rho2_1, V.ren, V.renL, List.set_cons_zero, List.set_cons_succ, rho, Nat.reduceAdd, Nat.add_zero]
 have F := Fc.mk (fun f => getD_map (f := f) hx)
 refine zIndexAddr ⟨?_⟩
 refine zLoad ⟨?_⟩
 refine zAssign ⟨?_⟩
 refine k2 _ ?_
 refine zk ⟨?_⟩
 refine v_ret ?_
 refine r0 _ ?_
 refine zf ⟨?_⟩
 refine ret_viewX ?_
 exact ⟨_, _, _, List.mem_of_getElem? hx, by omega, rfl, rfl⟩
theorem snoc_Int {a : List Int} {x : Int} : a.map (V.int .i64) ++ [V.int .i64 x] = (a ++ [x]).map (V.int .i64) := by simp
theorem setat_Int {a : List Int} {i : Nat} {x : Int} : (a.map (V.int .i64)).set i (V.int .i64 x) = (a.set i x).map (V.int .i64) := by rw [List.map_set]
theorem snoc_SL {a : List (List Int)} {x : List Int} : a.map (fun l : List Int => V.sl (l.map (V.int .i64))) ++ [V.sl (x.map (V.int .i64))] = (a ++ [x]).map (fun l : List Int => V.sl (l.map (V.int .i64))) := by simp
theorem setat_SL {a : List (List Int)} {i : Nat} {x : Int} {y : Int} : (a.map (fun l : List Int => V.sl (l.map (V.int .i64)))).set i (V.sl [V.int .i64 x, V.int .i64 y]) = (a.set i [x, y]).map (fun l : List Int => V.sl (l.map (V.int .i64))) := by rw [List.map_set]; rfl

set_option maxHeartbeats 1000000 in
theorem needs_con (code : List Int) (a s : Int) (hcode : ∀ x ∈ code, 0 ≤ x ∧ x ≤ 255) (hcl : code.length ≤ 9223372036854775807) (ha : 0 ≤ a ∧ a < 16000000000) : ConX Tryd.prog 145 [.ptr 0 0 0] [.box (.agg [.sl (code.map (V.int .u8)), .int .i64 a, .int .u64 s]) .shal] (fun r O' => ∃ (l : List Int) (a' s' : Int), (l.length ≤ 22) ∧ (a ≤ a' ∧ a' ≤ a + 1000) ∧ r = .ref 1 ∧ O' = [.box (.agg [.sl (code.map (V.int .u8)), .int .i64 a', .int .u64 s']) .shal, .arr (l.map (V.int .i64)) .flat]) := by
 refine v_conX [.tmp 2] [(76, [0, 1]), (73, [0]), (75, [0])] Tryd.func145 rfl rfl rfl (by simp [Tryd.ntmps145]) ?_
 intro Q0 n0 r0
 simp only [Tryd.ntmps145, envFrom, Nat.reduceAdd]
 have T := Tys.mk (And.intro Ty.t3 (And.intro Ty.t4 (And.intro Ty.t5 (And.intro Ty.t22 (And.intro Ty.t36 (And.intro Ty.t95 (And.intro Ty.t96 Ty.t98)))))))
 have F := Fc.mk True.intro
 refine v_seqR [0] ?_; intro K1 k1
 refine zAssign ⟨?_⟩
 refine k1 _ ?_
 refine zk ⟨?_⟩
 refine v_seqR [0,3] ?_; intro K2 k2
 refine zAssign ⟨?_⟩
 refine k2 _ ?_
 refine zk ⟨?_⟩
 refine v_seqR [0,3,4] ?_; intro K3 k3
 refine zMove ⟨?_⟩
 refine v_op ?_; intro K k
 simp only [zE, zM, aStepM, optable, set_some, Nat.reduceEqDiff, reduceIte, Nat.reduceLT, implies_true, forall_const, reduceCtorEq, V.ofValue, V.ofScalar, V.un, V.gd, aExec, lentIds, lendOf, ‹Tys _›.h, ‹Fc _›.h]
 repeat (refine andC ?_)
 refine aCall_lentXA (pick_con code a s (8) hcode hcl (by omega)) ?_
 rintro _ _ ⟨v6, a6, s6, h6, k6, rfl, rfl⟩
 refine ⟨_, _, rfl, by first | exact .inr (List.all_eq_true.1 rfl) | exact .inl ⟨rfl, by simp [Blk.kindIs, fillK_fd]⟩, ?_⟩
 refine k _ ?_; clear k K
 simp only [zY, zW, set_some, Nat.reduceEqDiff, reduceIte, rho_one, rho_s, rho2_s, rho2_0, rho2_1, V.ren, V.renL, List.set_cons_zero, List.set_cons_succ, rho, Nat.reduceAdd, Nat.add_zero]
 refine zAssign ⟨?_⟩
 refine k3 _ ?_
 refine zk ⟨?_⟩
 refine v_join (A := Int × Int × Int) (fun p => ⟨[(0, .ptr 0 0 0), (3, .ref 1), (4, .int .i64 p.1)], [.box (.agg [.sl (code.map (V.int .u8)), .int .i64 p.2.1, .int .u64 p.2.2]) .shal, .arr [] .flat], false, 37, 0⟩) (fun p => (0 ≤ p.1 ∧ p.1 ≤ 22) ∧ a ≤ p.2.1 ∧ p.2.1 ≤ a + 6) ?_ ?_
 ·intro Q4 n4 e4 r4
  refine v_seqR [0,3,4,8] ?_; intro K5 k5
  refine zMove ⟨?_⟩
  refine v_op ?_; intro K k
  simp only [zE, zM, aStepM, optable, set_some, Nat.reduceEqDiff, reduceIte, Nat.reduceLT, implies_true, forall_const, reduceCtorEq, V.ofValue, V.ofScalar, V.un, V.gd, aExec, lentIds, lendOf, ‹Tys _›.h, ‹Fc _›.h]
  repeat (refine andC ?_)
  refine aCall_lentXA (one_con code a6 s6 (12) hcode hcl (by omega)) ?_
  rintro _ _ ⟨v8, a8, s8, h8, k8, rfl, rfl⟩
  refine ⟨_, _, rfl, by first | exact .inr (List.all_eq_true.1 rfl) | exact .inl ⟨rfl, by simp [Blk.kindIs, fillK_fd]⟩, ?_⟩
  refine k _ ?_; clear k K
  simp only [zY, zW, set_some, Nat.reduceEqDiff, reduceIte, rho_one, rho_s, rho2_s, rho2_0, rho2_1, V.ren, V.renL, List.set_cons_zero, List.set_cons_succ, rho, Nat.reduceAdd, Nat.add_zero]
  refine k5 _ ?_
  refine zk ⟨?_⟩
  refine v_condS _ rfl ?_ ?_
  ·intro hc0
   refine v_region ?_; intro K7 k7
   refine zMove ⟨?_⟩
   refine v_op ?_; intro K k
   simp only [zE, zM, aStepM, optable, set_some, Nat.reduceEqDiff, reduceIte, Nat.reduceLT, implies_true, forall_const, reduceCtorEq, V.ofValue, V.ofScalar, V.un, V.gd, aExec, lentIds, lendOf, ‹Tys _›.h, ‹Fc _›.h]
   repeat (refine andC ?_)
   refine aCall_lentXA (pick_con code a8 s8 (2) hcode hcl (by omega)) ?_
   rintro _ _ ⟨v10, a10, s10, h10, k10, rfl, rfl⟩
   refine ⟨_, _, rfl, by first | exact .inr (List.all_eq_true.1 rfl) | exact .inl ⟨rfl, by simp [Blk.kindIs, fillK_fd]⟩, ?_⟩
   refine k _ ?_; clear k K
   simp only [zY, zW, set_some, Nat.reduceEqDiff, reduceIte, rho_one, rho_s, rho2_s, rho2_0, rho2_1, V.ren, V.renL, List.set_cons_zero, List.set_cons_succ, rho, Nat.reduceAdd, Nat.add_zero]
   refine zBinOpW ⟨?_⟩
   refine zAssign ⟨?_⟩
   refine k7 _ ?_
   refine n4 (21 + v10, a10, s10) _ ?_ ?_
   ·exact ⟨by show 0 ≤ 21 + v10 ∧ 21 + v10 ≤ 22; omega, by show a ≤ a10 ∧ a10 ≤ a + 6; omega⟩
   ·refine weak_both [0, 3, 4] [0, 2] (by decide) (by simp) ?_ ?_ ?_
    ·simp [keep_mk, keepE_nil, keepE_cons, look_cons, V.only, V.onlyL, idx] <;> (first | rfl | decide)
    ·simp [Blk.kindIs, fillK_mix]
    simp only [keep_mk, keepE_nil, keepE_cons, look_cons, look_nil, Nat.reduceEqDiff, reduceIte, St.comp, List.map_cons, List.map_nil, V.ren, V.renL, idx, List.getD_cons_zero, List.getD_cons_succ, Nat.reduceBEq, cond_true, cond_false, Option.map_some, Option.getD_some, Nat.reduceAdd, Nat.beq_eq_true_eq]
    all_goals rfl
  ·intro hc0
   refine v_skip ?_
   refine n4 (v6, a8, s8) _ ?_ ?_
   ·exact ⟨by show 0 ≤ v6 ∧ v6 ≤ 22; omega, by show a ≤ a8 ∧ a8 ≤ a + 6; omega⟩
   ·refine weak_both [0, 3, 4] [0, 2] (by decide) (by simp) ?_ ?_ ?_
    ·simp [keep_mk, keepE_nil, keepE_cons, look_cons, V.only, V.onlyL, idx] <;> (first | rfl | decide)
    ·simp [Blk.kindIs, fillK_mix]
    simp only [keep_mk, keepE_nil, keepE_cons, look_cons, look_nil, Nat.reduceEqDiff, reduceIte, St.comp, List.map_cons, List.map_nil, V.ren, V.renL, idx, List.getD_cons_zero, List.getD_cons_succ, Nat.reduceBEq, cond_true, cond_false, Option.map_some, Option.getD_some, Nat.reduceAdd, Nat.beq_eq_true_eq]
    all_goals rfl
 ·rintro ⟨n, a1, s1⟩ hok4
  obtain ⟨hn, ha1⟩ := hok4
  simp only [] at hn ha1 ⊢
  refine v_seq ?_; intro Q8 n8 e8 r8
  refine v_block ?_; intro Q9 n9 x9 e9 r9
  refine v_loop (fun p => ⟨[(0, .ptr 0 0 0), (3, .ref 1), (4, .int .i64 n)], [.box (.agg [.sl (code.map (V.int .u8)), .int .i64 p.2.1, .int .u64 p.2.2]) .shal, .arr (p.1.map (V.int .i64)) .flat], false, 37, 0⟩) (fun p => (p.1.length : Int) ≤ n ∧ a1 ≤ p.2.1 ∧ p.2.1 ≤ a1 + 10 * (p.1.length : Int)) (fun p => (n - (p.1.length : Int)).toNat) (([], a1, s1) : List Int × Int × Int) ?_ ?_ ?_
  ·refine weak_both [0, 3, 4] [0, 1] (by decide) (by simp) ?_ ?_ ?_
   ·simp [keep_mk, keepE_nil, keepE_cons, look_cons, V.only, V.onlyL, idx] <;> (first | rfl | decide)
   ·simp [Blk.kindIs, fillK_mix]
   simp only [keep_mk, keepE_nil, keepE_cons, look_cons, look_nil, Nat.reduceEqDiff, reduceIte, St.comp, List.map_cons, List.map_nil, V.ren, V.renL, idx, List.getD_cons_zero, List.getD_cons_succ, Nat.reduceBEq, cond_true, cond_false, Option.map_some, Option.getD_some, Nat.reduceAdd, Nat.beq_eq_true_eq]
   all_goals rfl
  ·exact ⟨by simpa using hn.1, by simp⟩
  ·rintro ⟨acc, a2, s2⟩ hok10 Q10 n10 e10 r10
   obtain ⟨hal, ha2⟩ := hok10
   simp only [] at hal ha2 ⊢
   refine v_seq ?_; intro Q11 n11 e11 r11
   refine v_seqR [0,3,4,15] ?_; intro K12 k12
   have F := Fc.mk True.intro
   refine zMove ⟨?_⟩
   refine zLen ⟨?_⟩
   refine zMove ⟨?_⟩
   refine zBinOp ⟨?_⟩
   refine k12 _ ?_
   refine zk ⟨?_⟩
   refine v_condS _ rfl ?_ ?_
   ·intro hc1
    refine v_skip ?_
    refine n11 _ _ (weak_keep [0, 3, 4] _) ?_
    refine zk ⟨?_⟩
    refine v_block ?_; intro Q14 n14 x14 e14 r14
    refine v_region ?_; intro K15 k15
    refine zMove ⟨?_⟩
    refine zMove ⟨?_⟩
    refine zBuildSlice ⟨?_⟩
    refine v_op ?_; intro K k
    simp only [zE, zM, aStepM, optable, set_some, Nat.reduceEqDiff, reduceIte, Nat.reduceLT, implies_true, forall_const, reduceCtorEq, V.ofValue, V.ofScalar, V.un, V.gd, aExec, lentIds, lendOf, ‹Tys _›.h, ‹Fc _›.h]
    repeat (refine andC ?_)
    refine aCall_lent2XA (among_con code a2 s2 [1, 1, 2, 2, 0, 3] (by simp) hcode hcl (by omega)) ?_
    rintro _ _ ⟨v19, a19, s19, h19, k19, rfl, rfl⟩
    refine ⟨_, _, _, rfl, by first | exact .inr (List.all_eq_true.1 rfl) | exact .inl ⟨rfl, by simp [Blk.kindIs, fillK_fd]⟩, ?_⟩
    refine k _ ?_; clear k K
    simp only [zY, zW, set_some, Nat.reduceEqDiff, reduceIte, rho_one, rho_s, rho2_s, rho2_0, rho2_1, V.ren, V.renL, List.set_cons_zero, List.set_cons_succ, rho, Nat.reduceAdd, Nat.add_zero]
    simp only [List.mem_cons, List.not_mem_nil, or_false] at h19
    refine zBuildSlice ⟨?_⟩
    refine zAppend ⟨?_⟩
    refine zAssign ⟨?_⟩
    refine k15 _ ?_
    refine n14 _ ?_
    refine n10 _ (acc ++ [v19], a19, s19) ?_ ?_ ?_
    ·refine weak_bothS [0, 3, 4] [0, 4] ⟨?_⟩
     rw [snoc_Int]
    ·exact ⟨by show ((acc ++ _).length : Int) ≤ n; simp; omega, by show a1 ≤ a19 ∧ a19 ≤ a1 + 10 * ((acc ++ _).length : Int); simp; omega⟩
    ·show _ < _; show (n - ((acc ++ _).length : Int)).toNat < (n - (acc.length : Int)).toNat; simp; omega
   ·intro hc1
    refine v_exit ?_
    refine e11 _ _ ?_
    refine e10 _ _ ?_
    refine x9 _ ?_
    refine n8 _ _ (weak_keep [0, 3, 4] _) ?_
    refine zk ⟨?_⟩
    refine v_seq ?_; intro Q16 n16 e16 r16
    refine v_seqR [0,3,4,27] ?_; intro K17 k17
    refine zMove ⟨?_⟩
    refine zBinOp ⟨?_⟩
    refine zMove ⟨?_⟩
    refine zgMove ⟨?_⟩
    refine v_opG ?_; intro K k
    apply aStep_guardX (id := 0) 2 true (hc := fun hG => one_con code a2 s2 (16) hcode hcl (by omega))
    ·exact (show 26 < 37 by decide)
    ·rfl
    ·first | rfl | (simp only [zV, guardV, Nat.reduceEqDiff, reduceIte]; done)
    ·intro hG F hF; simp only [zE, zM, aStepM, optable, set_some, Nat.reduceEqDiff, reduceIte, Nat.reduceLT, implies_true, forall_const, reduceCtorEq, V.ofValue, V.ofScalar, V.un, V.gd, aExec, lentIds, lendOf, ‹Tys _›.h, ‹Fc _›.h]; first | exact hF | exact ⟨by simpa using hG, hF⟩ | (refine ⟨?_, hF⟩; simp_all; done)
    ·exact ⟨_, true, a2, s2, trivial, by omega, rfl, rfl⟩
    ·rfl
    ·rfl
    ·exact ⟨by simp [Blk.kindIs, fillK_mix], by simp⟩
    ·exact .inl rfl
    rintro _ _ ⟨v26, a26, s26, h26, k26, rfl, rfl⟩
    refine ⟨_, rfl, ⟨rfl, rfl, by simp [Blk.kindIs, fillK_mix], .inr (List.all_eq_true.1 rfl)⟩, ?_⟩
    refine k _ ?_; clear k K
    simp only [zW, set_some, Nat.reduceEqDiff, reduceIte, List.set_cons_zero, List.set_cons_succ]
    refine zPick ⟨?_⟩
    refine k17 _ ?_
    refine zk ⟨?_⟩
    refine v_condS _ rfl ?_ ?_
    ·intro hc2
     have hnl : (acc.length : Int) = n := by omega
     have hn0 : 0 < n := by first | (simp at hc2; omega) | omega
     refine v_region ?_; intro K19 k19
     refine zMove ⟨?_⟩
     refine zMove ⟨?_⟩
     refine zMove ⟨?_⟩
     refine v_op ?_; intro K k
     simp only [zE, zM, aStepM, optable, set_some, Nat.reduceEqDiff, reduceIte, Nat.reduceLT, implies_true, forall_const, reduceCtorEq, V.ofValue, V.ofScalar, V.un, V.gd, aExec, lentIds, lendOf, ‹Tys _›.h, ‹Fc _›.h]
     repeat (refine andC ?_)
     refine aCall_lentXA (pick_con code a26 s26 (n) hcode hcl (by omega)) ?_
     rintro _ _ ⟨v31, a31, s31, h31, k31, rfl, rfl⟩
     obtain ⟨x0, hx⟩ : ∃ x, acc[v31.toNat]? = some x := ⟨acc[v31.toNat]'(by omega), List.getElem?_eq_getElem (by omega)⟩
     refine ⟨_, _, rfl, by first | exact .inr (List.all_eq_true.1 rfl) | exact .inl ⟨rfl, by simp [Blk.kindIs, fillK_fd]⟩, ?_⟩
     refine k _ ?_; clear k K
     simp only [zY, zW, set_some, Nat.reduceEqDiff, reduceIte, rho_one, rho_s, rho2_s, rho2_0, rho2_1, V.ren, V.renL, List.set_cons_zero, List.set_cons_succ, rho, Nat.reduceAdd, Nat.add_zero]
     have F := Fc.mk (And.intro (fun f => getD_map (f := f) hx) @setat_Int)
     refine zMove ⟨?_⟩
     refine zBuildSlice ⟨?_⟩
     refine v_op ?_; intro K k
     simp only [zE, zM, aStepM, optable, set_some, Nat.reduceEqDiff, reduceIte, Nat.reduceLT, implies_true, forall_const, reduceCtorEq, V.ofValue, V.ofScalar, V.un, V.gd, aExec, lentIds, lendOf, ‹Tys _›.h, ‹Fc _›.h]
     repeat (refine andC ?_)
     refine aCall_lent2XA (among_con code a31 s31 [9, 10, -1] (by simp) hcode hcl (by omega)) ?_
     rintro _ _ ⟨v34, a34, s34, h34, k34, rfl, rfl⟩
     refine ⟨_, _, _, rfl, by first | exact .inr (List.all_eq_true.1 rfl) | exact .inl ⟨rfl, by simp [Blk.kindIs, fillK_fd]⟩, ?_⟩
     refine k _ ?_; clear k K
     simp only [zY, zW, set_some, Nat.reduceEqDiff, reduceIte, rho_one, rho_s, rho2_s, rho2_0, rho2_1, V.ren, V.renL, List.set_cons_zero, List.set_cons_succ, rho, Nat.reduceAdd, Nat.add_zero]
     simp only [List.mem_cons, List.not_mem_nil, or_false] at h34
     refine zIndexAddr ⟨?_⟩
     refine zStore ⟨?_⟩
     refine k19 _ ?_
     refine n16 _ _ (weak_keep [3] _) ?_
     refine zk ⟨?_⟩
     refine v_seqR [2] ?_; intro K20 k20
     refine zMove ⟨?_⟩
     refine zAssign ⟨?_⟩
     refine k20 _ ?_
     refine zk ⟨?_⟩
     refine v_ret ?_
     refine r0 _ ?_
     refine zf ⟨?_⟩
     refine ret_viewX ?_
     exact ⟨acc.set v31.toNat v34, _, _, by rw [List.length_set]; omega, by omega, rfl, rfl⟩
    ·intro hc2
     refine v_skip ?_
     refine n16 _ _ (weak_keep [3] _) ?_
     refine zk ⟨?_⟩
     refine v_seqR [2] ?_; intro K21 k21
     refine zMove ⟨?_⟩
     refine zAssign ⟨?_⟩
     refine k21 _ ?_
     refine zk ⟨?_⟩
     refine v_ret ?_
     refine r0 _ ?_
     refine zf ⟨?_⟩
     refine ret_viewX ?_
     exact ⟨acc, _, _, by omega, by omega, rfl, rfl⟩
set_option maxHeartbeats 1000000 in
theorem duty_con (code : List Int) (a s : Int) (hcode : ∀ x ∈ code, 0 ≤ x ∧ x ≤ 255) (hcl : code.length ≤ 9223372036854775807) (ha : 0 ≤ a ∧ a < 16000000000) : ConX Tryd.prog 143 [.ptr 0 0 0] [.box (.agg [.sl (code.map (V.int .u8)), .int .i64 a, .int .u64 s]) .shal] (fun r O' => ∃ (p m r0 : Int) (a' s' : Int), ((0 ≤ p ∧ p ≤ 10) ∧ (0 ≤ m ∧ m ≤ 22) ∧ (-1 ≤ r0 ∧ r0 ≤ 6)) ∧ (a ≤ a' ∧ a' ≤ a + 100) ∧ r = .agg [.int .i64 p, .int .i64 m, .int .i64 r0] ∧ O' = [.box (.agg [.sl (code.map (V.int .u8)), .int .i64 a', .int .u64 s']) .shal]) := by
 refine v_conX [.cell 2 25] [(76, [0, 1]), (73, [0]), (75, [0])] Tryd.func143 rfl rfl rfl (by simp [Tryd.ntmps143]) ?_
 intro Q0 n0 r0
 simp only [Tryd.ntmps143, envFrom, Nat.reduceAdd]
 have T := Tys.mk (And.intro Ty.t3 (And.intro Ty.t5 (And.intro Ty.t22 (And.intro Ty.t25 (And.intro Ty.t36 (And.intro Ty.t95 (And.intro Ty.t96 Ty.t98)))))))
 have F := Fc.mk True.intro
 refine v_seqR [0,2] ?_; intro K1 k1
 refine zAlloc ⟨?_⟩
 refine k1 _ ?_
 refine zk ⟨?_⟩
 refine v_seqR [0,2,3] ?_; intro K2 k2
 refine zMove ⟨?_⟩
 refine zBuildSlice ⟨?_⟩
 refine v_op ?_; intro K k
 simp only [zE, zM, aStepM, optable, set_some, Nat.reduceEqDiff, reduceIte, Nat.reduceLT, implies_true, forall_const, reduceCtorEq, V.ofValue, V.ofScalar, V.un, V.gd, aExec, lentIds, lendOf, ‹Tys _›.h, ‹Fc _›.h]
 repeat (refine andC ?_)
 refine aCall_lent2XA (among_con code a s [3, 4, 5, 6, 1, 9] (by simp) hcode hcl (by omega)) ?_
 rintro _ _ ⟨v6, a6, s6, h6, k6, rfl, rfl⟩
 refine ⟨_, _, _, rfl, by first | exact .inr (List.all_eq_true.1 rfl) | exact .inl ⟨rfl, by simp [Blk.kindIs, fillK_fd]⟩, ?_⟩
 refine k _ ?_; clear k K
 simp only [zY, zW, set_some, Nat.reduceEqDiff, reduceIte, rho_one, rho_s, rho2_s, rho2_0, rho2_1, V.ren, V.renL, List.set_cons_zero, List.set_cons_succ, rho, Nat.reduceAdd, Nat.add_zero]
 simp only [List.mem_cons, List.not_mem_nil, or_false] at h6
 refine zMove ⟨?_⟩
 refine zBuildSlice ⟨?_⟩
 refine v_op ?_; intro K k
 simp only [zE, zM, aStepM, optable, set_some, Nat.reduceEqDiff, reduceIte, Nat.reduceLT, implies_true, forall_const, reduceCtorEq, V.ofValue, V.ofScalar, V.un, V.gd, aExec, lentIds, lendOf, ‹Tys _›.h, ‹Fc _›.h]
 repeat (refine andC ?_)
 refine aCall_lent2XA (among_con code a6 s6 [2, 3, 5, 7, 1, 21] (by simp) hcode hcl (by omega)) ?_
 rintro _ _ ⟨v9, a9, s9, h9, k9, rfl, rfl⟩
 refine ⟨_, _, _, rfl, by first | exact .inr (List.all_eq_true.1 rfl) | exact .inl ⟨rfl, by simp [Blk.kindIs, fillK_fd]⟩, ?_⟩
 refine k _ ?_; clear k K
 simp only [zY, zW, set_some, Nat.reduceEqDiff, reduceIte, rho_one, rho_s, rho2_s, rho2_0, rho2_1, V.ren, V.renL, List.set_cons_zero, List.set_cons_succ, rho, Nat.reduceAdd, Nat.add_zero]
 simp only [List.mem_cons, List.not_mem_nil, or_false] at h9
 refine zMove ⟨?_⟩
 refine zBuildSlice ⟨?_⟩
 refine v_op ?_; intro K k
 simp only [zE, zM, aStepM, optable, set_some, Nat.reduceEqDiff, reduceIte, Nat.reduceLT, implies_true, forall_const, reduceCtorEq, V.ofValue, V.ofScalar, V.un, V.gd, aExec, lentIds, lendOf, ‹Tys _›.h, ‹Fc _›.h]
 repeat (refine andC ?_)
 refine aCall_lent2XA (among_con code a9 s9 [0, 1, 1, 2, 5] (by simp) hcode hcl (by omega)) ?_
 rintro _ _ ⟨v12, a12, s12, h12, k12, rfl, rfl⟩
 refine ⟨_, _, _, rfl, by first | exact .inr (List.all_eq_true.1 rfl) | exact .inl ⟨rfl, by simp [Blk.kindIs, fillK_fd]⟩, ?_⟩
 refine k _ ?_; clear k K
 simp only [zY, zW, set_some, Nat.reduceEqDiff, reduceIte, rho_one, rho_s, rho2_s, rho2_0, rho2_1, V.ren, V.renL, List.set_cons_zero, List.set_cons_succ, rho, Nat.reduceAdd, Nat.add_zero]
 simp only [List.mem_cons, List.not_mem_nil, or_false] at h12
 refine zBuild ⟨?_⟩
 refine zAlloc ⟨?_⟩
 refine zStore ⟨?_⟩
 refine k2 _ ?_
 refine zk ⟨?_⟩
 refine v_seq ?_; intro Q3 n3 e3 r3
 refine v_seqR [0,2,3,15] ?_; intro K4 k4
 refine zMove ⟨?_⟩
 refine v_op ?_; intro K k
 simp only [zE, zM, aStepM, optable, set_some, Nat.reduceEqDiff, reduceIte, Nat.reduceLT, implies_true, forall_const, reduceCtorEq, V.ofValue, V.ofScalar, V.un, V.gd, aExec, lentIds, lendOf, ‹Tys _›.h, ‹Fc _›.h]
 repeat (refine andC ?_)
 refine aCall_lentXA (pick_con code a12 s12 (30) hcode hcl (by omega)) ?_
 rintro _ _ ⟨v15, a15, s15, h15, k15, rfl, rfl⟩
 refine ⟨_, _, rfl, by first | exact .inr (List.all_eq_true.1 rfl) | exact .inl ⟨rfl, by simp [Blk.kindIs, fillK_fd]⟩, ?_⟩
 refine k _ ?_; clear k K
 simp only [zY, zW, set_some, Nat.reduceEqDiff, reduceIte, rho_one, rho_s, rho2_s, rho2_0, rho2_1, V.ren, V.renL, List.set_cons_zero, List.set_cons_succ, rho, Nat.reduceAdd, Nat.add_zero]
 refine k4 _ ?_
 refine zk ⟨?_⟩
 refine v_block ?_; intro Q5 n5 x5 e5 r5
 refine v_seqR [0,2,3,15,16] ?_; intro K6 k6
 refine zBinOp ⟨?_⟩
 refine zAssign ⟨?_⟩
 refine k6 _ ?_
 refine zk ⟨?_⟩
 refine v_condS _ rfl ?_ ?_
 ·intro hc0
  refine v_region ?_; intro K8 k8
  refine zMove ⟨?_⟩
  refine zBuildSlice ⟨?_⟩
  refine v_op ?_; intro K k
  simp only [zE, zM, aStepM, optable, set_some, Nat.reduceEqDiff, reduceIte, Nat.reduceLT, implies_true, forall_const, reduceCtorEq, V.ofValue, V.ofScalar, V.un, V.gd, aExec, lentIds, lendOf, ‹Tys _›.h, ‹Fc _›.h]
  repeat (refine andC ?_)
  refine aCall_lent2XA (among_con code a15 s15 [0, 10] (by simp) hcode hcl (by omega)) ?_
  rintro _ _ ⟨v20, a20, s20, h20, k20, rfl, rfl⟩
  refine ⟨_, _, _, rfl, by first | exact .inr (List.all_eq_true.1 rfl) | exact .inl ⟨rfl, by simp [Blk.kindIs, fillK_fd]⟩, ?_⟩
  refine k _ ?_; clear k K
  simp only [zY, zW, set_some, Nat.reduceEqDiff, reduceIte, rho_one, rho_s, rho2_s, rho2_0, rho2_1, V.ren, V.renL, List.set_cons_zero, List.set_cons_succ, rho, Nat.reduceAdd, Nat.add_zero]
  simp only [List.mem_cons, List.not_mem_nil, or_false] at h20
  refine zFieldAddr ⟨?_⟩
  refine zStore ⟨?_⟩
  refine k8 _ ?_
  refine n5 _ ?_
  refine n3 _ _ (weak_keep [2, 3] _) ?_
  refine zk ⟨?_⟩
  refine v_seqR [2] ?_; intro K9 k9
  refine zLoad ⟨?_⟩
  refine zStore ⟨?_⟩
  refine k9 _ ?_
  refine zk ⟨?_⟩
  refine v_ret ?_
  refine r0 _ ?_
  refine zf ⟨?_⟩
  simp only [zE, zL, zO, zN, aStepM, optable, set_some, Nat.reduceEqDiff, reduceIte, Nat.reduceLT, implies_true, forall_const, reduceCtorEq, V.ofValue, V.ofScalar, V.un, V.gd, aLoad, row_mk, Blk.row, PartOK, Go.Vm.part, V.cells, V.noSl, V.noRef, Nat.reduceAdd, Nat.reduceLeDiff, Nat.reduceMul, Tryd.underlying3, Ty.c3, Ty.a3, Tryd.underlying25, Ty.c25, Ty.a25]
  refine ret_viewX ?_
  exact ⟨v20, v9, v12, _, _, by omega, by omega, rfl, rfl⟩
 ·intro hc0
  refine v_seqR [0,2,3,15,22] ?_; intro K10 k10
  refine zBinOp ⟨?_⟩
  refine zAssign ⟨?_⟩
  refine k10 _ ?_
  refine zk ⟨?_⟩
  refine v_condS _ rfl ?_ ?_
  ·intro hc1
   refine v_region ?_; intro K12 k12
   refine zMove ⟨?_⟩
   refine zBuildSlice ⟨?_⟩
   refine v_op ?_; intro K k
   simp only [zE, zM, aStepM, optable, set_some, Nat.reduceEqDiff, reduceIte, Nat.reduceLT, implies_true, forall_const, reduceCtorEq, V.ofValue, V.ofScalar, V.un, V.gd, aExec, lentIds, lendOf, ‹Tys _›.h, ‹Fc _›.h]
   repeat (refine andC ?_)
   refine aCall_lent2XA (among_con code a15 s15 [0, 22] (by simp) hcode hcl (by omega)) ?_
   rintro _ _ ⟨v26, a26, s26, h26, k26, rfl, rfl⟩
   refine ⟨_, _, _, rfl, by first | exact .inr (List.all_eq_true.1 rfl) | exact .inl ⟨rfl, by simp [Blk.kindIs, fillK_fd]⟩, ?_⟩
   refine k _ ?_; clear k K
   simp only [zY, zW, set_some, Nat.reduceEqDiff, reduceIte, rho_one, rho_s, rho2_s, rho2_0, rho2_1, V.ren, V.renL, List.set_cons_zero, List.set_cons_succ, rho, Nat.reduceAdd, Nat.add_zero]
   simp only [List.mem_cons, List.not_mem_nil, or_false] at h26
   refine zFieldAddr ⟨?_⟩
   refine zStore ⟨?_⟩
   refine k12 _ ?_
   refine n5 _ ?_
   refine n3 _ _ (weak_keep [2, 3] _) ?_
   refine zk ⟨?_⟩
   refine v_seqR [2] ?_; intro K13 k13
   refine zLoad ⟨?_⟩
   refine zStore ⟨?_⟩
   refine k13 _ ?_
   refine zk ⟨?_⟩
   refine v_ret ?_
   refine r0 _ ?_
   refine zf ⟨?_⟩
   simp only [zE, zL, zO, zN, aStepM, optable, set_some, Nat.reduceEqDiff, reduceIte, Nat.reduceLT, implies_true, forall_const, reduceCtorEq, V.ofValue, V.ofScalar, V.un, V.gd, aLoad, row_mk, Blk.row, PartOK, Go.Vm.part, V.cells, V.noSl, V.noRef, Nat.reduceAdd, Nat.reduceLeDiff, Nat.reduceMul, Tryd.underlying3, Ty.c3, Ty.a3, Tryd.underlying25, Ty.c25, Ty.a25]
   refine ret_viewX ?_
   exact ⟨v6, v26, v12, _, _, by omega, by omega, rfl, rfl⟩
  ·intro hc1
   refine v_seqR [0,2,3,28] ?_; intro K14 k14
   refine zBinOp ⟨?_⟩
   refine zAssign ⟨?_⟩
   refine k14 _ ?_
   refine zk ⟨?_⟩
   refine v_condS _ rfl ?_ ?_
   ·intro hc2
    refine v_region ?_; intro K16 k16
    refine zMove ⟨?_⟩
    refine zBuildSlice ⟨?_⟩
    refine v_op ?_; intro K k
    simp only [zE, zM, aStepM, optable, set_some, Nat.reduceEqDiff, reduceIte, Nat.reduceLT, implies_true, forall_const, reduceCtorEq, V.ofValue, V.ofScalar, V.un, V.gd, aExec, lentIds, lendOf, ‹Tys _›.h, ‹Fc _›.h]
    repeat (refine andC ?_)
    refine aCall_lent2XA (among_con code a15 s15 [-1, 6] (by simp) hcode hcl (by omega)) ?_
    rintro _ _ ⟨v32, a32, s32, h32, k32, rfl, rfl⟩
    refine ⟨_, _, _, rfl, by first | exact .inr (List.all_eq_true.1 rfl) | exact .inl ⟨rfl, by simp [Blk.kindIs, fillK_fd]⟩, ?_⟩
    refine k _ ?_; clear k K
    simp only [zY, zW, set_some, Nat.reduceEqDiff, reduceIte, rho_one, rho_s, rho2_s, rho2_0, rho2_1, V.ren, V.renL, List.set_cons_zero, List.set_cons_succ, rho, Nat.reduceAdd, Nat.add_zero]
    simp only [List.mem_cons, List.not_mem_nil, or_false] at h32
    refine zFieldAddr ⟨?_⟩
    refine zStore ⟨?_⟩
    refine k16 _ ?_
    refine n5 _ ?_
    refine n3 _ _ (weak_keep [2, 3] _) ?_
    refine zk ⟨?_⟩
    refine v_seqR [2] ?_; intro K17 k17
    refine zLoad ⟨?_⟩
    refine zStore ⟨?_⟩
    refine k17 _ ?_
    refine zk ⟨?_⟩
    refine v_ret ?_
    refine r0 _ ?_
    refine zf ⟨?_⟩
    simp only [zE, zL, zO, zN, aStepM, optable, set_some, Nat.reduceEqDiff, reduceIte, Nat.reduceLT, implies_true, forall_const, reduceCtorEq, V.ofValue, V.ofScalar, V.un, V.gd, aLoad, row_mk, Blk.row, PartOK, Go.Vm.part, V.cells, V.noSl, V.noRef, Nat.reduceAdd, Nat.reduceLeDiff, Nat.reduceMul, Tryd.underlying3, Ty.c3, Ty.a3, Tryd.underlying25, Ty.c25, Ty.a25]
    refine ret_viewX ?_
    exact ⟨v6, v9, v32, _, _, by omega, by omega, rfl, rfl⟩
   ·intro hc2
    refine v_skip ?_
    refine n5 _ ?_
    refine n3 _ _ (weak_keep [2, 3] _) ?_
    refine zk ⟨?_⟩
    refine v_seqR [2] ?_; intro K18 k18
    refine zLoad ⟨?_⟩
    refine zStore ⟨?_⟩
    refine k18 _ ?_
    refine zk ⟨?_⟩
    refine v_ret ?_
    refine r0 _ ?_
    refine zf ⟨?_⟩
    simp only [zE, zL, zO, zN, aStepM, optable, set_some, Nat.reduceEqDiff, reduceIte, Nat.reduceLT, implies_true, forall_const, reduceCtorEq, V.ofValue, V.ofScalar, V.un, V.gd, aLoad, row_mk, Blk.row, PartOK, Go.Vm.part, V.cells, V.noSl, V.noRef, Nat.reduceAdd, Nat.reduceLeDiff, Nat.reduceMul, Tryd.underlying3, Ty.c3, Ty.a3, Tryd.underlying25, Ty.c25, Ty.a25]
    refine ret_viewX ?_
    exact ⟨v6, v9, v12, _, _, by omega, by omega, rfl, rfl⟩
set_option maxHeartbeats 1000000 in
theorem drawRoster_con (code : List Int) (a s : Int) (people : Int) (hcode : ∀ x ∈ code, 0 ≤ x ∧ x ≤ 255) (hcl : code.length ≤ 9223372036854775807) (ha : 0 ≤ a ∧ a < 16000000000) : ConX Tryd.prog 146 [.ptr 0 0 0, .int .i64 people] [.box (.agg [.sl (code.map (V.int .u8)), .int .i64 a, .int .u64 s]) .shal] (fun r O' => ∃ (l : List (List Int)) (kk : Nat) (a' s' : Int), (l.length ≤ 22 ∧ ∀ x ∈ l, x.length ≤ 9) ∧ (a ≤ a' ∧ a' ≤ a + 1000) ∧ r = .ref 1 ∧ O' = [.box (.agg [.sl (code.map (V.int .u8)), .int .i64 a', .int .u64 s']) .shal, .arr (l.map (fun l : List Int => V.sl (l.map (V.int .i64)))) (fillK kk)]) := by
 refine v_conX [.tmp 4] [(76, [0, 1]), (73, [0]), (75, [0])] Tryd.func146 rfl rfl rfl (by simp [Tryd.ntmps146]) ?_
 intro Q0 n0 r0
 simp only [Tryd.ntmps146, envFrom, Nat.reduceAdd]
 have T := Tys.mk (And.intro Ty.t3 (And.intro Ty.t4 (And.intro Ty.t5 (And.intro Ty.t22 (And.intro Ty.t23 (And.intro Ty.t36 (And.intro Ty.t95 (And.intro Ty.t96 Ty.t98))))))))
 have F := Fc.mk True.intro
 refine v_seqR [0,1] ?_; intro K1 k1
 refine zAssign ⟨?_⟩
 refine k1 _ ?_
 refine zk ⟨?_⟩
 refine v_seqR [0,1,5] ?_; intro K2 k2
 refine zAssign ⟨?_⟩
 refine k2 _ ?_
 refine zk ⟨?_⟩
 refine v_seqR [0,1,5,6] ?_; intro K3 k3
 refine zMove ⟨?_⟩
 refine v_op ?_; intro K k
 simp only [zE, zM, aStepM, optable, set_some, Nat.reduceEqDiff, reduceIte, Nat.reduceLT, implies_true, forall_const, reduceCtorEq, V.ofValue, V.ofScalar, V.un, V.gd, aExec, lentIds, lendOf, ‹Tys _›.h, ‹Fc _›.h]
 repeat (refine andC ?_)
 refine aCall_lentXA (pick_con code a s (7) hcode hcl (by omega)) ?_
 rintro _ _ ⟨v10, a10, s10, h10, k10, rfl, rfl⟩
 refine ⟨_, _, rfl, by first | exact .inr (List.all_eq_true.1 rfl) | exact .inl ⟨rfl, by simp [Blk.kindIs, fillK_fd]⟩, ?_⟩
 refine k _ ?_; clear k K
 simp only [zY, zW, set_some, Nat.reduceEqDiff, reduceIte, rho_one, rho_s, rho2_s, rho2_0, rho2_1, V.ren, V.renL, List.set_cons_zero, List.set_cons_succ, rho, Nat.reduceAdd, Nat.add_zero]
 refine zAssign ⟨?_⟩
 refine k3 _ ?_
 refine zk ⟨?_⟩
 refine v_join (A := Int × Int × Int) (fun p => ⟨[(0, .ptr 0 0 0), (1, .int .i64 people), (5, .ref 1), (6, .int .i64 p.1)], [.box (.agg [.sl (code.map (V.int .u8)), .int .i64 p.2.1, .int .u64 p.2.2]) .shal, .arr [] .flat], false, 56, 0⟩) (fun p => (0 ≤ p.1 ∧ p.1 ≤ 22) ∧ a ≤ p.2.1 ∧ p.2.1 ≤ a + 6) ?_ ?_
 ·intro Q4 n4 e4 r4
  refine v_seqR [0,1,5,6,12] ?_; intro K5 k5
  refine zMove ⟨?_⟩
  refine v_op ?_; intro K k
  simp only [zE, zM, aStepM, optable, set_some, Nat.reduceEqDiff, reduceIte, Nat.reduceLT, implies_true, forall_const, reduceCtorEq, V.ofValue, V.ofScalar, V.un, V.gd, aExec, lentIds, lendOf, ‹Tys _›.h, ‹Fc _›.h]
  repeat (refine andC ?_)
  refine aCall_lentXA (one_con code a10 s10 (12) hcode hcl (by omega)) ?_
  rintro _ _ ⟨v12, a12, s12, h12, k12, rfl, rfl⟩
  refine ⟨_, _, rfl, by first | exact .inr (List.all_eq_true.1 rfl) | exact .inl ⟨rfl, by simp [Blk.kindIs, fillK_fd]⟩, ?_⟩
  refine k _ ?_; clear k K
  simp only [zY, zW, set_some, Nat.reduceEqDiff, reduceIte, rho_one, rho_s, rho2_s, rho2_0, rho2_1, V.ren, V.renL, List.set_cons_zero, List.set_cons_succ, rho, Nat.reduceAdd, Nat.add_zero]
  refine k5 _ ?_
  refine zk ⟨?_⟩
  refine v_condS _ rfl ?_ ?_
  ·intro hc0
   refine v_region ?_; intro K7 k7
   refine zMove ⟨?_⟩
   refine v_op ?_; intro K k
   simp only [zE, zM, aStepM, optable, set_some, Nat.reduceEqDiff, reduceIte, Nat.reduceLT, implies_true, forall_const, reduceCtorEq, V.ofValue, V.ofScalar, V.un, V.gd, aExec, lentIds, lendOf, ‹Tys _›.h, ‹Fc _›.h]
   repeat (refine andC ?_)
   refine aCall_lentXA (pick_con code a12 s12 (2) hcode hcl (by omega)) ?_
   rintro _ _ ⟨v14, a14, s14, h14, k14, rfl, rfl⟩
   refine ⟨_, _, rfl, by first | exact .inr (List.all_eq_true.1 rfl) | exact .inl ⟨rfl, by simp [Blk.kindIs, fillK_fd]⟩, ?_⟩
   refine k _ ?_; clear k K
   simp only [zY, zW, set_some, Nat.reduceEqDiff, reduceIte, rho_one, rho_s, rho2_s, rho2_0, rho2_1, V.ren, V.renL, List.set_cons_zero, List.set_cons_succ, rho, Nat.reduceAdd, Nat.add_zero]
   refine zBinOpW ⟨?_⟩
   refine zAssign ⟨?_⟩
   refine k7 _ ?_
   refine n4 (21 + v14, a14, s14) _ ?_ ?_
   ·exact ⟨by show 0 ≤ 21 + v14 ∧ 21 + v14 ≤ 22; omega, by show a ≤ a14 ∧ a14 ≤ a + 6; omega⟩
   ·refine weak_both [0, 1, 5, 6] [0, 2] (by decide) (by simp) ?_ ?_ ?_
    ·simp [keep_mk, keepE_nil, keepE_cons, look_cons, V.only, V.onlyL, idx] <;> (first | rfl | decide)
    ·simp [Blk.kindIs, fillK_mix]
    simp only [keep_mk, keepE_nil, keepE_cons, look_cons, look_nil, Nat.reduceEqDiff, reduceIte, St.comp, List.map_cons, List.map_nil, V.ren, V.renL, idx, List.getD_cons_zero, List.getD_cons_succ, Nat.reduceBEq, cond_true, cond_false, Option.map_some, Option.getD_some, Nat.reduceAdd, Nat.beq_eq_true_eq]
    all_goals rfl
  ·intro hc0
   refine v_skip ?_
   refine n4 (v10, a12, s12) _ ?_ ?_
   ·exact ⟨by show 0 ≤ v10 ∧ v10 ≤ 22; omega, by show a ≤ a12 ∧ a12 ≤ a + 6; omega⟩
   ·refine weak_both [0, 1, 5, 6] [0, 2] (by decide) (by simp) ?_ ?_ ?_
    ·simp [keep_mk, keepE_nil, keepE_cons, look_cons, V.only, V.onlyL, idx] <;> (first | rfl | decide)
    ·simp [Blk.kindIs, fillK_mix]
    simp only [keep_mk, keepE_nil, keepE_cons, look_cons, look_nil, Nat.reduceEqDiff, reduceIte, St.comp, List.map_cons, List.map_nil, V.ren, V.renL, idx, List.getD_cons_zero, List.getD_cons_succ, Nat.reduceBEq, cond_true, cond_false, Option.map_some, Option.getD_some, Nat.reduceAdd, Nat.beq_eq_true_eq]
    all_goals rfl
 ·rintro ⟨n, a1, s1⟩ hok4
  obtain ⟨hn, ha1⟩ := hok4
  simp only [] at hn ha1 ⊢
  refine v_seq ?_; intro Q8 n8 e8 r8
  refine v_block ?_; intro Q9 n9 x9 e9 r9
  refine v_loop (fun p => ⟨[(0, .ptr 0 0 0), (1, .int .i64 people), (5, .ref 1), (6, .int .i64 n)], [.box (.agg [.sl (code.map (V.int .u8)), .int .i64 p.2.1, .int .u64 p.2.2]) .shal, .arr (p.1.map (fun l : List Int => V.sl (l.map (V.int .i64)))) (fillK p.1.length)], false, 56, 0⟩) (fun p => ((p.1.length : Int) ≤ n ∧ ∀ x ∈ p.1, x.length ≤ 9) ∧ a1 ≤ p.2.1 ∧ p.2.1 ≤ a1 + 30 * (p.1.length : Int)) (fun p => (n - (p.1.length : Int)).toNat) (([], a1, s1) : List (List Int) × Int × Int) ?_ ?_ ?_
  ·refine weak_both [0, 1, 5, 6] [0, 1] (by decide) (by simp) ?_ ?_ ?_
   ·simp [keep_mk, keepE_nil, keepE_cons, look_cons, V.only, V.onlyL, idx] <;> (first | rfl | decide)
   ·simp [Blk.kindIs, fillK_mix]
   simp only [keep_mk, keepE_nil, keepE_cons, look_cons, look_nil, Nat.reduceEqDiff, reduceIte, St.comp, List.map_cons, List.map_nil, V.ren, V.renL, idx, List.getD_cons_zero, List.getD_cons_succ, Nat.reduceBEq, cond_true, cond_false, Option.map_some, Option.getD_some, Nat.reduceAdd, Nat.beq_eq_true_eq]
   all_goals rfl
  ·exact ⟨⟨by simpa using hn.1, by simp⟩, by simp⟩
  ·rintro ⟨acc, a2, s2⟩ hok10 Q10 n10 e10 r10
   obtain ⟨⟨hal, hax⟩, ha2⟩ := hok10
   simp only [] at hal hax ha2 ⊢
   refine v_seq ?_; intro Q11 n11 e11 r11
   refine v_seqR [0,1,5,6,19] ?_; intro K12 k12
   have F := Fc.mk True.intro
   refine zMove ⟨?_⟩
   refine zLen ⟨?_⟩
   refine zMove ⟨?_⟩
   refine zBinOp ⟨?_⟩
   refine k12 _ ?_
   refine zk ⟨?_⟩
   refine v_condS _ rfl ?_ ?_
   ·intro hc1
    refine v_skip ?_
    refine n11 _ _ (weak_keep [0, 1, 5, 6] _) ?_
    refine zk ⟨?_⟩
    refine v_block ?_; intro Q14 n14 x14 e14 r14
    refine v_seqR [0,1,5,6,7] ?_; intro K15 k15
    refine zAssign ⟨?_⟩
    refine k15 _ ?_
    refine zk ⟨?_⟩
    refine v_seq ?_; intro Q16 n16 e16 r16
    refine v_seqR [0,1,5,6,7,8] ?_; intro K17 k17
    refine zAssign ⟨?_⟩
    refine k17 _ ?_
    refine zk ⟨?_⟩
    refine v_block ?_; intro Q18 n18 x18 e18 r18
    refine v_loop (fun q => ⟨[(0, .ptr 0 0 0), (1, .int .i64 people), (5, .ref 1), (6, .int .i64 n), (7, .ref 2), (8, .int .i64 (Nat.cast q.2.1))], [.box (.agg [.sl (code.map (V.int .u8)), .int .i64 q.2.2.1, .int .u64 q.2.2.2]) .shal, .arr (acc.map (fun l : List Int => V.sl (l.map (V.int .i64)))) (fillK acc.length), .arr (q.1.map (V.int .i64)) .flat], false, 56, 0⟩) (fun q => (q.1.length ≤ q.2.1 ∧ q.2.1 ≤ 9) ∧ a2 ≤ q.2.2.1 ∧ q.2.2.1 ≤ a2 + 2 * (q.2.1 : Int)) (fun q => 9 - q.2.1) (([], 0, a2, s2) : List Int × Nat × Int × Int) ?_ ?_ ?_
    ·refine weak_both [0, 1, 5, 6, 7, 8] [0, 1, 2] (by decide) (by simp) ?_ ?_ ?_
     ·simp [keep_mk, keepE_nil, keepE_cons, look_cons, V.only, V.onlyL, idx] <;> (first | rfl | decide)
     ·simp [Blk.kindIs, fillK_mix]
     simp only [keep_mk, keepE_nil, keepE_cons, look_cons, look_nil, Nat.reduceEqDiff, reduceIte, St.comp, List.map_cons, List.map_nil, V.ren, V.renL, idx, List.getD_cons_zero, List.getD_cons_succ, Nat.reduceBEq, cond_true, cond_false, Option.map_some, Option.getD_some, Nat.reduceAdd, Nat.beq_eq_true_eq]
     all_goals rfl
    ·exact ⟨⟨Nat.le_refl _, Nat.zero_le _⟩, by simp⟩
    ·rintro ⟨sh, j, a3, s3⟩ hok19 Q19 n19 e19 r19
     obtain ⟨⟨hsl, hj1⟩, ha3⟩ := hok19
     simp only [] at hsl hj1 ha3 ⊢
     refine v_seq ?_; intro Q20 n20 e20 r20
     refine v_seqR [0,1,5,6,7,8,23] ?_; intro K21 k21
     refine zMove ⟨?_⟩
     refine zMove ⟨?_⟩
     refine zc (l1Least_con people 9) ⟨?_⟩
     refine zBinOp ⟨?_⟩
     refine k21 _ ?_
     refine zk ⟨?_⟩
     refine v_condS _ rfl ?_ ?_
     ·intro hc2
      have hj9 : j < 9 := by have q := hc2; split at q <;> omega
      refine v_skip ?_
      refine n20 _ _ (weak_keep [0, 1, 5, 6, 7, 8] _) ?_
      refine zk ⟨?_⟩
      refine v_seq ?_; intro Q23 n23 e23 r23
      refine v_block ?_; intro Q24 n24 x24 e24 r24
      refine v_seqR [0,1,5,6,7,8,27] ?_; intro K25 k25
      refine zMove ⟨?_⟩
      refine v_op ?_; intro K k
      simp only [zE, zM, aStepM, optable, set_some, Nat.reduceEqDiff, reduceIte, Nat.reduceLT, implies_true, forall_const, reduceCtorEq, V.ofValue, V.ofScalar, V.un, V.gd, aExec, lentIds, lendOf, ‹Tys _›.h, ‹Fc _›.h]
      repeat (refine andC ?_)
      refine aCall_lentXA (one_con code a3 s3 (3) hcode hcl (by omega)) ?_
      rintro _ _ ⟨v27, a27, s27, h27, k27, rfl, rfl⟩
      refine ⟨_, _, rfl, by first | exact .inr (List.all_eq_true.1 rfl) | exact .inl ⟨rfl, by simp [Blk.kindIs, fillK_fd]⟩, ?_⟩
      refine k _ ?_; clear k K
      simp only [zY, zW, set_some, Nat.reduceEqDiff, reduceIte, rho_one, rho_s, rho2_s, rho2_0, rho2_1, V.ren, V.renL, List.set_cons_zero, List.set_cons_succ, rho, Nat.reduceAdd, Nat.add_zero]
      refine k25 _ ?_
      refine zk ⟨?_⟩
      refine v_condS _ rfl ?_ ?_
      ·intro hc3
       refine v_region ?_; intro K27 k27
       refine zMove ⟨?_⟩
       refine zMove ⟨?_⟩
       refine zBuildSlice ⟨?_⟩
       refine zAppend ⟨?_⟩
       refine zAssign ⟨?_⟩
       refine k27 _ ?_
       refine n24 _ ?_
       refine n23 _ _ (weak_keep [0, 1, 5, 6, 7, 8] _) ?_
       refine zk ⟨?_⟩
       refine v_region ?_; intro K28 k28
       refine zMove ⟨?_⟩
       refine zBinOpW ⟨?_⟩
       refine zAssign ⟨?_⟩
       refine k28 _ ?_
       refine n19 _ (sh ++ [(j : Int)], j + 1, a27, s27) ?_ ?_ ?_
       ·refine weak_bothS [0, 1, 5, 6, 7, 8] [0, 1, 4] ⟨?_⟩
        rw [snoc_Int]; rfl
       ·exact ⟨⟨by show (sh ++ _).length ≤ j + 1; simp; omega, by show j + 1 ≤ 9; omega⟩, by show a2 ≤ a27 ∧ a27 ≤ a2 + 2 * ((j + 1 : Nat) : Int); omega⟩
       ·show _ < _; show 9 - (j + 1) < 9 - j; omega
      ·intro hc3
       refine v_skip ?_
       refine n24 _ ?_
       refine n23 _ _ (weak_keep [0, 1, 5, 6, 7, 8] _) ?_
       refine zk ⟨?_⟩
       refine v_region ?_; intro K29 k29
       refine zMove ⟨?_⟩
       refine zBinOpW ⟨?_⟩
       refine zAssign ⟨?_⟩
       refine k29 _ ?_
       refine n19 _ (sh, j + 1, a27, s27) ?_ ?_ ?_
       ·refine weak_both [0, 1, 5, 6, 7, 8] [0, 1, 2] (by decide) (by simp) ?_ ?_ ?_
        ·simp [keep_mk, keepE_nil, keepE_cons, look_cons, V.only, V.onlyL, idx] <;> (first | rfl | decide)
        ·simp [Blk.kindIs, fillK_mix]
        simp only [keep_mk, keepE_nil, keepE_cons, look_cons, look_nil, Nat.reduceEqDiff, reduceIte, St.comp, List.map_cons, List.map_nil, V.ren, V.renL, idx, List.getD_cons_zero, List.getD_cons_succ, Nat.reduceBEq, cond_true, cond_false, Option.map_some, Option.getD_some, Nat.reduceAdd, Nat.beq_eq_true_eq]
        all_goals rfl
       ·exact ⟨⟨by show sh.length ≤ j + 1; omega, by show j + 1 ≤ 9; omega⟩, by show a2 ≤ a27 ∧ a27 ≤ a2 + 2 * ((j + 1 : Nat) : Int); omega⟩
       ·show _ < _; show 9 - (j + 1) < 9 - j; omega
     ·intro hc2
      refine v_exit ?_
      refine e20 _ _ ?_
      refine e19 _ _ ?_
      refine x18 _ ?_
      refine n16 _ _ (weak_keep [0, 1, 5, 6, 7] _) ?_
      refine zk ⟨?_⟩
      refine v_region ?_; intro K30 k30
      refine zMove ⟨?_⟩
      refine zMove ⟨?_⟩
      refine zBuildSlice ⟨?_⟩
      refine zAppend ⟨?_⟩
      refine zAssign ⟨?_⟩
      refine k30 _ ?_
      refine n14 _ ?_
      refine n10 _ (acc ++ [sh], a3, s3) ?_ ?_ ?_
      ·refine weak_bothS [0, 1, 5, 6] [0, 4] ⟨?_⟩
       simp only [snoc_SL, List.length_append, List.length_cons, List.length_nil]
      ·exact ⟨⟨by show ((acc ++ _).length : Int) ≤ n; simp; omega, by show ∀ x ∈ acc ++ [sh], x.length ≤ 9; intro x hx; rcases List.mem_append.1 hx with q | q; exact hax x q; rw [List.mem_singleton] at q; subst q; omega⟩, by show a1 ≤ a3 ∧ a3 ≤ a1 + 30 * ((acc ++ _).length : Int); simp; omega⟩
      ·show _ < _; show (n - ((acc ++ _).length : Int)).toNat < (n - (acc.length : Int)).toNat; simp; omega
   ·intro hc1
    refine v_exit ?_
    refine e11 _ _ ?_
    refine e10 _ _ ?_
    refine x9 _ ?_
    refine n8 _ _ (weak_keep [0, 1, 5, 6] _) ?_
    refine zk ⟨?_⟩
    refine v_seq ?_; intro Q31 n31 e31 r31
    refine v_seqR [0,1,5,6,41] ?_; intro K32 k32
    refine zMove ⟨?_⟩
    refine zBinOp ⟨?_⟩
    refine zMove ⟨?_⟩
    refine zgMove ⟨?_⟩
    refine v_opG ?_; intro K k
    apply aStep_guardX (id := 0) 2 true (hc := fun hG => one_con code a2 s2 (16) hcode hcl (by omega))
    ·exact (show 40 < 56 by decide)
    ·rfl
    ·first | rfl | (simp only [zV, guardV, Nat.reduceEqDiff, reduceIte]; done)
    ·intro hG F hF; simp only [zE, zM, aStepM, optable, set_some, Nat.reduceEqDiff, reduceIte, Nat.reduceLT, implies_true, forall_const, reduceCtorEq, V.ofValue, V.ofScalar, V.un, V.gd, aExec, lentIds, lendOf, ‹Tys _›.h, ‹Fc _›.h]; first | exact hF | exact ⟨by simpa using hG, hF⟩ | (refine ⟨?_, hF⟩; simp_all; done)
    ·exact ⟨_, true, a2, s2, trivial, by omega, rfl, rfl⟩
    ·rfl
    ·rfl
    ·exact ⟨by simp [Blk.kindIs, fillK_mix], by simp⟩
    ·exact .inl rfl
    rintro _ _ ⟨v40, a40, s40, h40, k40, rfl, rfl⟩
    refine ⟨_, rfl, ⟨rfl, rfl, by simp [Blk.kindIs, fillK_mix], .inr (List.all_eq_true.1 rfl)⟩, ?_⟩
    refine k _ ?_; clear k K
    simp only [zW, set_some, Nat.reduceEqDiff, reduceIte, List.set_cons_zero, List.set_cons_succ]
    refine zPick ⟨?_⟩
    refine k32 _ ?_
    refine zk ⟨?_⟩
    refine v_condS _ rfl ?_ ?_
    ·intro hc4
     have hnl : (acc.length : Int) = n := by omega
     have hn0 : 0 < n := by first | (simp at hc4; omega) | omega
     refine v_region ?_; intro K34 k34
     refine zMove ⟨?_⟩
     refine zMove ⟨?_⟩
     refine zMove ⟨?_⟩
     refine v_op ?_; intro K k
     simp only [zE, zM, aStepM, optable, set_some, Nat.reduceEqDiff, reduceIte, Nat.reduceLT, implies_true, forall_const, reduceCtorEq, V.ofValue, V.ofScalar, V.un, V.gd, aExec, lentIds, lendOf, ‹Tys _›.h, ‹Fc _›.h]
     repeat (refine andC ?_)
     refine aCall_lentXA (pick_con code a40 s40 (n) hcode hcl (by omega)) ?_
     rintro _ _ ⟨v45, a45, s45, h45, k45, rfl, rfl⟩
     obtain ⟨x0, hx⟩ : ∃ x, acc[v45.toNat]? = some x := ⟨acc[v45.toNat]'(by omega), List.getElem?_eq_getElem (by omega)⟩
     refine ⟨_, _, rfl, by first | exact .inr (List.all_eq_true.1 rfl) | exact .inl ⟨rfl, by simp [Blk.kindIs, fillK_fd]⟩, ?_⟩
     refine k _ ?_; clear k K
     simp only [zY, zW, set_some, Nat.reduceEqDiff, reduceIte, rho_one, rho_s, rho2_s, rho2_0, rho2_1, V.ren, V.renL, List.set_cons_zero, List.set_cons_succ, rho, Nat.reduceAdd, Nat.add_zero]
     have F := Fc.mk (And.intro (fun f => getD_map (f := f) hx) @setat_SL)
     refine zMove ⟨?_⟩
     refine zMove ⟨?_⟩
     refine zBuildSlice ⟨?_⟩
     refine v_op ?_; intro K k
     simp only [zE, zM, aStepM, optable, set_some, Nat.reduceEqDiff, reduceIte, Nat.reduceLT, implies_true, forall_const, reduceCtorEq, V.ofValue, V.ofScalar, V.un, V.gd, aExec, lentIds, lendOf, ‹Tys _›.h, ‹Fc _›.h]
     repeat (refine andC ?_)
     refine aCall_lent2XA (among_con code a45 s45 [-1, people, 1, 0] (by simp) hcode hcl (by omega)) ?_
     rintro _ _ ⟨v49, a49, s49, h49, k49, rfl, rfl⟩
     refine ⟨_, _, _, rfl, by first | exact .inr (List.all_eq_true.1 rfl) | exact .inl ⟨rfl, by simp [Blk.kindIs, fillK_fd]⟩, ?_⟩
     refine k _ ?_; clear k K
     simp only [zY, zW, set_some, Nat.reduceEqDiff, reduceIte, rho_one, rho_s, rho2_s, rho2_0, rho2_1, V.ren, V.renL, List.set_cons_zero, List.set_cons_succ, rho, Nat.reduceAdd, Nat.add_zero]
     simp only [List.mem_cons, List.not_mem_nil, or_false] at h49
     refine zMove ⟨?_⟩
     refine zBuildSlice ⟨?_⟩
     refine v_op ?_; intro K k
     simp only [zE, zM, aStepM, optable, set_some, Nat.reduceEqDiff, reduceIte, Nat.reduceLT, implies_true, forall_const, reduceCtorEq, V.ofValue, V.ofScalar, V.un, V.gd, aExec, lentIds, lendOf, ‹Tys _›.h, ‹Fc _›.h]
     repeat (refine andC ?_)
     refine aCall_lent2XA (among_con code a49 s49 [0, 1] (by simp) hcode hcl (by omega)) ?_
     rintro _ _ ⟨v52, a52, s52, h52, k52, rfl, rfl⟩
     refine ⟨_, _, _, rfl, by first | exact .inr (List.all_eq_true.1 rfl) | exact .inl ⟨rfl, by simp [Blk.kindIs, fillK_fd]⟩, ?_⟩
     refine k _ ?_; clear k K
     simp only [zY, zW, set_some, Nat.reduceEqDiff, reduceIte, rho_one, rho_s, rho2_s, rho2_0, rho2_1, V.ren, V.renL, List.set_cons_zero, List.set_cons_succ, rho, Nat.reduceAdd, Nat.add_zero]
     simp only [List.mem_cons, List.not_mem_nil, or_false] at h52
     refine zBuildSlice ⟨?_⟩
     refine zIndexAddr ⟨?_⟩
     refine zStore ⟨?_⟩
     refine k34 _ ?_
     refine n31 _ _ (weak_keep [5] _) ?_
     refine zk ⟨?_⟩
     refine v_seqR [4] ?_; intro K35 k35
     refine zMove ⟨?_⟩
     refine zAssign ⟨?_⟩
     refine k35 _ ?_
     refine zk ⟨?_⟩
     refine v_ret ?_
     refine r0 _ ?_
     refine zf ⟨?_⟩
     refine ret_viewX ?_
     exact ⟨acc.set v45.toNat [v49, v52], acc.length + 1, _, _, ⟨by rw [List.length_set]; omega, by intro x hx; rcases List.mem_or_eq_of_mem_set hx with q | q; exact hax x q; subst q; simp⟩, by omega, rfl, rfl⟩
    ·intro hc4
     refine v_skip ?_
     refine n31 _ _ (weak_keep [5] _) ?_
     refine zk ⟨?_⟩
     refine v_seqR [4] ?_; intro K36 k36
     refine zMove ⟨?_⟩
     refine zAssign ⟨?_⟩
     refine k36 _ ?_
     refine zk ⟨?_⟩
     refine v_ret ?_
     refine r0 _ ?_
     refine zf ⟨?_⟩
     refine ret_viewX ?_
     exact ⟨acc, acc.length, _, _, ⟨by omega, hax⟩, by omega, rfl, rfl⟩
set_option maxHeartbeats 1000000 in
theorem drawIsRoster_con (code : List Int) (hcode : ∀ x ∈ code, 0 ≤ x ∧ x ≤ 255) (hcl : code.length ≤ 9223372036854775807) : ConX Tryd.prog 93 [.sl (code.map (V.int .u8))] [] (fun r O' => ∃ (l : List (List Int)) (kk : Nat) (n : Int), (l.length ≤ 22 ∧ (∀ x ∈ l, x.length ≤ 9) ∧ (-1 ≤ n ∧ n ≤ 10)) ∧ r = .tup [.ref 0, .int .i64 n] ∧ O' = [.arr (l.map (fun l : List Int => V.sl (l.map (V.int .i64)))) (fillK kk)]) := by
 refine v_conX [.tmp 2, .tmp 3] [(76, [0, 1]), (146, [0])] Tryd.func93 rfl rfl rfl (by simp [Tryd.ntmps93]) ?_
 intro Q0 n0 r0
 simp only [Tryd.ntmps93, envFrom, Nat.reduceAdd]
 have T := Tys.mk (And.intro Ty.t3 (And.intro Ty.t5 (And.intro Ty.t22 (And.intro Ty.t23 (And.intro Ty.t36 (And.intro Ty.t95 (And.intro Ty.t96 Ty.t98)))))))
 have F := Fc.mk True.intro
 refine v_seqR [0] ?_; intro K1 k1
 refine zAssign ⟨?_⟩
 refine zAssign ⟨?_⟩
 refine k1 _ ?_
 refine zk ⟨?_⟩
 refine v_seqR [4] ?_; intro K2 k2
 refine zMove ⟨?_⟩
 refine zBuild ⟨?_⟩
 refine zBox ⟨?_⟩
 refine zAssign ⟨?_⟩
 refine k2 _ ?_
 refine zk ⟨?_⟩
 refine v_seqR [4,5] ?_; intro K3 k3
 refine zMove ⟨?_⟩
 refine zMove ⟨?_⟩
 refine zBuildSlice ⟨?_⟩
 refine v_op ?_; intro K k
 simp only [zE, zM, aStepM, optable, set_some, Nat.reduceEqDiff, reduceIte, Nat.reduceLT, implies_true, forall_const, reduceCtorEq, V.ofValue, V.ofScalar, V.un, V.gd, aExec, lentIds, lendOf, ‹Tys _›.h, ‹Fc _›.h]
 repeat (refine andC ?_)
 refine aCall_lent2XA (among_con code 0 0 [0, 10, -1] (by simp) hcode hcl (by omega)) ?_
 rintro _ _ ⟨v12, a12, s12, h12, k12, rfl, rfl⟩
 refine ⟨_, _, _, rfl, by first | exact .inr (List.all_eq_true.1 rfl) | exact .inl ⟨rfl, by simp [Blk.kindIs, fillK_fd]⟩, ?_⟩
 refine k _ ?_; clear k K
 simp only [zY, zW, set_some, Nat.reduceEqDiff, reduceIte, rho_one, rho_s, rho2_s, rho2_0, rho2_1, V.ren, V.renL, List.set_cons_zero, List.set_cons_succ, rho, Nat.reduceAdd, Nat.add_zero]
 simp only [List.mem_cons, List.not_mem_nil, or_false] at h12
 refine zBuildSlice ⟨?_⟩
 refine v_op ?_; intro K k
 simp only [zE, zM, aStepM, optable, set_some, Nat.reduceEqDiff, reduceIte, Nat.reduceLT, implies_true, forall_const, reduceCtorEq, V.ofValue, V.ofScalar, V.un, V.gd, aExec, lentIds, lendOf, ‹Tys _›.h, ‹Fc _›.h]
 repeat (refine andC ?_)
 refine aCall_lent2XA (among_con code a12 s12 [3, 4, 5, 1, 9, v12] (by simp) hcode hcl (by omega)) ?_
 rintro _ _ ⟨v14, a14, s14, h14, k14, rfl, rfl⟩
 refine ⟨_, _, _, rfl, by first | exact .inr (List.all_eq_true.1 rfl) | exact .inl ⟨rfl, by simp [Blk.kindIs, fillK_fd]⟩, ?_⟩
 refine k _ ?_; clear k K
 simp only [zY, zW, set_some, Nat.reduceEqDiff, reduceIte, rho_one, rho_s, rho2_s, rho2_0, rho2_1, V.ren, V.renL, List.set_cons_zero, List.set_cons_succ, rho, Nat.reduceAdd, Nat.add_zero]
 simp only [List.mem_cons, List.not_mem_nil, or_false] at h14
 refine zAssign ⟨?_⟩
 refine k3 _ ?_
 refine zk ⟨?_⟩
 refine v_seqR [2,3] ?_; intro K4 k4
 refine zMove ⟨?_⟩
 refine zMove ⟨?_⟩
 refine v_op ?_; intro K k
 simp only [zE, zM, aStepM, optable, set_some, Nat.reduceEqDiff, reduceIte, Nat.reduceLT, implies_true, forall_const, reduceCtorEq, V.ofValue, V.ofScalar, V.un, V.gd, aExec, lentIds, lendOf, ‹Tys _›.h, ‹Fc _›.h]
 repeat (refine andC ?_)
 refine aCall_lentXA (drawRoster_con code a14 s14 v14 hcode hcl (by omega)) ?_
 rintro _ _ ⟨v17, kk17, a17, s17, h17, k17, rfl, rfl⟩
 refine ⟨_, _, rfl, by first | exact .inr (List.all_eq_true.1 rfl) | exact .inl ⟨rfl, by simp [Blk.kindIs, fillK_fd]⟩, ?_⟩
 refine k _ ?_; clear k K
 simp only [zY, zW, set_some, Nat.reduceEqDiff, reduceIte, rho_one, rho_s, rho2_s, rho2_0, rho2_1, V.ren, V.renL, List.set_cons_zero, List.set_cons_succ, rho, Nat.reduceAdd, Nat.add_zero]
 refine zMove ⟨?_⟩
 refine zAssign ⟨?_⟩
 refine zAssign ⟨?_⟩
 refine k4 _ ?_
 refine zk ⟨?_⟩
 refine v_ret ?_
 refine r0 _ ?_
 refine zf ⟨?_⟩
 refine ret_viewX ?_
 exact ⟨v17, kk17, v14, ⟨by omega, h17.2, by omega⟩, rfl, rfl⟩
end Go.Proofs.YtbameklegpgkfaaDoor
