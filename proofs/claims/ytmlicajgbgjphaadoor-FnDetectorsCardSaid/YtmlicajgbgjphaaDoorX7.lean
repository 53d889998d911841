/- What functions compute. No condition. -/
import Derived.Test.YtmlicajgbgjphaaDoorUty
import Derived.Test.YtmlicajgbgjphaaDoorUmG
import Derived.Test.YtmlicajgbgjphaaDoorX5
import Derived.Test.YtmlicajgbgjphaaDoorX6
import Derived.Test.YtmlicajgbgjphaaDoorX4
set_option linter.unusedSimpArgs false
set_option linter.unusedVariables false
set_option linter.defProp false
namespace Go.Proofs.YtmlicajgbgjphaaDoor
open Go Go.Vm

set_option maxHeartbeats 1000000 in
theorem drawNoisyDetectors_con (code : List Int) (hcode : ∀ x ∈ code, 0 ≤ x ∧ x ≤ 255) (hcl : code.length ≤ 9223372036854775807) : ConX Tryd.prog 30 [.sl (code.map (V.int .u8))] [] (fun r O' => ∃ (l : List (Int × Int × Int × Bool)) (s : List (Int × Int)) (w m : Int), (l.length ≤ 21 ∧ s.length ≤ 61 ∧ (-1 ≤ w ∧ w ≤ 3601) ∧ (-1 ≤ m ∧ m ≤ 61)) ∧ r = .tup [.ref 0, .ref 1, .int .i64 w, .int .i64 m] ∧ O' = [.arr (l.map (fun t : Int × Int × Int × Bool => V.agg [V.int .i64 t.1, V.int .i64 t.2.1, V.int .i64 t.2.2.1, V.bool t.2.2.2])) .flat, .arr (s.map (fun t : Int × Int => V.agg [V.int .i64 t.1, V.int .i64 t.2])) .flat]) := by
 refine v_conX [.tmp 2, .tmp 3, .tmp 4, .tmp 5] [(120, [0]), (127, [0]), (128, [0]), (123, [0, 1])] Tryd.func30 rfl rfl rfl (by simp [Tryd.ntmps30]) ?_
 intro Q0 n0 r0
 simp only [Tryd.ntmps30, envFrom, Nat.reduceAdd]
 have T := Tys.mk (And.intro Ty.t3 (And.intro Ty.t4 (And.intro Ty.t5 (And.intro Ty.t33 (And.intro Ty.t43 (And.intro Ty.t48 (And.intro Ty.t51 (And.intro Ty.t61 (And.intro Ty.t65 (And.intro Ty.t141 (And.intro Ty.t142 Ty.t144)))))))))))
 have F := Fc.mk True.intro
 refine v_seqR [0] ?_; intro K1 k1
 refine zAssign ⟨?_⟩
 refine zAssign ⟨?_⟩
 refine zAssign ⟨?_⟩
 refine zAssign ⟨?_⟩
 refine k1 _ ?_
 refine zk ⟨?_⟩
 refine v_seqR [6] ?_; intro K2 k2
 refine zMove ⟨?_⟩
 refine zBuild ⟨?_⟩
 refine zBox ⟨?_⟩
 refine zAssign ⟨?_⟩
 refine k2 _ ?_
 refine zk ⟨?_⟩
 refine v_seqR [2,3,4,5] ?_; intro K3 k3
 refine zMove ⟨?_⟩
 refine v_op ?_; intro K k
 simp only [zE, zM, aStepM, optable, set_some, Nat.reduceEqDiff, reduceIte, Nat.reduceLT, implies_true, forall_const, reduceCtorEq, V.ofValue, V.ofScalar, V.un, V.gd, aExec, lentIds, lendOf, ‹Tys _›.h, ‹Fc _›.h]
 repeat (refine andC ?_)
 refine aCall_lentXA (detectors_con code 0 0 hcode hcl (by omega)) ?_
 rintro _ _ ⟨v11, a11, s11, h11, k11, rfl, rfl⟩
 refine ⟨_, _, rfl, by first | exact .inr (List.all_eq_true.1 rfl) | exact .inl ⟨rfl, by simp [Blk.kindIs, fillK_fd]⟩, ?_⟩
 refine k _ ?_; clear k K
 simp only [zY, zW, set_some, Nat.reduceEqDiff, reduceIte, rho_one, rho_s, rho2_s, rho2_0, rho2_1, V.ren, V.renL, List.set_cons_zero, List.set_cons_succ, rho, Nat.reduceAdd, Nat.add_zero]
 refine zMove ⟨?_⟩
 refine v_op ?_; intro K k
 simp only [zE, zM, aStepM, optable, set_some, Nat.reduceEqDiff, reduceIte, Nat.reduceLT, implies_true, forall_const, reduceCtorEq, V.ofValue, V.ofScalar, V.un, V.gd, aExec, lentIds, lendOf, ‹Tys _›.h, ‹Fc _›.h]
 repeat (refine andC ?_)
 refine aCall_lentXA (signals_con code a11 s11 hcode hcl (by omega)) ?_
 rintro _ _ ⟨v13, a13, s13, h13, k13, rfl, rfl⟩
 refine ⟨_, _, rfl, by first | exact .inr (List.all_eq_true.1 rfl) | exact .inl ⟨rfl, by simp [Blk.kindIs, fillK_fd]⟩, ?_⟩
 refine k _ ?_; clear k K
 simp only [zY, zW, set_some, Nat.reduceEqDiff, reduceIte, rho_one, rho_s, rho2_s, rho2_0, rho2_1, V.ren, V.renL, List.set_cons_zero, List.set_cons_succ, rho, Nat.reduceAdd, Nat.add_zero]
 refine zMove ⟨?_⟩
 refine v_op ?_; intro K k
 simp only [zE, zM, aStepM, optable, set_some, Nat.reduceEqDiff, reduceIte, Nat.reduceLT, implies_true, forall_const, reduceCtorEq, V.ofValue, V.ofScalar, V.un, V.gd, aExec, lentIds, lendOf, ‹Tys _›.h, ‹Fc _›.h]
 repeat (refine andC ?_)
 refine aCall_lentXA (withinOf_con code a13 s13 hcode hcl (by omega)) ?_
 rintro _ _ ⟨v15, a15, s15, h15, k15, rfl, rfl⟩
 refine ⟨_, _, rfl, by first | exact .inr (List.all_eq_true.1 rfl) | exact .inl ⟨rfl, by simp [Blk.kindIs, fillK_fd]⟩, ?_⟩
 refine k _ ?_; clear k K
 simp only [zY, zW, set_some, Nat.reduceEqDiff, reduceIte, rho_one, rho_s, rho2_s, rho2_0, rho2_1, V.ren, V.renL, List.set_cons_zero, List.set_cons_succ, rho, Nat.reduceAdd, Nat.add_zero]
 refine zMove ⟨?_⟩
 refine zMove ⟨?_⟩
 refine zBuildSlice ⟨?_⟩
 refine v_op ?_; intro K k
 simp only [zE, zM, aStepM, optable, set_some, Nat.reduceEqDiff, reduceIte, Nat.reduceLT, implies_true, forall_const, reduceCtorEq, V.ofValue, V.ofScalar, V.un, V.gd, aExec, lentIds, lendOf, ‹Tys _›.h, ‹Fc _›.h]
 repeat (refine andC ?_)
 refine aCall_lent2XA (among_con code a15 s15 [-1, 61] (by simp) hcode hcl (by omega)) ?_
 rintro _ _ ⟨v19, a19, s19, h19, k19, rfl, rfl⟩
 refine ⟨_, _, _, rfl, by first | exact .inr (List.all_eq_true.1 rfl) | exact .inl ⟨rfl, by simp [Blk.kindIs, fillK_fd]⟩, ?_⟩
 refine k _ ?_; clear k K
 simp only [zY, zW, set_some, Nat.reduceEqDiff, reduceIte, rho_one, rho_s, rho2_s, rho2_0, rho2_1, V.ren, V.renL, List.set_cons_zero, List.set_cons_succ, rho, Nat.reduceAdd, Nat.add_zero]
 simp only [List.mem_cons, List.not_mem_nil, or_false] at h19
 refine zBuildSlice ⟨?_⟩
 refine v_op ?_; intro K k
 simp only [zE, zM, aStepM, optable, set_some, Nat.reduceEqDiff, reduceIte, Nat.reduceLT, implies_true, forall_const, reduceCtorEq, V.ofValue, V.ofScalar, V.un, V.gd, aExec, lentIds, lendOf, ‹Tys _›.h, ‹Fc _›.h]
 repeat (refine andC ?_)
 refine aCall_lent2XA (among_con code a19 s19 [0, 1, 2, 60, v19] (by simp) hcode hcl (by omega)) ?_
 rintro _ _ ⟨v21, a21, s21, h21, k21, rfl, rfl⟩
 refine ⟨_, _, _, rfl, by first | exact .inr (List.all_eq_true.1 rfl) | exact .inl ⟨rfl, by simp [Blk.kindIs, fillK_fd]⟩, ?_⟩
 refine k _ ?_; clear k K
 simp only [zY, zW, set_some, Nat.reduceEqDiff, reduceIte, rho_one, rho_s, rho2_s, rho2_0, rho2_1, V.ren, V.renL, List.set_cons_zero, List.set_cons_succ, rho, Nat.reduceAdd, Nat.add_zero]
 simp only [List.mem_cons, List.not_mem_nil, or_false] at h21
 refine zAssign ⟨?_⟩
 refine zAssign ⟨?_⟩
 refine zAssign ⟨?_⟩
 refine zAssign ⟨?_⟩
 refine k3 _ ?_
 refine zk ⟨?_⟩
 refine v_ret ?_
 refine r0 _ ?_
 refine zf ⟨?_⟩
 refine ret_viewX ?_
 exact ⟨v11, v13, v15, v21, by omega, rfl, rfl⟩
set_option maxHeartbeats 1000000 in
theorem drawAreDetectors_con (code : List Int) (hcode : ∀ x ∈ code, 0 ≤ x ∧ x ≤ 255) (hcl : code.length ≤ 9223372036854775807) : ConX Tryd.prog 135 [.sl (code.map (V.int .u8))] [] (fun r O' => ∃ (l : List (Int × Int × Int × Bool)), (l.length ≤ 21) ∧ r = .ref 0 ∧ O' = [.arr (l.map (fun t : Int × Int × Int × Bool => V.agg [V.int .i64 t.1, V.int .i64 t.2.1, V.int .i64 t.2.2.1, V.bool t.2.2.2])) .flat]) := by
 refine v_conX [.tmp 2] [(120, [0])] Tryd.func135 rfl rfl rfl (by simp [Tryd.ntmps135]) ?_
 intro Q0 n0 r0
 simp only [Tryd.ntmps135, envFrom, Nat.reduceAdd]
 have T := Tys.mk (And.intro Ty.t3 (And.intro Ty.t4 (And.intro Ty.t5 (And.intro Ty.t33 (And.intro Ty.t43 (And.intro Ty.t61 (And.intro Ty.t141 (And.intro Ty.t142 Ty.t144))))))))
 have F := Fc.mk True.intro
 refine v_seqR [0] ?_; intro K1 k1
 refine zAssign ⟨?_⟩
 refine k1 _ ?_
 refine zk ⟨?_⟩
 refine v_seqR [3] ?_; intro K2 k2
 refine zMove ⟨?_⟩
 refine zBuild ⟨?_⟩
 refine zBox ⟨?_⟩
 refine zAssign ⟨?_⟩
 refine k2 _ ?_
 refine zk ⟨?_⟩
 refine v_seqR [2] ?_; intro K3 k3
 refine zMove ⟨?_⟩
 refine v_op ?_; intro K k
 simp only [zE, zM, aStepM, optable, set_some, Nat.reduceEqDiff, reduceIte, Nat.reduceLT, implies_true, forall_const, reduceCtorEq, V.ofValue, V.ofScalar, V.un, V.gd, aExec, lentIds, lendOf, ‹Tys _›.h, ‹Fc _›.h]
 repeat (refine andC ?_)
 refine aCall_lentXA (detectors_con code 0 0 hcode hcl (by omega)) ?_
 rintro _ _ ⟨v8, a8, s8, h8, k8, rfl, rfl⟩
 refine ⟨_, _, rfl, by first | exact .inr (List.all_eq_true.1 rfl) | exact .inl ⟨rfl, by simp [Blk.kindIs, fillK_fd]⟩, ?_⟩
 refine k _ ?_; clear k K
 simp only [zY, zW, set_some, Nat.reduceEqDiff, reduceIte, rho_one, rho_s, rho2_s, rho2_0, rho2_1, V.ren, V.renL, List.set_cons_zero, List.set_cons_succ, rho, Nat.reduceAdd, Nat.add_zero]
 refine zAssign ⟨?_⟩
 refine k3 _ ?_
 refine zk ⟨?_⟩
 refine v_ret ?_
 refine r0 _ ?_
 refine zf ⟨?_⟩
 refine ret_viewX ?_
 exact ⟨v8, by omega, rfl, rfl⟩
set_option maxHeartbeats 1000000 in
theorem drawDetectorsText_con (code : List Int) (hcode : ∀ x ∈ code, 0 ≤ x ∧ x ≤ 255) (hcl : code.length ≤ 9223372036854775807) : ConX Tryd.prog 33 [.sl (code.map (V.int .u8))] [] (fun r O' => ∃ (l : List (Int × Int × Int × Bool)), (l.length ≤ 21) ∧ r = .ref 0 ∧ O' = [.arr (l.map (fun t : Int × Int × Int × Bool => V.agg [V.int .i64 t.1, V.int .i64 t.2.1, V.int .i64 t.2.2.1, V.bool t.2.2.2])) .flat]) := by
 refine v_conX [.tmp 2] [] Tryd.func33 rfl rfl rfl (by simp [Tryd.ntmps33]) ?_
 intro Q0 n0 r0
 simp only [Tryd.ntmps33, envFrom, Nat.reduceAdd]
 have T := Tys.mk (And.intro Ty.t3 (And.intro Ty.t4 (And.intro Ty.t5 (And.intro Ty.t33 (And.intro Ty.t43 Ty.t61)))))
 have F := Fc.mk True.intro
 refine v_seqR [0] ?_; intro K1 k1
 refine zAssign ⟨?_⟩
 refine k1 _ ?_
 refine zk ⟨?_⟩
 refine v_seqR [2] ?_; intro K2 k2
 refine zMove ⟨?_⟩
 refine v_op ?_; intro K k
 simp only [zE, zM, aStepM, optable, set_some, Nat.reduceEqDiff, reduceIte, Nat.reduceLT, implies_true, forall_const, reduceCtorEq, V.ofValue, V.ofScalar, V.un, V.gd, aExec, lentIds, lendOf, ‹Tys _›.h, ‹Fc _›.h]
 repeat (refine andC ?_)
 refine aCall_newXA (drawAreDetectors_con code hcode hcl) ?_
 rintro _ _ ⟨l, hql, rfl, rfl⟩
 refine ⟨by first | exact .inl ⟨rfl, by simp [Blk.kindIs, fillK_fd]⟩ | exact .inr (by simp [V.coldIn, V.cold, idx]), ?_⟩
 refine k _ ?_; clear k K
 simp only [zY, zW, set_some, Nat.reduceEqDiff, reduceIte, rho_one, rho_s, V.ren, V.renL, List.set_cons_zero, List.set_cons_succ, rho, Nat.reduceAdd, Nat.add_zero]
 refine zAssign ⟨?_⟩
 refine k2 _ ?_
 refine zk ⟨?_⟩
 refine v_ret ?_
 refine r0 _ ?_
 refine zf ⟨?_⟩
 refine ret_viewX ?_
 exact ⟨l, hql, rfl, rfl⟩
set_option maxHeartbeats 1000000 in
theorem drawAreSignals_con (code : List Int) (hcode : ∀ x ∈ code, 0 ≤ x ∧ x ≤ 255) (hcl : code.length ≤ 9223372036854775807) : ConX Tryd.prog 34 [.sl (code.map (V.int .u8))] [] (fun r O' => ∃ (l : List (Int × Int)), (l.length ≤ 61) ∧ r = .ref 0 ∧ O' = [.arr (l.map (fun t : Int × Int => V.agg [V.int .i64 t.1, V.int .i64 t.2])) .flat]) := by
 refine v_conX [.tmp 2] [(127, [0])] Tryd.func34 rfl rfl rfl (by simp [Tryd.ntmps34]) ?_
 intro Q0 n0 r0
 simp only [Tryd.ntmps34, envFrom, Nat.reduceAdd]
 have T := Tys.mk (And.intro Ty.t3 (And.intro Ty.t5 (And.intro Ty.t43 (And.intro Ty.t51 (And.intro Ty.t65 (And.intro Ty.t141 (And.intro Ty.t142 Ty.t144)))))))
 have F := Fc.mk True.intro
 refine v_seqR [0] ?_; intro K1 k1
 refine zAssign ⟨?_⟩
 refine k1 _ ?_
 refine zk ⟨?_⟩
 refine v_seqR [3] ?_; intro K2 k2
 refine zMove ⟨?_⟩
 refine zBuild ⟨?_⟩
 refine zBox ⟨?_⟩
 refine zAssign ⟨?_⟩
 refine k2 _ ?_
 refine zk ⟨?_⟩
 refine v_seqR [2] ?_; intro K3 k3
 refine zMove ⟨?_⟩
 refine v_op ?_; intro K k
 simp only [zE, zM, aStepM, optable, set_some, Nat.reduceEqDiff, reduceIte, Nat.reduceLT, implies_true, forall_const, reduceCtorEq, V.ofValue, V.ofScalar, V.un, V.gd, aExec, lentIds, lendOf, ‹Tys _›.h, ‹Fc _›.h]
 repeat (refine andC ?_)
 refine aCall_lentXA (signals_con code 0 0 hcode hcl (by omega)) ?_
 rintro _ _ ⟨v8, a8, s8, h8, k8, rfl, rfl⟩
 refine ⟨_, _, rfl, by first | exact .inr (List.all_eq_true.1 rfl) | exact .inl ⟨rfl, by simp [Blk.kindIs, fillK_fd]⟩, ?_⟩
 refine k _ ?_; clear k K
 simp only [zY, zW, set_some, Nat.reduceEqDiff, reduceIte, rho_one, rho_s, rho2_s, rho2_0, rho2_1, V.ren, V.renL, List.set_cons_zero, List.set_cons_succ, rho, Nat.reduceAdd, Nat.add_zero]
 refine zAssign ⟨?_⟩
 refine k3 _ ?_
 refine zk ⟨?_⟩
 refine v_ret ?_
 refine r0 _ ?_
 refine zf ⟨?_⟩
 refine ret_viewX ?_
 exact ⟨v8, by omega, rfl, rfl⟩
set_option maxHeartbeats 1000000 in
theorem drawSwitchDetector_con (code : List Int) (hcode : ∀ x ∈ code, 0 ≤ x ∧ x ≤ 255) (hcl : code.length ≤ 9223372036854775807) : ConX Tryd.prog 25 [.sl (code.map (V.int .u8))] [] (fun r O' => ∃ (l : List (Int × Int × Int × Bool)) (n : Int) (off : Bool), (l.length ≤ 21) ∧ r = .tup [.ref 0, .int .i64 n, .bool off] ∧ O' = [.arr (l.map (fun t : Int × Int × Int × Bool => V.agg [V.int .i64 t.1, V.int .i64 t.2.1, V.int .i64 t.2.2.1, V.bool t.2.2.2])) .flat]) := by
 refine v_conX [.tmp 2, .tmp 3, .tmp 4] [(120, [0]), (123, [0, 1]), (122, [0]), (121, [0])] Tryd.func25 rfl rfl rfl (by simp [Tryd.ntmps25]) ?_
 intro Q0 n0 r0
 simp only [Tryd.ntmps25, envFrom, Nat.reduceAdd]
 have T := Tys.mk (And.intro Ty.t3 (And.intro Ty.t4 (And.intro Ty.t5 (And.intro Ty.t33 (And.intro Ty.t43 (And.intro Ty.t48 (And.intro Ty.t61 (And.intro Ty.t141 (And.intro Ty.t142 Ty.t144)))))))))
 have F := Fc.mk True.intro
 refine v_seqR [0] ?_; intro K1 k1
 refine zAssign ⟨?_⟩
 refine zAssign ⟨?_⟩
 refine zAssign ⟨?_⟩
 refine k1 _ ?_
 refine zk ⟨?_⟩
 refine v_seqR [5] ?_; intro K2 k2
 refine zMove ⟨?_⟩
 refine zBuild ⟨?_⟩
 refine zBox ⟨?_⟩
 refine zAssign ⟨?_⟩
 refine k2 _ ?_
 refine zk ⟨?_⟩
 refine v_seqR [5,6] ?_; intro K3 k3
 refine zMove ⟨?_⟩
 refine v_op ?_; intro K k
 simp only [zE, zM, aStepM, optable, set_some, Nat.reduceEqDiff, reduceIte, Nat.reduceLT, implies_true, forall_const, reduceCtorEq, V.ofValue, V.ofScalar, V.un, V.gd, aExec, lentIds, lendOf, ‹Tys _›.h, ‹Fc _›.h]
 repeat (refine andC ?_)
 refine aCall_lentXA (detectors_con code 0 0 hcode hcl (by omega)) ?_
 rintro _ _ ⟨v11, a11, s11, h11, k11, rfl, rfl⟩
 refine ⟨_, _, rfl, by first | exact .inr (List.all_eq_true.1 rfl) | exact .inl ⟨rfl, by simp [Blk.kindIs, fillK_fd]⟩, ?_⟩
 refine k _ ?_; clear k K
 simp only [zY, zW, set_some, Nat.reduceEqDiff, reduceIte, rho_one, rho_s, rho2_s, rho2_0, rho2_1, V.ren, V.renL, List.set_cons_zero, List.set_cons_succ, rho, Nat.reduceAdd, Nat.add_zero]
 refine zAssign ⟨?_⟩
 refine k3 _ ?_
 refine zk ⟨?_⟩
 refine v_seq ?_; intro Q4 n4 e4 r4
 refine v_seqR [5,6,19] ?_; intro K5 k5
 refine zMove ⟨?_⟩
 refine zLen ⟨?_⟩
 refine zBinOp ⟨?_⟩
 refine zMove ⟨?_⟩
 refine zgMove ⟨?_⟩
 refine v_opG ?_; intro K k
 apply aStep_guardX (id := 1) 3 true (hc := fun hG => one_con code a11 s11 (4) hcode hcl (by omega))
 ·exact (show 17 < 37 by decide)
 ·rfl
 ·first | rfl | (simp only [zV, guardV, Nat.reduceEqDiff, reduceIte]; done)
 ·intro hG F hF; simp only [zE, zM, aStepM, optable, set_some, Nat.reduceEqDiff, reduceIte, Nat.reduceLT, implies_true, forall_const, reduceCtorEq, V.ofValue, V.ofScalar, V.un, V.gd, aExec, lentIds, lendOf, ‹Tys _›.h, ‹Fc _›.h]; first | exact hF | exact ⟨by simpa using hG, hF⟩ | (refine ⟨?_, hF⟩; simp_all; done)
 ·exact ⟨_, true, a11, s11, trivial, by omega, rfl, rfl⟩
 ·rfl
 ·rfl
 ·exact ⟨by simp [Blk.kindIs, fillK_mix], by simp⟩
 ·exact .inl rfl
 rintro _ _ ⟨v17, a17, s17, h17, k17, rfl, rfl⟩
 refine ⟨_, rfl, ⟨rfl, rfl, by simp [Blk.kindIs, fillK_mix], .inr (List.all_eq_true.1 rfl)⟩, ?_⟩
 refine k _ ?_; clear k K
 simp only [zW, set_some, Nat.reduceEqDiff, reduceIte, List.set_cons_zero, List.set_cons_succ]
 refine zgUnOp ⟨?_⟩
 refine zPick ⟨?_⟩
 refine k5 _ ?_
 refine zk ⟨?_⟩
 refine v_condS _ rfl ?_ ?_
 ·intro hc0
  have hn0 : 0 < (v11.length : Int) := by first | (simp at hc0; omega) | (have q := hc0; simp at q; omega)
  refine v_seq ?_; intro Q7 n7 e7 r7
  refine v_draw (by kernel_rfl) ?_; intro K8 q8 k8
  show aAny _ _ _ _ 14 (Array.replicate 14 false) _
  refine zdMove q8 false 0 20 ?_
  refine zdMove q8 false 1 21 ?_
  refine zdMove q8 true 2 22 ?_
  refine zdMove q8 true 3 23 ?_
  refine zdLen q8 true 4 24 ?_
  refine zdMove q8 false 9 29 ?_
  refine aAny_only 5 rfl (by kernel_rfl) ?_; intro K k
  simp only [zE, zM, aStepM, optable, set_some, Nat.reduceEqDiff, reduceIte, Nat.reduceLT, implies_true, forall_const, reduceCtorEq, V.ofValue, V.ofScalar, V.un, V.gd, aExec, lentIds, lendOf, ‹Tys _›.h, ‹Fc _›.h]
  repeat (refine andC ?_)
  refine aCall_lentXA (pick_con code a17 s17 ((v11.length : Int)) hcode hcl (by omega)) ?_
  rintro _ _ ⟨v25, a25, s25, h25, k25, rfl, rfl⟩
  obtain ⟨⟨x0, x1, x2, x3⟩, hx⟩ : ∃ x : Int × Int × Int × Bool, v11[v25.toNat]? = some x := ⟨v11[v25.toNat]'(by omega), List.getElem?_eq_getElem (by omega)⟩
  refine ⟨_, _, rfl, by first | exact .inr (List.all_eq_true.1 rfl) | exact .inl ⟨rfl, by simp [Blk.kindIs, fillK_fd]⟩, ?_⟩
  refine k _ ?_; clear k K
  simp only [zY, zW, set_some, Nat.reduceEqDiff, reduceIte, rho_one, rho_s, rho2_s, rho2_0, rho2_1, V.ren, V.renL, List.set_cons_zero, List.set_cons_succ, rho, Nat.reduceAdd, Nat.add_zero]
  refine aAny_two 6 10 rfl rfl (by kernel_rfl) ?_ ?_
  ·intro K k
   skip
   simp only [zE, zL, zN, aStepM, optable, set_some, Nat.reduceEqDiff, reduceIte, Nat.reduceLT, implies_true, forall_const, reduceCtorEq, V.ofValue, V.ofScalar, V.un, V.gd, aExec, aop, List.mem_cons, List.not_mem_nil, or_false, forall_eq_or_imp, forall_eq, aIndexAddr, row_mk, Blk.row, Go.Vm.V.cells, List.forall_mem_map, List.length_map, Int.toNat_natCast, Int.reduceToNat, TypeDesc.slice.injEq, Nat.reduceAdd, Nat.reduceLeDiff, Nat.reduceMul, Tryd.underlying33, Ty.c33, Ty.a33, Tryd.underlying61, Ty.c61, Ty.a61, getD_map hx]
   repeat (refine And.intro (by first | omega | (intros; omega) | (intros; simp_all; done) | (intros; simp_all; omega)) ?_)
   refine k _ ?_; clear k K
   have F := Fc.mk (fun f => getD_map (f := f) hx)
   refine zdFieldAddr q8 false 7 27 ?_
   refine aAny_two 8 10 rfl rfl (by kernel_rfl) ?_ ?_
   ·intro K k
    skip
    simp only [zE, zL, zO, zN, aStepM, optable, set_some, Nat.reduceEqDiff, reduceIte, Nat.reduceLT, implies_true, forall_const, reduceCtorEq, V.ofValue, V.ofScalar, V.un, V.gd, aExec, aop, aLoad, row_mk, Blk.row, PartOK, Go.Vm.part, V.cells, V.noSl, V.noRef, Nat.reduceAdd, Nat.reduceLeDiff, Nat.reduceMul, Tryd.underlying3, Ty.c3, Ty.a3, getD_map hx]
    repeat (refine And.intro (by first | omega | (intros; omega) | (intros; simp_all; done) | (intros; simp_all; omega)) ?_)
    refine k _ ?_; clear k K
    refine aAny_only 10 rfl (by kernel_rfl) ?_; intro K k
    simp only [zE, zM, aStepM, optable, set_some, Nat.reduceEqDiff, reduceIte, Nat.reduceLT, implies_true, forall_const, reduceCtorEq, V.ofValue, V.ofScalar, V.un, V.gd, aExec, lentIds, lendOf, ‹Tys _›.h, ‹Fc _›.h]
    repeat (refine andC ?_)
    refine aCall_lentXA (one_con code a25 s25 (2) hcode hcl (by omega)) ?_
    rintro _ _ ⟨v30, a30, s30, h30, k30, rfl, rfl⟩
    refine ⟨_, _, rfl, by first | exact .inr (List.all_eq_true.1 rfl) | exact .inl ⟨rfl, by simp [Blk.kindIs, fillK_fd]⟩, ?_⟩
    refine k _ ?_; clear k K
    simp only [zY, zW, set_some, Nat.reduceEqDiff, reduceIte, rho_one, rho_s, rho2_s, rho2_0, rho2_1, V.ren, V.renL, List.set_cons_zero, List.set_cons_succ, rho, Nat.reduceAdd, Nat.add_zero]
    refine zoAssign 11 ⟨?_⟩
    refine zoAssign 12 ⟨?_⟩
    refine zoAssign 13 ⟨?_⟩
    refine aAny_done (by kernel_rfl) ?_
    refine k8 _ ?_
    refine n7 _ _ (weak_keep [2, 3, 4] _) ?_
    refine zk ⟨?_⟩
    refine v_ret ?_
    refine r4 _ ?_
    refine r0 _ ?_
    refine zf ⟨?_⟩
    refine ret_viewX ?_
    exact ⟨v11, x0, v30, by omega, rfl, rfl⟩
   ·intro K k
    skip
    simp only [zE, zM, aStepM, optable, set_some, Nat.reduceEqDiff, reduceIte, Nat.reduceLT, implies_true, forall_const, reduceCtorEq, V.ofValue, V.ofScalar, V.un, V.gd, aExec, lentIds, lendOf, ‹Tys _›.h, ‹Fc _›.h]
    repeat (refine andC ?_)
    refine aCall_lentXA (one_con code a25 s25 (2) hcode hcl (by omega)) ?_
    rintro _ _ ⟨v30, a30, s30, h30, k30, rfl, rfl⟩
    refine ⟨_, _, rfl, by first | exact .inr (List.all_eq_true.1 rfl) | exact .inl ⟨rfl, by simp [Blk.kindIs, fillK_fd]⟩, ?_⟩
    refine k _ ?_; clear k K
    simp only [zY, zW, set_some, Nat.reduceEqDiff, reduceIte, rho_one, rho_s, rho2_s, rho2_0, rho2_1, V.ren, V.renL, List.set_cons_zero, List.set_cons_succ, rho, Nat.reduceAdd, Nat.add_zero]
    refine zdLoad q8 true 8 28 ?_
    refine zoAssign 11 ⟨?_⟩
    refine zoAssign 12 ⟨?_⟩
    refine zoAssign 13 ⟨?_⟩
    refine aAny_done (by kernel_rfl) ?_
    refine k8 _ ?_
    refine n7 _ _ (weak_keep [2, 3, 4] _) ?_
    refine zk ⟨?_⟩
    refine v_ret ?_
    refine r4 _ ?_
    refine r0 _ ?_
    refine zf ⟨?_⟩
    refine ret_viewX ?_
    exact ⟨v11, x0, v30, by omega, rfl, rfl⟩
  ·intro K k
   have F := Fc.mk (fun f => getD_map (f := f) hx)
   skip
   simp only [zE, zM, aStepM, optable, set_some, Nat.reduceEqDiff, reduceIte, Nat.reduceLT, implies_true, forall_const, reduceCtorEq, V.ofValue, V.ofScalar, V.un, V.gd, aExec, lentIds, lendOf, ‹Tys _›.h, ‹Fc _›.h]
   repeat (refine andC ?_)
   refine aCall_lentXA (one_con code a25 s25 (2) hcode hcl (by omega)) ?_
   rintro _ _ ⟨v30, a30, s30, h30, k30, rfl, rfl⟩
   refine ⟨_, _, rfl, by first | exact .inr (List.all_eq_true.1 rfl) | exact .inl ⟨rfl, by simp [Blk.kindIs, fillK_fd]⟩, ?_⟩
   refine k _ ?_; clear k K
   simp only [zY, zW, set_some, Nat.reduceEqDiff, reduceIte, rho_one, rho_s, rho2_s, rho2_0, rho2_1, V.ren, V.renL, List.set_cons_zero, List.set_cons_succ, rho, Nat.reduceAdd, Nat.add_zero]
   refine zdIndexAddr q8 true 6 26 ?_
   refine zdFieldAddr q8 true 7 27 ?_
   refine zdLoad q8 true 8 28 ?_
   refine zoAssign 11 ⟨?_⟩
   refine zoAssign 12 ⟨?_⟩
   refine zoAssign 13 ⟨?_⟩
   refine aAny_done (by kernel_rfl) ?_
   refine k8 _ ?_
   refine n7 _ _ (weak_keep [2, 3, 4] _) ?_
   refine zk ⟨?_⟩
   refine v_ret ?_
   refine r4 _ ?_
   refine r0 _ ?_
   refine zf ⟨?_⟩
   refine ret_viewX ?_
   exact ⟨v11, x0, v30, by omega, rfl, rfl⟩
 ·intro hc0
  refine v_skip ?_
  refine n4 _ _ (weak_keep [5, 6] _) ?_
  refine zk ⟨?_⟩
  refine v_seqR [2,3,4] ?_; intro K9 k9
  refine zMove ⟨?_⟩
  refine zMove ⟨?_⟩
  refine zBuildSlice ⟨?_⟩
  refine v_op ?_; intro K k
  simp only [zE, zM, aStepM, optable, set_some, Nat.reduceEqDiff, reduceIte, Nat.reduceLT, implies_true, forall_const, reduceCtorEq, V.ofValue, V.ofScalar, V.un, V.gd, aExec, lentIds, lendOf, ‹Tys _›.h, ‹Fc _›.h]
  repeat (refine andC ?_)
  refine aCall_lent2XA (among_con code a17 s17 [1, 5, 999, 0] (by simp) hcode hcl (by omega)) ?_
  rintro _ _ ⟨v34, a34, s34, h34, k34, rfl, rfl⟩
  refine ⟨_, _, _, rfl, by first | exact .inr (List.all_eq_true.1 rfl) | exact .inl ⟨rfl, by simp [Blk.kindIs, fillK_fd]⟩, ?_⟩
  refine k _ ?_; clear k K
  simp only [zY, zW, set_some, Nat.reduceEqDiff, reduceIte, rho_one, rho_s, rho2_s, rho2_0, rho2_1, V.ren, V.renL, List.set_cons_zero, List.set_cons_succ, rho, Nat.reduceAdd, Nat.add_zero]
  simp only [List.mem_cons, List.not_mem_nil, or_false] at h34
  refine zMove ⟨?_⟩
  refine v_op ?_; intro K k
  simp only [zE, zM, aStepM, optable, set_some, Nat.reduceEqDiff, reduceIte, Nat.reduceLT, implies_true, forall_const, reduceCtorEq, V.ofValue, V.ofScalar, V.un, V.gd, aExec, lentIds, lendOf, ‹Tys _›.h, ‹Fc _›.h]
  repeat (refine andC ?_)
  refine aCall_lentXA (one_con code a34 s34 (2) hcode hcl (by omega)) ?_
  rintro _ _ ⟨v36, a36, s36, h36, k36, rfl, rfl⟩
  refine ⟨_, _, rfl, by first | exact .inr (List.all_eq_true.1 rfl) | exact .inl ⟨rfl, by simp [Blk.kindIs, fillK_fd]⟩, ?_⟩
  refine k _ ?_; clear k K
  simp only [zY, zW, set_some, Nat.reduceEqDiff, reduceIte, rho_one, rho_s, rho2_s, rho2_0, rho2_1, V.ren, V.renL, List.set_cons_zero, List.set_cons_succ, rho, Nat.reduceAdd, Nat.add_zero]
  refine zAssign ⟨?_⟩
  refine zAssign ⟨?_⟩
  refine zAssign ⟨?_⟩
  refine k9 _ ?_
  refine zk ⟨?_⟩
  refine v_ret ?_
  refine r0 _ ?_
  refine zf ⟨?_⟩
  refine ret_viewX ?_
  exact ⟨v11, v34, v36, by omega, rfl, rfl⟩
theorem chainFrom_map {α : Type} {ok : α → Bool} {bf : α → α → Bool} {f : α → α} (h1 : ∀ x, ok (f x) = ok x) (h2 : ∀ x y, bf (f x) (f y) = bf x y) : ∀ (l : List α) (p : Option α), chainFrom ok bf (p.map f) (l.map f) = chainFrom ok bf p l
  | [], p => by cases p <;> rfl
  | x :: l, p => by
    have ih := chainFrom_map h1 h2 l (some x)
    cases p with
    | none => simp only [Option.map_none, List.map_cons, chainFrom, h1]; rw [← ih]; rfl
    | some q => simp only [Option.map_some, List.map_cons, chainFrom, h1, h2]; rw [← ih]; rfl
theorem dsB_map (l : List (Int × Int × Int × Bool)) : dsB (l.map (swD false)) = dsB l := by
  have e : ∀ m : List (Int × Int × Int × Bool), chainAt dOne dBefore m 0 = chainFrom dOne dBefore none m := fun m => by simp [chainAt]
  rw [dsB, dsB, List.length_map, e, e]
  congr 1
  exact chainFrom_map (f := swD false) (fun _ => rfl) (fun _ _ => rfl) l none
theorem findD_map (n : Int) : ∀ (l : List (Int × Int × Int × Bool)) (i : Nat), findD n i (l.map (swD false)) = findD n i l
  | [], _ => rfl
  | d :: l, i => by rw [List.map_cons, findD, findD, findD_map n l (i + 1)]; rfl
theorem sw_map (l : List (Int × Int × Int × Bool)) (j : Nat) (off : Bool) : (swAt l j off).map (swD false) = l.map (swD false) := by
  unfold swAt
  split
  · rename_i d hd
    apply List.ext_getElem?
    intro i
    rw [List.getElem?_map, List.getElem?_map, List.getElem?_set]
    by_cases e : j = i
    · subst e
      obtain ⟨hj, rfl⟩ := List.getElem?_eq_some_iff.1 hd
      simp [hj, swD]
    · simp [e]
  · rfl
theorem dsB_sw (l : List (Int × Int × Int × Bool)) (j : Nat) (off : Bool) : dsB (swAt l j off) = dsB l := by rw [← dsB_map, sw_map, dsB_map]
theorem findD_sw (n : Int) (l : List (Int × Int × Int × Bool)) (j i : Nat) (off : Bool) : findD n i (swAt l j off) = findD n i l := by rw [← findD_map, sw_map, findD_map]
theorem swB_sw (n : Int) (l : List (Int × Int × Int × Bool)) (j : Nat) (off : Bool) : swB (swAt l j off) n = swB l n := by rw [swB, dsB_sw, findD_sw, swB]
theorem sw_at {l : List (Int × Int × Int × Bool)} {i j : Nat} {x : (Int × Int × Int × Bool)} (off : Bool) (h : l[i]? = some x) : (swAt l j off)[i]? = some (if j = i then swD off x else x) := by
  unfold swAt
  split
  · rename_i d hd
    rw [List.getElem?_set]
    by_cases e : j = i
    · subst e
      rw [h] at hd; cases hd
      have hj := (List.getElem?_eq_some_iff.1 h).1
      simp [hj]
    · simp [e, h]
  · rename_i hd
    by_cases e : j = i
    · subst e; rw [h] at hd; cases hd
    · rw [if_neg e]; exact h
theorem sw_num {l : List (Int × Int × Int × Bool)} {n : Int} (h : swB l n = true) {i : Nat} {x : (Int × Int × Int × Bool)} (hx : l[i]? = some x) : x.1 = n ↔ (findD n 0 l).toNat = i := by
  rw [swB, Bool.and_eq_true, decide_eq_true_eq] at h
  obtain ⟨hd, hf⟩ := h
  rcases findD_cases n l 0 with q | ⟨j, d, q1, q2, q3⟩
  · omega
  · rw [q1, Nat.zero_add]
    have e : ((j : Int)).toNat = j := by omega
    rw [e]
    constructor
    · intro hn
      have hp := List.pairwise_iff_getElem.1 (ds_pair hd)
      obtain ⟨hi, ei⟩ := List.getElem?_eq_some_iff.1 hx
      obtain ⟨hj, ej⟩ := List.getElem?_eq_some_iff.1 q2
      rcases Nat.lt_trichotomy i j with z | z | z
      · have := hp i j hi hj z; rw [ei, ej] at this; omega
      · exact z.symm
      · have := hp j i hj hi z; rw [ei, ej] at this; omega
    · rintro rfl
      rw [hx] at q2; cases q2; exact q3
theorem swR_at {l : List (Int × Int × Int × Bool)} {n : Int} (h : swB l n = true) (off : Bool) {i : Nat} {x : (Int × Int × Int × Bool)} (hx : l[i]? = some x) : (swR l n off)[i]? = some (if x.1 = n then swD off x else x) := by
  rw [swR, if_pos h, sw_at off hx]
  have := sw_num h hx
  by_cases e : x.1 = n
  · rw [if_pos e, if_pos (this.1 e)]
  · rw [if_neg e, if_neg (fun q => e (this.2 q))]
theorem sw_back {l : List (Int × Int × Int × Bool)} {n : Int} (h : swB l n = true) (off : Bool) {i : Nat} {x : (Int × Int × Int × Bool)} (hx : l[i]? = some x) (hn : x.1 = n) : swB (swR l n off) n = true ∧ swR (swR l n off) n x.2.2.2 = l := by
  have e := (sw_num h hx).1 hn
  have e1 : swR l n off = swAt l i off := by rw [swR, if_pos h, e]
  have hb : swB (swAt l i off) n = true := by rw [swB_sw]; exact h
  rw [e1]
  refine ⟨hb, ?_⟩
  rw [swR, if_pos hb, findD_sw, e]
  have h2 := sw_at (j := i) off hx
  rw [if_pos rfl] at h2
  rw [swAt, h2]
  rw [swAt, hx]
  obtain ⟨hi, rfl⟩ := List.getElem?_eq_some_iff.1 hx
  show (l.set i (swD off l[i])).set i (swD l[i].2.2.2 (swD off l[i])) = l
  rw [List.set_set]
  exact List.set_getElem_self hi
theorem oz_mono (l m : List (Int × Int × Int × Bool)) (h : ∀ z, openZ l z = true → openZ m z = true) : ∀ n : Nat, (openTo l n).length ≤ (openTo m n).length
  | 0 => Nat.le_refl 0
  | n + 1 => by
    have ih := oz_mono l m h n
    rw [openTo, openTo, List.length_append, List.length_append]
    by_cases q : openZ l ((n : Int) + 1) = true
    · rw [if_pos q, if_pos (h _ q)]; exact Nat.add_le_add_right ih 1
    · rw [if_neg q]; simp; omega
theorem any_zone (l : List (Int × Int × Int × Bool)) (j : Nat) (off : Bool) (z : Int) : (swAt l j off).any (fun d => decide (d.2.1 = z)) = l.any (fun d => decide (d.2.1 = z)) := by
  have e : ∀ m : List (Int × Int × Int × Bool), m.any (fun d => decide (d.2.1 = z)) = (m.map (swD false)).any (fun d => decide (d.2.1 = z)) := fun m => by rw [List.any_map]; rfl
  rw [e, sw_map, ← e]
theorem openZ_on (l : List (Int × Int × Int × Bool)) (j : Nat) (z : Int) (h : openZ l z = true) : openZ (swAt l j true) z = true := by
  rw [openZ, Bool.and_eq_true, Bool.not_eq_true'] at h ⊢
  refine ⟨by rw [any_zone]; exact h.1, ?_⟩
  rw [List.any_eq_false]
  intro y hy
  have h2 := List.any_eq_false.1 h.2
  unfold swAt at hy
  split at hy
  · rcases List.mem_or_eq_of_mem_set hy with q | q
    · exact h2 y q
    · subst q; simp [swD]
  · exact h2 y hy
theorem openZ_off (l : List (Int × Int × Int × Bool)) (j : Nat) (z : Int) (h : openZ (swAt l j false) z = true) : openZ l z = true := by
  rw [openZ, Bool.and_eq_true, Bool.not_eq_true'] at h ⊢
  refine ⟨by rw [any_zone] at h; exact h.1, ?_⟩
  rw [List.any_eq_false]
  intro y hy
  have h2 := List.any_eq_false.1 h.2
  obtain ⟨i, hi, e⟩ := List.getElem_of_mem hy
  have hx : l[i]? = some y := by rw [List.getElem?_eq_getElem hi, e]
  have h3 := h2 _ (List.mem_of_getElem? (sw_at (j := j) false hx))
  intro q
  apply h3
  simp only [Bool.and_eq_true, decide_eq_true_eq, Bool.not_eq_true'] at q ⊢
  by_cases ej : j = i
  · rw [if_pos ej]; exact ⟨q.1, rfl⟩
  · rw [if_neg ej]; exact q
theorem oz_sw {l : List (Int × Int × Int × Bool)} {n : Int} (h : swB l n = true) (off : Bool) : dsB (swR l n off) = true ∧ (off = true → (ozR l).length ≤ (ozR (swR l n off)).length) ∧ (off = false → (ozR (swR l n off)).length ≤ (ozR l).length) := by
  have hd : dsB l = true := by rw [swB, Bool.and_eq_true] at h; exact h.1
  rw [swR, if_pos h]
  have hd2 : dsB (swAt l (findD n 0 l).toNat off) = true := by rw [dsB_sw]; exact hd
  refine ⟨hd2, ?_, ?_⟩
  · rintro rfl
    rw [ozR, ozR, if_pos hd, if_pos hd2]
    exact oz_mono _ _ (fun z => openZ_on l _ z) 9
  · rintro rfl
    rw [ozR, ozR, if_pos hd, if_pos hd2]
    exact oz_mono _ _ (fun z => openZ_off l _ z) 9
theorem noisy_parts {l : List (Int × Int × Int × Bool)} {s : List (Int × Int)} {w m : Int} (h : noisyB l s w m = true) : askB l s w = true ∧ falseR l s w = falseOf l s w ∧ noisyR l s w m = noisyOf l (falseOf l s w) m := by
  have h0 := h
  rw [noisyB, Bool.and_eq_true] at h
  exact ⟨h.1, by rw [falseR, if_pos h.1], by rw [noisyR, if_pos h0]⟩
theorem noisy_has {l : List (Int × Int × Int × Bool)} {s : List (Int × Int)} {w m : Int} (h : noisyB l s w m = true) {d : (Int × Int × Int × Bool)} (hd : d ∈ l) : d.1 ∈ noisyR l s w m ↔ m < (((falseR l s w).filter fun x => decide (x.2 = d.1)).length : Int) := by
  obtain ⟨_, h2, h3⟩ := noisy_parts h
  rw [h2, h3, noisyOf, List.mem_map]
  constructor
  · rintro ⟨e, he, q⟩
    have := (List.mem_filter.1 he).2
    rw [noisyP, decide_eq_true_eq, q] at this
    exact this
  · intro q
    exact ⟨d, List.mem_filter.2 ⟨hd, by rw [noisyP, decide_eq_true_eq]; exact q⟩, rfl⟩

end Go.Proofs.YtmlicajgbgjphaaDoor
