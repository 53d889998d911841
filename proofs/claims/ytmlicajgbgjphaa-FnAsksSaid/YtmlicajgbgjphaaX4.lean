/- What functions compute. No condition. -/
import Derived.Test.YtmlicajgbgjphaaUty
import Derived.Test.YtmlicajgbgjphaaUmG
import Derived.Test.YtmlicajgbgjphaaX1
set_option linter.unusedSimpArgs false
set_option linter.unusedVariables false
set_option linter.defProp false
namespace Go.Proofs.Ytmlicajgbgjphaa
open Go Go.Vm

theorem snoc_Ask {a : List (Int × Int × Int)} {x0 : Int} {x1 : Int} {x2 : Int} : a.map (fun t : Int × Int × Int => V.agg [V.int .i64 t.1, V.int .i64 t.2.1, V.int .i64 t.2.2]) ++ [V.agg [V.int .i64 x0, V.int .i64 x1, V.int .i64 x2]] = (a ++ [(x0, x1, x2)]).map (fun t : Int × Int × Int => V.agg [V.int .i64 t.1, V.int .i64 t.2.1, V.int .i64 t.2.2]) := by simp
theorem setat_Ask {a : List (Int × Int × Int)} {i : Nat} {x0 : Int} {x1 : Int} {x2 : Int} : (a.map (fun t : Int × Int × Int => V.agg [V.int .i64 t.1, V.int .i64 t.2.1, V.int .i64 t.2.2])).set i (V.agg [V.int .i64 x0, V.int .i64 x1, V.int .i64 x2]) = (a.set i (x0, x1, x2)).map (fun t : Int × Int × Int => V.agg [V.int .i64 t.1, V.int .i64 t.2.1, V.int .i64 t.2.2]) := by rw [List.map_set]

set_option maxHeartbeats 1000000 in
theorem skewOf_con (code : List Int) (a s : Int) (hcode : ∀ x ∈ code, 0 ≤ x ∧ x ≤ 255) (hcl : code.length ≤ 9223372036854775807) (ha : 0 ≤ a ∧ a < 17000000000) : ConX Try.prog 83 [.ptr 0 0 0] [.box (.agg [.sl (code.map (V.int .u8)), .int .i64 a, .int .u64 s]) .shal] (fun r O' => ∃ (v : Int) (a' s' : Int), (-1 ≤ v ∧ v ≤ 11) ∧ (a ≤ a' ∧ a' ≤ a + 4) ∧ r = .int .i64 v ∧ O' = [.box (.agg [.sl (code.map (V.int .u8)), .int .i64 a', .int .u64 s']) .shal]) := by
 refine v_conX [.tmp 2] [(81, [0, 1])] Try.func83 rfl rfl rfl (by simp [Try.ntmps83]) ?_
 intro Q0 n0 r0
 simp only [Try.ntmps83, envFrom, Nat.reduceAdd]
 have T := Tys.mk (And.intro Ty.t3 (And.intro Ty.t5 (And.intro Ty.t22 (And.intro Ty.t31 (And.intro Ty.t117 (And.intro Ty.t118 Ty.t120))))))
 have F := Fc.mk True.intro
 refine v_seqR [0] ?_; intro K1 k1
 refine zAssign ⟨?_⟩
 refine k1 _ ?_
 refine zk ⟨?_⟩
 refine v_seqR [2] ?_; intro K2 k2
 refine zMove ⟨?_⟩
 refine zMove ⟨?_⟩
 refine zBuildSlice ⟨?_⟩
 refine v_op ?_; intro K k
 simp only [zE, zM, aStepM, optable, set_some, Nat.reduceEqDiff, reduceIte, Nat.reduceLT, implies_true, forall_const, reduceCtorEq, V.ofValue, V.ofScalar, V.un, V.gd, aExec, lentIds, lendOf, ‹Tys _›.h, ‹Fc _›.h]
 repeat (refine andC ?_)
 refine aCall_lent2XA (among_con code a s [-1, 11] (by simp) hcode hcl (by omega)) ?_
 rintro _ _ ⟨v6, a6, s6, h6, k6, rfl, rfl⟩
 refine ⟨_, _, _, rfl, by first | exact .inr (List.all_eq_true.1 rfl) | exact .inl ⟨rfl, by simp [Blk.kindIs, fillK_fd]⟩, ?_⟩
 refine k _ ?_; clear k K
 simp only [zY, zW, set_some, Nat.reduceEqDiff, reduceIte, rho_one, rho_s, rho2_s, rho2_0, rho2_1, V.ren, V.renL, List.set_cons_zero, List.set_cons_succ, rho, Nat.reduceAdd, Nat.add_zero]
 simp only [List.mem_cons, List.not_mem_nil, or_false] at h6
 refine zBuildSlice ⟨?_⟩
 refine v_op ?_; intro K k
 simp only [zE, zM, aStepM, optable, set_some, Nat.reduceEqDiff, reduceIte, Nat.reduceLT, implies_true, forall_const, reduceCtorEq, V.ofValue, V.ofScalar, V.un, V.gd, aExec, lentIds, lendOf, ‹Tys _›.h, ‹Fc _›.h]
 repeat (refine andC ?_)
 refine aCall_lent2XA (among_con code a6 s6 [0, 1, 2, 2, 10, v6] (by simp) hcode hcl (by omega)) ?_
 rintro _ _ ⟨v8, a8, s8, h8, k8, rfl, rfl⟩
 refine ⟨_, _, _, rfl, by first | exact .inr (List.all_eq_true.1 rfl) | exact .inl ⟨rfl, by simp [Blk.kindIs, fillK_fd]⟩, ?_⟩
 refine k _ ?_; clear k K
 simp only [zY, zW, set_some, Nat.reduceEqDiff, reduceIte, rho_one, rho_s, rho2_s, rho2_0, rho2_1, V.ren, V.renL, List.set_cons_zero, List.set_cons_succ, rho, Nat.reduceAdd, Nat.add_zero]
 simp only [List.mem_cons, List.not_mem_nil, or_false] at h8
 refine zAssign ⟨?_⟩
 refine k2 _ ?_
 refine zk ⟨?_⟩
 refine v_ret ?_
 refine r0 _ ?_
 refine zf ⟨?_⟩
 refine ret_viewX ?_
 exact ⟨_, _, _, by omega, by omega, rfl, rfl⟩
set_option maxHeartbeats 1000000 in
theorem leaseLength_con (code : List Int) (a s : Int) (hcode : ∀ x ∈ code, 0 ≤ x ∧ x ≤ 255) (hcl : code.length ≤ 9223372036854775807) (ha : 0 ≤ a ∧ a < 17000000000) : ConX Try.prog 84 [.ptr 0 0 0] [.box (.agg [.sl (code.map (V.int .u8)), .int .i64 a, .int .u64 s]) .shal] (fun r O' => ∃ (v : Int) (a' s' : Int), (0 ≤ v ∧ v ≤ 601) ∧ (a ≤ a' ∧ a' ≤ a + 4) ∧ r = .int .i64 v ∧ O' = [.box (.agg [.sl (code.map (V.int .u8)), .int .i64 a', .int .u64 s']) .shal]) := by
 refine v_conX [.tmp 2] [(81, [0, 1])] Try.func84 rfl rfl rfl (by simp [Try.ntmps84]) ?_
 intro Q0 n0 r0
 simp only [Try.ntmps84, envFrom, Nat.reduceAdd]
 have T := Tys.mk (And.intro Ty.t3 (And.intro Ty.t5 (And.intro Ty.t22 (And.intro Ty.t31 (And.intro Ty.t117 (And.intro Ty.t118 Ty.t120))))))
 have F := Fc.mk True.intro
 refine v_seqR [0] ?_; intro K1 k1
 refine zAssign ⟨?_⟩
 refine k1 _ ?_
 refine zk ⟨?_⟩
 refine v_seqR [2] ?_; intro K2 k2
 refine zMove ⟨?_⟩
 refine zMove ⟨?_⟩
 refine zBuildSlice ⟨?_⟩
 refine v_op ?_; intro K k
 simp only [zE, zM, aStepM, optable, set_some, Nat.reduceEqDiff, reduceIte, Nat.reduceLT, implies_true, forall_const, reduceCtorEq, V.ofValue, V.ofScalar, V.un, V.gd, aExec, lentIds, lendOf, ‹Tys _›.h, ‹Fc _›.h]
 repeat (refine andC ?_)
 refine aCall_lent2XA (among_con code a s [0, 601] (by simp) hcode hcl (by omega)) ?_
 rintro _ _ ⟨v6, a6, s6, h6, k6, rfl, rfl⟩
 refine ⟨_, _, _, rfl, by first | exact .inr (List.all_eq_true.1 rfl) | exact .inl ⟨rfl, by simp [Blk.kindIs, fillK_fd]⟩, ?_⟩
 refine k _ ?_; clear k K
 simp only [zY, zW, set_some, Nat.reduceEqDiff, reduceIte, rho_one, rho_s, rho2_s, rho2_0, rho2_1, V.ren, V.renL, List.set_cons_zero, List.set_cons_succ, rho, Nat.reduceAdd, Nat.add_zero]
 simp only [List.mem_cons, List.not_mem_nil, or_false] at h6
 refine zBuildSlice ⟨?_⟩
 refine v_op ?_; intro K k
 simp only [zE, zM, aStepM, optable, set_some, Nat.reduceEqDiff, reduceIte, Nat.reduceLT, implies_true, forall_const, reduceCtorEq, V.ofValue, V.ofScalar, V.un, V.gd, aExec, lentIds, lendOf, ‹Tys _›.h, ‹Fc _›.h]
 repeat (refine andC ?_)
 refine aCall_lent2XA (among_con code a6 s6 [5, 10, 20, 1, 600, v6] (by simp) hcode hcl (by omega)) ?_
 rintro _ _ ⟨v8, a8, s8, h8, k8, rfl, rfl⟩
 refine ⟨_, _, _, rfl, by first | exact .inr (List.all_eq_true.1 rfl) | exact .inl ⟨rfl, by simp [Blk.kindIs, fillK_fd]⟩, ?_⟩
 refine k _ ?_; clear k K
 simp only [zY, zW, set_some, Nat.reduceEqDiff, reduceIte, rho_one, rho_s, rho2_s, rho2_0, rho2_1, V.ren, V.renL, List.set_cons_zero, List.set_cons_succ, rho, Nat.reduceAdd, Nat.add_zero]
 simp only [List.mem_cons, List.not_mem_nil, or_false] at h8
 refine zAssign ⟨?_⟩
 refine k2 _ ?_
 refine zk ⟨?_⟩
 refine v_ret ?_
 refine r0 _ ?_
 refine zf ⟨?_⟩
 refine ret_viewX ?_
 exact ⟨_, _, _, by omega, by omega, rfl, rfl⟩
set_option maxHeartbeats 1000000 in
theorem drawLease_con (code : List Int) (a s : Int) (hcode : ∀ x ∈ code, 0 ≤ x ∧ x ≤ 255) (hcl : code.length ≤ 9223372036854775807) (ha : 0 ≤ a ∧ a < 16000000000) : ConX Try.prog 82 [.ptr 0 0 0] [.box (.agg [.sl (code.map (V.int .u8)), .int .i64 a, .int .u64 s]) .shal] (fun r O' => ∃ (h u : Int) (a' s' : Int), (-1 ≤ h ∧ h ≤ 3) ∧ (a ≤ a' ∧ a' ≤ a + 20) ∧ r = .agg [.int .i64 h, .int .i64 u] ∧ O' = [.box (.agg [.sl (code.map (V.int .u8)), .int .i64 a', .int .u64 s']) .shal]) := by
 refine v_conX [.cell 2 24] [(81, [0, 1]), (78, [0]), (79, [0])] Try.func82 rfl rfl rfl (by simp [Try.ntmps82]) ?_
 intro Q0 n0 r0
 simp only [Try.ntmps82, envFrom, Nat.reduceAdd]
 have T := Tys.mk (And.intro Ty.t3 (And.intro Ty.t5 (And.intro Ty.t22 (And.intro Ty.t24 (And.intro Ty.t31 (And.intro Ty.t117 (And.intro Ty.t118 Ty.t120)))))))
 have F := Fc.mk True.intro
 refine v_seqR [0,2] ?_; intro K1 k1
 refine zAlloc ⟨?_⟩
 refine k1 _ ?_
 refine zk ⟨?_⟩
 refine v_seqR [0,2,3] ?_; intro K2 k2
 refine zMove ⟨?_⟩
 refine zBuildSlice ⟨?_⟩
 refine v_op ?_; intro K k
 simp only [zE, zM, aStepM, optable, set_some, Nat.reduceEqDiff, reduceIte, Nat.reduceLT, implies_true, forall_const, reduceCtorEq, V.ofValue, V.ofScalar, V.un, V.gd, aExec, lentIds, lendOf, ‹Tys _›.h, ‹Fc _›.h]
 repeat (refine andC ?_)
 refine aCall_lent2XA (among_con code a s [0, 1, 1, 2, 2] (by simp) hcode hcl (by omega)) ?_
 rintro _ _ ⟨v6, a6, s6, h6, k6, rfl, rfl⟩
 refine ⟨_, _, _, rfl, by first | exact .inr (List.all_eq_true.1 rfl) | exact .inl ⟨rfl, by simp [Blk.kindIs, fillK_fd]⟩, ?_⟩
 refine k _ ?_; clear k K
 simp only [zY, zW, set_some, Nat.reduceEqDiff, reduceIte, rho_one, rho_s, rho2_s, rho2_0, rho2_1, V.ren, V.renL, List.set_cons_zero, List.set_cons_succ, rho, Nat.reduceAdd, Nat.add_zero]
 simp only [List.mem_cons, List.not_mem_nil, or_false] at h6
 refine zBuild ⟨?_⟩
 refine zAlloc ⟨?_⟩
 refine zStore ⟨?_⟩
 refine k2 _ ?_
 refine zk ⟨?_⟩
 refine v_seq ?_; intro Q3 n3 e3 r3
 refine v_seqR [0,2,3,10] ?_; intro K4 k4
 refine zFieldAddr ⟨?_⟩
 refine zLoad ⟨?_⟩
 refine zBinOp ⟨?_⟩
 refine k4 _ ?_
 refine zk ⟨?_⟩
 refine v_condS _ rfl ?_ ?_
 ·intro hc0
  refine v_region ?_; intro K6 k6
  refine zMove ⟨?_⟩
  refine zMove ⟨?_⟩
  refine v_op ?_; intro K k
  simp only [zE, zM, aStepM, optable, set_some, Nat.reduceEqDiff, reduceIte, Nat.reduceLT, implies_true, forall_const, reduceCtorEq, V.ofValue, V.ofScalar, V.un, V.gd, aExec, lentIds, lendOf, ‹Tys _›.h, ‹Fc _›.h]
  repeat (refine andC ?_)
  refine aCall_lentXA (pick_con code a6 s6 (60) hcode hcl (by omega)) ?_
  rintro _ _ ⟨v13, a13, s13, h13, k13, rfl, rfl⟩
  refine ⟨_, _, rfl, by first | exact .inr (List.all_eq_true.1 rfl) | exact .inl ⟨rfl, by simp [Blk.kindIs, fillK_fd]⟩, ?_⟩
  refine k _ ?_; clear k K
  simp only [zY, zW, set_some, Nat.reduceEqDiff, reduceIte, rho_one, rho_s, rho2_s, rho2_0, rho2_1, V.ren, V.renL, List.set_cons_zero, List.set_cons_succ, rho, Nat.reduceAdd, Nat.add_zero]
  refine zBuildSlice ⟨?_⟩
  refine v_op ?_; intro K k
  simp only [zE, zM, aStepM, optable, set_some, Nat.reduceEqDiff, reduceIte, Nat.reduceLT, implies_true, forall_const, reduceCtorEq, V.ofValue, V.ofScalar, V.un, V.gd, aExec, lentIds, lendOf, ‹Tys _›.h, ‹Fc _›.h]
  repeat (refine andC ?_)
  refine aCall_lent2XA (among_con code a13 s13 [0, 10, 20, 30, 99999, v13] (by simp) hcode hcl (by omega)) ?_
  rintro _ _ ⟨v15, a15, s15, h15, k15, rfl, rfl⟩
  refine ⟨_, _, _, rfl, by first | exact .inr (List.all_eq_true.1 rfl) | exact .inl ⟨rfl, by simp [Blk.kindIs, fillK_fd]⟩, ?_⟩
  refine k _ ?_; clear k K
  simp only [zY, zW, set_some, Nat.reduceEqDiff, reduceIte, rho_one, rho_s, rho2_s, rho2_0, rho2_1, V.ren, V.renL, List.set_cons_zero, List.set_cons_succ, rho, Nat.reduceAdd, Nat.add_zero]
  simp only [List.mem_cons, List.not_mem_nil, or_false] at h15
  refine zFieldAddr ⟨?_⟩
  refine zStore ⟨?_⟩
  refine k6 _ ?_
  refine n3 _ _ (weak_keep [0, 2, 3] _) ?_
  refine zk ⟨?_⟩
  refine v_seq ?_; intro Q7 n7 e7 r7
  refine v_seqR [0,2,3,18] ?_; intro K8 k8
  refine zMove ⟨?_⟩
  refine v_op ?_; intro K k
  simp only [zE, zM, aStepM, optable, set_some, Nat.reduceEqDiff, reduceIte, Nat.reduceLT, implies_true, forall_const, reduceCtorEq, V.ofValue, V.ofScalar, V.un, V.gd, aExec, lentIds, lendOf, ‹Tys _›.h, ‹Fc _›.h]
  repeat (refine andC ?_)
  refine aCall_lentXA (pick_con code a15 s15 (40) hcode hcl (by omega)) ?_
  rintro _ _ ⟨v18, a18, s18, h18, k18, rfl, rfl⟩
  refine ⟨_, _, rfl, by first | exact .inr (List.all_eq_true.1 rfl) | exact .inl ⟨rfl, by simp [Blk.kindIs, fillK_fd]⟩, ?_⟩
  refine k _ ?_; clear k K
  simp only [zY, zW, set_some, Nat.reduceEqDiff, reduceIte, rho_one, rho_s, rho2_s, rho2_0, rho2_1, V.ren, V.renL, List.set_cons_zero, List.set_cons_succ, rho, Nat.reduceAdd, Nat.add_zero]
  refine k8 _ ?_
  refine zk ⟨?_⟩
  refine v_block ?_; intro Q9 n9 x9 e9 r9
  refine v_seqR [0,2,3,18,19] ?_; intro K10 k10
  refine zBinOp ⟨?_⟩
  refine zAssign ⟨?_⟩
  refine k10 _ ?_
  refine zk ⟨?_⟩
  refine v_condS _ rfl ?_ ?_
  ·intro hc1
   refine v_region ?_; intro K12 k12
   refine zMove ⟨?_⟩
   refine zBuildSlice ⟨?_⟩
   refine v_op ?_; intro K k
   simp only [zE, zM, aStepM, optable, set_some, Nat.reduceEqDiff, reduceIte, Nat.reduceLT, implies_true, forall_const, reduceCtorEq, V.ofValue, V.ofScalar, V.un, V.gd, aExec, lentIds, lendOf, ‹Tys _›.h, ‹Fc _›.h]
   repeat (refine andC ?_)
   refine aCall_lent2XA (among_con code a18 s18 [3, -1] (by simp) hcode hcl (by omega)) ?_
   rintro _ _ ⟨v23, a23, s23, h23, k23, rfl, rfl⟩
   refine ⟨_, _, _, rfl, by first | exact .inr (List.all_eq_true.1 rfl) | exact .inl ⟨rfl, by simp [Blk.kindIs, fillK_fd]⟩, ?_⟩
   refine k _ ?_; clear k K
   simp only [zY, zW, set_some, Nat.reduceEqDiff, reduceIte, rho_one, rho_s, rho2_s, rho2_0, rho2_1, V.ren, V.renL, List.set_cons_zero, List.set_cons_succ, rho, Nat.reduceAdd, Nat.add_zero]
   simp only [List.mem_cons, List.not_mem_nil, or_false] at h23
   refine zFieldAddr ⟨?_⟩
   refine zStore ⟨?_⟩
   refine k12 _ ?_
   refine n9 _ ?_
   refine n7 _ _ (weak_keep [2, 3] _) ?_
   refine zk ⟨?_⟩
   refine v_seqR [2] ?_; intro K13 k13
   refine zLoad ⟨?_⟩
   refine zStore ⟨?_⟩
   refine k13 _ ?_
   refine zk ⟨?_⟩
   refine v_ret ?_
   refine r0 _ ?_
   refine zf ⟨?_⟩
   simp only [zE, zL, zO, zN, aStepM, optable, set_some, Nat.reduceEqDiff, reduceIte, Nat.reduceLT, implies_true, forall_const, reduceCtorEq, V.ofValue, V.ofScalar, V.un, V.gd, aLoad, row_mk, Blk.row, PartOK, Go.Vm.part, V.cells, V.noSl, V.noRef, Nat.reduceAdd, Nat.reduceLeDiff, Nat.reduceMul, Try.underlying3, Ty.c3, Ty.a3, Try.underlying24, Ty.c24, Ty.a24]
   refine ret_viewX ?_
   exact ⟨v23, v15, _, _, by omega, by omega, rfl, rfl⟩
  ·intro hc1
   refine v_seqR [0,2,3,25] ?_; intro K14 k14
   refine zBinOp ⟨?_⟩
   refine zAssign ⟨?_⟩
   refine k14 _ ?_
   refine zk ⟨?_⟩
   refine v_condS _ rfl ?_ ?_
   ·intro hc2
    refine v_region ?_; intro K16 k16
    refine zMove ⟨?_⟩
    refine zBuildSlice ⟨?_⟩
    refine v_op ?_; intro K k
    simp only [zE, zM, aStepM, optable, set_some, Nat.reduceEqDiff, reduceIte, Nat.reduceLT, implies_true, forall_const, reduceCtorEq, V.ofValue, V.ofScalar, V.un, V.gd, aExec, lentIds, lendOf, ‹Tys _›.h, ‹Fc _›.h]
    repeat (refine andC ?_)
    refine aCall_lent2XA (among_con code a18 s18 [-1, 100000, 5] (by simp) hcode hcl (by omega)) ?_
    rintro _ _ ⟨v29, a29, s29, h29, k29, rfl, rfl⟩
    refine ⟨_, _, _, rfl, by first | exact .inr (List.all_eq_true.1 rfl) | exact .inl ⟨rfl, by simp [Blk.kindIs, fillK_fd]⟩, ?_⟩
    refine k _ ?_; clear k K
    simp only [zY, zW, set_some, Nat.reduceEqDiff, reduceIte, rho_one, rho_s, rho2_s, rho2_0, rho2_1, V.ren, V.renL, List.set_cons_zero, List.set_cons_succ, rho, Nat.reduceAdd, Nat.add_zero]
    simp only [List.mem_cons, List.not_mem_nil, or_false] at h29
    refine zFieldAddr ⟨?_⟩
    refine zStore ⟨?_⟩
    refine k16 _ ?_
    refine n9 _ ?_
    refine n7 _ _ (weak_keep [2, 3] _) ?_
    refine zk ⟨?_⟩
    refine v_seqR [2] ?_; intro K17 k17
    refine zLoad ⟨?_⟩
    refine zStore ⟨?_⟩
    refine k17 _ ?_
    refine zk ⟨?_⟩
    refine v_ret ?_
    refine r0 _ ?_
    refine zf ⟨?_⟩
    simp only [zE, zL, zO, zN, aStepM, optable, set_some, Nat.reduceEqDiff, reduceIte, Nat.reduceLT, implies_true, forall_const, reduceCtorEq, V.ofValue, V.ofScalar, V.un, V.gd, aLoad, row_mk, Blk.row, PartOK, Go.Vm.part, V.cells, V.noSl, V.noRef, Nat.reduceAdd, Nat.reduceLeDiff, Nat.reduceMul, Try.underlying3, Ty.c3, Ty.a3, Try.underlying24, Ty.c24, Ty.a24]
    refine ret_viewX ?_
    exact ⟨v6, v29, _, _, by omega, by omega, rfl, rfl⟩
   ·intro hc2
    refine v_skip ?_
    refine n9 _ ?_
    refine n7 _ _ (weak_keep [2, 3] _) ?_
    refine zk ⟨?_⟩
    refine v_seqR [2] ?_; intro K18 k18
    refine zLoad ⟨?_⟩
    refine zStore ⟨?_⟩
    refine k18 _ ?_
    refine zk ⟨?_⟩
    refine v_ret ?_
    refine r0 _ ?_
    refine zf ⟨?_⟩
    simp only [zE, zL, zO, zN, aStepM, optable, set_some, Nat.reduceEqDiff, reduceIte, Nat.reduceLT, implies_true, forall_const, reduceCtorEq, V.ofValue, V.ofScalar, V.un, V.gd, aLoad, row_mk, Blk.row, PartOK, Go.Vm.part, V.cells, V.noSl, V.noRef, Nat.reduceAdd, Nat.reduceLeDiff, Nat.reduceMul, Try.underlying3, Ty.c3, Ty.a3, Try.underlying24, Ty.c24, Ty.a24]
    refine ret_viewX ?_
    exact ⟨v6, v15, _, _, by omega, by omega, rfl, rfl⟩
 ·intro hc0
  refine v_skip ?_
  refine n3 _ _ (weak_keep [0, 2, 3] _) ?_
  refine zk ⟨?_⟩
  refine v_seq ?_; intro Q19 n19 e19 r19
  refine v_seqR [0,2,3,18] ?_; intro K20 k20
  refine zMove ⟨?_⟩
  refine v_op ?_; intro K k
  simp only [zE, zM, aStepM, optable, set_some, Nat.reduceEqDiff, reduceIte, Nat.reduceLT, implies_true, forall_const, reduceCtorEq, V.ofValue, V.ofScalar, V.un, V.gd, aExec, lentIds, lendOf, ‹Tys _›.h, ‹Fc _›.h]
  repeat (refine andC ?_)
  refine aCall_lentXA (pick_con code a6 s6 (40) hcode hcl (by omega)) ?_
  rintro _ _ ⟨v18, a18, s18, h18, k18, rfl, rfl⟩
  refine ⟨_, _, rfl, by first | exact .inr (List.all_eq_true.1 rfl) | exact .inl ⟨rfl, by simp [Blk.kindIs, fillK_fd]⟩, ?_⟩
  refine k _ ?_; clear k K
  simp only [zY, zW, set_some, Nat.reduceEqDiff, reduceIte, rho_one, rho_s, rho2_s, rho2_0, rho2_1, V.ren, V.renL, List.set_cons_zero, List.set_cons_succ, rho, Nat.reduceAdd, Nat.add_zero]
  refine k20 _ ?_
  refine zk ⟨?_⟩
  refine v_block ?_; intro Q21 n21 x21 e21 r21
  refine v_seqR [0,2,3,18,19] ?_; intro K22 k22
  refine zBinOp ⟨?_⟩
  refine zAssign ⟨?_⟩
  refine k22 _ ?_
  refine zk ⟨?_⟩
  refine v_condS _ rfl ?_ ?_
  ·intro hc3
   refine v_region ?_; intro K24 k24
   refine zMove ⟨?_⟩
   refine zBuildSlice ⟨?_⟩
   refine v_op ?_; intro K k
   simp only [zE, zM, aStepM, optable, set_some, Nat.reduceEqDiff, reduceIte, Nat.reduceLT, implies_true, forall_const, reduceCtorEq, V.ofValue, V.ofScalar, V.un, V.gd, aExec, lentIds, lendOf, ‹Tys _›.h, ‹Fc _›.h]
   repeat (refine andC ?_)
   refine aCall_lent2XA (among_con code a18 s18 [3, -1] (by simp) hcode hcl (by omega)) ?_
   rintro _ _ ⟨v23, a23, s23, h23, k23, rfl, rfl⟩
   refine ⟨_, _, _, rfl, by first | exact .inr (List.all_eq_true.1 rfl) | exact .inl ⟨rfl, by simp [Blk.kindIs, fillK_fd]⟩, ?_⟩
   refine k _ ?_; clear k K
   simp only [zY, zW, set_some, Nat.reduceEqDiff, reduceIte, rho_one, rho_s, rho2_s, rho2_0, rho2_1, V.ren, V.renL, List.set_cons_zero, List.set_cons_succ, rho, Nat.reduceAdd, Nat.add_zero]
   simp only [List.mem_cons, List.not_mem_nil, or_false] at h23
   refine zFieldAddr ⟨?_⟩
   refine zStore ⟨?_⟩
   refine k24 _ ?_
   refine n21 _ ?_
   refine n19 _ _ (weak_keep [2, 3] _) ?_
   refine zk ⟨?_⟩
   refine v_seqR [2] ?_; intro K25 k25
   refine zLoad ⟨?_⟩
   refine zStore ⟨?_⟩
   refine k25 _ ?_
   refine zk ⟨?_⟩
   refine v_ret ?_
   refine r0 _ ?_
   refine zf ⟨?_⟩
   simp only [zE, zL, zO, zN, aStepM, optable, set_some, Nat.reduceEqDiff, reduceIte, Nat.reduceLT, implies_true, forall_const, reduceCtorEq, V.ofValue, V.ofScalar, V.un, V.gd, aLoad, row_mk, Blk.row, PartOK, Go.Vm.part, V.cells, V.noSl, V.noRef, Nat.reduceAdd, Nat.reduceLeDiff, Nat.reduceMul, Try.underlying3, Ty.c3, Ty.a3, Try.underlying24, Ty.c24, Ty.a24]
   refine ret_viewX ?_
   exact ⟨v23, 0, _, _, by omega, by omega, rfl, rfl⟩
  ·intro hc3
   refine v_seqR [0,2,3,25] ?_; intro K26 k26
   refine zBinOp ⟨?_⟩
   refine zAssign ⟨?_⟩
   refine k26 _ ?_
   refine zk ⟨?_⟩
   refine v_condS _ rfl ?_ ?_
   ·intro hc4
    refine v_region ?_; intro K28 k28
    refine zMove ⟨?_⟩
    refine zBuildSlice ⟨?_⟩
    refine v_op ?_; intro K k
    simp only [zE, zM, aStepM, optable, set_some, Nat.reduceEqDiff, reduceIte, Nat.reduceLT, implies_true, forall_const, reduceCtorEq, V.ofValue, V.ofScalar, V.un, V.gd, aExec, lentIds, lendOf, ‹Tys _›.h, ‹Fc _›.h]
    repeat (refine andC ?_)
    refine aCall_lent2XA (among_con code a18 s18 [-1, 100000, 5] (by simp) hcode hcl (by omega)) ?_
    rintro _ _ ⟨v29, a29, s29, h29, k29, rfl, rfl⟩
    refine ⟨_, _, _, rfl, by first | exact .inr (List.all_eq_true.1 rfl) | exact .inl ⟨rfl, by simp [Blk.kindIs, fillK_fd]⟩, ?_⟩
    refine k _ ?_; clear k K
    simp only [zY, zW, set_some, Nat.reduceEqDiff, reduceIte, rho_one, rho_s, rho2_s, rho2_0, rho2_1, V.ren, V.renL, List.set_cons_zero, List.set_cons_succ, rho, Nat.reduceAdd, Nat.add_zero]
    simp only [List.mem_cons, List.not_mem_nil, or_false] at h29
    refine zFieldAddr ⟨?_⟩
    refine zStore ⟨?_⟩
    refine k28 _ ?_
    refine n21 _ ?_
    refine n19 _ _ (weak_keep [2, 3] _) ?_
    refine zk ⟨?_⟩
    refine v_seqR [2] ?_; intro K29 k29
    refine zLoad ⟨?_⟩
    refine zStore ⟨?_⟩
    refine k29 _ ?_
    refine zk ⟨?_⟩
    refine v_ret ?_
    refine r0 _ ?_
    refine zf ⟨?_⟩
    simp only [zE, zL, zO, zN, aStepM, optable, set_some, Nat.reduceEqDiff, reduceIte, Nat.reduceLT, implies_true, forall_const, reduceCtorEq, V.ofValue, V.ofScalar, V.un, V.gd, aLoad, row_mk, Blk.row, PartOK, Go.Vm.part, V.cells, V.noSl, V.noRef, Nat.reduceAdd, Nat.reduceLeDiff, Nat.reduceMul, Try.underlying3, Ty.c3, Ty.a3, Try.underlying24, Ty.c24, Ty.a24]
    refine ret_viewX ?_
    exact ⟨v6, v29, _, _, by omega, by omega, rfl, rfl⟩
   ·intro hc4
    refine v_skip ?_
    refine n21 _ ?_
    refine n19 _ _ (weak_keep [2, 3] _) ?_
    refine zk ⟨?_⟩
    refine v_seqR [2] ?_; intro K30 k30
    refine zLoad ⟨?_⟩
    refine zStore ⟨?_⟩
    refine k30 _ ?_
    refine zk ⟨?_⟩
    refine v_ret ?_
    refine r0 _ ?_
    refine zf ⟨?_⟩
    simp only [zE, zL, zO, zN, aStepM, optable, set_some, Nat.reduceEqDiff, reduceIte, Nat.reduceLT, implies_true, forall_const, reduceCtorEq, V.ofValue, V.ofScalar, V.un, V.gd, aLoad, row_mk, Blk.row, PartOK, Go.Vm.part, V.cells, V.noSl, V.noRef, Nat.reduceAdd, Nat.reduceLeDiff, Nat.reduceMul, Try.underlying3, Ty.c3, Ty.a3, Try.underlying24, Ty.c24, Ty.a24]
    refine ret_viewX ?_
    exact ⟨v6, 0, _, _, by omega, by omega, rfl, rfl⟩
set_option maxHeartbeats 1000000 in
theorem drawAsk_con (code : List Int) (a s : Int) (m0 : Int) (hm0 : 0 ≤ m0 ∧ m0 ≤ 1000000) (hcode : ∀ x ∈ code, 0 ≤ x ∧ x ≤ 255) (hcl : code.length ≤ 9223372036854775807) (ha : 0 ≤ a ∧ a < 16000000000) : ConX Try.prog 80 [.ptr 0 0 0, .int .i64 m0] [.box (.agg [.sl (code.map (V.int .u8)), .int .i64 a, .int .u64 s]) .shal] (fun r O' => ∃ (x0 x1 x2 : Int) (a' s' : Int), (0 ≤ x1 ∧ x1 ≤ 3) ∧ (a ≤ a' ∧ a' ≤ a + 20) ∧ r = .agg [.int .i64 x0, .int .i64 x1, .int .i64 x2] ∧ O' = [.box (.agg [.sl (code.map (V.int .u8)), .int .i64 a', .int .u64 s']) .shal]) := by
 refine v_conX [.cell 4 35] [(81, [0, 1]), (78, [0]), (79, [0])] Try.func80 rfl rfl rfl (by simp [Try.ntmps80]) ?_
 intro Q0 n0 r0
 simp only [Try.ntmps80, envFrom, Nat.reduceAdd]
 have T := Tys.mk (And.intro Ty.t3 (And.intro Ty.t5 (And.intro Ty.t22 (And.intro Ty.t31 (And.intro Ty.t35 (And.intro Ty.t117 (And.intro Ty.t118 Ty.t120)))))))
 have F := Fc.mk True.intro
 refine v_seqR [0,1,4] ?_; intro K1 k1
 refine zAlloc ⟨?_⟩
 refine k1 _ ?_
 refine zk ⟨?_⟩
 refine v_seqR [0,4,5] ?_; intro K2 k2
 refine zMove ⟨?_⟩
 refine zMove ⟨?_⟩
 refine v_op ?_; intro K k
 simp only [zE, zM, aStepM, optable, set_some, Nat.reduceEqDiff, reduceIte, Nat.reduceLT, implies_true, forall_const, reduceCtorEq, V.ofValue, V.ofScalar, V.un, V.gd, aExec, lentIds, lendOf, ‹Tys _›.h, ‹Fc _›.h]
 repeat (refine andC ?_)
 refine aCall_lentXA (pick_con code a s (5) hcode hcl (by omega)) ?_
 rintro _ _ ⟨v8, a8, s8, h8, k8, rfl, rfl⟩
 refine ⟨_, _, rfl, by first | exact .inr (List.all_eq_true.1 rfl) | exact .inl ⟨rfl, by simp [Blk.kindIs, fillK_fd]⟩, ?_⟩
 refine k _ ?_; clear k K
 simp only [zY, zW, set_some, Nat.reduceEqDiff, reduceIte, rho_one, rho_s, rho2_s, rho2_0, rho2_1, V.ren, V.renL, List.set_cons_zero, List.set_cons_succ, rho, Nat.reduceAdd, Nat.add_zero]
 refine zBinOpW ⟨?_⟩
 refine zBinOpW ⟨?_⟩
 refine zc (l1Most_con 0 (m0 + v8 - 2)) ⟨?_⟩
 refine zMove ⟨?_⟩
 refine v_op ?_; intro K k
 simp only [zE, zM, aStepM, optable, set_some, Nat.reduceEqDiff, reduceIte, Nat.reduceLT, implies_true, forall_const, reduceCtorEq, V.ofValue, V.ofScalar, V.un, V.gd, aExec, lentIds, lendOf, ‹Tys _›.h, ‹Fc _›.h]
 repeat (refine andC ?_)
 refine aCall_lentXA (pick_con code a8 s8 (2) hcode hcl (by omega)) ?_
 rintro _ _ ⟨v13, a13, s13, h13, k13, rfl, rfl⟩
 refine ⟨_, _, rfl, by first | exact .inr (List.all_eq_true.1 rfl) | exact .inl ⟨rfl, by simp [Blk.kindIs, fillK_fd]⟩, ?_⟩
 refine k _ ?_; clear k K
 simp only [zY, zW, set_some, Nat.reduceEqDiff, reduceIte, rho_one, rho_s, rho2_s, rho2_0, rho2_1, V.ren, V.renL, List.set_cons_zero, List.set_cons_succ, rho, Nat.reduceAdd, Nat.add_zero]
 refine zBinOpW ⟨?_⟩
 refine zMove ⟨?_⟩
 refine zBuildSlice ⟨?_⟩
 refine v_op ?_; intro K k
 simp only [zE, zM, aStepM, optable, set_some, Nat.reduceEqDiff, reduceIte, Nat.reduceLT, implies_true, forall_const, reduceCtorEq, V.ofValue, V.ofScalar, V.un, V.gd, aExec, lentIds, lendOf, ‹Tys _›.h, ‹Fc _›.h]
 repeat (refine andC ?_)
 refine aCall_lent2XA (among_con code a13 s13 [0, 0, 1, 2, 3, 3] (by simp) hcode hcl (by omega)) ?_
 rintro _ _ ⟨v17, a17, s17, h17, k17, rfl, rfl⟩
 refine ⟨_, _, _, rfl, by first | exact .inr (List.all_eq_true.1 rfl) | exact .inl ⟨rfl, by simp [Blk.kindIs, fillK_fd]⟩, ?_⟩
 refine k _ ?_; clear k K
 simp only [zY, zW, set_some, Nat.reduceEqDiff, reduceIte, rho_one, rho_s, rho2_s, rho2_0, rho2_1, V.ren, V.renL, List.set_cons_zero, List.set_cons_succ, rho, Nat.reduceAdd, Nat.add_zero]
 simp only [List.mem_cons, List.not_mem_nil, or_false] at h17
 refine zBuild ⟨?_⟩
 refine zAlloc ⟨?_⟩
 refine zStore ⟨?_⟩
 refine k2 _ ?_
 refine zk ⟨?_⟩
 refine v_seq ?_; intro Q3 n3 e3 r3
 refine v_seqR [0,4,5,20] ?_; intro K4 k4
 refine zMove ⟨?_⟩
 refine v_op ?_; intro K k
 simp only [zE, zM, aStepM, optable, set_some, Nat.reduceEqDiff, reduceIte, Nat.reduceLT, implies_true, forall_const, reduceCtorEq, V.ofValue, V.ofScalar, V.un, V.gd, aExec, lentIds, lendOf, ‹Tys _›.h, ‹Fc _›.h]
 repeat (refine andC ?_)
 refine aCall_lentXA (pick_con code a17 s17 (60) hcode hcl (by omega)) ?_
 rintro _ _ ⟨v20, a20, s20, h20, k20, rfl, rfl⟩
 refine ⟨_, _, rfl, by first | exact .inr (List.all_eq_true.1 rfl) | exact .inl ⟨rfl, by simp [Blk.kindIs, fillK_fd]⟩, ?_⟩
 refine k _ ?_; clear k K
 simp only [zY, zW, set_some, Nat.reduceEqDiff, reduceIte, rho_one, rho_s, rho2_s, rho2_0, rho2_1, V.ren, V.renL, List.set_cons_zero, List.set_cons_succ, rho, Nat.reduceAdd, Nat.add_zero]
 refine k4 _ ?_
 refine zk ⟨?_⟩
 refine v_block ?_; intro Q5 n5 x5 e5 r5
 refine v_seqR [0,4,5,20,21] ?_; intro K6 k6
 refine zBinOp ⟨?_⟩
 refine zAssign ⟨?_⟩
 refine k6 _ ?_
 refine zk ⟨?_⟩
 refine v_condS _ rfl ?_ ?_
 ·intro hc0
  refine v_region ?_; intro K8 k8
  refine zMove ⟨?_⟩
  refine zBuildSlice ⟨?_⟩
  refine v_op ?_; intro K k
  simp only [zE, zM, aStepM, optable, set_some, Nat.reduceEqDiff, reduceIte, Nat.reduceLT, implies_true, forall_const, reduceCtorEq, V.ofValue, V.ofScalar, V.un, V.gd, aExec, lentIds, lendOf, ‹Tys _›.h, ‹Fc _›.h]
  repeat (refine andC ?_)
  refine aCall_lent2XA (among_con code a20 s20 [-1, 99999, 100000] (by simp) hcode hcl (by omega)) ?_
  rintro _ _ ⟨v25, a25, s25, h25, k25, rfl, rfl⟩
  refine ⟨_, _, _, rfl, by first | exact .inr (List.all_eq_true.1 rfl) | exact .inl ⟨rfl, by simp [Blk.kindIs, fillK_fd]⟩, ?_⟩
  refine k _ ?_; clear k K
  simp only [zY, zW, set_some, Nat.reduceEqDiff, reduceIte, rho_one, rho_s, rho2_s, rho2_0, rho2_1, V.ren, V.renL, List.set_cons_zero, List.set_cons_succ, rho, Nat.reduceAdd, Nat.add_zero]
  simp only [List.mem_cons, List.not_mem_nil, or_false] at h25
  refine zFieldAddr ⟨?_⟩
  refine zStore ⟨?_⟩
  refine k8 _ ?_
  refine n5 _ ?_
  refine n3 _ _ (weak_keep [4, 5] _) ?_
  refine zk ⟨?_⟩
  refine v_seqR [4] ?_; intro K9 k9
  refine zLoad ⟨?_⟩
  refine zStore ⟨?_⟩
  refine k9 _ ?_
  refine zk ⟨?_⟩
  refine v_ret ?_
  refine r0 _ ?_
  refine zf ⟨?_⟩
  simp only [zE, zL, zO, zN, aStepM, optable, set_some, Nat.reduceEqDiff, reduceIte, Nat.reduceLT, implies_true, forall_const, reduceCtorEq, V.ofValue, V.ofScalar, V.un, V.gd, aLoad, row_mk, Blk.row, PartOK, Go.Vm.part, V.cells, V.noSl, V.noRef, Nat.reduceAdd, Nat.reduceLeDiff, Nat.reduceMul, Try.underlying3, Ty.c3, Ty.a3, Try.underlying35, Ty.c35, Ty.a35]
  refine ret_viewX ?_
  exact ⟨v25, 1 + v13, v17, _, _, by omega, by omega, rfl, rfl⟩
 ·intro hc0
  refine v_seqR [0,4,5,20,27] ?_; intro K10 k10
  refine zBinOp ⟨?_⟩
  refine zAssign ⟨?_⟩
  refine k10 _ ?_
  refine zk ⟨?_⟩
  refine v_condS _ rfl ?_ ?_
  ·intro hc1
   refine v_region ?_; intro K12 k12
   refine zMove ⟨?_⟩
   refine zBuildSlice ⟨?_⟩
   refine v_op ?_; intro K k
   simp only [zE, zM, aStepM, optable, set_some, Nat.reduceEqDiff, reduceIte, Nat.reduceLT, implies_true, forall_const, reduceCtorEq, V.ofValue, V.ofScalar, V.un, V.gd, aExec, lentIds, lendOf, ‹Tys _›.h, ‹Fc _›.h]
   repeat (refine andC ?_)
   refine aCall_lent2XA (among_con code a20 s20 [0, 3] (by simp) hcode hcl (by omega)) ?_
   rintro _ _ ⟨v31, a31, s31, h31, k31, rfl, rfl⟩
   refine ⟨_, _, _, rfl, by first | exact .inr (List.all_eq_true.1 rfl) | exact .inl ⟨rfl, by simp [Blk.kindIs, fillK_fd]⟩, ?_⟩
   refine k _ ?_; clear k K
   simp only [zY, zW, set_some, Nat.reduceEqDiff, reduceIte, rho_one, rho_s, rho2_s, rho2_0, rho2_1, V.ren, V.renL, List.set_cons_zero, List.set_cons_succ, rho, Nat.reduceAdd, Nat.add_zero]
   simp only [List.mem_cons, List.not_mem_nil, or_false] at h31
   refine zFieldAddr ⟨?_⟩
   refine zStore ⟨?_⟩
   refine k12 _ ?_
   refine n5 _ ?_
   refine n3 _ _ (weak_keep [4, 5] _) ?_
   refine zk ⟨?_⟩
   refine v_seqR [4] ?_; intro K13 k13
   refine zLoad ⟨?_⟩
   refine zStore ⟨?_⟩
   refine k13 _ ?_
   refine zk ⟨?_⟩
   refine v_ret ?_
   refine r0 _ ?_
   refine zf ⟨?_⟩
   simp only [zE, zL, zO, zN, aStepM, optable, set_some, Nat.reduceEqDiff, reduceIte, Nat.reduceLT, implies_true, forall_const, reduceCtorEq, V.ofValue, V.ofScalar, V.un, V.gd, aLoad, row_mk, Blk.row, PartOK, Go.Vm.part, V.cells, V.noSl, V.noRef, Nat.reduceAdd, Nat.reduceLeDiff, Nat.reduceMul, Try.underlying3, Ty.c3, Ty.a3, Try.underlying35, Ty.c35, Ty.a35]
   refine ret_viewX ?_
   exact ⟨_, v31, v17, _, _, by omega, by omega, rfl, rfl⟩
  ·intro hc1
   refine v_seqR [0,4,5,33] ?_; intro K14 k14
   refine zBinOp ⟨?_⟩
   refine zAssign ⟨?_⟩
   refine k14 _ ?_
   refine zk ⟨?_⟩
   refine v_condS _ rfl ?_ ?_
   ·intro hc2
    refine v_region ?_; intro K16 k16
    refine zMove ⟨?_⟩
    refine zBuildSlice ⟨?_⟩
    refine v_op ?_; intro K k
    simp only [zE, zM, aStepM, optable, set_some, Nat.reduceEqDiff, reduceIte, Nat.reduceLT, implies_true, forall_const, reduceCtorEq, V.ofValue, V.ofScalar, V.un, V.gd, aExec, lentIds, lendOf, ‹Tys _›.h, ‹Fc _›.h]
    repeat (refine andC ?_)
    refine aCall_lent2XA (among_con code a20 s20 [-1, 4] (by simp) hcode hcl (by omega)) ?_
    rintro _ _ ⟨v37, a37, s37, h37, k37, rfl, rfl⟩
    refine ⟨_, _, _, rfl, by first | exact .inr (List.all_eq_true.1 rfl) | exact .inl ⟨rfl, by simp [Blk.kindIs, fillK_fd]⟩, ?_⟩
    refine k _ ?_; clear k K
    simp only [zY, zW, set_some, Nat.reduceEqDiff, reduceIte, rho_one, rho_s, rho2_s, rho2_0, rho2_1, V.ren, V.renL, List.set_cons_zero, List.set_cons_succ, rho, Nat.reduceAdd, Nat.add_zero]
    simp only [List.mem_cons, List.not_mem_nil, or_false] at h37
    refine zFieldAddr ⟨?_⟩
    refine zStore ⟨?_⟩
    refine k16 _ ?_
    refine n5 _ ?_
    refine n3 _ _ (weak_keep [4, 5] _) ?_
    refine zk ⟨?_⟩
    refine v_seqR [4] ?_; intro K17 k17
    refine zLoad ⟨?_⟩
    refine zStore ⟨?_⟩
    refine k17 _ ?_
    refine zk ⟨?_⟩
    refine v_ret ?_
    refine r0 _ ?_
    refine zf ⟨?_⟩
    simp only [zE, zL, zO, zN, aStepM, optable, set_some, Nat.reduceEqDiff, reduceIte, Nat.reduceLT, implies_true, forall_const, reduceCtorEq, V.ofValue, V.ofScalar, V.un, V.gd, aLoad, row_mk, Blk.row, PartOK, Go.Vm.part, V.cells, V.noSl, V.noRef, Nat.reduceAdd, Nat.reduceLeDiff, Nat.reduceMul, Try.underlying3, Ty.c3, Ty.a3, Try.underlying35, Ty.c35, Ty.a35]
    refine ret_viewX ?_
    exact ⟨_, 1 + v13, v37, _, _, by omega, by omega, rfl, rfl⟩
   ·intro hc2
    refine v_skip ?_
    refine n5 _ ?_
    refine n3 _ _ (weak_keep [4, 5] _) ?_
    refine zk ⟨?_⟩
    refine v_seqR [4] ?_; intro K18 k18
    refine zLoad ⟨?_⟩
    refine zStore ⟨?_⟩
    refine k18 _ ?_
    refine zk ⟨?_⟩
    refine v_ret ?_
    refine r0 _ ?_
    refine zf ⟨?_⟩
    simp only [zE, zL, zO, zN, aStepM, optable, set_some, Nat.reduceEqDiff, reduceIte, Nat.reduceLT, implies_true, forall_const, reduceCtorEq, V.ofValue, V.ofScalar, V.un, V.gd, aLoad, row_mk, Blk.row, PartOK, Go.Vm.part, V.cells, V.noSl, V.noRef, Nat.reduceAdd, Nat.reduceLeDiff, Nat.reduceMul, Try.underlying3, Ty.c3, Ty.a3, Try.underlying35, Ty.c35, Ty.a35]
    refine ret_viewX ?_
    exact ⟨_, 1 + v13, v17, _, _, by omega, by omega, rfl, rfl⟩
set_option maxHeartbeats 1000000 in
theorem drawAnswerAsk_con (code : List Int) (hcode : ∀ x ∈ code, 0 ≤ x ∧ x ≤ 255) (hcl : code.length ≤ 9223372036854775807) : ConX Try.prog 13 [.sl (code.map (V.int .u8))] [] (fun r O' => ∃ (h u x0 x1 x2 sk ln : Int), (-1 ≤ sk ∧ sk ≤ 11) ∧ r = .tup [.agg [.int .i64 h, .int .i64 u], .agg [.int .i64 x0, .int .i64 x1, .int .i64 x2], .int .i64 sk, .int .i64 ln] ∧ O' = []) := by
 refine v_conX [.cell 2 24, .cell 3 35, .tmp 4, .tmp 5] [(81, [0, 1]), (78, [0]), (79, [0]), (82, [0]), (80, [0]), (83, [0]), (84, [0])] Try.func13 rfl rfl rfl (by simp [Try.ntmps13]) ?_
 intro Q0 n0 r0
 simp only [Try.ntmps13, envFrom, Nat.reduceAdd]
 have T := Tys.mk (And.intro Ty.t3 (And.intro Ty.t5 (And.intro Ty.t22 (And.intro Ty.t24 (And.intro Ty.t35 (And.intro Ty.t117 (And.intro Ty.t118 Ty.t120)))))))
 have F := Fc.mk True.intro
 refine v_seqR [0,2,3] ?_; intro K1 k1
 refine zAlloc ⟨?_⟩
 refine zAlloc ⟨?_⟩
 refine zAssign ⟨?_⟩
 refine zAssign ⟨?_⟩
 refine k1 _ ?_
 refine zk ⟨?_⟩
 refine v_seqR [2,3,6] ?_; intro K2 k2
 refine zMove ⟨?_⟩
 refine zBuild ⟨?_⟩
 refine zBox ⟨?_⟩
 refine zAssign ⟨?_⟩
 refine k2 _ ?_
 refine zk ⟨?_⟩
 refine v_seqR [2,3,4,5] ?_; intro K3 k3
 refine zMove ⟨?_⟩
 refine v_op ?_; intro K k
 simp only [zE, zM, aStepM, optable, set_some, Nat.reduceEqDiff, reduceIte, Nat.reduceLT, implies_true, forall_const, reduceCtorEq, V.ofValue, V.ofScalar, V.un, V.gd, aExec, lentIds, lendOf, ‹Tys _›.h, ‹Fc _›.h]
 repeat (refine andC ?_)
 refine aCall_lentXA (drawLease_con code 0 0 hcode hcl (by omega)) ?_
 rintro _ _ ⟨e11, u11, a11, s11, h11, k11, rfl, rfl⟩
 refine ⟨_, _, rfl, by first | exact .inr (List.all_eq_true.1 rfl) | exact .inl ⟨rfl, by simp [Blk.kindIs, fillK_fd]⟩, ?_⟩
 refine k _ ?_; clear k K
 simp only [zY, zW, set_some, Nat.reduceEqDiff, reduceIte, rho_one, rho_s, rho2_s, rho2_0, rho2_1, V.ren, V.renL, List.set_cons_zero, List.set_cons_succ, rho, Nat.reduceAdd, Nat.add_zero]
 refine zMove ⟨?_⟩
 refine zMove ⟨?_⟩
 refine v_op ?_; intro K k
 simp only [zE, zM, aStepM, optable, set_some, Nat.reduceEqDiff, reduceIte, Nat.reduceLT, implies_true, forall_const, reduceCtorEq, V.ofValue, V.ofScalar, V.un, V.gd, aExec, lentIds, lendOf, ‹Tys _›.h, ‹Fc _›.h]
 repeat (refine andC ?_)
 refine aCall_lentXA (pick_con code a11 s11 (40) hcode hcl (by omega)) ?_
 rintro _ _ ⟨v14, a14, s14, h14, k14, rfl, rfl⟩
 refine ⟨_, _, rfl, by first | exact .inr (List.all_eq_true.1 rfl) | exact .inl ⟨rfl, by simp [Blk.kindIs, fillK_fd]⟩, ?_⟩
 refine k _ ?_; clear k K
 simp only [zY, zW, set_some, Nat.reduceEqDiff, reduceIte, rho_one, rho_s, rho2_s, rho2_0, rho2_1, V.ren, V.renL, List.set_cons_zero, List.set_cons_succ, rho, Nat.reduceAdd, Nat.add_zero]
 refine v_op ?_; intro K k
 simp only [zE, zM, aStepM, optable, set_some, Nat.reduceEqDiff, reduceIte, Nat.reduceLT, implies_true, forall_const, reduceCtorEq, V.ofValue, V.ofScalar, V.un, V.gd, aExec, lentIds, lendOf, ‹Tys _›.h, ‹Fc _›.h]
 repeat (refine andC ?_)
 refine aCall_lentXA (drawAsk_con code a14 s14 v14 (by omega) hcode hcl (by omega)) ?_
 rintro _ _ ⟨x15, y15, z15, a15, s15, h15, k15, rfl, rfl⟩
 refine ⟨_, _, rfl, by first | exact .inr (List.all_eq_true.1 rfl) | exact .inl ⟨rfl, by simp [Blk.kindIs, fillK_fd]⟩, ?_⟩
 refine k _ ?_; clear k K
 simp only [zY, zW, set_some, Nat.reduceEqDiff, reduceIte, rho_one, rho_s, rho2_s, rho2_0, rho2_1, V.ren, V.renL, List.set_cons_zero, List.set_cons_succ, rho, Nat.reduceAdd, Nat.add_zero]
 refine zMove ⟨?_⟩
 refine v_op ?_; intro K k
 simp only [zE, zM, aStepM, optable, set_some, Nat.reduceEqDiff, reduceIte, Nat.reduceLT, implies_true, forall_const, reduceCtorEq, V.ofValue, V.ofScalar, V.un, V.gd, aExec, lentIds, lendOf, ‹Tys _›.h, ‹Fc _›.h]
 repeat (refine andC ?_)
 refine aCall_lentXA (skewOf_con code a15 s15 hcode hcl (by omega)) ?_
 rintro _ _ ⟨v17, a17, s17, h17, k17, rfl, rfl⟩
 refine ⟨_, _, rfl, by first | exact .inr (List.all_eq_true.1 rfl) | exact .inl ⟨rfl, by simp [Blk.kindIs, fillK_fd]⟩, ?_⟩
 refine k _ ?_; clear k K
 simp only [zY, zW, set_some, Nat.reduceEqDiff, reduceIte, rho_one, rho_s, rho2_s, rho2_0, rho2_1, V.ren, V.renL, List.set_cons_zero, List.set_cons_succ, rho, Nat.reduceAdd, Nat.add_zero]
 refine zMove ⟨?_⟩
 refine v_op ?_; intro K k
 simp only [zE, zM, aStepM, optable, set_some, Nat.reduceEqDiff, reduceIte, Nat.reduceLT, implies_true, forall_const, reduceCtorEq, V.ofValue, V.ofScalar, V.un, V.gd, aExec, lentIds, lendOf, ‹Tys _›.h, ‹Fc _›.h]
 repeat (refine andC ?_)
 refine aCall_lentXA (leaseLength_con code a17 s17 hcode hcl (by omega)) ?_
 rintro _ _ ⟨v19, a19, s19, h19, k19, rfl, rfl⟩
 refine ⟨_, _, rfl, by first | exact .inr (List.all_eq_true.1 rfl) | exact .inl ⟨rfl, by simp [Blk.kindIs, fillK_fd]⟩, ?_⟩
 refine k _ ?_; clear k K
 simp only [zY, zW, set_some, Nat.reduceEqDiff, reduceIte, rho_one, rho_s, rho2_s, rho2_0, rho2_1, V.ren, V.renL, List.set_cons_zero, List.set_cons_succ, rho, Nat.reduceAdd, Nat.add_zero]
 refine zStore ⟨?_⟩
 refine zStore ⟨?_⟩
 refine zAssign ⟨?_⟩
 refine zAssign ⟨?_⟩
 refine k3 _ ?_
 refine zk ⟨?_⟩
 refine v_ret ?_
 refine r0 _ ?_
 refine zf ⟨?_⟩
 simp only [zE, zL, zO, zN, aStepM, optable, set_some, Nat.reduceEqDiff, reduceIte, Nat.reduceLT, implies_true, forall_const, reduceCtorEq, V.ofValue, V.ofScalar, V.un, V.gd, aLoad, row_mk, Blk.row, PartOK, Go.Vm.part, V.cells, V.noSl, V.noRef, Nat.reduceAdd, Nat.reduceLeDiff, Nat.reduceMul, Try.underlying3, Ty.c3, Ty.a3, Try.underlying24, Ty.c24, Ty.a24]
 simp only [zE, zL, zO, zN, aStepM, optable, set_some, Nat.reduceEqDiff, reduceIte, Nat.reduceLT, implies_true, forall_const, reduceCtorEq, V.ofValue, V.ofScalar, V.un, V.gd, aLoad, row_mk, Blk.row, PartOK, Go.Vm.part, V.cells, V.noSl, V.noRef, Nat.reduceAdd, Nat.reduceLeDiff, Nat.reduceMul, Try.underlying3, Ty.c3, Ty.a3, Try.underlying35, Ty.c35, Ty.a35]
 refine ret_viewX ?_
 exact ⟨e11, u11, x15, y15, z15, v17, v19, by omega, rfl, rfl⟩
set_option maxHeartbeats 1000000 in
theorem drawRunAsks_con (code : List Int) (hcode : ∀ x ∈ code, 0 ≤ x ∧ x ≤ 255) (hcl : code.length ≤ 9223372036854775807) : ConX Try.prog 8 [.sl (code.map (V.int .u8))] [] (fun r O' => ∃ (h u : Int) (l : List (Int × Int × Int)) (sk ln : Int), (l.length ≤ 41) ∧ r = .tup [.agg [.int .i64 h, .int .i64 u], .ref 0, .int .i64 sk, .int .i64 ln] ∧ O' = [.arr (l.map (fun t : Int × Int × Int => V.agg [V.int .i64 t.1, V.int .i64 t.2.1, V.int .i64 t.2.2])) .flat]) := by
 refine v_conX [.cell 2 24, .tmp 3, .tmp 4, .tmp 5] [(81, [0, 1]), (78, [0]), (79, [0]), (82, [0]), (80, [0]), (83, [0]), (84, [0])] Try.func8 rfl rfl rfl (by simp [Try.ntmps8]) ?_
 intro Q0 n0 r0
 simp only [Try.ntmps8, envFrom, Nat.reduceAdd]
 have T := Tys.mk (And.intro Ty.t3 (And.intro Ty.t4 (And.intro Ty.t5 (And.intro Ty.t22 (And.intro Ty.t24 (And.intro Ty.t25 (And.intro Ty.t31 (And.intro Ty.t35 (And.intro Ty.t117 (And.intro Ty.t118 Ty.t120))))))))))
 have F := Fc.mk True.intro
 refine v_seqR [0,2] ?_; intro K1 k1
 refine zAlloc ⟨?_⟩
 refine zAssign ⟨?_⟩
 refine zAssign ⟨?_⟩
 refine zAssign ⟨?_⟩
 refine k1 _ ?_
 refine zk ⟨?_⟩
 refine v_seqR [2,6] ?_; intro K2 k2
 refine zMove ⟨?_⟩
 refine zBuild ⟨?_⟩
 refine zBox ⟨?_⟩
 refine zAssign ⟨?_⟩
 refine k2 _ ?_
 refine zk ⟨?_⟩
 refine v_seqR [2,6,7] ?_; intro K3 k3
 refine zAssign ⟨?_⟩
 refine k3 _ ?_
 refine zk ⟨?_⟩
 refine v_seqR [2,6,7,8] ?_; intro K4 k4
 refine zMove ⟨?_⟩
 refine v_op ?_; intro K k
 simp only [zE, zM, aStepM, optable, set_some, Nat.reduceEqDiff, reduceIte, Nat.reduceLT, implies_true, forall_const, reduceCtorEq, V.ofValue, V.ofScalar, V.un, V.gd, aExec, lentIds, lendOf, ‹Tys _›.h, ‹Fc _›.h]
 repeat (refine andC ?_)
 refine aCall_lentXA (pick_con code 0 0 (10) hcode hcl (by omega)) ?_
 rintro _ _ ⟨v14, a14, s14, h14, k14, rfl, rfl⟩
 refine ⟨_, _, rfl, by first | exact .inr (List.all_eq_true.1 rfl) | exact .inl ⟨rfl, by simp [Blk.kindIs, fillK_fd]⟩, ?_⟩
 refine k _ ?_; clear k K
 simp only [zY, zW, set_some, Nat.reduceEqDiff, reduceIte, rho_one, rho_s, rho2_s, rho2_0, rho2_1, V.ren, V.renL, List.set_cons_zero, List.set_cons_succ, rho, Nat.reduceAdd, Nat.add_zero]
 refine zAssign ⟨?_⟩
 refine k4 _ ?_
 refine zk ⟨?_⟩
 refine v_join (A := Int × Int × Int) (fun p => ⟨[(2, .ptr 0 0 0), (6, .ptr 1 0 0), (7, .ref 2), (8, .int .i64 p.1)], [.box (.agg [.int .i64 0, .int .i64 0]) .flat, .box (.agg [.sl (code.map (V.int .u8)), .int .i64 p.2.1, .int .u64 p.2.2]) .shal, .arr [] .flat], false, 44, 0⟩) (fun p => (0 ≤ p.1 ∧ p.1 ≤ 41) ∧ 0 ≤ p.2.1 ∧ p.2.1 ≤ 6) ?_ ?_
 ·intro Q5 n5 e5 r5
  refine v_seqR [2,6,7,8,16] ?_; intro K6 k6
  refine zMove ⟨?_⟩
  refine v_op ?_; intro K k
  simp only [zE, zM, aStepM, optable, set_some, Nat.reduceEqDiff, reduceIte, Nat.reduceLT, implies_true, forall_const, reduceCtorEq, V.ofValue, V.ofScalar, V.un, V.gd, aExec, lentIds, lendOf, ‹Tys _›.h, ‹Fc _›.h]
  repeat (refine andC ?_)
  refine aCall_lentXA (one_con code a14 s14 (16) hcode hcl (by omega)) ?_
  rintro _ _ ⟨v16, a16, s16, h16, k16, rfl, rfl⟩
  refine ⟨_, _, rfl, by first | exact .inr (List.all_eq_true.1 rfl) | exact .inl ⟨rfl, by simp [Blk.kindIs, fillK_fd]⟩, ?_⟩
  refine k _ ?_; clear k K
  simp only [zY, zW, set_some, Nat.reduceEqDiff, reduceIte, rho_one, rho_s, rho2_s, rho2_0, rho2_1, V.ren, V.renL, List.set_cons_zero, List.set_cons_succ, rho, Nat.reduceAdd, Nat.add_zero]
  refine k6 _ ?_
  refine zk ⟨?_⟩
  refine v_condS _ rfl ?_ ?_
  ·intro hc0
   refine v_region ?_; intro K8 k8
   refine zMove ⟨?_⟩
   refine v_op ?_; intro K k
   simp only [zE, zM, aStepM, optable, set_some, Nat.reduceEqDiff, reduceIte, Nat.reduceLT, implies_true, forall_const, reduceCtorEq, V.ofValue, V.ofScalar, V.un, V.gd, aExec, lentIds, lendOf, ‹Tys _›.h, ‹Fc _›.h]
   repeat (refine andC ?_)
   refine aCall_lentXA (pick_con code a16 s16 (2) hcode hcl (by omega)) ?_
   rintro _ _ ⟨v18, a18, s18, h18, k18, rfl, rfl⟩
   refine ⟨_, _, rfl, by first | exact .inr (List.all_eq_true.1 rfl) | exact .inl ⟨rfl, by simp [Blk.kindIs, fillK_fd]⟩, ?_⟩
   refine k _ ?_; clear k K
   simp only [zY, zW, set_some, Nat.reduceEqDiff, reduceIte, rho_one, rho_s, rho2_s, rho2_0, rho2_1, V.ren, V.renL, List.set_cons_zero, List.set_cons_succ, rho, Nat.reduceAdd, Nat.add_zero]
   refine zBinOpW ⟨?_⟩
   refine zAssign ⟨?_⟩
   refine k8 _ ?_
   refine n5 (40 + v18, a18, s18) _ ?_ ?_
   ·exact ⟨by show 0 ≤ 40 + v18 ∧ 40 + v18 ≤ 41; omega, by show 0 ≤ a18 ∧ a18 ≤ 6; omega⟩
   ·refine weak_both [2, 6, 7, 8] [0, 2, 3] (by decide) (by simp) ?_ ?_ ?_
    ·simp [keep_mk, keepE_nil, keepE_cons, look_cons, V.only, V.onlyL, idx] <;> (first | rfl | decide)
    ·simp [Blk.kindIs, fillK_mix]
    simp only [keep_mk, keepE_nil, keepE_cons, look_cons, look_nil, Nat.reduceEqDiff, reduceIte, St.comp, List.map_cons, List.map_nil, V.ren, V.renL, idx, List.getD_cons_zero, List.getD_cons_succ, Nat.reduceBEq, cond_true, cond_false, Option.map_some, Option.getD_some, Nat.reduceAdd, Nat.beq_eq_true_eq]
    all_goals rfl
  ·intro hc0
   refine v_skip ?_
   refine n5 (v14, a16, s16) _ ?_ ?_
   ·exact ⟨by show 0 ≤ v14 ∧ v14 ≤ 41; omega, by show 0 ≤ a16 ∧ a16 ≤ 6; omega⟩
   ·refine weak_both [2, 6, 7, 8] [0, 2, 3] (by decide) (by simp) ?_ ?_ ?_
    ·simp [keep_mk, keepE_nil, keepE_cons, look_cons, V.only, V.onlyL, idx] <;> (first | rfl | decide)
    ·simp [Blk.kindIs, fillK_mix]
    simp only [keep_mk, keepE_nil, keepE_cons, look_cons, look_nil, Nat.reduceEqDiff, reduceIte, St.comp, List.map_cons, List.map_nil, V.ren, V.renL, idx, List.getD_cons_zero, List.getD_cons_succ, Nat.reduceBEq, cond_true, cond_false, Option.map_some, Option.getD_some, Nat.reduceAdd, Nat.beq_eq_true_eq]
    all_goals rfl
 ·rintro ⟨n, a1, s1⟩ hok5
  obtain ⟨hn, ha1⟩ := hok5
  simp only [] at hn ha1 ⊢
  refine v_seqR [2,6,7,8,9] ?_; intro K9 k9
  have F := Fc.mk True.intro
  refine zMove ⟨?_⟩
  refine v_op ?_; intro K k
  simp only [zE, zM, aStepM, optable, set_some, Nat.reduceEqDiff, reduceIte, Nat.reduceLT, implies_true, forall_const, reduceCtorEq, V.ofValue, V.ofScalar, V.un, V.gd, aExec, lentIds, lendOf, ‹Tys _›.h, ‹Fc _›.h]
  repeat (refine andC ?_)
  refine aCall_lentXA (pick_con code a1 s1 (10) hcode hcl (by omega)) ?_
  rintro _ _ ⟨v21, a21, s21, h21, k21, rfl, rfl⟩
  refine ⟨_, _, rfl, by first | exact .inr (List.all_eq_true.1 rfl) | exact .inl ⟨rfl, by simp [Blk.kindIs, fillK_fd]⟩, ?_⟩
  refine k _ ?_; clear k K
  simp only [zY, zW, set_some, Nat.reduceEqDiff, reduceIte, rho_one, rho_s, rho2_s, rho2_0, rho2_1, V.ren, V.renL, List.set_cons_zero, List.set_cons_succ, rho, Nat.reduceAdd, Nat.add_zero]
  refine zAssign ⟨?_⟩
  refine k9 _ ?_
  refine zk ⟨?_⟩
  refine v_seq ?_; intro Q10 n10 e10 r10
  refine v_block ?_; intro Q11 n11 x11 e11 r11
  refine v_loop (fun p => ⟨[(2, .ptr 0 0 0), (6, .ptr 1 0 0), (7, .ref 2), (8, .int .i64 n), (9, .int .i64 p.2.1)], [.box (.agg [.int .i64 0, .int .i64 0]) .flat, .box (.agg [.sl (code.map (V.int .u8)), .int .i64 p.2.2.1, .int .u64 p.2.2.2]) .shal, .arr (p.1.map (fun t : Int × Int × Int => V.agg [V.int .i64 t.1, V.int .i64 t.2.1, V.int .i64 t.2.2])) .flat], false, 44, 0⟩) (fun p => (p.1.length : Int) ≤ n ∧ (0 ≤ p.2.1 ∧ p.2.1 ≤ 10 + 8 * (p.1.length : Int)) ∧ a1 ≤ p.2.2.1 ∧ p.2.2.1 ≤ a1 + 2 + 30 * (p.1.length : Int)) (fun p => (n - (p.1.length : Int)).toNat) (([], v21, a21, s21) : List (Int × Int × Int) × Int × Int × Int) ?_ ?_ ?_
  ·refine weak_both [2, 6, 7, 8, 9] [0, 1, 2] (by decide) (by simp) ?_ ?_ ?_
   ·simp [keep_mk, keepE_nil, keepE_cons, look_cons, V.only, V.onlyL, idx] <;> (first | rfl | decide)
   ·simp [Blk.kindIs, fillK_mix]
   simp only [keep_mk, keepE_nil, keepE_cons, look_cons, look_nil, Nat.reduceEqDiff, reduceIte, St.comp, List.map_cons, List.map_nil, V.ren, V.renL, idx, List.getD_cons_zero, List.getD_cons_succ, Nat.reduceBEq, cond_true, cond_false, Option.map_some, Option.getD_some, Nat.reduceAdd, Nat.beq_eq_true_eq]
   all_goals rfl
  ·exact ⟨by simpa using hn.1, by simp; omega, by simp; omega⟩
  ·rintro ⟨acc, mn, a2, s2⟩ hok12 Q12 n12 e12 r12
   obtain ⟨hal, hk, ha2⟩ := hok12
   simp only [] at hal hk ha2 ⊢
   refine v_seq ?_; intro Q13 n13 e13 r13
   refine v_seqR [2,6,7,8,9,25] ?_; intro K14 k14
   refine zMove ⟨?_⟩
   refine zLen ⟨?_⟩
   refine zMove ⟨?_⟩
   refine zBinOp ⟨?_⟩
   refine k14 _ ?_
   refine zk ⟨?_⟩
   refine v_condS _ rfl ?_ ?_
   ·intro hc1
    refine v_skip ?_
    refine n13 _ _ (weak_keep [2, 6, 7, 8, 9] _) ?_
    refine zk ⟨?_⟩
    refine v_block ?_; intro Q16 n16 x16 e16 r16
    refine v_seqR [2,6,7,8,9] ?_; intro K17 k17
    refine zMove ⟨?_⟩
    refine zMove ⟨?_⟩
    refine zMove ⟨?_⟩
    refine v_op ?_; intro K k
    simp only [zE, zM, aStepM, optable, set_some, Nat.reduceEqDiff, reduceIte, Nat.reduceLT, implies_true, forall_const, reduceCtorEq, V.ofValue, V.ofScalar, V.un, V.gd, aExec, lentIds, lendOf, ‹Tys _›.h, ‹Fc _›.h]
    repeat (refine andC ?_)
    refine aCall_lentXA (drawAsk_con code a2 s2 mn (by omega) hcode hcl (by omega)) ?_
    rintro _ _ ⟨x29, y29, z29, a29, s29, h29, k29, rfl, rfl⟩
    refine ⟨_, _, rfl, by first | exact .inr (List.all_eq_true.1 rfl) | exact .inl ⟨rfl, by simp [Blk.kindIs, fillK_fd]⟩, ?_⟩
    refine k _ ?_; clear k K
    simp only [zY, zW, set_some, Nat.reduceEqDiff, reduceIte, rho_one, rho_s, rho2_s, rho2_0, rho2_1, V.ren, V.renL, List.set_cons_zero, List.set_cons_succ, rho, Nat.reduceAdd, Nat.add_zero]
    refine zBuildSlice ⟨?_⟩
    refine zAppend ⟨?_⟩
    refine zAssign ⟨?_⟩
    refine k17 _ ?_
    refine zk ⟨?_⟩
    refine v_region ?_; intro K18 k18
    refine zMove ⟨?_⟩
    refine zMove ⟨?_⟩
    refine zBuildSlice ⟨?_⟩
    refine v_op ?_; intro K k
    simp only [zE, zM, aStepM, optable, set_some, Nat.reduceEqDiff, reduceIte, Nat.reduceLT, implies_true, forall_const, reduceCtorEq, V.ofValue, V.ofScalar, V.un, V.gd, aExec, lentIds, lendOf, ‹Tys _›.h, ‹Fc _›.h]
    repeat (refine andC ?_)
    refine aCall_lent2XA (among_con code a29 s29 [0, 1, 3, 8] (by simp) hcode hcl (by omega)) ?_
    rintro _ _ ⟨v35, a35, s35, h35, k35, rfl, rfl⟩
    refine ⟨_, _, _, rfl, by first | exact .inr (List.all_eq_true.1 rfl) | exact .inl ⟨rfl, by simp [Blk.kindIs, fillK_fd]⟩, ?_⟩
    refine k _ ?_; clear k K
    simp only [zY, zW, set_some, Nat.reduceEqDiff, reduceIte, rho_one, rho_s, rho2_s, rho2_0, rho2_1, V.ren, V.renL, List.set_cons_zero, List.set_cons_succ, rho, Nat.reduceAdd, Nat.add_zero]
    simp only [List.mem_cons, List.not_mem_nil, or_false] at h35
    refine zBinOpW ⟨?_⟩
    refine zAssign ⟨?_⟩
    refine k18 _ ?_
    refine n16 _ ?_
    refine n12 _ (acc ++ [(x29, y29, z29)], mn + v35, a35, s35) ?_ ?_ ?_
    ·refine weak_bothS [2, 6, 7, 8, 9] [0, 1, 4] ⟨?_⟩
     rw [snoc_Ask]
    ·exact ⟨by show ((acc ++ _).length : Int) ≤ n; simp; omega, by show 0 ≤ mn + v35 ∧ mn + v35 ≤ 10 + 8 * ((acc ++ _).length : Int); simp; omega, by show a1 ≤ a35 ∧ a35 ≤ a1 + 2 + 30 * ((acc ++ _).length : Int); simp; omega⟩
    ·show _ < _; show (n - ((acc ++ _).length : Int)).toNat < (n - (acc.length : Int)).toNat; simp; omega
   ·intro hc1
    refine v_exit ?_
    refine e13 _ _ ?_
    refine e12 _ _ ?_
    refine x11 _ ?_
    refine n10 _ _ (weak_keep [2, 6, 7] _) ?_
    refine zk ⟨?_⟩
    refine v_seqR [2,3,4,5] ?_; intro K19 k19
    refine zMove ⟨?_⟩
    refine v_op ?_; intro K k
    simp only [zE, zM, aStepM, optable, set_some, Nat.reduceEqDiff, reduceIte, Nat.reduceLT, implies_true, forall_const, reduceCtorEq, V.ofValue, V.ofScalar, V.un, V.gd, aExec, lentIds, lendOf, ‹Tys _›.h, ‹Fc _›.h]
    repeat (refine andC ?_)
    refine aCall_lentXA (drawLease_con code a2 s2 hcode hcl (by omega)) ?_
    rintro _ _ ⟨e38, u38, a38, s38, h38, k38, rfl, rfl⟩
    refine ⟨_, _, rfl, by first | exact .inr (List.all_eq_true.1 rfl) | exact .inl ⟨rfl, by simp [Blk.kindIs, fillK_fd]⟩, ?_⟩
    refine k _ ?_; clear k K
    simp only [zY, zW, set_some, Nat.reduceEqDiff, reduceIte, rho_one, rho_s, rho2_s, rho2_0, rho2_1, V.ren, V.renL, List.set_cons_zero, List.set_cons_succ, rho, Nat.reduceAdd, Nat.add_zero]
    refine zMove ⟨?_⟩
    refine zMove ⟨?_⟩
    refine v_op ?_; intro K k
    simp only [zE, zM, aStepM, optable, set_some, Nat.reduceEqDiff, reduceIte, Nat.reduceLT, implies_true, forall_const, reduceCtorEq, V.ofValue, V.ofScalar, V.un, V.gd, aExec, lentIds, lendOf, ‹Tys _›.h, ‹Fc _›.h]
    repeat (refine andC ?_)
    refine aCall_lentXA (skewOf_con code a38 s38 hcode hcl (by omega)) ?_
    rintro _ _ ⟨v41, a41, s41, h41, k41, rfl, rfl⟩
    refine ⟨_, _, rfl, by first | exact .inr (List.all_eq_true.1 rfl) | exact .inl ⟨rfl, by simp [Blk.kindIs, fillK_fd]⟩, ?_⟩
    refine k _ ?_; clear k K
    simp only [zY, zW, set_some, Nat.reduceEqDiff, reduceIte, rho_one, rho_s, rho2_s, rho2_0, rho2_1, V.ren, V.renL, List.set_cons_zero, List.set_cons_succ, rho, Nat.reduceAdd, Nat.add_zero]
    refine zMove ⟨?_⟩
    refine v_op ?_; intro K k
    simp only [zE, zM, aStepM, optable, set_some, Nat.reduceEqDiff, reduceIte, Nat.reduceLT, implies_true, forall_const, reduceCtorEq, V.ofValue, V.ofScalar, V.un, V.gd, aExec, lentIds, lendOf, ‹Tys _›.h, ‹Fc _›.h]
    repeat (refine andC ?_)
    refine aCall_lentXA (leaseLength_con code a41 s41 hcode hcl (by omega)) ?_
    rintro _ _ ⟨v43, a43, s43, h43, k43, rfl, rfl⟩
    refine ⟨_, _, rfl, by first | exact .inr (List.all_eq_true.1 rfl) | exact .inl ⟨rfl, by simp [Blk.kindIs, fillK_fd]⟩, ?_⟩
    refine k _ ?_; clear k K
    simp only [zY, zW, set_some, Nat.reduceEqDiff, reduceIte, rho_one, rho_s, rho2_s, rho2_0, rho2_1, V.ren, V.renL, List.set_cons_zero, List.set_cons_succ, rho, Nat.reduceAdd, Nat.add_zero]
    refine zStore ⟨?_⟩
    refine zAssign ⟨?_⟩
    refine zAssign ⟨?_⟩
    refine zAssign ⟨?_⟩
    refine k19 _ ?_
    refine zk ⟨?_⟩
    refine v_ret ?_
    refine r0 _ ?_
    refine zf ⟨?_⟩
    simp only [zE, zL, zO, zN, aStepM, optable, set_some, Nat.reduceEqDiff, reduceIte, Nat.reduceLT, implies_true, forall_const, reduceCtorEq, V.ofValue, V.ofScalar, V.un, V.gd, aLoad, row_mk, Blk.row, PartOK, Go.Vm.part, V.cells, V.noSl, V.noRef, Nat.reduceAdd, Nat.reduceLeDiff, Nat.reduceMul, Try.underlying3, Ty.c3, Ty.a3, Try.underlying24, Ty.c24, Ty.a24]
    refine ret_viewX ?_
    exact ⟨e38, u38, acc, v41, v43, by omega, rfl, rfl⟩
end Go.Proofs.Ytmlicajgbgjphaa
