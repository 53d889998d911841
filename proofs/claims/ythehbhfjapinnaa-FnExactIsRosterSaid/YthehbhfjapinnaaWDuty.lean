/- What the functions of the duty law compute. No condition. -/
import Derived.Test.YthehbhfjapinnaaChecked
import Derived.Test.YthehbhfjapinnaaVm17
set_option linter.unusedSimpArgs false
set_option linter.unusedVariables false
namespace Go.Proofs.Ythehbhfjapinnaa
open Go Go.Vm

theorem Ty.c3 : Program.cellsOf Try.prog 3 = 1 := rfl
theorem Ty.b3 : Program.bytesOf Try.prog 3 = 8 := rfl
theorem Ty.a3 : Program.isAggT Try.prog 3 = false := by simp only [Program.isAggT, Try.underlying3]
theorem Ty.s3 : scalarT Try.prog 3 = true := by simp only [scalarT, Try.underlying3]
theorem Ty.z3 : Program.zeroOf Try.prog 3 = some (Value.int .i64 0) := rfl
theorem Ty.c4 : Program.cellsOf Try.prog 4 = 1 := rfl
theorem Ty.b4 : Program.bytesOf Try.prog 4 = 1 := rfl
theorem Ty.a4 : Program.isAggT Try.prog 4 = false := by simp only [Program.isAggT, Try.underlying4]
theorem Ty.s4 : scalarT Try.prog 4 = true := by simp only [scalarT, Try.underlying4]
theorem Ty.z4 : Program.zeroOf Try.prog 4 = some (Value.bool false) := rfl
theorem Ty.c23 : Program.cellsOf Try.prog 23 = 3 := rfl
theorem Ty.b23 : Program.bytesOf Try.prog 23 = 24 := rfl
theorem Ty.a23 : Program.isAggT Try.prog 23 = true := by simp only [Program.isAggT, Try.underlying23]
theorem Ty.s23 : scalarT Try.prog 23 = false := by simp only [scalarT, Try.underlying23]
theorem Ty.z23 : Program.zeroOf Try.prog 23 = some (Value.agg #[Value.int .i64 0, Value.int .i64 0, Value.int .i64 0]) := rfl
theorem Ty.c25 : Program.cellsOf Try.prog 25 = 3 := rfl
theorem Ty.b25 : Program.bytesOf Try.prog 25 = 24 := rfl
theorem Ty.a25 : Program.isAggT Try.prog 25 = true := by simp only [Program.isAggT, Try.underlying25]
theorem Ty.s25 : scalarT Try.prog 25 = false := by simp only [scalarT, Try.underlying25]
theorem Ty.z25 : Program.zeroOf Try.prog 25 = some (Value.agg #[Value.int .i64 0, Value.int .i64 0, Value.int .i64 0]) := rfl
-- loop.example/g01020/impl.inside
set_option maxHeartbeats 1000000 in
theorem inside_con (n lo hi : Int) : Con Try.prog 58 [.int .i64 n, .int .i64 lo, .int .i64 hi] [] (.bool (decide (lo ≤ n) && decide (n ≤ hi))) [] := by
  refine v_con [.tmp 6] [] Try.func58 rfl rfl rfl (by simp [Try.ntmps58]) ?_
  intro Q0 n0 r0
  simp only [Try.ntmps58, envFrom, Nat.reduceAdd]
  refine v_seq ?_; intro Q1 n1 e1 r1
  refine v_region ?_; intro K2 k2
  -- 6 := assign c<false>
  refine v_op ?_; intro K k
  simp only [aStepM, optable, get_mk, look_cons, look_nil, set_some, set_none, ev_tmp, ev_const, ev_func, Nat.reduceEqDiff, reduceIte, dst_some, dst_none, Nat.reduceLT, List.append_nil, List.nil_append, true_and, and_true, and_self, implies_true, forall_const, imp_self, Bool.false_eq_true, false_implies, cond_true, cond_false, decide_eq_true_eq, eq_self_iff_true, exists_eq_left', Option.some.injEq, reduceCtorEq, not_false_eq_true, not_true_eq_false, ne_eq, V.ofValue, V.ofScalar, V.un, V.gd, aExec, aop, settle_int, settle_bool, settle_str, settle_nsl, settle_sl, settle_ref, settle_sub, settle_ptr, settle_pv, settle_tup, settle_fn, settle_npt, settle_agg, settleL_nil, settleL_nsl, settleL_int, settleL_bool, settleL_str, settleL_sl, settleL_ref, List.length_nil, List.length_cons, List.length_append, Nat.reduceAdd, Nat.zero_add, Nat.add_zero, List.cons_append]
  repeat (refine And.intro (by first | omega | (intros; omega) | (intros; simp_all; done) | (intros; simp_all; omega)) ?_)
  refine k _ ?_; clear k K
  refine k2 _ ?_
  refine n1 _ _ (weak_keep [0, 1, 2] _) ?_
  simp only [keep_mk, keepE_nil, keepE_cons, look_cons, look_nil, Nat.reduceEqDiff, reduceIte]
  refine v_seq ?_; intro Q3 n3 e3 r3
  refine v_region ?_; intro K4 k4
  -- 7 := move t0
  refine v_op ?_; intro K k
  simp only [aStepM, optable, get_mk, look_cons, look_nil, set_some, set_none, ev_tmp, ev_const, ev_func, Nat.reduceEqDiff, reduceIte, dst_some, dst_none, Nat.reduceLT, List.append_nil, List.nil_append, true_and, and_true, and_self, implies_true, forall_const, imp_self, Bool.false_eq_true, false_implies, cond_true, cond_false, decide_eq_true_eq, eq_self_iff_true, exists_eq_left', Option.some.injEq, reduceCtorEq, not_false_eq_true, not_true_eq_false, ne_eq, V.ofValue, V.ofScalar, V.un, V.gd, aExec, aop, ]
  repeat (refine And.intro (by first | omega | (intros; omega) | (intros; simp_all; done) | (intros; simp_all; omega)) ?_)
  refine k _ ?_; clear k K
  -- 8 := move t1
  refine v_op ?_; intro K k
  simp only [aStepM, optable, get_mk, look_cons, look_nil, set_some, set_none, ev_tmp, ev_const, ev_func, Nat.reduceEqDiff, reduceIte, dst_some, dst_none, Nat.reduceLT, List.append_nil, List.nil_append, true_and, and_true, and_self, implies_true, forall_const, imp_self, Bool.false_eq_true, false_implies, cond_true, cond_false, decide_eq_true_eq, eq_self_iff_true, exists_eq_left', Option.some.injEq, reduceCtorEq, not_false_eq_true, not_true_eq_false, ne_eq, V.ofValue, V.ofScalar, V.un, V.gd, aExec, aop, ]
  repeat (refine And.intro (by first | omega | (intros; omega) | (intros; simp_all; done) | (intros; simp_all; omega)) ?_)
  refine k _ ?_; clear k K
  -- 9 := binOp Go.BinOp.geq 3 t7 t8 3
  refine v_op ?_; intro K k
  simp only [aStepM, optable, get_mk, look_cons, look_nil, set_some, set_none, ev_tmp, ev_const, ev_func, Nat.reduceEqDiff, reduceIte, dst_some, dst_none, Nat.reduceLT, List.append_nil, List.nil_append, true_and, and_true, and_self, implies_true, forall_const, imp_self, Bool.false_eq_true, false_implies, cond_true, cond_false, decide_eq_true_eq, eq_self_iff_true, exists_eq_left', Option.some.injEq, reduceCtorEq, not_false_eq_true, not_true_eq_false, ne_eq, V.ofValue, V.ofScalar, V.un, V.gd, aExec, aop, aBin, Try.underlying3]
  repeat (refine And.intro (by first | omega | (intros; omega) | (intros; simp_all; done) | (intros; simp_all; omega)) ?_)
  refine k _ ?_; clear k K
  -- 10 := move t9
  refine v_op ?_; intro K k
  simp only [aStepM, optable, get_mk, look_cons, look_nil, set_some, set_none, ev_tmp, ev_const, ev_func, Nat.reduceEqDiff, reduceIte, dst_some, dst_none, Nat.reduceLT, List.append_nil, List.nil_append, true_and, and_true, and_self, implies_true, forall_const, imp_self, Bool.false_eq_true, false_implies, cond_true, cond_false, decide_eq_true_eq, eq_self_iff_true, exists_eq_left', Option.some.injEq, reduceCtorEq, not_false_eq_true, not_true_eq_false, ne_eq, V.ofValue, V.ofScalar, V.un, V.gd, aExec, aop, ]
  repeat (refine And.intro (by first | omega | (intros; omega) | (intros; simp_all; done) | (intros; simp_all; omega)) ?_)
  refine k _ ?_; clear k K
  -- 11 := move t0
  first
  | refine v_pass 11 3 true rfl (show 11 < 15 by decide) rfl ?_ ?_
    · first | rfl | (simp only [guardV, List.getElem?_toArray, List.getElem?_cons_succ, List.getElem?_cons_zero, Option.bind_some, get_mk, look_cons, Nat.reduceEqDiff, reduceIte, cond_true, cond_false, Bool.and_false, Bool.false_and, Bool.not_true, Bool.not_false]; done)
    simp only [get_mk, look_cons, look_nil, set_some, set_none, ev_tmp, ev_const, ev_func, Nat.reduceEqDiff, reduceIte]
  | skip
    -- 11 := move t0
    refine v_op ?_; intro K k
    simp only [aStepM, optable, get_mk, look_cons, look_nil, set_some, set_none, ev_tmp, ev_const, ev_func, Nat.reduceEqDiff, reduceIte, dst_some, dst_none, Nat.reduceLT, List.append_nil, List.nil_append, true_and, and_true, and_self, implies_true, forall_const, imp_self, Bool.false_eq_true, false_implies, cond_true, cond_false, decide_eq_true_eq, eq_self_iff_true, exists_eq_left', Option.some.injEq, reduceCtorEq, not_false_eq_true, not_true_eq_false, ne_eq, V.ofValue, V.ofScalar, V.un, V.gd, guardV, List.getElem?_toArray, List.getElem?_cons_succ, List.getElem?_cons_zero, Option.bind_some, V.wrap, aop, ]
    repeat (refine And.intro (by first | omega | (intros; omega) | (intros; simp_all; done) | (intros; simp_all; omega)) ?_)
    refine k _ ?_; clear k K
  -- 12 := move t2
  first
  | refine v_pass 12 3 true rfl (show 12 < 15 by decide) rfl ?_ ?_
    · first | rfl | (simp only [guardV, List.getElem?_toArray, List.getElem?_cons_succ, List.getElem?_cons_zero, Option.bind_some, get_mk, look_cons, Nat.reduceEqDiff, reduceIte, cond_true, cond_false, Bool.and_false, Bool.false_and, Bool.not_true, Bool.not_false]; done)
    simp only [get_mk, look_cons, look_nil, set_some, set_none, ev_tmp, ev_const, ev_func, Nat.reduceEqDiff, reduceIte]
  | skip
    -- 12 := move t2
    refine v_op ?_; intro K k
    simp only [aStepM, optable, get_mk, look_cons, look_nil, set_some, set_none, ev_tmp, ev_const, ev_func, Nat.reduceEqDiff, reduceIte, dst_some, dst_none, Nat.reduceLT, List.append_nil, List.nil_append, true_and, and_true, and_self, implies_true, forall_const, imp_self, Bool.false_eq_true, false_implies, cond_true, cond_false, decide_eq_true_eq, eq_self_iff_true, exists_eq_left', Option.some.injEq, reduceCtorEq, not_false_eq_true, not_true_eq_false, ne_eq, V.ofValue, V.ofScalar, V.un, V.gd, guardV, List.getElem?_toArray, List.getElem?_cons_succ, List.getElem?_cons_zero, Option.bind_some, V.wrap, aop, ]
    repeat (refine And.intro (by first | omega | (intros; omega) | (intros; simp_all; done) | (intros; simp_all; omega)) ?_)
    refine k _ ?_; clear k K
  -- 13 := binOp Go.BinOp.leq 3 t11 t12 3
  first
  | refine v_pass 13 3 true rfl (show 13 < 15 by decide) rfl ?_ ?_
    · first | rfl | (simp only [guardV, List.getElem?_toArray, List.getElem?_cons_succ, List.getElem?_cons_zero, Option.bind_some, get_mk, look_cons, Nat.reduceEqDiff, reduceIte, cond_true, cond_false, Bool.and_false, Bool.false_and, Bool.not_true, Bool.not_false]; done)
    simp only [get_mk, look_cons, look_nil, set_some, set_none, ev_tmp, ev_const, ev_func, Nat.reduceEqDiff, reduceIte]
  | skip
    -- 13 := binOp Go.BinOp.leq 3 t11 t12 3
    refine v_op ?_; intro K k
    simp only [aStepM, optable, get_mk, look_cons, look_nil, set_some, set_none, ev_tmp, ev_const, ev_func, Nat.reduceEqDiff, reduceIte, dst_some, dst_none, Nat.reduceLT, List.append_nil, List.nil_append, true_and, and_true, and_self, implies_true, forall_const, imp_self, Bool.false_eq_true, false_implies, cond_true, cond_false, decide_eq_true_eq, eq_self_iff_true, exists_eq_left', Option.some.injEq, reduceCtorEq, not_false_eq_true, not_true_eq_false, ne_eq, V.ofValue, V.ofScalar, V.un, V.gd, guardV, List.getElem?_toArray, List.getElem?_cons_succ, List.getElem?_cons_zero, Option.bind_some, V.wrap, aop, aBin, Try.underlying3]
    repeat (refine And.intro (by first | omega | (intros; omega) | (intros; simp_all; done) | (intros; simp_all; omega)) ?_)
    refine k _ ?_; clear k K
  -- 14 := pick t10 t13 c<false>
  refine v_op ?_; intro K k
  simp only [aStepM, optable, get_mk, look_cons, look_nil, set_some, set_none, ev_tmp, ev_const, ev_func, Nat.reduceEqDiff, reduceIte, dst_some, dst_none, Nat.reduceLT, List.append_nil, List.nil_append, true_and, and_true, and_self, implies_true, forall_const, imp_self, Bool.false_eq_true, false_implies, cond_true, cond_false, decide_eq_true_eq, eq_self_iff_true, exists_eq_left', Option.some.injEq, reduceCtorEq, not_false_eq_true, not_true_eq_false, ne_eq, V.ofValue, V.ofScalar, V.un, V.gd, aExec, aop, pickV, Bool.cond_true_right, Bool.cond_true_left, Bool.cond_false_right, Bool.cond_false_left]
  repeat (refine And.intro (by first | omega | (intros; omega) | (intros; simp_all; done) | (intros; simp_all; omega)) ?_)
  refine k _ ?_; clear k K
  -- 6 := assign t14
  refine v_op ?_; intro K k
  simp only [aStepM, optable, get_mk, look_cons, look_nil, set_some, set_none, ev_tmp, ev_const, ev_func, Nat.reduceEqDiff, reduceIte, dst_some, dst_none, Nat.reduceLT, List.append_nil, List.nil_append, true_and, and_true, and_self, implies_true, forall_const, imp_self, Bool.false_eq_true, false_implies, cond_true, cond_false, decide_eq_true_eq, eq_self_iff_true, exists_eq_left', Option.some.injEq, reduceCtorEq, not_false_eq_true, not_true_eq_false, ne_eq, V.ofValue, V.ofScalar, V.un, V.gd, aExec, aop, settle_int, settle_bool, settle_str, settle_nsl, settle_sl, settle_ref, settle_sub, settle_ptr, settle_pv, settle_tup, settle_fn, settle_npt, settle_agg, settleL_nil, settleL_nsl, settleL_int, settleL_bool, settleL_str, settleL_sl, settleL_ref, List.length_nil, List.length_cons, List.length_append, Nat.reduceAdd, Nat.zero_add, Nat.add_zero, List.cons_append]
  repeat (refine And.intro (by first | omega | (intros; omega) | (intros; simp_all; done) | (intros; simp_all; omega)) ?_)
  refine k _ ?_; clear k K
  refine k4 _ ?_
  refine n3 _ _ (weak_keep [6] _) ?_
  simp only [keep_mk, keepE_nil, keepE_cons, look_cons, look_nil, Nat.reduceEqDiff, reduceIte]
  refine v_ret ?_
  refine r0 _ ?_
  simp only [resK, pickRV, get_mk, look_cons, look_nil, Nat.reduceEqDiff, reduceIte, List.map_cons, List.map_nil]
  exact ret_pure rfl (by first | rfl | simp) (.inl rfl)
-- loop.example/g01020/spec.l1In
set_option maxHeartbeats 1000000 in
theorem l1In_con (n lo hi : Int) : Con Try.prog 57 [.int .i64 n, .int .i64 lo, .int .i64 hi] [] (.bool (decide (lo ≤ n) && decide (n ≤ hi))) [] := by
  refine v_con [.tmp 6] [] Try.func57 rfl rfl rfl (by simp [Try.ntmps57]) ?_
  intro Q0 n0 r0
  simp only [Try.ntmps57, envFrom, Nat.reduceAdd]
  refine v_seq ?_; intro Q1 n1 e1 r1
  refine v_region ?_; intro K2 k2
  -- 6 := assign c<false>
  refine v_op ?_; intro K k
  simp only [aStepM, optable, get_mk, look_cons, look_nil, set_some, set_none, ev_tmp, ev_const, ev_func, Nat.reduceEqDiff, reduceIte, dst_some, dst_none, Nat.reduceLT, List.append_nil, List.nil_append, true_and, and_true, and_self, implies_true, forall_const, imp_self, Bool.false_eq_true, false_implies, cond_true, cond_false, decide_eq_true_eq, eq_self_iff_true, exists_eq_left', Option.some.injEq, reduceCtorEq, not_false_eq_true, not_true_eq_false, ne_eq, V.ofValue, V.ofScalar, V.un, V.gd, aExec, aop, settle_int, settle_bool, settle_str, settle_nsl, settle_sl, settle_ref, settle_sub, settle_ptr, settle_pv, settle_tup, settle_fn, settle_npt, settle_agg, settleL_nil, settleL_nsl, settleL_int, settleL_bool, settleL_str, settleL_sl, settleL_ref, List.length_nil, List.length_cons, List.length_append, Nat.reduceAdd, Nat.zero_add, Nat.add_zero, List.cons_append]
  repeat (refine And.intro (by first | omega | (intros; omega) | (intros; simp_all; done) | (intros; simp_all; omega)) ?_)
  refine k _ ?_; clear k K
  refine k2 _ ?_
  refine n1 _ _ (weak_keep [0, 1, 2] _) ?_
  simp only [keep_mk, keepE_nil, keepE_cons, look_cons, look_nil, Nat.reduceEqDiff, reduceIte]
  refine v_seq ?_; intro Q3 n3 e3 r3
  refine v_region ?_; intro K4 k4
  -- 7 := move t0
  refine v_op ?_; intro K k
  simp only [aStepM, optable, get_mk, look_cons, look_nil, set_some, set_none, ev_tmp, ev_const, ev_func, Nat.reduceEqDiff, reduceIte, dst_some, dst_none, Nat.reduceLT, List.append_nil, List.nil_append, true_and, and_true, and_self, implies_true, forall_const, imp_self, Bool.false_eq_true, false_implies, cond_true, cond_false, decide_eq_true_eq, eq_self_iff_true, exists_eq_left', Option.some.injEq, reduceCtorEq, not_false_eq_true, not_true_eq_false, ne_eq, V.ofValue, V.ofScalar, V.un, V.gd, aExec, aop, ]
  repeat (refine And.intro (by first | omega | (intros; omega) | (intros; simp_all; done) | (intros; simp_all; omega)) ?_)
  refine k _ ?_; clear k K
  -- 8 := move t1
  refine v_op ?_; intro K k
  simp only [aStepM, optable, get_mk, look_cons, look_nil, set_some, set_none, ev_tmp, ev_const, ev_func, Nat.reduceEqDiff, reduceIte, dst_some, dst_none, Nat.reduceLT, List.append_nil, List.nil_append, true_and, and_true, and_self, implies_true, forall_const, imp_self, Bool.false_eq_true, false_implies, cond_true, cond_false, decide_eq_true_eq, eq_self_iff_true, exists_eq_left', Option.some.injEq, reduceCtorEq, not_false_eq_true, not_true_eq_false, ne_eq, V.ofValue, V.ofScalar, V.un, V.gd, aExec, aop, ]
  repeat (refine And.intro (by first | omega | (intros; omega) | (intros; simp_all; done) | (intros; simp_all; omega)) ?_)
  refine k _ ?_; clear k K
  -- 9 := binOp Go.BinOp.geq 3 t7 t8 3
  refine v_op ?_; intro K k
  simp only [aStepM, optable, get_mk, look_cons, look_nil, set_some, set_none, ev_tmp, ev_const, ev_func, Nat.reduceEqDiff, reduceIte, dst_some, dst_none, Nat.reduceLT, List.append_nil, List.nil_append, true_and, and_true, and_self, implies_true, forall_const, imp_self, Bool.false_eq_true, false_implies, cond_true, cond_false, decide_eq_true_eq, eq_self_iff_true, exists_eq_left', Option.some.injEq, reduceCtorEq, not_false_eq_true, not_true_eq_false, ne_eq, V.ofValue, V.ofScalar, V.un, V.gd, aExec, aop, aBin, Try.underlying3]
  repeat (refine And.intro (by first | omega | (intros; omega) | (intros; simp_all; done) | (intros; simp_all; omega)) ?_)
  refine k _ ?_; clear k K
  -- 10 := move t9
  refine v_op ?_; intro K k
  simp only [aStepM, optable, get_mk, look_cons, look_nil, set_some, set_none, ev_tmp, ev_const, ev_func, Nat.reduceEqDiff, reduceIte, dst_some, dst_none, Nat.reduceLT, List.append_nil, List.nil_append, true_and, and_true, and_self, implies_true, forall_const, imp_self, Bool.false_eq_true, false_implies, cond_true, cond_false, decide_eq_true_eq, eq_self_iff_true, exists_eq_left', Option.some.injEq, reduceCtorEq, not_false_eq_true, not_true_eq_false, ne_eq, V.ofValue, V.ofScalar, V.un, V.gd, aExec, aop, ]
  repeat (refine And.intro (by first | omega | (intros; omega) | (intros; simp_all; done) | (intros; simp_all; omega)) ?_)
  refine k _ ?_; clear k K
  -- 11 := move t0
  first
  | refine v_pass 11 3 true rfl (show 11 < 15 by decide) rfl ?_ ?_
    · first | rfl | (simp only [guardV, List.getElem?_toArray, List.getElem?_cons_succ, List.getElem?_cons_zero, Option.bind_some, get_mk, look_cons, Nat.reduceEqDiff, reduceIte, cond_true, cond_false, Bool.and_false, Bool.false_and, Bool.not_true, Bool.not_false]; done)
    simp only [get_mk, look_cons, look_nil, set_some, set_none, ev_tmp, ev_const, ev_func, Nat.reduceEqDiff, reduceIte]
  | skip
    -- 11 := move t0
    refine v_op ?_; intro K k
    simp only [aStepM, optable, get_mk, look_cons, look_nil, set_some, set_none, ev_tmp, ev_const, ev_func, Nat.reduceEqDiff, reduceIte, dst_some, dst_none, Nat.reduceLT, List.append_nil, List.nil_append, true_and, and_true, and_self, implies_true, forall_const, imp_self, Bool.false_eq_true, false_implies, cond_true, cond_false, decide_eq_true_eq, eq_self_iff_true, exists_eq_left', Option.some.injEq, reduceCtorEq, not_false_eq_true, not_true_eq_false, ne_eq, V.ofValue, V.ofScalar, V.un, V.gd, guardV, List.getElem?_toArray, List.getElem?_cons_succ, List.getElem?_cons_zero, Option.bind_some, V.wrap, aop, ]
    repeat (refine And.intro (by first | omega | (intros; omega) | (intros; simp_all; done) | (intros; simp_all; omega)) ?_)
    refine k _ ?_; clear k K
  -- 12 := move t2
  first
  | refine v_pass 12 3 true rfl (show 12 < 15 by decide) rfl ?_ ?_
    · first | rfl | (simp only [guardV, List.getElem?_toArray, List.getElem?_cons_succ, List.getElem?_cons_zero, Option.bind_some, get_mk, look_cons, Nat.reduceEqDiff, reduceIte, cond_true, cond_false, Bool.and_false, Bool.false_and, Bool.not_true, Bool.not_false]; done)
    simp only [get_mk, look_cons, look_nil, set_some, set_none, ev_tmp, ev_const, ev_func, Nat.reduceEqDiff, reduceIte]
  | skip
    -- 12 := move t2
    refine v_op ?_; intro K k
    simp only [aStepM, optable, get_mk, look_cons, look_nil, set_some, set_none, ev_tmp, ev_const, ev_func, Nat.reduceEqDiff, reduceIte, dst_some, dst_none, Nat.reduceLT, List.append_nil, List.nil_append, true_and, and_true, and_self, implies_true, forall_const, imp_self, Bool.false_eq_true, false_implies, cond_true, cond_false, decide_eq_true_eq, eq_self_iff_true, exists_eq_left', Option.some.injEq, reduceCtorEq, not_false_eq_true, not_true_eq_false, ne_eq, V.ofValue, V.ofScalar, V.un, V.gd, guardV, List.getElem?_toArray, List.getElem?_cons_succ, List.getElem?_cons_zero, Option.bind_some, V.wrap, aop, ]
    repeat (refine And.intro (by first | omega | (intros; omega) | (intros; simp_all; done) | (intros; simp_all; omega)) ?_)
    refine k _ ?_; clear k K
  -- 13 := binOp Go.BinOp.leq 3 t11 t12 3
  first
  | refine v_pass 13 3 true rfl (show 13 < 15 by decide) rfl ?_ ?_
    · first | rfl | (simp only [guardV, List.getElem?_toArray, List.getElem?_cons_succ, List.getElem?_cons_zero, Option.bind_some, get_mk, look_cons, Nat.reduceEqDiff, reduceIte, cond_true, cond_false, Bool.and_false, Bool.false_and, Bool.not_true, Bool.not_false]; done)
    simp only [get_mk, look_cons, look_nil, set_some, set_none, ev_tmp, ev_const, ev_func, Nat.reduceEqDiff, reduceIte]
  | skip
    -- 13 := binOp Go.BinOp.leq 3 t11 t12 3
    refine v_op ?_; intro K k
    simp only [aStepM, optable, get_mk, look_cons, look_nil, set_some, set_none, ev_tmp, ev_const, ev_func, Nat.reduceEqDiff, reduceIte, dst_some, dst_none, Nat.reduceLT, List.append_nil, List.nil_append, true_and, and_true, and_self, implies_true, forall_const, imp_self, Bool.false_eq_true, false_implies, cond_true, cond_false, decide_eq_true_eq, eq_self_iff_true, exists_eq_left', Option.some.injEq, reduceCtorEq, not_false_eq_true, not_true_eq_false, ne_eq, V.ofValue, V.ofScalar, V.un, V.gd, guardV, List.getElem?_toArray, List.getElem?_cons_succ, List.getElem?_cons_zero, Option.bind_some, V.wrap, aop, aBin, Try.underlying3]
    repeat (refine And.intro (by first | omega | (intros; omega) | (intros; simp_all; done) | (intros; simp_all; omega)) ?_)
    refine k _ ?_; clear k K
  -- 14 := pick t10 t13 c<false>
  refine v_op ?_; intro K k
  simp only [aStepM, optable, get_mk, look_cons, look_nil, set_some, set_none, ev_tmp, ev_const, ev_func, Nat.reduceEqDiff, reduceIte, dst_some, dst_none, Nat.reduceLT, List.append_nil, List.nil_append, true_and, and_true, and_self, implies_true, forall_const, imp_self, Bool.false_eq_true, false_implies, cond_true, cond_false, decide_eq_true_eq, eq_self_iff_true, exists_eq_left', Option.some.injEq, reduceCtorEq, not_false_eq_true, not_true_eq_false, ne_eq, V.ofValue, V.ofScalar, V.un, V.gd, aExec, aop, pickV, Bool.cond_true_right, Bool.cond_true_left, Bool.cond_false_right, Bool.cond_false_left]
  repeat (refine And.intro (by first | omega | (intros; omega) | (intros; simp_all; done) | (intros; simp_all; omega)) ?_)
  refine k _ ?_; clear k K
  -- 6 := assign t14
  refine v_op ?_; intro K k
  simp only [aStepM, optable, get_mk, look_cons, look_nil, set_some, set_none, ev_tmp, ev_const, ev_func, Nat.reduceEqDiff, reduceIte, dst_some, dst_none, Nat.reduceLT, List.append_nil, List.nil_append, true_and, and_true, and_self, implies_true, forall_const, imp_self, Bool.false_eq_true, false_implies, cond_true, cond_false, decide_eq_true_eq, eq_self_iff_true, exists_eq_left', Option.some.injEq, reduceCtorEq, not_false_eq_true, not_true_eq_false, ne_eq, V.ofValue, V.ofScalar, V.un, V.gd, aExec, aop, settle_int, settle_bool, settle_str, settle_nsl, settle_sl, settle_ref, settle_sub, settle_ptr, settle_pv, settle_tup, settle_fn, settle_npt, settle_agg, settleL_nil, settleL_nsl, settleL_int, settleL_bool, settleL_str, settleL_sl, settleL_ref, List.length_nil, List.length_cons, List.length_append, Nat.reduceAdd, Nat.zero_add, Nat.add_zero, List.cons_append]
  repeat (refine And.intro (by first | omega | (intros; omega) | (intros; simp_all; done) | (intros; simp_all; omega)) ?_)
  refine k _ ?_; clear k K
  refine k4 _ ?_
  refine n3 _ _ (weak_keep [6] _) ?_
  simp only [keep_mk, keepE_nil, keepE_cons, look_cons, look_nil, Nat.reduceEqDiff, reduceIte]
  refine v_ret ?_
  refine r0 _ ?_
  simp only [resK, pickRV, get_mk, look_cons, look_nil, Nat.reduceEqDiff, reduceIte, List.map_cons, List.map_nil]
  exact ret_pure rfl (by first | rfl | simp) (.inl rfl)
-- loop.example/g01020/spec.duPeople
set_option maxHeartbeats 1000000 in
theorem duPeople_con (n : Int) : Con Try.prog 56 [.int .i64 n] [] (.bool (decide (1 ≤ n) && decide (n ≤ 9))) [] := by
  refine v_con [.tmp 2] [] Try.func56 rfl rfl rfl (by simp [Try.ntmps56]) ?_
  intro Q0 n0 r0
  simp only [Try.ntmps56, envFrom, Nat.reduceAdd]
  refine v_seq ?_; intro Q1 n1 e1 r1
  refine v_region ?_; intro K2 k2
  -- 2 := assign c<false>
  refine v_op ?_; intro K k
  simp only [aStepM, optable, get_mk, look_cons, look_nil, set_some, set_none, ev_tmp, ev_const, ev_func, Nat.reduceEqDiff, reduceIte, dst_some, dst_none, Nat.reduceLT, List.append_nil, List.nil_append, true_and, and_true, and_self, implies_true, forall_const, imp_self, Bool.false_eq_true, false_implies, cond_true, cond_false, decide_eq_true_eq, eq_self_iff_true, exists_eq_left', Option.some.injEq, reduceCtorEq, not_false_eq_true, not_true_eq_false, ne_eq, V.ofValue, V.ofScalar, V.un, V.gd, aExec, aop, settle_int, settle_bool, settle_str, settle_nsl, settle_sl, settle_ref, settle_sub, settle_ptr, settle_pv, settle_tup, settle_fn, settle_npt, settle_agg, settleL_nil, settleL_nsl, settleL_int, settleL_bool, settleL_str, settleL_sl, settleL_ref, List.length_nil, List.length_cons, List.length_append, Nat.reduceAdd, Nat.zero_add, Nat.add_zero, List.cons_append]
  repeat (refine And.intro (by first | omega | (intros; omega) | (intros; simp_all; done) | (intros; simp_all; omega)) ?_)
  refine k _ ?_; clear k K
  refine k2 _ ?_
  refine n1 _ _ (weak_keep [0] _) ?_
  simp only [keep_mk, keepE_nil, keepE_cons, look_cons, look_nil, Nat.reduceEqDiff, reduceIte]
  refine v_seq ?_; intro Q3 n3 e3 r3
  refine v_region ?_; intro K4 k4
  -- 3 := move t0
  refine v_op ?_; intro K k
  simp only [aStepM, optable, get_mk, look_cons, look_nil, set_some, set_none, ev_tmp, ev_const, ev_func, Nat.reduceEqDiff, reduceIte, dst_some, dst_none, Nat.reduceLT, List.append_nil, List.nil_append, true_and, and_true, and_self, implies_true, forall_const, imp_self, Bool.false_eq_true, false_implies, cond_true, cond_false, decide_eq_true_eq, eq_self_iff_true, exists_eq_left', Option.some.injEq, reduceCtorEq, not_false_eq_true, not_true_eq_false, ne_eq, V.ofValue, V.ofScalar, V.un, V.gd, aExec, aop, ]
  repeat (refine And.intro (by first | omega | (intros; omega) | (intros; simp_all; done) | (intros; simp_all; omega)) ?_)
  refine k _ ?_; clear k K
  -- 4 := call v f57 t3 c<1:i64> c<9:i64> | 3 3 3
  refine v_op ?_; intro K k
  simp only [aStepM, optable, get_mk, look_cons, look_nil, set_some, set_none, ev_tmp, ev_const, ev_func, Nat.reduceEqDiff, reduceIte, dst_some, dst_none, Nat.reduceLT, List.append_nil, List.nil_append, true_and, and_true, and_self, implies_true, forall_const, imp_self, Bool.false_eq_true, false_implies, cond_true, cond_false, decide_eq_true_eq, eq_self_iff_true, exists_eq_left', Option.some.injEq, reduceCtorEq, not_false_eq_true, not_true_eq_false, ne_eq, V.ofValue, V.ofScalar, V.un, V.gd, aExec, lentIds, lendOf, List.map_cons, List.map_nil, List.append_nil, List.filterMap_nil, List.mem_cons, List.not_mem_nil, or_false, forall_eq_or_imp, forall_eq, false_implies, Try.underlying3, Ty.c3, Ty.a3, Ty.b3, Ty.s3, Try.underlying4, Ty.c4, Ty.a4, Ty.b4, Ty.s4]
  repeat (refine And.intro (by first | rfl | (intros; simp_all; done)) ?_)
  refine aCall_new (l1In_con _ _ _) (by first | rfl | simp only [toArgs, toArg, toCell, toCells, idx, row_mk, List.getElem?_cons_zero, List.getElem?_cons_succ, Option.bind_some, Blk.row, fillK_mix, cond_true]) (by first | exact .inl ⟨rfl, by simp [Blk.kindIs, fillK_fd]⟩ | exact .inr (by simp [V.cold])) ?_
  refine k _ ?_; clear k K
  simp only [get_mk, look_cons, look_nil, set_some, set_none, ev_tmp, ev_const, ev_func, Nat.reduceEqDiff, reduceIte, V.ren, V.renL, List.append_nil, List.cons_append, List.nil_append, rho, List.length_nil, List.length_cons, Nat.reduceAdd, Nat.zero_add, Nat.not_lt_zero, if_false, Nat.sub_zero]
  -- 2 := assign t4
  refine v_op ?_; intro K k
  simp only [aStepM, optable, get_mk, look_cons, look_nil, set_some, set_none, ev_tmp, ev_const, ev_func, Nat.reduceEqDiff, reduceIte, dst_some, dst_none, Nat.reduceLT, List.append_nil, List.nil_append, true_and, and_true, and_self, implies_true, forall_const, imp_self, Bool.false_eq_true, false_implies, cond_true, cond_false, decide_eq_true_eq, eq_self_iff_true, exists_eq_left', Option.some.injEq, reduceCtorEq, not_false_eq_true, not_true_eq_false, ne_eq, V.ofValue, V.ofScalar, V.un, V.gd, aExec, aop, settle_int, settle_bool, settle_str, settle_nsl, settle_sl, settle_ref, settle_sub, settle_ptr, settle_pv, settle_tup, settle_fn, settle_npt, settle_agg, settleL_nil, settleL_nsl, settleL_int, settleL_bool, settleL_str, settleL_sl, settleL_ref, List.length_nil, List.length_cons, List.length_append, Nat.reduceAdd, Nat.zero_add, Nat.add_zero, List.cons_append]
  repeat (refine And.intro (by first | omega | (intros; omega) | (intros; simp_all; done) | (intros; simp_all; omega)) ?_)
  refine k _ ?_; clear k K
  refine k4 _ ?_
  refine n3 _ _ (weak_keep [2] _) ?_
  simp only [keep_mk, keepE_nil, keepE_cons, look_cons, look_nil, Nat.reduceEqDiff, reduceIte]
  refine v_ret ?_
  refine r0 _ ?_
  simp only [resK, pickRV, get_mk, look_cons, look_nil, Nat.reduceEqDiff, reduceIte, List.map_cons, List.map_nil]
  exact ret_pure rfl (by first | rfl | simp) (.inl rfl)
def dutyV (a b c : Int) : V := .agg [.int .i64 a, .int .i64 b, .int .i64 c]
def dutyB (a b c : Int) : Bool := (decide (1 ≤ a) && decide (a ≤ 9)) && (decide (1 ≤ b) && decide (b ≤ 21)) && (decide (0 ≤ c) && decide (c ≤ 5))
-- loop.example/g01020/spec.duGood
set_option maxHeartbeats 1000000 in
theorem duGood_con (a b c : Int) : Con Try.prog 36 [.agg [.int .i64 a, .int .i64 b, .int .i64 c]] [] (.bool (dutyB a b c)) [] := by
  refine v_con [.tmp 2] [] Try.func36 rfl rfl rfl (by simp [Try.ntmps36]) ?_
  intro Q0 n0 r0
  simp only [Try.ntmps36, envFrom, Nat.reduceAdd]
  refine v_seq ?_; intro Q1 n1 e1 r1
  refine v_region ?_; intro K2 k2
  -- 1 := box 25 t0
  refine v_op ?_; intro K k
  simp only [aStepM, optable, get_mk, look_cons, look_nil, set_some, set_none, ev_tmp, ev_const, ev_func, Nat.reduceEqDiff, reduceIte, dst_some, dst_none, Nat.reduceLT, List.append_nil, List.nil_append, true_and, and_true, and_self, implies_true, forall_const, imp_self, Bool.false_eq_true, false_implies, cond_true, cond_false, decide_eq_true_eq, eq_self_iff_true, exists_eq_left', Option.some.injEq, reduceCtorEq, not_false_eq_true, not_true_eq_false, ne_eq, V.ofValue, V.ofScalar, V.un, V.gd, aExec, aop, settle_int, settle_bool, settle_str, settle_nsl, settle_sl, settle_ref, settle_sub, settle_ptr, settle_pv, settle_tup, settle_fn, settle_npt, settle_agg, settleL_nil, settleL_nsl, settleL_int, settleL_bool, settleL_str, settleL_sl, settleL_ref, List.length_nil, List.length_cons, List.length_append, Nat.reduceAdd, Nat.zero_add, Nat.add_zero, List.cons_append, V.isVal, V.cells, kindOf, kindAll, V.noSl, V.noRef, List.all_cons, List.all_nil, List.length_map, gt_iff_lt, Bool.or_false, Bool.false_or, Bool.or_true, Bool.true_or, Bool.not_true, Bool.not_false, Bool.and_false, Bool.and_true, Bool.false_and, Bool.true_and, decide_true, decide_false, Bool.or_self, Bool.and_self, Nat.zero_lt_one, Nat.lt_add_one, Nat.zero_add, Nat.add_zero, Nat.reduceAdd, Nat.reduceLeDiff, Nat.reduceLT, Nat.reduceMul, Nat.le_refl, Nat.zero_lt_succ, Try.underlying3, Ty.c3, Ty.a3, Try.underlying25, Ty.c25, Ty.a25]
  repeat (refine And.intro (by first | omega | (intros; omega) | (intros; simp_all; done) | (intros; simp_all; omega)) ?_)
  refine k _ ?_; clear k K
  -- 2 := assign c<false>
  refine v_op ?_; intro K k
  simp only [aStepM, optable, get_mk, look_cons, look_nil, set_some, set_none, ev_tmp, ev_const, ev_func, Nat.reduceEqDiff, reduceIte, dst_some, dst_none, Nat.reduceLT, List.append_nil, List.nil_append, true_and, and_true, and_self, implies_true, forall_const, imp_self, Bool.false_eq_true, false_implies, cond_true, cond_false, decide_eq_true_eq, eq_self_iff_true, exists_eq_left', Option.some.injEq, reduceCtorEq, not_false_eq_true, not_true_eq_false, ne_eq, V.ofValue, V.ofScalar, V.un, V.gd, aExec, aop, settle_int, settle_bool, settle_str, settle_nsl, settle_sl, settle_ref, settle_sub, settle_ptr, settle_pv, settle_tup, settle_fn, settle_npt, settle_agg, settleL_nil, settleL_nsl, settleL_int, settleL_bool, settleL_str, settleL_sl, settleL_ref, List.length_nil, List.length_cons, List.length_append, Nat.reduceAdd, Nat.zero_add, Nat.add_zero, List.cons_append]
  repeat (refine And.intro (by first | omega | (intros; omega) | (intros; simp_all; done) | (intros; simp_all; omega)) ?_)
  refine k _ ?_; clear k K
  refine k2 _ ?_
  refine n1 _ _ (weak_keep [1] _) ?_
  simp only [keep_mk, keepE_nil, keepE_cons, look_cons, look_nil, Nat.reduceEqDiff, reduceIte]
  refine v_seq ?_; intro Q3 n3 e3 r3
  refine v_region ?_; intro K4 k4
  -- 3 := fieldAddr 25 t1 0
  refine v_op ?_; intro K k
  simp only [aStepM, optable, get_mk, look_cons, look_nil, set_some, set_none, ev_tmp, ev_const, ev_func, Nat.reduceEqDiff, reduceIte, dst_some, dst_none, Nat.reduceLT, List.append_nil, List.nil_append, true_and, and_true, and_self, implies_true, forall_const, imp_self, Bool.false_eq_true, false_implies, cond_true, cond_false, decide_eq_true_eq, eq_self_iff_true, exists_eq_left', Option.some.injEq, reduceCtorEq, not_false_eq_true, not_true_eq_false, ne_eq, V.ofValue, V.ofScalar, V.un, V.gd, aExec, aop, aFieldAddr, List.getElem?_toArray, List.getElem?_cons_succ, List.getElem?_cons_zero, List.getD_cons_zero, List.getD_cons_succ, List.length_cons, List.length_nil, List.drop_zero, List.drop_succ_cons, List.headD_cons, List.take_succ_cons, List.take_zero, List.take_nil, List.drop_nil, List.map_cons, List.map_nil, Option.bind_some, Option.isSome_some, Option.map_some, Nat.zero_lt_one, Nat.lt_add_one, Nat.zero_add, Nat.add_zero, Nat.reduceAdd, Nat.reduceLeDiff, Nat.reduceLT, Nat.reduceMul, Nat.le_refl, Nat.zero_lt_succ, Try.underlying3, Ty.c3, Ty.a3, Try.underlying25, Ty.c25, Ty.a25]
  repeat (refine And.intro (by first | omega | (intros; omega) | (intros; simp_all; done) | (intros; simp_all; omega)) ?_)
  refine k _ ?_; clear k K
  -- 4 := load 3 t3
  refine v_op ?_; intro K k
  simp only [aStepM, optable, get_mk, look_cons, look_nil, set_some, set_none, ev_tmp, ev_const, ev_func, Nat.reduceEqDiff, reduceIte, dst_some, dst_none, Nat.reduceLT, List.append_nil, List.nil_append, true_and, and_true, and_self, implies_true, forall_const, imp_self, Bool.false_eq_true, false_implies, cond_true, cond_false, decide_eq_true_eq, eq_self_iff_true, exists_eq_left', Option.some.injEq, reduceCtorEq, not_false_eq_true, not_true_eq_false, ne_eq, V.ofValue, V.ofScalar, V.un, V.gd, aExec, aop, aLoad, row_mk, Blk.row, PartOK, Go.Vm.part, V.cells, V.noSl, V.noRef, Nat.zero_lt_one, Nat.lt_add_one, Nat.zero_add, Nat.add_zero, Nat.reduceAdd, Nat.reduceLeDiff, Nat.reduceLT, Nat.reduceMul, Nat.le_refl, Nat.zero_lt_succ, List.getElem?_toArray, List.getElem?_cons_succ, List.getElem?_cons_zero, List.getD_cons_zero, List.getD_cons_succ, List.length_cons, List.length_nil, List.drop_zero, List.drop_succ_cons, List.headD_cons, List.take_succ_cons, List.take_zero, List.take_nil, List.drop_nil, List.map_cons, List.map_nil, Option.bind_some, Option.isSome_some, Option.map_some, Bool.or_false, Bool.false_or, Bool.or_true, Bool.true_or, Bool.not_true, Bool.not_false, Bool.and_false, Bool.and_true, Bool.false_and, Bool.true_and, decide_true, decide_false, Bool.or_self, Bool.and_self, Try.underlying3, Ty.c3, Ty.a3]
  repeat (refine And.intro (by first | omega | (intros; omega) | (intros; simp_all; done) | (intros; simp_all; omega)) ?_)
  refine k _ ?_; clear k K
  -- 5 := call v f56 t4 | 3
  refine v_op ?_; intro K k
  simp only [aStepM, optable, get_mk, look_cons, look_nil, set_some, set_none, ev_tmp, ev_const, ev_func, Nat.reduceEqDiff, reduceIte, dst_some, dst_none, Nat.reduceLT, List.append_nil, List.nil_append, true_and, and_true, and_self, implies_true, forall_const, imp_self, Bool.false_eq_true, false_implies, cond_true, cond_false, decide_eq_true_eq, eq_self_iff_true, exists_eq_left', Option.some.injEq, reduceCtorEq, not_false_eq_true, not_true_eq_false, ne_eq, V.ofValue, V.ofScalar, V.un, V.gd, aExec, lentIds, lendOf, List.map_cons, List.map_nil, List.append_nil, List.filterMap_nil, List.mem_cons, List.not_mem_nil, or_false, forall_eq_or_imp, forall_eq, false_implies, Try.underlying3, Ty.c3, Ty.a3, Ty.b3, Ty.s3, Try.underlying4, Ty.c4, Ty.a4, Ty.b4, Ty.s4]
  repeat (refine And.intro (by first | rfl | (intros; simp_all; done)) ?_)
  refine aCall_new (duPeople_con _) (by first | rfl | simp only [toArgs, toArg, toCell, toCells, idx, row_mk, List.getElem?_cons_zero, List.getElem?_cons_succ, Option.bind_some, Blk.row, fillK_mix, cond_true]) (by first | exact .inl ⟨rfl, by simp [Blk.kindIs, fillK_fd]⟩ | exact .inr (by simp [V.cold])) ?_
  refine k _ ?_; clear k K
  simp only [get_mk, look_cons, look_nil, set_some, set_none, ev_tmp, ev_const, ev_func, Nat.reduceEqDiff, reduceIte, V.ren, V.renL, List.append_nil, List.cons_append, List.nil_append, rho, List.length_nil, List.length_cons, Nat.reduceAdd, Nat.zero_add, Nat.not_lt_zero, if_false, Nat.sub_zero]
  -- 6 := move t5
  refine v_op ?_; intro K k
  simp only [aStepM, optable, get_mk, look_cons, look_nil, set_some, set_none, ev_tmp, ev_const, ev_func, Nat.reduceEqDiff, reduceIte, dst_some, dst_none, Nat.reduceLT, List.append_nil, List.nil_append, true_and, and_true, and_self, implies_true, forall_const, imp_self, Bool.false_eq_true, false_implies, cond_true, cond_false, decide_eq_true_eq, eq_self_iff_true, exists_eq_left', Option.some.injEq, reduceCtorEq, not_false_eq_true, not_true_eq_false, ne_eq, V.ofValue, V.ofScalar, V.un, V.gd, aExec, aop, ]
  repeat (refine And.intro (by first | omega | (intros; omega) | (intros; simp_all; done) | (intros; simp_all; omega)) ?_)
  refine k _ ?_; clear k K
  -- 7 := fieldAddr 25 t1 1
  first
  | refine v_pass 7 3 true rfl (show 7 < 16 by decide) rfl ?_ ?_
    · first | rfl | (simp only [guardV, List.getElem?_toArray, List.getElem?_cons_succ, List.getElem?_cons_zero, Option.bind_some, get_mk, look_cons, Nat.reduceEqDiff, reduceIte, cond_true, cond_false, Bool.and_false, Bool.false_and, Bool.not_true, Bool.not_false]; done)
    simp only [get_mk, look_cons, look_nil, set_some, set_none, ev_tmp, ev_const, ev_func, Nat.reduceEqDiff, reduceIte]
  | skip
    -- 7 := fieldAddr 25 t1 1
    refine v_op ?_; intro K k
    simp only [aStepM, optable, get_mk, look_cons, look_nil, set_some, set_none, ev_tmp, ev_const, ev_func, Nat.reduceEqDiff, reduceIte, dst_some, dst_none, Nat.reduceLT, List.append_nil, List.nil_append, true_and, and_true, and_self, implies_true, forall_const, imp_self, Bool.false_eq_true, false_implies, cond_true, cond_false, decide_eq_true_eq, eq_self_iff_true, exists_eq_left', Option.some.injEq, reduceCtorEq, not_false_eq_true, not_true_eq_false, ne_eq, V.ofValue, V.ofScalar, V.un, V.gd, guardV, List.getElem?_toArray, List.getElem?_cons_succ, List.getElem?_cons_zero, Option.bind_some, V.wrap, aop, aFieldAddr, List.getElem?_toArray, List.getElem?_cons_succ, List.getElem?_cons_zero, List.getD_cons_zero, List.getD_cons_succ, List.length_cons, List.length_nil, List.drop_zero, List.drop_succ_cons, List.headD_cons, List.take_succ_cons, List.take_zero, List.take_nil, List.drop_nil, List.map_cons, List.map_nil, Option.bind_some, Option.isSome_some, Option.map_some, Nat.zero_lt_one, Nat.lt_add_one, Nat.zero_add, Nat.add_zero, Nat.reduceAdd, Nat.reduceLeDiff, Nat.reduceLT, Nat.reduceMul, Nat.le_refl, Nat.zero_lt_succ, Try.underlying3, Ty.c3, Ty.a3, Try.underlying25, Ty.c25, Ty.a25]
    repeat (refine And.intro (by first | omega | (intros; omega) | (intros; simp_all; done) | (intros; simp_all; omega)) ?_)
    refine k _ ?_; clear k K
  -- 8 := load 3 t7
  first
  | refine v_pass 8 3 true rfl (show 8 < 16 by decide) rfl ?_ ?_
    · first | rfl | (simp only [guardV, List.getElem?_toArray, List.getElem?_cons_succ, List.getElem?_cons_zero, Option.bind_some, get_mk, look_cons, Nat.reduceEqDiff, reduceIte, cond_true, cond_false, Bool.and_false, Bool.false_and, Bool.not_true, Bool.not_false]; done)
    simp only [get_mk, look_cons, look_nil, set_some, set_none, ev_tmp, ev_const, ev_func, Nat.reduceEqDiff, reduceIte]
  | skip
    -- 8 := load 3 t7
    refine v_op ?_; intro K k
    simp only [aStepM, optable, get_mk, look_cons, look_nil, set_some, set_none, ev_tmp, ev_const, ev_func, Nat.reduceEqDiff, reduceIte, dst_some, dst_none, Nat.reduceLT, List.append_nil, List.nil_append, true_and, and_true, and_self, implies_true, forall_const, imp_self, Bool.false_eq_true, false_implies, cond_true, cond_false, decide_eq_true_eq, eq_self_iff_true, exists_eq_left', Option.some.injEq, reduceCtorEq, not_false_eq_true, not_true_eq_false, ne_eq, V.ofValue, V.ofScalar, V.un, V.gd, guardV, List.getElem?_toArray, List.getElem?_cons_succ, List.getElem?_cons_zero, Option.bind_some, V.wrap, aop, aLoad, row_mk, Blk.row, PartOK, Go.Vm.part, V.cells, V.noSl, V.noRef, Nat.zero_lt_one, Nat.lt_add_one, Nat.zero_add, Nat.add_zero, Nat.reduceAdd, Nat.reduceLeDiff, Nat.reduceLT, Nat.reduceMul, Nat.le_refl, Nat.zero_lt_succ, List.getElem?_toArray, List.getElem?_cons_succ, List.getElem?_cons_zero, List.getD_cons_zero, List.getD_cons_succ, List.length_cons, List.length_nil, List.drop_zero, List.drop_succ_cons, List.headD_cons, List.take_succ_cons, List.take_zero, List.take_nil, List.drop_nil, List.map_cons, List.map_nil, Option.bind_some, Option.isSome_some, Option.map_some, Bool.or_false, Bool.false_or, Bool.or_true, Bool.true_or, Bool.not_true, Bool.not_false, Bool.and_false, Bool.and_true, Bool.false_and, Bool.true_and, decide_true, decide_false, Bool.or_self, Bool.and_self, Try.underlying3, Ty.c3, Ty.a3]
    repeat (refine And.intro (by first | omega | (intros; omega) | (intros; simp_all; done) | (intros; simp_all; omega)) ?_)
    refine k _ ?_; clear k K
  -- 9 := call v f57 t8 c<1:i64> c<21:i64> | 3 3 3
  first
  | refine v_pass 9 3 true rfl (show 9 < 16 by decide) rfl ?_ ?_
    · first | rfl | (simp only [guardV, List.getElem?_toArray, List.getElem?_cons_succ, List.getElem?_cons_zero, Option.bind_some, get_mk, look_cons, Nat.reduceEqDiff, reduceIte, cond_true, cond_false, Bool.and_false, Bool.false_and, Bool.not_true, Bool.not_false]; done)
    simp only [get_mk, look_cons, look_nil, set_some, set_none, ev_tmp, ev_const, ev_func, Nat.reduceEqDiff, reduceIte]
  | skip
    -- 9 := call v f57 t8 c<1:i64> c<21:i64> | 3 3 3
    refine v_op ?_; intro K k
    simp only [aStepM, optable, get_mk, look_cons, look_nil, set_some, set_none, ev_tmp, ev_const, ev_func, Nat.reduceEqDiff, reduceIte, dst_some, dst_none, Nat.reduceLT, List.append_nil, List.nil_append, true_and, and_true, and_self, implies_true, forall_const, imp_self, Bool.false_eq_true, false_implies, cond_true, cond_false, decide_eq_true_eq, eq_self_iff_true, exists_eq_left', Option.some.injEq, reduceCtorEq, not_false_eq_true, not_true_eq_false, ne_eq, V.ofValue, V.ofScalar, V.un, V.gd, guardV, List.getElem?_toArray, List.getElem?_cons_succ, List.getElem?_cons_zero, Option.bind_some, Try.underlying3, Ty.c3, Ty.a3, Ty.b3, Ty.s3, Try.underlying4, Ty.c4, Ty.a4, Ty.b4, Ty.s4]
    simp only [aExec, lentIds, lendOf, get_mk, look_cons, look_nil, set_some, set_none, ev_tmp, ev_const, ev_func, Nat.reduceEqDiff, reduceIte, V.ofValue, V.ofScalar, V.un, V.gd, List.map_cons, List.map_nil, List.append_nil, List.filterMap_nil, List.mem_cons, List.not_mem_nil, or_false, forall_eq_or_imp, forall_eq, and_true, true_and, false_implies, implies_true, and_self, decide_eq_true_eq]
    refine Exists.imp (fun r h => h) (aCall_guard (by first | (intros; trivial) | (intros; simp_all; done)) (fun hg => l1In_con _ _ _) rfl rfl rfl ?_)
    refine k _ ?_
    clear k K
  -- 10 := pick t6 t9 c<false>
  refine v_op ?_; intro K k
  simp only [aStepM, optable, get_mk, look_cons, look_nil, set_some, set_none, ev_tmp, ev_const, ev_func, Nat.reduceEqDiff, reduceIte, dst_some, dst_none, Nat.reduceLT, List.append_nil, List.nil_append, true_and, and_true, and_self, implies_true, forall_const, imp_self, Bool.false_eq_true, false_implies, cond_true, cond_false, decide_eq_true_eq, eq_self_iff_true, exists_eq_left', Option.some.injEq, reduceCtorEq, not_false_eq_true, not_true_eq_false, ne_eq, V.ofValue, V.ofScalar, V.un, V.gd, aExec, aop, pickV, Bool.cond_true_right, Bool.cond_true_left, Bool.cond_false_right, Bool.cond_false_left]
  repeat (refine And.intro (by first | omega | (intros; omega) | (intros; simp_all; done) | (intros; simp_all; omega)) ?_)
  refine k _ ?_; clear k K
  -- 11 := move t10
  refine v_op ?_; intro K k
  simp only [aStepM, optable, get_mk, look_cons, look_nil, set_some, set_none, ev_tmp, ev_const, ev_func, Nat.reduceEqDiff, reduceIte, dst_some, dst_none, Nat.reduceLT, List.append_nil, List.nil_append, true_and, and_true, and_self, implies_true, forall_const, imp_self, Bool.false_eq_true, false_implies, cond_true, cond_false, decide_eq_true_eq, eq_self_iff_true, exists_eq_left', Option.some.injEq, reduceCtorEq, not_false_eq_true, not_true_eq_false, ne_eq, V.ofValue, V.ofScalar, V.un, V.gd, aExec, aop, ]
  repeat (refine And.intro (by first | omega | (intros; omega) | (intros; simp_all; done) | (intros; simp_all; omega)) ?_)
  refine k _ ?_; clear k K
  -- 12 := fieldAddr 25 t1 2
  first
  | refine v_pass 12 8 true rfl (show 12 < 16 by decide) rfl ?_ ?_
    · first | rfl | (simp only [guardV, List.getElem?_toArray, List.getElem?_cons_succ, List.getElem?_cons_zero, Option.bind_some, get_mk, look_cons, Nat.reduceEqDiff, reduceIte, cond_true, cond_false, Bool.and_false, Bool.false_and, Bool.not_true, Bool.not_false]; done)
    simp only [get_mk, look_cons, look_nil, set_some, set_none, ev_tmp, ev_const, ev_func, Nat.reduceEqDiff, reduceIte]
  | skip
    -- 12 := fieldAddr 25 t1 2
    refine v_op ?_; intro K k
    simp only [aStepM, optable, get_mk, look_cons, look_nil, set_some, set_none, ev_tmp, ev_const, ev_func, Nat.reduceEqDiff, reduceIte, dst_some, dst_none, Nat.reduceLT, List.append_nil, List.nil_append, true_and, and_true, and_self, implies_true, forall_const, imp_self, Bool.false_eq_true, false_implies, cond_true, cond_false, decide_eq_true_eq, eq_self_iff_true, exists_eq_left', Option.some.injEq, reduceCtorEq, not_false_eq_true, not_true_eq_false, ne_eq, V.ofValue, V.ofScalar, V.un, V.gd, guardV, List.getElem?_toArray, List.getElem?_cons_succ, List.getElem?_cons_zero, Option.bind_some, V.wrap, aop, aFieldAddr, List.getElem?_toArray, List.getElem?_cons_succ, List.getElem?_cons_zero, List.getD_cons_zero, List.getD_cons_succ, List.length_cons, List.length_nil, List.drop_zero, List.drop_succ_cons, List.headD_cons, List.take_succ_cons, List.take_zero, List.take_nil, List.drop_nil, List.map_cons, List.map_nil, Option.bind_some, Option.isSome_some, Option.map_some, Nat.zero_lt_one, Nat.lt_add_one, Nat.zero_add, Nat.add_zero, Nat.reduceAdd, Nat.reduceLeDiff, Nat.reduceLT, Nat.reduceMul, Nat.le_refl, Nat.zero_lt_succ, Try.underlying3, Ty.c3, Ty.a3, Try.underlying25, Ty.c25, Ty.a25]
    repeat (refine And.intro (by first | omega | (intros; omega) | (intros; simp_all; done) | (intros; simp_all; omega)) ?_)
    refine k _ ?_; clear k K
  -- 13 := load 3 t12
  first
  | refine v_pass 13 8 true rfl (show 13 < 16 by decide) rfl ?_ ?_
    · first | rfl | (simp only [guardV, List.getElem?_toArray, List.getElem?_cons_succ, List.getElem?_cons_zero, Option.bind_some, get_mk, look_cons, Nat.reduceEqDiff, reduceIte, cond_true, cond_false, Bool.and_false, Bool.false_and, Bool.not_true, Bool.not_false]; done)
    simp only [get_mk, look_cons, look_nil, set_some, set_none, ev_tmp, ev_const, ev_func, Nat.reduceEqDiff, reduceIte]
  | skip
    -- 13 := load 3 t12
    refine v_op ?_; intro K k
    simp only [aStepM, optable, get_mk, look_cons, look_nil, set_some, set_none, ev_tmp, ev_const, ev_func, Nat.reduceEqDiff, reduceIte, dst_some, dst_none, Nat.reduceLT, List.append_nil, List.nil_append, true_and, and_true, and_self, implies_true, forall_const, imp_self, Bool.false_eq_true, false_implies, cond_true, cond_false, decide_eq_true_eq, eq_self_iff_true, exists_eq_left', Option.some.injEq, reduceCtorEq, not_false_eq_true, not_true_eq_false, ne_eq, V.ofValue, V.ofScalar, V.un, V.gd, guardV, List.getElem?_toArray, List.getElem?_cons_succ, List.getElem?_cons_zero, Option.bind_some, V.wrap, aop, aLoad, row_mk, Blk.row, PartOK, Go.Vm.part, V.cells, V.noSl, V.noRef, Nat.zero_lt_one, Nat.lt_add_one, Nat.zero_add, Nat.add_zero, Nat.reduceAdd, Nat.reduceLeDiff, Nat.reduceLT, Nat.reduceMul, Nat.le_refl, Nat.zero_lt_succ, List.getElem?_toArray, List.getElem?_cons_succ, List.getElem?_cons_zero, List.getD_cons_zero, List.getD_cons_succ, List.length_cons, List.length_nil, List.drop_zero, List.drop_succ_cons, List.headD_cons, List.take_succ_cons, List.take_zero, List.take_nil, List.drop_nil, List.map_cons, List.map_nil, Option.bind_some, Option.isSome_some, Option.map_some, Bool.or_false, Bool.false_or, Bool.or_true, Bool.true_or, Bool.not_true, Bool.not_false, Bool.and_false, Bool.and_true, Bool.false_and, Bool.true_and, decide_true, decide_false, Bool.or_self, Bool.and_self, Try.underlying3, Ty.c3, Ty.a3]
    repeat (refine And.intro (by first | omega | (intros; omega) | (intros; simp_all; done) | (intros; simp_all; omega)) ?_)
    refine k _ ?_; clear k K
  -- 14 := call v f57 t13 c<0:i64> c<5:i64> | 3 3 3
  first
  | refine v_pass 14 8 true rfl (show 14 < 16 by decide) rfl ?_ ?_
    · first | rfl | (simp only [guardV, List.getElem?_toArray, List.getElem?_cons_succ, List.getElem?_cons_zero, Option.bind_some, get_mk, look_cons, Nat.reduceEqDiff, reduceIte, cond_true, cond_false, Bool.and_false, Bool.false_and, Bool.not_true, Bool.not_false]; done)
    simp only [get_mk, look_cons, look_nil, set_some, set_none, ev_tmp, ev_const, ev_func, Nat.reduceEqDiff, reduceIte]
  | skip
    -- 14 := call v f57 t13 c<0:i64> c<5:i64> | 3 3 3
    refine v_op ?_; intro K k
    simp only [aStepM, optable, get_mk, look_cons, look_nil, set_some, set_none, ev_tmp, ev_const, ev_func, Nat.reduceEqDiff, reduceIte, dst_some, dst_none, Nat.reduceLT, List.append_nil, List.nil_append, true_and, and_true, and_self, implies_true, forall_const, imp_self, Bool.false_eq_true, false_implies, cond_true, cond_false, decide_eq_true_eq, eq_self_iff_true, exists_eq_left', Option.some.injEq, reduceCtorEq, not_false_eq_true, not_true_eq_false, ne_eq, V.ofValue, V.ofScalar, V.un, V.gd, guardV, List.getElem?_toArray, List.getElem?_cons_succ, List.getElem?_cons_zero, Option.bind_some, Try.underlying3, Ty.c3, Ty.a3, Ty.b3, Ty.s3, Try.underlying4, Ty.c4, Ty.a4, Ty.b4, Ty.s4]
    simp only [aExec, lentIds, lendOf, get_mk, look_cons, look_nil, set_some, set_none, ev_tmp, ev_const, ev_func, Nat.reduceEqDiff, reduceIte, V.ofValue, V.ofScalar, V.un, V.gd, List.map_cons, List.map_nil, List.append_nil, List.filterMap_nil, List.mem_cons, List.not_mem_nil, or_false, forall_eq_or_imp, forall_eq, and_true, true_and, false_implies, implies_true, and_self, decide_eq_true_eq]
    refine Exists.imp (fun r h => h) (aCall_guard (by first | (intros; trivial) | (intros; simp_all; done)) (fun hg => l1In_con _ _ _) rfl rfl rfl ?_)
    refine k _ ?_
    clear k K
  -- 15 := pick t11 t14 c<false>
  refine v_op ?_; intro K k
  simp only [aStepM, optable, get_mk, look_cons, look_nil, set_some, set_none, ev_tmp, ev_const, ev_func, Nat.reduceEqDiff, reduceIte, dst_some, dst_none, Nat.reduceLT, List.append_nil, List.nil_append, true_and, and_true, and_self, implies_true, forall_const, imp_self, Bool.false_eq_true, false_implies, cond_true, cond_false, decide_eq_true_eq, eq_self_iff_true, exists_eq_left', Option.some.injEq, reduceCtorEq, not_false_eq_true, not_true_eq_false, ne_eq, V.ofValue, V.ofScalar, V.un, V.gd, aExec, aop, pickV, Bool.cond_true_right, Bool.cond_true_left, Bool.cond_false_right, Bool.cond_false_left]
  repeat (refine And.intro (by first | omega | (intros; omega) | (intros; simp_all; done) | (intros; simp_all; omega)) ?_)
  refine k _ ?_; clear k K
  -- 2 := assign t15
  refine v_op ?_; intro K k
  simp only [aStepM, optable, get_mk, look_cons, look_nil, set_some, set_none, ev_tmp, ev_const, ev_func, Nat.reduceEqDiff, reduceIte, dst_some, dst_none, Nat.reduceLT, List.append_nil, List.nil_append, true_and, and_true, and_self, implies_true, forall_const, imp_self, Bool.false_eq_true, false_implies, cond_true, cond_false, decide_eq_true_eq, eq_self_iff_true, exists_eq_left', Option.some.injEq, reduceCtorEq, not_false_eq_true, not_true_eq_false, ne_eq, V.ofValue, V.ofScalar, V.un, V.gd, aExec, aop, settle_int, settle_bool, settle_str, settle_nsl, settle_sl, settle_ref, settle_sub, settle_ptr, settle_pv, settle_tup, settle_fn, settle_npt, settle_agg, settleL_nil, settleL_nsl, settleL_int, settleL_bool, settleL_str, settleL_sl, settleL_ref, List.length_nil, List.length_cons, List.length_append, Nat.reduceAdd, Nat.zero_add, Nat.add_zero, List.cons_append]
  repeat (refine And.intro (by first | omega | (intros; omega) | (intros; simp_all; done) | (intros; simp_all; omega)) ?_)
  refine k _ ?_; clear k K
  refine k4 _ ?_
  refine n3 _ _ (weak_keep [2] _) ?_
  simp only [keep_mk, keepE_nil, keepE_cons, look_cons, look_nil, Nat.reduceEqDiff, reduceIte]
  refine v_ret ?_
  refine r0 _ ?_
  simp only [resK, pickRV, get_mk, look_cons, look_nil, Nat.reduceEqDiff, reduceIte, List.map_cons, List.map_nil]
  exact ret_pure rfl (by first | rfl | simp [dutyB, Bool.and_assoc]) (.inl rfl)
-- loop.example/g01020/impl.isDuty
set_option maxHeartbeats 1000000 in
theorem isDuty_con (a b c : Int) : Con Try.prog 37 [.agg [.int .i64 a, .int .i64 b, .int .i64 c]] [] (.bool (dutyB a b c)) [] := by
  refine v_con [.tmp 2] [] Try.func37 rfl rfl rfl (by simp [Try.ntmps37]) ?_
  intro Q0 n0 r0
  simp only [Try.ntmps37, envFrom, Nat.reduceAdd]
  refine v_seq ?_; intro Q1 n1 e1 r1
  refine v_region ?_; intro K2 k2
  -- 1 := box 25 t0
  refine v_op ?_; intro K k
  simp only [aStepM, optable, get_mk, look_cons, look_nil, set_some, set_none, ev_tmp, ev_const, ev_func, Nat.reduceEqDiff, reduceIte, dst_some, dst_none, Nat.reduceLT, List.append_nil, List.nil_append, true_and, and_true, and_self, implies_true, forall_const, imp_self, Bool.false_eq_true, false_implies, cond_true, cond_false, decide_eq_true_eq, eq_self_iff_true, exists_eq_left', Option.some.injEq, reduceCtorEq, not_false_eq_true, not_true_eq_false, ne_eq, V.ofValue, V.ofScalar, V.un, V.gd, aExec, aop, settle_int, settle_bool, settle_str, settle_nsl, settle_sl, settle_ref, settle_sub, settle_ptr, settle_pv, settle_tup, settle_fn, settle_npt, settle_agg, settleL_nil, settleL_nsl, settleL_int, settleL_bool, settleL_str, settleL_sl, settleL_ref, List.length_nil, List.length_cons, List.length_append, Nat.reduceAdd, Nat.zero_add, Nat.add_zero, List.cons_append, V.isVal, V.cells, kindOf, kindAll, V.noSl, V.noRef, List.all_cons, List.all_nil, List.length_map, gt_iff_lt, Bool.or_false, Bool.false_or, Bool.or_true, Bool.true_or, Bool.not_true, Bool.not_false, Bool.and_false, Bool.and_true, Bool.false_and, Bool.true_and, decide_true, decide_false, Bool.or_self, Bool.and_self, Nat.zero_lt_one, Nat.lt_add_one, Nat.zero_add, Nat.add_zero, Nat.reduceAdd, Nat.reduceLeDiff, Nat.reduceLT, Nat.reduceMul, Nat.le_refl, Nat.zero_lt_succ, Try.underlying3, Ty.c3, Ty.a3, Try.underlying25, Ty.c25, Ty.a25]
  repeat (refine And.intro (by first | omega | (intros; omega) | (intros; simp_all; done) | (intros; simp_all; omega)) ?_)
  refine k _ ?_; clear k K
  -- 2 := assign c<false>
  refine v_op ?_; intro K k
  simp only [aStepM, optable, get_mk, look_cons, look_nil, set_some, set_none, ev_tmp, ev_const, ev_func, Nat.reduceEqDiff, reduceIte, dst_some, dst_none, Nat.reduceLT, List.append_nil, List.nil_append, true_and, and_true, and_self, implies_true, forall_const, imp_self, Bool.false_eq_true, false_implies, cond_true, cond_false, decide_eq_true_eq, eq_self_iff_true, exists_eq_left', Option.some.injEq, reduceCtorEq, not_false_eq_true, not_true_eq_false, ne_eq, V.ofValue, V.ofScalar, V.un, V.gd, aExec, aop, settle_int, settle_bool, settle_str, settle_nsl, settle_sl, settle_ref, settle_sub, settle_ptr, settle_pv, settle_tup, settle_fn, settle_npt, settle_agg, settleL_nil, settleL_nsl, settleL_int, settleL_bool, settleL_str, settleL_sl, settleL_ref, List.length_nil, List.length_cons, List.length_append, Nat.reduceAdd, Nat.zero_add, Nat.add_zero, List.cons_append]
  repeat (refine And.intro (by first | omega | (intros; omega) | (intros; simp_all; done) | (intros; simp_all; omega)) ?_)
  refine k _ ?_; clear k K
  refine k2 _ ?_
  refine n1 _ _ (weak_keep [1] _) ?_
  simp only [keep_mk, keepE_nil, keepE_cons, look_cons, look_nil, Nat.reduceEqDiff, reduceIte]
  refine v_seq ?_; intro Q3 n3 e3 r3
  refine v_region ?_; intro K4 k4
  -- 3 := fieldAddr 25 t1 0
  refine v_op ?_; intro K k
  simp only [aStepM, optable, get_mk, look_cons, look_nil, set_some, set_none, ev_tmp, ev_const, ev_func, Nat.reduceEqDiff, reduceIte, dst_some, dst_none, Nat.reduceLT, List.append_nil, List.nil_append, true_and, and_true, and_self, implies_true, forall_const, imp_self, Bool.false_eq_true, false_implies, cond_true, cond_false, decide_eq_true_eq, eq_self_iff_true, exists_eq_left', Option.some.injEq, reduceCtorEq, not_false_eq_true, not_true_eq_false, ne_eq, V.ofValue, V.ofScalar, V.un, V.gd, aExec, aop, aFieldAddr, List.getElem?_toArray, List.getElem?_cons_succ, List.getElem?_cons_zero, List.getD_cons_zero, List.getD_cons_succ, List.length_cons, List.length_nil, List.drop_zero, List.drop_succ_cons, List.headD_cons, List.take_succ_cons, List.take_zero, List.take_nil, List.drop_nil, List.map_cons, List.map_nil, Option.bind_some, Option.isSome_some, Option.map_some, Nat.zero_lt_one, Nat.lt_add_one, Nat.zero_add, Nat.add_zero, Nat.reduceAdd, Nat.reduceLeDiff, Nat.reduceLT, Nat.reduceMul, Nat.le_refl, Nat.zero_lt_succ, Try.underlying3, Ty.c3, Ty.a3, Try.underlying25, Ty.c25, Ty.a25]
  repeat (refine And.intro (by first | omega | (intros; omega) | (intros; simp_all; done) | (intros; simp_all; omega)) ?_)
  refine k _ ?_; clear k K
  -- 4 := load 3 t3
  refine v_op ?_; intro K k
  simp only [aStepM, optable, get_mk, look_cons, look_nil, set_some, set_none, ev_tmp, ev_const, ev_func, Nat.reduceEqDiff, reduceIte, dst_some, dst_none, Nat.reduceLT, List.append_nil, List.nil_append, true_and, and_true, and_self, implies_true, forall_const, imp_self, Bool.false_eq_true, false_implies, cond_true, cond_false, decide_eq_true_eq, eq_self_iff_true, exists_eq_left', Option.some.injEq, reduceCtorEq, not_false_eq_true, not_true_eq_false, ne_eq, V.ofValue, V.ofScalar, V.un, V.gd, aExec, aop, aLoad, row_mk, Blk.row, PartOK, Go.Vm.part, V.cells, V.noSl, V.noRef, Nat.zero_lt_one, Nat.lt_add_one, Nat.zero_add, Nat.add_zero, Nat.reduceAdd, Nat.reduceLeDiff, Nat.reduceLT, Nat.reduceMul, Nat.le_refl, Nat.zero_lt_succ, List.getElem?_toArray, List.getElem?_cons_succ, List.getElem?_cons_zero, List.getD_cons_zero, List.getD_cons_succ, List.length_cons, List.length_nil, List.drop_zero, List.drop_succ_cons, List.headD_cons, List.take_succ_cons, List.take_zero, List.take_nil, List.drop_nil, List.map_cons, List.map_nil, Option.bind_some, Option.isSome_some, Option.map_some, Bool.or_false, Bool.false_or, Bool.or_true, Bool.true_or, Bool.not_true, Bool.not_false, Bool.and_false, Bool.and_true, Bool.false_and, Bool.true_and, decide_true, decide_false, Bool.or_self, Bool.and_self, Try.underlying3, Ty.c3, Ty.a3]
  repeat (refine And.intro (by first | omega | (intros; omega) | (intros; simp_all; done) | (intros; simp_all; omega)) ?_)
  refine k _ ?_; clear k K
  -- 5 := call v f58 t4 c<1:i64> c<9:i64> | 3 3 3
  refine v_op ?_; intro K k
  simp only [aStepM, optable, get_mk, look_cons, look_nil, set_some, set_none, ev_tmp, ev_const, ev_func, Nat.reduceEqDiff, reduceIte, dst_some, dst_none, Nat.reduceLT, List.append_nil, List.nil_append, true_and, and_true, and_self, implies_true, forall_const, imp_self, Bool.false_eq_true, false_implies, cond_true, cond_false, decide_eq_true_eq, eq_self_iff_true, exists_eq_left', Option.some.injEq, reduceCtorEq, not_false_eq_true, not_true_eq_false, ne_eq, V.ofValue, V.ofScalar, V.un, V.gd, aExec, lentIds, lendOf, List.map_cons, List.map_nil, List.append_nil, List.filterMap_nil, List.mem_cons, List.not_mem_nil, or_false, forall_eq_or_imp, forall_eq, false_implies, Try.underlying3, Ty.c3, Ty.a3, Ty.b3, Ty.s3, Try.underlying4, Ty.c4, Ty.a4, Ty.b4, Ty.s4]
  repeat (refine And.intro (by first | rfl | (intros; simp_all; done)) ?_)
  refine aCall_new (inside_con _ _ _) (by first | rfl | simp only [toArgs, toArg, toCell, toCells, idx, row_mk, List.getElem?_cons_zero, List.getElem?_cons_succ, Option.bind_some, Blk.row, fillK_mix, cond_true]) (by first | exact .inl ⟨rfl, by simp [Blk.kindIs, fillK_fd]⟩ | exact .inr (by simp [V.cold])) ?_
  refine k _ ?_; clear k K
  simp only [get_mk, look_cons, look_nil, set_some, set_none, ev_tmp, ev_const, ev_func, Nat.reduceEqDiff, reduceIte, V.ren, V.renL, List.append_nil, List.cons_append, List.nil_append, rho, List.length_nil, List.length_cons, Nat.reduceAdd, Nat.zero_add, Nat.not_lt_zero, if_false, Nat.sub_zero]
  -- 6 := move t5
  refine v_op ?_; intro K k
  simp only [aStepM, optable, get_mk, look_cons, look_nil, set_some, set_none, ev_tmp, ev_const, ev_func, Nat.reduceEqDiff, reduceIte, dst_some, dst_none, Nat.reduceLT, List.append_nil, List.nil_append, true_and, and_true, and_self, implies_true, forall_const, imp_self, Bool.false_eq_true, false_implies, cond_true, cond_false, decide_eq_true_eq, eq_self_iff_true, exists_eq_left', Option.some.injEq, reduceCtorEq, not_false_eq_true, not_true_eq_false, ne_eq, V.ofValue, V.ofScalar, V.un, V.gd, aExec, aop, ]
  repeat (refine And.intro (by first | omega | (intros; omega) | (intros; simp_all; done) | (intros; simp_all; omega)) ?_)
  refine k _ ?_; clear k K
  -- 7 := fieldAddr 25 t1 1
  first
  | refine v_pass 7 3 true rfl (show 7 < 16 by decide) rfl ?_ ?_
    · first | rfl | (simp only [guardV, List.getElem?_toArray, List.getElem?_cons_succ, List.getElem?_cons_zero, Option.bind_some, get_mk, look_cons, Nat.reduceEqDiff, reduceIte, cond_true, cond_false, Bool.and_false, Bool.false_and, Bool.not_true, Bool.not_false]; done)
    simp only [get_mk, look_cons, look_nil, set_some, set_none, ev_tmp, ev_const, ev_func, Nat.reduceEqDiff, reduceIte]
  | skip
    -- 7 := fieldAddr 25 t1 1
    refine v_op ?_; intro K k
    simp only [aStepM, optable, get_mk, look_cons, look_nil, set_some, set_none, ev_tmp, ev_const, ev_func, Nat.reduceEqDiff, reduceIte, dst_some, dst_none, Nat.reduceLT, List.append_nil, List.nil_append, true_and, and_true, and_self, implies_true, forall_const, imp_self, Bool.false_eq_true, false_implies, cond_true, cond_false, decide_eq_true_eq, eq_self_iff_true, exists_eq_left', Option.some.injEq, reduceCtorEq, not_false_eq_true, not_true_eq_false, ne_eq, V.ofValue, V.ofScalar, V.un, V.gd, guardV, List.getElem?_toArray, List.getElem?_cons_succ, List.getElem?_cons_zero, Option.bind_some, V.wrap, aop, aFieldAddr, List.getElem?_toArray, List.getElem?_cons_succ, List.getElem?_cons_zero, List.getD_cons_zero, List.getD_cons_succ, List.length_cons, List.length_nil, List.drop_zero, List.drop_succ_cons, List.headD_cons, List.take_succ_cons, List.take_zero, List.take_nil, List.drop_nil, List.map_cons, List.map_nil, Option.bind_some, Option.isSome_some, Option.map_some, Nat.zero_lt_one, Nat.lt_add_one, Nat.zero_add, Nat.add_zero, Nat.reduceAdd, Nat.reduceLeDiff, Nat.reduceLT, Nat.reduceMul, Nat.le_refl, Nat.zero_lt_succ, Try.underlying3, Ty.c3, Ty.a3, Try.underlying25, Ty.c25, Ty.a25]
    repeat (refine And.intro (by first | omega | (intros; omega) | (intros; simp_all; done) | (intros; simp_all; omega)) ?_)
    refine k _ ?_; clear k K
  -- 8 := load 3 t7
  first
  | refine v_pass 8 3 true rfl (show 8 < 16 by decide) rfl ?_ ?_
    · first | rfl | (simp only [guardV, List.getElem?_toArray, List.getElem?_cons_succ, List.getElem?_cons_zero, Option.bind_some, get_mk, look_cons, Nat.reduceEqDiff, reduceIte, cond_true, cond_false, Bool.and_false, Bool.false_and, Bool.not_true, Bool.not_false]; done)
    simp only [get_mk, look_cons, look_nil, set_some, set_none, ev_tmp, ev_const, ev_func, Nat.reduceEqDiff, reduceIte]
  | skip
    -- 8 := load 3 t7
    refine v_op ?_; intro K k
    simp only [aStepM, optable, get_mk, look_cons, look_nil, set_some, set_none, ev_tmp, ev_const, ev_func, Nat.reduceEqDiff, reduceIte, dst_some, dst_none, Nat.reduceLT, List.append_nil, List.nil_append, true_and, and_true, and_self, implies_true, forall_const, imp_self, Bool.false_eq_true, false_implies, cond_true, cond_false, decide_eq_true_eq, eq_self_iff_true, exists_eq_left', Option.some.injEq, reduceCtorEq, not_false_eq_true, not_true_eq_false, ne_eq, V.ofValue, V.ofScalar, V.un, V.gd, guardV, List.getElem?_toArray, List.getElem?_cons_succ, List.getElem?_cons_zero, Option.bind_some, V.wrap, aop, aLoad, row_mk, Blk.row, PartOK, Go.Vm.part, V.cells, V.noSl, V.noRef, Nat.zero_lt_one, Nat.lt_add_one, Nat.zero_add, Nat.add_zero, Nat.reduceAdd, Nat.reduceLeDiff, Nat.reduceLT, Nat.reduceMul, Nat.le_refl, Nat.zero_lt_succ, List.getElem?_toArray, List.getElem?_cons_succ, List.getElem?_cons_zero, List.getD_cons_zero, List.getD_cons_succ, List.length_cons, List.length_nil, List.drop_zero, List.drop_succ_cons, List.headD_cons, List.take_succ_cons, List.take_zero, List.take_nil, List.drop_nil, List.map_cons, List.map_nil, Option.bind_some, Option.isSome_some, Option.map_some, Bool.or_false, Bool.false_or, Bool.or_true, Bool.true_or, Bool.not_true, Bool.not_false, Bool.and_false, Bool.and_true, Bool.false_and, Bool.true_and, decide_true, decide_false, Bool.or_self, Bool.and_self, Try.underlying3, Ty.c3, Ty.a3]
    repeat (refine And.intro (by first | omega | (intros; omega) | (intros; simp_all; done) | (intros; simp_all; omega)) ?_)
    refine k _ ?_; clear k K
  -- 9 := call v f58 t8 c<1:i64> c<21:i64> | 3 3 3
  first
  | refine v_pass 9 3 true rfl (show 9 < 16 by decide) rfl ?_ ?_
    · first | rfl | (simp only [guardV, List.getElem?_toArray, List.getElem?_cons_succ, List.getElem?_cons_zero, Option.bind_some, get_mk, look_cons, Nat.reduceEqDiff, reduceIte, cond_true, cond_false, Bool.and_false, Bool.false_and, Bool.not_true, Bool.not_false]; done)
    simp only [get_mk, look_cons, look_nil, set_some, set_none, ev_tmp, ev_const, ev_func, Nat.reduceEqDiff, reduceIte]
  | skip
    -- 9 := call v f58 t8 c<1:i64> c<21:i64> | 3 3 3
    refine v_op ?_; intro K k
    simp only [aStepM, optable, get_mk, look_cons, look_nil, set_some, set_none, ev_tmp, ev_const, ev_func, Nat.reduceEqDiff, reduceIte, dst_some, dst_none, Nat.reduceLT, List.append_nil, List.nil_append, true_and, and_true, and_self, implies_true, forall_const, imp_self, Bool.false_eq_true, false_implies, cond_true, cond_false, decide_eq_true_eq, eq_self_iff_true, exists_eq_left', Option.some.injEq, reduceCtorEq, not_false_eq_true, not_true_eq_false, ne_eq, V.ofValue, V.ofScalar, V.un, V.gd, guardV, List.getElem?_toArray, List.getElem?_cons_succ, List.getElem?_cons_zero, Option.bind_some, Try.underlying3, Ty.c3, Ty.a3, Ty.b3, Ty.s3, Try.underlying4, Ty.c4, Ty.a4, Ty.b4, Ty.s4]
    simp only [aExec, lentIds, lendOf, get_mk, look_cons, look_nil, set_some, set_none, ev_tmp, ev_const, ev_func, Nat.reduceEqDiff, reduceIte, V.ofValue, V.ofScalar, V.un, V.gd, List.map_cons, List.map_nil, List.append_nil, List.filterMap_nil, List.mem_cons, List.not_mem_nil, or_false, forall_eq_or_imp, forall_eq, and_true, true_and, false_implies, implies_true, and_self, decide_eq_true_eq]
    refine Exists.imp (fun r h => h) (aCall_guard (by first | (intros; trivial) | (intros; simp_all; done)) (fun hg => inside_con _ _ _) rfl rfl rfl ?_)
    refine k _ ?_
    clear k K
  -- 10 := pick t6 t9 c<false>
  refine v_op ?_; intro K k
  simp only [aStepM, optable, get_mk, look_cons, look_nil, set_some, set_none, ev_tmp, ev_const, ev_func, Nat.reduceEqDiff, reduceIte, dst_some, dst_none, Nat.reduceLT, List.append_nil, List.nil_append, true_and, and_true, and_self, implies_true, forall_const, imp_self, Bool.false_eq_true, false_implies, cond_true, cond_false, decide_eq_true_eq, eq_self_iff_true, exists_eq_left', Option.some.injEq, reduceCtorEq, not_false_eq_true, not_true_eq_false, ne_eq, V.ofValue, V.ofScalar, V.un, V.gd, aExec, aop, pickV, Bool.cond_true_right, Bool.cond_true_left, Bool.cond_false_right, Bool.cond_false_left]
  repeat (refine And.intro (by first | omega | (intros; omega) | (intros; simp_all; done) | (intros; simp_all; omega)) ?_)
  refine k _ ?_; clear k K
  -- 11 := move t10
  refine v_op ?_; intro K k
  simp only [aStepM, optable, get_mk, look_cons, look_nil, set_some, set_none, ev_tmp, ev_const, ev_func, Nat.reduceEqDiff, reduceIte, dst_some, dst_none, Nat.reduceLT, List.append_nil, List.nil_append, true_and, and_true, and_self, implies_true, forall_const, imp_self, Bool.false_eq_true, false_implies, cond_true, cond_false, decide_eq_true_eq, eq_self_iff_true, exists_eq_left', Option.some.injEq, reduceCtorEq, not_false_eq_true, not_true_eq_false, ne_eq, V.ofValue, V.ofScalar, V.un, V.gd, aExec, aop, ]
  repeat (refine And.intro (by first | omega | (intros; omega) | (intros; simp_all; done) | (intros; simp_all; omega)) ?_)
  refine k _ ?_; clear k K
  -- 12 := fieldAddr 25 t1 2
  first
  | refine v_pass 12 8 true rfl (show 12 < 16 by decide) rfl ?_ ?_
    · first | rfl | (simp only [guardV, List.getElem?_toArray, List.getElem?_cons_succ, List.getElem?_cons_zero, Option.bind_some, get_mk, look_cons, Nat.reduceEqDiff, reduceIte, cond_true, cond_false, Bool.and_false, Bool.false_and, Bool.not_true, Bool.not_false]; done)
    simp only [get_mk, look_cons, look_nil, set_some, set_none, ev_tmp, ev_const, ev_func, Nat.reduceEqDiff, reduceIte]
  | skip
    -- 12 := fieldAddr 25 t1 2
    refine v_op ?_; intro K k
    simp only [aStepM, optable, get_mk, look_cons, look_nil, set_some, set_none, ev_tmp, ev_const, ev_func, Nat.reduceEqDiff, reduceIte, dst_some, dst_none, Nat.reduceLT, List.append_nil, List.nil_append, true_and, and_true, and_self, implies_true, forall_const, imp_self, Bool.false_eq_true, false_implies, cond_true, cond_false, decide_eq_true_eq, eq_self_iff_true, exists_eq_left', Option.some.injEq, reduceCtorEq, not_false_eq_true, not_true_eq_false, ne_eq, V.ofValue, V.ofScalar, V.un, V.gd, guardV, List.getElem?_toArray, List.getElem?_cons_succ, List.getElem?_cons_zero, Option.bind_some, V.wrap, aop, aFieldAddr, List.getElem?_toArray, List.getElem?_cons_succ, List.getElem?_cons_zero, List.getD_cons_zero, List.getD_cons_succ, List.length_cons, List.length_nil, List.drop_zero, List.drop_succ_cons, List.headD_cons, List.take_succ_cons, List.take_zero, List.take_nil, List.drop_nil, List.map_cons, List.map_nil, Option.bind_some, Option.isSome_some, Option.map_some, Nat.zero_lt_one, Nat.lt_add_one, Nat.zero_add, Nat.add_zero, Nat.reduceAdd, Nat.reduceLeDiff, Nat.reduceLT, Nat.reduceMul, Nat.le_refl, Nat.zero_lt_succ, Try.underlying3, Ty.c3, Ty.a3, Try.underlying25, Ty.c25, Ty.a25]
    repeat (refine And.intro (by first | omega | (intros; omega) | (intros; simp_all; done) | (intros; simp_all; omega)) ?_)
    refine k _ ?_; clear k K
  -- 13 := load 3 t12
  first
  | refine v_pass 13 8 true rfl (show 13 < 16 by decide) rfl ?_ ?_
    · first | rfl | (simp only [guardV, List.getElem?_toArray, List.getElem?_cons_succ, List.getElem?_cons_zero, Option.bind_some, get_mk, look_cons, Nat.reduceEqDiff, reduceIte, cond_true, cond_false, Bool.and_false, Bool.false_and, Bool.not_true, Bool.not_false]; done)
    simp only [get_mk, look_cons, look_nil, set_some, set_none, ev_tmp, ev_const, ev_func, Nat.reduceEqDiff, reduceIte]
  | skip
    -- 13 := load 3 t12
    refine v_op ?_; intro K k
    simp only [aStepM, optable, get_mk, look_cons, look_nil, set_some, set_none, ev_tmp, ev_const, ev_func, Nat.reduceEqDiff, reduceIte, dst_some, dst_none, Nat.reduceLT, List.append_nil, List.nil_append, true_and, and_true, and_self, implies_true, forall_const, imp_self, Bool.false_eq_true, false_implies, cond_true, cond_false, decide_eq_true_eq, eq_self_iff_true, exists_eq_left', Option.some.injEq, reduceCtorEq, not_false_eq_true, not_true_eq_false, ne_eq, V.ofValue, V.ofScalar, V.un, V.gd, guardV, List.getElem?_toArray, List.getElem?_cons_succ, List.getElem?_cons_zero, Option.bind_some, V.wrap, aop, aLoad, row_mk, Blk.row, PartOK, Go.Vm.part, V.cells, V.noSl, V.noRef, Nat.zero_lt_one, Nat.lt_add_one, Nat.zero_add, Nat.add_zero, Nat.reduceAdd, Nat.reduceLeDiff, Nat.reduceLT, Nat.reduceMul, Nat.le_refl, Nat.zero_lt_succ, List.getElem?_toArray, List.getElem?_cons_succ, List.getElem?_cons_zero, List.getD_cons_zero, List.getD_cons_succ, List.length_cons, List.length_nil, List.drop_zero, List.drop_succ_cons, List.headD_cons, List.take_succ_cons, List.take_zero, List.take_nil, List.drop_nil, List.map_cons, List.map_nil, Option.bind_some, Option.isSome_some, Option.map_some, Bool.or_false, Bool.false_or, Bool.or_true, Bool.true_or, Bool.not_true, Bool.not_false, Bool.and_false, Bool.and_true, Bool.false_and, Bool.true_and, decide_true, decide_false, Bool.or_self, Bool.and_self, Try.underlying3, Ty.c3, Ty.a3]
    repeat (refine And.intro (by first | omega | (intros; omega) | (intros; simp_all; done) | (intros; simp_all; omega)) ?_)
    refine k _ ?_; clear k K
  -- 14 := call v f58 t13 c<0:i64> c<5:i64> | 3 3 3
  first
  | refine v_pass 14 8 true rfl (show 14 < 16 by decide) rfl ?_ ?_
    · first | rfl | (simp only [guardV, List.getElem?_toArray, List.getElem?_cons_succ, List.getElem?_cons_zero, Option.bind_some, get_mk, look_cons, Nat.reduceEqDiff, reduceIte, cond_true, cond_false, Bool.and_false, Bool.false_and, Bool.not_true, Bool.not_false]; done)
    simp only [get_mk, look_cons, look_nil, set_some, set_none, ev_tmp, ev_const, ev_func, Nat.reduceEqDiff, reduceIte]
  | skip
    -- 14 := call v f58 t13 c<0:i64> c<5:i64> | 3 3 3
    refine v_op ?_; intro K k
    simp only [aStepM, optable, get_mk, look_cons, look_nil, set_some, set_none, ev_tmp, ev_const, ev_func, Nat.reduceEqDiff, reduceIte, dst_some, dst_none, Nat.reduceLT, List.append_nil, List.nil_append, true_and, and_true, and_self, implies_true, forall_const, imp_self, Bool.false_eq_true, false_implies, cond_true, cond_false, decide_eq_true_eq, eq_self_iff_true, exists_eq_left', Option.some.injEq, reduceCtorEq, not_false_eq_true, not_true_eq_false, ne_eq, V.ofValue, V.ofScalar, V.un, V.gd, guardV, List.getElem?_toArray, List.getElem?_cons_succ, List.getElem?_cons_zero, Option.bind_some, Try.underlying3, Ty.c3, Ty.a3, Ty.b3, Ty.s3, Try.underlying4, Ty.c4, Ty.a4, Ty.b4, Ty.s4]
    simp only [aExec, lentIds, lendOf, get_mk, look_cons, look_nil, set_some, set_none, ev_tmp, ev_const, ev_func, Nat.reduceEqDiff, reduceIte, V.ofValue, V.ofScalar, V.un, V.gd, List.map_cons, List.map_nil, List.append_nil, List.filterMap_nil, List.mem_cons, List.not_mem_nil, or_false, forall_eq_or_imp, forall_eq, and_true, true_and, false_implies, implies_true, and_self, decide_eq_true_eq]
    refine Exists.imp (fun r h => h) (aCall_guard (by first | (intros; trivial) | (intros; simp_all; done)) (fun hg => inside_con _ _ _) rfl rfl rfl ?_)
    refine k _ ?_
    clear k K
  -- 15 := pick t11 t14 c<false>
  refine v_op ?_; intro K k
  simp only [aStepM, optable, get_mk, look_cons, look_nil, set_some, set_none, ev_tmp, ev_const, ev_func, Nat.reduceEqDiff, reduceIte, dst_some, dst_none, Nat.reduceLT, List.append_nil, List.nil_append, true_and, and_true, and_self, implies_true, forall_const, imp_self, Bool.false_eq_true, false_implies, cond_true, cond_false, decide_eq_true_eq, eq_self_iff_true, exists_eq_left', Option.some.injEq, reduceCtorEq, not_false_eq_true, not_true_eq_false, ne_eq, V.ofValue, V.ofScalar, V.un, V.gd, aExec, aop, pickV, Bool.cond_true_right, Bool.cond_true_left, Bool.cond_false_right, Bool.cond_false_left]
  repeat (refine And.intro (by first | omega | (intros; omega) | (intros; simp_all; done) | (intros; simp_all; omega)) ?_)
  refine k _ ?_; clear k K
  -- 2 := assign t15
  refine v_op ?_; intro K k
  simp only [aStepM, optable, get_mk, look_cons, look_nil, set_some, set_none, ev_tmp, ev_const, ev_func, Nat.reduceEqDiff, reduceIte, dst_some, dst_none, Nat.reduceLT, List.append_nil, List.nil_append, true_and, and_true, and_self, implies_true, forall_const, imp_self, Bool.false_eq_true, false_implies, cond_true, cond_false, decide_eq_true_eq, eq_self_iff_true, exists_eq_left', Option.some.injEq, reduceCtorEq, not_false_eq_true, not_true_eq_false, ne_eq, V.ofValue, V.ofScalar, V.un, V.gd, aExec, aop, settle_int, settle_bool, settle_str, settle_nsl, settle_sl, settle_ref, settle_sub, settle_ptr, settle_pv, settle_tup, settle_fn, settle_npt, settle_agg, settleL_nil, settleL_nsl, settleL_int, settleL_bool, settleL_str, settleL_sl, settleL_ref, List.length_nil, List.length_cons, List.length_append, Nat.reduceAdd, Nat.zero_add, Nat.add_zero, List.cons_append]
  repeat (refine And.intro (by first | omega | (intros; omega) | (intros; simp_all; done) | (intros; simp_all; omega)) ?_)
  refine k _ ?_; clear k K
  refine k4 _ ?_
  refine n3 _ _ (weak_keep [2] _) ?_
  simp only [keep_mk, keepE_nil, keepE_cons, look_cons, look_nil, Nat.reduceEqDiff, reduceIte]
  refine v_ret ?_
  refine r0 _ ?_
  simp only [resK, pickRV, get_mk, look_cons, look_nil, Nat.reduceEqDiff, reduceIte, List.map_cons, List.map_nil]
  exact ret_pure rfl (by first | rfl | simp [dutyB, Bool.and_assoc]) (.inl rfl)
-- loop.example/g01020/spec.IsDuty
set_option maxHeartbeats 1000000 in
theorem specIsDuty_con (a b c : Int) : Con Try.prog 10 [.agg [.int .i64 a, .int .i64 b, .int .i64 c]] [] (.bool (dutyB a b c)) [] := by
  refine v_con [.tmp 2] [] Try.func10 rfl rfl rfl (by simp [Try.ntmps10]) ?_
  intro Q0 n0 r0
  simp only [Try.ntmps10, envFrom, Nat.reduceAdd]
  refine v_seq ?_; intro Q1 n1 e1 r1
  refine v_region ?_; intro K2 k2
  -- 1 := box 25 t0
  refine v_op ?_; intro K k
  simp only [aStepM, optable, get_mk, look_cons, look_nil, set_some, set_none, ev_tmp, ev_const, ev_func, Nat.reduceEqDiff, reduceIte, dst_some, dst_none, Nat.reduceLT, List.append_nil, List.nil_append, true_and, and_true, and_self, implies_true, forall_const, imp_self, Bool.false_eq_true, false_implies, cond_true, cond_false, decide_eq_true_eq, eq_self_iff_true, exists_eq_left', Option.some.injEq, reduceCtorEq, not_false_eq_true, not_true_eq_false, ne_eq, V.ofValue, V.ofScalar, V.un, V.gd, aExec, aop, settle_int, settle_bool, settle_str, settle_nsl, settle_sl, settle_ref, settle_sub, settle_ptr, settle_pv, settle_tup, settle_fn, settle_npt, settle_agg, settleL_nil, settleL_nsl, settleL_int, settleL_bool, settleL_str, settleL_sl, settleL_ref, List.length_nil, List.length_cons, List.length_append, Nat.reduceAdd, Nat.zero_add, Nat.add_zero, List.cons_append, V.isVal, V.cells, kindOf, kindAll, V.noSl, V.noRef, List.all_cons, List.all_nil, List.length_map, gt_iff_lt, Bool.or_false, Bool.false_or, Bool.or_true, Bool.true_or, Bool.not_true, Bool.not_false, Bool.and_false, Bool.and_true, Bool.false_and, Bool.true_and, decide_true, decide_false, Bool.or_self, Bool.and_self, Nat.zero_lt_one, Nat.lt_add_one, Nat.zero_add, Nat.add_zero, Nat.reduceAdd, Nat.reduceLeDiff, Nat.reduceLT, Nat.reduceMul, Nat.le_refl, Nat.zero_lt_succ, Try.underlying3, Ty.c3, Ty.a3, Try.underlying25, Ty.c25, Ty.a25]
  repeat (refine And.intro (by first | omega | (intros; omega) | (intros; simp_all; done) | (intros; simp_all; omega)) ?_)
  refine k _ ?_; clear k K
  -- 2 := assign c<false>
  refine v_op ?_; intro K k
  simp only [aStepM, optable, get_mk, look_cons, look_nil, set_some, set_none, ev_tmp, ev_const, ev_func, Nat.reduceEqDiff, reduceIte, dst_some, dst_none, Nat.reduceLT, List.append_nil, List.nil_append, true_and, and_true, and_self, implies_true, forall_const, imp_self, Bool.false_eq_true, false_implies, cond_true, cond_false, decide_eq_true_eq, eq_self_iff_true, exists_eq_left', Option.some.injEq, reduceCtorEq, not_false_eq_true, not_true_eq_false, ne_eq, V.ofValue, V.ofScalar, V.un, V.gd, aExec, aop, settle_int, settle_bool, settle_str, settle_nsl, settle_sl, settle_ref, settle_sub, settle_ptr, settle_pv, settle_tup, settle_fn, settle_npt, settle_agg, settleL_nil, settleL_nsl, settleL_int, settleL_bool, settleL_str, settleL_sl, settleL_ref, List.length_nil, List.length_cons, List.length_append, Nat.reduceAdd, Nat.zero_add, Nat.add_zero, List.cons_append]
  repeat (refine And.intro (by first | omega | (intros; omega) | (intros; simp_all; done) | (intros; simp_all; omega)) ?_)
  refine k _ ?_; clear k K
  refine k2 _ ?_
  refine n1 _ _ (weak_keep [1] _) ?_
  simp only [keep_mk, keepE_nil, keepE_cons, look_cons, look_nil, Nat.reduceEqDiff, reduceIte]
  refine v_seq ?_; intro Q3 n3 e3 r3
  refine v_region ?_; intro K4 k4
  -- 3 := load 25 t1
  refine v_op ?_; intro K k
  simp only [aStepM, optable, get_mk, look_cons, look_nil, set_some, set_none, ev_tmp, ev_const, ev_func, Nat.reduceEqDiff, reduceIte, dst_some, dst_none, Nat.reduceLT, List.append_nil, List.nil_append, true_and, and_true, and_self, implies_true, forall_const, imp_self, Bool.false_eq_true, false_implies, cond_true, cond_false, decide_eq_true_eq, eq_self_iff_true, exists_eq_left', Option.some.injEq, reduceCtorEq, not_false_eq_true, not_true_eq_false, ne_eq, V.ofValue, V.ofScalar, V.un, V.gd, aExec, aop, aLoad, row_mk, Blk.row, PartOK, Go.Vm.part, V.cells, V.noSl, V.noRef, Nat.zero_lt_one, Nat.lt_add_one, Nat.zero_add, Nat.add_zero, Nat.reduceAdd, Nat.reduceLeDiff, Nat.reduceLT, Nat.reduceMul, Nat.le_refl, Nat.zero_lt_succ, List.getElem?_toArray, List.getElem?_cons_succ, List.getElem?_cons_zero, List.getD_cons_zero, List.getD_cons_succ, List.length_cons, List.length_nil, List.drop_zero, List.drop_succ_cons, List.headD_cons, List.take_succ_cons, List.take_zero, List.take_nil, List.drop_nil, List.map_cons, List.map_nil, Option.bind_some, Option.isSome_some, Option.map_some, Bool.or_false, Bool.false_or, Bool.or_true, Bool.true_or, Bool.not_true, Bool.not_false, Bool.and_false, Bool.and_true, Bool.false_and, Bool.true_and, decide_true, decide_false, Bool.or_self, Bool.and_self, Try.underlying3, Ty.c3, Ty.a3, Try.underlying25, Ty.c25, Ty.a25]
  repeat (refine And.intro (by first | omega | (intros; omega) | (intros; simp_all; done) | (intros; simp_all; omega)) ?_)
  refine k _ ?_; clear k K
  -- 4 := call v f36 t3 | 25
  refine v_op ?_; intro K k
  simp only [aStepM, optable, get_mk, look_cons, look_nil, set_some, set_none, ev_tmp, ev_const, ev_func, Nat.reduceEqDiff, reduceIte, dst_some, dst_none, Nat.reduceLT, List.append_nil, List.nil_append, true_and, and_true, and_self, implies_true, forall_const, imp_self, Bool.false_eq_true, false_implies, cond_true, cond_false, decide_eq_true_eq, eq_self_iff_true, exists_eq_left', Option.some.injEq, reduceCtorEq, not_false_eq_true, not_true_eq_false, ne_eq, V.ofValue, V.ofScalar, V.un, V.gd, aExec, lentIds, lendOf, List.map_cons, List.map_nil, List.append_nil, List.filterMap_nil, List.mem_cons, List.not_mem_nil, or_false, forall_eq_or_imp, forall_eq, false_implies, Try.underlying3, Ty.c3, Ty.a3, Ty.b3, Ty.s3, Try.underlying4, Ty.c4, Ty.a4, Ty.b4, Ty.s4, Try.underlying25, Ty.c25, Ty.a25, Ty.b25, Ty.s25]
  repeat (refine And.intro (by first | rfl | (intros; simp_all; done)) ?_)
  refine aCall_new (duGood_con _ _ _) (by first | rfl | simp only [toArgs, toArg, toCell, toCells, idx, row_mk, List.getElem?_cons_zero, List.getElem?_cons_succ, Option.bind_some, Blk.row, fillK_mix, cond_true]) (by first | exact .inl ⟨rfl, by simp [Blk.kindIs, fillK_fd]⟩ | exact .inr (by simp [V.cold])) ?_
  refine k _ ?_; clear k K
  simp only [get_mk, look_cons, look_nil, set_some, set_none, ev_tmp, ev_const, ev_func, Nat.reduceEqDiff, reduceIte, V.ren, V.renL, List.append_nil, List.cons_append, List.nil_append, rho, List.length_nil, List.length_cons, Nat.reduceAdd, Nat.zero_add, Nat.not_lt_zero, if_false, Nat.sub_zero]
  -- 2 := assign t4
  refine v_op ?_; intro K k
  simp only [aStepM, optable, get_mk, look_cons, look_nil, set_some, set_none, ev_tmp, ev_const, ev_func, Nat.reduceEqDiff, reduceIte, dst_some, dst_none, Nat.reduceLT, List.append_nil, List.nil_append, true_and, and_true, and_self, implies_true, forall_const, imp_self, Bool.false_eq_true, false_implies, cond_true, cond_false, decide_eq_true_eq, eq_self_iff_true, exists_eq_left', Option.some.injEq, reduceCtorEq, not_false_eq_true, not_true_eq_false, ne_eq, V.ofValue, V.ofScalar, V.un, V.gd, aExec, aop, settle_int, settle_bool, settle_str, settle_nsl, settle_sl, settle_ref, settle_sub, settle_ptr, settle_pv, settle_tup, settle_fn, settle_npt, settle_agg, settleL_nil, settleL_nsl, settleL_int, settleL_bool, settleL_str, settleL_sl, settleL_ref, List.length_nil, List.length_cons, List.length_append, Nat.reduceAdd, Nat.zero_add, Nat.add_zero, List.cons_append]
  repeat (refine And.intro (by first | omega | (intros; omega) | (intros; simp_all; done) | (intros; simp_all; omega)) ?_)
  refine k _ ?_; clear k K
  refine k4 _ ?_
  refine n3 _ _ (weak_keep [2] _) ?_
  simp only [keep_mk, keepE_nil, keepE_cons, look_cons, look_nil, Nat.reduceEqDiff, reduceIte]
  refine v_ret ?_
  refine r0 _ ?_
  simp only [resK, pickRV, get_mk, look_cons, look_nil, Nat.reduceEqDiff, reduceIte, List.map_cons, List.map_nil]
  exact ret_pure rfl (by first | rfl | simp [dutyB, Bool.and_assoc]) (.inl rfl)
-- loop.example/g01020/impl.IsDuty
set_option maxHeartbeats 1000000 in
theorem implIsDuty_con (a b c : Int) : Con Try.prog 12 [.agg [.int .i64 a, .int .i64 b, .int .i64 c]] [] (.bool (dutyB a b c)) [] := by
  refine v_con [.tmp 2] [] Try.func12 rfl rfl rfl (by simp [Try.ntmps12]) ?_
  intro Q0 n0 r0
  simp only [Try.ntmps12, envFrom, Nat.reduceAdd]
  refine v_seq ?_; intro Q1 n1 e1 r1
  refine v_region ?_; intro K2 k2
  -- 1 := box 25 t0
  refine v_op ?_; intro K k
  simp only [aStepM, optable, get_mk, look_cons, look_nil, set_some, set_none, ev_tmp, ev_const, ev_func, Nat.reduceEqDiff, reduceIte, dst_some, dst_none, Nat.reduceLT, List.append_nil, List.nil_append, true_and, and_true, and_self, implies_true, forall_const, imp_self, Bool.false_eq_true, false_implies, cond_true, cond_false, decide_eq_true_eq, eq_self_iff_true, exists_eq_left', Option.some.injEq, reduceCtorEq, not_false_eq_true, not_true_eq_false, ne_eq, V.ofValue, V.ofScalar, V.un, V.gd, aExec, aop, settle_int, settle_bool, settle_str, settle_nsl, settle_sl, settle_ref, settle_sub, settle_ptr, settle_pv, settle_tup, settle_fn, settle_npt, settle_agg, settleL_nil, settleL_nsl, settleL_int, settleL_bool, settleL_str, settleL_sl, settleL_ref, List.length_nil, List.length_cons, List.length_append, Nat.reduceAdd, Nat.zero_add, Nat.add_zero, List.cons_append, V.isVal, V.cells, kindOf, kindAll, V.noSl, V.noRef, List.all_cons, List.all_nil, List.length_map, gt_iff_lt, Bool.or_false, Bool.false_or, Bool.or_true, Bool.true_or, Bool.not_true, Bool.not_false, Bool.and_false, Bool.and_true, Bool.false_and, Bool.true_and, decide_true, decide_false, Bool.or_self, Bool.and_self, Nat.zero_lt_one, Nat.lt_add_one, Nat.zero_add, Nat.add_zero, Nat.reduceAdd, Nat.reduceLeDiff, Nat.reduceLT, Nat.reduceMul, Nat.le_refl, Nat.zero_lt_succ, Try.underlying3, Ty.c3, Ty.a3, Try.underlying25, Ty.c25, Ty.a25]
  repeat (refine And.intro (by first | omega | (intros; omega) | (intros; simp_all; done) | (intros; simp_all; omega)) ?_)
  refine k _ ?_; clear k K
  -- 2 := assign c<false>
  refine v_op ?_; intro K k
  simp only [aStepM, optable, get_mk, look_cons, look_nil, set_some, set_none, ev_tmp, ev_const, ev_func, Nat.reduceEqDiff, reduceIte, dst_some, dst_none, Nat.reduceLT, List.append_nil, List.nil_append, true_and, and_true, and_self, implies_true, forall_const, imp_self, Bool.false_eq_true, false_implies, cond_true, cond_false, decide_eq_true_eq, eq_self_iff_true, exists_eq_left', Option.some.injEq, reduceCtorEq, not_false_eq_true, not_true_eq_false, ne_eq, V.ofValue, V.ofScalar, V.un, V.gd, aExec, aop, settle_int, settle_bool, settle_str, settle_nsl, settle_sl, settle_ref, settle_sub, settle_ptr, settle_pv, settle_tup, settle_fn, settle_npt, settle_agg, settleL_nil, settleL_nsl, settleL_int, settleL_bool, settleL_str, settleL_sl, settleL_ref, List.length_nil, List.length_cons, List.length_append, Nat.reduceAdd, Nat.zero_add, Nat.add_zero, List.cons_append]
  repeat (refine And.intro (by first | omega | (intros; omega) | (intros; simp_all; done) | (intros; simp_all; omega)) ?_)
  refine k _ ?_; clear k K
  refine k2 _ ?_
  refine n1 _ _ (weak_keep [1] _) ?_
  simp only [keep_mk, keepE_nil, keepE_cons, look_cons, look_nil, Nat.reduceEqDiff, reduceIte]
  refine v_seq ?_; intro Q3 n3 e3 r3
  refine v_region ?_; intro K4 k4
  -- 3 := load 25 t1
  refine v_op ?_; intro K k
  simp only [aStepM, optable, get_mk, look_cons, look_nil, set_some, set_none, ev_tmp, ev_const, ev_func, Nat.reduceEqDiff, reduceIte, dst_some, dst_none, Nat.reduceLT, List.append_nil, List.nil_append, true_and, and_true, and_self, implies_true, forall_const, imp_self, Bool.false_eq_true, false_implies, cond_true, cond_false, decide_eq_true_eq, eq_self_iff_true, exists_eq_left', Option.some.injEq, reduceCtorEq, not_false_eq_true, not_true_eq_false, ne_eq, V.ofValue, V.ofScalar, V.un, V.gd, aExec, aop, aLoad, row_mk, Blk.row, PartOK, Go.Vm.part, V.cells, V.noSl, V.noRef, Nat.zero_lt_one, Nat.lt_add_one, Nat.zero_add, Nat.add_zero, Nat.reduceAdd, Nat.reduceLeDiff, Nat.reduceLT, Nat.reduceMul, Nat.le_refl, Nat.zero_lt_succ, List.getElem?_toArray, List.getElem?_cons_succ, List.getElem?_cons_zero, List.getD_cons_zero, List.getD_cons_succ, List.length_cons, List.length_nil, List.drop_zero, List.drop_succ_cons, List.headD_cons, List.take_succ_cons, List.take_zero, List.take_nil, List.drop_nil, List.map_cons, List.map_nil, Option.bind_some, Option.isSome_some, Option.map_some, Bool.or_false, Bool.false_or, Bool.or_true, Bool.true_or, Bool.not_true, Bool.not_false, Bool.and_false, Bool.and_true, Bool.false_and, Bool.true_and, decide_true, decide_false, Bool.or_self, Bool.and_self, Try.underlying3, Ty.c3, Ty.a3, Try.underlying25, Ty.c25, Ty.a25]
  repeat (refine And.intro (by first | omega | (intros; omega) | (intros; simp_all; done) | (intros; simp_all; omega)) ?_)
  refine k _ ?_; clear k K
  -- 4 := call v f37 t3 | 25
  refine v_op ?_; intro K k
  simp only [aStepM, optable, get_mk, look_cons, look_nil, set_some, set_none, ev_tmp, ev_const, ev_func, Nat.reduceEqDiff, reduceIte, dst_some, dst_none, Nat.reduceLT, List.append_nil, List.nil_append, true_and, and_true, and_self, implies_true, forall_const, imp_self, Bool.false_eq_true, false_implies, cond_true, cond_false, decide_eq_true_eq, eq_self_iff_true, exists_eq_left', Option.some.injEq, reduceCtorEq, not_false_eq_true, not_true_eq_false, ne_eq, V.ofValue, V.ofScalar, V.un, V.gd, aExec, lentIds, lendOf, List.map_cons, List.map_nil, List.append_nil, List.filterMap_nil, List.mem_cons, List.not_mem_nil, or_false, forall_eq_or_imp, forall_eq, false_implies, Try.underlying3, Ty.c3, Ty.a3, Ty.b3, Ty.s3, Try.underlying4, Ty.c4, Ty.a4, Ty.b4, Ty.s4, Try.underlying25, Ty.c25, Ty.a25, Ty.b25, Ty.s25]
  repeat (refine And.intro (by first | rfl | (intros; simp_all; done)) ?_)
  refine aCall_new (isDuty_con _ _ _) (by first | rfl | simp only [toArgs, toArg, toCell, toCells, idx, row_mk, List.getElem?_cons_zero, List.getElem?_cons_succ, Option.bind_some, Blk.row, fillK_mix, cond_true]) (by first | exact .inl ⟨rfl, by simp [Blk.kindIs, fillK_fd]⟩ | exact .inr (by simp [V.cold])) ?_
  refine k _ ?_; clear k K
  simp only [get_mk, look_cons, look_nil, set_some, set_none, ev_tmp, ev_const, ev_func, Nat.reduceEqDiff, reduceIte, V.ren, V.renL, List.append_nil, List.cons_append, List.nil_append, rho, List.length_nil, List.length_cons, Nat.reduceAdd, Nat.zero_add, Nat.not_lt_zero, if_false, Nat.sub_zero]
  -- 2 := assign t4
  refine v_op ?_; intro K k
  simp only [aStepM, optable, get_mk, look_cons, look_nil, set_some, set_none, ev_tmp, ev_const, ev_func, Nat.reduceEqDiff, reduceIte, dst_some, dst_none, Nat.reduceLT, List.append_nil, List.nil_append, true_and, and_true, and_self, implies_true, forall_const, imp_self, Bool.false_eq_true, false_implies, cond_true, cond_false, decide_eq_true_eq, eq_self_iff_true, exists_eq_left', Option.some.injEq, reduceCtorEq, not_false_eq_true, not_true_eq_false, ne_eq, V.ofValue, V.ofScalar, V.un, V.gd, aExec, aop, settle_int, settle_bool, settle_str, settle_nsl, settle_sl, settle_ref, settle_sub, settle_ptr, settle_pv, settle_tup, settle_fn, settle_npt, settle_agg, settleL_nil, settleL_nsl, settleL_int, settleL_bool, settleL_str, settleL_sl, settleL_ref, List.length_nil, List.length_cons, List.length_append, Nat.reduceAdd, Nat.zero_add, Nat.add_zero, List.cons_append]
  repeat (refine And.intro (by first | omega | (intros; omega) | (intros; simp_all; done) | (intros; simp_all; omega)) ?_)
  refine k _ ?_; clear k K
  refine k4 _ ?_
  refine n3 _ _ (weak_keep [2] _) ?_
  simp only [keep_mk, keepE_nil, keepE_cons, look_cons, look_nil, Nat.reduceEqDiff, reduceIte]
  refine v_ret ?_
  refine r0 _ ?_
  simp only [resK, pickRV, get_mk, look_cons, look_nil, Nat.reduceEqDiff, reduceIte, List.map_cons, List.map_nil]
  exact ret_pure rfl (by first | rfl | simp [dutyB, Bool.and_assoc]) (.inl rfl)
-- loop.example/g01020/laws.toDuty
set_option maxHeartbeats 1000000 in
theorem toDuty_con (a b c : Int) : Con Try.prog 11 [.agg [.int .i64 a, .int .i64 b, .int .i64 c]] [] (.agg [.int .i64 a, .int .i64 b, .int .i64 c]) [] := by
  refine v_con [.cell 2 25] [] Try.func11 rfl rfl rfl (by simp [Try.ntmps11]) ?_
  intro Q0 n0 r0
  simp only [Try.ntmps11, envFrom, Nat.reduceAdd]
  refine v_seq ?_; intro Q1 n1 e1 r1
  refine v_region ?_; intro K2 k2
  -- 1 := box 23 t0
  refine v_op ?_; intro K k
  simp only [aStepM, optable, get_mk, look_cons, look_nil, set_some, set_none, ev_tmp, ev_const, ev_func, Nat.reduceEqDiff, reduceIte, dst_some, dst_none, Nat.reduceLT, List.append_nil, List.nil_append, true_and, and_true, and_self, implies_true, forall_const, imp_self, Bool.false_eq_true, false_implies, cond_true, cond_false, decide_eq_true_eq, eq_self_iff_true, exists_eq_left', Option.some.injEq, reduceCtorEq, not_false_eq_true, not_true_eq_false, ne_eq, V.ofValue, V.ofScalar, V.un, V.gd, aExec, aop, settle_int, settle_bool, settle_str, settle_nsl, settle_sl, settle_ref, settle_sub, settle_ptr, settle_pv, settle_tup, settle_fn, settle_npt, settle_agg, settleL_nil, settleL_nsl, settleL_int, settleL_bool, settleL_str, settleL_sl, settleL_ref, List.length_nil, List.length_cons, List.length_append, Nat.reduceAdd, Nat.zero_add, Nat.add_zero, List.cons_append, V.isVal, V.cells, kindOf, kindAll, V.noSl, V.noRef, List.all_cons, List.all_nil, List.length_map, gt_iff_lt, Bool.or_false, Bool.false_or, Bool.or_true, Bool.true_or, Bool.not_true, Bool.not_false, Bool.and_false, Bool.and_true, Bool.false_and, Bool.true_and, decide_true, decide_false, Bool.or_self, Bool.and_self, Nat.zero_lt_one, Nat.lt_add_one, Nat.zero_add, Nat.add_zero, Nat.reduceAdd, Nat.reduceLeDiff, Nat.reduceLT, Nat.reduceMul, Nat.le_refl, Nat.zero_lt_succ, Try.underlying3, Ty.c3, Ty.a3, Try.underlying23, Ty.c23, Ty.a23]
  repeat (refine And.intro (by first | omega | (intros; omega) | (intros; simp_all; done) | (intros; simp_all; omega)) ?_)
  refine k _ ?_; clear k K
  -- 2 := alloc 25
  refine v_op ?_; intro K k
  simp only [aStepM, optable, get_mk, look_cons, look_nil, set_some, set_none, ev_tmp, ev_const, ev_func, Nat.reduceEqDiff, reduceIte, dst_some, dst_none, Nat.reduceLT, List.append_nil, List.nil_append, true_and, and_true, and_self, implies_true, forall_const, imp_self, Bool.false_eq_true, false_implies, cond_true, cond_false, decide_eq_true_eq, eq_self_iff_true, exists_eq_left', Option.some.injEq, reduceCtorEq, not_false_eq_true, not_true_eq_false, ne_eq, V.ofValue, V.ofScalar, V.un, V.gd, aExec, aop, settle_int, settle_bool, settle_str, settle_nsl, settle_sl, settle_ref, settle_sub, settle_ptr, settle_pv, settle_tup, settle_fn, settle_npt, settle_agg, settleL_nil, settleL_nsl, settleL_int, settleL_bool, settleL_str, settleL_sl, settleL_ref, List.length_nil, List.length_cons, List.length_append, Nat.reduceAdd, Nat.zero_add, Nat.add_zero, List.cons_append, Value.oneCell', V.isVal, V.cells, kindOf, kindAll, V.noSl, V.noRef, List.all_cons, List.all_nil, List.map_cons, List.map_nil, gt_iff_lt, Bool.or_false, Bool.false_or, Bool.or_true, Bool.true_or, Bool.not_true, Bool.not_false, Bool.and_false, Bool.and_true, Bool.false_and, Bool.true_and, decide_true, decide_false, Bool.or_self, Bool.and_self, Nat.zero_lt_one, Nat.lt_add_one, Nat.zero_add, Nat.add_zero, Nat.reduceAdd, Nat.reduceLeDiff, Nat.reduceLT, Nat.reduceMul, Nat.le_refl, Nat.zero_lt_succ, Try.underlying3, Ty.c3, Ty.a3, Ty.z3, Try.underlying25, Ty.c25, Ty.a25, Ty.z25]
  repeat (refine And.intro (by first | omega | (intros; omega) | (intros; simp_all; done) | (intros; simp_all; omega)) ?_)
  refine k _ ?_; clear k K
  refine k2 _ ?_
  refine n1 _ _ (weak_keep [1, 2] _) ?_
  simp only [keep_mk, keepE_nil, keepE_cons, look_cons, look_nil, Nat.reduceEqDiff, reduceIte]
  refine v_seq ?_; intro Q3 n3 e3 r3
  refine v_region ?_; intro K4 k4
  -- 3 := alloc 25
  refine v_op ?_; intro K k
  simp only [aStepM, optable, get_mk, look_cons, look_nil, set_some, set_none, ev_tmp, ev_const, ev_func, Nat.reduceEqDiff, reduceIte, dst_some, dst_none, Nat.reduceLT, List.append_nil, List.nil_append, true_and, and_true, and_self, implies_true, forall_const, imp_self, Bool.false_eq_true, false_implies, cond_true, cond_false, decide_eq_true_eq, eq_self_iff_true, exists_eq_left', Option.some.injEq, reduceCtorEq, not_false_eq_true, not_true_eq_false, ne_eq, V.ofValue, V.ofScalar, V.un, V.gd, aExec, aop, settle_int, settle_bool, settle_str, settle_nsl, settle_sl, settle_ref, settle_sub, settle_ptr, settle_pv, settle_tup, settle_fn, settle_npt, settle_agg, settleL_nil, settleL_nsl, settleL_int, settleL_bool, settleL_str, settleL_sl, settleL_ref, List.length_nil, List.length_cons, List.length_append, Nat.reduceAdd, Nat.zero_add, Nat.add_zero, List.cons_append, Value.oneCell', V.isVal, V.cells, kindOf, kindAll, V.noSl, V.noRef, List.all_cons, List.all_nil, List.map_cons, List.map_nil, gt_iff_lt, Bool.or_false, Bool.false_or, Bool.or_true, Bool.true_or, Bool.not_true, Bool.not_false, Bool.and_false, Bool.and_true, Bool.false_and, Bool.true_and, decide_true, decide_false, Bool.or_self, Bool.and_self, Nat.zero_lt_one, Nat.lt_add_one, Nat.zero_add, Nat.add_zero, Nat.reduceAdd, Nat.reduceLeDiff, Nat.reduceLT, Nat.reduceMul, Nat.le_refl, Nat.zero_lt_succ, Try.underlying3, Ty.c3, Ty.a3, Ty.z3, Try.underlying25, Ty.c25, Ty.a25, Ty.z25]
  repeat (refine And.intro (by first | omega | (intros; omega) | (intros; simp_all; done) | (intros; simp_all; omega)) ?_)
  refine k _ ?_; clear k K
  refine k4 _ ?_
  refine n3 _ _ (weak_keep [1, 2, 3] _) ?_
  simp only [keep_mk, keepE_nil, keepE_cons, look_cons, look_nil, Nat.reduceEqDiff, reduceIte]
  refine v_seq ?_; intro Q5 n5 e5 r5
  refine v_region ?_; intro K6 k6
  -- 4 := fieldAddr 23 t1 0
  refine v_op ?_; intro K k
  simp only [aStepM, optable, get_mk, look_cons, look_nil, set_some, set_none, ev_tmp, ev_const, ev_func, Nat.reduceEqDiff, reduceIte, dst_some, dst_none, Nat.reduceLT, List.append_nil, List.nil_append, true_and, and_true, and_self, implies_true, forall_const, imp_self, Bool.false_eq_true, false_implies, cond_true, cond_false, decide_eq_true_eq, eq_self_iff_true, exists_eq_left', Option.some.injEq, reduceCtorEq, not_false_eq_true, not_true_eq_false, ne_eq, V.ofValue, V.ofScalar, V.un, V.gd, aExec, aop, aFieldAddr, List.getElem?_toArray, List.getElem?_cons_succ, List.getElem?_cons_zero, List.getD_cons_zero, List.getD_cons_succ, List.length_cons, List.length_nil, List.drop_zero, List.drop_succ_cons, List.headD_cons, List.take_succ_cons, List.take_zero, List.take_nil, List.drop_nil, List.map_cons, List.map_nil, Option.bind_some, Option.isSome_some, Option.map_some, Nat.zero_lt_one, Nat.lt_add_one, Nat.zero_add, Nat.add_zero, Nat.reduceAdd, Nat.reduceLeDiff, Nat.reduceLT, Nat.reduceMul, Nat.le_refl, Nat.zero_lt_succ, Try.underlying3, Ty.c3, Ty.a3, Try.underlying23, Ty.c23, Ty.a23]
  repeat (refine And.intro (by first | omega | (intros; omega) | (intros; simp_all; done) | (intros; simp_all; omega)) ?_)
  refine k _ ?_; clear k K
  -- 5 := load 3 t4
  refine v_op ?_; intro K k
  simp only [aStepM, optable, get_mk, look_cons, look_nil, set_some, set_none, ev_tmp, ev_const, ev_func, Nat.reduceEqDiff, reduceIte, dst_some, dst_none, Nat.reduceLT, List.append_nil, List.nil_append, true_and, and_true, and_self, implies_true, forall_const, imp_self, Bool.false_eq_true, false_implies, cond_true, cond_false, decide_eq_true_eq, eq_self_iff_true, exists_eq_left', Option.some.injEq, reduceCtorEq, not_false_eq_true, not_true_eq_false, ne_eq, V.ofValue, V.ofScalar, V.un, V.gd, aExec, aop, aLoad, row_mk, Blk.row, PartOK, Go.Vm.part, V.cells, V.noSl, V.noRef, Nat.zero_lt_one, Nat.lt_add_one, Nat.zero_add, Nat.add_zero, Nat.reduceAdd, Nat.reduceLeDiff, Nat.reduceLT, Nat.reduceMul, Nat.le_refl, Nat.zero_lt_succ, List.getElem?_toArray, List.getElem?_cons_succ, List.getElem?_cons_zero, List.getD_cons_zero, List.getD_cons_succ, List.length_cons, List.length_nil, List.drop_zero, List.drop_succ_cons, List.headD_cons, List.take_succ_cons, List.take_zero, List.take_nil, List.drop_nil, List.map_cons, List.map_nil, Option.bind_some, Option.isSome_some, Option.map_some, Bool.or_false, Bool.false_or, Bool.or_true, Bool.true_or, Bool.not_true, Bool.not_false, Bool.and_false, Bool.and_true, Bool.false_and, Bool.true_and, decide_true, decide_false, Bool.or_self, Bool.and_self, Try.underlying3, Ty.c3, Ty.a3]
  repeat (refine And.intro (by first | omega | (intros; omega) | (intros; simp_all; done) | (intros; simp_all; omega)) ?_)
  refine k _ ?_; clear k K
  -- 6 := fieldAddr 25 t3 0
  refine v_op ?_; intro K k
  simp only [aStepM, optable, get_mk, look_cons, look_nil, set_some, set_none, ev_tmp, ev_const, ev_func, Nat.reduceEqDiff, reduceIte, dst_some, dst_none, Nat.reduceLT, List.append_nil, List.nil_append, true_and, and_true, and_self, implies_true, forall_const, imp_self, Bool.false_eq_true, false_implies, cond_true, cond_false, decide_eq_true_eq, eq_self_iff_true, exists_eq_left', Option.some.injEq, reduceCtorEq, not_false_eq_true, not_true_eq_false, ne_eq, V.ofValue, V.ofScalar, V.un, V.gd, aExec, aop, aFieldAddr, List.getElem?_toArray, List.getElem?_cons_succ, List.getElem?_cons_zero, List.getD_cons_zero, List.getD_cons_succ, List.length_cons, List.length_nil, List.drop_zero, List.drop_succ_cons, List.headD_cons, List.take_succ_cons, List.take_zero, List.take_nil, List.drop_nil, List.map_cons, List.map_nil, Option.bind_some, Option.isSome_some, Option.map_some, Nat.zero_lt_one, Nat.lt_add_one, Nat.zero_add, Nat.add_zero, Nat.reduceAdd, Nat.reduceLeDiff, Nat.reduceLT, Nat.reduceMul, Nat.le_refl, Nat.zero_lt_succ, Try.underlying3, Ty.c3, Ty.a3, Try.underlying25, Ty.c25, Ty.a25]
  repeat (refine And.intro (by first | omega | (intros; omega) | (intros; simp_all; done) | (intros; simp_all; omega)) ?_)
  refine k _ ?_; clear k K
  -- None := store 3 t6 t5
  refine v_op ?_; intro K k
  simp only [aStepM, optable, get_mk, look_cons, look_nil, set_some, set_none, ev_tmp, ev_const, ev_func, Nat.reduceEqDiff, reduceIte, dst_some, dst_none, Nat.reduceLT, List.append_nil, List.nil_append, true_and, and_true, and_self, implies_true, forall_const, imp_self, Bool.false_eq_true, false_implies, cond_true, cond_false, decide_eq_true_eq, eq_self_iff_true, exists_eq_left', Option.some.injEq, reduceCtorEq, not_false_eq_true, not_true_eq_false, ne_eq, V.ofValue, V.ofScalar, V.un, V.gd, aExec, aop, aStore, setCells, V.isVal, V.cells, kindOf, kindAll, V.noSl, V.noRef, List.all_cons, List.all_nil, List.set_cons_zero, List.set_cons_succ, List.cons_append, List.append_nil, List.nil_append, V.ofScalar, gt_iff_lt, Nat.zero_lt_one, Nat.lt_add_one, Nat.zero_add, Nat.add_zero, Nat.reduceAdd, Nat.reduceLeDiff, Nat.reduceLT, Nat.reduceMul, Nat.le_refl, Nat.zero_lt_succ, List.getElem?_toArray, List.getElem?_cons_succ, List.getElem?_cons_zero, List.getD_cons_zero, List.getD_cons_succ, List.length_cons, List.length_nil, List.drop_zero, List.drop_succ_cons, List.headD_cons, List.take_succ_cons, List.take_zero, List.take_nil, List.drop_nil, List.map_cons, List.map_nil, Option.bind_some, Option.isSome_some, Option.map_some, Bool.or_false, Bool.false_or, Bool.or_true, Bool.true_or, Bool.not_true, Bool.not_false, Bool.and_false, Bool.and_true, Bool.false_and, Bool.true_and, decide_true, decide_false, Bool.or_self, Bool.and_self, settle_int, settle_bool, settle_str, settle_nsl, settle_sl, settle_ref, settle_sub, settle_ptr, settle_pv, settle_tup, settle_fn, settle_npt, settle_agg, settleL_nil, settleL_nsl, settleL_int, settleL_bool, settleL_str, settleL_sl, settleL_ref, List.length_nil, List.length_cons, List.length_append, Nat.reduceAdd, Nat.zero_add, Nat.add_zero, List.cons_append, takeV, takeCell, row_mk, Blk.row, join_ff, join_ft, join_fv, join_d, join_s, fillK_join0, killAll, List.isEmpty_nil, List.isEmpty_cons, fillK_join, List.not_mem_nil, List.nodup_nil, List.mem_singleton, List.nodup_cons, Nat.reduceBEq, beq_self_eq_true, Bool.cond_true, Bool.cond_false, Try.underlying3, Ty.c3, Ty.a3]
  repeat (refine And.intro (by first | omega | (intros; omega) | (intros; simp_all; done) | (intros; simp_all; omega)) ?_)
  refine k _ ?_; clear k K
  refine k6 _ ?_
  refine n5 _ _ (weak_keep [1, 2, 3] _) ?_
  simp only [keep_mk, keepE_nil, keepE_cons, look_cons, look_nil, Nat.reduceEqDiff, reduceIte]
  refine v_seq ?_; intro Q7 n7 e7 r7
  refine v_region ?_; intro K8 k8
  -- 7 := fieldAddr 23 t1 1
  refine v_op ?_; intro K k
  simp only [aStepM, optable, get_mk, look_cons, look_nil, set_some, set_none, ev_tmp, ev_const, ev_func, Nat.reduceEqDiff, reduceIte, dst_some, dst_none, Nat.reduceLT, List.append_nil, List.nil_append, true_and, and_true, and_self, implies_true, forall_const, imp_self, Bool.false_eq_true, false_implies, cond_true, cond_false, decide_eq_true_eq, eq_self_iff_true, exists_eq_left', Option.some.injEq, reduceCtorEq, not_false_eq_true, not_true_eq_false, ne_eq, V.ofValue, V.ofScalar, V.un, V.gd, aExec, aop, aFieldAddr, List.getElem?_toArray, List.getElem?_cons_succ, List.getElem?_cons_zero, List.getD_cons_zero, List.getD_cons_succ, List.length_cons, List.length_nil, List.drop_zero, List.drop_succ_cons, List.headD_cons, List.take_succ_cons, List.take_zero, List.take_nil, List.drop_nil, List.map_cons, List.map_nil, Option.bind_some, Option.isSome_some, Option.map_some, Nat.zero_lt_one, Nat.lt_add_one, Nat.zero_add, Nat.add_zero, Nat.reduceAdd, Nat.reduceLeDiff, Nat.reduceLT, Nat.reduceMul, Nat.le_refl, Nat.zero_lt_succ, Try.underlying3, Ty.c3, Ty.a3, Try.underlying23, Ty.c23, Ty.a23]
  repeat (refine And.intro (by first | omega | (intros; omega) | (intros; simp_all; done) | (intros; simp_all; omega)) ?_)
  refine k _ ?_; clear k K
  -- 8 := load 3 t7
  refine v_op ?_; intro K k
  simp only [aStepM, optable, get_mk, look_cons, look_nil, set_some, set_none, ev_tmp, ev_const, ev_func, Nat.reduceEqDiff, reduceIte, dst_some, dst_none, Nat.reduceLT, List.append_nil, List.nil_append, true_and, and_true, and_self, implies_true, forall_const, imp_self, Bool.false_eq_true, false_implies, cond_true, cond_false, decide_eq_true_eq, eq_self_iff_true, exists_eq_left', Option.some.injEq, reduceCtorEq, not_false_eq_true, not_true_eq_false, ne_eq, V.ofValue, V.ofScalar, V.un, V.gd, aExec, aop, aLoad, row_mk, Blk.row, PartOK, Go.Vm.part, V.cells, V.noSl, V.noRef, Nat.zero_lt_one, Nat.lt_add_one, Nat.zero_add, Nat.add_zero, Nat.reduceAdd, Nat.reduceLeDiff, Nat.reduceLT, Nat.reduceMul, Nat.le_refl, Nat.zero_lt_succ, List.getElem?_toArray, List.getElem?_cons_succ, List.getElem?_cons_zero, List.getD_cons_zero, List.getD_cons_succ, List.length_cons, List.length_nil, List.drop_zero, List.drop_succ_cons, List.headD_cons, List.take_succ_cons, List.take_zero, List.take_nil, List.drop_nil, List.map_cons, List.map_nil, Option.bind_some, Option.isSome_some, Option.map_some, Bool.or_false, Bool.false_or, Bool.or_true, Bool.true_or, Bool.not_true, Bool.not_false, Bool.and_false, Bool.and_true, Bool.false_and, Bool.true_and, decide_true, decide_false, Bool.or_self, Bool.and_self, Try.underlying3, Ty.c3, Ty.a3]
  repeat (refine And.intro (by first | omega | (intros; omega) | (intros; simp_all; done) | (intros; simp_all; omega)) ?_)
  refine k _ ?_; clear k K
  -- 9 := fieldAddr 25 t3 1
  refine v_op ?_; intro K k
  simp only [aStepM, optable, get_mk, look_cons, look_nil, set_some, set_none, ev_tmp, ev_const, ev_func, Nat.reduceEqDiff, reduceIte, dst_some, dst_none, Nat.reduceLT, List.append_nil, List.nil_append, true_and, and_true, and_self, implies_true, forall_const, imp_self, Bool.false_eq_true, false_implies, cond_true, cond_false, decide_eq_true_eq, eq_self_iff_true, exists_eq_left', Option.some.injEq, reduceCtorEq, not_false_eq_true, not_true_eq_false, ne_eq, V.ofValue, V.ofScalar, V.un, V.gd, aExec, aop, aFieldAddr, List.getElem?_toArray, List.getElem?_cons_succ, List.getElem?_cons_zero, List.getD_cons_zero, List.getD_cons_succ, List.length_cons, List.length_nil, List.drop_zero, List.drop_succ_cons, List.headD_cons, List.take_succ_cons, List.take_zero, List.take_nil, List.drop_nil, List.map_cons, List.map_nil, Option.bind_some, Option.isSome_some, Option.map_some, Nat.zero_lt_one, Nat.lt_add_one, Nat.zero_add, Nat.add_zero, Nat.reduceAdd, Nat.reduceLeDiff, Nat.reduceLT, Nat.reduceMul, Nat.le_refl, Nat.zero_lt_succ, Try.underlying3, Ty.c3, Ty.a3, Try.underlying25, Ty.c25, Ty.a25]
  repeat (refine And.intro (by first | omega | (intros; omega) | (intros; simp_all; done) | (intros; simp_all; omega)) ?_)
  refine k _ ?_; clear k K
  -- None := store 3 t9 t8
  refine v_op ?_; intro K k
  simp only [aStepM, optable, get_mk, look_cons, look_nil, set_some, set_none, ev_tmp, ev_const, ev_func, Nat.reduceEqDiff, reduceIte, dst_some, dst_none, Nat.reduceLT, List.append_nil, List.nil_append, true_and, and_true, and_self, implies_true, forall_const, imp_self, Bool.false_eq_true, false_implies, cond_true, cond_false, decide_eq_true_eq, eq_self_iff_true, exists_eq_left', Option.some.injEq, reduceCtorEq, not_false_eq_true, not_true_eq_false, ne_eq, V.ofValue, V.ofScalar, V.un, V.gd, aExec, aop, aStore, setCells, V.isVal, V.cells, kindOf, kindAll, V.noSl, V.noRef, List.all_cons, List.all_nil, List.set_cons_zero, List.set_cons_succ, List.cons_append, List.append_nil, List.nil_append, V.ofScalar, gt_iff_lt, Nat.zero_lt_one, Nat.lt_add_one, Nat.zero_add, Nat.add_zero, Nat.reduceAdd, Nat.reduceLeDiff, Nat.reduceLT, Nat.reduceMul, Nat.le_refl, Nat.zero_lt_succ, List.getElem?_toArray, List.getElem?_cons_succ, List.getElem?_cons_zero, List.getD_cons_zero, List.getD_cons_succ, List.length_cons, List.length_nil, List.drop_zero, List.drop_succ_cons, List.headD_cons, List.take_succ_cons, List.take_zero, List.take_nil, List.drop_nil, List.map_cons, List.map_nil, Option.bind_some, Option.isSome_some, Option.map_some, Bool.or_false, Bool.false_or, Bool.or_true, Bool.true_or, Bool.not_true, Bool.not_false, Bool.and_false, Bool.and_true, Bool.false_and, Bool.true_and, decide_true, decide_false, Bool.or_self, Bool.and_self, settle_int, settle_bool, settle_str, settle_nsl, settle_sl, settle_ref, settle_sub, settle_ptr, settle_pv, settle_tup, settle_fn, settle_npt, settle_agg, settleL_nil, settleL_nsl, settleL_int, settleL_bool, settleL_str, settleL_sl, settleL_ref, List.length_nil, List.length_cons, List.length_append, Nat.reduceAdd, Nat.zero_add, Nat.add_zero, List.cons_append, takeV, takeCell, row_mk, Blk.row, join_ff, join_ft, join_fv, join_d, join_s, fillK_join0, killAll, List.isEmpty_nil, List.isEmpty_cons, fillK_join, List.not_mem_nil, List.nodup_nil, List.mem_singleton, List.nodup_cons, Nat.reduceBEq, beq_self_eq_true, Bool.cond_true, Bool.cond_false, Try.underlying3, Ty.c3, Ty.a3]
  repeat (refine And.intro (by first | omega | (intros; omega) | (intros; simp_all; done) | (intros; simp_all; omega)) ?_)
  refine k _ ?_; clear k K
  refine k8 _ ?_
  refine n7 _ _ (weak_keep [1, 2, 3] _) ?_
  simp only [keep_mk, keepE_nil, keepE_cons, look_cons, look_nil, Nat.reduceEqDiff, reduceIte]
  refine v_seq ?_; intro Q9 n9 e9 r9
  refine v_region ?_; intro K10 k10
  -- 10 := fieldAddr 23 t1 2
  refine v_op ?_; intro K k
  simp only [aStepM, optable, get_mk, look_cons, look_nil, set_some, set_none, ev_tmp, ev_const, ev_func, Nat.reduceEqDiff, reduceIte, dst_some, dst_none, Nat.reduceLT, List.append_nil, List.nil_append, true_and, and_true, and_self, implies_true, forall_const, imp_self, Bool.false_eq_true, false_implies, cond_true, cond_false, decide_eq_true_eq, eq_self_iff_true, exists_eq_left', Option.some.injEq, reduceCtorEq, not_false_eq_true, not_true_eq_false, ne_eq, V.ofValue, V.ofScalar, V.un, V.gd, aExec, aop, aFieldAddr, List.getElem?_toArray, List.getElem?_cons_succ, List.getElem?_cons_zero, List.getD_cons_zero, List.getD_cons_succ, List.length_cons, List.length_nil, List.drop_zero, List.drop_succ_cons, List.headD_cons, List.take_succ_cons, List.take_zero, List.take_nil, List.drop_nil, List.map_cons, List.map_nil, Option.bind_some, Option.isSome_some, Option.map_some, Nat.zero_lt_one, Nat.lt_add_one, Nat.zero_add, Nat.add_zero, Nat.reduceAdd, Nat.reduceLeDiff, Nat.reduceLT, Nat.reduceMul, Nat.le_refl, Nat.zero_lt_succ, Try.underlying3, Ty.c3, Ty.a3, Try.underlying23, Ty.c23, Ty.a23]
  repeat (refine And.intro (by first | omega | (intros; omega) | (intros; simp_all; done) | (intros; simp_all; omega)) ?_)
  refine k _ ?_; clear k K
  -- 11 := load 3 t10
  refine v_op ?_; intro K k
  simp only [aStepM, optable, get_mk, look_cons, look_nil, set_some, set_none, ev_tmp, ev_const, ev_func, Nat.reduceEqDiff, reduceIte, dst_some, dst_none, Nat.reduceLT, List.append_nil, List.nil_append, true_and, and_true, and_self, implies_true, forall_const, imp_self, Bool.false_eq_true, false_implies, cond_true, cond_false, decide_eq_true_eq, eq_self_iff_true, exists_eq_left', Option.some.injEq, reduceCtorEq, not_false_eq_true, not_true_eq_false, ne_eq, V.ofValue, V.ofScalar, V.un, V.gd, aExec, aop, aLoad, row_mk, Blk.row, PartOK, Go.Vm.part, V.cells, V.noSl, V.noRef, Nat.zero_lt_one, Nat.lt_add_one, Nat.zero_add, Nat.add_zero, Nat.reduceAdd, Nat.reduceLeDiff, Nat.reduceLT, Nat.reduceMul, Nat.le_refl, Nat.zero_lt_succ, List.getElem?_toArray, List.getElem?_cons_succ, List.getElem?_cons_zero, List.getD_cons_zero, List.getD_cons_succ, List.length_cons, List.length_nil, List.drop_zero, List.drop_succ_cons, List.headD_cons, List.take_succ_cons, List.take_zero, List.take_nil, List.drop_nil, List.map_cons, List.map_nil, Option.bind_some, Option.isSome_some, Option.map_some, Bool.or_false, Bool.false_or, Bool.or_true, Bool.true_or, Bool.not_true, Bool.not_false, Bool.and_false, Bool.and_true, Bool.false_and, Bool.true_and, decide_true, decide_false, Bool.or_self, Bool.and_self, Try.underlying3, Ty.c3, Ty.a3]
  repeat (refine And.intro (by first | omega | (intros; omega) | (intros; simp_all; done) | (intros; simp_all; omega)) ?_)
  refine k _ ?_; clear k K
  -- 12 := fieldAddr 25 t3 2
  refine v_op ?_; intro K k
  simp only [aStepM, optable, get_mk, look_cons, look_nil, set_some, set_none, ev_tmp, ev_const, ev_func, Nat.reduceEqDiff, reduceIte, dst_some, dst_none, Nat.reduceLT, List.append_nil, List.nil_append, true_and, and_true, and_self, implies_true, forall_const, imp_self, Bool.false_eq_true, false_implies, cond_true, cond_false, decide_eq_true_eq, eq_self_iff_true, exists_eq_left', Option.some.injEq, reduceCtorEq, not_false_eq_true, not_true_eq_false, ne_eq, V.ofValue, V.ofScalar, V.un, V.gd, aExec, aop, aFieldAddr, List.getElem?_toArray, List.getElem?_cons_succ, List.getElem?_cons_zero, List.getD_cons_zero, List.getD_cons_succ, List.length_cons, List.length_nil, List.drop_zero, List.drop_succ_cons, List.headD_cons, List.take_succ_cons, List.take_zero, List.take_nil, List.drop_nil, List.map_cons, List.map_nil, Option.bind_some, Option.isSome_some, Option.map_some, Nat.zero_lt_one, Nat.lt_add_one, Nat.zero_add, Nat.add_zero, Nat.reduceAdd, Nat.reduceLeDiff, Nat.reduceLT, Nat.reduceMul, Nat.le_refl, Nat.zero_lt_succ, Try.underlying3, Ty.c3, Ty.a3, Try.underlying25, Ty.c25, Ty.a25]
  repeat (refine And.intro (by first | omega | (intros; omega) | (intros; simp_all; done) | (intros; simp_all; omega)) ?_)
  refine k _ ?_; clear k K
  -- None := store 3 t12 t11
  refine v_op ?_; intro K k
  simp only [aStepM, optable, get_mk, look_cons, look_nil, set_some, set_none, ev_tmp, ev_const, ev_func, Nat.reduceEqDiff, reduceIte, dst_some, dst_none, Nat.reduceLT, List.append_nil, List.nil_append, true_and, and_true, and_self, implies_true, forall_const, imp_self, Bool.false_eq_true, false_implies, cond_true, cond_false, decide_eq_true_eq, eq_self_iff_true, exists_eq_left', Option.some.injEq, reduceCtorEq, not_false_eq_true, not_true_eq_false, ne_eq, V.ofValue, V.ofScalar, V.un, V.gd, aExec, aop, aStore, setCells, V.isVal, V.cells, kindOf, kindAll, V.noSl, V.noRef, List.all_cons, List.all_nil, List.set_cons_zero, List.set_cons_succ, List.cons_append, List.append_nil, List.nil_append, V.ofScalar, gt_iff_lt, Nat.zero_lt_one, Nat.lt_add_one, Nat.zero_add, Nat.add_zero, Nat.reduceAdd, Nat.reduceLeDiff, Nat.reduceLT, Nat.reduceMul, Nat.le_refl, Nat.zero_lt_succ, List.getElem?_toArray, List.getElem?_cons_succ, List.getElem?_cons_zero, List.getD_cons_zero, List.getD_cons_succ, List.length_cons, List.length_nil, List.drop_zero, List.drop_succ_cons, List.headD_cons, List.take_succ_cons, List.take_zero, List.take_nil, List.drop_nil, List.map_cons, List.map_nil, Option.bind_some, Option.isSome_some, Option.map_some, Bool.or_false, Bool.false_or, Bool.or_true, Bool.true_or, Bool.not_true, Bool.not_false, Bool.and_false, Bool.and_true, Bool.false_and, Bool.true_and, decide_true, decide_false, Bool.or_self, Bool.and_self, settle_int, settle_bool, settle_str, settle_nsl, settle_sl, settle_ref, settle_sub, settle_ptr, settle_pv, settle_tup, settle_fn, settle_npt, settle_agg, settleL_nil, settleL_nsl, settleL_int, settleL_bool, settleL_str, settleL_sl, settleL_ref, List.length_nil, List.length_cons, List.length_append, Nat.reduceAdd, Nat.zero_add, Nat.add_zero, List.cons_append, takeV, takeCell, row_mk, Blk.row, join_ff, join_ft, join_fv, join_d, join_s, fillK_join0, killAll, List.isEmpty_nil, List.isEmpty_cons, fillK_join, List.not_mem_nil, List.nodup_nil, List.mem_singleton, List.nodup_cons, Nat.reduceBEq, beq_self_eq_true, Bool.cond_true, Bool.cond_false, Try.underlying3, Ty.c3, Ty.a3]
  repeat (refine And.intro (by first | omega | (intros; omega) | (intros; simp_all; done) | (intros; simp_all; omega)) ?_)
  refine k _ ?_; clear k K
  refine k10 _ ?_
  refine n9 _ _ (weak_keep [2, 3] _) ?_
  simp only [keep_mk, keepE_nil, keepE_cons, look_cons, look_nil, Nat.reduceEqDiff, reduceIte]
  refine v_seq ?_; intro Q11 n11 e11 r11
  refine v_region ?_; intro K12 k12
  -- 13 := load 25 t3
  refine v_op ?_; intro K k
  simp only [aStepM, optable, get_mk, look_cons, look_nil, set_some, set_none, ev_tmp, ev_const, ev_func, Nat.reduceEqDiff, reduceIte, dst_some, dst_none, Nat.reduceLT, List.append_nil, List.nil_append, true_and, and_true, and_self, implies_true, forall_const, imp_self, Bool.false_eq_true, false_implies, cond_true, cond_false, decide_eq_true_eq, eq_self_iff_true, exists_eq_left', Option.some.injEq, reduceCtorEq, not_false_eq_true, not_true_eq_false, ne_eq, V.ofValue, V.ofScalar, V.un, V.gd, aExec, aop, aLoad, row_mk, Blk.row, PartOK, Go.Vm.part, V.cells, V.noSl, V.noRef, Nat.zero_lt_one, Nat.lt_add_one, Nat.zero_add, Nat.add_zero, Nat.reduceAdd, Nat.reduceLeDiff, Nat.reduceLT, Nat.reduceMul, Nat.le_refl, Nat.zero_lt_succ, List.getElem?_toArray, List.getElem?_cons_succ, List.getElem?_cons_zero, List.getD_cons_zero, List.getD_cons_succ, List.length_cons, List.length_nil, List.drop_zero, List.drop_succ_cons, List.headD_cons, List.take_succ_cons, List.take_zero, List.take_nil, List.drop_nil, List.map_cons, List.map_nil, Option.bind_some, Option.isSome_some, Option.map_some, Bool.or_false, Bool.false_or, Bool.or_true, Bool.true_or, Bool.not_true, Bool.not_false, Bool.and_false, Bool.and_true, Bool.false_and, Bool.true_and, decide_true, decide_false, Bool.or_self, Bool.and_self, Try.underlying3, Ty.c3, Ty.a3, Try.underlying25, Ty.c25, Ty.a25]
  repeat (refine And.intro (by first | omega | (intros; omega) | (intros; simp_all; done) | (intros; simp_all; omega)) ?_)
  refine k _ ?_; clear k K
  -- None := store 25 t2 t13
  refine v_op ?_; intro K k
  simp only [aStepM, optable, get_mk, look_cons, look_nil, set_some, set_none, ev_tmp, ev_const, ev_func, Nat.reduceEqDiff, reduceIte, dst_some, dst_none, Nat.reduceLT, List.append_nil, List.nil_append, true_and, and_true, and_self, implies_true, forall_const, imp_self, Bool.false_eq_true, false_implies, cond_true, cond_false, decide_eq_true_eq, eq_self_iff_true, exists_eq_left', Option.some.injEq, reduceCtorEq, not_false_eq_true, not_true_eq_false, ne_eq, V.ofValue, V.ofScalar, V.un, V.gd, aExec, aop, aStore, setCells, V.isVal, V.cells, kindOf, kindAll, V.noSl, V.noRef, List.all_cons, List.all_nil, List.set_cons_zero, List.set_cons_succ, List.cons_append, List.append_nil, List.nil_append, V.ofScalar, gt_iff_lt, Nat.zero_lt_one, Nat.lt_add_one, Nat.zero_add, Nat.add_zero, Nat.reduceAdd, Nat.reduceLeDiff, Nat.reduceLT, Nat.reduceMul, Nat.le_refl, Nat.zero_lt_succ, List.getElem?_toArray, List.getElem?_cons_succ, List.getElem?_cons_zero, List.getD_cons_zero, List.getD_cons_succ, List.length_cons, List.length_nil, List.drop_zero, List.drop_succ_cons, List.headD_cons, List.take_succ_cons, List.take_zero, List.take_nil, List.drop_nil, List.map_cons, List.map_nil, Option.bind_some, Option.isSome_some, Option.map_some, Bool.or_false, Bool.false_or, Bool.or_true, Bool.true_or, Bool.not_true, Bool.not_false, Bool.and_false, Bool.and_true, Bool.false_and, Bool.true_and, decide_true, decide_false, Bool.or_self, Bool.and_self, settle_int, settle_bool, settle_str, settle_nsl, settle_sl, settle_ref, settle_sub, settle_ptr, settle_pv, settle_tup, settle_fn, settle_npt, settle_agg, settleL_nil, settleL_nsl, settleL_int, settleL_bool, settleL_str, settleL_sl, settleL_ref, List.length_nil, List.length_cons, List.length_append, Nat.reduceAdd, Nat.zero_add, Nat.add_zero, List.cons_append, takeV, takeCell, row_mk, Blk.row, join_ff, join_ft, join_fv, join_d, join_s, fillK_join0, killAll, List.isEmpty_nil, List.isEmpty_cons, fillK_join, List.not_mem_nil, List.nodup_nil, List.mem_singleton, List.nodup_cons, Nat.reduceBEq, beq_self_eq_true, Bool.cond_true, Bool.cond_false, Try.underlying3, Ty.c3, Ty.a3, Try.underlying25, Ty.c25, Ty.a25]
  repeat (refine And.intro (by first | omega | (intros; omega) | (intros; simp_all; done) | (intros; simp_all; omega)) ?_)
  refine k _ ?_; clear k K
  refine k12 _ ?_
  refine n11 _ _ (weak_keep [2] _) ?_
  simp only [keep_mk, keepE_nil, keepE_cons, look_cons, look_nil, Nat.reduceEqDiff, reduceIte]
  refine v_ret ?_
  refine r0 _ ?_
  simp only [resK, pickRV, get_mk, look_cons, look_nil, Nat.reduceEqDiff, reduceIte, List.map_cons, List.map_nil]
  simp only [aStepM, optable, get_mk, look_cons, look_nil, set_some, set_none, ev_tmp, ev_const, ev_func, Nat.reduceEqDiff, reduceIte, dst_some, dst_none, Nat.reduceLT, List.append_nil, List.nil_append, true_and, and_true, and_self, implies_true, forall_const, imp_self, Bool.false_eq_true, false_implies, cond_true, cond_false, decide_eq_true_eq, eq_self_iff_true, exists_eq_left', Option.some.injEq, reduceCtorEq, not_false_eq_true, not_true_eq_false, ne_eq, V.ofValue, V.ofScalar, V.un, V.gd, aLoad, row_mk, Blk.row, PartOK, Go.Vm.part, V.cells, V.noSl, V.noRef, Nat.zero_lt_one, Nat.lt_add_one, Nat.zero_add, Nat.add_zero, Nat.reduceAdd, Nat.reduceLeDiff, Nat.reduceLT, Nat.reduceMul, Nat.le_refl, Nat.zero_lt_succ, List.getElem?_toArray, List.getElem?_cons_succ, List.getElem?_cons_zero, List.getD_cons_zero, List.getD_cons_succ, List.length_cons, List.length_nil, List.drop_zero, List.drop_succ_cons, List.headD_cons, List.take_succ_cons, List.take_zero, List.take_nil, List.drop_nil, List.map_cons, List.map_nil, Option.bind_some, Option.isSome_some, Option.map_some, Bool.or_false, Bool.false_or, Bool.or_true, Bool.true_or, Bool.not_true, Bool.not_false, Bool.and_false, Bool.and_true, Bool.false_and, Bool.true_and, decide_true, decide_false, Bool.or_self, Bool.and_self, Try.underlying3, Ty.c3, Ty.a3, Try.underlying25, Ty.c25, Ty.a25]
  exact ret_pure rfl (by first | rfl | simp) (.inl rfl)
-- loop.example/g01020/laws.FnExactIsDuty
set_option maxHeartbeats 1000000 in
theorem law3_con (a b c : Int) : Con Try.prog 3 [.agg [.int .i64 a, .int .i64 b, .int .i64 c]] [] (.bool true) [] := by
  refine v_con [.tmp 2] [] Try.func3 rfl rfl rfl (by simp [Try.ntmps3]) ?_
  intro Q0 n0 r0
  simp only [Try.ntmps3, envFrom, Nat.reduceAdd]
  refine v_seq ?_; intro Q1 n1 e1 r1
  refine v_region ?_; intro K2 k2
  -- 1 := box 23 t0
  refine v_op ?_; intro K k
  simp only [aStepM, optable, get_mk, look_cons, look_nil, set_some, set_none, ev_tmp, ev_const, ev_func, Nat.reduceEqDiff, reduceIte, dst_some, dst_none, Nat.reduceLT, List.append_nil, List.nil_append, true_and, and_true, and_self, implies_true, forall_const, imp_self, Bool.false_eq_true, false_implies, cond_true, cond_false, decide_eq_true_eq, eq_self_iff_true, exists_eq_left', Option.some.injEq, reduceCtorEq, not_false_eq_true, not_true_eq_false, ne_eq, V.ofValue, V.ofScalar, V.un, V.gd, aExec, aop, settle_int, settle_bool, settle_str, settle_nsl, settle_sl, settle_ref, settle_sub, settle_ptr, settle_pv, settle_tup, settle_fn, settle_npt, settle_agg, settleL_nil, settleL_nsl, settleL_int, settleL_bool, settleL_str, settleL_sl, settleL_ref, List.length_nil, List.length_cons, List.length_append, Nat.reduceAdd, Nat.zero_add, Nat.add_zero, List.cons_append, V.isVal, V.cells, kindOf, kindAll, V.noSl, V.noRef, List.all_cons, List.all_nil, List.length_map, gt_iff_lt, Bool.or_false, Bool.false_or, Bool.or_true, Bool.true_or, Bool.not_true, Bool.not_false, Bool.and_false, Bool.and_true, Bool.false_and, Bool.true_and, decide_true, decide_false, Bool.or_self, Bool.and_self, Nat.zero_lt_one, Nat.lt_add_one, Nat.zero_add, Nat.add_zero, Nat.reduceAdd, Nat.reduceLeDiff, Nat.reduceLT, Nat.reduceMul, Nat.le_refl, Nat.zero_lt_succ, Try.underlying3, Ty.c3, Ty.a3, Try.underlying23, Ty.c23, Ty.a23]
  repeat (refine And.intro (by first | omega | (intros; omega) | (intros; simp_all; done) | (intros; simp_all; omega)) ?_)
  refine k _ ?_; clear k K
  -- 2 := assign c<false>
  refine v_op ?_; intro K k
  simp only [aStepM, optable, get_mk, look_cons, look_nil, set_some, set_none, ev_tmp, ev_const, ev_func, Nat.reduceEqDiff, reduceIte, dst_some, dst_none, Nat.reduceLT, List.append_nil, List.nil_append, true_and, and_true, and_self, implies_true, forall_const, imp_self, Bool.false_eq_true, false_implies, cond_true, cond_false, decide_eq_true_eq, eq_self_iff_true, exists_eq_left', Option.some.injEq, reduceCtorEq, not_false_eq_true, not_true_eq_false, ne_eq, V.ofValue, V.ofScalar, V.un, V.gd, aExec, aop, settle_int, settle_bool, settle_str, settle_nsl, settle_sl, settle_ref, settle_sub, settle_ptr, settle_pv, settle_tup, settle_fn, settle_npt, settle_agg, settleL_nil, settleL_nsl, settleL_int, settleL_bool, settleL_str, settleL_sl, settleL_ref, List.length_nil, List.length_cons, List.length_append, Nat.reduceAdd, Nat.zero_add, Nat.add_zero, List.cons_append]
  repeat (refine And.intro (by first | omega | (intros; omega) | (intros; simp_all; done) | (intros; simp_all; omega)) ?_)
  refine k _ ?_; clear k K
  refine k2 _ ?_
  refine n1 _ _ (weak_keep [1] _) ?_
  simp only [keep_mk, keepE_nil, keepE_cons, look_cons, look_nil, Nat.reduceEqDiff, reduceIte]
  refine v_seq ?_; intro Q3 n3 e3 r3
  refine v_region ?_; intro K4 k4
  -- 5 := load 23 t1
  refine v_op ?_; intro K k
  simp only [aStepM, optable, get_mk, look_cons, look_nil, set_some, set_none, ev_tmp, ev_const, ev_func, Nat.reduceEqDiff, reduceIte, dst_some, dst_none, Nat.reduceLT, List.append_nil, List.nil_append, true_and, and_true, and_self, implies_true, forall_const, imp_self, Bool.false_eq_true, false_implies, cond_true, cond_false, decide_eq_true_eq, eq_self_iff_true, exists_eq_left', Option.some.injEq, reduceCtorEq, not_false_eq_true, not_true_eq_false, ne_eq, V.ofValue, V.ofScalar, V.un, V.gd, aExec, aop, aLoad, row_mk, Blk.row, PartOK, Go.Vm.part, V.cells, V.noSl, V.noRef, Nat.zero_lt_one, Nat.lt_add_one, Nat.zero_add, Nat.add_zero, Nat.reduceAdd, Nat.reduceLeDiff, Nat.reduceLT, Nat.reduceMul, Nat.le_refl, Nat.zero_lt_succ, List.getElem?_toArray, List.getElem?_cons_succ, List.getElem?_cons_zero, List.getD_cons_zero, List.getD_cons_succ, List.length_cons, List.length_nil, List.drop_zero, List.drop_succ_cons, List.headD_cons, List.take_succ_cons, List.take_zero, List.take_nil, List.drop_nil, List.map_cons, List.map_nil, Option.bind_some, Option.isSome_some, Option.map_some, Bool.or_false, Bool.false_or, Bool.or_true, Bool.true_or, Bool.not_true, Bool.not_false, Bool.and_false, Bool.and_true, Bool.false_and, Bool.true_and, decide_true, decide_false, Bool.or_self, Bool.and_self, Try.underlying3, Ty.c3, Ty.a3, Try.underlying23, Ty.c23, Ty.a23]
  repeat (refine And.intro (by first | omega | (intros; omega) | (intros; simp_all; done) | (intros; simp_all; omega)) ?_)
  refine k _ ?_; clear k K
  -- 6 := call v f11 t5 | 23
  refine v_op ?_; intro K k
  simp only [aStepM, optable, get_mk, look_cons, look_nil, set_some, set_none, ev_tmp, ev_const, ev_func, Nat.reduceEqDiff, reduceIte, dst_some, dst_none, Nat.reduceLT, List.append_nil, List.nil_append, true_and, and_true, and_self, implies_true, forall_const, imp_self, Bool.false_eq_true, false_implies, cond_true, cond_false, decide_eq_true_eq, eq_self_iff_true, exists_eq_left', Option.some.injEq, reduceCtorEq, not_false_eq_true, not_true_eq_false, ne_eq, V.ofValue, V.ofScalar, V.un, V.gd, aExec, lentIds, lendOf, List.map_cons, List.map_nil, List.append_nil, List.filterMap_nil, List.mem_cons, List.not_mem_nil, or_false, forall_eq_or_imp, forall_eq, false_implies, Try.underlying3, Ty.c3, Ty.a3, Ty.b3, Ty.s3, Try.underlying23, Ty.c23, Ty.a23, Ty.b23, Ty.s23, Try.underlying25, Ty.c25, Ty.a25, Ty.b25, Ty.s25]
  repeat (refine And.intro (by first | rfl | (intros; simp_all; done)) ?_)
  refine aCall_new (toDuty_con _ _ _) (by first | rfl | simp only [toArgs, toArg, toCell, toCells, idx, row_mk, List.getElem?_cons_zero, List.getElem?_cons_succ, Option.bind_some, Blk.row, fillK_mix, cond_true]) (by first | exact .inl ⟨rfl, by simp [Blk.kindIs, fillK_fd]⟩ | exact .inr (by simp [V.cold])) ?_
  refine k _ ?_; clear k K
  simp only [get_mk, look_cons, look_nil, set_some, set_none, ev_tmp, ev_const, ev_func, Nat.reduceEqDiff, reduceIte, V.ren, V.renL, List.append_nil, List.cons_append, List.nil_append, rho, List.length_nil, List.length_cons, Nat.reduceAdd, Nat.zero_add, Nat.not_lt_zero, if_false, Nat.sub_zero]
  -- 7 := call v f10 t6 | 25
  refine v_op ?_; intro K k
  simp only [aStepM, optable, get_mk, look_cons, look_nil, set_some, set_none, ev_tmp, ev_const, ev_func, Nat.reduceEqDiff, reduceIte, dst_some, dst_none, Nat.reduceLT, List.append_nil, List.nil_append, true_and, and_true, and_self, implies_true, forall_const, imp_self, Bool.false_eq_true, false_implies, cond_true, cond_false, decide_eq_true_eq, eq_self_iff_true, exists_eq_left', Option.some.injEq, reduceCtorEq, not_false_eq_true, not_true_eq_false, ne_eq, V.ofValue, V.ofScalar, V.un, V.gd, aExec, lentIds, lendOf, List.map_cons, List.map_nil, List.append_nil, List.filterMap_nil, List.mem_cons, List.not_mem_nil, or_false, forall_eq_or_imp, forall_eq, false_implies, Try.underlying3, Ty.c3, Ty.a3, Ty.b3, Ty.s3, Try.underlying4, Ty.c4, Ty.a4, Ty.b4, Ty.s4, Try.underlying25, Ty.c25, Ty.a25, Ty.b25, Ty.s25]
  repeat (refine And.intro (by first | rfl | (intros; simp_all; done)) ?_)
  refine aCall_new (specIsDuty_con _ _ _) (by first | rfl | simp only [toArgs, toArg, toCell, toCells, idx, row_mk, List.getElem?_cons_zero, List.getElem?_cons_succ, Option.bind_some, Blk.row, fillK_mix, cond_true]) (by first | exact .inl ⟨rfl, by simp [Blk.kindIs, fillK_fd]⟩ | exact .inr (by simp [V.cold])) ?_
  refine k _ ?_; clear k K
  simp only [get_mk, look_cons, look_nil, set_some, set_none, ev_tmp, ev_const, ev_func, Nat.reduceEqDiff, reduceIte, V.ren, V.renL, List.append_nil, List.cons_append, List.nil_append, rho, List.length_nil, List.length_cons, Nat.reduceAdd, Nat.zero_add, Nat.not_lt_zero, if_false, Nat.sub_zero]
  -- 3 := assign t7
  refine v_op ?_; intro K k
  simp only [aStepM, optable, get_mk, look_cons, look_nil, set_some, set_none, ev_tmp, ev_const, ev_func, Nat.reduceEqDiff, reduceIte, dst_some, dst_none, Nat.reduceLT, List.append_nil, List.nil_append, true_and, and_true, and_self, implies_true, forall_const, imp_self, Bool.false_eq_true, false_implies, cond_true, cond_false, decide_eq_true_eq, eq_self_iff_true, exists_eq_left', Option.some.injEq, reduceCtorEq, not_false_eq_true, not_true_eq_false, ne_eq, V.ofValue, V.ofScalar, V.un, V.gd, aExec, aop, settle_int, settle_bool, settle_str, settle_nsl, settle_sl, settle_ref, settle_sub, settle_ptr, settle_pv, settle_tup, settle_fn, settle_npt, settle_agg, settleL_nil, settleL_nsl, settleL_int, settleL_bool, settleL_str, settleL_sl, settleL_ref, List.length_nil, List.length_cons, List.length_append, Nat.reduceAdd, Nat.zero_add, Nat.add_zero, List.cons_append]
  repeat (refine And.intro (by first | omega | (intros; omega) | (intros; simp_all; done) | (intros; simp_all; omega)) ?_)
  refine k _ ?_; clear k K
  refine k4 _ ?_
  refine n3 _ _ (weak_keep [1, 3] _) ?_
  simp only [keep_mk, keepE_nil, keepE_cons, look_cons, look_nil, Nat.reduceEqDiff, reduceIte]
  refine v_seq ?_; intro Q5 n5 e5 r5
  refine v_region ?_; intro K6 k6
  -- 8 := load 23 t1
  refine v_op ?_; intro K k
  simp only [aStepM, optable, get_mk, look_cons, look_nil, set_some, set_none, ev_tmp, ev_const, ev_func, Nat.reduceEqDiff, reduceIte, dst_some, dst_none, Nat.reduceLT, List.append_nil, List.nil_append, true_and, and_true, and_self, implies_true, forall_const, imp_self, Bool.false_eq_true, false_implies, cond_true, cond_false, decide_eq_true_eq, eq_self_iff_true, exists_eq_left', Option.some.injEq, reduceCtorEq, not_false_eq_true, not_true_eq_false, ne_eq, V.ofValue, V.ofScalar, V.un, V.gd, aExec, aop, aLoad, row_mk, Blk.row, PartOK, Go.Vm.part, V.cells, V.noSl, V.noRef, Nat.zero_lt_one, Nat.lt_add_one, Nat.zero_add, Nat.add_zero, Nat.reduceAdd, Nat.reduceLeDiff, Nat.reduceLT, Nat.reduceMul, Nat.le_refl, Nat.zero_lt_succ, List.getElem?_toArray, List.getElem?_cons_succ, List.getElem?_cons_zero, List.getD_cons_zero, List.getD_cons_succ, List.length_cons, List.length_nil, List.drop_zero, List.drop_succ_cons, List.headD_cons, List.take_succ_cons, List.take_zero, List.take_nil, List.drop_nil, List.map_cons, List.map_nil, Option.bind_some, Option.isSome_some, Option.map_some, Bool.or_false, Bool.false_or, Bool.or_true, Bool.true_or, Bool.not_true, Bool.not_false, Bool.and_false, Bool.and_true, Bool.false_and, Bool.true_and, decide_true, decide_false, Bool.or_self, Bool.and_self, Try.underlying3, Ty.c3, Ty.a3, Try.underlying23, Ty.c23, Ty.a23]
  repeat (refine And.intro (by first | omega | (intros; omega) | (intros; simp_all; done) | (intros; simp_all; omega)) ?_)
  refine k _ ?_; clear k K
  -- 9 := call v f11 t8 | 23
  refine v_op ?_; intro K k
  simp only [aStepM, optable, get_mk, look_cons, look_nil, set_some, set_none, ev_tmp, ev_const, ev_func, Nat.reduceEqDiff, reduceIte, dst_some, dst_none, Nat.reduceLT, List.append_nil, List.nil_append, true_and, and_true, and_self, implies_true, forall_const, imp_self, Bool.false_eq_true, false_implies, cond_true, cond_false, decide_eq_true_eq, eq_self_iff_true, exists_eq_left', Option.some.injEq, reduceCtorEq, not_false_eq_true, not_true_eq_false, ne_eq, V.ofValue, V.ofScalar, V.un, V.gd, aExec, lentIds, lendOf, List.map_cons, List.map_nil, List.append_nil, List.filterMap_nil, List.mem_cons, List.not_mem_nil, or_false, forall_eq_or_imp, forall_eq, false_implies, Try.underlying3, Ty.c3, Ty.a3, Ty.b3, Ty.s3, Try.underlying23, Ty.c23, Ty.a23, Ty.b23, Ty.s23, Try.underlying25, Ty.c25, Ty.a25, Ty.b25, Ty.s25]
  repeat (refine And.intro (by first | rfl | (intros; simp_all; done)) ?_)
  refine aCall_new (toDuty_con _ _ _) (by first | rfl | simp only [toArgs, toArg, toCell, toCells, idx, row_mk, List.getElem?_cons_zero, List.getElem?_cons_succ, Option.bind_some, Blk.row, fillK_mix, cond_true]) (by first | exact .inl ⟨rfl, by simp [Blk.kindIs, fillK_fd]⟩ | exact .inr (by simp [V.cold])) ?_
  refine k _ ?_; clear k K
  simp only [get_mk, look_cons, look_nil, set_some, set_none, ev_tmp, ev_const, ev_func, Nat.reduceEqDiff, reduceIte, V.ren, V.renL, List.append_nil, List.cons_append, List.nil_append, rho, List.length_nil, List.length_cons, Nat.reduceAdd, Nat.zero_add, Nat.not_lt_zero, if_false, Nat.sub_zero]
  -- 10 := call v f12 t9 | 25
  refine v_op ?_; intro K k
  simp only [aStepM, optable, get_mk, look_cons, look_nil, set_some, set_none, ev_tmp, ev_const, ev_func, Nat.reduceEqDiff, reduceIte, dst_some, dst_none, Nat.reduceLT, List.append_nil, List.nil_append, true_and, and_true, and_self, implies_true, forall_const, imp_self, Bool.false_eq_true, false_implies, cond_true, cond_false, decide_eq_true_eq, eq_self_iff_true, exists_eq_left', Option.some.injEq, reduceCtorEq, not_false_eq_true, not_true_eq_false, ne_eq, V.ofValue, V.ofScalar, V.un, V.gd, aExec, lentIds, lendOf, List.map_cons, List.map_nil, List.append_nil, List.filterMap_nil, List.mem_cons, List.not_mem_nil, or_false, forall_eq_or_imp, forall_eq, false_implies, Try.underlying3, Ty.c3, Ty.a3, Ty.b3, Ty.s3, Try.underlying4, Ty.c4, Ty.a4, Ty.b4, Ty.s4, Try.underlying25, Ty.c25, Ty.a25, Ty.b25, Ty.s25]
  repeat (refine And.intro (by first | rfl | (intros; simp_all; done)) ?_)
  refine aCall_new (implIsDuty_con _ _ _) (by first | rfl | simp only [toArgs, toArg, toCell, toCells, idx, row_mk, List.getElem?_cons_zero, List.getElem?_cons_succ, Option.bind_some, Blk.row, fillK_mix, cond_true]) (by first | exact .inl ⟨rfl, by simp [Blk.kindIs, fillK_fd]⟩ | exact .inr (by simp [V.cold])) ?_
  refine k _ ?_; clear k K
  simp only [get_mk, look_cons, look_nil, set_some, set_none, ev_tmp, ev_const, ev_func, Nat.reduceEqDiff, reduceIte, V.ren, V.renL, List.append_nil, List.cons_append, List.nil_append, rho, List.length_nil, List.length_cons, Nat.reduceAdd, Nat.zero_add, Nat.not_lt_zero, if_false, Nat.sub_zero]
  -- 4 := assign t10
  refine v_op ?_; intro K k
  simp only [aStepM, optable, get_mk, look_cons, look_nil, set_some, set_none, ev_tmp, ev_const, ev_func, Nat.reduceEqDiff, reduceIte, dst_some, dst_none, Nat.reduceLT, List.append_nil, List.nil_append, true_and, and_true, and_self, implies_true, forall_const, imp_self, Bool.false_eq_true, false_implies, cond_true, cond_false, decide_eq_true_eq, eq_self_iff_true, exists_eq_left', Option.some.injEq, reduceCtorEq, not_false_eq_true, not_true_eq_false, ne_eq, V.ofValue, V.ofScalar, V.un, V.gd, aExec, aop, settle_int, settle_bool, settle_str, settle_nsl, settle_sl, settle_ref, settle_sub, settle_ptr, settle_pv, settle_tup, settle_fn, settle_npt, settle_agg, settleL_nil, settleL_nsl, settleL_int, settleL_bool, settleL_str, settleL_sl, settleL_ref, List.length_nil, List.length_cons, List.length_append, Nat.reduceAdd, Nat.zero_add, Nat.add_zero, List.cons_append]
  repeat (refine And.intro (by first | omega | (intros; omega) | (intros; simp_all; done) | (intros; simp_all; omega)) ?_)
  refine k _ ?_; clear k K
  refine k6 _ ?_
  refine n5 _ _ (weak_keep [3, 4] _) ?_
  simp only [keep_mk, keepE_nil, keepE_cons, look_cons, look_nil, Nat.reduceEqDiff, reduceIte]
  refine v_seq ?_; intro Q7 n7 e7 r7
  refine v_seq ?_; intro Q8 n8 e8 r8
  refine v_region ?_; intro K9 k9
  -- 11 := move t4
  refine v_op ?_; intro K k
  simp only [aStepM, optable, get_mk, look_cons, look_nil, set_some, set_none, ev_tmp, ev_const, ev_func, Nat.reduceEqDiff, reduceIte, dst_some, dst_none, Nat.reduceLT, List.append_nil, List.nil_append, true_and, and_true, and_self, implies_true, forall_const, imp_self, Bool.false_eq_true, false_implies, cond_true, cond_false, decide_eq_true_eq, eq_self_iff_true, exists_eq_left', Option.some.injEq, reduceCtorEq, not_false_eq_true, not_true_eq_false, ne_eq, V.ofValue, V.ofScalar, V.un, V.gd, aExec, aop, ]
  repeat (refine And.intro (by first | omega | (intros; omega) | (intros; simp_all; done) | (intros; simp_all; omega)) ?_)
  refine k _ ?_; clear k K
  -- 12 := move t3
  refine v_op ?_; intro K k
  simp only [aStepM, optable, get_mk, look_cons, look_nil, set_some, set_none, ev_tmp, ev_const, ev_func, Nat.reduceEqDiff, reduceIte, dst_some, dst_none, Nat.reduceLT, List.append_nil, List.nil_append, true_and, and_true, and_self, implies_true, forall_const, imp_self, Bool.false_eq_true, false_implies, cond_true, cond_false, decide_eq_true_eq, eq_self_iff_true, exists_eq_left', Option.some.injEq, reduceCtorEq, not_false_eq_true, not_true_eq_false, ne_eq, V.ofValue, V.ofScalar, V.un, V.gd, aExec, aop, ]
  repeat (refine And.intro (by first | omega | (intros; omega) | (intros; simp_all; done) | (intros; simp_all; omega)) ?_)
  refine k _ ?_; clear k K
  -- 13 := binOp Go.BinOp.neq 4 t11 t12 4
  refine v_op ?_; intro K k
  simp only [aStepM, optable, get_mk, look_cons, look_nil, set_some, set_none, ev_tmp, ev_const, ev_func, Nat.reduceEqDiff, reduceIte, dst_some, dst_none, Nat.reduceLT, List.append_nil, List.nil_append, true_and, and_true, and_self, implies_true, forall_const, imp_self, Bool.false_eq_true, false_implies, cond_true, cond_false, decide_eq_true_eq, eq_self_iff_true, exists_eq_left', Option.some.injEq, reduceCtorEq, not_false_eq_true, not_true_eq_false, ne_eq, V.ofValue, V.ofScalar, V.un, V.gd, aExec, aop, aBin, Try.underlying4]
  repeat (refine And.intro (by first | omega | (intros; omega) | (intros; simp_all; done) | (intros; simp_all; omega)) ?_)
  refine k _ ?_; clear k K
  refine k9 _ ?_
  refine n8 _ _ (weak_keep [13] _) ?_
  simp only [keep_mk, keepE_nil, keepE_cons, look_cons, look_nil, Nat.reduceEqDiff, reduceIte]
  refine v_cond _ rfl ?_ ?_  -- COND 0
  · intro hc0
    exfalso; simp at hc0
  · intro hc0
    simp only [decide_eq_true_eq, decide_eq_false_iff_not, Bool.and_eq_true, Bool.or_eq_true, Bool.not_eq_true', Bool.not_eq_false', Bool.and_eq_false_imp, Bool.or_eq_false_iff, Int.not_lt, Int.not_le, reduceCtorEq, Bool.true_eq_false, Bool.false_eq_true, imp_false, Classical.not_imp] at hc0
    refine v_skip ?_
    refine n7 _ _ (weak_keep [] _) ?_
    simp only [keep_mk, keepE_nil, keepE_cons, look_cons, look_nil, Nat.reduceEqDiff, reduceIte]
    refine v_seq ?_; intro Q11 n11 e11 r11
    refine v_region ?_; intro K12 k12
    -- 2 := assign c<true>
    refine v_op ?_; intro K k
    simp only [aStepM, optable, get_mk, look_cons, look_nil, set_some, set_none, ev_tmp, ev_const, ev_func, Nat.reduceEqDiff, reduceIte, dst_some, dst_none, Nat.reduceLT, List.append_nil, List.nil_append, true_and, and_true, and_self, implies_true, forall_const, imp_self, Bool.false_eq_true, false_implies, cond_true, cond_false, decide_eq_true_eq, eq_self_iff_true, exists_eq_left', Option.some.injEq, reduceCtorEq, not_false_eq_true, not_true_eq_false, ne_eq, V.ofValue, V.ofScalar, V.un, V.gd, aExec, aop, settle_int, settle_bool, settle_str, settle_nsl, settle_sl, settle_ref, settle_sub, settle_ptr, settle_pv, settle_tup, settle_fn, settle_npt, settle_agg, settleL_nil, settleL_nsl, settleL_int, settleL_bool, settleL_str, settleL_sl, settleL_ref, List.length_nil, List.length_cons, List.length_append, Nat.reduceAdd, Nat.zero_add, Nat.add_zero, List.cons_append]
    repeat (refine And.intro (by first | omega | (intros; omega) | (intros; simp_all; done) | (intros; simp_all; omega)) ?_)
    refine k _ ?_; clear k K
    refine k12 _ ?_
    refine n11 _ _ (weak_keep [2] _) ?_
    simp only [keep_mk, keepE_nil, keepE_cons, look_cons, look_nil, Nat.reduceEqDiff, reduceIte]
    refine v_ret ?_
    refine r0 _ ?_
    simp only [resK, pickRV, get_mk, look_cons, look_nil, Nat.reduceEqDiff, reduceIte, List.map_cons, List.map_nil]
    exact ret_pure rfl (by first | rfl | simp) (.inl rfl)
end Go.Proofs.Ythehbhfjapinnaa
