/- What functions compute (Extremes). No condition. -/
import Derived.Test.YthehbhfjapinnaaTy
import Derived.Test.YthehbhfjapinnaaVm20
import Derived.Test.YthehbhfjapinnaaWBase
set_option linter.unusedSimpArgs false
set_option linter.unusedVariables false
namespace Go.Proofs.Ythehbhfjapinnaa
open Go Go.Vm

def mostL (l : List Int) (a : Int) : Int := l.foldl (fun m x => if x > m then x else m) a
def leastL (l : List Int) (a : Int) : Int := l.foldl (fun m x => if x < m then x else m) a
theorem most_step {l : List Int} {i : Nat} {x : Int} (h : l[i]? = some x) (m : Int) : mostL (l.drop i) m = mostL (l.drop (i + 1)) (if x > m then x else m) := foldl_drop h m
theorem least_step {l : List Int} {i : Nat} {x : Int} (h : l[i]? = some x) (m : Int) : leastL (l.drop i) m = leastL (l.drop (i + 1)) (if x < m then x else m) := foldl_drop h m
theorem most_end {l : List Int} {i : Nat} (h : l.length ≤ i) (m : Int) : mostL (l.drop i) m = m := foldl_end h m
theorem least_end {l : List Int} {i : Nat} (h : l.length ≤ i) (m : Int) : leastL (l.drop i) m = m := foldl_end h m
theorem most_cons (x : Int) (l : List Int) : mostL (x :: l) x = mostL l x := by simp [mostL]
theorem least_cons (x : Int) (l : List Int) : leastL (x :: l) x = leastL l x := by simp [leastL]

-- loop.example/g01020/spec.l1Least
set_option maxHeartbeats 1000000 in
theorem l1Least_con (a b : Int) : Con Try.prog 50 [.int .i64 a, .int .i64 b] [] (.int .i64 (if b < a then b else a)) [] := by
  refine v_con [.tmp 4] [] Try.func50 rfl rfl rfl (by simp [Try.ntmps50]) ?_
  intro Q0 n0 r0
  simp only [Try.ntmps50, envFrom, Nat.reduceAdd]
  refine v_seq ?_; intro Q1 n1 e1 r1
  refine v_region ?_; intro K2 k2
  -- 4 := assign c<0:i64>
  refine v_op ?_; intro K k
  simp only [aStepM, optable, get_mk, look_cons, look_nil, set_some, set_none, ev_tmp, ev_const, ev_func, Nat.reduceEqDiff, reduceIte, dst_some, dst_none, Nat.reduceLT, List.append_nil, List.nil_append, true_and, and_true, and_self, implies_true, forall_const, imp_self, Bool.false_eq_true, false_implies, cond_true, cond_false, decide_eq_true_eq, eq_self_iff_true, exists_eq_left', Option.some.injEq, reduceCtorEq, not_false_eq_true, not_true_eq_false, ne_eq, V.ofValue, V.ofScalar, V.un, V.gd, aExec, aop, settle_int, settle_bool, settle_str, settle_nsl, settle_sl, settle_ref, settle_sub, settle_ptr, settle_pv, settle_tup, settle_fn, settle_npt, settle_agg, settleL_nil, settleL_nsl, settleL_int, settleL_bool, settleL_str, settleL_sl, settleL_ref, List.length_nil, List.length_cons, List.length_append, Nat.reduceAdd, Nat.zero_add, Nat.add_zero, List.cons_append]
  repeat (refine And.intro (by first | omega | (intros; omega) | (intros; simp_all; done) | (intros; simp_all; omega)) ?_)
  refine k _ ?_; clear k K
  refine k2 _ ?_
  refine n1 _ _ (weak_keep [0, 1] _) ?_
  simp only [keep_mk, keepE_nil, keepE_cons, look_cons, look_nil, Nat.reduceEqDiff, reduceIte]
  refine v_seq ?_; intro Q3 n3 e3 r3
  refine v_seq ?_; intro Q4 n4 e4 r4
  refine v_region ?_; intro K5 k5
  -- 5 := move t0
  refine v_op ?_; intro K k
  simp only [aStepM, optable, get_mk, look_cons, look_nil, set_some, set_none, ev_tmp, ev_const, ev_func, Nat.reduceEqDiff, reduceIte, dst_some, dst_none, Nat.reduceLT, List.append_nil, List.nil_append, true_and, and_true, and_self, implies_true, forall_const, imp_self, Bool.false_eq_true, false_implies, cond_true, cond_false, decide_eq_true_eq, eq_self_iff_true, exists_eq_left', Option.some.injEq, reduceCtorEq, not_false_eq_true, not_true_eq_false, ne_eq, V.ofValue, V.ofScalar, V.un, V.gd, aExec, aop, ]
  repeat (refine And.intro (by first | omega | (intros; omega) | (intros; simp_all; done) | (intros; simp_all; omega)) ?_)
  refine k _ ?_; clear k K
  -- 6 := move t1
  refine v_op ?_; intro K k
  simp only [aStepM, optable, get_mk, look_cons, look_nil, set_some, set_none, ev_tmp, ev_const, ev_func, Nat.reduceEqDiff, reduceIte, dst_some, dst_none, Nat.reduceLT, List.append_nil, List.nil_append, true_and, and_true, and_self, implies_true, forall_const, imp_self, Bool.false_eq_true, false_implies, cond_true, cond_false, decide_eq_true_eq, eq_self_iff_true, exists_eq_left', Option.some.injEq, reduceCtorEq, not_false_eq_true, not_true_eq_false, ne_eq, V.ofValue, V.ofScalar, V.un, V.gd, aExec, aop, ]
  repeat (refine And.intro (by first | omega | (intros; omega) | (intros; simp_all; done) | (intros; simp_all; omega)) ?_)
  refine k _ ?_; clear k K
  -- 7 := binOp Go.BinOp.lss 3 t5 t6 3
  refine v_op ?_; intro K k
  simp only [aStepM, optable, get_mk, look_cons, look_nil, set_some, set_none, ev_tmp, ev_const, ev_func, Nat.reduceEqDiff, reduceIte, dst_some, dst_none, Nat.reduceLT, List.append_nil, List.nil_append, true_and, and_true, and_self, implies_true, forall_const, imp_self, Bool.false_eq_true, false_implies, cond_true, cond_false, decide_eq_true_eq, eq_self_iff_true, exists_eq_left', Option.some.injEq, reduceCtorEq, not_false_eq_true, not_true_eq_false, ne_eq, V.ofValue, V.ofScalar, V.un, V.gd, aExec, aop, aBin, Try.underlying3]
  repeat (refine And.intro (by first | omega | (intros; omega) | (intros; simp_all; done) | (intros; simp_all; omega)) ?_)
  refine k _ ?_; clear k K
  refine k5 _ ?_
  refine n4 _ _ (weak_keep [0, 1, 7] _) ?_
  simp only [keep_mk, keepE_nil, keepE_cons, look_cons, look_nil, Nat.reduceEqDiff, reduceIte]
  refine v_cond _ rfl ?_ ?_  -- COND 0
  · intro hc0
    simp only [decide_eq_true_eq, decide_eq_false_iff_not, Bool.and_eq_true, Bool.or_eq_true, Bool.not_eq_true', Bool.not_eq_false', Bool.and_eq_false_imp, Bool.or_eq_false_iff, Int.not_lt, Int.not_le, reduceCtorEq, Bool.true_eq_false, Bool.false_eq_true, imp_false, Classical.not_imp] at hc0
    refine v_seq ?_; intro Q7 n7 e7 r7
    refine v_region ?_; intro K8 k8
    -- 8 := move t0
    refine v_op ?_; intro K k
    simp only [aStepM, optable, get_mk, look_cons, look_nil, set_some, set_none, ev_tmp, ev_const, ev_func, Nat.reduceEqDiff, reduceIte, dst_some, dst_none, Nat.reduceLT, List.append_nil, List.nil_append, true_and, and_true, and_self, implies_true, forall_const, imp_self, Bool.false_eq_true, false_implies, cond_true, cond_false, decide_eq_true_eq, eq_self_iff_true, exists_eq_left', Option.some.injEq, reduceCtorEq, not_false_eq_true, not_true_eq_false, ne_eq, V.ofValue, V.ofScalar, V.un, V.gd, aExec, aop, ]
    repeat (refine And.intro (by first | omega | (intros; omega) | (intros; simp_all; done) | (intros; simp_all; omega)) ?_)
    refine k _ ?_; clear k K
    -- 4 := assign t8
    refine v_op ?_; intro K k
    simp only [aStepM, optable, get_mk, look_cons, look_nil, set_some, set_none, ev_tmp, ev_const, ev_func, Nat.reduceEqDiff, reduceIte, dst_some, dst_none, Nat.reduceLT, List.append_nil, List.nil_append, true_and, and_true, and_self, implies_true, forall_const, imp_self, Bool.false_eq_true, false_implies, cond_true, cond_false, decide_eq_true_eq, eq_self_iff_true, exists_eq_left', Option.some.injEq, reduceCtorEq, not_false_eq_true, not_true_eq_false, ne_eq, V.ofValue, V.ofScalar, V.un, V.gd, aExec, aop, settle_int, settle_bool, settle_str, settle_nsl, settle_sl, settle_ref, settle_sub, settle_ptr, settle_pv, settle_tup, settle_fn, settle_npt, settle_agg, settleL_nil, settleL_nsl, settleL_int, settleL_bool, settleL_str, settleL_sl, settleL_ref, List.length_nil, List.length_cons, List.length_append, Nat.reduceAdd, Nat.zero_add, Nat.add_zero, List.cons_append]
    repeat (refine And.intro (by first | omega | (intros; omega) | (intros; simp_all; done) | (intros; simp_all; omega)) ?_)
    refine k _ ?_; clear k K
    refine k8 _ ?_
    refine n7 _ _ (weak_keep [4] _) ?_
    simp only [keep_mk, keepE_nil, keepE_cons, look_cons, look_nil, Nat.reduceEqDiff, reduceIte]
    refine v_ret ?_
    refine r3 _ ?_
    refine r0 _ ?_
    simp only [resK, pickRV, get_mk, look_cons, look_nil, Nat.reduceEqDiff, reduceIte, List.map_cons, List.map_nil]
    exact ret_pure rfl (by congr 1; split <;> omega) (.inl rfl)
  · intro hc0
    simp only [decide_eq_true_eq, decide_eq_false_iff_not, Bool.and_eq_true, Bool.or_eq_true, Bool.not_eq_true', Bool.not_eq_false', Bool.and_eq_false_imp, Bool.or_eq_false_iff, Int.not_lt, Int.not_le, reduceCtorEq, Bool.true_eq_false, Bool.false_eq_true, imp_false, Classical.not_imp] at hc0
    refine v_skip ?_
    refine n3 _ _ (weak_keep [1] _) ?_
    simp only [keep_mk, keepE_nil, keepE_cons, look_cons, look_nil, Nat.reduceEqDiff, reduceIte]
    refine v_seq ?_; intro Q9 n9 e9 r9
    refine v_region ?_; intro K10 k10
    -- 9 := move t1
    refine v_op ?_; intro K k
    simp only [aStepM, optable, get_mk, look_cons, look_nil, set_some, set_none, ev_tmp, ev_const, ev_func, Nat.reduceEqDiff, reduceIte, dst_some, dst_none, Nat.reduceLT, List.append_nil, List.nil_append, true_and, and_true, and_self, implies_true, forall_const, imp_self, Bool.false_eq_true, false_implies, cond_true, cond_false, decide_eq_true_eq, eq_self_iff_true, exists_eq_left', Option.some.injEq, reduceCtorEq, not_false_eq_true, not_true_eq_false, ne_eq, V.ofValue, V.ofScalar, V.un, V.gd, aExec, aop, ]
    repeat (refine And.intro (by first | omega | (intros; omega) | (intros; simp_all; done) | (intros; simp_all; omega)) ?_)
    refine k _ ?_; clear k K
    -- 4 := assign t9
    refine v_op ?_; intro K k
    simp only [aStepM, optable, get_mk, look_cons, look_nil, set_some, set_none, ev_tmp, ev_const, ev_func, Nat.reduceEqDiff, reduceIte, dst_some, dst_none, Nat.reduceLT, List.append_nil, List.nil_append, true_and, and_true, and_self, implies_true, forall_const, imp_self, Bool.false_eq_true, false_implies, cond_true, cond_false, decide_eq_true_eq, eq_self_iff_true, exists_eq_left', Option.some.injEq, reduceCtorEq, not_false_eq_true, not_true_eq_false, ne_eq, V.ofValue, V.ofScalar, V.un, V.gd, aExec, aop, settle_int, settle_bool, settle_str, settle_nsl, settle_sl, settle_ref, settle_sub, settle_ptr, settle_pv, settle_tup, settle_fn, settle_npt, settle_agg, settleL_nil, settleL_nsl, settleL_int, settleL_bool, settleL_str, settleL_sl, settleL_ref, List.length_nil, List.length_cons, List.length_append, Nat.reduceAdd, Nat.zero_add, Nat.add_zero, List.cons_append]
    repeat (refine And.intro (by first | omega | (intros; omega) | (intros; simp_all; done) | (intros; simp_all; omega)) ?_)
    refine k _ ?_; clear k K
    refine k10 _ ?_
    refine n9 _ _ (weak_keep [4] _) ?_
    simp only [keep_mk, keepE_nil, keepE_cons, look_cons, look_nil, Nat.reduceEqDiff, reduceIte]
    refine v_ret ?_
    refine r0 _ ?_
    simp only [resK, pickRV, get_mk, look_cons, look_nil, Nat.reduceEqDiff, reduceIte, List.map_cons, List.map_nil]
    exact ret_pure rfl (by congr 1; split <;> omega) (.inl rfl)
-- loop.example/g01020/spec.l1Most
set_option maxHeartbeats 1000000 in
theorem l1Most_con (a b : Int) : Con Try.prog 51 [.int .i64 a, .int .i64 b] [] (.int .i64 (if b > a then b else a)) [] := by
  refine v_con [.tmp 4] [] Try.func51 rfl rfl rfl (by simp [Try.ntmps51]) ?_
  intro Q0 n0 r0
  simp only [Try.ntmps51, envFrom, Nat.reduceAdd]
  refine v_seq ?_; intro Q1 n1 e1 r1
  refine v_region ?_; intro K2 k2
  -- 4 := assign c<0:i64>
  refine v_op ?_; intro K k
  simp only [aStepM, optable, get_mk, look_cons, look_nil, set_some, set_none, ev_tmp, ev_const, ev_func, Nat.reduceEqDiff, reduceIte, dst_some, dst_none, Nat.reduceLT, List.append_nil, List.nil_append, true_and, and_true, and_self, implies_true, forall_const, imp_self, Bool.false_eq_true, false_implies, cond_true, cond_false, decide_eq_true_eq, eq_self_iff_true, exists_eq_left', Option.some.injEq, reduceCtorEq, not_false_eq_true, not_true_eq_false, ne_eq, V.ofValue, V.ofScalar, V.un, V.gd, aExec, aop, settle_int, settle_bool, settle_str, settle_nsl, settle_sl, settle_ref, settle_sub, settle_ptr, settle_pv, settle_tup, settle_fn, settle_npt, settle_agg, settleL_nil, settleL_nsl, settleL_int, settleL_bool, settleL_str, settleL_sl, settleL_ref, List.length_nil, List.length_cons, List.length_append, Nat.reduceAdd, Nat.zero_add, Nat.add_zero, List.cons_append]
  repeat (refine And.intro (by first | omega | (intros; omega) | (intros; simp_all; done) | (intros; simp_all; omega)) ?_)
  refine k _ ?_; clear k K
  refine k2 _ ?_
  refine n1 _ _ (weak_keep [0, 1] _) ?_
  simp only [keep_mk, keepE_nil, keepE_cons, look_cons, look_nil, Nat.reduceEqDiff, reduceIte]
  refine v_seq ?_; intro Q3 n3 e3 r3
  refine v_seq ?_; intro Q4 n4 e4 r4
  refine v_region ?_; intro K5 k5
  -- 5 := move t0
  refine v_op ?_; intro K k
  simp only [aStepM, optable, get_mk, look_cons, look_nil, set_some, set_none, ev_tmp, ev_const, ev_func, Nat.reduceEqDiff, reduceIte, dst_some, dst_none, Nat.reduceLT, List.append_nil, List.nil_append, true_and, and_true, and_self, implies_true, forall_const, imp_self, Bool.false_eq_true, false_implies, cond_true, cond_false, decide_eq_true_eq, eq_self_iff_true, exists_eq_left', Option.some.injEq, reduceCtorEq, not_false_eq_true, not_true_eq_false, ne_eq, V.ofValue, V.ofScalar, V.un, V.gd, aExec, aop, ]
  repeat (refine And.intro (by first | omega | (intros; omega) | (intros; simp_all; done) | (intros; simp_all; omega)) ?_)
  refine k _ ?_; clear k K
  -- 6 := move t1
  refine v_op ?_; intro K k
  simp only [aStepM, optable, get_mk, look_cons, look_nil, set_some, set_none, ev_tmp, ev_const, ev_func, Nat.reduceEqDiff, reduceIte, dst_some, dst_none, Nat.reduceLT, List.append_nil, List.nil_append, true_and, and_true, and_self, implies_true, forall_const, imp_self, Bool.false_eq_true, false_implies, cond_true, cond_false, decide_eq_true_eq, eq_self_iff_true, exists_eq_left', Option.some.injEq, reduceCtorEq, not_false_eq_true, not_true_eq_false, ne_eq, V.ofValue, V.ofScalar, V.un, V.gd, aExec, aop, ]
  repeat (refine And.intro (by first | omega | (intros; omega) | (intros; simp_all; done) | (intros; simp_all; omega)) ?_)
  refine k _ ?_; clear k K
  -- 7 := binOp Go.BinOp.gtr 3 t5 t6 3
  refine v_op ?_; intro K k
  simp only [aStepM, optable, get_mk, look_cons, look_nil, set_some, set_none, ev_tmp, ev_const, ev_func, Nat.reduceEqDiff, reduceIte, dst_some, dst_none, Nat.reduceLT, List.append_nil, List.nil_append, true_and, and_true, and_self, implies_true, forall_const, imp_self, Bool.false_eq_true, false_implies, cond_true, cond_false, decide_eq_true_eq, eq_self_iff_true, exists_eq_left', Option.some.injEq, reduceCtorEq, not_false_eq_true, not_true_eq_false, ne_eq, V.ofValue, V.ofScalar, V.un, V.gd, aExec, aop, aBin, Try.underlying3]
  repeat (refine And.intro (by first | omega | (intros; omega) | (intros; simp_all; done) | (intros; simp_all; omega)) ?_)
  refine k _ ?_; clear k K
  refine k5 _ ?_
  refine n4 _ _ (weak_keep [0, 1, 7] _) ?_
  simp only [keep_mk, keepE_nil, keepE_cons, look_cons, look_nil, Nat.reduceEqDiff, reduceIte]
  refine v_cond _ rfl ?_ ?_  -- COND 0
  · intro hc0
    simp only [decide_eq_true_eq, decide_eq_false_iff_not, Bool.and_eq_true, Bool.or_eq_true, Bool.not_eq_true', Bool.not_eq_false', Bool.and_eq_false_imp, Bool.or_eq_false_iff, Int.not_lt, Int.not_le, reduceCtorEq, Bool.true_eq_false, Bool.false_eq_true, imp_false, Classical.not_imp] at hc0
    refine v_seq ?_; intro Q7 n7 e7 r7
    refine v_region ?_; intro K8 k8
    -- 8 := move t0
    refine v_op ?_; intro K k
    simp only [aStepM, optable, get_mk, look_cons, look_nil, set_some, set_none, ev_tmp, ev_const, ev_func, Nat.reduceEqDiff, reduceIte, dst_some, dst_none, Nat.reduceLT, List.append_nil, List.nil_append, true_and, and_true, and_self, implies_true, forall_const, imp_self, Bool.false_eq_true, false_implies, cond_true, cond_false, decide_eq_true_eq, eq_self_iff_true, exists_eq_left', Option.some.injEq, reduceCtorEq, not_false_eq_true, not_true_eq_false, ne_eq, V.ofValue, V.ofScalar, V.un, V.gd, aExec, aop, ]
    repeat (refine And.intro (by first | omega | (intros; omega) | (intros; simp_all; done) | (intros; simp_all; omega)) ?_)
    refine k _ ?_; clear k K
    -- 4 := assign t8
    refine v_op ?_; intro K k
    simp only [aStepM, optable, get_mk, look_cons, look_nil, set_some, set_none, ev_tmp, ev_const, ev_func, Nat.reduceEqDiff, reduceIte, dst_some, dst_none, Nat.reduceLT, List.append_nil, List.nil_append, true_and, and_true, and_self, implies_true, forall_const, imp_self, Bool.false_eq_true, false_implies, cond_true, cond_false, decide_eq_true_eq, eq_self_iff_true, exists_eq_left', Option.some.injEq, reduceCtorEq, not_false_eq_true, not_true_eq_false, ne_eq, V.ofValue, V.ofScalar, V.un, V.gd, aExec, aop, settle_int, settle_bool, settle_str, settle_nsl, settle_sl, settle_ref, settle_sub, settle_ptr, settle_pv, settle_tup, settle_fn, settle_npt, settle_agg, settleL_nil, settleL_nsl, settleL_int, settleL_bool, settleL_str, settleL_sl, settleL_ref, List.length_nil, List.length_cons, List.length_append, Nat.reduceAdd, Nat.zero_add, Nat.add_zero, List.cons_append]
    repeat (refine And.intro (by first | omega | (intros; omega) | (intros; simp_all; done) | (intros; simp_all; omega)) ?_)
    refine k _ ?_; clear k K
    refine k8 _ ?_
    refine n7 _ _ (weak_keep [4] _) ?_
    simp only [keep_mk, keepE_nil, keepE_cons, look_cons, look_nil, Nat.reduceEqDiff, reduceIte]
    refine v_ret ?_
    refine r3 _ ?_
    refine r0 _ ?_
    simp only [resK, pickRV, get_mk, look_cons, look_nil, Nat.reduceEqDiff, reduceIte, List.map_cons, List.map_nil]
    exact ret_pure rfl (by congr 1; split <;> omega) (.inl rfl)
  · intro hc0
    simp only [decide_eq_true_eq, decide_eq_false_iff_not, Bool.and_eq_true, Bool.or_eq_true, Bool.not_eq_true', Bool.not_eq_false', Bool.and_eq_false_imp, Bool.or_eq_false_iff, Int.not_lt, Int.not_le, reduceCtorEq, Bool.true_eq_false, Bool.false_eq_true, imp_false, Classical.not_imp] at hc0
    refine v_skip ?_
    refine n3 _ _ (weak_keep [1] _) ?_
    simp only [keep_mk, keepE_nil, keepE_cons, look_cons, look_nil, Nat.reduceEqDiff, reduceIte]
    refine v_seq ?_; intro Q9 n9 e9 r9
    refine v_region ?_; intro K10 k10
    -- 9 := move t1
    refine v_op ?_; intro K k
    simp only [aStepM, optable, get_mk, look_cons, look_nil, set_some, set_none, ev_tmp, ev_const, ev_func, Nat.reduceEqDiff, reduceIte, dst_some, dst_none, Nat.reduceLT, List.append_nil, List.nil_append, true_and, and_true, and_self, implies_true, forall_const, imp_self, Bool.false_eq_true, false_implies, cond_true, cond_false, decide_eq_true_eq, eq_self_iff_true, exists_eq_left', Option.some.injEq, reduceCtorEq, not_false_eq_true, not_true_eq_false, ne_eq, V.ofValue, V.ofScalar, V.un, V.gd, aExec, aop, ]
    repeat (refine And.intro (by first | omega | (intros; omega) | (intros; simp_all; done) | (intros; simp_all; omega)) ?_)
    refine k _ ?_; clear k K
    -- 4 := assign t9
    refine v_op ?_; intro K k
    simp only [aStepM, optable, get_mk, look_cons, look_nil, set_some, set_none, ev_tmp, ev_const, ev_func, Nat.reduceEqDiff, reduceIte, dst_some, dst_none, Nat.reduceLT, List.append_nil, List.nil_append, true_and, and_true, and_self, implies_true, forall_const, imp_self, Bool.false_eq_true, false_implies, cond_true, cond_false, decide_eq_true_eq, eq_self_iff_true, exists_eq_left', Option.some.injEq, reduceCtorEq, not_false_eq_true, not_true_eq_false, ne_eq, V.ofValue, V.ofScalar, V.un, V.gd, aExec, aop, settle_int, settle_bool, settle_str, settle_nsl, settle_sl, settle_ref, settle_sub, settle_ptr, settle_pv, settle_tup, settle_fn, settle_npt, settle_agg, settleL_nil, settleL_nsl, settleL_int, settleL_bool, settleL_str, settleL_sl, settleL_ref, List.length_nil, List.length_cons, List.length_append, Nat.reduceAdd, Nat.zero_add, Nat.add_zero, List.cons_append]
    repeat (refine And.intro (by first | omega | (intros; omega) | (intros; simp_all; done) | (intros; simp_all; omega)) ?_)
    refine k _ ?_; clear k K
    refine k10 _ ?_
    refine n9 _ _ (weak_keep [4] _) ?_
    simp only [keep_mk, keepE_nil, keepE_cons, look_cons, look_nil, Nat.reduceEqDiff, reduceIte]
    refine v_ret ?_
    refine r0 _ ?_
    simp only [resK, pickRV, get_mk, look_cons, look_nil, Nat.reduceEqDiff, reduceIte, List.map_cons, List.map_nil]
    exact ret_pure rfl (by congr 1; split <;> omega) (.inl rfl)
-- slices.Max[[]int,int]
set_option maxHeartbeats 1000000 in
theorem slMax_con (x : Int) (l : List Int) (hl : (x :: l).length ≤ 1048576) : Con Try.prog 52 [.sl ((x :: l).map (V.int .i64))] [] (.int .i64 (mostL l x)) [] := by
  obtain ⟨xl, hxl⟩ : ∃ xl, xl = x :: l := ⟨_, rfl⟩
  have h0 : xl[0]? = some x := by rw [hxl]; rfl
  have hres : mostL (xl.drop 1) x = mostL l x := by rw [hxl]; rfl
  rw [← hxl] at hl ⊢
  rw [← hres]
  have hpos : 0 < xl.length := by rw [hxl]; simp
  refine v_con [.tmp 2] [] Try.func52 rfl rfl rfl (by simp [Try.ntmps52]) ?_
  intro Q0 n0 r0
  simp only [Try.ntmps52, envFrom, Nat.reduceAdd]
  refine v_seq ?_; intro Q1 n1 e1 r1
  refine v_region ?_; intro K2 k2
  -- 2 := assign c<0:i64>
  refine v_op ?_; intro K k
  simp only [aStepM, optable, get_mk, look_cons, look_nil, set_some, set_none, ev_tmp, ev_const, ev_func, Nat.reduceEqDiff, reduceIte, dst_some, dst_none, Nat.reduceLT, List.append_nil, List.nil_append, true_and, and_true, and_self, implies_true, forall_const, imp_self, Bool.false_eq_true, false_implies, cond_true, cond_false, decide_eq_true_eq, eq_self_iff_true, exists_eq_left', Option.some.injEq, reduceCtorEq, not_false_eq_true, not_true_eq_false, ne_eq, V.ofValue, V.ofScalar, V.un, V.gd, aExec, aop, settle_int, settle_bool, settle_str, settle_nsl, settle_sl, settle_ref, settle_sub, settle_ptr, settle_pv, settle_tup, settle_fn, settle_npt, settle_agg, settleL_nil, settleL_nsl, settleL_int, settleL_bool, settleL_str, settleL_sl, settleL_ref, List.length_nil, List.length_cons, List.length_append, Nat.reduceAdd, Nat.zero_add, Nat.add_zero, List.cons_append, getD_map h0]
  repeat (refine And.intro (by first | omega | (intros; omega) | (intros; simp_all; done) | (intros; simp_all; omega)) ?_)
  refine k _ ?_; clear k K
  refine k2 _ ?_
  refine n1 _ _ (weak_keep [0] _) ?_
  simp only [keep_mk, keepE_nil, keepE_cons, look_cons, look_nil, Nat.reduceEqDiff, reduceIte]
  refine v_seq ?_; intro Q3 n3 e3 r3
  refine v_seq ?_; intro Q4 n4 e4 r4
  refine v_region ?_; intro K5 k5
  -- 5 := move t0
  refine v_op ?_; intro K k
  simp only [aStepM, optable, get_mk, look_cons, look_nil, set_some, set_none, ev_tmp, ev_const, ev_func, Nat.reduceEqDiff, reduceIte, dst_some, dst_none, Nat.reduceLT, List.append_nil, List.nil_append, true_and, and_true, and_self, implies_true, forall_const, imp_self, Bool.false_eq_true, false_implies, cond_true, cond_false, decide_eq_true_eq, eq_self_iff_true, exists_eq_left', Option.some.injEq, reduceCtorEq, not_false_eq_true, not_true_eq_false, ne_eq, V.ofValue, V.ofScalar, V.un, V.gd, aExec, aop, getD_map h0]
  repeat (refine And.intro (by first | omega | (intros; omega) | (intros; simp_all; done) | (intros; simp_all; omega)) ?_)
  refine k _ ?_; clear k K
  -- 6 := call b Go.Builtin.len t5 | 33
  refine v_op ?_; intro K k
  simp only [aStepM, optable, get_mk, look_cons, look_nil, set_some, set_none, ev_tmp, ev_const, ev_func, Nat.reduceEqDiff, reduceIte, dst_some, dst_none, Nat.reduceLT, List.append_nil, List.nil_append, true_and, and_true, and_self, implies_true, forall_const, imp_self, Bool.false_eq_true, false_implies, cond_true, cond_false, decide_eq_true_eq, eq_self_iff_true, exists_eq_left', Option.some.injEq, reduceCtorEq, not_false_eq_true, not_true_eq_false, ne_eq, V.ofValue, V.ofScalar, V.un, V.gd, aExec, aop, List.length_map, aLen, lenOK, row_mk, Blk.row, List.size_toArray, List.getD_eq_getElem?_getD, Array.getD_eq_getD_getElem?, Option.getD_some, List.getElem?_toArray, List.getElem?_cons_succ, List.getElem?_cons_zero, List.getD_cons_zero, List.getD_cons_succ, List.length_cons, List.length_nil, List.drop_zero, List.drop_succ_cons, List.headD_cons, List.take_succ_cons, List.take_zero, List.take_nil, List.drop_nil, List.map_cons, List.map_nil, Option.bind_some, Option.isSome_some, Option.map_some, Nat.zero_lt_one, Nat.lt_add_one, Nat.zero_add, Nat.add_zero, Nat.reduceAdd, Nat.reduceLeDiff, Nat.reduceLT, Nat.reduceMul, Nat.le_refl, Nat.zero_lt_succ, Try.underlying3, Ty.c3, Ty.a3, Ty.b3, Ty.s3, Try.underlying33, Ty.c33, Ty.a33, Ty.b33, Ty.s33, getD_map h0]
  repeat (refine And.intro (by first | omega | (intros; omega) | (intros; simp_all; done) | (intros; simp_all; omega)) ?_)
  refine k _ ?_; clear k K
  -- 7 := binOp Go.BinOp.lss 3 t6 c<1:i64> 3
  refine v_op ?_; intro K k
  simp only [aStepM, optable, get_mk, look_cons, look_nil, set_some, set_none, ev_tmp, ev_const, ev_func, Nat.reduceEqDiff, reduceIte, dst_some, dst_none, Nat.reduceLT, List.append_nil, List.nil_append, true_and, and_true, and_self, implies_true, forall_const, imp_self, Bool.false_eq_true, false_implies, cond_true, cond_false, decide_eq_true_eq, eq_self_iff_true, exists_eq_left', Option.some.injEq, reduceCtorEq, not_false_eq_true, not_true_eq_false, ne_eq, V.ofValue, V.ofScalar, V.un, V.gd, aExec, aop, aBin, Try.underlying3, getD_map h0]
  repeat (refine And.intro (by first | omega | (intros; omega) | (intros; simp_all; done) | (intros; simp_all; omega)) ?_)
  refine k _ ?_; clear k K
  refine k5 _ ?_
  refine n4 _ _ (weak_keep [0, 7] _) ?_
  simp only [keep_mk, keepE_nil, keepE_cons, look_cons, look_nil, Nat.reduceEqDiff, reduceIte]
  refine v_cond _ rfl ?_ ?_  -- COND 0
  · intro hc0
    exfalso; have hq := of_decide_eq_true hc0; omega
  · intro hc0
    simp only [decide_eq_true_eq, decide_eq_false_iff_not, Bool.and_eq_true, Bool.or_eq_true, Bool.not_eq_true', Bool.not_eq_false', Bool.and_eq_false_imp, Bool.or_eq_false_iff, Int.not_lt, Int.not_le, reduceCtorEq, Bool.true_eq_false, Bool.false_eq_true, imp_false, Classical.not_imp] at hc0
    refine v_skip ?_
    refine n3 _ _ (weak_keep [0] _) ?_
    simp only [keep_mk, keepE_nil, keepE_cons, look_cons, look_nil, Nat.reduceEqDiff, reduceIte]
    refine v_seq ?_; intro Q7 n7 e7 r7
    refine v_region ?_; intro K8 k8
    -- 9 := move t0
    refine v_op ?_; intro K k
    simp only [aStepM, optable, get_mk, look_cons, look_nil, set_some, set_none, ev_tmp, ev_const, ev_func, Nat.reduceEqDiff, reduceIte, dst_some, dst_none, Nat.reduceLT, List.append_nil, List.nil_append, true_and, and_true, and_self, implies_true, forall_const, imp_self, Bool.false_eq_true, false_implies, cond_true, cond_false, decide_eq_true_eq, eq_self_iff_true, exists_eq_left', Option.some.injEq, reduceCtorEq, not_false_eq_true, not_true_eq_false, ne_eq, V.ofValue, V.ofScalar, V.un, V.gd, aExec, aop, getD_map h0]
    repeat (refine And.intro (by first | omega | (intros; omega) | (intros; simp_all; done) | (intros; simp_all; omega)) ?_)
    refine k _ ?_; clear k K
    -- 10 := indexAddr 33 t9 c<0:i64>
    refine v_op ?_; intro K k
    simp only [aStepM, optable, get_mk, look_cons, look_nil, set_some, set_none, ev_tmp, ev_const, ev_func, Nat.reduceEqDiff, reduceIte, dst_some, dst_none, Nat.reduceLT, List.append_nil, List.nil_append, true_and, and_true, and_self, implies_true, forall_const, imp_self, Bool.false_eq_true, false_implies, cond_true, cond_false, decide_eq_true_eq, eq_self_iff_true, exists_eq_left', Option.some.injEq, reduceCtorEq, not_false_eq_true, not_true_eq_false, ne_eq, V.ofValue, V.ofScalar, V.un, V.gd, aExec, aop, aIndexAddr, row_mk, Blk.row, Go.Vm.V.cells, List.forall_mem_map, List.length_map, Int.toNat_natCast, Int.reduceToNat, TypeDesc.slice.injEq, Nat.zero_lt_one, Nat.lt_add_one, Nat.zero_add, Nat.add_zero, Nat.reduceAdd, Nat.reduceLeDiff, Nat.reduceLT, Nat.reduceMul, Nat.le_refl, Nat.zero_lt_succ, List.getElem?_toArray, List.getElem?_cons_succ, List.getElem?_cons_zero, List.getD_cons_zero, List.getD_cons_succ, List.length_cons, List.length_nil, List.drop_zero, List.drop_succ_cons, List.headD_cons, List.take_succ_cons, List.take_zero, List.take_nil, List.drop_nil, List.map_cons, List.map_nil, Option.bind_some, Option.isSome_some, Option.map_some, Try.underlying3, Ty.c3, Ty.a3, Try.underlying33, Ty.c33, Ty.a33, getD_map h0]
    repeat (refine And.intro (by first | omega | (intros; omega) | (intros; simp_all; done) | (intros; simp_all; omega)) ?_)
    refine k _ ?_; clear k K
    -- 11 := load 3 t10
    refine v_op ?_; intro K k
    simp only [aStepM, optable, get_mk, look_cons, look_nil, set_some, set_none, ev_tmp, ev_const, ev_func, Nat.reduceEqDiff, reduceIte, dst_some, dst_none, Nat.reduceLT, List.append_nil, List.nil_append, true_and, and_true, and_self, implies_true, forall_const, imp_self, Bool.false_eq_true, false_implies, cond_true, cond_false, decide_eq_true_eq, eq_self_iff_true, exists_eq_left', Option.some.injEq, reduceCtorEq, not_false_eq_true, not_true_eq_false, ne_eq, V.ofValue, V.ofScalar, V.un, V.gd, aExec, aop, aLoad, row_mk, Blk.row, PartOK, Go.Vm.part, V.cells, V.noSl, V.noRef, Nat.zero_lt_one, Nat.lt_add_one, Nat.zero_add, Nat.add_zero, Nat.reduceAdd, Nat.reduceLeDiff, Nat.reduceLT, Nat.reduceMul, Nat.le_refl, Nat.zero_lt_succ, List.getElem?_toArray, List.getElem?_cons_succ, List.getElem?_cons_zero, List.getD_cons_zero, List.getD_cons_succ, List.length_cons, List.length_nil, List.drop_zero, List.drop_succ_cons, List.headD_cons, List.take_succ_cons, List.take_zero, List.take_nil, List.drop_nil, List.map_cons, List.map_nil, Option.bind_some, Option.isSome_some, Option.map_some, Bool.or_false, Bool.false_or, Bool.or_true, Bool.true_or, Bool.not_true, Bool.not_false, Bool.and_false, Bool.and_true, Bool.false_and, Bool.true_and, decide_true, decide_false, Bool.or_self, Bool.and_self, Try.underlying3, Ty.c3, Ty.a3, getD_map h0]
    repeat (refine And.intro (by first | omega | (intros; omega) | (intros; simp_all; done) | (intros; simp_all; omega)) ?_)
    refine k _ ?_; clear k K
    -- 3 := assign t11
    refine v_op ?_; intro K k
    simp only [aStepM, optable, get_mk, look_cons, look_nil, set_some, set_none, ev_tmp, ev_const, ev_func, Nat.reduceEqDiff, reduceIte, dst_some, dst_none, Nat.reduceLT, List.append_nil, List.nil_append, true_and, and_true, and_self, implies_true, forall_const, imp_self, Bool.false_eq_true, false_implies, cond_true, cond_false, decide_eq_true_eq, eq_self_iff_true, exists_eq_left', Option.some.injEq, reduceCtorEq, not_false_eq_true, not_true_eq_false, ne_eq, V.ofValue, V.ofScalar, V.un, V.gd, aExec, aop, settle_int, settle_bool, settle_str, settle_nsl, settle_sl, settle_ref, settle_sub, settle_ptr, settle_pv, settle_tup, settle_fn, settle_npt, settle_agg, settleL_nil, settleL_nsl, settleL_int, settleL_bool, settleL_str, settleL_sl, settleL_ref, List.length_nil, List.length_cons, List.length_append, Nat.reduceAdd, Nat.zero_add, Nat.add_zero, List.cons_append, getD_map h0]
    repeat (refine And.intro (by first | omega | (intros; omega) | (intros; simp_all; done) | (intros; simp_all; omega)) ?_)
    refine k _ ?_; clear k K
    refine k8 _ ?_
    refine n7 _ _ (weak_keep [0, 3] _) ?_
    simp only [keep_mk, keepE_nil, keepE_cons, look_cons, look_nil, Nat.reduceEqDiff, reduceIte]
    refine v_seq ?_; intro Q9 n9 e9 r9
    refine v_seq ?_; intro Q10 n10 e10 r10
    refine v_region ?_; intro K11 k11
    -- 4 := assign c<1:i64>
    refine v_op ?_; intro K k
    simp only [aStepM, optable, get_mk, look_cons, look_nil, set_some, set_none, ev_tmp, ev_const, ev_func, Nat.reduceEqDiff, reduceIte, dst_some, dst_none, Nat.reduceLT, List.append_nil, List.nil_append, true_and, and_true, and_self, implies_true, forall_const, imp_self, Bool.false_eq_true, false_implies, cond_true, cond_false, decide_eq_true_eq, eq_self_iff_true, exists_eq_left', Option.some.injEq, reduceCtorEq, not_false_eq_true, not_true_eq_false, ne_eq, V.ofValue, V.ofScalar, V.un, V.gd, aExec, aop, settle_int, settle_bool, settle_str, settle_nsl, settle_sl, settle_ref, settle_sub, settle_ptr, settle_pv, settle_tup, settle_fn, settle_npt, settle_agg, settleL_nil, settleL_nsl, settleL_int, settleL_bool, settleL_str, settleL_sl, settleL_ref, List.length_nil, List.length_cons, List.length_append, Nat.reduceAdd, Nat.zero_add, Nat.add_zero, List.cons_append, getD_map h0]
    repeat (refine And.intro (by first | omega | (intros; omega) | (intros; simp_all; done) | (intros; simp_all; omega)) ?_)
    refine k _ ?_; clear k K
    refine k11 _ ?_
    refine n10 _ _ (weak_keep [0, 3, 4] _) ?_
    simp only [keep_mk, keepE_nil, keepE_cons, look_cons, look_nil, Nat.reduceEqDiff, reduceIte]
    refine v_block ?_; intro Q12 n12 x12 e12 r12
    refine v_loop (fun p => ⟨[(0, .sl (xl.map (V.int .i64))), (3, .int .i64 p.2), (4, .int .i64 (Nat.cast p.1))], [], false, 25, 0⟩) (fun p => 1 ≤ p.1 ∧ p.1 ≤ xl.length ∧ mostL (xl.drop p.1) p.2 = mostL (xl.drop 1) x) (fun p => xl.length - p.1) ((1, x) : Nat × Int) ?_ ?_ ?_
    · refine weak_of [0, 3, 4] ?_
      simp only [keep_mk, keepE_nil, keepE_cons, look_cons, look_nil, Nat.reduceEqDiff, reduceIte]
      rfl
    · exact ⟨Nat.le_refl _, hpos, rfl⟩
    · rintro p hok13 Q13 n13 e13 r13
      obtain ⟨hi0, hi1, hR⟩ := hok13
      refine v_seq ?_; intro Q14 n14 e14 r14
      refine v_seq ?_; intro Q15 n15 e15 r15
      refine v_region ?_; intro K16 k16
      -- 12 := move t4
      refine v_op ?_; intro K k
      simp only [aStepM, optable, get_mk, look_cons, look_nil, set_some, set_none, ev_tmp, ev_const, ev_func, Nat.reduceEqDiff, reduceIte, dst_some, dst_none, Nat.reduceLT, List.append_nil, List.nil_append, true_and, and_true, and_self, implies_true, forall_const, imp_self, Bool.false_eq_true, false_implies, cond_true, cond_false, decide_eq_true_eq, eq_self_iff_true, exists_eq_left', Option.some.injEq, reduceCtorEq, not_false_eq_true, not_true_eq_false, ne_eq, V.ofValue, V.ofScalar, V.un, V.gd, aExec, aop, getD_map h0]
      repeat (refine And.intro (by first | omega | (intros; omega) | (intros; simp_all; done) | (intros; simp_all; omega)) ?_)
      refine k _ ?_; clear k K
      -- 13 := move t0
      refine v_op ?_; intro K k
      simp only [aStepM, optable, get_mk, look_cons, look_nil, set_some, set_none, ev_tmp, ev_const, ev_func, Nat.reduceEqDiff, reduceIte, dst_some, dst_none, Nat.reduceLT, List.append_nil, List.nil_append, true_and, and_true, and_self, implies_true, forall_const, imp_self, Bool.false_eq_true, false_implies, cond_true, cond_false, decide_eq_true_eq, eq_self_iff_true, exists_eq_left', Option.some.injEq, reduceCtorEq, not_false_eq_true, not_true_eq_false, ne_eq, V.ofValue, V.ofScalar, V.un, V.gd, aExec, aop, getD_map h0]
      repeat (refine And.intro (by first | omega | (intros; omega) | (intros; simp_all; done) | (intros; simp_all; omega)) ?_)
      refine k _ ?_; clear k K
      -- 14 := call b Go.Builtin.len t13 | 33
      refine v_op ?_; intro K k
      simp only [aStepM, optable, get_mk, look_cons, look_nil, set_some, set_none, ev_tmp, ev_const, ev_func, Nat.reduceEqDiff, reduceIte, dst_some, dst_none, Nat.reduceLT, List.append_nil, List.nil_append, true_and, and_true, and_self, implies_true, forall_const, imp_self, Bool.false_eq_true, false_implies, cond_true, cond_false, decide_eq_true_eq, eq_self_iff_true, exists_eq_left', Option.some.injEq, reduceCtorEq, not_false_eq_true, not_true_eq_false, ne_eq, V.ofValue, V.ofScalar, V.un, V.gd, aExec, aop, List.length_map, aLen, lenOK, row_mk, Blk.row, List.size_toArray, List.getD_eq_getElem?_getD, Array.getD_eq_getD_getElem?, Option.getD_some, List.getElem?_toArray, List.getElem?_cons_succ, List.getElem?_cons_zero, List.getD_cons_zero, List.getD_cons_succ, List.length_cons, List.length_nil, List.drop_zero, List.drop_succ_cons, List.headD_cons, List.take_succ_cons, List.take_zero, List.take_nil, List.drop_nil, List.map_cons, List.map_nil, Option.bind_some, Option.isSome_some, Option.map_some, Nat.zero_lt_one, Nat.lt_add_one, Nat.zero_add, Nat.add_zero, Nat.reduceAdd, Nat.reduceLeDiff, Nat.reduceLT, Nat.reduceMul, Nat.le_refl, Nat.zero_lt_succ, Try.underlying3, Ty.c3, Ty.a3, Ty.b3, Ty.s3, Try.underlying33, Ty.c33, Ty.a33, Ty.b33, Ty.s33, getD_map h0]
      repeat (refine And.intro (by first | omega | (intros; omega) | (intros; simp_all; done) | (intros; simp_all; omega)) ?_)
      refine k _ ?_; clear k K
      -- 15 := binOp Go.BinOp.lss 3 t12 t14 3
      refine v_op ?_; intro K k
      simp only [aStepM, optable, get_mk, look_cons, look_nil, set_some, set_none, ev_tmp, ev_const, ev_func, Nat.reduceEqDiff, reduceIte, dst_some, dst_none, Nat.reduceLT, List.append_nil, List.nil_append, true_and, and_true, and_self, implies_true, forall_const, imp_self, Bool.false_eq_true, false_implies, cond_true, cond_false, decide_eq_true_eq, eq_self_iff_true, exists_eq_left', Option.some.injEq, reduceCtorEq, not_false_eq_true, not_true_eq_false, ne_eq, V.ofValue, V.ofScalar, V.un, V.gd, aExec, aop, aBin, Try.underlying3, getD_map h0]
      repeat (refine And.intro (by first | omega | (intros; omega) | (intros; simp_all; done) | (intros; simp_all; omega)) ?_)
      refine k _ ?_; clear k K
      refine k16 _ ?_
      refine n15 _ _ (weak_keep [0, 3, 4, 15] _) ?_
      simp only [keep_mk, keepE_nil, keepE_cons, look_cons, look_nil, Nat.reduceEqDiff, reduceIte]
      refine v_cond _ rfl ?_ ?_  -- COND 1
      · intro hc1
        simp only [decide_eq_true_eq, decide_eq_false_iff_not, Bool.and_eq_true, Bool.or_eq_true, Bool.not_eq_true', Bool.not_eq_false', Bool.and_eq_false_imp, Bool.or_eq_false_iff, Int.not_lt, Int.not_le, reduceCtorEq, Bool.true_eq_false, Bool.false_eq_true, imp_false, Classical.not_imp] at hc1
        have hlt : p.1 < xl.length := by omega
        obtain ⟨y, hy⟩ : ∃ y, xl[p.1]? = some y := ⟨xl[p.1], List.getElem?_eq_getElem hlt⟩
        refine v_skip ?_
        refine n14 _ _ (weak_keep [0, 3, 4] _) ?_
        simp only [keep_mk, keepE_nil, keepE_cons, look_cons, look_nil, Nat.reduceEqDiff, reduceIte]
        refine v_seq ?_; intro Q18 n18 e18 r18
        refine v_block ?_; intro Q19 n19 x19 e19 r19
        refine v_region ?_; intro K20 k20
        -- 18 := move t3
        refine v_op ?_; intro K k
        simp only [aStepM, optable, get_mk, look_cons, look_nil, set_some, set_none, ev_tmp, ev_const, ev_func, Nat.reduceEqDiff, reduceIte, dst_some, dst_none, Nat.reduceLT, List.append_nil, List.nil_append, true_and, and_true, and_self, implies_true, forall_const, imp_self, Bool.false_eq_true, false_implies, cond_true, cond_false, decide_eq_true_eq, eq_self_iff_true, exists_eq_left', Option.some.injEq, reduceCtorEq, not_false_eq_true, not_true_eq_false, ne_eq, V.ofValue, V.ofScalar, V.un, V.gd, aExec, aop, getD_map h0, getD_map hy]
        repeat (refine And.intro (by first | omega | (intros; omega) | (intros; simp_all; done) | (intros; simp_all; omega)) ?_)
        refine k _ ?_; clear k K
        -- 19 := move t0
        refine v_op ?_; intro K k
        simp only [aStepM, optable, get_mk, look_cons, look_nil, set_some, set_none, ev_tmp, ev_const, ev_func, Nat.reduceEqDiff, reduceIte, dst_some, dst_none, Nat.reduceLT, List.append_nil, List.nil_append, true_and, and_true, and_self, implies_true, forall_const, imp_self, Bool.false_eq_true, false_implies, cond_true, cond_false, decide_eq_true_eq, eq_self_iff_true, exists_eq_left', Option.some.injEq, reduceCtorEq, not_false_eq_true, not_true_eq_false, ne_eq, V.ofValue, V.ofScalar, V.un, V.gd, aExec, aop, getD_map h0, getD_map hy]
        repeat (refine And.intro (by first | omega | (intros; omega) | (intros; simp_all; done) | (intros; simp_all; omega)) ?_)
        refine k _ ?_; clear k K
        -- 20 := move t4
        refine v_op ?_; intro K k
        simp only [aStepM, optable, get_mk, look_cons, look_nil, set_some, set_none, ev_tmp, ev_const, ev_func, Nat.reduceEqDiff, reduceIte, dst_some, dst_none, Nat.reduceLT, List.append_nil, List.nil_append, true_and, and_true, and_self, implies_true, forall_const, imp_self, Bool.false_eq_true, false_implies, cond_true, cond_false, decide_eq_true_eq, eq_self_iff_true, exists_eq_left', Option.some.injEq, reduceCtorEq, not_false_eq_true, not_true_eq_false, ne_eq, V.ofValue, V.ofScalar, V.un, V.gd, aExec, aop, getD_map h0, getD_map hy]
        repeat (refine And.intro (by first | omega | (intros; omega) | (intros; simp_all; done) | (intros; simp_all; omega)) ?_)
        refine k _ ?_; clear k K
        -- 21 := indexAddr 33 t19 t20
        refine v_op ?_; intro K k
        simp only [aStepM, optable, get_mk, look_cons, look_nil, set_some, set_none, ev_tmp, ev_const, ev_func, Nat.reduceEqDiff, reduceIte, dst_some, dst_none, Nat.reduceLT, List.append_nil, List.nil_append, true_and, and_true, and_self, implies_true, forall_const, imp_self, Bool.false_eq_true, false_implies, cond_true, cond_false, decide_eq_true_eq, eq_self_iff_true, exists_eq_left', Option.some.injEq, reduceCtorEq, not_false_eq_true, not_true_eq_false, ne_eq, V.ofValue, V.ofScalar, V.un, V.gd, aExec, aop, aIndexAddr, row_mk, Blk.row, Go.Vm.V.cells, List.forall_mem_map, List.length_map, Int.toNat_natCast, Int.reduceToNat, TypeDesc.slice.injEq, Nat.zero_lt_one, Nat.lt_add_one, Nat.zero_add, Nat.add_zero, Nat.reduceAdd, Nat.reduceLeDiff, Nat.reduceLT, Nat.reduceMul, Nat.le_refl, Nat.zero_lt_succ, List.getElem?_toArray, List.getElem?_cons_succ, List.getElem?_cons_zero, List.getD_cons_zero, List.getD_cons_succ, List.length_cons, List.length_nil, List.drop_zero, List.drop_succ_cons, List.headD_cons, List.take_succ_cons, List.take_zero, List.take_nil, List.drop_nil, List.map_cons, List.map_nil, Option.bind_some, Option.isSome_some, Option.map_some, Try.underlying3, Ty.c3, Ty.a3, Try.underlying33, Ty.c33, Ty.a33, getD_map h0, getD_map hy]
        repeat (refine And.intro (by first | omega | (intros; omega) | (intros; simp_all; done) | (intros; simp_all; omega)) ?_)
        refine k _ ?_; clear k K
        -- 22 := load 3 t21
        refine v_op ?_; intro K k
        simp only [aStepM, optable, get_mk, look_cons, look_nil, set_some, set_none, ev_tmp, ev_const, ev_func, Nat.reduceEqDiff, reduceIte, dst_some, dst_none, Nat.reduceLT, List.append_nil, List.nil_append, true_and, and_true, and_self, implies_true, forall_const, imp_self, Bool.false_eq_true, false_implies, cond_true, cond_false, decide_eq_true_eq, eq_self_iff_true, exists_eq_left', Option.some.injEq, reduceCtorEq, not_false_eq_true, not_true_eq_false, ne_eq, V.ofValue, V.ofScalar, V.un, V.gd, aExec, aop, aLoad, row_mk, Blk.row, PartOK, Go.Vm.part, V.cells, V.noSl, V.noRef, Nat.zero_lt_one, Nat.lt_add_one, Nat.zero_add, Nat.add_zero, Nat.reduceAdd, Nat.reduceLeDiff, Nat.reduceLT, Nat.reduceMul, Nat.le_refl, Nat.zero_lt_succ, List.getElem?_toArray, List.getElem?_cons_succ, List.getElem?_cons_zero, List.getD_cons_zero, List.getD_cons_succ, List.length_cons, List.length_nil, List.drop_zero, List.drop_succ_cons, List.headD_cons, List.take_succ_cons, List.take_zero, List.take_nil, List.drop_nil, List.map_cons, List.map_nil, Option.bind_some, Option.isSome_some, Option.map_some, Bool.or_false, Bool.false_or, Bool.or_true, Bool.true_or, Bool.not_true, Bool.not_false, Bool.and_false, Bool.and_true, Bool.false_and, Bool.true_and, decide_true, decide_false, Bool.or_self, Bool.and_self, Try.underlying3, Ty.c3, Ty.a3, getD_map h0, getD_map hy]
        repeat (refine And.intro (by first | omega | (intros; omega) | (intros; simp_all; done) | (intros; simp_all; omega)) ?_)
        refine k _ ?_; clear k K
        -- 23 := call b Go.Builtin.max t18 t22 | 3 3
        refine v_op ?_; intro K k
        simp only [aStepM, optable, get_mk, look_cons, look_nil, set_some, set_none, ev_tmp, ev_const, ev_func, Nat.reduceEqDiff, reduceIte, dst_some, dst_none, Nat.reduceLT, List.append_nil, List.nil_append, true_and, and_true, and_self, implies_true, forall_const, imp_self, Bool.false_eq_true, false_implies, cond_true, cond_false, decide_eq_true_eq, eq_self_iff_true, exists_eq_left', Option.some.injEq, reduceCtorEq, not_false_eq_true, not_true_eq_false, ne_eq, V.ofValue, V.ofScalar, V.un, V.gd, aExec, aop, aMinMax, List.mem_cons, List.not_mem_nil, or_false, forall_eq_or_imp, forall_eq, List.map_cons, List.map_nil, if_true, if_false, Try.underlying3, Ty.c3, Ty.a3, Ty.b3, Ty.s3, getD_map h0, getD_map hy]
        repeat (refine And.intro (by first | omega | (intros; omega) | (intros; simp_all; done) | (intros; simp_all; omega)) ?_)
        refine k _ ?_; clear k K
        -- 3 := assign t23
        refine v_op ?_; intro K k
        simp only [aStepM, optable, get_mk, look_cons, look_nil, set_some, set_none, ev_tmp, ev_const, ev_func, Nat.reduceEqDiff, reduceIte, dst_some, dst_none, Nat.reduceLT, List.append_nil, List.nil_append, true_and, and_true, and_self, implies_true, forall_const, imp_self, Bool.false_eq_true, false_implies, cond_true, cond_false, decide_eq_true_eq, eq_self_iff_true, exists_eq_left', Option.some.injEq, reduceCtorEq, not_false_eq_true, not_true_eq_false, ne_eq, V.ofValue, V.ofScalar, V.un, V.gd, aExec, aop, settle_int, settle_bool, settle_str, settle_nsl, settle_sl, settle_ref, settle_sub, settle_ptr, settle_pv, settle_tup, settle_fn, settle_npt, settle_agg, settleL_nil, settleL_nsl, settleL_int, settleL_bool, settleL_str, settleL_sl, settleL_ref, List.length_nil, List.length_cons, List.length_append, Nat.reduceAdd, Nat.zero_add, Nat.add_zero, List.cons_append, getD_map h0, getD_map hy]
        repeat (refine And.intro (by first | omega | (intros; omega) | (intros; simp_all; done) | (intros; simp_all; omega)) ?_)
        refine k _ ?_; clear k K
        refine k20 _ ?_
        refine n19 _ ?_
        refine n18 _ _ (weak_keep [0, 3, 4] _) ?_
        simp only [keep_mk, keepE_nil, keepE_cons, look_cons, look_nil, Nat.reduceEqDiff, reduceIte]
        refine v_region ?_; intro K21 k21
        -- 16 := move t4
        refine v_op ?_; intro K k
        simp only [aStepM, optable, get_mk, look_cons, look_nil, set_some, set_none, ev_tmp, ev_const, ev_func, Nat.reduceEqDiff, reduceIte, dst_some, dst_none, Nat.reduceLT, List.append_nil, List.nil_append, true_and, and_true, and_self, implies_true, forall_const, imp_self, Bool.false_eq_true, false_implies, cond_true, cond_false, decide_eq_true_eq, eq_self_iff_true, exists_eq_left', Option.some.injEq, reduceCtorEq, not_false_eq_true, not_true_eq_false, ne_eq, V.ofValue, V.ofScalar, V.un, V.gd, aExec, aop, getD_map h0, getD_map hy]
        repeat (refine And.intro (by first | omega | (intros; omega) | (intros; simp_all; done) | (intros; simp_all; omega)) ?_)
        refine k _ ?_; clear k K
        -- 17 := binOp Go.BinOp.add 3 t16 c<1:i64> 3
        refine v_op ?_; intro K k
        simp only [aStepM, optable, get_mk, look_cons, look_nil, set_some, set_none, ev_tmp, ev_const, ev_func, Nat.reduceEqDiff, reduceIte, dst_some, dst_none, Nat.reduceLT, List.append_nil, List.nil_append, true_and, and_true, and_self, implies_true, forall_const, imp_self, Bool.false_eq_true, false_implies, cond_true, cond_false, decide_eq_true_eq, eq_self_iff_true, exists_eq_left', Option.some.injEq, reduceCtorEq, not_false_eq_true, not_true_eq_false, ne_eq, V.ofValue, V.ofScalar, V.un, V.gd, aExec, aop, aBin, Try.underlying3, getD_map h0, getD_map hy]
        try simp (disch := omega) only [wrap64]
        repeat (refine And.intro (by first | omega | (intros; omega) | (intros; simp_all; done) | (intros; simp_all; omega)) ?_)
        refine k _ ?_; clear k K
        -- 4 := assign t17
        refine v_op ?_; intro K k
        simp only [aStepM, optable, get_mk, look_cons, look_nil, set_some, set_none, ev_tmp, ev_const, ev_func, Nat.reduceEqDiff, reduceIte, dst_some, dst_none, Nat.reduceLT, List.append_nil, List.nil_append, true_and, and_true, and_self, implies_true, forall_const, imp_self, Bool.false_eq_true, false_implies, cond_true, cond_false, decide_eq_true_eq, eq_self_iff_true, exists_eq_left', Option.some.injEq, reduceCtorEq, not_false_eq_true, not_true_eq_false, ne_eq, V.ofValue, V.ofScalar, V.un, V.gd, aExec, aop, settle_int, settle_bool, settle_str, settle_nsl, settle_sl, settle_ref, settle_sub, settle_ptr, settle_pv, settle_tup, settle_fn, settle_npt, settle_agg, settleL_nil, settleL_nsl, settleL_int, settleL_bool, settleL_str, settleL_sl, settleL_ref, List.length_nil, List.length_cons, List.length_append, Nat.reduceAdd, Nat.zero_add, Nat.add_zero, List.cons_append, getD_map h0, getD_map hy]
        repeat (refine And.intro (by first | omega | (intros; omega) | (intros; simp_all; done) | (intros; simp_all; omega)) ?_)
        refine k _ ?_; clear k K
        refine k21 _ ?_
        refine n13 _ (p.1 + 1, if y > p.2 then y else p.2) ?_ ?_ ?_
        · refine weak_of [0, 3, 4] ?_
          simp only [keep_mk, keepE_nil, keepE_cons, look_cons, look_nil, Nat.reduceEqDiff, reduceIte]
          rfl
        · exact ⟨by show 1 ≤ p.1 + 1; omega, by show p.1 + 1 ≤ _; omega, by show mostL (xl.drop (p.1 + 1)) _ = _; rw [← hR, most_step hy]⟩
        · show _ < _; show xl.length - (p.1 + 1) < _; omega
      · intro hc1
        simp only [decide_eq_true_eq, decide_eq_false_iff_not, Bool.and_eq_true, Bool.or_eq_true, Bool.not_eq_true', Bool.not_eq_false', Bool.and_eq_false_imp, Bool.or_eq_false_iff, Int.not_lt, Int.not_le, reduceCtorEq, Bool.true_eq_false, Bool.false_eq_true, imp_false, Classical.not_imp] at hc1
        refine v_exit ?_
        refine e14 _ _ ?_
        refine e13 _ _ ?_
        refine x12 _ ?_
        refine n9 _ _ (weak_keep [3] _) ?_
        simp only [keep_mk, keepE_nil, keepE_cons, look_cons, look_nil, Nat.reduceEqDiff, reduceIte]
        refine v_seq ?_; intro Q22 n22 e22 r22
        refine v_region ?_; intro K23 k23
        -- 24 := move t3
        refine v_op ?_; intro K k
        simp only [aStepM, optable, get_mk, look_cons, look_nil, set_some, set_none, ev_tmp, ev_const, ev_func, Nat.reduceEqDiff, reduceIte, dst_some, dst_none, Nat.reduceLT, List.append_nil, List.nil_append, true_and, and_true, and_self, implies_true, forall_const, imp_self, Bool.false_eq_true, false_implies, cond_true, cond_false, decide_eq_true_eq, eq_self_iff_true, exists_eq_left', Option.some.injEq, reduceCtorEq, not_false_eq_true, not_true_eq_false, ne_eq, V.ofValue, V.ofScalar, V.un, V.gd, aExec, aop, getD_map h0]
        repeat (refine And.intro (by first | omega | (intros; omega) | (intros; simp_all; done) | (intros; simp_all; omega)) ?_)
        refine k _ ?_; clear k K
        -- 2 := assign t24
        refine v_op ?_; intro K k
        simp only [aStepM, optable, get_mk, look_cons, look_nil, set_some, set_none, ev_tmp, ev_const, ev_func, Nat.reduceEqDiff, reduceIte, dst_some, dst_none, Nat.reduceLT, List.append_nil, List.nil_append, true_and, and_true, and_self, implies_true, forall_const, imp_self, Bool.false_eq_true, false_implies, cond_true, cond_false, decide_eq_true_eq, eq_self_iff_true, exists_eq_left', Option.some.injEq, reduceCtorEq, not_false_eq_true, not_true_eq_false, ne_eq, V.ofValue, V.ofScalar, V.un, V.gd, aExec, aop, settle_int, settle_bool, settle_str, settle_nsl, settle_sl, settle_ref, settle_sub, settle_ptr, settle_pv, settle_tup, settle_fn, settle_npt, settle_agg, settleL_nil, settleL_nsl, settleL_int, settleL_bool, settleL_str, settleL_sl, settleL_ref, List.length_nil, List.length_cons, List.length_append, Nat.reduceAdd, Nat.zero_add, Nat.add_zero, List.cons_append, getD_map h0]
        repeat (refine And.intro (by first | omega | (intros; omega) | (intros; simp_all; done) | (intros; simp_all; omega)) ?_)
        refine k _ ?_; clear k K
        refine k23 _ ?_
        refine n22 _ _ (weak_keep [2] _) ?_
        simp only [keep_mk, keepE_nil, keepE_cons, look_cons, look_nil, Nat.reduceEqDiff, reduceIte]
        refine v_ret ?_
        refine r0 _ ?_
        simp only [resK, pickRV, get_mk, look_cons, look_nil, Nat.reduceEqDiff, reduceIte, List.map_cons, List.map_nil]
        exact ret_pure rfl (by rw [← hR, most_end (by omega)]) (.inl rfl)
-- slices.Min[[]int,int]
set_option maxHeartbeats 1000000 in
theorem slMin_con (x : Int) (l : List Int) (hl : (x :: l).length ≤ 1048576) : Con Try.prog 53 [.sl ((x :: l).map (V.int .i64))] [] (.int .i64 (leastL l x)) [] := by
  obtain ⟨xl, hxl⟩ : ∃ xl, xl = x :: l := ⟨_, rfl⟩
  have h0 : xl[0]? = some x := by rw [hxl]; rfl
  have hres : leastL (xl.drop 1) x = leastL l x := by rw [hxl]; rfl
  rw [← hxl] at hl ⊢
  rw [← hres]
  have hpos : 0 < xl.length := by rw [hxl]; simp
  refine v_con [.tmp 2] [] Try.func53 rfl rfl rfl (by simp [Try.ntmps53]) ?_
  intro Q0 n0 r0
  simp only [Try.ntmps53, envFrom, Nat.reduceAdd]
  refine v_seq ?_; intro Q1 n1 e1 r1
  refine v_region ?_; intro K2 k2
  -- 2 := assign c<0:i64>
  refine v_op ?_; intro K k
  simp only [aStepM, optable, get_mk, look_cons, look_nil, set_some, set_none, ev_tmp, ev_const, ev_func, Nat.reduceEqDiff, reduceIte, dst_some, dst_none, Nat.reduceLT, List.append_nil, List.nil_append, true_and, and_true, and_self, implies_true, forall_const, imp_self, Bool.false_eq_true, false_implies, cond_true, cond_false, decide_eq_true_eq, eq_self_iff_true, exists_eq_left', Option.some.injEq, reduceCtorEq, not_false_eq_true, not_true_eq_false, ne_eq, V.ofValue, V.ofScalar, V.un, V.gd, aExec, aop, settle_int, settle_bool, settle_str, settle_nsl, settle_sl, settle_ref, settle_sub, settle_ptr, settle_pv, settle_tup, settle_fn, settle_npt, settle_agg, settleL_nil, settleL_nsl, settleL_int, settleL_bool, settleL_str, settleL_sl, settleL_ref, List.length_nil, List.length_cons, List.length_append, Nat.reduceAdd, Nat.zero_add, Nat.add_zero, List.cons_append, getD_map h0]
  repeat (refine And.intro (by first | omega | (intros; omega) | (intros; simp_all; done) | (intros; simp_all; omega)) ?_)
  refine k _ ?_; clear k K
  refine k2 _ ?_
  refine n1 _ _ (weak_keep [0] _) ?_
  simp only [keep_mk, keepE_nil, keepE_cons, look_cons, look_nil, Nat.reduceEqDiff, reduceIte]
  refine v_seq ?_; intro Q3 n3 e3 r3
  refine v_seq ?_; intro Q4 n4 e4 r4
  refine v_region ?_; intro K5 k5
  -- 5 := move t0
  refine v_op ?_; intro K k
  simp only [aStepM, optable, get_mk, look_cons, look_nil, set_some, set_none, ev_tmp, ev_const, ev_func, Nat.reduceEqDiff, reduceIte, dst_some, dst_none, Nat.reduceLT, List.append_nil, List.nil_append, true_and, and_true, and_self, implies_true, forall_const, imp_self, Bool.false_eq_true, false_implies, cond_true, cond_false, decide_eq_true_eq, eq_self_iff_true, exists_eq_left', Option.some.injEq, reduceCtorEq, not_false_eq_true, not_true_eq_false, ne_eq, V.ofValue, V.ofScalar, V.un, V.gd, aExec, aop, getD_map h0]
  repeat (refine And.intro (by first | omega | (intros; omega) | (intros; simp_all; done) | (intros; simp_all; omega)) ?_)
  refine k _ ?_; clear k K
  -- 6 := call b Go.Builtin.len t5 | 33
  refine v_op ?_; intro K k
  simp only [aStepM, optable, get_mk, look_cons, look_nil, set_some, set_none, ev_tmp, ev_const, ev_func, Nat.reduceEqDiff, reduceIte, dst_some, dst_none, Nat.reduceLT, List.append_nil, List.nil_append, true_and, and_true, and_self, implies_true, forall_const, imp_self, Bool.false_eq_true, false_implies, cond_true, cond_false, decide_eq_true_eq, eq_self_iff_true, exists_eq_left', Option.some.injEq, reduceCtorEq, not_false_eq_true, not_true_eq_false, ne_eq, V.ofValue, V.ofScalar, V.un, V.gd, aExec, aop, List.length_map, aLen, lenOK, row_mk, Blk.row, List.size_toArray, List.getD_eq_getElem?_getD, Array.getD_eq_getD_getElem?, Option.getD_some, List.getElem?_toArray, List.getElem?_cons_succ, List.getElem?_cons_zero, List.getD_cons_zero, List.getD_cons_succ, List.length_cons, List.length_nil, List.drop_zero, List.drop_succ_cons, List.headD_cons, List.take_succ_cons, List.take_zero, List.take_nil, List.drop_nil, List.map_cons, List.map_nil, Option.bind_some, Option.isSome_some, Option.map_some, Nat.zero_lt_one, Nat.lt_add_one, Nat.zero_add, Nat.add_zero, Nat.reduceAdd, Nat.reduceLeDiff, Nat.reduceLT, Nat.reduceMul, Nat.le_refl, Nat.zero_lt_succ, Try.underlying3, Ty.c3, Ty.a3, Ty.b3, Ty.s3, Try.underlying33, Ty.c33, Ty.a33, Ty.b33, Ty.s33, getD_map h0]
  repeat (refine And.intro (by first | omega | (intros; omega) | (intros; simp_all; done) | (intros; simp_all; omega)) ?_)
  refine k _ ?_; clear k K
  -- 7 := binOp Go.BinOp.lss 3 t6 c<1:i64> 3
  refine v_op ?_; intro K k
  simp only [aStepM, optable, get_mk, look_cons, look_nil, set_some, set_none, ev_tmp, ev_const, ev_func, Nat.reduceEqDiff, reduceIte, dst_some, dst_none, Nat.reduceLT, List.append_nil, List.nil_append, true_and, and_true, and_self, implies_true, forall_const, imp_self, Bool.false_eq_true, false_implies, cond_true, cond_false, decide_eq_true_eq, eq_self_iff_true, exists_eq_left', Option.some.injEq, reduceCtorEq, not_false_eq_true, not_true_eq_false, ne_eq, V.ofValue, V.ofScalar, V.un, V.gd, aExec, aop, aBin, Try.underlying3, getD_map h0]
  repeat (refine And.intro (by first | omega | (intros; omega) | (intros; simp_all; done) | (intros; simp_all; omega)) ?_)
  refine k _ ?_; clear k K
  refine k5 _ ?_
  refine n4 _ _ (weak_keep [0, 7] _) ?_
  simp only [keep_mk, keepE_nil, keepE_cons, look_cons, look_nil, Nat.reduceEqDiff, reduceIte]
  refine v_cond _ rfl ?_ ?_  -- COND 0
  · intro hc0
    exfalso; have hq := of_decide_eq_true hc0; omega
  · intro hc0
    simp only [decide_eq_true_eq, decide_eq_false_iff_not, Bool.and_eq_true, Bool.or_eq_true, Bool.not_eq_true', Bool.not_eq_false', Bool.and_eq_false_imp, Bool.or_eq_false_iff, Int.not_lt, Int.not_le, reduceCtorEq, Bool.true_eq_false, Bool.false_eq_true, imp_false, Classical.not_imp] at hc0
    refine v_skip ?_
    refine n3 _ _ (weak_keep [0] _) ?_
    simp only [keep_mk, keepE_nil, keepE_cons, look_cons, look_nil, Nat.reduceEqDiff, reduceIte]
    refine v_seq ?_; intro Q7 n7 e7 r7
    refine v_region ?_; intro K8 k8
    -- 9 := move t0
    refine v_op ?_; intro K k
    simp only [aStepM, optable, get_mk, look_cons, look_nil, set_some, set_none, ev_tmp, ev_const, ev_func, Nat.reduceEqDiff, reduceIte, dst_some, dst_none, Nat.reduceLT, List.append_nil, List.nil_append, true_and, and_true, and_self, implies_true, forall_const, imp_self, Bool.false_eq_true, false_implies, cond_true, cond_false, decide_eq_true_eq, eq_self_iff_true, exists_eq_left', Option.some.injEq, reduceCtorEq, not_false_eq_true, not_true_eq_false, ne_eq, V.ofValue, V.ofScalar, V.un, V.gd, aExec, aop, getD_map h0]
    repeat (refine And.intro (by first | omega | (intros; omega) | (intros; simp_all; done) | (intros; simp_all; omega)) ?_)
    refine k _ ?_; clear k K
    -- 10 := indexAddr 33 t9 c<0:i64>
    refine v_op ?_; intro K k
    simp only [aStepM, optable, get_mk, look_cons, look_nil, set_some, set_none, ev_tmp, ev_const, ev_func, Nat.reduceEqDiff, reduceIte, dst_some, dst_none, Nat.reduceLT, List.append_nil, List.nil_append, true_and, and_true, and_self, implies_true, forall_const, imp_self, Bool.false_eq_true, false_implies, cond_true, cond_false, decide_eq_true_eq, eq_self_iff_true, exists_eq_left', Option.some.injEq, reduceCtorEq, not_false_eq_true, not_true_eq_false, ne_eq, V.ofValue, V.ofScalar, V.un, V.gd, aExec, aop, aIndexAddr, row_mk, Blk.row, Go.Vm.V.cells, List.forall_mem_map, List.length_map, Int.toNat_natCast, Int.reduceToNat, TypeDesc.slice.injEq, Nat.zero_lt_one, Nat.lt_add_one, Nat.zero_add, Nat.add_zero, Nat.reduceAdd, Nat.reduceLeDiff, Nat.reduceLT, Nat.reduceMul, Nat.le_refl, Nat.zero_lt_succ, List.getElem?_toArray, List.getElem?_cons_succ, List.getElem?_cons_zero, List.getD_cons_zero, List.getD_cons_succ, List.length_cons, List.length_nil, List.drop_zero, List.drop_succ_cons, List.headD_cons, List.take_succ_cons, List.take_zero, List.take_nil, List.drop_nil, List.map_cons, List.map_nil, Option.bind_some, Option.isSome_some, Option.map_some, Try.underlying3, Ty.c3, Ty.a3, Try.underlying33, Ty.c33, Ty.a33, getD_map h0]
    repeat (refine And.intro (by first | omega | (intros; omega) | (intros; simp_all; done) | (intros; simp_all; omega)) ?_)
    refine k _ ?_; clear k K
    -- 11 := load 3 t10
    refine v_op ?_; intro K k
    simp only [aStepM, optable, get_mk, look_cons, look_nil, set_some, set_none, ev_tmp, ev_const, ev_func, Nat.reduceEqDiff, reduceIte, dst_some, dst_none, Nat.reduceLT, List.append_nil, List.nil_append, true_and, and_true, and_self, implies_true, forall_const, imp_self, Bool.false_eq_true, false_implies, cond_true, cond_false, decide_eq_true_eq, eq_self_iff_true, exists_eq_left', Option.some.injEq, reduceCtorEq, not_false_eq_true, not_true_eq_false, ne_eq, V.ofValue, V.ofScalar, V.un, V.gd, aExec, aop, aLoad, row_mk, Blk.row, PartOK, Go.Vm.part, V.cells, V.noSl, V.noRef, Nat.zero_lt_one, Nat.lt_add_one, Nat.zero_add, Nat.add_zero, Nat.reduceAdd, Nat.reduceLeDiff, Nat.reduceLT, Nat.reduceMul, Nat.le_refl, Nat.zero_lt_succ, List.getElem?_toArray, List.getElem?_cons_succ, List.getElem?_cons_zero, List.getD_cons_zero, List.getD_cons_succ, List.length_cons, List.length_nil, List.drop_zero, List.drop_succ_cons, List.headD_cons, List.take_succ_cons, List.take_zero, List.take_nil, List.drop_nil, List.map_cons, List.map_nil, Option.bind_some, Option.isSome_some, Option.map_some, Bool.or_false, Bool.false_or, Bool.or_true, Bool.true_or, Bool.not_true, Bool.not_false, Bool.and_false, Bool.and_true, Bool.false_and, Bool.true_and, decide_true, decide_false, Bool.or_self, Bool.and_self, Try.underlying3, Ty.c3, Ty.a3, getD_map h0]
    repeat (refine And.intro (by first | omega | (intros; omega) | (intros; simp_all; done) | (intros; simp_all; omega)) ?_)
    refine k _ ?_; clear k K
    -- 3 := assign t11
    refine v_op ?_; intro K k
    simp only [aStepM, optable, get_mk, look_cons, look_nil, set_some, set_none, ev_tmp, ev_const, ev_func, Nat.reduceEqDiff, reduceIte, dst_some, dst_none, Nat.reduceLT, List.append_nil, List.nil_append, true_and, and_true, and_self, implies_true, forall_const, imp_self, Bool.false_eq_true, false_implies, cond_true, cond_false, decide_eq_true_eq, eq_self_iff_true, exists_eq_left', Option.some.injEq, reduceCtorEq, not_false_eq_true, not_true_eq_false, ne_eq, V.ofValue, V.ofScalar, V.un, V.gd, aExec, aop, settle_int, settle_bool, settle_str, settle_nsl, settle_sl, settle_ref, settle_sub, settle_ptr, settle_pv, settle_tup, settle_fn, settle_npt, settle_agg, settleL_nil, settleL_nsl, settleL_int, settleL_bool, settleL_str, settleL_sl, settleL_ref, List.length_nil, List.length_cons, List.length_append, Nat.reduceAdd, Nat.zero_add, Nat.add_zero, List.cons_append, getD_map h0]
    repeat (refine And.intro (by first | omega | (intros; omega) | (intros; simp_all; done) | (intros; simp_all; omega)) ?_)
    refine k _ ?_; clear k K
    refine k8 _ ?_
    refine n7 _ _ (weak_keep [0, 3] _) ?_
    simp only [keep_mk, keepE_nil, keepE_cons, look_cons, look_nil, Nat.reduceEqDiff, reduceIte]
    refine v_seq ?_; intro Q9 n9 e9 r9
    refine v_seq ?_; intro Q10 n10 e10 r10
    refine v_region ?_; intro K11 k11
    -- 4 := assign c<1:i64>
    refine v_op ?_; intro K k
    simp only [aStepM, optable, get_mk, look_cons, look_nil, set_some, set_none, ev_tmp, ev_const, ev_func, Nat.reduceEqDiff, reduceIte, dst_some, dst_none, Nat.reduceLT, List.append_nil, List.nil_append, true_and, and_true, and_self, implies_true, forall_const, imp_self, Bool.false_eq_true, false_implies, cond_true, cond_false, decide_eq_true_eq, eq_self_iff_true, exists_eq_left', Option.some.injEq, reduceCtorEq, not_false_eq_true, not_true_eq_false, ne_eq, V.ofValue, V.ofScalar, V.un, V.gd, aExec, aop, settle_int, settle_bool, settle_str, settle_nsl, settle_sl, settle_ref, settle_sub, settle_ptr, settle_pv, settle_tup, settle_fn, settle_npt, settle_agg, settleL_nil, settleL_nsl, settleL_int, settleL_bool, settleL_str, settleL_sl, settleL_ref, List.length_nil, List.length_cons, List.length_append, Nat.reduceAdd, Nat.zero_add, Nat.add_zero, List.cons_append, getD_map h0]
    repeat (refine And.intro (by first | omega | (intros; omega) | (intros; simp_all; done) | (intros; simp_all; omega)) ?_)
    refine k _ ?_; clear k K
    refine k11 _ ?_
    refine n10 _ _ (weak_keep [0, 3, 4] _) ?_
    simp only [keep_mk, keepE_nil, keepE_cons, look_cons, look_nil, Nat.reduceEqDiff, reduceIte]
    refine v_block ?_; intro Q12 n12 x12 e12 r12
    refine v_loop (fun p => ⟨[(0, .sl (xl.map (V.int .i64))), (3, .int .i64 p.2), (4, .int .i64 (Nat.cast p.1))], [], false, 25, 0⟩) (fun p => 1 ≤ p.1 ∧ p.1 ≤ xl.length ∧ leastL (xl.drop p.1) p.2 = leastL (xl.drop 1) x) (fun p => xl.length - p.1) ((1, x) : Nat × Int) ?_ ?_ ?_
    · refine weak_of [0, 3, 4] ?_
      simp only [keep_mk, keepE_nil, keepE_cons, look_cons, look_nil, Nat.reduceEqDiff, reduceIte]
      rfl
    · exact ⟨Nat.le_refl _, hpos, rfl⟩
    · rintro p hok13 Q13 n13 e13 r13
      obtain ⟨hi0, hi1, hR⟩ := hok13
      refine v_seq ?_; intro Q14 n14 e14 r14
      refine v_seq ?_; intro Q15 n15 e15 r15
      refine v_region ?_; intro K16 k16
      -- 12 := move t4
      refine v_op ?_; intro K k
      simp only [aStepM, optable, get_mk, look_cons, look_nil, set_some, set_none, ev_tmp, ev_const, ev_func, Nat.reduceEqDiff, reduceIte, dst_some, dst_none, Nat.reduceLT, List.append_nil, List.nil_append, true_and, and_true, and_self, implies_true, forall_const, imp_self, Bool.false_eq_true, false_implies, cond_true, cond_false, decide_eq_true_eq, eq_self_iff_true, exists_eq_left', Option.some.injEq, reduceCtorEq, not_false_eq_true, not_true_eq_false, ne_eq, V.ofValue, V.ofScalar, V.un, V.gd, aExec, aop, getD_map h0]
      repeat (refine And.intro (by first | omega | (intros; omega) | (intros; simp_all; done) | (intros; simp_all; omega)) ?_)
      refine k _ ?_; clear k K
      -- 13 := move t0
      refine v_op ?_; intro K k
      simp only [aStepM, optable, get_mk, look_cons, look_nil, set_some, set_none, ev_tmp, ev_const, ev_func, Nat.reduceEqDiff, reduceIte, dst_some, dst_none, Nat.reduceLT, List.append_nil, List.nil_append, true_and, and_true, and_self, implies_true, forall_const, imp_self, Bool.false_eq_true, false_implies, cond_true, cond_false, decide_eq_true_eq, eq_self_iff_true, exists_eq_left', Option.some.injEq, reduceCtorEq, not_false_eq_true, not_true_eq_false, ne_eq, V.ofValue, V.ofScalar, V.un, V.gd, aExec, aop, getD_map h0]
      repeat (refine And.intro (by first | omega | (intros; omega) | (intros; simp_all; done) | (intros; simp_all; omega)) ?_)
      refine k _ ?_; clear k K
      -- 14 := call b Go.Builtin.len t13 | 33
      refine v_op ?_; intro K k
      simp only [aStepM, optable, get_mk, look_cons, look_nil, set_some, set_none, ev_tmp, ev_const, ev_func, Nat.reduceEqDiff, reduceIte, dst_some, dst_none, Nat.reduceLT, List.append_nil, List.nil_append, true_and, and_true, and_self, implies_true, forall_const, imp_self, Bool.false_eq_true, false_implies, cond_true, cond_false, decide_eq_true_eq, eq_self_iff_true, exists_eq_left', Option.some.injEq, reduceCtorEq, not_false_eq_true, not_true_eq_false, ne_eq, V.ofValue, V.ofScalar, V.un, V.gd, aExec, aop, List.length_map, aLen, lenOK, row_mk, Blk.row, List.size_toArray, List.getD_eq_getElem?_getD, Array.getD_eq_getD_getElem?, Option.getD_some, List.getElem?_toArray, List.getElem?_cons_succ, List.getElem?_cons_zero, List.getD_cons_zero, List.getD_cons_succ, List.length_cons, List.length_nil, List.drop_zero, List.drop_succ_cons, List.headD_cons, List.take_succ_cons, List.take_zero, List.take_nil, List.drop_nil, List.map_cons, List.map_nil, Option.bind_some, Option.isSome_some, Option.map_some, Nat.zero_lt_one, Nat.lt_add_one, Nat.zero_add, Nat.add_zero, Nat.reduceAdd, Nat.reduceLeDiff, Nat.reduceLT, Nat.reduceMul, Nat.le_refl, Nat.zero_lt_succ, Try.underlying3, Ty.c3, Ty.a3, Ty.b3, Ty.s3, Try.underlying33, Ty.c33, Ty.a33, Ty.b33, Ty.s33, getD_map h0]
      repeat (refine And.intro (by first | omega | (intros; omega) | (intros; simp_all; done) | (intros; simp_all; omega)) ?_)
      refine k _ ?_; clear k K
      -- 15 := binOp Go.BinOp.lss 3 t12 t14 3
      refine v_op ?_; intro K k
      simp only [aStepM, optable, get_mk, look_cons, look_nil, set_some, set_none, ev_tmp, ev_const, ev_func, Nat.reduceEqDiff, reduceIte, dst_some, dst_none, Nat.reduceLT, List.append_nil, List.nil_append, true_and, and_true, and_self, implies_true, forall_const, imp_self, Bool.false_eq_true, false_implies, cond_true, cond_false, decide_eq_true_eq, eq_self_iff_true, exists_eq_left', Option.some.injEq, reduceCtorEq, not_false_eq_true, not_true_eq_false, ne_eq, V.ofValue, V.ofScalar, V.un, V.gd, aExec, aop, aBin, Try.underlying3, getD_map h0]
      repeat (refine And.intro (by first | omega | (intros; omega) | (intros; simp_all; done) | (intros; simp_all; omega)) ?_)
      refine k _ ?_; clear k K
      refine k16 _ ?_
      refine n15 _ _ (weak_keep [0, 3, 4, 15] _) ?_
      simp only [keep_mk, keepE_nil, keepE_cons, look_cons, look_nil, Nat.reduceEqDiff, reduceIte]
      refine v_cond _ rfl ?_ ?_  -- COND 1
      · intro hc1
        simp only [decide_eq_true_eq, decide_eq_false_iff_not, Bool.and_eq_true, Bool.or_eq_true, Bool.not_eq_true', Bool.not_eq_false', Bool.and_eq_false_imp, Bool.or_eq_false_iff, Int.not_lt, Int.not_le, reduceCtorEq, Bool.true_eq_false, Bool.false_eq_true, imp_false, Classical.not_imp] at hc1
        have hlt : p.1 < xl.length := by omega
        obtain ⟨y, hy⟩ : ∃ y, xl[p.1]? = some y := ⟨xl[p.1], List.getElem?_eq_getElem hlt⟩
        refine v_skip ?_
        refine n14 _ _ (weak_keep [0, 3, 4] _) ?_
        simp only [keep_mk, keepE_nil, keepE_cons, look_cons, look_nil, Nat.reduceEqDiff, reduceIte]
        refine v_seq ?_; intro Q18 n18 e18 r18
        refine v_block ?_; intro Q19 n19 x19 e19 r19
        refine v_region ?_; intro K20 k20
        -- 18 := move t3
        refine v_op ?_; intro K k
        simp only [aStepM, optable, get_mk, look_cons, look_nil, set_some, set_none, ev_tmp, ev_const, ev_func, Nat.reduceEqDiff, reduceIte, dst_some, dst_none, Nat.reduceLT, List.append_nil, List.nil_append, true_and, and_true, and_self, implies_true, forall_const, imp_self, Bool.false_eq_true, false_implies, cond_true, cond_false, decide_eq_true_eq, eq_self_iff_true, exists_eq_left', Option.some.injEq, reduceCtorEq, not_false_eq_true, not_true_eq_false, ne_eq, V.ofValue, V.ofScalar, V.un, V.gd, aExec, aop, getD_map h0, getD_map hy]
        repeat (refine And.intro (by first | omega | (intros; omega) | (intros; simp_all; done) | (intros; simp_all; omega)) ?_)
        refine k _ ?_; clear k K
        -- 19 := move t0
        refine v_op ?_; intro K k
        simp only [aStepM, optable, get_mk, look_cons, look_nil, set_some, set_none, ev_tmp, ev_const, ev_func, Nat.reduceEqDiff, reduceIte, dst_some, dst_none, Nat.reduceLT, List.append_nil, List.nil_append, true_and, and_true, and_self, implies_true, forall_const, imp_self, Bool.false_eq_true, false_implies, cond_true, cond_false, decide_eq_true_eq, eq_self_iff_true, exists_eq_left', Option.some.injEq, reduceCtorEq, not_false_eq_true, not_true_eq_false, ne_eq, V.ofValue, V.ofScalar, V.un, V.gd, aExec, aop, getD_map h0, getD_map hy]
        repeat (refine And.intro (by first | omega | (intros; omega) | (intros; simp_all; done) | (intros; simp_all; omega)) ?_)
        refine k _ ?_; clear k K
        -- 20 := move t4
        refine v_op ?_; intro K k
        simp only [aStepM, optable, get_mk, look_cons, look_nil, set_some, set_none, ev_tmp, ev_const, ev_func, Nat.reduceEqDiff, reduceIte, dst_some, dst_none, Nat.reduceLT, List.append_nil, List.nil_append, true_and, and_true, and_self, implies_true, forall_const, imp_self, Bool.false_eq_true, false_implies, cond_true, cond_false, decide_eq_true_eq, eq_self_iff_true, exists_eq_left', Option.some.injEq, reduceCtorEq, not_false_eq_true, not_true_eq_false, ne_eq, V.ofValue, V.ofScalar, V.un, V.gd, aExec, aop, getD_map h0, getD_map hy]
        repeat (refine And.intro (by first | omega | (intros; omega) | (intros; simp_all; done) | (intros; simp_all; omega)) ?_)
        refine k _ ?_; clear k K
        -- 21 := indexAddr 33 t19 t20
        refine v_op ?_; intro K k
        simp only [aStepM, optable, get_mk, look_cons, look_nil, set_some, set_none, ev_tmp, ev_const, ev_func, Nat.reduceEqDiff, reduceIte, dst_some, dst_none, Nat.reduceLT, List.append_nil, List.nil_append, true_and, and_true, and_self, implies_true, forall_const, imp_self, Bool.false_eq_true, false_implies, cond_true, cond_false, decide_eq_true_eq, eq_self_iff_true, exists_eq_left', Option.some.injEq, reduceCtorEq, not_false_eq_true, not_true_eq_false, ne_eq, V.ofValue, V.ofScalar, V.un, V.gd, aExec, aop, aIndexAddr, row_mk, Blk.row, Go.Vm.V.cells, List.forall_mem_map, List.length_map, Int.toNat_natCast, Int.reduceToNat, TypeDesc.slice.injEq, Nat.zero_lt_one, Nat.lt_add_one, Nat.zero_add, Nat.add_zero, Nat.reduceAdd, Nat.reduceLeDiff, Nat.reduceLT, Nat.reduceMul, Nat.le_refl, Nat.zero_lt_succ, List.getElem?_toArray, List.getElem?_cons_succ, List.getElem?_cons_zero, List.getD_cons_zero, List.getD_cons_succ, List.length_cons, List.length_nil, List.drop_zero, List.drop_succ_cons, List.headD_cons, List.take_succ_cons, List.take_zero, List.take_nil, List.drop_nil, List.map_cons, List.map_nil, Option.bind_some, Option.isSome_some, Option.map_some, Try.underlying3, Ty.c3, Ty.a3, Try.underlying33, Ty.c33, Ty.a33, getD_map h0, getD_map hy]
        repeat (refine And.intro (by first | omega | (intros; omega) | (intros; simp_all; done) | (intros; simp_all; omega)) ?_)
        refine k _ ?_; clear k K
        -- 22 := load 3 t21
        refine v_op ?_; intro K k
        simp only [aStepM, optable, get_mk, look_cons, look_nil, set_some, set_none, ev_tmp, ev_const, ev_func, Nat.reduceEqDiff, reduceIte, dst_some, dst_none, Nat.reduceLT, List.append_nil, List.nil_append, true_and, and_true, and_self, implies_true, forall_const, imp_self, Bool.false_eq_true, false_implies, cond_true, cond_false, decide_eq_true_eq, eq_self_iff_true, exists_eq_left', Option.some.injEq, reduceCtorEq, not_false_eq_true, not_true_eq_false, ne_eq, V.ofValue, V.ofScalar, V.un, V.gd, aExec, aop, aLoad, row_mk, Blk.row, PartOK, Go.Vm.part, V.cells, V.noSl, V.noRef, Nat.zero_lt_one, Nat.lt_add_one, Nat.zero_add, Nat.add_zero, Nat.reduceAdd, Nat.reduceLeDiff, Nat.reduceLT, Nat.reduceMul, Nat.le_refl, Nat.zero_lt_succ, List.getElem?_toArray, List.getElem?_cons_succ, List.getElem?_cons_zero, List.getD_cons_zero, List.getD_cons_succ, List.length_cons, List.length_nil, List.drop_zero, List.drop_succ_cons, List.headD_cons, List.take_succ_cons, List.take_zero, List.take_nil, List.drop_nil, List.map_cons, List.map_nil, Option.bind_some, Option.isSome_some, Option.map_some, Bool.or_false, Bool.false_or, Bool.or_true, Bool.true_or, Bool.not_true, Bool.not_false, Bool.and_false, Bool.and_true, Bool.false_and, Bool.true_and, decide_true, decide_false, Bool.or_self, Bool.and_self, Try.underlying3, Ty.c3, Ty.a3, getD_map h0, getD_map hy]
        repeat (refine And.intro (by first | omega | (intros; omega) | (intros; simp_all; done) | (intros; simp_all; omega)) ?_)
        refine k _ ?_; clear k K
        -- 23 := call b Go.Builtin.min t18 t22 | 3 3
        refine v_op ?_; intro K k
        simp only [aStepM, optable, get_mk, look_cons, look_nil, set_some, set_none, ev_tmp, ev_const, ev_func, Nat.reduceEqDiff, reduceIte, dst_some, dst_none, Nat.reduceLT, List.append_nil, List.nil_append, true_and, and_true, and_self, implies_true, forall_const, imp_self, Bool.false_eq_true, false_implies, cond_true, cond_false, decide_eq_true_eq, eq_self_iff_true, exists_eq_left', Option.some.injEq, reduceCtorEq, not_false_eq_true, not_true_eq_false, ne_eq, V.ofValue, V.ofScalar, V.un, V.gd, aExec, aop, aMinMax, List.mem_cons, List.not_mem_nil, or_false, forall_eq_or_imp, forall_eq, List.map_cons, List.map_nil, if_true, if_false, Try.underlying3, Ty.c3, Ty.a3, Ty.b3, Ty.s3, getD_map h0, getD_map hy]
        repeat (refine And.intro (by first | omega | (intros; omega) | (intros; simp_all; done) | (intros; simp_all; omega)) ?_)
        refine k _ ?_; clear k K
        -- 3 := assign t23
        refine v_op ?_; intro K k
        simp only [aStepM, optable, get_mk, look_cons, look_nil, set_some, set_none, ev_tmp, ev_const, ev_func, Nat.reduceEqDiff, reduceIte, dst_some, dst_none, Nat.reduceLT, List.append_nil, List.nil_append, true_and, and_true, and_self, implies_true, forall_const, imp_self, Bool.false_eq_true, false_implies, cond_true, cond_false, decide_eq_true_eq, eq_self_iff_true, exists_eq_left', Option.some.injEq, reduceCtorEq, not_false_eq_true, not_true_eq_false, ne_eq, V.ofValue, V.ofScalar, V.un, V.gd, aExec, aop, settle_int, settle_bool, settle_str, settle_nsl, settle_sl, settle_ref, settle_sub, settle_ptr, settle_pv, settle_tup, settle_fn, settle_npt, settle_agg, settleL_nil, settleL_nsl, settleL_int, settleL_bool, settleL_str, settleL_sl, settleL_ref, List.length_nil, List.length_cons, List.length_append, Nat.reduceAdd, Nat.zero_add, Nat.add_zero, List.cons_append, getD_map h0, getD_map hy]
        repeat (refine And.intro (by first | omega | (intros; omega) | (intros; simp_all; done) | (intros; simp_all; omega)) ?_)
        refine k _ ?_; clear k K
        refine k20 _ ?_
        refine n19 _ ?_
        refine n18 _ _ (weak_keep [0, 3, 4] _) ?_
        simp only [keep_mk, keepE_nil, keepE_cons, look_cons, look_nil, Nat.reduceEqDiff, reduceIte]
        refine v_region ?_; intro K21 k21
        -- 16 := move t4
        refine v_op ?_; intro K k
        simp only [aStepM, optable, get_mk, look_cons, look_nil, set_some, set_none, ev_tmp, ev_const, ev_func, Nat.reduceEqDiff, reduceIte, dst_some, dst_none, Nat.reduceLT, List.append_nil, List.nil_append, true_and, and_true, and_self, implies_true, forall_const, imp_self, Bool.false_eq_true, false_implies, cond_true, cond_false, decide_eq_true_eq, eq_self_iff_true, exists_eq_left', Option.some.injEq, reduceCtorEq, not_false_eq_true, not_true_eq_false, ne_eq, V.ofValue, V.ofScalar, V.un, V.gd, aExec, aop, getD_map h0, getD_map hy]
        repeat (refine And.intro (by first | omega | (intros; omega) | (intros; simp_all; done) | (intros; simp_all; omega)) ?_)
        refine k _ ?_; clear k K
        -- 17 := binOp Go.BinOp.add 3 t16 c<1:i64> 3
        refine v_op ?_; intro K k
        simp only [aStepM, optable, get_mk, look_cons, look_nil, set_some, set_none, ev_tmp, ev_const, ev_func, Nat.reduceEqDiff, reduceIte, dst_some, dst_none, Nat.reduceLT, List.append_nil, List.nil_append, true_and, and_true, and_self, implies_true, forall_const, imp_self, Bool.false_eq_true, false_implies, cond_true, cond_false, decide_eq_true_eq, eq_self_iff_true, exists_eq_left', Option.some.injEq, reduceCtorEq, not_false_eq_true, not_true_eq_false, ne_eq, V.ofValue, V.ofScalar, V.un, V.gd, aExec, aop, aBin, Try.underlying3, getD_map h0, getD_map hy]
        try simp (disch := omega) only [wrap64]
        repeat (refine And.intro (by first | omega | (intros; omega) | (intros; simp_all; done) | (intros; simp_all; omega)) ?_)
        refine k _ ?_; clear k K
        -- 4 := assign t17
        refine v_op ?_; intro K k
        simp only [aStepM, optable, get_mk, look_cons, look_nil, set_some, set_none, ev_tmp, ev_const, ev_func, Nat.reduceEqDiff, reduceIte, dst_some, dst_none, Nat.reduceLT, List.append_nil, List.nil_append, true_and, and_true, and_self, implies_true, forall_const, imp_self, Bool.false_eq_true, false_implies, cond_true, cond_false, decide_eq_true_eq, eq_self_iff_true, exists_eq_left', Option.some.injEq, reduceCtorEq, not_false_eq_true, not_true_eq_false, ne_eq, V.ofValue, V.ofScalar, V.un, V.gd, aExec, aop, settle_int, settle_bool, settle_str, settle_nsl, settle_sl, settle_ref, settle_sub, settle_ptr, settle_pv, settle_tup, settle_fn, settle_npt, settle_agg, settleL_nil, settleL_nsl, settleL_int, settleL_bool, settleL_str, settleL_sl, settleL_ref, List.length_nil, List.length_cons, List.length_append, Nat.reduceAdd, Nat.zero_add, Nat.add_zero, List.cons_append, getD_map h0, getD_map hy]
        repeat (refine And.intro (by first | omega | (intros; omega) | (intros; simp_all; done) | (intros; simp_all; omega)) ?_)
        refine k _ ?_; clear k K
        refine k21 _ ?_
        refine n13 _ (p.1 + 1, if y < p.2 then y else p.2) ?_ ?_ ?_
        · refine weak_of [0, 3, 4] ?_
          simp only [keep_mk, keepE_nil, keepE_cons, look_cons, look_nil, Nat.reduceEqDiff, reduceIte]
          rfl
        · exact ⟨by show 1 ≤ p.1 + 1; omega, by show p.1 + 1 ≤ _; omega, by show leastL (xl.drop (p.1 + 1)) _ = _; rw [← hR, least_step hy]⟩
        · show _ < _; show xl.length - (p.1 + 1) < _; omega
      · intro hc1
        simp only [decide_eq_true_eq, decide_eq_false_iff_not, Bool.and_eq_true, Bool.or_eq_true, Bool.not_eq_true', Bool.not_eq_false', Bool.and_eq_false_imp, Bool.or_eq_false_iff, Int.not_lt, Int.not_le, reduceCtorEq, Bool.true_eq_false, Bool.false_eq_true, imp_false, Classical.not_imp] at hc1
        refine v_exit ?_
        refine e14 _ _ ?_
        refine e13 _ _ ?_
        refine x12 _ ?_
        refine n9 _ _ (weak_keep [3] _) ?_
        simp only [keep_mk, keepE_nil, keepE_cons, look_cons, look_nil, Nat.reduceEqDiff, reduceIte]
        refine v_seq ?_; intro Q22 n22 e22 r22
        refine v_region ?_; intro K23 k23
        -- 24 := move t3
        refine v_op ?_; intro K k
        simp only [aStepM, optable, get_mk, look_cons, look_nil, set_some, set_none, ev_tmp, ev_const, ev_func, Nat.reduceEqDiff, reduceIte, dst_some, dst_none, Nat.reduceLT, List.append_nil, List.nil_append, true_and, and_true, and_self, implies_true, forall_const, imp_self, Bool.false_eq_true, false_implies, cond_true, cond_false, decide_eq_true_eq, eq_self_iff_true, exists_eq_left', Option.some.injEq, reduceCtorEq, not_false_eq_true, not_true_eq_false, ne_eq, V.ofValue, V.ofScalar, V.un, V.gd, aExec, aop, getD_map h0]
        repeat (refine And.intro (by first | omega | (intros; omega) | (intros; simp_all; done) | (intros; simp_all; omega)) ?_)
        refine k _ ?_; clear k K
        -- 2 := assign t24
        refine v_op ?_; intro K k
        simp only [aStepM, optable, get_mk, look_cons, look_nil, set_some, set_none, ev_tmp, ev_const, ev_func, Nat.reduceEqDiff, reduceIte, dst_some, dst_none, Nat.reduceLT, List.append_nil, List.nil_append, true_and, and_true, and_self, implies_true, forall_const, imp_self, Bool.false_eq_true, false_implies, cond_true, cond_false, decide_eq_true_eq, eq_self_iff_true, exists_eq_left', Option.some.injEq, reduceCtorEq, not_false_eq_true, not_true_eq_false, ne_eq, V.ofValue, V.ofScalar, V.un, V.gd, aExec, aop, settle_int, settle_bool, settle_str, settle_nsl, settle_sl, settle_ref, settle_sub, settle_ptr, settle_pv, settle_tup, settle_fn, settle_npt, settle_agg, settleL_nil, settleL_nsl, settleL_int, settleL_bool, settleL_str, settleL_sl, settleL_ref, List.length_nil, List.length_cons, List.length_append, Nat.reduceAdd, Nat.zero_add, Nat.add_zero, List.cons_append, getD_map h0]
        repeat (refine And.intro (by first | omega | (intros; omega) | (intros; simp_all; done) | (intros; simp_all; omega)) ?_)
        refine k _ ?_; clear k K
        refine k23 _ ?_
        refine n22 _ _ (weak_keep [2] _) ?_
        simp only [keep_mk, keepE_nil, keepE_cons, look_cons, look_nil, Nat.reduceEqDiff, reduceIte]
        refine v_ret ?_
        refine r0 _ ?_
        simp only [resK, pickRV, get_mk, look_cons, look_nil, Nat.reduceEqDiff, reduceIte, List.map_cons, List.map_nil]
        exact ret_pure rfl (by rw [← hR, least_end (by omega)]) (.inl rfl)
end Go.Proofs.Ythehbhfjapinnaa
