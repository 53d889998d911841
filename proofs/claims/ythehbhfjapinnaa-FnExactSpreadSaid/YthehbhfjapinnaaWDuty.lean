/- What functions compute (Duty). No condition. -/
import Derived.Test.YthehbhfjapinnaaTy
import Derived.Test.YthehbhfjapinnaaVm20
import Derived.Test.YthehbhfjapinnaaWBase
set_option linter.unusedSimpArgs false
set_option linter.unusedVariables false
namespace Go.Proofs.Ythehbhfjapinnaa
open Go Go.Vm

-- loop.example/g01020/spec.duPeople
set_option maxHeartbeats 1000000 in
theorem duPeople_con (n : Int) : Con Try.prog 56 [.int .i64 n] [] (.bool (decide (1 ≤ n) && decide (n ≤ 9))) [] := by
  refine v_con [.tmp 2] [] Try.func56 rfl rfl rfl (by simp [Try.ntmps56]) ?_
  intro Q0 n0 r0
  simp only [Try.ntmps56, envFrom, Nat.reduceAdd]
  refine v_seq ?_; intro Q1 n1 e1 r1
  refine v_region ?_; intro K2 k2
  -- 2 := assign c<false>
  refine v_op ?_; intro K k
  simp only [aStepM, optable, get_mk, look_cons, look_nil, set_some, set_none, ev_tmp, ev_const, ev_func, Nat.reduceEqDiff, reduceIte, dst_some, dst_none, Nat.reduceLT, List.append_nil, List.nil_append, true_and, and_true, and_self, implies_true, forall_const, imp_self, Bool.false_eq_true, false_implies, cond_true, cond_false, decide_eq_true_eq, eq_self_iff_true, exists_eq_left', Option.some.injEq, reduceCtorEq, not_false_eq_true, not_true_eq_false, ne_eq, V.ofValue, V.ofScalar, V.un, V.gd, aExec, aop, settle_int, settle_bool, settle_str, settle_nsl, settle_sl, settle_ref, settle_sub, settle_ptr, settle_pv, settle_tup, settle_fn, settle_npt, settle_agg, settleL_nil, settleL_nsl, settleL_int, settleL_bool, settleL_str, settleL_sl, settleL_ref, List.length_nil, List.length_cons, List.length_append, Nat.reduceAdd, Nat.zero_add, Nat.add_zero, List.cons_append]
  repeat (refine And.intro (by first | omega | (intros; omega) | (intros; simp_all; done) | (intros; simp_all; omega)) ?_)
  refine k _ ?_; clear k K
  refine k2 _ ?_
  refine n1 _ _ (weak_keep [0] _) ?_
  simp only [keep_mk, keepE_nil, keepE_cons, look_cons, look_nil, Nat.reduceEqDiff, reduceIte]
  refine v_seq ?_; intro Q3 n3 e3 r3
  refine v_region ?_; intro K4 k4
  -- 3 := move t0
  refine v_op ?_; intro K k
  simp only [aStepM, optable, get_mk, look_cons, look_nil, set_some, set_none, ev_tmp, ev_const, ev_func, Nat.reduceEqDiff, reduceIte, dst_some, dst_none, Nat.reduceLT, List.append_nil, List.nil_append, true_and, and_true, and_self, implies_true, forall_const, imp_self, Bool.false_eq_true, false_implies, cond_true, cond_false, decide_eq_true_eq, eq_self_iff_true, exists_eq_left', Option.some.injEq, reduceCtorEq, not_false_eq_true, not_true_eq_false, ne_eq, V.ofValue, V.ofScalar, V.un, V.gd, aExec, aop, ]
  repeat (refine And.intro (by first | omega | (intros; omega) | (intros; simp_all; done) | (intros; simp_all; omega)) ?_)
  refine k _ ?_; clear k K
  -- 4 := call v f57 t3 c<1:i64> c<9:i64> | 3 3 3
  refine v_op ?_; intro K k
  simp only [aStepM, optable, get_mk, look_cons, look_nil, set_some, set_none, ev_tmp, ev_const, ev_func, Nat.reduceEqDiff, reduceIte, dst_some, dst_none, Nat.reduceLT, List.append_nil, List.nil_append, true_and, and_true, and_self, implies_true, forall_const, imp_self, Bool.false_eq_true, false_implies, cond_true, cond_false, decide_eq_true_eq, eq_self_iff_true, exists_eq_left', Option.some.injEq, reduceCtorEq, not_false_eq_true, not_true_eq_false, ne_eq, V.ofValue, V.ofScalar, V.un, V.gd, aExec, lentIds, lendOf, List.map_cons, List.map_nil, List.append_nil, List.filterMap_nil, List.mem_cons, List.not_mem_nil, or_false, forall_eq_or_imp, forall_eq, false_implies, Try.underlying3, Ty.c3, Ty.a3, Ty.b3, Ty.s3, Try.underlying4, Ty.c4, Ty.a4, Ty.b4, Ty.s4]
  repeat (refine And.intro (by first | rfl | (intros; simp_all; done)) ?_)
  refine aCall_new (l1In_con _ _ _) (by first | rfl | simp only [toArgs, toArg, toCell, toCells, idx, row_mk, List.getElem?_cons_zero, List.getElem?_cons_succ, Option.bind_some, Blk.row, fillK_mix, cond_true]) (by first | exact .inl ⟨rfl, by simp [Blk.kindIs, fillK_fd]⟩ | exact .inr (by simp [V.cold])) ?_
  refine k _ ?_; clear k K
  simp only [get_mk, look_cons, look_nil, set_some, set_none, ev_tmp, ev_const, ev_func, Nat.reduceEqDiff, reduceIte, V.ren, V.renL, List.append_nil, List.cons_append, List.nil_append, rho, List.length_nil, List.length_cons, Nat.reduceAdd, Nat.zero_add, Nat.not_lt_zero, if_false, Nat.sub_zero]
  -- 2 := assign t4
  refine v_op ?_; intro K k
  simp only [aStepM, optable, get_mk, look_cons, look_nil, set_some, set_none, ev_tmp, ev_const, ev_func, Nat.reduceEqDiff, reduceIte, dst_some, dst_none, Nat.reduceLT, List.append_nil, List.nil_append, true_and, and_true, and_self, implies_true, forall_const, imp_self, Bool.false_eq_true, false_implies, cond_true, cond_false, decide_eq_true_eq, eq_self_iff_true, exists_eq_left', Option.some.injEq, reduceCtorEq, not_false_eq_true, not_true_eq_false, ne_eq, V.ofValue, V.ofScalar, V.un, V.gd, aExec, aop, settle_int, settle_bool, settle_str, settle_nsl, settle_sl, settle_ref, settle_sub, settle_ptr, settle_pv, settle_tup, settle_fn, settle_npt, settle_agg, settleL_nil, settleL_nsl, settleL_int, settleL_bool, settleL_str, settleL_sl, settleL_ref, List.length_nil, List.length_cons, List.length_append, Nat.reduceAdd, Nat.zero_add, Nat.add_zero, List.cons_append]
  repeat (refine And.intro (by first | omega | (intros; omega) | (intros; simp_all; done) | (intros; simp_all; omega)) ?_)
  refine k _ ?_; clear k K
  refine k4 _ ?_
  refine n3 _ _ (weak_keep [2] _) ?_
  simp only [keep_mk, keepE_nil, keepE_cons, look_cons, look_nil, Nat.reduceEqDiff, reduceIte]
  refine v_ret ?_
  refine r0 _ ?_
  simp only [resK, pickRV, get_mk, look_cons, look_nil, Nat.reduceEqDiff, reduceIte, List.map_cons, List.map_nil]
  exact ret_pure rfl (by first | rfl | simp) (.inl rfl)
end Go.Proofs.Ythehbhfjapinnaa
