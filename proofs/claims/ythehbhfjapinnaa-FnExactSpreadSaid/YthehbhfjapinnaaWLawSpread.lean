/- What functions compute (LawSpread). No condition. -/
import Derived.Test.YthehbhfjapinnaaTy
import Derived.Test.YthehbhfjapinnaaVm20
import Derived.Test.YthehbhfjapinnaaWInts
import Derived.Test.YthehbhfjapinnaaWCopies
import Derived.Test.YthehbhfjapinnaaWEqSS
import Derived.Test.YthehbhfjapinnaaWSpread
set_option linter.unusedSimpArgs false
set_option linter.unusedVariables false
namespace Go.Proofs.Ythehbhfjapinnaa
open Go Go.Vm

-- loop.example/g01020/laws.FnExactSpread
set_option maxHeartbeats 1000000 in
theorem lawSpread_con (ll : List (List Int)) (n : Int) (hl : ll.length ≤ 9223372036854775807) (hls : ∀ l ∈ ll, l.length ≤ 9223372036854775807) : Con Try.prog 8 [.sl (ll.map fun l => V.sl (l.map (V.int .i64))), .int .i64 n] [] (.bool true) [] := by
  refine v_con [.tmp 4] [] Try.func8 rfl rfl rfl (by simp [Try.ntmps8]) ?_
  intro Q0 n0 r0
  simp only [Try.ntmps8, envFrom, Nat.reduceAdd]
  refine v_seq ?_; intro Q1 n1 e1 r1
  refine v_region ?_; intro K2 k2
  -- 4 := assign c<false>
  refine v_op ?_; intro K k
  simp only [aStepM, optable, get_mk, look_cons, look_nil, set_some, set_none, ev_tmp, ev_const, ev_func, Nat.reduceEqDiff, reduceIte, dst_some, dst_none, Nat.reduceLT, List.append_nil, List.nil_append, true_and, and_true, and_self, implies_true, forall_const, imp_self, Bool.false_eq_true, false_implies, cond_true, cond_false, decide_eq_true_eq, eq_self_iff_true, exists_eq_left', Option.some.injEq, reduceCtorEq, not_false_eq_true, not_true_eq_false, ne_eq, V.ofValue, V.ofScalar, V.un, V.gd, aExec, aop, settle_int, settle_bool, settle_str, settle_nsl, settle_sl, settle_ref, settle_sub, settle_ptr, settle_pv, settle_tup, settle_fn, settle_npt, settle_agg, settleL_nil, settleL_nsl, settleL_int, settleL_bool, settleL_str, settleL_sl, settleL_ref, List.length_nil, List.length_cons, List.length_append, Nat.reduceAdd, Nat.zero_add, Nat.add_zero, List.cons_append]
  repeat (refine And.intro (by first | omega | (intros; omega) | (intros; simp_all; done) | (intros; simp_all; omega)) ?_)
  refine k _ ?_; clear k K
  refine k2 _ ?_
  refine n1 _ _ (weak_keep [0, 1] _) ?_
  simp only [keep_mk, keepE_nil, keepE_cons, look_cons, look_nil, Nat.reduceEqDiff, reduceIte]
  refine v_seq ?_; intro Q3 n3 e3 r3
  refine v_region ?_; intro K4 k4
  -- 5 := assign c<1048576:i64>
  refine v_op ?_; intro K k
  simp only [aStepM, optable, get_mk, look_cons, look_nil, set_some, set_none, ev_tmp, ev_const, ev_func, Nat.reduceEqDiff, reduceIte, dst_some, dst_none, Nat.reduceLT, List.append_nil, List.nil_append, true_and, and_true, and_self, implies_true, forall_const, imp_self, Bool.false_eq_true, false_implies, cond_true, cond_false, decide_eq_true_eq, eq_self_iff_true, exists_eq_left', Option.some.injEq, reduceCtorEq, not_false_eq_true, not_true_eq_false, ne_eq, V.ofValue, V.ofScalar, V.un, V.gd, aExec, aop, settle_int, settle_bool, settle_str, settle_nsl, settle_sl, settle_ref, settle_sub, settle_ptr, settle_pv, settle_tup, settle_fn, settle_npt, settle_agg, settleL_nil, settleL_nsl, settleL_int, settleL_bool, settleL_str, settleL_sl, settleL_ref, List.length_nil, List.length_cons, List.length_append, Nat.reduceAdd, Nat.zero_add, Nat.add_zero, List.cons_append]
  repeat (refine And.intro (by first | omega | (intros; omega) | (intros; simp_all; done) | (intros; simp_all; omega)) ?_)
  refine k _ ?_; clear k K
  refine k4 _ ?_
  refine n3 _ _ (weak_keep [0, 1, 5] _) ?_
  simp only [keep_mk, keepE_nil, keepE_cons, look_cons, look_nil, Nat.reduceEqDiff, reduceIte]
  refine v_seq ?_; intro Q5 n5 e5 r5
  refine v_region ?_; intro K6 k6
  -- 11 := move t0
  refine v_op ?_; intro K k
  simp only [aStepM, optable, get_mk, look_cons, look_nil, set_some, set_none, ev_tmp, ev_const, ev_func, Nat.reduceEqDiff, reduceIte, dst_some, dst_none, Nat.reduceLT, List.append_nil, List.nil_append, true_and, and_true, and_self, implies_true, forall_const, imp_self, Bool.false_eq_true, false_implies, cond_true, cond_false, decide_eq_true_eq, eq_self_iff_true, exists_eq_left', Option.some.injEq, reduceCtorEq, not_false_eq_true, not_true_eq_false, ne_eq, V.ofValue, V.ofScalar, V.un, V.gd, aExec, aop, ]
  repeat (refine And.intro (by first | omega | (intros; omega) | (intros; simp_all; done) | (intros; simp_all; omega)) ?_)
  refine k _ ?_; clear k K
  -- 12 := move t5
  refine v_op ?_; intro K k
  simp only [aStepM, optable, get_mk, look_cons, look_nil, set_some, set_none, ev_tmp, ev_const, ev_func, Nat.reduceEqDiff, reduceIte, dst_some, dst_none, Nat.reduceLT, List.append_nil, List.nil_append, true_and, and_true, and_self, implies_true, forall_const, imp_self, Bool.false_eq_true, false_implies, cond_true, cond_false, decide_eq_true_eq, eq_self_iff_true, exists_eq_left', Option.some.injEq, reduceCtorEq, not_false_eq_true, not_true_eq_false, ne_eq, V.ofValue, V.ofScalar, V.un, V.gd, aExec, aop, ]
  repeat (refine And.intro (by first | omega | (intros; omega) | (intros; simp_all; done) | (intros; simp_all; omega)) ?_)
  refine k _ ?_; clear k K
  -- 13 := call v f13 t11 t12 | 28 3
  refine v_op ?_; intro K k
  simp only [aStepM, optable, get_mk, look_cons, look_nil, set_some, set_none, ev_tmp, ev_const, ev_func, Nat.reduceEqDiff, reduceIte, dst_some, dst_none, Nat.reduceLT, List.append_nil, List.nil_append, true_and, and_true, and_self, implies_true, forall_const, imp_self, Bool.false_eq_true, false_implies, cond_true, cond_false, decide_eq_true_eq, eq_self_iff_true, exists_eq_left', Option.some.injEq, reduceCtorEq, not_false_eq_true, not_true_eq_false, ne_eq, V.ofValue, V.ofScalar, V.un, V.gd, aExec, lentIds, lendOf, List.map_cons, List.map_nil, List.append_nil, List.filterMap_nil, List.mem_cons, List.not_mem_nil, or_false, forall_eq_or_imp, forall_eq, false_implies, Try.underlying3, Ty.c3, Ty.a3, Ty.b3, Ty.s3, Try.underlying28, Ty.c28, Ty.a28, Ty.b28, Ty.s28, Try.underlying33, Ty.c33, Ty.a33, Ty.b33, Ty.s33]
  repeat (refine And.intro (by first | rfl | (intros; simp_all; done)) ?_)
  refine aCall_new (szIntSS_con 1048576 ll (by omega) hl hls) (by first | rfl | simp only [toArgs, toArg, toCell, toCells, idx, row_mk, List.getElem?_cons_zero, List.getElem?_cons_succ, Option.bind_some, Blk.row, fillK_mix, cond_true]) (by first | exact .inl ⟨rfl, by simp [Blk.kindIs, fillK_fd]⟩ | exact .inr (by simp [V.cold])) ?_
  refine k _ ?_; clear k K
  simp only [get_mk, look_cons, look_nil, set_some, set_none, ev_tmp, ev_const, ev_func, Nat.reduceEqDiff, reduceIte, V.ren, V.renL, List.append_nil, List.cons_append, List.nil_append, rho, List.length_nil, List.length_cons, Nat.reduceAdd, Nat.zero_add, Nat.not_lt_zero, if_false, Nat.sub_zero]
  -- 5 := assign t13
  refine v_op ?_; intro K k
  simp only [aStepM, optable, get_mk, look_cons, look_nil, set_some, set_none, ev_tmp, ev_const, ev_func, Nat.reduceEqDiff, reduceIte, dst_some, dst_none, Nat.reduceLT, List.append_nil, List.nil_append, true_and, and_true, and_self, implies_true, forall_const, imp_self, Bool.false_eq_true, false_implies, cond_true, cond_false, decide_eq_true_eq, eq_self_iff_true, exists_eq_left', Option.some.injEq, reduceCtorEq, not_false_eq_true, not_true_eq_false, ne_eq, V.ofValue, V.ofScalar, V.un, V.gd, aExec, aop, settle_int, settle_bool, settle_str, settle_nsl, settle_sl, settle_ref, settle_sub, settle_ptr, settle_pv, settle_tup, settle_fn, settle_npt, settle_agg, settleL_nil, settleL_nsl, settleL_int, settleL_bool, settleL_str, settleL_sl, settleL_ref, List.length_nil, List.length_cons, List.length_append, Nat.reduceAdd, Nat.zero_add, Nat.add_zero, List.cons_append]
  repeat (refine And.intro (by first | omega | (intros; omega) | (intros; simp_all; done) | (intros; simp_all; omega)) ?_)
  refine k _ ?_; clear k K
  refine k6 _ ?_
  refine n5 _ _ (weak_keep [0, 1, 5] _) ?_
  simp only [keep_mk, keepE_nil, keepE_cons, look_cons, look_nil, Nat.reduceEqDiff, reduceIte]
  refine v_seq ?_; intro Q7 n7 e7 r7
  refine v_seq ?_; intro Q8 n8 e8 r8
  refine v_region ?_; intro K9 k9
  -- 14 := move t5
  refine v_op ?_; intro K k
  simp only [aStepM, optable, get_mk, look_cons, look_nil, set_some, set_none, ev_tmp, ev_const, ev_func, Nat.reduceEqDiff, reduceIte, dst_some, dst_none, Nat.reduceLT, List.append_nil, List.nil_append, true_and, and_true, and_self, implies_true, forall_const, imp_self, Bool.false_eq_true, false_implies, cond_true, cond_false, decide_eq_true_eq, eq_self_iff_true, exists_eq_left', Option.some.injEq, reduceCtorEq, not_false_eq_true, not_true_eq_false, ne_eq, V.ofValue, V.ofScalar, V.un, V.gd, aExec, aop, ]
  repeat (refine And.intro (by first | omega | (intros; omega) | (intros; simp_all; done) | (intros; simp_all; omega)) ?_)
  refine k _ ?_; clear k K
  -- 15 := binOp Go.BinOp.lss 3 t14 c<0:i64> 3
  refine v_op ?_; intro K k
  simp only [aStepM, optable, get_mk, look_cons, look_nil, set_some, set_none, ev_tmp, ev_const, ev_func, Nat.reduceEqDiff, reduceIte, dst_some, dst_none, Nat.reduceLT, List.append_nil, List.nil_append, true_and, and_true, and_self, implies_true, forall_const, imp_self, Bool.false_eq_true, false_implies, cond_true, cond_false, decide_eq_true_eq, eq_self_iff_true, exists_eq_left', Option.some.injEq, reduceCtorEq, not_false_eq_true, not_true_eq_false, ne_eq, V.ofValue, V.ofScalar, V.un, V.gd, aExec, aop, aBin, Try.underlying3]
  repeat (refine And.intro (by first | omega | (intros; omega) | (intros; simp_all; done) | (intros; simp_all; omega)) ?_)
  refine k _ ?_; clear k K
  refine k9 _ ?_
  refine n8 _ _ (weak_keep [0, 1, 15] _) ?_
  simp only [keep_mk, keepE_nil, keepE_cons, look_cons, look_nil, Nat.reduceEqDiff, reduceIte]
  refine v_cond _ rfl ?_ ?_  -- COND 0
  · intro hc0
    simp only [decide_eq_true_eq, decide_eq_false_iff_not, Bool.and_eq_true, Bool.or_eq_true, Bool.not_eq_true', Bool.not_eq_false', Bool.and_eq_false_imp, Bool.or_eq_false_iff, Int.not_lt, Int.not_le, reduceCtorEq, Bool.true_eq_false, Bool.false_eq_true, imp_false, Classical.not_imp] at hc0
    refine v_seq ?_; intro Q11 n11 e11 r11
    refine v_region ?_; intro K12 k12
    -- 4 := assign c<true>
    refine v_op ?_; intro K k
    simp only [aStepM, optable, get_mk, look_cons, look_nil, set_some, set_none, ev_tmp, ev_const, ev_func, Nat.reduceEqDiff, reduceIte, dst_some, dst_none, Nat.reduceLT, List.append_nil, List.nil_append, true_and, and_true, and_self, implies_true, forall_const, imp_self, Bool.false_eq_true, false_implies, cond_true, cond_false, decide_eq_true_eq, eq_self_iff_true, exists_eq_left', Option.some.injEq, reduceCtorEq, not_false_eq_true, not_true_eq_false, ne_eq, V.ofValue, V.ofScalar, V.un, V.gd, aExec, aop, settle_int, settle_bool, settle_str, settle_nsl, settle_sl, settle_ref, settle_sub, settle_ptr, settle_pv, settle_tup, settle_fn, settle_npt, settle_agg, settleL_nil, settleL_nsl, settleL_int, settleL_bool, settleL_str, settleL_sl, settleL_ref, List.length_nil, List.length_cons, List.length_append, Nat.reduceAdd, Nat.zero_add, Nat.add_zero, List.cons_append]
    repeat (refine And.intro (by first | omega | (intros; omega) | (intros; simp_all; done) | (intros; simp_all; omega)) ?_)
    refine k _ ?_; clear k K
    refine k12 _ ?_
    refine n11 _ _ (weak_keep [4] _) ?_
    simp only [keep_mk, keepE_nil, keepE_cons, look_cons, look_nil, Nat.reduceEqDiff, reduceIte]
    refine v_ret ?_
    refine r7 _ ?_
    refine r0 _ ?_
    simp only [resK, pickRV, get_mk, look_cons, look_nil, Nat.reduceEqDiff, reduceIte, List.map_cons, List.map_nil]
    exact ret_pure rfl rfl (.inl rfl)
  · intro hc0
    simp only [decide_eq_true_eq, decide_eq_false_iff_not, Bool.and_eq_true, Bool.or_eq_true, Bool.not_eq_true', Bool.not_eq_false', Bool.and_eq_false_imp, Bool.or_eq_false_iff, Int.not_lt, Int.not_le, reduceCtorEq, Bool.true_eq_false, Bool.false_eq_true, imp_false, Classical.not_imp] at hc0
    have hl2 : ll.length ≤ 1048576 := by
      split at hc0 <;> omega
    have hls2 : ∀ l ∈ ll, l.length ≤ 1048576 := by
      intro l h
      split at hc0
      · omega
      · have := szSS_le hc0 l h; omega
    refine v_skip ?_
    refine n7 _ _ (weak_keep [0, 1] _) ?_
    simp only [keep_mk, keepE_nil, keepE_cons, look_cons, look_nil, Nat.reduceEqDiff, reduceIte]
    refine v_seq ?_; intro Q13 n13 e13 r13
    refine v_region ?_; intro K14 k14
    -- 17 := move t0
    refine v_op ?_; intro K k
    simp only [aStepM, optable, get_mk, look_cons, look_nil, set_some, set_none, ev_tmp, ev_const, ev_func, Nat.reduceEqDiff, reduceIte, dst_some, dst_none, Nat.reduceLT, List.append_nil, List.nil_append, true_and, and_true, and_self, implies_true, forall_const, imp_self, Bool.false_eq_true, false_implies, cond_true, cond_false, decide_eq_true_eq, eq_self_iff_true, exists_eq_left', Option.some.injEq, reduceCtorEq, not_false_eq_true, not_true_eq_false, ne_eq, V.ofValue, V.ofScalar, V.un, V.gd, aExec, aop, ]
    repeat (refine And.intro (by first | omega | (intros; omega) | (intros; simp_all; done) | (intros; simp_all; omega)) ?_)
    refine k _ ?_; clear k K
    -- 18 := call v f15 t17 | 28
    refine v_op ?_; intro K k
    simp only [aStepM, optable, get_mk, look_cons, look_nil, set_some, set_none, ev_tmp, ev_const, ev_func, Nat.reduceEqDiff, reduceIte, dst_some, dst_none, Nat.reduceLT, List.append_nil, List.nil_append, true_and, and_true, and_self, implies_true, forall_const, imp_self, Bool.false_eq_true, false_implies, cond_true, cond_false, decide_eq_true_eq, eq_self_iff_true, exists_eq_left', Option.some.injEq, reduceCtorEq, not_false_eq_true, not_true_eq_false, ne_eq, V.ofValue, V.ofScalar, V.un, V.gd, aExec, lentIds, lendOf, List.map_cons, List.map_nil, List.append_nil, List.filterMap_nil, List.mem_cons, List.not_mem_nil, or_false, forall_eq_or_imp, forall_eq, false_implies, Try.underlying28, Ty.c28, Ty.a28, Ty.b28, Ty.s28, Try.underlying33, Ty.c33, Ty.a33, Ty.b33, Ty.s33]
    repeat (refine And.intro (by first | rfl | (intros; simp_all; done)) ?_)
    refine aCall_new (toIntSS_con ll hl2 hls2) (by first | rfl | simp only [toArgs, toArg, toCell, toCells, idx, row_mk, List.getElem?_cons_zero, List.getElem?_cons_succ, Option.bind_some, Blk.row, fillK_mix, cond_true]) (by first | exact .inl ⟨rfl, by simp [Blk.kindIs, fillK_fd]⟩ | exact .inr (by simp [V.cold])) ?_
    refine k _ ?_; clear k K
    simp only [get_mk, look_cons, look_nil, set_some, set_none, ev_tmp, ev_const, ev_func, Nat.reduceEqDiff, reduceIte, V.ren, V.renL, List.append_nil, List.cons_append, List.nil_append, rho, List.length_nil, List.length_cons, Nat.reduceAdd, Nat.zero_add, Nat.not_lt_zero, if_false, Nat.sub_zero]
    -- 19 := move t1
    refine v_op ?_; intro K k
    simp only [aStepM, optable, get_mk, look_cons, look_nil, set_some, set_none, ev_tmp, ev_const, ev_func, Nat.reduceEqDiff, reduceIte, dst_some, dst_none, Nat.reduceLT, List.append_nil, List.nil_append, true_and, and_true, and_self, implies_true, forall_const, imp_self, Bool.false_eq_true, false_implies, cond_true, cond_false, decide_eq_true_eq, eq_self_iff_true, exists_eq_left', Option.some.injEq, reduceCtorEq, not_false_eq_true, not_true_eq_false, ne_eq, V.ofValue, V.ofScalar, V.un, V.gd, aExec, aop, ]
    repeat (refine And.intro (by first | omega | (intros; omega) | (intros; simp_all; done) | (intros; simp_all; omega)) ?_)
    refine k _ ?_; clear k K
    -- 20 := call v f32 t18 t19 | 28 3
    refine v_op ?_; intro K k
    simp only [aStepM, optable, get_mk, look_cons, look_nil, set_some, set_none, ev_tmp, ev_const, ev_func, Nat.reduceEqDiff, reduceIte, dst_some, dst_none, Nat.reduceLT, List.append_nil, List.nil_append, true_and, and_true, and_self, implies_true, forall_const, imp_self, Bool.false_eq_true, false_implies, cond_true, cond_false, decide_eq_true_eq, eq_self_iff_true, exists_eq_left', Option.some.injEq, reduceCtorEq, not_false_eq_true, not_true_eq_false, ne_eq, V.ofValue, V.ofScalar, V.un, V.gd, aExec, lentIds, lendOf, List.map_cons, List.map_nil, List.append_nil, List.filterMap_nil, List.mem_cons, List.not_mem_nil, or_false, forall_eq_or_imp, forall_eq, false_implies, Try.underlying3, Ty.c3, Ty.a3, Ty.b3, Ty.s3, Try.underlying28, Ty.c28, Ty.a28, Ty.b28, Ty.s28, Try.underlying33, Ty.c33, Ty.a33, Ty.b33, Ty.s33]
    repeat (refine And.intro (by first | rfl | (intros; simp_all; done)) ?_)
    refine aCall_new (specSpread_con ll n hl2 hls2) (by first | rfl | simp only [toArgs, toArg, toCell, toCells, idx, row_mk, List.getElem?_cons_zero, List.getElem?_cons_succ, Option.bind_some, Blk.row, fillK_mix, cond_true]) (by first | exact .inl ⟨rfl, by simp [Blk.kindIs, fillK_fd]⟩ | exact .inr (by simp [V.cold])) ?_
    refine k _ ?_; clear k K
    simp only [get_mk, look_cons, look_nil, set_some, set_none, ev_tmp, ev_const, ev_func, Nat.reduceEqDiff, reduceIte, V.ren, V.renL, List.append_nil, List.cons_append, List.nil_append, rho, List.length_nil, List.length_cons, Nat.reduceAdd, Nat.zero_add, Nat.not_lt_zero, if_false, Nat.sub_zero]
    -- 16 := move t20
    refine v_op ?_; intro K k
    simp only [aStepM, optable, get_mk, look_cons, look_nil, set_some, set_none, ev_tmp, ev_const, ev_func, Nat.reduceEqDiff, reduceIte, dst_some, dst_none, Nat.reduceLT, List.append_nil, List.nil_append, true_and, and_true, and_self, implies_true, forall_const, imp_self, Bool.false_eq_true, false_implies, cond_true, cond_false, decide_eq_true_eq, eq_self_iff_true, exists_eq_left', Option.some.injEq, reduceCtorEq, not_false_eq_true, not_true_eq_false, ne_eq, V.ofValue, V.ofScalar, V.un, V.gd, aExec, aop, ]
    repeat (refine And.intro (by first | omega | (intros; omega) | (intros; simp_all; done) | (intros; simp_all; omega)) ?_)
    refine k _ ?_; clear k K
    -- 21 := extract t16 0
    refine v_op ?_; intro K k
    simp only [aStepM, optable, get_mk, look_cons, look_nil, set_some, set_none, ev_tmp, ev_const, ev_func, Nat.reduceEqDiff, reduceIte, dst_some, dst_none, Nat.reduceLT, List.append_nil, List.nil_append, true_and, and_true, and_self, implies_true, forall_const, imp_self, Bool.false_eq_true, false_implies, cond_true, cond_false, decide_eq_true_eq, eq_self_iff_true, exists_eq_left', Option.some.injEq, reduceCtorEq, not_false_eq_true, not_true_eq_false, ne_eq, V.ofValue, V.ofScalar, V.un, V.gd, aExec, aop, aExtract, List.getElem?_toArray, List.getElem?_cons_succ, List.getElem?_cons_zero, List.getD_cons_zero, List.getD_cons_succ, List.length_cons, List.length_nil, List.drop_zero, List.drop_succ_cons, List.headD_cons, List.take_succ_cons, List.take_zero, List.take_nil, List.drop_nil, List.map_cons, List.map_nil, Option.bind_some, Option.isSome_some, Option.map_some, Nat.zero_lt_one, Nat.lt_add_one, Nat.zero_add, Nat.add_zero, Nat.reduceAdd, Nat.reduceLeDiff, Nat.reduceLT, Nat.reduceMul, Nat.le_refl, Nat.zero_lt_succ]
    repeat (refine And.intro (by first | omega | (intros; omega) | (intros; simp_all; done) | (intros; simp_all; omega)) ?_)
    refine k _ ?_; clear k K
    -- 22 := extract t16 1
    refine v_op ?_; intro K k
    simp only [aStepM, optable, get_mk, look_cons, look_nil, set_some, set_none, ev_tmp, ev_const, ev_func, Nat.reduceEqDiff, reduceIte, dst_some, dst_none, Nat.reduceLT, List.append_nil, List.nil_append, true_and, and_true, and_self, implies_true, forall_const, imp_self, Bool.false_eq_true, false_implies, cond_true, cond_false, decide_eq_true_eq, eq_self_iff_true, exists_eq_left', Option.some.injEq, reduceCtorEq, not_false_eq_true, not_true_eq_false, ne_eq, V.ofValue, V.ofScalar, V.un, V.gd, aExec, aop, aExtract, List.getElem?_toArray, List.getElem?_cons_succ, List.getElem?_cons_zero, List.getD_cons_zero, List.getD_cons_succ, List.length_cons, List.length_nil, List.drop_zero, List.drop_succ_cons, List.headD_cons, List.take_succ_cons, List.take_zero, List.take_nil, List.drop_nil, List.map_cons, List.map_nil, Option.bind_some, Option.isSome_some, Option.map_some, Nat.zero_lt_one, Nat.lt_add_one, Nat.zero_add, Nat.add_zero, Nat.reduceAdd, Nat.reduceLeDiff, Nat.reduceLT, Nat.reduceMul, Nat.le_refl, Nat.zero_lt_succ]
    repeat (refine And.intro (by first | omega | (intros; omega) | (intros; simp_all; done) | (intros; simp_all; omega)) ?_)
    refine k _ ?_; clear k K
    -- 6 := assign t21
    refine v_op ?_; intro K k
    simp only [aStepM, optable, get_mk, look_cons, look_nil, set_some, set_none, ev_tmp, ev_const, ev_func, Nat.reduceEqDiff, reduceIte, dst_some, dst_none, Nat.reduceLT, List.append_nil, List.nil_append, true_and, and_true, and_self, implies_true, forall_const, imp_self, Bool.false_eq_true, false_implies, cond_true, cond_false, decide_eq_true_eq, eq_self_iff_true, exists_eq_left', Option.some.injEq, reduceCtorEq, not_false_eq_true, not_true_eq_false, ne_eq, V.ofValue, V.ofScalar, V.un, V.gd, aExec, aop, settle_int, settle_bool, settle_str, settle_nsl, settle_sl, settle_ref, settle_sub, settle_ptr, settle_pv, settle_tup, settle_fn, settle_npt, settle_agg, settleL_nil, settleL_nsl, settleL_int, settleL_bool, settleL_str, settleL_sl, settleL_ref, List.length_nil, List.length_cons, List.length_append, Nat.reduceAdd, Nat.zero_add, Nat.add_zero, List.cons_append]
    repeat (refine And.intro (by first | omega | (intros; omega) | (intros; simp_all; done) | (intros; simp_all; omega)) ?_)
    refine k _ ?_; clear k K
    -- 7 := assign t22
    refine v_op ?_; intro K k
    simp only [aStepM, optable, get_mk, look_cons, look_nil, set_some, set_none, ev_tmp, ev_const, ev_func, Nat.reduceEqDiff, reduceIte, dst_some, dst_none, Nat.reduceLT, List.append_nil, List.nil_append, true_and, and_true, and_self, implies_true, forall_const, imp_self, Bool.false_eq_true, false_implies, cond_true, cond_false, decide_eq_true_eq, eq_self_iff_true, exists_eq_left', Option.some.injEq, reduceCtorEq, not_false_eq_true, not_true_eq_false, ne_eq, V.ofValue, V.ofScalar, V.un, V.gd, aExec, aop, settle_int, settle_bool, settle_str, settle_nsl, settle_sl, settle_ref, settle_sub, settle_ptr, settle_pv, settle_tup, settle_fn, settle_npt, settle_agg, settleL_nil, settleL_nsl, settleL_int, settleL_bool, settleL_str, settleL_sl, settleL_ref, List.length_nil, List.length_cons, List.length_append, Nat.reduceAdd, Nat.zero_add, Nat.add_zero, List.cons_append]
    repeat (refine And.intro (by first | omega | (intros; omega) | (intros; simp_all; done) | (intros; simp_all; omega)) ?_)
    refine k _ ?_; clear k K
    refine k14 _ ?_
    refine n13 _ _ (weak_keep [0, 1, 6, 7] _) ?_
    simp only [keep_mk, keepE_nil, keepE_cons, look_cons, look_nil, Nat.reduceEqDiff, reduceIte]
    refine v_seq ?_; intro Q15 n15 e15 r15
    refine v_region ?_; intro K16 k16
    -- 23 := move t0
    refine v_op ?_; intro K k
    simp only [aStepM, optable, get_mk, look_cons, look_nil, set_some, set_none, ev_tmp, ev_const, ev_func, Nat.reduceEqDiff, reduceIte, dst_some, dst_none, Nat.reduceLT, List.append_nil, List.nil_append, true_and, and_true, and_self, implies_true, forall_const, imp_self, Bool.false_eq_true, false_implies, cond_true, cond_false, decide_eq_true_eq, eq_self_iff_true, exists_eq_left', Option.some.injEq, reduceCtorEq, not_false_eq_true, not_true_eq_false, ne_eq, V.ofValue, V.ofScalar, V.un, V.gd, aExec, aop, ]
    repeat (refine And.intro (by first | omega | (intros; omega) | (intros; simp_all; done) | (intros; simp_all; omega)) ?_)
    refine k _ ?_; clear k K
    -- 24 := call v f15 t23 | 28
    refine v_op ?_; intro K k
    simp only [aStepM, optable, get_mk, look_cons, look_nil, set_some, set_none, ev_tmp, ev_const, ev_func, Nat.reduceEqDiff, reduceIte, dst_some, dst_none, Nat.reduceLT, List.append_nil, List.nil_append, true_and, and_true, and_self, implies_true, forall_const, imp_self, Bool.false_eq_true, false_implies, cond_true, cond_false, decide_eq_true_eq, eq_self_iff_true, exists_eq_left', Option.some.injEq, reduceCtorEq, not_false_eq_true, not_true_eq_false, ne_eq, V.ofValue, V.ofScalar, V.un, V.gd, aExec, lentIds, lendOf, List.map_cons, List.map_nil, List.append_nil, List.filterMap_nil, List.mem_cons, List.not_mem_nil, or_false, forall_eq_or_imp, forall_eq, false_implies, Try.underlying28, Ty.c28, Ty.a28, Ty.b28, Ty.s28, Try.underlying33, Ty.c33, Ty.a33, Ty.b33, Ty.s33]
    repeat (refine And.intro (by first | rfl | (intros; simp_all; done)) ?_)
    refine aCall_new (toIntSS_con ll hl2 hls2) (by first | rfl | simp only [toArgs, toArg, toCell, toCells, idx, row_mk, List.getElem?_cons_zero, List.getElem?_cons_succ, Option.bind_some, Blk.row, fillK_mix, cond_true]) (by first | exact .inl ⟨rfl, by simp [Blk.kindIs, fillK_fd]⟩ | exact .inr (by simp [V.cold])) ?_
    refine k _ ?_; clear k K
    simp only [get_mk, look_cons, look_nil, set_some, set_none, ev_tmp, ev_const, ev_func, Nat.reduceEqDiff, reduceIte, V.ren, V.renL, List.append_nil, List.cons_append, List.nil_append, rho, List.length_nil, List.length_cons, Nat.reduceAdd, Nat.zero_add, Nat.not_lt_zero, if_false, Nat.sub_zero]
    -- 8 := assign t24
    refine v_op ?_; intro K k
    simp only [aStepM, optable, get_mk, look_cons, look_nil, set_some, set_none, ev_tmp, ev_const, ev_func, Nat.reduceEqDiff, reduceIte, dst_some, dst_none, Nat.reduceLT, List.append_nil, List.nil_append, true_and, and_true, and_self, implies_true, forall_const, imp_self, Bool.false_eq_true, false_implies, cond_true, cond_false, decide_eq_true_eq, eq_self_iff_true, exists_eq_left', Option.some.injEq, reduceCtorEq, not_false_eq_true, not_true_eq_false, ne_eq, V.ofValue, V.ofScalar, V.un, V.gd, aExec, aop, settle_int, settle_bool, settle_str, settle_nsl, settle_sl, settle_ref, settle_sub, settle_ptr, settle_pv, settle_tup, settle_fn, settle_npt, settle_agg, settleL_nil, settleL_nsl, settleL_int, settleL_bool, settleL_str, settleL_sl, settleL_ref, List.length_nil, List.length_cons, List.length_append, Nat.reduceAdd, Nat.zero_add, Nat.add_zero, List.cons_append]
    repeat (refine And.intro (by first | omega | (intros; omega) | (intros; simp_all; done) | (intros; simp_all; omega)) ?_)
    refine k _ ?_; clear k K
    refine k16 _ ?_
    refine n15 _ _ (weak_keep [0, 1, 6, 7, 8] _) ?_
    simp only [keep_mk, keepE_nil, keepE_cons, look_cons, look_nil, Nat.reduceEqDiff, reduceIte]
    refine v_seq ?_; intro Q17 n17 e17 r17
    refine v_region ?_; intro K18 k18
    -- 26 := move t8
    refine v_op ?_; intro K k
    simp only [aStepM, optable, get_mk, look_cons, look_nil, set_some, set_none, ev_tmp, ev_const, ev_func, Nat.reduceEqDiff, reduceIte, dst_some, dst_none, Nat.reduceLT, List.append_nil, List.nil_append, true_and, and_true, and_self, implies_true, forall_const, imp_self, Bool.false_eq_true, false_implies, cond_true, cond_false, decide_eq_true_eq, eq_self_iff_true, exists_eq_left', Option.some.injEq, reduceCtorEq, not_false_eq_true, not_true_eq_false, ne_eq, V.ofValue, V.ofScalar, V.un, V.gd, aExec, aop, ]
    repeat (refine And.intro (by first | omega | (intros; omega) | (intros; simp_all; done) | (intros; simp_all; omega)) ?_)
    refine k _ ?_; clear k K
    -- 27 := move t1
    refine v_op ?_; intro K k
    simp only [aStepM, optable, get_mk, look_cons, look_nil, set_some, set_none, ev_tmp, ev_const, ev_func, Nat.reduceEqDiff, reduceIte, dst_some, dst_none, Nat.reduceLT, List.append_nil, List.nil_append, true_and, and_true, and_self, implies_true, forall_const, imp_self, Bool.false_eq_true, false_implies, cond_true, cond_false, decide_eq_true_eq, eq_self_iff_true, exists_eq_left', Option.some.injEq, reduceCtorEq, not_false_eq_true, not_true_eq_false, ne_eq, V.ofValue, V.ofScalar, V.un, V.gd, aExec, aop, ]
    repeat (refine And.intro (by first | omega | (intros; omega) | (intros; simp_all; done) | (intros; simp_all; omega)) ?_)
    refine k _ ?_; clear k K
    -- 28 := call v f33 t26 t27 | 28 3
    refine v_op ?_; intro K k
    simp only [aStepM, optable, get_mk, look_cons, look_nil, set_some, set_none, ev_tmp, ev_const, ev_func, Nat.reduceEqDiff, reduceIte, dst_some, dst_none, Nat.reduceLT, List.append_nil, List.nil_append, true_and, and_true, and_self, implies_true, forall_const, imp_self, Bool.false_eq_true, false_implies, cond_true, cond_false, decide_eq_true_eq, eq_self_iff_true, exists_eq_left', Option.some.injEq, reduceCtorEq, not_false_eq_true, not_true_eq_false, ne_eq, V.ofValue, V.ofScalar, V.un, V.gd, aExec, lentIds, lendOf, List.map_cons, List.map_nil, List.append_nil, List.filterMap_nil, List.mem_cons, List.not_mem_nil, or_false, forall_eq_or_imp, forall_eq, false_implies, Try.underlying3, Ty.c3, Ty.a3, Ty.b3, Ty.s3, Try.underlying28, Ty.c28, Ty.a28, Ty.b28, Ty.s28, Try.underlying33, Ty.c33, Ty.a33, Ty.b33, Ty.s33]
    repeat (refine And.intro (by first | rfl | (intros; simp_all; done)) ?_)
    refine aCall_new (implSpread_con ll n hl2 hls2) (by first | rfl | simp only [toArgs, toArg, toCell, toCells, idx, row_mk, List.getElem?_cons_zero, List.getElem?_cons_succ, Option.bind_some, Blk.row, fillK_mix, cond_true]) (by first | exact .inl ⟨rfl, by simp [Blk.kindIs, fillK_fd]⟩ | exact .inr (by simp [V.cold])) ?_
    refine k _ ?_; clear k K
    simp only [get_mk, look_cons, look_nil, set_some, set_none, ev_tmp, ev_const, ev_func, Nat.reduceEqDiff, reduceIte, V.ren, V.renL, List.append_nil, List.cons_append, List.nil_append, rho, List.length_nil, List.length_cons, Nat.reduceAdd, Nat.zero_add, Nat.not_lt_zero, if_false, Nat.sub_zero]
    -- 25 := move t28
    refine v_op ?_; intro K k
    simp only [aStepM, optable, get_mk, look_cons, look_nil, set_some, set_none, ev_tmp, ev_const, ev_func, Nat.reduceEqDiff, reduceIte, dst_some, dst_none, Nat.reduceLT, List.append_nil, List.nil_append, true_and, and_true, and_self, implies_true, forall_const, imp_self, Bool.false_eq_true, false_implies, cond_true, cond_false, decide_eq_true_eq, eq_self_iff_true, exists_eq_left', Option.some.injEq, reduceCtorEq, not_false_eq_true, not_true_eq_false, ne_eq, V.ofValue, V.ofScalar, V.un, V.gd, aExec, aop, ]
    repeat (refine And.intro (by first | omega | (intros; omega) | (intros; simp_all; done) | (intros; simp_all; omega)) ?_)
    refine k _ ?_; clear k K
    -- 29 := extract t25 0
    refine v_op ?_; intro K k
    simp only [aStepM, optable, get_mk, look_cons, look_nil, set_some, set_none, ev_tmp, ev_const, ev_func, Nat.reduceEqDiff, reduceIte, dst_some, dst_none, Nat.reduceLT, List.append_nil, List.nil_append, true_and, and_true, and_self, implies_true, forall_const, imp_self, Bool.false_eq_true, false_implies, cond_true, cond_false, decide_eq_true_eq, eq_self_iff_true, exists_eq_left', Option.some.injEq, reduceCtorEq, not_false_eq_true, not_true_eq_false, ne_eq, V.ofValue, V.ofScalar, V.un, V.gd, aExec, aop, aExtract, List.getElem?_toArray, List.getElem?_cons_succ, List.getElem?_cons_zero, List.getD_cons_zero, List.getD_cons_succ, List.length_cons, List.length_nil, List.drop_zero, List.drop_succ_cons, List.headD_cons, List.take_succ_cons, List.take_zero, List.take_nil, List.drop_nil, List.map_cons, List.map_nil, Option.bind_some, Option.isSome_some, Option.map_some, Nat.zero_lt_one, Nat.lt_add_one, Nat.zero_add, Nat.add_zero, Nat.reduceAdd, Nat.reduceLeDiff, Nat.reduceLT, Nat.reduceMul, Nat.le_refl, Nat.zero_lt_succ]
    repeat (refine And.intro (by first | omega | (intros; omega) | (intros; simp_all; done) | (intros; simp_all; omega)) ?_)
    refine k _ ?_; clear k K
    -- 30 := extract t25 1
    refine v_op ?_; intro K k
    simp only [aStepM, optable, get_mk, look_cons, look_nil, set_some, set_none, ev_tmp, ev_const, ev_func, Nat.reduceEqDiff, reduceIte, dst_some, dst_none, Nat.reduceLT, List.append_nil, List.nil_append, true_and, and_true, and_self, implies_true, forall_const, imp_self, Bool.false_eq_true, false_implies, cond_true, cond_false, decide_eq_true_eq, eq_self_iff_true, exists_eq_left', Option.some.injEq, reduceCtorEq, not_false_eq_true, not_true_eq_false, ne_eq, V.ofValue, V.ofScalar, V.un, V.gd, aExec, aop, aExtract, List.getElem?_toArray, List.getElem?_cons_succ, List.getElem?_cons_zero, List.getD_cons_zero, List.getD_cons_succ, List.length_cons, List.length_nil, List.drop_zero, List.drop_succ_cons, List.headD_cons, List.take_succ_cons, List.take_zero, List.take_nil, List.drop_nil, List.map_cons, List.map_nil, Option.bind_some, Option.isSome_some, Option.map_some, Nat.zero_lt_one, Nat.lt_add_one, Nat.zero_add, Nat.add_zero, Nat.reduceAdd, Nat.reduceLeDiff, Nat.reduceLT, Nat.reduceMul, Nat.le_refl, Nat.zero_lt_succ]
    repeat (refine And.intro (by first | omega | (intros; omega) | (intros; simp_all; done) | (intros; simp_all; omega)) ?_)
    refine k _ ?_; clear k K
    -- 9 := assign t29
    refine v_op ?_; intro K k
    simp only [aStepM, optable, get_mk, look_cons, look_nil, set_some, set_none, ev_tmp, ev_const, ev_func, Nat.reduceEqDiff, reduceIte, dst_some, dst_none, Nat.reduceLT, List.append_nil, List.nil_append, true_and, and_true, and_self, implies_true, forall_const, imp_self, Bool.false_eq_true, false_implies, cond_true, cond_false, decide_eq_true_eq, eq_self_iff_true, exists_eq_left', Option.some.injEq, reduceCtorEq, not_false_eq_true, not_true_eq_false, ne_eq, V.ofValue, V.ofScalar, V.un, V.gd, aExec, aop, settle_int, settle_bool, settle_str, settle_nsl, settle_sl, settle_ref, settle_sub, settle_ptr, settle_pv, settle_tup, settle_fn, settle_npt, settle_agg, settleL_nil, settleL_nsl, settleL_int, settleL_bool, settleL_str, settleL_sl, settleL_ref, List.length_nil, List.length_cons, List.length_append, Nat.reduceAdd, Nat.zero_add, Nat.add_zero, List.cons_append]
    repeat (refine And.intro (by first | omega | (intros; omega) | (intros; simp_all; done) | (intros; simp_all; omega)) ?_)
    refine k _ ?_; clear k K
    -- 10 := assign t30
    refine v_op ?_; intro K k
    simp only [aStepM, optable, get_mk, look_cons, look_nil, set_some, set_none, ev_tmp, ev_const, ev_func, Nat.reduceEqDiff, reduceIte, dst_some, dst_none, Nat.reduceLT, List.append_nil, List.nil_append, true_and, and_true, and_self, implies_true, forall_const, imp_self, Bool.false_eq_true, false_implies, cond_true, cond_false, decide_eq_true_eq, eq_self_iff_true, exists_eq_left', Option.some.injEq, reduceCtorEq, not_false_eq_true, not_true_eq_false, ne_eq, V.ofValue, V.ofScalar, V.un, V.gd, aExec, aop, settle_int, settle_bool, settle_str, settle_nsl, settle_sl, settle_ref, settle_sub, settle_ptr, settle_pv, settle_tup, settle_fn, settle_npt, settle_agg, settleL_nil, settleL_nsl, settleL_int, settleL_bool, settleL_str, settleL_sl, settleL_ref, List.length_nil, List.length_cons, List.length_append, Nat.reduceAdd, Nat.zero_add, Nat.add_zero, List.cons_append]
    repeat (refine And.intro (by first | omega | (intros; omega) | (intros; simp_all; done) | (intros; simp_all; omega)) ?_)
    refine k _ ?_; clear k K
    refine k18 _ ?_
    refine n17 _ _ (weak_keep [0, 6, 7, 8, 9, 10] _) ?_
    simp only [keep_mk, keepE_nil, keepE_cons, look_cons, look_nil, Nat.reduceEqDiff, reduceIte]
    refine v_seq ?_; intro Q19 n19 e19 r19
    refine v_seq ?_; intro Q20 n20 e20 r20
    refine v_region ?_; intro K21 k21
    -- 31 := move t9
    refine v_op ?_; intro K k
    simp only [aStepM, optable, get_mk, look_cons, look_nil, set_some, set_none, ev_tmp, ev_const, ev_func, Nat.reduceEqDiff, reduceIte, dst_some, dst_none, Nat.reduceLT, List.append_nil, List.nil_append, true_and, and_true, and_self, implies_true, forall_const, imp_self, Bool.false_eq_true, false_implies, cond_true, cond_false, decide_eq_true_eq, eq_self_iff_true, exists_eq_left', Option.some.injEq, reduceCtorEq, not_false_eq_true, not_true_eq_false, ne_eq, V.ofValue, V.ofScalar, V.un, V.gd, aExec, aop, ]
    repeat (refine And.intro (by first | omega | (intros; omega) | (intros; simp_all; done) | (intros; simp_all; omega)) ?_)
    refine k _ ?_; clear k K
    -- 32 := move t6
    refine v_op ?_; intro K k
    simp only [aStepM, optable, get_mk, look_cons, look_nil, set_some, set_none, ev_tmp, ev_const, ev_func, Nat.reduceEqDiff, reduceIte, dst_some, dst_none, Nat.reduceLT, List.append_nil, List.nil_append, true_and, and_true, and_self, implies_true, forall_const, imp_self, Bool.false_eq_true, false_implies, cond_true, cond_false, decide_eq_true_eq, eq_self_iff_true, exists_eq_left', Option.some.injEq, reduceCtorEq, not_false_eq_true, not_true_eq_false, ne_eq, V.ofValue, V.ofScalar, V.un, V.gd, aExec, aop, ]
    repeat (refine And.intro (by first | omega | (intros; omega) | (intros; simp_all; done) | (intros; simp_all; omega)) ?_)
    refine k _ ?_; clear k K
    -- 33 := binOp Go.BinOp.neq 3 t31 t32 3
    refine v_op ?_; intro K k
    simp only [aStepM, optable, get_mk, look_cons, look_nil, set_some, set_none, ev_tmp, ev_const, ev_func, Nat.reduceEqDiff, reduceIte, dst_some, dst_none, Nat.reduceLT, List.append_nil, List.nil_append, true_and, and_true, and_self, implies_true, forall_const, imp_self, Bool.false_eq_true, false_implies, cond_true, cond_false, decide_eq_true_eq, eq_self_iff_true, exists_eq_left', Option.some.injEq, reduceCtorEq, not_false_eq_true, not_true_eq_false, ne_eq, V.ofValue, V.ofScalar, V.un, V.gd, aExec, aop, aBin, Try.underlying3]
    repeat (refine And.intro (by first | omega | (intros; omega) | (intros; simp_all; done) | (intros; simp_all; omega)) ?_)
    refine k _ ?_; clear k K
    -- 34 := move t33
    refine v_op ?_; intro K k
    simp only [aStepM, optable, get_mk, look_cons, look_nil, set_some, set_none, ev_tmp, ev_const, ev_func, Nat.reduceEqDiff, reduceIte, dst_some, dst_none, Nat.reduceLT, List.append_nil, List.nil_append, true_and, and_true, and_self, implies_true, forall_const, imp_self, Bool.false_eq_true, false_implies, cond_true, cond_false, decide_eq_true_eq, eq_self_iff_true, exists_eq_left', Option.some.injEq, reduceCtorEq, not_false_eq_true, not_true_eq_false, ne_eq, V.ofValue, V.ofScalar, V.un, V.gd, aExec, aop, ]
    repeat (refine And.intro (by first | omega | (intros; omega) | (intros; simp_all; done) | (intros; simp_all; omega)) ?_)
    refine k _ ?_; clear k K
    -- 35 := move t10
    first
    | refine v_pass 35 3 false rfl (show 35 < 44 by decide) rfl ?_ ?_
      · first | rfl | (simp only [guardV, List.getElem?_toArray, List.getElem?_cons_succ, List.getElem?_cons_zero, Option.bind_some, get_mk, look_cons, Nat.reduceEqDiff, reduceIte, cond_true, cond_false, Bool.and_false, Bool.false_and, Bool.not_true, Bool.not_false]; done)
      simp only [get_mk, look_cons, look_nil, set_some, set_none, ev_tmp, ev_const, ev_func, Nat.reduceEqDiff, reduceIte]
    | skip
      -- 35 := move t10
      refine v_op ?_; intro K k
      simp only [aStepM, optable, get_mk, look_cons, look_nil, set_some, set_none, ev_tmp, ev_const, ev_func, Nat.reduceEqDiff, reduceIte, dst_some, dst_none, Nat.reduceLT, List.append_nil, List.nil_append, true_and, and_true, and_self, implies_true, forall_const, imp_self, Bool.false_eq_true, false_implies, cond_true, cond_false, decide_eq_true_eq, eq_self_iff_true, exists_eq_left', Option.some.injEq, reduceCtorEq, not_false_eq_true, not_true_eq_false, ne_eq, V.ofValue, V.ofScalar, V.un, V.gd, guardV, List.getElem?_toArray, List.getElem?_cons_succ, List.getElem?_cons_zero, Option.bind_some, V.wrap, aop, ]
      repeat (refine And.intro (by first | omega | (intros; omega) | (intros; simp_all; done) | (intros; simp_all; omega)) ?_)
      refine k _ ?_; clear k K
    -- 36 := move t7
    first
    | refine v_pass 36 3 false rfl (show 36 < 44 by decide) rfl ?_ ?_
      · first | rfl | (simp only [guardV, List.getElem?_toArray, List.getElem?_cons_succ, List.getElem?_cons_zero, Option.bind_some, get_mk, look_cons, Nat.reduceEqDiff, reduceIte, cond_true, cond_false, Bool.and_false, Bool.false_and, Bool.not_true, Bool.not_false]; done)
      simp only [get_mk, look_cons, look_nil, set_some, set_none, ev_tmp, ev_const, ev_func, Nat.reduceEqDiff, reduceIte]
    | skip
      -- 36 := move t7
      refine v_op ?_; intro K k
      simp only [aStepM, optable, get_mk, look_cons, look_nil, set_some, set_none, ev_tmp, ev_const, ev_func, Nat.reduceEqDiff, reduceIte, dst_some, dst_none, Nat.reduceLT, List.append_nil, List.nil_append, true_and, and_true, and_self, implies_true, forall_const, imp_self, Bool.false_eq_true, false_implies, cond_true, cond_false, decide_eq_true_eq, eq_self_iff_true, exists_eq_left', Option.some.injEq, reduceCtorEq, not_false_eq_true, not_true_eq_false, ne_eq, V.ofValue, V.ofScalar, V.un, V.gd, guardV, List.getElem?_toArray, List.getElem?_cons_succ, List.getElem?_cons_zero, Option.bind_some, V.wrap, aop, ]
      repeat (refine And.intro (by first | omega | (intros; omega) | (intros; simp_all; done) | (intros; simp_all; omega)) ?_)
      refine k _ ?_; clear k K
    -- 37 := binOp Go.BinOp.neq 4 t35 t36 4
    first
    | refine v_pass 37 3 false rfl (show 37 < 44 by decide) rfl ?_ ?_
      · first | rfl | (simp only [guardV, List.getElem?_toArray, List.getElem?_cons_succ, List.getElem?_cons_zero, Option.bind_some, get_mk, look_cons, Nat.reduceEqDiff, reduceIte, cond_true, cond_false, Bool.and_false, Bool.false_and, Bool.not_true, Bool.not_false]; done)
      simp only [get_mk, look_cons, look_nil, set_some, set_none, ev_tmp, ev_const, ev_func, Nat.reduceEqDiff, reduceIte]
    | skip
      -- 37 := binOp Go.BinOp.neq 4 t35 t36 4
      refine v_op ?_; intro K k
      simp only [aStepM, optable, get_mk, look_cons, look_nil, set_some, set_none, ev_tmp, ev_const, ev_func, Nat.reduceEqDiff, reduceIte, dst_some, dst_none, Nat.reduceLT, List.append_nil, List.nil_append, true_and, and_true, and_self, implies_true, forall_const, imp_self, Bool.false_eq_true, false_implies, cond_true, cond_false, decide_eq_true_eq, eq_self_iff_true, exists_eq_left', Option.some.injEq, reduceCtorEq, not_false_eq_true, not_true_eq_false, ne_eq, V.ofValue, V.ofScalar, V.un, V.gd, guardV, List.getElem?_toArray, List.getElem?_cons_succ, List.getElem?_cons_zero, Option.bind_some, V.wrap, aop, aBin, Try.underlying4]
      repeat (refine And.intro (by first | omega | (intros; omega) | (intros; simp_all; done) | (intros; simp_all; omega)) ?_)
      refine k _ ?_; clear k K
    -- 38 := pick t34 c<true> t37
    refine v_op ?_; intro K k
    simp only [aStepM, optable, get_mk, look_cons, look_nil, set_some, set_none, ev_tmp, ev_const, ev_func, Nat.reduceEqDiff, reduceIte, dst_some, dst_none, Nat.reduceLT, List.append_nil, List.nil_append, true_and, and_true, and_self, implies_true, forall_const, imp_self, Bool.false_eq_true, false_implies, cond_true, cond_false, decide_eq_true_eq, eq_self_iff_true, exists_eq_left', Option.some.injEq, reduceCtorEq, not_false_eq_true, not_true_eq_false, ne_eq, V.ofValue, V.ofScalar, V.un, V.gd, aExec, aop, pickV, Bool.cond_true_right, Bool.cond_true_left, Bool.cond_false_right, Bool.cond_false_left]
    repeat (refine And.intro (by first | omega | (intros; omega) | (intros; simp_all; done) | (intros; simp_all; omega)) ?_)
    refine k _ ?_; clear k K
    refine k21 _ ?_
    refine n20 _ _ (weak_keep [0, 8, 38] _) ?_
    simp only [keep_mk, keepE_nil, keepE_cons, look_cons, look_nil, Nat.reduceEqDiff, reduceIte]
    refine v_cond _ rfl ?_ ?_  -- COND 1
    · intro hc1
      exfalso; simp at hc1
    · intro hc1
      simp only [decide_eq_true_eq, decide_eq_false_iff_not, Bool.and_eq_true, Bool.or_eq_true, Bool.not_eq_true', Bool.not_eq_false', Bool.and_eq_false_imp, Bool.or_eq_false_iff, Int.not_lt, Int.not_le, reduceCtorEq, Bool.true_eq_false, Bool.false_eq_true, imp_false, Classical.not_imp] at hc1
      refine v_skip ?_
      refine n19 _ _ (weak_keep [0, 8] _) ?_
      simp only [keep_mk, keepE_nil, keepE_cons, look_cons, look_nil, Nat.reduceEqDiff, reduceIte]
      refine v_seq ?_; intro Q23 n23 e23 r23
      refine v_seq ?_; intro Q24 n24 e24 r24
      refine v_region ?_; intro K25 k25
      -- 39 := move t8
      refine v_op ?_; intro K k
      simp only [aStepM, optable, get_mk, look_cons, look_nil, set_some, set_none, ev_tmp, ev_const, ev_func, Nat.reduceEqDiff, reduceIte, dst_some, dst_none, Nat.reduceLT, List.append_nil, List.nil_append, true_and, and_true, and_self, implies_true, forall_const, imp_self, Bool.false_eq_true, false_implies, cond_true, cond_false, decide_eq_true_eq, eq_self_iff_true, exists_eq_left', Option.some.injEq, reduceCtorEq, not_false_eq_true, not_true_eq_false, ne_eq, V.ofValue, V.ofScalar, V.un, V.gd, aExec, aop, ]
      repeat (refine And.intro (by first | omega | (intros; omega) | (intros; simp_all; done) | (intros; simp_all; omega)) ?_)
      refine k _ ?_; clear k K
      -- 40 := move t0
      refine v_op ?_; intro K k
      simp only [aStepM, optable, get_mk, look_cons, look_nil, set_some, set_none, ev_tmp, ev_const, ev_func, Nat.reduceEqDiff, reduceIte, dst_some, dst_none, Nat.reduceLT, List.append_nil, List.nil_append, true_and, and_true, and_self, implies_true, forall_const, imp_self, Bool.false_eq_true, false_implies, cond_true, cond_false, decide_eq_true_eq, eq_self_iff_true, exists_eq_left', Option.some.injEq, reduceCtorEq, not_false_eq_true, not_true_eq_false, ne_eq, V.ofValue, V.ofScalar, V.un, V.gd, aExec, aop, ]
      repeat (refine And.intro (by first | omega | (intros; omega) | (intros; simp_all; done) | (intros; simp_all; omega)) ?_)
      refine k _ ?_; clear k K
      -- 41 := call v f15 t40 | 28
      refine v_op ?_; intro K k
      simp only [aStepM, optable, get_mk, look_cons, look_nil, set_some, set_none, ev_tmp, ev_const, ev_func, Nat.reduceEqDiff, reduceIte, dst_some, dst_none, Nat.reduceLT, List.append_nil, List.nil_append, true_and, and_true, and_self, implies_true, forall_const, imp_self, Bool.false_eq_true, false_implies, cond_true, cond_false, decide_eq_true_eq, eq_self_iff_true, exists_eq_left', Option.some.injEq, reduceCtorEq, not_false_eq_true, not_true_eq_false, ne_eq, V.ofValue, V.ofScalar, V.un, V.gd, aExec, lentIds, lendOf, List.map_cons, List.map_nil, List.append_nil, List.filterMap_nil, List.mem_cons, List.not_mem_nil, or_false, forall_eq_or_imp, forall_eq, false_implies, Try.underlying28, Ty.c28, Ty.a28, Ty.b28, Ty.s28, Try.underlying33, Ty.c33, Ty.a33, Ty.b33, Ty.s33]
      repeat (refine And.intro (by first | rfl | (intros; simp_all; done)) ?_)
      refine aCall_new (toIntSS_con ll hl2 hls2) (by first | rfl | simp only [toArgs, toArg, toCell, toCells, idx, row_mk, List.getElem?_cons_zero, List.getElem?_cons_succ, Option.bind_some, Blk.row, fillK_mix, cond_true]) (by first | exact .inl ⟨rfl, by simp [Blk.kindIs, fillK_fd]⟩ | exact .inr (by simp [V.cold])) ?_
      refine k _ ?_; clear k K
      simp only [get_mk, look_cons, look_nil, set_some, set_none, ev_tmp, ev_const, ev_func, Nat.reduceEqDiff, reduceIte, V.ren, V.renL, List.append_nil, List.cons_append, List.nil_append, rho, List.length_nil, List.length_cons, Nat.reduceAdd, Nat.zero_add, Nat.not_lt_zero, if_false, Nat.sub_zero]
      -- 42 := call v f17 t39 t41 | 28 28
      refine v_op ?_; intro K k
      simp only [aStepM, optable, get_mk, look_cons, look_nil, set_some, set_none, ev_tmp, ev_const, ev_func, Nat.reduceEqDiff, reduceIte, dst_some, dst_none, Nat.reduceLT, List.append_nil, List.nil_append, true_and, and_true, and_self, implies_true, forall_const, imp_self, Bool.false_eq_true, false_implies, cond_true, cond_false, decide_eq_true_eq, eq_self_iff_true, exists_eq_left', Option.some.injEq, reduceCtorEq, not_false_eq_true, not_true_eq_false, ne_eq, V.ofValue, V.ofScalar, V.un, V.gd, aExec, lentIds, lendOf, List.map_cons, List.map_nil, List.append_nil, List.filterMap_nil, List.mem_cons, List.not_mem_nil, or_false, forall_eq_or_imp, forall_eq, false_implies, Try.underlying4, Ty.c4, Ty.a4, Ty.b4, Ty.s4, Try.underlying28, Ty.c28, Ty.a28, Ty.b28, Ty.s28, Try.underlying33, Ty.c33, Ty.a33, Ty.b33, Ty.s33]
      repeat (refine And.intro (by first | rfl | (intros; simp_all; done)) ?_)
      refine aCall_new (eqIntSS_con ll ll hl2 hls2) (by first | rfl | simp only [toArgs, toArg, toCell, toCells, idx, row_mk, List.getElem?_cons_zero, List.getElem?_cons_succ, Option.bind_some, Blk.row, fillK_mix, cond_true]) (by first | exact .inl ⟨rfl, by simp [Blk.kindIs, fillK_fd]⟩ | exact .inr (by simp [V.cold])) ?_
      refine k _ ?_; clear k K
      simp only [get_mk, look_cons, look_nil, set_some, set_none, ev_tmp, ev_const, ev_func, Nat.reduceEqDiff, reduceIte, V.ren, V.renL, List.append_nil, List.cons_append, List.nil_append, rho, List.length_nil, List.length_cons, Nat.reduceAdd, Nat.zero_add, Nat.not_lt_zero, if_false, Nat.sub_zero]
      -- 43 := unOp Go.UnOp.not 4 t42
      refine v_op ?_; intro K k
      simp only [aStepM, optable, get_mk, look_cons, look_nil, set_some, set_none, ev_tmp, ev_const, ev_func, Nat.reduceEqDiff, reduceIte, dst_some, dst_none, Nat.reduceLT, List.append_nil, List.nil_append, true_and, and_true, and_self, implies_true, forall_const, imp_self, Bool.false_eq_true, false_implies, cond_true, cond_false, decide_eq_true_eq, eq_self_iff_true, exists_eq_left', Option.some.injEq, reduceCtorEq, not_false_eq_true, not_true_eq_false, ne_eq, V.ofValue, V.ofScalar, V.un, V.gd, aExec, aop, aUn, Try.underlying4]
      repeat (refine And.intro (by first | omega | (intros; omega) | (intros; simp_all; done) | (intros; simp_all; omega)) ?_)
      refine k _ ?_; clear k K
      refine k25 _ ?_
      refine n24 _ _ (weak_keep [43] _) ?_
      simp only [keep_mk, keepE_nil, keepE_cons, look_cons, look_nil, Nat.reduceEqDiff, reduceIte]
      refine v_cond _ rfl ?_ ?_  -- COND 2
      · intro hc2
        exfalso; simp at hc2
      · intro hc2
        simp only [decide_eq_true_eq, decide_eq_false_iff_not, Bool.and_eq_true, Bool.or_eq_true, Bool.not_eq_true', Bool.not_eq_false', Bool.and_eq_false_imp, Bool.or_eq_false_iff, Int.not_lt, Int.not_le, reduceCtorEq, Bool.true_eq_false, Bool.false_eq_true, imp_false, Classical.not_imp] at hc2
        refine v_skip ?_
        refine n23 _ _ (weak_keep [] _) ?_
        simp only [keep_mk, keepE_nil, keepE_cons, look_cons, look_nil, Nat.reduceEqDiff, reduceIte]
        refine v_seq ?_; intro Q27 n27 e27 r27
        refine v_region ?_; intro K28 k28
        -- 4 := assign c<true>
        refine v_op ?_; intro K k
        simp only [aStepM, optable, get_mk, look_cons, look_nil, set_some, set_none, ev_tmp, ev_const, ev_func, Nat.reduceEqDiff, reduceIte, dst_some, dst_none, Nat.reduceLT, List.append_nil, List.nil_append, true_and, and_true, and_self, implies_true, forall_const, imp_self, Bool.false_eq_true, false_implies, cond_true, cond_false, decide_eq_true_eq, eq_self_iff_true, exists_eq_left', Option.some.injEq, reduceCtorEq, not_false_eq_true, not_true_eq_false, ne_eq, V.ofValue, V.ofScalar, V.un, V.gd, aExec, aop, settle_int, settle_bool, settle_str, settle_nsl, settle_sl, settle_ref, settle_sub, settle_ptr, settle_pv, settle_tup, settle_fn, settle_npt, settle_agg, settleL_nil, settleL_nsl, settleL_int, settleL_bool, settleL_str, settleL_sl, settleL_ref, List.length_nil, List.length_cons, List.length_append, Nat.reduceAdd, Nat.zero_add, Nat.add_zero, List.cons_append]
        repeat (refine And.intro (by first | omega | (intros; omega) | (intros; simp_all; done) | (intros; simp_all; omega)) ?_)
        refine k _ ?_; clear k K
        refine k28 _ ?_
        refine n27 _ _ (weak_keep [4] _) ?_
        simp only [keep_mk, keepE_nil, keepE_cons, look_cons, look_nil, Nat.reduceEqDiff, reduceIte]
        refine v_ret ?_
        refine r0 _ ?_
        simp only [resK, pickRV, get_mk, look_cons, look_nil, Nat.reduceEqDiff, reduceIte, List.map_cons, List.map_nil]
        exact ret_pure rfl rfl (.inl rfl)
end Go.Proofs.Ythehbhfjapinnaa
