/- What functions compute (Spread). No condition. -/
import Derived.Test.YthehbhfjapinnaaTy
import Derived.Test.YthehbhfjapinnaaVm20
import Derived.Test.YthehbhfjapinnaaWShifts
import Derived.Test.YthehbhfjapinnaaWExtremes
import Derived.Test.YthehbhfjapinnaaWRoster
set_option linter.unusedSimpArgs false
set_option linter.unusedVariables false
namespace Go.Proofs.Ythehbhfjapinnaa
open Go Go.Vm

def spreadV (d : List (List Int)) (n : Int) : Int := match shiftsOf d n with
  | [] => 0
  | x :: l => IntKind.i64.wrap (mostL l x - leastL l x)
theorem shifts_cons {d : List (List Int)} {n : Int} (h : 1 ≤ n) : ∃ x l, shiftsOf d n = x :: l := by
  have := shiftsOf_len d n
  cases hs : shiftsOf d n with
  | nil => rw [hs] at this; simp at this; omega
  | cons x l => exact ⟨x, l, rfl⟩

-- loop.example/g01020/impl.Spread
set_option maxHeartbeats 1000000 in
theorem implSpread_con (d : List (List Int)) (n : Int) (hd : d.length ≤ 1048576) (hds : ∀ l ∈ d, l.length ≤ 1048576) : Con Try.prog 33 [.sl (d.map fun l => V.sl (l.map (V.int .i64))), .int .i64 n] [] (.tup [.int .i64 (if rosterB d n then spreadV d n else 0), .bool (rosterB d n)]) [] := by
  refine v_con [.tmp 4, .tmp 5] [] Try.func33 rfl rfl rfl (by simp [Try.ntmps33]) ?_
  intro Q0 n0 r0
  simp only [Try.ntmps33, envFrom, Nat.reduceAdd]
  refine v_seq ?_; intro Q1 n1 e1 r1
  refine v_region ?_; intro K2 k2
  -- 4 := assign c<0:i64>
  refine v_op ?_; intro K k
  simp only [aStepM, optable, get_mk, look_cons, look_nil, set_some, set_none, ev_tmp, ev_const, ev_func, Nat.reduceEqDiff, reduceIte, dst_some, dst_none, Nat.reduceLT, List.append_nil, List.nil_append, true_and, and_true, and_self, implies_true, forall_const, imp_self, Bool.false_eq_true, false_implies, cond_true, cond_false, decide_eq_true_eq, eq_self_iff_true, exists_eq_left', Option.some.injEq, reduceCtorEq, not_false_eq_true, not_true_eq_false, ne_eq, V.ofValue, V.ofScalar, V.un, V.gd, aExec, aop, settle_int, settle_bool, settle_str, settle_nsl, settle_sl, settle_ref, settle_sub, settle_ptr, settle_pv, settle_tup, settle_fn, settle_npt, settle_agg, settleL_nil, settleL_nsl, settleL_int, settleL_bool, settleL_str, settleL_sl, settleL_ref, List.length_nil, List.length_cons, List.length_append, Nat.reduceAdd, Nat.zero_add, Nat.add_zero, List.cons_append]
  repeat (refine And.intro (by first | omega | (intros; omega) | (intros; simp_all; done) | (intros; simp_all; omega)) ?_)
  refine k _ ?_; clear k K
  -- 5 := assign c<false>
  refine v_op ?_; intro K k
  simp only [aStepM, optable, get_mk, look_cons, look_nil, set_some, set_none, ev_tmp, ev_const, ev_func, Nat.reduceEqDiff, reduceIte, dst_some, dst_none, Nat.reduceLT, List.append_nil, List.nil_append, true_and, and_true, and_self, implies_true, forall_const, imp_self, Bool.false_eq_true, false_implies, cond_true, cond_false, decide_eq_true_eq, eq_self_iff_true, exists_eq_left', Option.some.injEq, reduceCtorEq, not_false_eq_true, not_true_eq_false, ne_eq, V.ofValue, V.ofScalar, V.un, V.gd, aExec, aop, settle_int, settle_bool, settle_str, settle_nsl, settle_sl, settle_ref, settle_sub, settle_ptr, settle_pv, settle_tup, settle_fn, settle_npt, settle_agg, settleL_nil, settleL_nsl, settleL_int, settleL_bool, settleL_str, settleL_sl, settleL_ref, List.length_nil, List.length_cons, List.length_append, Nat.reduceAdd, Nat.zero_add, Nat.add_zero, List.cons_append]
  repeat (refine And.intro (by first | omega | (intros; omega) | (intros; simp_all; done) | (intros; simp_all; omega)) ?_)
  refine k _ ?_; clear k K
  refine k2 _ ?_
  refine n1 _ _ (weak_keep [0, 1] _) ?_
  simp only [keep_mk, keepE_nil, keepE_cons, look_cons, look_nil, Nat.reduceEqDiff, reduceIte]
  refine v_seq ?_; intro Q3 n3 e3 r3
  refine v_seq ?_; intro Q4 n4 e4 r4
  refine v_region ?_; intro K5 k5
  -- 7 := move t0
  refine v_op ?_; intro K k
  simp only [aStepM, optable, get_mk, look_cons, look_nil, set_some, set_none, ev_tmp, ev_const, ev_func, Nat.reduceEqDiff, reduceIte, dst_some, dst_none, Nat.reduceLT, List.append_nil, List.nil_append, true_and, and_true, and_self, implies_true, forall_const, imp_self, Bool.false_eq_true, false_implies, cond_true, cond_false, decide_eq_true_eq, eq_self_iff_true, exists_eq_left', Option.some.injEq, reduceCtorEq, not_false_eq_true, not_true_eq_false, ne_eq, V.ofValue, V.ofScalar, V.un, V.gd, aExec, aop, ]
  repeat (refine And.intro (by first | omega | (intros; omega) | (intros; simp_all; done) | (intros; simp_all; omega)) ?_)
  refine k _ ?_; clear k K
  -- 8 := move t1
  refine v_op ?_; intro K k
  simp only [aStepM, optable, get_mk, look_cons, look_nil, set_some, set_none, ev_tmp, ev_const, ev_func, Nat.reduceEqDiff, reduceIte, dst_some, dst_none, Nat.reduceLT, List.append_nil, List.nil_append, true_and, and_true, and_self, implies_true, forall_const, imp_self, Bool.false_eq_true, false_implies, cond_true, cond_false, decide_eq_true_eq, eq_self_iff_true, exists_eq_left', Option.some.injEq, reduceCtorEq, not_false_eq_true, not_true_eq_false, ne_eq, V.ofValue, V.ofScalar, V.un, V.gd, aExec, aop, ]
  repeat (refine And.intro (by first | omega | (intros; omega) | (intros; simp_all; done) | (intros; simp_all; omega)) ?_)
  refine k _ ?_; clear k K
  -- 9 := call v f40 t7 t8 | 28 3
  refine v_op ?_; intro K k
  simp only [aStepM, optable, get_mk, look_cons, look_nil, set_some, set_none, ev_tmp, ev_const, ev_func, Nat.reduceEqDiff, reduceIte, dst_some, dst_none, Nat.reduceLT, List.append_nil, List.nil_append, true_and, and_true, and_self, implies_true, forall_const, imp_self, Bool.false_eq_true, false_implies, cond_true, cond_false, decide_eq_true_eq, eq_self_iff_true, exists_eq_left', Option.some.injEq, reduceCtorEq, not_false_eq_true, not_true_eq_false, ne_eq, V.ofValue, V.ofScalar, V.un, V.gd, aExec, lentIds, lendOf, List.map_cons, List.map_nil, List.append_nil, List.filterMap_nil, List.mem_cons, List.not_mem_nil, or_false, forall_eq_or_imp, forall_eq, false_implies, Try.underlying3, Ty.c3, Ty.a3, Ty.b3, Ty.s3, Try.underlying4, Ty.c4, Ty.a4, Ty.b4, Ty.s4, Try.underlying28, Ty.c28, Ty.a28, Ty.b28, Ty.s28, Try.underlying33, Ty.c33, Ty.a33, Ty.b33, Ty.s33]
  repeat (refine And.intro (by first | rfl | (intros; simp_all; done)) ?_)
  refine aCall_new (isRoster_con d n hd hds) (by first | rfl | simp only [toArgs, toArg, toCell, toCells, idx, row_mk, List.getElem?_cons_zero, List.getElem?_cons_succ, Option.bind_some, Blk.row, fillK_mix, cond_true]) (by first | exact .inl ⟨rfl, by simp [Blk.kindIs, fillK_fd]⟩ | exact .inr (by simp [V.cold])) ?_
  refine k _ ?_; clear k K
  simp only [get_mk, look_cons, look_nil, set_some, set_none, ev_tmp, ev_const, ev_func, Nat.reduceEqDiff, reduceIte, V.ren, V.renL, List.append_nil, List.cons_append, List.nil_append, rho, List.length_nil, List.length_cons, Nat.reduceAdd, Nat.zero_add, Nat.not_lt_zero, if_false, Nat.sub_zero]
  -- 10 := unOp Go.UnOp.not 4 t9
  refine v_op ?_; intro K k
  simp only [aStepM, optable, get_mk, look_cons, look_nil, set_some, set_none, ev_tmp, ev_const, ev_func, Nat.reduceEqDiff, reduceIte, dst_some, dst_none, Nat.reduceLT, List.append_nil, List.nil_append, true_and, and_true, and_self, implies_true, forall_const, imp_self, Bool.false_eq_true, false_implies, cond_true, cond_false, decide_eq_true_eq, eq_self_iff_true, exists_eq_left', Option.some.injEq, reduceCtorEq, not_false_eq_true, not_true_eq_false, ne_eq, V.ofValue, V.ofScalar, V.un, V.gd, aExec, aop, aUn, Try.underlying4]
  repeat (refine And.intro (by first | omega | (intros; omega) | (intros; simp_all; done) | (intros; simp_all; omega)) ?_)
  refine k _ ?_; clear k K
  refine k5 _ ?_
  refine n4 _ _ (weak_keep [0, 1, 10] _) ?_
  simp only [keep_mk, keepE_nil, keepE_cons, look_cons, look_nil, Nat.reduceEqDiff, reduceIte]
  refine v_cond _ rfl ?_ ?_  -- COND 0
  · intro hc0
    simp only [decide_eq_true_eq, decide_eq_false_iff_not, Bool.and_eq_true, Bool.or_eq_true, Bool.not_eq_true', Bool.not_eq_false', Bool.and_eq_false_imp, Bool.or_eq_false_iff, Int.not_lt, Int.not_le, reduceCtorEq, Bool.true_eq_false, Bool.false_eq_true, imp_false, Classical.not_imp] at hc0
    refine v_seq ?_; intro Q7 n7 e7 r7
    refine v_region ?_; intro K8 k8
    -- 4 := assign c<0:i64>
    refine v_op ?_; intro K k
    simp only [aStepM, optable, get_mk, look_cons, look_nil, set_some, set_none, ev_tmp, ev_const, ev_func, Nat.reduceEqDiff, reduceIte, dst_some, dst_none, Nat.reduceLT, List.append_nil, List.nil_append, true_and, and_true, and_self, implies_true, forall_const, imp_self, Bool.false_eq_true, false_implies, cond_true, cond_false, decide_eq_true_eq, eq_self_iff_true, exists_eq_left', Option.some.injEq, reduceCtorEq, not_false_eq_true, not_true_eq_false, ne_eq, V.ofValue, V.ofScalar, V.un, V.gd, aExec, aop, settle_int, settle_bool, settle_str, settle_nsl, settle_sl, settle_ref, settle_sub, settle_ptr, settle_pv, settle_tup, settle_fn, settle_npt, settle_agg, settleL_nil, settleL_nsl, settleL_int, settleL_bool, settleL_str, settleL_sl, settleL_ref, List.length_nil, List.length_cons, List.length_append, Nat.reduceAdd, Nat.zero_add, Nat.add_zero, List.cons_append]
    repeat (refine And.intro (by first | omega | (intros; omega) | (intros; simp_all; done) | (intros; simp_all; omega)) ?_)
    refine k _ ?_; clear k K
    -- 5 := assign c<false>
    refine v_op ?_; intro K k
    simp only [aStepM, optable, get_mk, look_cons, look_nil, set_some, set_none, ev_tmp, ev_const, ev_func, Nat.reduceEqDiff, reduceIte, dst_some, dst_none, Nat.reduceLT, List.append_nil, List.nil_append, true_and, and_true, and_self, implies_true, forall_const, imp_self, Bool.false_eq_true, false_implies, cond_true, cond_false, decide_eq_true_eq, eq_self_iff_true, exists_eq_left', Option.some.injEq, reduceCtorEq, not_false_eq_true, not_true_eq_false, ne_eq, V.ofValue, V.ofScalar, V.un, V.gd, aExec, aop, settle_int, settle_bool, settle_str, settle_nsl, settle_sl, settle_ref, settle_sub, settle_ptr, settle_pv, settle_tup, settle_fn, settle_npt, settle_agg, settleL_nil, settleL_nsl, settleL_int, settleL_bool, settleL_str, settleL_sl, settleL_ref, List.length_nil, List.length_cons, List.length_append, Nat.reduceAdd, Nat.zero_add, Nat.add_zero, List.cons_append]
    repeat (refine And.intro (by first | omega | (intros; omega) | (intros; simp_all; done) | (intros; simp_all; omega)) ?_)
    refine k _ ?_; clear k K
    refine k8 _ ?_
    refine n7 _ _ (weak_keep [4, 5] _) ?_
    simp only [keep_mk, keepE_nil, keepE_cons, look_cons, look_nil, Nat.reduceEqDiff, reduceIte]
    refine v_ret ?_
    refine r3 _ ?_
    refine r0 _ ?_
    simp only [resK, pickRV, get_mk, look_cons, look_nil, Nat.reduceEqDiff, reduceIte, List.map_cons, List.map_nil]
    rw [if_neg (by rw [hc0]; simp), hc0]
    exact ret_pure rfl rfl (.inl rfl)
  · intro hc0
    simp only [decide_eq_true_eq, decide_eq_false_iff_not, Bool.and_eq_true, Bool.or_eq_true, Bool.not_eq_true', Bool.not_eq_false', Bool.and_eq_false_imp, Bool.or_eq_false_iff, Int.not_lt, Int.not_le, reduceCtorEq, Bool.true_eq_false, Bool.false_eq_true, imp_false, Classical.not_imp] at hc0
    have hro := roster_in hc0
    obtain ⟨x, l, hs⟩ := shifts_cons (d := d) hro.1
    have hsv : spreadV d n = IntKind.i64.wrap (mostL l x - leastL l x) := by rw [spreadV, hs]
    have hlen : (x :: l).length ≤ 1048576 := by have := shiftsOf_len d n; rw [hs] at this; rw [this]; omega
    refine v_skip ?_
    refine n3 _ _ (weak_keep [0, 1] _) ?_
    simp only [keep_mk, keepE_nil, keepE_cons, look_cons, look_nil, Nat.reduceEqDiff, reduceIte]
    refine v_seq ?_; intro Q9 n9 e9 r9
    refine v_region ?_; intro K10 k10
    -- 11 := move t0
    refine v_op ?_; intro K k
    simp only [aStepM, optable, get_mk, look_cons, look_nil, set_some, set_none, ev_tmp, ev_const, ev_func, Nat.reduceEqDiff, reduceIte, dst_some, dst_none, Nat.reduceLT, List.append_nil, List.nil_append, true_and, and_true, and_self, implies_true, forall_const, imp_self, Bool.false_eq_true, false_implies, cond_true, cond_false, decide_eq_true_eq, eq_self_iff_true, exists_eq_left', Option.some.injEq, reduceCtorEq, not_false_eq_true, not_true_eq_false, ne_eq, V.ofValue, V.ofScalar, V.un, V.gd, aExec, aop, ]
    repeat (refine And.intro (by first | omega | (intros; omega) | (intros; simp_all; done) | (intros; simp_all; omega)) ?_)
    refine k _ ?_; clear k K
    -- 12 := move t1
    refine v_op ?_; intro K k
    simp only [aStepM, optable, get_mk, look_cons, look_nil, set_some, set_none, ev_tmp, ev_const, ev_func, Nat.reduceEqDiff, reduceIte, dst_some, dst_none, Nat.reduceLT, List.append_nil, List.nil_append, true_and, and_true, and_self, implies_true, forall_const, imp_self, Bool.false_eq_true, false_implies, cond_true, cond_false, decide_eq_true_eq, eq_self_iff_true, exists_eq_left', Option.some.injEq, reduceCtorEq, not_false_eq_true, not_true_eq_false, ne_eq, V.ofValue, V.ofScalar, V.un, V.gd, aExec, aop, ]
    repeat (refine And.intro (by first | omega | (intros; omega) | (intros; simp_all; done) | (intros; simp_all; omega)) ?_)
    refine k _ ?_; clear k K
    -- 13 := call v f42 t11 t12 | 28 3
    refine v_op ?_; intro K k
    simp only [aStepM, optable, get_mk, look_cons, look_nil, set_some, set_none, ev_tmp, ev_const, ev_func, Nat.reduceEqDiff, reduceIte, dst_some, dst_none, Nat.reduceLT, List.append_nil, List.nil_append, true_and, and_true, and_self, implies_true, forall_const, imp_self, Bool.false_eq_true, false_implies, cond_true, cond_false, decide_eq_true_eq, eq_self_iff_true, exists_eq_left', Option.some.injEq, reduceCtorEq, not_false_eq_true, not_true_eq_false, ne_eq, V.ofValue, V.ofScalar, V.un, V.gd, aExec, lentIds, lendOf, List.map_cons, List.map_nil, List.append_nil, List.filterMap_nil, List.mem_cons, List.not_mem_nil, or_false, forall_eq_or_imp, forall_eq, false_implies, Try.underlying3, Ty.c3, Ty.a3, Ty.b3, Ty.s3, Try.underlying28, Ty.c28, Ty.a28, Ty.b28, Ty.s28, Try.underlying33, Ty.c33, Ty.a33, Ty.b33, Ty.s33]
    repeat (refine And.intro (by first | rfl | (intros; simp_all; done)) ?_)
    refine aCall_new ((hs ▸ shiftsOf_con d n hd hds hro.1 hro.2.1 hro.2.2 : Con _ _ _ _ _ [.arr ((x :: l).map (V.int .i64)) .flat])) (by first | rfl | simp only [toArgs, toArg, toCell, toCells, idx, row_mk, List.getElem?_cons_zero, List.getElem?_cons_succ, Option.bind_some, Blk.row, fillK_mix, cond_true]) (by first | exact .inl ⟨rfl, by simp [Blk.kindIs, fillK_fd]⟩ | exact .inr (by simp [V.cold])) ?_
    refine k _ ?_; clear k K
    simp only [get_mk, look_cons, look_nil, set_some, set_none, ev_tmp, ev_const, ev_func, Nat.reduceEqDiff, reduceIte, V.ren, V.renL, List.append_nil, List.cons_append, List.nil_append, rho, List.length_nil, List.length_cons, Nat.reduceAdd, Nat.zero_add, Nat.not_lt_zero, if_false, Nat.sub_zero]
    -- 6 := assign t13
    refine v_op ?_; intro K k
    simp only [aStepM, optable, get_mk, look_cons, look_nil, set_some, set_none, ev_tmp, ev_const, ev_func, Nat.reduceEqDiff, reduceIte, dst_some, dst_none, Nat.reduceLT, List.append_nil, List.nil_append, true_and, and_true, and_self, implies_true, forall_const, imp_self, Bool.false_eq_true, false_implies, cond_true, cond_false, decide_eq_true_eq, eq_self_iff_true, exists_eq_left', Option.some.injEq, reduceCtorEq, not_false_eq_true, not_true_eq_false, ne_eq, V.ofValue, V.ofScalar, V.un, V.gd, aExec, aop, settle_int, settle_bool, settle_str, settle_nsl, settle_sl, settle_ref, settle_sub, settle_ptr, settle_pv, settle_tup, settle_fn, settle_npt, settle_agg, settleL_nil, settleL_nsl, settleL_int, settleL_bool, settleL_str, settleL_sl, settleL_ref, List.length_nil, List.length_cons, List.length_append, Nat.reduceAdd, Nat.zero_add, Nat.add_zero, List.cons_append]
    repeat (refine And.intro (by first | omega | (intros; omega) | (intros; simp_all; done) | (intros; simp_all; omega)) ?_)
    refine k _ ?_; clear k K
    refine k10 _ ?_
    refine n9 _ _ (weak_keep [6] _) ?_
    simp only [keep_mk, keepE_nil, keepE_cons, look_cons, look_nil, Nat.reduceEqDiff, reduceIte]
    refine v_seq ?_; intro Q11 n11 e11 r11
    refine v_region ?_; intro K12 k12
    -- 14 := move t6
    refine v_op ?_; intro K k
    simp only [aStepM, optable, get_mk, look_cons, look_nil, set_some, set_none, ev_tmp, ev_const, ev_func, Nat.reduceEqDiff, reduceIte, dst_some, dst_none, Nat.reduceLT, List.append_nil, List.nil_append, true_and, and_true, and_self, implies_true, forall_const, imp_self, Bool.false_eq_true, false_implies, cond_true, cond_false, decide_eq_true_eq, eq_self_iff_true, exists_eq_left', Option.some.injEq, reduceCtorEq, not_false_eq_true, not_true_eq_false, ne_eq, V.ofValue, V.ofScalar, V.un, V.gd, aExec, aop, ]
    repeat (refine And.intro (by first | omega | (intros; omega) | (intros; simp_all; done) | (intros; simp_all; omega)) ?_)
    refine k _ ?_; clear k K
    -- 15 := call v f52 t14 | 33
    refine v_op ?_; intro K k
    simp only [aStepM, optable, get_mk, look_cons, look_nil, set_some, set_none, ev_tmp, ev_const, ev_func, Nat.reduceEqDiff, reduceIte, dst_some, dst_none, Nat.reduceLT, List.append_nil, List.nil_append, true_and, and_true, and_self, implies_true, forall_const, imp_self, Bool.false_eq_true, false_implies, cond_true, cond_false, decide_eq_true_eq, eq_self_iff_true, exists_eq_left', Option.some.injEq, reduceCtorEq, not_false_eq_true, not_true_eq_false, ne_eq, V.ofValue, V.ofScalar, V.un, V.gd, aExec, lentIds, lendOf, List.map_cons, List.map_nil, List.append_nil, List.filterMap_nil, List.mem_cons, List.not_mem_nil, or_false, forall_eq_or_imp, forall_eq, false_implies, Try.underlying3, Ty.c3, Ty.a3, Ty.b3, Ty.s3, Try.underlying33, Ty.c33, Ty.a33, Ty.b33, Ty.s33]
    repeat (refine And.intro (by first | rfl | (intros; simp_all; done)) ?_)
    refine aCall_new (slMax_con x l hlen) (by first | rfl | simp only [toArgs, toArg, toCell, toCells, idx, row_mk, List.getElem?_cons_zero, List.getElem?_cons_succ, Option.bind_some, Blk.row, fillK_mix, cond_true]) (by first | exact .inl ⟨rfl, by simp [Blk.kindIs, fillK_fd]⟩ | exact .inr (by simp [V.cold])) ?_
    refine k _ ?_; clear k K
    simp only [get_mk, look_cons, look_nil, set_some, set_none, ev_tmp, ev_const, ev_func, Nat.reduceEqDiff, reduceIte, V.ren, V.renL, List.append_nil, List.cons_append, List.nil_append, rho, List.length_nil, List.length_cons, Nat.reduceAdd, Nat.zero_add, Nat.not_lt_zero, if_false, Nat.sub_zero]
    -- 16 := move t6
    refine v_op ?_; intro K k
    simp only [aStepM, optable, get_mk, look_cons, look_nil, set_some, set_none, ev_tmp, ev_const, ev_func, Nat.reduceEqDiff, reduceIte, dst_some, dst_none, Nat.reduceLT, List.append_nil, List.nil_append, true_and, and_true, and_self, implies_true, forall_const, imp_self, Bool.false_eq_true, false_implies, cond_true, cond_false, decide_eq_true_eq, eq_self_iff_true, exists_eq_left', Option.some.injEq, reduceCtorEq, not_false_eq_true, not_true_eq_false, ne_eq, V.ofValue, V.ofScalar, V.un, V.gd, aExec, aop, ]
    repeat (refine And.intro (by first | omega | (intros; omega) | (intros; simp_all; done) | (intros; simp_all; omega)) ?_)
    refine k _ ?_; clear k K
    -- 17 := call v f53 t16 | 33
    refine v_op ?_; intro K k
    simp only [aStepM, optable, get_mk, look_cons, look_nil, set_some, set_none, ev_tmp, ev_const, ev_func, Nat.reduceEqDiff, reduceIte, dst_some, dst_none, Nat.reduceLT, List.append_nil, List.nil_append, true_and, and_true, and_self, implies_true, forall_const, imp_self, Bool.false_eq_true, false_implies, cond_true, cond_false, decide_eq_true_eq, eq_self_iff_true, exists_eq_left', Option.some.injEq, reduceCtorEq, not_false_eq_true, not_true_eq_false, ne_eq, V.ofValue, V.ofScalar, V.un, V.gd, aExec, lentIds, lendOf, List.map_cons, List.map_nil, List.append_nil, List.filterMap_nil, List.mem_cons, List.not_mem_nil, or_false, forall_eq_or_imp, forall_eq, false_implies, Try.underlying3, Ty.c3, Ty.a3, Ty.b3, Ty.s3, Try.underlying33, Ty.c33, Ty.a33, Ty.b33, Ty.s33]
    repeat (refine And.intro (by first | rfl | (intros; simp_all; done)) ?_)
    refine aCall_new (slMin_con x l hlen) (by first | rfl | simp only [toArgs, toArg, toCell, toCells, idx, row_mk, List.getElem?_cons_zero, List.getElem?_cons_succ, Option.bind_some, Blk.row, fillK_mix, cond_true]) (by first | exact .inl ⟨rfl, by simp [Blk.kindIs, fillK_fd]⟩ | exact .inr (by simp [V.cold])) ?_
    refine k _ ?_; clear k K
    simp only [get_mk, look_cons, look_nil, set_some, set_none, ev_tmp, ev_const, ev_func, Nat.reduceEqDiff, reduceIte, V.ren, V.renL, List.append_nil, List.cons_append, List.nil_append, rho, List.length_nil, List.length_cons, Nat.reduceAdd, Nat.zero_add, Nat.not_lt_zero, if_false, Nat.sub_zero]
    -- 18 := binOp Go.BinOp.sub 3 t15 t17 3
    refine v_op ?_; intro K k
    simp only [aStepM, optable, get_mk, look_cons, look_nil, set_some, set_none, ev_tmp, ev_const, ev_func, Nat.reduceEqDiff, reduceIte, dst_some, dst_none, Nat.reduceLT, List.append_nil, List.nil_append, true_and, and_true, and_self, implies_true, forall_const, imp_self, Bool.false_eq_true, false_implies, cond_true, cond_false, decide_eq_true_eq, eq_self_iff_true, exists_eq_left', Option.some.injEq, reduceCtorEq, not_false_eq_true, not_true_eq_false, ne_eq, V.ofValue, V.ofScalar, V.un, V.gd, aExec, aop, aBin, Try.underlying3]
    try simp (disch := omega) only [wrap64]
    repeat (refine And.intro (by first | omega | (intros; omega) | (intros; simp_all; done) | (intros; simp_all; omega)) ?_)
    refine k _ ?_; clear k K
    -- 4 := assign t18
    refine v_op ?_; intro K k
    simp only [aStepM, optable, get_mk, look_cons, look_nil, set_some, set_none, ev_tmp, ev_const, ev_func, Nat.reduceEqDiff, reduceIte, dst_some, dst_none, Nat.reduceLT, List.append_nil, List.nil_append, true_and, and_true, and_self, implies_true, forall_const, imp_self, Bool.false_eq_true, false_implies, cond_true, cond_false, decide_eq_true_eq, eq_self_iff_true, exists_eq_left', Option.some.injEq, reduceCtorEq, not_false_eq_true, not_true_eq_false, ne_eq, V.ofValue, V.ofScalar, V.un, V.gd, aExec, aop, settle_int, settle_bool, settle_str, settle_nsl, settle_sl, settle_ref, settle_sub, settle_ptr, settle_pv, settle_tup, settle_fn, settle_npt, settle_agg, settleL_nil, settleL_nsl, settleL_int, settleL_bool, settleL_str, settleL_sl, settleL_ref, List.length_nil, List.length_cons, List.length_append, Nat.reduceAdd, Nat.zero_add, Nat.add_zero, List.cons_append]
    repeat (refine And.intro (by first | omega | (intros; omega) | (intros; simp_all; done) | (intros; simp_all; omega)) ?_)
    refine k _ ?_; clear k K
    -- 5 := assign c<true>
    refine v_op ?_; intro K k
    simp only [aStepM, optable, get_mk, look_cons, look_nil, set_some, set_none, ev_tmp, ev_const, ev_func, Nat.reduceEqDiff, reduceIte, dst_some, dst_none, Nat.reduceLT, List.append_nil, List.nil_append, true_and, and_true, and_self, implies_true, forall_const, imp_self, Bool.false_eq_true, false_implies, cond_true, cond_false, decide_eq_true_eq, eq_self_iff_true, exists_eq_left', Option.some.injEq, reduceCtorEq, not_false_eq_true, not_true_eq_false, ne_eq, V.ofValue, V.ofScalar, V.un, V.gd, aExec, aop, settle_int, settle_bool, settle_str, settle_nsl, settle_sl, settle_ref, settle_sub, settle_ptr, settle_pv, settle_tup, settle_fn, settle_npt, settle_agg, settleL_nil, settleL_nsl, settleL_int, settleL_bool, settleL_str, settleL_sl, settleL_ref, List.length_nil, List.length_cons, List.length_append, Nat.reduceAdd, Nat.zero_add, Nat.add_zero, List.cons_append]
    repeat (refine And.intro (by first | omega | (intros; omega) | (intros; simp_all; done) | (intros; simp_all; omega)) ?_)
    refine k _ ?_; clear k K
    refine k12 _ ?_
    refine n11 _ _ (weak_keep [4, 5] _) ?_
    simp only [keep_mk, keepE_nil, keepE_cons, look_cons, look_nil, Nat.reduceEqDiff, reduceIte]
    refine v_ret ?_
    refine r0 _ ?_
    simp only [resK, pickRV, get_mk, look_cons, look_nil, Nat.reduceEqDiff, reduceIte, List.map_cons, List.map_nil]
    rw [if_pos hc0, hc0, hsv]
    exact ret_pure rfl rfl (.inl rfl)
-- loop.example/g01020/spec.Spread
set_option maxHeartbeats 1000000 in
theorem specSpread_con (d : List (List Int)) (n : Int) (hd : d.length ≤ 1048576) (hds : ∀ l ∈ d, l.length ≤ 1048576) : Con Try.prog 32 [.sl (d.map fun l => V.sl (l.map (V.int .i64))), .int .i64 n] [] (.tup [.int .i64 (if rosterB d n then spreadV d n else 0), .bool (rosterB d n)]) [] := by
  refine v_con [.tmp 4, .tmp 5] [] Try.func32 rfl rfl rfl (by simp [Try.ntmps32]) ?_
  intro Q0 n0 r0
  simp only [Try.ntmps32, envFrom, Nat.reduceAdd]
  refine v_seq ?_; intro Q1 n1 e1 r1
  refine v_region ?_; intro K2 k2
  -- 4 := assign c<0:i64>
  refine v_op ?_; intro K k
  simp only [aStepM, optable, get_mk, look_cons, look_nil, set_some, set_none, ev_tmp, ev_const, ev_func, Nat.reduceEqDiff, reduceIte, dst_some, dst_none, Nat.reduceLT, List.append_nil, List.nil_append, true_and, and_true, and_self, implies_true, forall_const, imp_self, Bool.false_eq_true, false_implies, cond_true, cond_false, decide_eq_true_eq, eq_self_iff_true, exists_eq_left', Option.some.injEq, reduceCtorEq, not_false_eq_true, not_true_eq_false, ne_eq, V.ofValue, V.ofScalar, V.un, V.gd, aExec, aop, settle_int, settle_bool, settle_str, settle_nsl, settle_sl, settle_ref, settle_sub, settle_ptr, settle_pv, settle_tup, settle_fn, settle_npt, settle_agg, settleL_nil, settleL_nsl, settleL_int, settleL_bool, settleL_str, settleL_sl, settleL_ref, List.length_nil, List.length_cons, List.length_append, Nat.reduceAdd, Nat.zero_add, Nat.add_zero, List.cons_append]
  repeat (refine And.intro (by first | omega | (intros; omega) | (intros; simp_all; done) | (intros; simp_all; omega)) ?_)
  refine k _ ?_; clear k K
  -- 5 := assign c<false>
  refine v_op ?_; intro K k
  simp only [aStepM, optable, get_mk, look_cons, look_nil, set_some, set_none, ev_tmp, ev_const, ev_func, Nat.reduceEqDiff, reduceIte, dst_some, dst_none, Nat.reduceLT, List.append_nil, List.nil_append, true_and, and_true, and_self, implies_true, forall_const, imp_self, Bool.false_eq_true, false_implies, cond_true, cond_false, decide_eq_true_eq, eq_self_iff_true, exists_eq_left', Option.some.injEq, reduceCtorEq, not_false_eq_true, not_true_eq_false, ne_eq, V.ofValue, V.ofScalar, V.un, V.gd, aExec, aop, settle_int, settle_bool, settle_str, settle_nsl, settle_sl, settle_ref, settle_sub, settle_ptr, settle_pv, settle_tup, settle_fn, settle_npt, settle_agg, settleL_nil, settleL_nsl, settleL_int, settleL_bool, settleL_str, settleL_sl, settleL_ref, List.length_nil, List.length_cons, List.length_append, Nat.reduceAdd, Nat.zero_add, Nat.add_zero, List.cons_append]
  repeat (refine And.intro (by first | omega | (intros; omega) | (intros; simp_all; done) | (intros; simp_all; omega)) ?_)
  refine k _ ?_; clear k K
  refine k2 _ ?_
  refine n1 _ _ (weak_keep [0, 1] _) ?_
  simp only [keep_mk, keepE_nil, keepE_cons, look_cons, look_nil, Nat.reduceEqDiff, reduceIte]
  refine v_seq ?_; intro Q3 n3 e3 r3
  refine v_seq ?_; intro Q4 n4 e4 r4
  refine v_region ?_; intro K5 k5
  -- 11 := move t0
  refine v_op ?_; intro K k
  simp only [aStepM, optable, get_mk, look_cons, look_nil, set_some, set_none, ev_tmp, ev_const, ev_func, Nat.reduceEqDiff, reduceIte, dst_some, dst_none, Nat.reduceLT, List.append_nil, List.nil_append, true_and, and_true, and_self, implies_true, forall_const, imp_self, Bool.false_eq_true, false_implies, cond_true, cond_false, decide_eq_true_eq, eq_self_iff_true, exists_eq_left', Option.some.injEq, reduceCtorEq, not_false_eq_true, not_true_eq_false, ne_eq, V.ofValue, V.ofScalar, V.un, V.gd, aExec, aop, ]
  repeat (refine And.intro (by first | omega | (intros; omega) | (intros; simp_all; done) | (intros; simp_all; omega)) ?_)
  refine k _ ?_; clear k K
  -- 12 := move t1
  refine v_op ?_; intro K k
  simp only [aStepM, optable, get_mk, look_cons, look_nil, set_some, set_none, ev_tmp, ev_const, ev_func, Nat.reduceEqDiff, reduceIte, dst_some, dst_none, Nat.reduceLT, List.append_nil, List.nil_append, true_and, and_true, and_self, implies_true, forall_const, imp_self, Bool.false_eq_true, false_implies, cond_true, cond_false, decide_eq_true_eq, eq_self_iff_true, exists_eq_left', Option.some.injEq, reduceCtorEq, not_false_eq_true, not_true_eq_false, ne_eq, V.ofValue, V.ofScalar, V.un, V.gd, aExec, aop, ]
  repeat (refine And.intro (by first | omega | (intros; omega) | (intros; simp_all; done) | (intros; simp_all; omega)) ?_)
  refine k _ ?_; clear k K
  -- 13 := call v f39 t11 t12 | 28 3
  refine v_op ?_; intro K k
  simp only [aStepM, optable, get_mk, look_cons, look_nil, set_some, set_none, ev_tmp, ev_const, ev_func, Nat.reduceEqDiff, reduceIte, dst_some, dst_none, Nat.reduceLT, List.append_nil, List.nil_append, true_and, and_true, and_self, implies_true, forall_const, imp_self, Bool.false_eq_true, false_implies, cond_true, cond_false, decide_eq_true_eq, eq_self_iff_true, exists_eq_left', Option.some.injEq, reduceCtorEq, not_false_eq_true, not_true_eq_false, ne_eq, V.ofValue, V.ofScalar, V.un, V.gd, aExec, lentIds, lendOf, List.map_cons, List.map_nil, List.append_nil, List.filterMap_nil, List.mem_cons, List.not_mem_nil, or_false, forall_eq_or_imp, forall_eq, false_implies, Try.underlying3, Ty.c3, Ty.a3, Ty.b3, Ty.s3, Try.underlying4, Ty.c4, Ty.a4, Ty.b4, Ty.s4, Try.underlying28, Ty.c28, Ty.a28, Ty.b28, Ty.s28, Try.underlying33, Ty.c33, Ty.a33, Ty.b33, Ty.s33]
  repeat (refine And.intro (by first | rfl | (intros; simp_all; done)) ?_)
  refine aCall_new (duRoster_con d n hd hds) (by first | rfl | simp only [toArgs, toArg, toCell, toCells, idx, row_mk, List.getElem?_cons_zero, List.getElem?_cons_succ, Option.bind_some, Blk.row, fillK_mix, cond_true]) (by first | exact .inl ⟨rfl, by simp [Blk.kindIs, fillK_fd]⟩ | exact .inr (by simp [V.cold])) ?_
  refine k _ ?_; clear k K
  simp only [get_mk, look_cons, look_nil, set_some, set_none, ev_tmp, ev_const, ev_func, Nat.reduceEqDiff, reduceIte, V.ren, V.renL, List.append_nil, List.cons_append, List.nil_append, rho, List.length_nil, List.length_cons, Nat.reduceAdd, Nat.zero_add, Nat.not_lt_zero, if_false, Nat.sub_zero]
  -- 14 := unOp Go.UnOp.not 4 t13
  refine v_op ?_; intro K k
  simp only [aStepM, optable, get_mk, look_cons, look_nil, set_some, set_none, ev_tmp, ev_const, ev_func, Nat.reduceEqDiff, reduceIte, dst_some, dst_none, Nat.reduceLT, List.append_nil, List.nil_append, true_and, and_true, and_self, implies_true, forall_const, imp_self, Bool.false_eq_true, false_implies, cond_true, cond_false, decide_eq_true_eq, eq_self_iff_true, exists_eq_left', Option.some.injEq, reduceCtorEq, not_false_eq_true, not_true_eq_false, ne_eq, V.ofValue, V.ofScalar, V.un, V.gd, aExec, aop, aUn, Try.underlying4]
  repeat (refine And.intro (by first | omega | (intros; omega) | (intros; simp_all; done) | (intros; simp_all; omega)) ?_)
  refine k _ ?_; clear k K
  refine k5 _ ?_
  refine n4 _ _ (weak_keep [0, 1, 14] _) ?_
  simp only [keep_mk, keepE_nil, keepE_cons, look_cons, look_nil, Nat.reduceEqDiff, reduceIte]
  refine v_cond _ rfl ?_ ?_  -- COND 0
  · intro hc0
    simp only [decide_eq_true_eq, decide_eq_false_iff_not, Bool.and_eq_true, Bool.or_eq_true, Bool.not_eq_true', Bool.not_eq_false', Bool.and_eq_false_imp, Bool.or_eq_false_iff, Int.not_lt, Int.not_le, reduceCtorEq, Bool.true_eq_false, Bool.false_eq_true, imp_false, Classical.not_imp] at hc0
    refine v_seq ?_; intro Q7 n7 e7 r7
    refine v_region ?_; intro K8 k8
    -- 4 := assign c<0:i64>
    refine v_op ?_; intro K k
    simp only [aStepM, optable, get_mk, look_cons, look_nil, set_some, set_none, ev_tmp, ev_const, ev_func, Nat.reduceEqDiff, reduceIte, dst_some, dst_none, Nat.reduceLT, List.append_nil, List.nil_append, true_and, and_true, and_self, implies_true, forall_const, imp_self, Bool.false_eq_true, false_implies, cond_true, cond_false, decide_eq_true_eq, eq_self_iff_true, exists_eq_left', Option.some.injEq, reduceCtorEq, not_false_eq_true, not_true_eq_false, ne_eq, V.ofValue, V.ofScalar, V.un, V.gd, aExec, aop, settle_int, settle_bool, settle_str, settle_nsl, settle_sl, settle_ref, settle_sub, settle_ptr, settle_pv, settle_tup, settle_fn, settle_npt, settle_agg, settleL_nil, settleL_nsl, settleL_int, settleL_bool, settleL_str, settleL_sl, settleL_ref, List.length_nil, List.length_cons, List.length_append, Nat.reduceAdd, Nat.zero_add, Nat.add_zero, List.cons_append]
    repeat (refine And.intro (by first | omega | (intros; omega) | (intros; simp_all; done) | (intros; simp_all; omega)) ?_)
    refine k _ ?_; clear k K
    -- 5 := assign c<false>
    refine v_op ?_; intro K k
    simp only [aStepM, optable, get_mk, look_cons, look_nil, set_some, set_none, ev_tmp, ev_const, ev_func, Nat.reduceEqDiff, reduceIte, dst_some, dst_none, Nat.reduceLT, List.append_nil, List.nil_append, true_and, and_true, and_self, implies_true, forall_const, imp_self, Bool.false_eq_true, false_implies, cond_true, cond_false, decide_eq_true_eq, eq_self_iff_true, exists_eq_left', Option.some.injEq, reduceCtorEq, not_false_eq_true, not_true_eq_false, ne_eq, V.ofValue, V.ofScalar, V.un, V.gd, aExec, aop, settle_int, settle_bool, settle_str, settle_nsl, settle_sl, settle_ref, settle_sub, settle_ptr, settle_pv, settle_tup, settle_fn, settle_npt, settle_agg, settleL_nil, settleL_nsl, settleL_int, settleL_bool, settleL_str, settleL_sl, settleL_ref, List.length_nil, List.length_cons, List.length_append, Nat.reduceAdd, Nat.zero_add, Nat.add_zero, List.cons_append]
    repeat (refine And.intro (by first | omega | (intros; omega) | (intros; simp_all; done) | (intros; simp_all; omega)) ?_)
    refine k _ ?_; clear k K
    refine k8 _ ?_
    refine n7 _ _ (weak_keep [4, 5] _) ?_
    simp only [keep_mk, keepE_nil, keepE_cons, look_cons, look_nil, Nat.reduceEqDiff, reduceIte]
    refine v_ret ?_
    refine r3 _ ?_
    refine r0 _ ?_
    simp only [resK, pickRV, get_mk, look_cons, look_nil, Nat.reduceEqDiff, reduceIte, List.map_cons, List.map_nil]
    rw [if_neg (by rw [hc0]; simp), hc0]
    exact ret_pure rfl rfl (.inl rfl)
  · intro hc0
    simp only [decide_eq_true_eq, decide_eq_false_iff_not, Bool.and_eq_true, Bool.or_eq_true, Bool.not_eq_true', Bool.not_eq_false', Bool.and_eq_false_imp, Bool.or_eq_false_iff, Int.not_lt, Int.not_le, reduceCtorEq, Bool.true_eq_false, Bool.false_eq_true, imp_false, Classical.not_imp] at hc0
    have hro := roster_in hc0
    obtain ⟨x, l, hs⟩ := shifts_cons (d := d) hro.1
    have hsv : spreadV d n = IntKind.i64.wrap (mostL l x - leastL l x) := by rw [spreadV, hs]
    have hlen : (x :: l).length ≤ 1048576 := by have := shiftsOf_len d n; rw [hs] at this; rw [this]; omega
    obtain ⟨xl, hxl⟩ : ∃ xl, xl = x :: l := ⟨_, rfl⟩
    rw [← hxl] at hs hlen
    have h0 : xl[0]? = some x := by rw [hxl]; rfl
    have hm : mostL (xl.drop 0) x = mostL l x := by rw [hxl]; exact most_cons x l
    have hle : leastL (xl.drop 0) x = leastL l x := by rw [hxl]; exact least_cons x l
    have hpos : 0 < xl.length := by rw [hxl]; simp
    refine v_skip ?_
    refine n3 _ _ (weak_keep [0, 1] _) ?_
    simp only [keep_mk, keepE_nil, keepE_cons, look_cons, look_nil, Nat.reduceEqDiff, reduceIte]
    refine v_seq ?_; intro Q9 n9 e9 r9
    refine v_region ?_; intro K10 k10
    -- 15 := move t0
    refine v_op ?_; intro K k
    simp only [aStepM, optable, get_mk, look_cons, look_nil, set_some, set_none, ev_tmp, ev_const, ev_func, Nat.reduceEqDiff, reduceIte, dst_some, dst_none, Nat.reduceLT, List.append_nil, List.nil_append, true_and, and_true, and_self, implies_true, forall_const, imp_self, Bool.false_eq_true, false_implies, cond_true, cond_false, decide_eq_true_eq, eq_self_iff_true, exists_eq_left', Option.some.injEq, reduceCtorEq, not_false_eq_true, not_true_eq_false, ne_eq, V.ofValue, V.ofScalar, V.un, V.gd, aExec, aop, getD_map h0]
    repeat (refine And.intro (by first | omega | (intros; omega) | (intros; simp_all; done) | (intros; simp_all; omega)) ?_)
    refine k _ ?_; clear k K
    -- 16 := move t1
    refine v_op ?_; intro K k
    simp only [aStepM, optable, get_mk, look_cons, look_nil, set_some, set_none, ev_tmp, ev_const, ev_func, Nat.reduceEqDiff, reduceIte, dst_some, dst_none, Nat.reduceLT, List.append_nil, List.nil_append, true_and, and_true, and_self, implies_true, forall_const, imp_self, Bool.false_eq_true, false_implies, cond_true, cond_false, decide_eq_true_eq, eq_self_iff_true, exists_eq_left', Option.some.injEq, reduceCtorEq, not_false_eq_true, not_true_eq_false, ne_eq, V.ofValue, V.ofScalar, V.un, V.gd, aExec, aop, getD_map h0]
    repeat (refine And.intro (by first | omega | (intros; omega) | (intros; simp_all; done) | (intros; simp_all; omega)) ?_)
    refine k _ ?_; clear k K
    -- 17 := call v f41 t15 t16 | 28 3
    refine v_op ?_; intro K k
    simp only [aStepM, optable, get_mk, look_cons, look_nil, set_some, set_none, ev_tmp, ev_const, ev_func, Nat.reduceEqDiff, reduceIte, dst_some, dst_none, Nat.reduceLT, List.append_nil, List.nil_append, true_and, and_true, and_self, implies_true, forall_const, imp_self, Bool.false_eq_true, false_implies, cond_true, cond_false, decide_eq_true_eq, eq_self_iff_true, exists_eq_left', Option.some.injEq, reduceCtorEq, not_false_eq_true, not_true_eq_false, ne_eq, V.ofValue, V.ofScalar, V.un, V.gd, aExec, lentIds, lendOf, List.map_cons, List.map_nil, List.append_nil, List.filterMap_nil, List.mem_cons, List.not_mem_nil, or_false, forall_eq_or_imp, forall_eq, false_implies, Try.underlying3, Ty.c3, Ty.a3, Ty.b3, Ty.s3, Try.underlying28, Ty.c28, Ty.a28, Ty.b28, Ty.s28, Try.underlying33, Ty.c33, Ty.a33, Ty.b33, Ty.s33]
    repeat (refine And.intro (by first | rfl | (intros; simp_all; done)) ?_)
    refine aCall_new ((hs ▸ duShifts_con d n hd hds hro.1 hro.2.1 hro.2.2 : Con _ _ _ _ _ [.arr (xl.map (V.int .i64)) .flat])) (by first | rfl | simp only [toArgs, toArg, toCell, toCells, idx, row_mk, List.getElem?_cons_zero, List.getElem?_cons_succ, Option.bind_some, Blk.row, fillK_mix, cond_true]) (by first | exact .inl ⟨rfl, by simp [Blk.kindIs, fillK_fd]⟩ | exact .inr (by simp [V.cold])) ?_
    refine k _ ?_; clear k K
    simp only [get_mk, look_cons, look_nil, set_some, set_none, ev_tmp, ev_const, ev_func, Nat.reduceEqDiff, reduceIte, V.ren, V.renL, List.append_nil, List.cons_append, List.nil_append, rho, List.length_nil, List.length_cons, Nat.reduceAdd, Nat.zero_add, Nat.not_lt_zero, if_false, Nat.sub_zero]
    -- 6 := assign t17
    refine v_op ?_; intro K k
    simp only [aStepM, optable, get_mk, look_cons, look_nil, set_some, set_none, ev_tmp, ev_const, ev_func, Nat.reduceEqDiff, reduceIte, dst_some, dst_none, Nat.reduceLT, List.append_nil, List.nil_append, true_and, and_true, and_self, implies_true, forall_const, imp_self, Bool.false_eq_true, false_implies, cond_true, cond_false, decide_eq_true_eq, eq_self_iff_true, exists_eq_left', Option.some.injEq, reduceCtorEq, not_false_eq_true, not_true_eq_false, ne_eq, V.ofValue, V.ofScalar, V.un, V.gd, aExec, aop, settle_int, settle_bool, settle_str, settle_nsl, settle_sl, settle_ref, settle_sub, settle_ptr, settle_pv, settle_tup, settle_fn, settle_npt, settle_agg, settleL_nil, settleL_nsl, settleL_int, settleL_bool, settleL_str, settleL_sl, settleL_ref, List.length_nil, List.length_cons, List.length_append, Nat.reduceAdd, Nat.zero_add, Nat.add_zero, List.cons_append, getD_map h0]
    repeat (refine And.intro (by first | omega | (intros; omega) | (intros; simp_all; done) | (intros; simp_all; omega)) ?_)
    refine k _ ?_; clear k K
    refine k10 _ ?_
    refine n9 _ _ (weak_keep [6] _) ?_
    simp only [keep_mk, keepE_nil, keepE_cons, look_cons, look_nil, Nat.reduceEqDiff, reduceIte]
    refine v_seq ?_; intro Q11 n11 e11 r11
    refine v_draw (by kernel_rfl) ?_; intro K12 q12 k12
    show aAny _ _ _ _ 8 (Array.replicate 8 false) _
    -- 18 := move t6
    refine aAny_take q12 true 0 18 rfl rfl (by kernel_rfl) (by kernel_rfl) ?_
    apply Exists.intro; apply And.intro
    · intro t hn gx ho K' k'
      have g6 := gx 6 (by decide)
      simp only [get_mk, look_cons, look_nil, set_some, Nat.reduceEqDiff, reduceIte] at g6
      refine .inl ?_
      have hdl : 18 < t.n := by rw [hn]; show 18 < 40; decide
      clear hn
      simp only [hdl, aStepM, optable, get_mk, look_cons, look_nil, set_none, ev_tmp, ev_const, ev_func, Nat.reduceEqDiff, reduceIte, dst_some, dst_none, List.append_nil, List.nil_append, true_and, and_true, and_self, implies_true, forall_const, imp_self, Bool.false_eq_true, false_implies, cond_true, cond_false, decide_eq_true_eq, eq_self_iff_true, exists_eq_left', Option.some.injEq, reduceCtorEq, not_false_eq_true, not_true_eq_false, ne_eq, V.ofValue, V.ofScalar, V.un, V.gd, aExec, aop, g6, getD_map h0]
      repeat (refine And.intro (by first | omega | (intros; omega) | (intros; simp_all; done) | (intros; simp_all; omega)) ?_)
      exact k'
    simp only [set_some]
    -- 19 := indexAddr 33 t18 c<0:i64>
    refine aAny_take q12 true 1 19 rfl rfl (by kernel_rfl) (by kernel_rfl) ?_
    apply Exists.intro; apply And.intro
    · intro t hn gx ho K' k'
      have g18 := gx 18 (by decide)
      simp only [get_mk, look_cons, look_nil, set_some, Nat.reduceEqDiff, reduceIte] at g18
      refine .inl ?_
      first | have row0 := grow_row (i := 0) (ho rfl) rfl | have row0 : t.n + 0 = t.n := rfl
      first | have row1 := grow_row (i := 1) (ho rfl) rfl | have row1 : t.n + 0 = t.n := rfl
      first | have row2 := grow_row (i := 2) (ho rfl) rfl | have row2 : t.n + 0 = t.n := rfl
      have hdl : 19 < t.n := by rw [hn]; show 19 < 40; decide
      clear hn
      simp only [hdl, aStepM, optable, get_mk, look_cons, look_nil, set_none, ev_tmp, ev_const, ev_func, Nat.reduceEqDiff, reduceIte, dst_some, dst_none, List.append_nil, List.nil_append, true_and, and_true, and_self, implies_true, forall_const, imp_self, Bool.false_eq_true, false_implies, cond_true, cond_false, decide_eq_true_eq, eq_self_iff_true, exists_eq_left', Option.some.injEq, reduceCtorEq, not_false_eq_true, not_true_eq_false, ne_eq, V.ofValue, V.ofScalar, V.un, V.gd, aExec, aop, g18, row0, row1, row2, aIndexAddr, row_mk, Blk.row, Go.Vm.V.cells, List.forall_mem_map, List.length_map, Int.toNat_natCast, Int.reduceToNat, TypeDesc.slice.injEq, Nat.zero_lt_one, Nat.lt_add_one, Nat.zero_add, Nat.add_zero, Nat.reduceAdd, Nat.reduceLeDiff, Nat.reduceLT, Nat.reduceMul, Nat.le_refl, Nat.zero_lt_succ, List.getElem?_toArray, List.getElem?_cons_succ, List.getElem?_cons_zero, List.getD_cons_zero, List.getD_cons_succ, List.length_cons, List.length_nil, List.drop_zero, List.drop_succ_cons, List.headD_cons, List.take_succ_cons, List.take_zero, List.take_nil, List.drop_nil, List.map_cons, List.map_nil, Option.bind_some, Option.isSome_some, Option.map_some, Try.underlying3, Ty.c3, Ty.a3, Try.underlying33, Ty.c33, Ty.a33, getD_map h0]
      repeat (refine And.intro (by first | omega | (intros; omega) | (intros; simp_all; done) | (intros; simp_all; omega)) ?_)
      exact k'
    simp only [set_some]
    -- 20 := load 3 t19
    refine aAny_take q12 true 2 20 rfl rfl (by kernel_rfl) (by kernel_rfl) ?_
    apply Exists.intro; apply And.intro
    · intro t hn gx ho K' k'
      have g19 := gx 19 (by decide)
      simp only [get_mk, look_cons, look_nil, set_some, Nat.reduceEqDiff, reduceIte] at g19
      refine .inl ?_
      first | have row0 := grow_row (i := 0) (ho rfl) rfl | have row0 : t.n + 0 = t.n := rfl
      first | have row1 := grow_row (i := 1) (ho rfl) rfl | have row1 : t.n + 0 = t.n := rfl
      first | have row2 := grow_row (i := 2) (ho rfl) rfl | have row2 : t.n + 0 = t.n := rfl
      have hdl : 20 < t.n := by rw [hn]; show 20 < 40; decide
      clear hn
      simp only [hdl, aStepM, optable, get_mk, look_cons, look_nil, set_none, ev_tmp, ev_const, ev_func, Nat.reduceEqDiff, reduceIte, dst_some, dst_none, List.append_nil, List.nil_append, true_and, and_true, and_self, implies_true, forall_const, imp_self, Bool.false_eq_true, false_implies, cond_true, cond_false, decide_eq_true_eq, eq_self_iff_true, exists_eq_left', Option.some.injEq, reduceCtorEq, not_false_eq_true, not_true_eq_false, ne_eq, V.ofValue, V.ofScalar, V.un, V.gd, aExec, aop, g19, row0, row1, row2, aLoad, row_mk, Blk.row, PartOK, Go.Vm.part, V.cells, V.noSl, V.noRef, Nat.zero_lt_one, Nat.lt_add_one, Nat.zero_add, Nat.add_zero, Nat.reduceAdd, Nat.reduceLeDiff, Nat.reduceLT, Nat.reduceMul, Nat.le_refl, Nat.zero_lt_succ, List.getElem?_toArray, List.getElem?_cons_succ, List.getElem?_cons_zero, List.getD_cons_zero, List.getD_cons_succ, List.length_cons, List.length_nil, List.drop_zero, List.drop_succ_cons, List.headD_cons, List.take_succ_cons, List.take_zero, List.take_nil, List.drop_nil, List.map_cons, List.map_nil, Option.bind_some, Option.isSome_some, Option.map_some, Bool.or_false, Bool.false_or, Bool.or_true, Bool.true_or, Bool.not_true, Bool.not_false, Bool.and_false, Bool.and_true, Bool.false_and, Bool.true_and, decide_true, decide_false, Bool.or_self, Bool.and_self, Try.underlying3, Ty.c3, Ty.a3, getD_map h0]
      repeat (refine And.intro (by first | omega | (intros; omega) | (intros; simp_all; done) | (intros; simp_all; omega)) ?_)
      exact k'
    simp only [set_some]
    -- 21 := move t6
    refine aAny_take q12 true 3 21 rfl rfl (by kernel_rfl) (by kernel_rfl) ?_
    apply Exists.intro; apply And.intro
    · intro t hn gx ho K' k'
      have g6 := gx 6 (by decide)
      simp only [get_mk, look_cons, look_nil, set_some, Nat.reduceEqDiff, reduceIte] at g6
      refine .inl ?_
      have hdl : 21 < t.n := by rw [hn]; show 21 < 40; decide
      clear hn
      simp only [hdl, aStepM, optable, get_mk, look_cons, look_nil, set_none, ev_tmp, ev_const, ev_func, Nat.reduceEqDiff, reduceIte, dst_some, dst_none, List.append_nil, List.nil_append, true_and, and_true, and_self, implies_true, forall_const, imp_self, Bool.false_eq_true, false_implies, cond_true, cond_false, decide_eq_true_eq, eq_self_iff_true, exists_eq_left', Option.some.injEq, reduceCtorEq, not_false_eq_true, not_true_eq_false, ne_eq, V.ofValue, V.ofScalar, V.un, V.gd, aExec, aop, g6, getD_map h0]
      repeat (refine And.intro (by first | omega | (intros; omega) | (intros; simp_all; done) | (intros; simp_all; omega)) ?_)
      exact k'
    simp only [set_some]
    -- 22 := indexAddr 33 t21 c<0:i64>
    refine aAny_take q12 true 4 22 rfl rfl (by kernel_rfl) (by kernel_rfl) ?_
    apply Exists.intro; apply And.intro
    · intro t hn gx ho K' k'
      have g21 := gx 21 (by decide)
      simp only [get_mk, look_cons, look_nil, set_some, Nat.reduceEqDiff, reduceIte] at g21
      refine .inl ?_
      first | have row0 := grow_row (i := 0) (ho rfl) rfl | have row0 : t.n + 0 = t.n := rfl
      first | have row1 := grow_row (i := 1) (ho rfl) rfl | have row1 : t.n + 0 = t.n := rfl
      first | have row2 := grow_row (i := 2) (ho rfl) rfl | have row2 : t.n + 0 = t.n := rfl
      have hdl : 22 < t.n := by rw [hn]; show 22 < 40; decide
      clear hn
      simp only [hdl, aStepM, optable, get_mk, look_cons, look_nil, set_none, ev_tmp, ev_const, ev_func, Nat.reduceEqDiff, reduceIte, dst_some, dst_none, List.append_nil, List.nil_append, true_and, and_true, and_self, implies_true, forall_const, imp_self, Bool.false_eq_true, false_implies, cond_true, cond_false, decide_eq_true_eq, eq_self_iff_true, exists_eq_left', Option.some.injEq, reduceCtorEq, not_false_eq_true, not_true_eq_false, ne_eq, V.ofValue, V.ofScalar, V.un, V.gd, aExec, aop, g21, row0, row1, row2, aIndexAddr, row_mk, Blk.row, Go.Vm.V.cells, List.forall_mem_map, List.length_map, Int.toNat_natCast, Int.reduceToNat, TypeDesc.slice.injEq, Nat.zero_lt_one, Nat.lt_add_one, Nat.zero_add, Nat.add_zero, Nat.reduceAdd, Nat.reduceLeDiff, Nat.reduceLT, Nat.reduceMul, Nat.le_refl, Nat.zero_lt_succ, List.getElem?_toArray, List.getElem?_cons_succ, List.getElem?_cons_zero, List.getD_cons_zero, List.getD_cons_succ, List.length_cons, List.length_nil, List.drop_zero, List.drop_succ_cons, List.headD_cons, List.take_succ_cons, List.take_zero, List.take_nil, List.drop_nil, List.map_cons, List.map_nil, Option.bind_some, Option.isSome_some, Option.map_some, Try.underlying3, Ty.c3, Ty.a3, Try.underlying33, Ty.c33, Ty.a33, getD_map h0]
      repeat (refine And.intro (by first | omega | (intros; omega) | (intros; simp_all; done) | (intros; simp_all; omega)) ?_)
      exact k'
    simp only [set_some]
    -- 23 := load 3 t22
    refine aAny_take q12 true 5 23 rfl rfl (by kernel_rfl) (by kernel_rfl) ?_
    apply Exists.intro; apply And.intro
    · intro t hn gx ho K' k'
      have g22 := gx 22 (by decide)
      simp only [get_mk, look_cons, look_nil, set_some, Nat.reduceEqDiff, reduceIte] at g22
      refine .inl ?_
      first | have row0 := grow_row (i := 0) (ho rfl) rfl | have row0 : t.n + 0 = t.n := rfl
      first | have row1 := grow_row (i := 1) (ho rfl) rfl | have row1 : t.n + 0 = t.n := rfl
      first | have row2 := grow_row (i := 2) (ho rfl) rfl | have row2 : t.n + 0 = t.n := rfl
      have hdl : 23 < t.n := by rw [hn]; show 23 < 40; decide
      clear hn
      simp only [hdl, aStepM, optable, get_mk, look_cons, look_nil, set_none, ev_tmp, ev_const, ev_func, Nat.reduceEqDiff, reduceIte, dst_some, dst_none, List.append_nil, List.nil_append, true_and, and_true, and_self, implies_true, forall_const, imp_self, Bool.false_eq_true, false_implies, cond_true, cond_false, decide_eq_true_eq, eq_self_iff_true, exists_eq_left', Option.some.injEq, reduceCtorEq, not_false_eq_true, not_true_eq_false, ne_eq, V.ofValue, V.ofScalar, V.un, V.gd, aExec, aop, g22, row0, row1, row2, aLoad, row_mk, Blk.row, PartOK, Go.Vm.part, V.cells, V.noSl, V.noRef, Nat.zero_lt_one, Nat.lt_add_one, Nat.zero_add, Nat.add_zero, Nat.reduceAdd, Nat.reduceLeDiff, Nat.reduceLT, Nat.reduceMul, Nat.le_refl, Nat.zero_lt_succ, List.getElem?_toArray, List.getElem?_cons_succ, List.getElem?_cons_zero, List.getD_cons_zero, List.getD_cons_succ, List.length_cons, List.length_nil, List.drop_zero, List.drop_succ_cons, List.headD_cons, List.take_succ_cons, List.take_zero, List.take_nil, List.drop_nil, List.map_cons, List.map_nil, Option.bind_some, Option.isSome_some, Option.map_some, Bool.or_false, Bool.false_or, Bool.or_true, Bool.true_or, Bool.not_true, Bool.not_false, Bool.and_false, Bool.and_true, Bool.false_and, Bool.true_and, decide_true, decide_false, Bool.or_self, Bool.and_self, Try.underlying3, Ty.c3, Ty.a3, getD_map h0]
      repeat (refine And.intro (by first | omega | (intros; omega) | (intros; simp_all; done) | (intros; simp_all; omega)) ?_)
      exact k'
    simp only [set_some]
    -- 7 := assign t20
    refine aAny_only 6 rfl (by kernel_rfl) ?_; intro K k
    simp only [aStepM, optable, get_mk, look_cons, look_nil, set_some, set_none, ev_tmp, ev_const, ev_func, Nat.reduceEqDiff, reduceIte, dst_some, dst_none, Nat.reduceLT, List.append_nil, List.nil_append, true_and, and_true, and_self, implies_true, forall_const, imp_self, Bool.false_eq_true, false_implies, cond_true, cond_false, decide_eq_true_eq, eq_self_iff_true, exists_eq_left', Option.some.injEq, reduceCtorEq, not_false_eq_true, not_true_eq_false, ne_eq, V.ofValue, V.ofScalar, V.un, V.gd, aExec, aop, settle_int, settle_bool, settle_str, settle_nsl, settle_sl, settle_ref, settle_sub, settle_ptr, settle_pv, settle_tup, settle_fn, settle_npt, settle_agg, settleL_nil, settleL_nsl, settleL_int, settleL_bool, settleL_str, settleL_sl, settleL_ref, List.length_nil, List.length_cons, List.length_append, Nat.reduceAdd, Nat.zero_add, Nat.add_zero, List.cons_append, getD_map h0]
    repeat (refine And.intro (by first | omega | (intros; omega) | (intros; simp_all; done) | (intros; simp_all; omega)) ?_)
    refine k _ ?_; clear k K
    -- 8 := assign t23
    refine aAny_only 7 rfl (by kernel_rfl) ?_; intro K k
    simp only [aStepM, optable, get_mk, look_cons, look_nil, set_some, set_none, ev_tmp, ev_const, ev_func, Nat.reduceEqDiff, reduceIte, dst_some, dst_none, Nat.reduceLT, List.append_nil, List.nil_append, true_and, and_true, and_self, implies_true, forall_const, imp_self, Bool.false_eq_true, false_implies, cond_true, cond_false, decide_eq_true_eq, eq_self_iff_true, exists_eq_left', Option.some.injEq, reduceCtorEq, not_false_eq_true, not_true_eq_false, ne_eq, V.ofValue, V.ofScalar, V.un, V.gd, aExec, aop, settle_int, settle_bool, settle_str, settle_nsl, settle_sl, settle_ref, settle_sub, settle_ptr, settle_pv, settle_tup, settle_fn, settle_npt, settle_agg, settleL_nil, settleL_nsl, settleL_int, settleL_bool, settleL_str, settleL_sl, settleL_ref, List.length_nil, List.length_cons, List.length_append, Nat.reduceAdd, Nat.zero_add, Nat.add_zero, List.cons_append, getD_map h0]
    repeat (refine And.intro (by first | omega | (intros; omega) | (intros; simp_all; done) | (intros; simp_all; omega)) ?_)
    refine k _ ?_; clear k K
    refine aAny_done (by kernel_rfl) ?_
    refine k12 _ ?_
    refine n11 _ _ (weak_keep [6, 7, 8] _) ?_
    simp only [keep_mk, keepE_nil, keepE_cons, look_cons, look_nil, Nat.reduceEqDiff, reduceIte]
    refine v_seq ?_; intro Q13 n13 e13 r13
    refine v_seq ?_; intro Q14 n14 e14 r14
    refine v_region ?_; intro K15 k15
    -- 24 := move t6
    refine v_op ?_; intro K k
    simp only [aStepM, optable, get_mk, look_cons, look_nil, set_some, set_none, ev_tmp, ev_const, ev_func, Nat.reduceEqDiff, reduceIte, dst_some, dst_none, Nat.reduceLT, List.append_nil, List.nil_append, true_and, and_true, and_self, implies_true, forall_const, imp_self, Bool.false_eq_true, false_implies, cond_true, cond_false, decide_eq_true_eq, eq_self_iff_true, exists_eq_left', Option.some.injEq, reduceCtorEq, not_false_eq_true, not_true_eq_false, ne_eq, V.ofValue, V.ofScalar, V.un, V.gd, aExec, aop, getD_map h0]
    repeat (refine And.intro (by first | omega | (intros; omega) | (intros; simp_all; done) | (intros; simp_all; omega)) ?_)
    refine k _ ?_; clear k K
    -- 25 := call b Go.Builtin.len t24 | 33
    refine v_op ?_; intro K k
    simp only [aStepM, optable, get_mk, look_cons, look_nil, set_some, set_none, ev_tmp, ev_const, ev_func, Nat.reduceEqDiff, reduceIte, dst_some, dst_none, Nat.reduceLT, List.append_nil, List.nil_append, true_and, and_true, and_self, implies_true, forall_const, imp_self, Bool.false_eq_true, false_implies, cond_true, cond_false, decide_eq_true_eq, eq_self_iff_true, exists_eq_left', Option.some.injEq, reduceCtorEq, not_false_eq_true, not_true_eq_false, ne_eq, V.ofValue, V.ofScalar, V.un, V.gd, aExec, aop, List.length_map, aLen, lenOK, row_mk, Blk.row, List.size_toArray, List.getD_eq_getElem?_getD, Array.getD_eq_getD_getElem?, Option.getD_some, List.getElem?_toArray, List.getElem?_cons_succ, List.getElem?_cons_zero, List.getD_cons_zero, List.getD_cons_succ, List.length_cons, List.length_nil, List.drop_zero, List.drop_succ_cons, List.headD_cons, List.take_succ_cons, List.take_zero, List.take_nil, List.drop_nil, List.map_cons, List.map_nil, Option.bind_some, Option.isSome_some, Option.map_some, Nat.zero_lt_one, Nat.lt_add_one, Nat.zero_add, Nat.add_zero, Nat.reduceAdd, Nat.reduceLeDiff, Nat.reduceLT, Nat.reduceMul, Nat.le_refl, Nat.zero_lt_succ, Try.underlying3, Ty.c3, Ty.a3, Ty.b3, Ty.s3, Try.underlying33, Ty.c33, Ty.a33, Ty.b33, Ty.s33, getD_map h0]
    repeat (refine And.intro (by first | omega | (intros; omega) | (intros; simp_all; done) | (intros; simp_all; omega)) ?_)
    refine k _ ?_; clear k K
    -- 26 := move c<0:i64>
    refine v_op ?_; intro K k
    simp only [aStepM, optable, get_mk, look_cons, look_nil, set_some, set_none, ev_tmp, ev_const, ev_func, Nat.reduceEqDiff, reduceIte, dst_some, dst_none, Nat.reduceLT, List.append_nil, List.nil_append, true_and, and_true, and_self, implies_true, forall_const, imp_self, Bool.false_eq_true, false_implies, cond_true, cond_false, decide_eq_true_eq, eq_self_iff_true, exists_eq_left', Option.some.injEq, reduceCtorEq, not_false_eq_true, not_true_eq_false, ne_eq, V.ofValue, V.ofScalar, V.un, V.gd, aExec, aop, getD_map h0]
    repeat (refine And.intro (by first | omega | (intros; omega) | (intros; simp_all; done) | (intros; simp_all; omega)) ?_)
    refine k _ ?_; clear k K
    refine k15 _ ?_
    refine n14 _ _ (weak_keep [7, 8, 24, 25, 26] _) ?_
    simp only [keep_mk, keepE_nil, keepE_cons, look_cons, look_nil, Nat.reduceEqDiff, reduceIte]
    refine v_block ?_; intro Q16 n16 x16 e16 r16
    refine v_loop (fun p => ⟨[(7, .int .i64 p.2.1), (8, .int .i64 p.2.2), (24, .ref 0), (25, .int .i64 xl.length), (26, .int .i64 (Nat.cast p.1))], [.arr (xl.map (V.int .i64)) .flat], false, 40, 0⟩) (fun p => p.1 ≤ xl.length ∧ leastL (xl.drop p.1) p.2.1 = leastL (xl.drop 0) x ∧ mostL (xl.drop p.1) p.2.2 = mostL (xl.drop 0) x) (fun p => xl.length - p.1) ((0, x, x) : Nat × Int × Int) ?_ ?_ ?_
    · refine weak_both [7, 8, 24, 25, 26] [0] (by decide) (by simp) ?_ ?_ ?_
      · simp [keep_mk, keepE_nil, keepE_cons, look_cons, V.only, V.onlyL, idx]
      · simp [Blk.kindIs, fillK_mix]
      simp only [keep_mk, keepE_nil, keepE_cons, look_cons, look_nil, Nat.reduceEqDiff, reduceIte, St.comp, List.map_cons, List.map_nil, V.ren, V.renL, idx, List.getD_cons_zero, List.getD_cons_succ, Nat.reduceBEq, cond_true, cond_false, Option.map_some, Option.getD_some, Nat.reduceAdd, Nat.beq_eq_true_eq]
      rfl
    · exact ⟨Nat.zero_le _, rfl, rfl⟩
    · rintro p hok17 Q17 n17 e17 r17
      obtain ⟨hi1, hR1, hR2⟩ := hok17
      refine v_seq ?_; intro Q18 n18 e18 r18
      refine v_region ?_; intro K19 k19
      -- 27 := binOp Go.BinOp.lss 3 t26 t25 3
      refine v_op ?_; intro K k
      simp only [aStepM, optable, get_mk, look_cons, look_nil, set_some, set_none, ev_tmp, ev_const, ev_func, Nat.reduceEqDiff, reduceIte, dst_some, dst_none, Nat.reduceLT, List.append_nil, List.nil_append, true_and, and_true, and_self, implies_true, forall_const, imp_self, Bool.false_eq_true, false_implies, cond_true, cond_false, decide_eq_true_eq, eq_self_iff_true, exists_eq_left', Option.some.injEq, reduceCtorEq, not_false_eq_true, not_true_eq_false, ne_eq, V.ofValue, V.ofScalar, V.un, V.gd, aExec, aop, aBin, Try.underlying3, getD_map h0]
      repeat (refine And.intro (by first | omega | (intros; omega) | (intros; simp_all; done) | (intros; simp_all; omega)) ?_)
      refine k _ ?_; clear k K
      refine k19 _ ?_
      refine n18 _ _ (weak_keep [7, 8, 24, 25, 26, 27] _) ?_
      simp only [keep_mk, keepE_nil, keepE_cons, look_cons, look_nil, Nat.reduceEqDiff, reduceIte]
      refine v_seq ?_; intro Q20 n20 e20 r20
      refine v_cond _ rfl ?_ ?_  -- COND 1
      · intro hc1
        simp only [decide_eq_true_eq, decide_eq_false_iff_not, Bool.and_eq_true, Bool.or_eq_true, Bool.not_eq_true', Bool.not_eq_false', Bool.and_eq_false_imp, Bool.or_eq_false_iff, Int.not_lt, Int.not_le, reduceCtorEq, Bool.true_eq_false, Bool.false_eq_true, imp_false, Classical.not_imp] at hc1
        have hlt : p.1 < xl.length := by omega
        obtain ⟨y, hy⟩ : ∃ y, xl[p.1]? = some y := ⟨xl[p.1], List.getElem?_eq_getElem hlt⟩
        refine v_skip ?_
        refine n20 _ _ (weak_keep [7, 8, 24, 25, 26] _) ?_
        simp only [keep_mk, keepE_nil, keepE_cons, look_cons, look_nil, Nat.reduceEqDiff, reduceIte]
        refine v_seq ?_; intro Q22 n22 e22 r22
        refine v_block ?_; intro Q23 n23 x23 e23 r23
        refine v_seq ?_; intro Q24 n24 e24 r24
        refine v_region ?_; intro K25 k25
        -- 28 := indexAddr 33 t24 t26
        refine v_op ?_; intro K k
        simp only [aStepM, optable, get_mk, look_cons, look_nil, set_some, set_none, ev_tmp, ev_const, ev_func, Nat.reduceEqDiff, reduceIte, dst_some, dst_none, Nat.reduceLT, List.append_nil, List.nil_append, true_and, and_true, and_self, implies_true, forall_const, imp_self, Bool.false_eq_true, false_implies, cond_true, cond_false, decide_eq_true_eq, eq_self_iff_true, exists_eq_left', Option.some.injEq, reduceCtorEq, not_false_eq_true, not_true_eq_false, ne_eq, V.ofValue, V.ofScalar, V.un, V.gd, aExec, aop, aIndexAddr, row_mk, Blk.row, Go.Vm.V.cells, List.forall_mem_map, List.length_map, Int.toNat_natCast, Int.reduceToNat, TypeDesc.slice.injEq, Nat.zero_lt_one, Nat.lt_add_one, Nat.zero_add, Nat.add_zero, Nat.reduceAdd, Nat.reduceLeDiff, Nat.reduceLT, Nat.reduceMul, Nat.le_refl, Nat.zero_lt_succ, List.getElem?_toArray, List.getElem?_cons_succ, List.getElem?_cons_zero, List.getD_cons_zero, List.getD_cons_succ, List.length_cons, List.length_nil, List.drop_zero, List.drop_succ_cons, List.headD_cons, List.take_succ_cons, List.take_zero, List.take_nil, List.drop_nil, List.map_cons, List.map_nil, Option.bind_some, Option.isSome_some, Option.map_some, Try.underlying3, Ty.c3, Ty.a3, Try.underlying33, Ty.c33, Ty.a33, getD_map h0, getD_map hy]
        repeat (refine And.intro (by first | omega | (intros; omega) | (intros; simp_all; done) | (intros; simp_all; omega)) ?_)
        refine k _ ?_; clear k K
        -- 29 := load 3 t28
        refine v_op ?_; intro K k
        simp only [aStepM, optable, get_mk, look_cons, look_nil, set_some, set_none, ev_tmp, ev_const, ev_func, Nat.reduceEqDiff, reduceIte, dst_some, dst_none, Nat.reduceLT, List.append_nil, List.nil_append, true_and, and_true, and_self, implies_true, forall_const, imp_self, Bool.false_eq_true, false_implies, cond_true, cond_false, decide_eq_true_eq, eq_self_iff_true, exists_eq_left', Option.some.injEq, reduceCtorEq, not_false_eq_true, not_true_eq_false, ne_eq, V.ofValue, V.ofScalar, V.un, V.gd, aExec, aop, aLoad, row_mk, Blk.row, PartOK, Go.Vm.part, V.cells, V.noSl, V.noRef, Nat.zero_lt_one, Nat.lt_add_one, Nat.zero_add, Nat.add_zero, Nat.reduceAdd, Nat.reduceLeDiff, Nat.reduceLT, Nat.reduceMul, Nat.le_refl, Nat.zero_lt_succ, List.getElem?_toArray, List.getElem?_cons_succ, List.getElem?_cons_zero, List.getD_cons_zero, List.getD_cons_succ, List.length_cons, List.length_nil, List.drop_zero, List.drop_succ_cons, List.headD_cons, List.take_succ_cons, List.take_zero, List.take_nil, List.drop_nil, List.map_cons, List.map_nil, Option.bind_some, Option.isSome_some, Option.map_some, Bool.or_false, Bool.false_or, Bool.or_true, Bool.true_or, Bool.not_true, Bool.not_false, Bool.and_false, Bool.and_true, Bool.false_and, Bool.true_and, decide_true, decide_false, Bool.or_self, Bool.and_self, Try.underlying3, Ty.c3, Ty.a3, getD_map h0, getD_map hy]
        repeat (refine And.intro (by first | omega | (intros; omega) | (intros; simp_all; done) | (intros; simp_all; omega)) ?_)
        refine k _ ?_; clear k K
        -- 10 := assign t29
        refine v_op ?_; intro K k
        simp only [aStepM, optable, get_mk, look_cons, look_nil, set_some, set_none, ev_tmp, ev_const, ev_func, Nat.reduceEqDiff, reduceIte, dst_some, dst_none, Nat.reduceLT, List.append_nil, List.nil_append, true_and, and_true, and_self, implies_true, forall_const, imp_self, Bool.false_eq_true, false_implies, cond_true, cond_false, decide_eq_true_eq, eq_self_iff_true, exists_eq_left', Option.some.injEq, reduceCtorEq, not_false_eq_true, not_true_eq_false, ne_eq, V.ofValue, V.ofScalar, V.un, V.gd, aExec, aop, settle_int, settle_bool, settle_str, settle_nsl, settle_sl, settle_ref, settle_sub, settle_ptr, settle_pv, settle_tup, settle_fn, settle_npt, settle_agg, settleL_nil, settleL_nsl, settleL_int, settleL_bool, settleL_str, settleL_sl, settleL_ref, List.length_nil, List.length_cons, List.length_append, Nat.reduceAdd, Nat.zero_add, Nat.add_zero, List.cons_append, getD_map h0, getD_map hy]
        repeat (refine And.intro (by first | omega | (intros; omega) | (intros; simp_all; done) | (intros; simp_all; omega)) ?_)
        refine k _ ?_; clear k K
        refine k25 _ ?_
        refine n24 _ _ (weak_keep [7, 8, 10, 24, 25, 26] _) ?_
        simp only [keep_mk, keepE_nil, keepE_cons, look_cons, look_nil, Nat.reduceEqDiff, reduceIte]
        refine v_seq ?_; intro Q26 n26 e26 r26
        refine v_region ?_; intro K27 k27
        -- 30 := move t7
        refine v_op ?_; intro K k
        simp only [aStepM, optable, get_mk, look_cons, look_nil, set_some, set_none, ev_tmp, ev_const, ev_func, Nat.reduceEqDiff, reduceIte, dst_some, dst_none, Nat.reduceLT, List.append_nil, List.nil_append, true_and, and_true, and_self, implies_true, forall_const, imp_self, Bool.false_eq_true, false_implies, cond_true, cond_false, decide_eq_true_eq, eq_self_iff_true, exists_eq_left', Option.some.injEq, reduceCtorEq, not_false_eq_true, not_true_eq_false, ne_eq, V.ofValue, V.ofScalar, V.un, V.gd, aExec, aop, getD_map h0, getD_map hy]
        repeat (refine And.intro (by first | omega | (intros; omega) | (intros; simp_all; done) | (intros; simp_all; omega)) ?_)
        refine k _ ?_; clear k K
        -- 31 := move t10
        refine v_op ?_; intro K k
        simp only [aStepM, optable, get_mk, look_cons, look_nil, set_some, set_none, ev_tmp, ev_const, ev_func, Nat.reduceEqDiff, reduceIte, dst_some, dst_none, Nat.reduceLT, List.append_nil, List.nil_append, true_and, and_true, and_self, implies_true, forall_const, imp_self, Bool.false_eq_true, false_implies, cond_true, cond_false, decide_eq_true_eq, eq_self_iff_true, exists_eq_left', Option.some.injEq, reduceCtorEq, not_false_eq_true, not_true_eq_false, ne_eq, V.ofValue, V.ofScalar, V.un, V.gd, aExec, aop, getD_map h0, getD_map hy]
        repeat (refine And.intro (by first | omega | (intros; omega) | (intros; simp_all; done) | (intros; simp_all; omega)) ?_)
        refine k _ ?_; clear k K
        -- 32 := call v f50 t30 t31 | 3 3
        refine v_op ?_; intro K k
        simp only [aStepM, optable, get_mk, look_cons, look_nil, set_some, set_none, ev_tmp, ev_const, ev_func, Nat.reduceEqDiff, reduceIte, dst_some, dst_none, Nat.reduceLT, List.append_nil, List.nil_append, true_and, and_true, and_self, implies_true, forall_const, imp_self, Bool.false_eq_true, false_implies, cond_true, cond_false, decide_eq_true_eq, eq_self_iff_true, exists_eq_left', Option.some.injEq, reduceCtorEq, not_false_eq_true, not_true_eq_false, ne_eq, V.ofValue, V.ofScalar, V.un, V.gd, aExec, lentIds, lendOf, List.map_cons, List.map_nil, List.append_nil, List.filterMap_nil, List.mem_cons, List.not_mem_nil, or_false, forall_eq_or_imp, forall_eq, false_implies, Try.underlying3, Ty.c3, Ty.a3, Ty.b3, Ty.s3]
        repeat (refine And.intro (by first | rfl | (intros; simp_all; done)) ?_)
        refine aCall_new (l1Least_con p.2.1 y) (by first | rfl | simp only [toArgs, toArg, toCell, toCells, idx, row_mk, List.getElem?_cons_zero, List.getElem?_cons_succ, Option.bind_some, Blk.row, fillK_mix, cond_true]) (by first | exact .inl ⟨rfl, by simp [Blk.kindIs, fillK_fd]⟩ | exact .inr (by simp [V.cold])) ?_
        refine k _ ?_; clear k K
        simp only [get_mk, look_cons, look_nil, set_some, set_none, ev_tmp, ev_const, ev_func, Nat.reduceEqDiff, reduceIte, V.ren, V.renL, List.append_nil, List.cons_append, List.nil_append, rho, List.length_nil, List.length_cons, Nat.reduceAdd, Nat.zero_add, Nat.not_lt_zero, if_false, Nat.sub_zero]
        -- 7 := assign t32
        refine v_op ?_; intro K k
        simp only [aStepM, optable, get_mk, look_cons, look_nil, set_some, set_none, ev_tmp, ev_const, ev_func, Nat.reduceEqDiff, reduceIte, dst_some, dst_none, Nat.reduceLT, List.append_nil, List.nil_append, true_and, and_true, and_self, implies_true, forall_const, imp_self, Bool.false_eq_true, false_implies, cond_true, cond_false, decide_eq_true_eq, eq_self_iff_true, exists_eq_left', Option.some.injEq, reduceCtorEq, not_false_eq_true, not_true_eq_false, ne_eq, V.ofValue, V.ofScalar, V.un, V.gd, aExec, aop, settle_int, settle_bool, settle_str, settle_nsl, settle_sl, settle_ref, settle_sub, settle_ptr, settle_pv, settle_tup, settle_fn, settle_npt, settle_agg, settleL_nil, settleL_nsl, settleL_int, settleL_bool, settleL_str, settleL_sl, settleL_ref, List.length_nil, List.length_cons, List.length_append, Nat.reduceAdd, Nat.zero_add, Nat.add_zero, List.cons_append, getD_map h0, getD_map hy]
        repeat (refine And.intro (by first | omega | (intros; omega) | (intros; simp_all; done) | (intros; simp_all; omega)) ?_)
        refine k _ ?_; clear k K
        refine k27 _ ?_
        refine n26 _ _ (weak_keep [7, 8, 10, 24, 25, 26] _) ?_
        simp only [keep_mk, keepE_nil, keepE_cons, look_cons, look_nil, Nat.reduceEqDiff, reduceIte]
        refine v_region ?_; intro K28 k28
        -- 33 := move t8
        refine v_op ?_; intro K k
        simp only [aStepM, optable, get_mk, look_cons, look_nil, set_some, set_none, ev_tmp, ev_const, ev_func, Nat.reduceEqDiff, reduceIte, dst_some, dst_none, Nat.reduceLT, List.append_nil, List.nil_append, true_and, and_true, and_self, implies_true, forall_const, imp_self, Bool.false_eq_true, false_implies, cond_true, cond_false, decide_eq_true_eq, eq_self_iff_true, exists_eq_left', Option.some.injEq, reduceCtorEq, not_false_eq_true, not_true_eq_false, ne_eq, V.ofValue, V.ofScalar, V.un, V.gd, aExec, aop, getD_map h0, getD_map hy]
        repeat (refine And.intro (by first | omega | (intros; omega) | (intros; simp_all; done) | (intros; simp_all; omega)) ?_)
        refine k _ ?_; clear k K
        -- 34 := move t10
        refine v_op ?_; intro K k
        simp only [aStepM, optable, get_mk, look_cons, look_nil, set_some, set_none, ev_tmp, ev_const, ev_func, Nat.reduceEqDiff, reduceIte, dst_some, dst_none, Nat.reduceLT, List.append_nil, List.nil_append, true_and, and_true, and_self, implies_true, forall_const, imp_self, Bool.false_eq_true, false_implies, cond_true, cond_false, decide_eq_true_eq, eq_self_iff_true, exists_eq_left', Option.some.injEq, reduceCtorEq, not_false_eq_true, not_true_eq_false, ne_eq, V.ofValue, V.ofScalar, V.un, V.gd, aExec, aop, getD_map h0, getD_map hy]
        repeat (refine And.intro (by first | omega | (intros; omega) | (intros; simp_all; done) | (intros; simp_all; omega)) ?_)
        refine k _ ?_; clear k K
        -- 35 := call v f51 t33 t34 | 3 3
        refine v_op ?_; intro K k
        simp only [aStepM, optable, get_mk, look_cons, look_nil, set_some, set_none, ev_tmp, ev_const, ev_func, Nat.reduceEqDiff, reduceIte, dst_some, dst_none, Nat.reduceLT, List.append_nil, List.nil_append, true_and, and_true, and_self, implies_true, forall_const, imp_self, Bool.false_eq_true, false_implies, cond_true, cond_false, decide_eq_true_eq, eq_self_iff_true, exists_eq_left', Option.some.injEq, reduceCtorEq, not_false_eq_true, not_true_eq_false, ne_eq, V.ofValue, V.ofScalar, V.un, V.gd, aExec, lentIds, lendOf, List.map_cons, List.map_nil, List.append_nil, List.filterMap_nil, List.mem_cons, List.not_mem_nil, or_false, forall_eq_or_imp, forall_eq, false_implies, Try.underlying3, Ty.c3, Ty.a3, Ty.b3, Ty.s3]
        repeat (refine And.intro (by first | rfl | (intros; simp_all; done)) ?_)
        refine aCall_new (l1Most_con p.2.2 y) (by first | rfl | simp only [toArgs, toArg, toCell, toCells, idx, row_mk, List.getElem?_cons_zero, List.getElem?_cons_succ, Option.bind_some, Blk.row, fillK_mix, cond_true]) (by first | exact .inl ⟨rfl, by simp [Blk.kindIs, fillK_fd]⟩ | exact .inr (by simp [V.cold])) ?_
        refine k _ ?_; clear k K
        simp only [get_mk, look_cons, look_nil, set_some, set_none, ev_tmp, ev_const, ev_func, Nat.reduceEqDiff, reduceIte, V.ren, V.renL, List.append_nil, List.cons_append, List.nil_append, rho, List.length_nil, List.length_cons, Nat.reduceAdd, Nat.zero_add, Nat.not_lt_zero, if_false, Nat.sub_zero]
        -- 8 := assign t35
        refine v_op ?_; intro K k
        simp only [aStepM, optable, get_mk, look_cons, look_nil, set_some, set_none, ev_tmp, ev_const, ev_func, Nat.reduceEqDiff, reduceIte, dst_some, dst_none, Nat.reduceLT, List.append_nil, List.nil_append, true_and, and_true, and_self, implies_true, forall_const, imp_self, Bool.false_eq_true, false_implies, cond_true, cond_false, decide_eq_true_eq, eq_self_iff_true, exists_eq_left', Option.some.injEq, reduceCtorEq, not_false_eq_true, not_true_eq_false, ne_eq, V.ofValue, V.ofScalar, V.un, V.gd, aExec, aop, settle_int, settle_bool, settle_str, settle_nsl, settle_sl, settle_ref, settle_sub, settle_ptr, settle_pv, settle_tup, settle_fn, settle_npt, settle_agg, settleL_nil, settleL_nsl, settleL_int, settleL_bool, settleL_str, settleL_sl, settleL_ref, List.length_nil, List.length_cons, List.length_append, Nat.reduceAdd, Nat.zero_add, Nat.add_zero, List.cons_append, getD_map h0, getD_map hy]
        repeat (refine And.intro (by first | omega | (intros; omega) | (intros; simp_all; done) | (intros; simp_all; omega)) ?_)
        refine k _ ?_; clear k K
        refine k28 _ ?_
        refine n23 _ ?_
        refine n22 _ _ (weak_keep [7, 8, 24, 25, 26] _) ?_
        simp only [keep_mk, keepE_nil, keepE_cons, look_cons, look_nil, Nat.reduceEqDiff, reduceIte]
        refine v_region ?_; intro K29 k29
        -- 36 := binOp Go.BinOp.add 3 t26 c<1:i64> 3
        refine v_op ?_; intro K k
        simp only [aStepM, optable, get_mk, look_cons, look_nil, set_some, set_none, ev_tmp, ev_const, ev_func, Nat.reduceEqDiff, reduceIte, dst_some, dst_none, Nat.reduceLT, List.append_nil, List.nil_append, true_and, and_true, and_self, implies_true, forall_const, imp_self, Bool.false_eq_true, false_implies, cond_true, cond_false, decide_eq_true_eq, eq_self_iff_true, exists_eq_left', Option.some.injEq, reduceCtorEq, not_false_eq_true, not_true_eq_false, ne_eq, V.ofValue, V.ofScalar, V.un, V.gd, aExec, aop, aBin, Try.underlying3, getD_map h0, getD_map hy]
        try simp (disch := omega) only [wrap64]
        repeat (refine And.intro (by first | omega | (intros; omega) | (intros; simp_all; done) | (intros; simp_all; omega)) ?_)
        refine k _ ?_; clear k K
        -- 26 := move t36
        refine v_op ?_; intro K k
        simp only [aStepM, optable, get_mk, look_cons, look_nil, set_some, set_none, ev_tmp, ev_const, ev_func, Nat.reduceEqDiff, reduceIte, dst_some, dst_none, Nat.reduceLT, List.append_nil, List.nil_append, true_and, and_true, and_self, implies_true, forall_const, imp_self, Bool.false_eq_true, false_implies, cond_true, cond_false, decide_eq_true_eq, eq_self_iff_true, exists_eq_left', Option.some.injEq, reduceCtorEq, not_false_eq_true, not_true_eq_false, ne_eq, V.ofValue, V.ofScalar, V.un, V.gd, aExec, aop, getD_map h0, getD_map hy]
        repeat (refine And.intro (by first | omega | (intros; omega) | (intros; simp_all; done) | (intros; simp_all; omega)) ?_)
        refine k _ ?_; clear k K
        refine k29 _ ?_
        refine n17 _ (p.1 + 1, (if y < p.2.1 then y else p.2.1), (if y > p.2.2 then y else p.2.2)) ?_ ?_ ?_
        · refine weak_both [7, 8, 24, 25, 26] [0] (by decide) (by simp) ?_ ?_ ?_
          · simp [keep_mk, keepE_nil, keepE_cons, look_cons, V.only, V.onlyL, idx]
          · simp [Blk.kindIs, fillK_mix]
          simp only [keep_mk, keepE_nil, keepE_cons, look_cons, look_nil, Nat.reduceEqDiff, reduceIte, St.comp, List.map_cons, List.map_nil, V.ren, V.renL, idx, List.getD_cons_zero, List.getD_cons_succ, Nat.reduceBEq, cond_true, cond_false, Option.map_some, Option.getD_some, Nat.reduceAdd, Nat.beq_eq_true_eq]
          rfl
        · exact ⟨by show p.1 + 1 ≤ _; omega, by show leastL (xl.drop (p.1 + 1)) _ = _; rw [← hR1, least_step hy], by show mostL (xl.drop (p.1 + 1)) _ = _; rw [← hR2, most_step hy]⟩
        · show _ < _; show xl.length - (p.1 + 1) < _; omega
      · intro hc1
        simp only [decide_eq_true_eq, decide_eq_false_iff_not, Bool.and_eq_true, Bool.or_eq_true, Bool.not_eq_true', Bool.not_eq_false', Bool.and_eq_false_imp, Bool.or_eq_false_iff, Int.not_lt, Int.not_le, reduceCtorEq, Bool.true_eq_false, Bool.false_eq_true, imp_false, Classical.not_imp] at hc1
        refine v_exit ?_
        refine e20 _ _ ?_
        refine e17 _ _ ?_
        refine x16 _ ?_
        refine n13 _ _ (weak_keep [7, 8] _) ?_
        simp only [keep_mk, keepE_nil, keepE_cons, look_cons, look_nil, Nat.reduceEqDiff, reduceIte]
        refine v_seq ?_; intro Q30 n30 e30 r30
        refine v_region ?_; intro K31 k31
        -- 37 := move t8
        refine v_op ?_; intro K k
        simp only [aStepM, optable, get_mk, look_cons, look_nil, set_some, set_none, ev_tmp, ev_const, ev_func, Nat.reduceEqDiff, reduceIte, dst_some, dst_none, Nat.reduceLT, List.append_nil, List.nil_append, true_and, and_true, and_self, implies_true, forall_const, imp_self, Bool.false_eq_true, false_implies, cond_true, cond_false, decide_eq_true_eq, eq_self_iff_true, exists_eq_left', Option.some.injEq, reduceCtorEq, not_false_eq_true, not_true_eq_false, ne_eq, V.ofValue, V.ofScalar, V.un, V.gd, aExec, aop, getD_map h0]
        repeat (refine And.intro (by first | omega | (intros; omega) | (intros; simp_all; done) | (intros; simp_all; omega)) ?_)
        refine k _ ?_; clear k K
        -- 38 := move t7
        refine v_op ?_; intro K k
        simp only [aStepM, optable, get_mk, look_cons, look_nil, set_some, set_none, ev_tmp, ev_const, ev_func, Nat.reduceEqDiff, reduceIte, dst_some, dst_none, Nat.reduceLT, List.append_nil, List.nil_append, true_and, and_true, and_self, implies_true, forall_const, imp_self, Bool.false_eq_true, false_implies, cond_true, cond_false, decide_eq_true_eq, eq_self_iff_true, exists_eq_left', Option.some.injEq, reduceCtorEq, not_false_eq_true, not_true_eq_false, ne_eq, V.ofValue, V.ofScalar, V.un, V.gd, aExec, aop, getD_map h0]
        repeat (refine And.intro (by first | omega | (intros; omega) | (intros; simp_all; done) | (intros; simp_all; omega)) ?_)
        refine k _ ?_; clear k K
        -- 39 := binOp Go.BinOp.sub 3 t37 t38 3
        refine v_op ?_; intro K k
        simp only [aStepM, optable, get_mk, look_cons, look_nil, set_some, set_none, ev_tmp, ev_const, ev_func, Nat.reduceEqDiff, reduceIte, dst_some, dst_none, Nat.reduceLT, List.append_nil, List.nil_append, true_and, and_true, and_self, implies_true, forall_const, imp_self, Bool.false_eq_true, false_implies, cond_true, cond_false, decide_eq_true_eq, eq_self_iff_true, exists_eq_left', Option.some.injEq, reduceCtorEq, not_false_eq_true, not_true_eq_false, ne_eq, V.ofValue, V.ofScalar, V.un, V.gd, aExec, aop, aBin, Try.underlying3, getD_map h0]
        try simp (disch := omega) only [wrap64]
        repeat (refine And.intro (by first | omega | (intros; omega) | (intros; simp_all; done) | (intros; simp_all; omega)) ?_)
        refine k _ ?_; clear k K
        -- 4 := assign t39
        refine v_op ?_; intro K k
        simp only [aStepM, optable, get_mk, look_cons, look_nil, set_some, set_none, ev_tmp, ev_const, ev_func, Nat.reduceEqDiff, reduceIte, dst_some, dst_none, Nat.reduceLT, List.append_nil, List.nil_append, true_and, and_true, and_self, implies_true, forall_const, imp_self, Bool.false_eq_true, false_implies, cond_true, cond_false, decide_eq_true_eq, eq_self_iff_true, exists_eq_left', Option.some.injEq, reduceCtorEq, not_false_eq_true, not_true_eq_false, ne_eq, V.ofValue, V.ofScalar, V.un, V.gd, aExec, aop, settle_int, settle_bool, settle_str, settle_nsl, settle_sl, settle_ref, settle_sub, settle_ptr, settle_pv, settle_tup, settle_fn, settle_npt, settle_agg, settleL_nil, settleL_nsl, settleL_int, settleL_bool, settleL_str, settleL_sl, settleL_ref, List.length_nil, List.length_cons, List.length_append, Nat.reduceAdd, Nat.zero_add, Nat.add_zero, List.cons_append, getD_map h0]
        repeat (refine And.intro (by first | omega | (intros; omega) | (intros; simp_all; done) | (intros; simp_all; omega)) ?_)
        refine k _ ?_; clear k K
        -- 5 := assign c<true>
        refine v_op ?_; intro K k
        simp only [aStepM, optable, get_mk, look_cons, look_nil, set_some, set_none, ev_tmp, ev_const, ev_func, Nat.reduceEqDiff, reduceIte, dst_some, dst_none, Nat.reduceLT, List.append_nil, List.nil_append, true_and, and_true, and_self, implies_true, forall_const, imp_self, Bool.false_eq_true, false_implies, cond_true, cond_false, decide_eq_true_eq, eq_self_iff_true, exists_eq_left', Option.some.injEq, reduceCtorEq, not_false_eq_true, not_true_eq_false, ne_eq, V.ofValue, V.ofScalar, V.un, V.gd, aExec, aop, settle_int, settle_bool, settle_str, settle_nsl, settle_sl, settle_ref, settle_sub, settle_ptr, settle_pv, settle_tup, settle_fn, settle_npt, settle_agg, settleL_nil, settleL_nsl, settleL_int, settleL_bool, settleL_str, settleL_sl, settleL_ref, List.length_nil, List.length_cons, List.length_append, Nat.reduceAdd, Nat.zero_add, Nat.add_zero, List.cons_append, getD_map h0]
        repeat (refine And.intro (by first | omega | (intros; omega) | (intros; simp_all; done) | (intros; simp_all; omega)) ?_)
        refine k _ ?_; clear k K
        refine k31 _ ?_
        refine n30 _ _ (weak_keep [4, 5] _) ?_
        simp only [keep_mk, keepE_nil, keepE_cons, look_cons, look_nil, Nat.reduceEqDiff, reduceIte]
        refine v_ret ?_
        refine r0 _ ?_
        simp only [resK, pickRV, get_mk, look_cons, look_nil, Nat.reduceEqDiff, reduceIte, List.map_cons, List.map_nil]
        rw [if_pos hc0, hc0, hsv, ← hm, ← hle, ← hR1, ← hR2, most_end (by omega), least_end (by omega)]
        exact ret_pure rfl rfl (.inl rfl)
end Go.Proofs.Ythehbhfjapinnaa
