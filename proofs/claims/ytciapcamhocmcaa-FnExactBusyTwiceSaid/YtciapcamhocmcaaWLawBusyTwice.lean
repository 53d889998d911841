/- What functions compute (LawBusyTwice). No condition. -/
import Derived.Test.YtciapcamhocmcaaTy
import Derived.Test.YtciapcamhocmcaaVm21
import Derived.Test.YtciapcamhocmcaaWSzL
import Derived.Test.YtciapcamhocmcaaWBusy
import Derived.Test.YtciapcamhocmcaaWZTurnout
import Derived.Test.YtciapcamhocmcaaWTTurnout
import Derived.Test.YtciapcamhocmcaaWETurnout
import Derived.Test.YtciapcamhocmcaaWEqSS
import Derived.Test.YtciapcamhocmcaaWMarkTurnout
import Derived.Test.YtciapcamhocmcaaWMarkSS
set_option linter.unusedSimpArgs false
set_option linter.unusedVariables false
namespace Go.Proofs.Ytciapcamhocmcaa
open Go Go.Vm

-- loop.example/g01020/laws.FnExactBusyTwice
set_option maxHeartbeats 4000000 in
theorem lawBusy_con (l : List (Int × ByteArray × Int × Int)) (hl : l.length ≤ 9223372036854775807) (hls : ∀ t ∈ l, t.2.1.size ≤ 9223372036854775807) : Con Try.prog 11 [.sl (l.map (fun t : Int × ByteArray × Int × Int => V.agg [V.int .i64 t.1, V.str t.2.1, V.int .i64 t.2.2.1, V.int .i64 t.2.2.2]))] [] (.bool true) [] := by
  refine v_con [.tmp 2] [(35, [0]), (50, [0])] Try.func11 rfl rfl rfl (by simp [Try.ntmps11]) ?_
  intro Q0 n0 r0
  simp only [Try.ntmps11, envFrom, Nat.reduceAdd]
  refine v_seq ?_; intro Q1 n1 e1 r1  -- SEQ 0
  refine v_region ?_; intro K2 k2
  -- 2 := assign c<false>
  refine v_op ?_; intro K k
  simp only [zE, zS, aStepM, optable, set_some, Nat.reduceEqDiff, reduceIte, Nat.reduceLT, implies_true, forall_const, reduceCtorEq, V.ofValue, V.ofScalar, V.un, V.gd, aExec, aop, Nat.reduceAdd]
  repeat (refine And.intro (by first | omega | (intros; omega) | (intros; simp_all; done) | (intros; simp_all; omega)) ?_)
  refine k _ ?_; clear k K
  refine k2 _ ?_
  refine n1 _ _ (weak_keep [0] _) ?_
  simp only [keep_mk, keepE_nil, keepE_cons, look_cons, look_nil, Nat.reduceEqDiff, reduceIte]
  refine v_seq ?_; intro Q3 n3 e3 r3  -- SEQ 1
  refine v_region ?_; intro K4 k4
  -- 3 := assign c<1048576:i64>
  refine v_op ?_; intro K k
  simp only [zE, zS, aStepM, optable, set_some, Nat.reduceEqDiff, reduceIte, Nat.reduceLT, implies_true, forall_const, reduceCtorEq, V.ofValue, V.ofScalar, V.un, V.gd, aExec, aop, Nat.reduceAdd]
  repeat (refine And.intro (by first | omega | (intros; omega) | (intros; simp_all; done) | (intros; simp_all; omega)) ?_)
  refine k _ ?_; clear k K
  refine k4 _ ?_
  refine n3 _ _ (weak_keep [0, 3] _) ?_
  simp only [keep_mk, keepE_nil, keepE_cons, look_cons, look_nil, Nat.reduceEqDiff, reduceIte]
  refine v_seq ?_; intro Q5 n5 e5 r5  -- SEQ 2
  refine v_region ?_; intro K6 k6
  -- 14 := move t0
  refine v_op ?_; intro K k
  simp only [zE, aStepM, optable, set_some, Nat.reduceEqDiff, reduceIte, Nat.reduceLT, implies_true, forall_const, reduceCtorEq, V.ofValue, V.ofScalar, V.un, V.gd, aExec, aop]
  repeat (refine And.intro (by first | omega | (intros; omega) | (intros; simp_all; done) | (intros; simp_all; omega)) ?_)
  refine k _ ?_; clear k K
  -- 15 := move t3
  refine v_op ?_; intro K k
  simp only [zE, aStepM, optable, set_some, Nat.reduceEqDiff, reduceIte, Nat.reduceLT, implies_true, forall_const, reduceCtorEq, V.ofValue, V.ofScalar, V.un, V.gd, aExec, aop]
  repeat (refine And.intro (by first | omega | (intros; omega) | (intros; simp_all; done) | (intros; simp_all; omega)) ?_)
  refine k _ ?_; clear k K
  -- 16 := call v f15 t14 t15 | 22 3
  refine v_op ?_; intro K k
  simp only [zE, zM, aStepM, optable, set_some, Nat.reduceEqDiff, reduceIte, Nat.reduceLT, implies_true, forall_const, reduceCtorEq, V.ofValue, V.ofScalar, V.un, V.gd, aExec, lentIds, lendOf, Try.underlying3, Ty.c3, Ty.a3, Ty.b3, Ty.s3, Try.underlying22, Ty.c22, Ty.a22, Ty.b22, Ty.s22, Try.underlying93, Ty.c93, Ty.a93, Ty.b93, Ty.s93]
  repeat (refine And.intro (by first | rfl | (intros; simp_all; done)) ?_)
  refine aCall_new (szTurnoutS_con 1048576 l (by omega) hl hls) (by first | rfl | (simp only [toArgs, toArg, toCell, toCells, idx, row_mk, List.getElem?_cons_zero, List.getElem?_cons_succ, Option.bind_some, Option.map_some, Blk.row, fillK_mix, cond_true]; done) | (simp [toArgs, toArg, toCell, toCells, idx, row_mk, Blk.row, fillK_mix, Nat.beq_refl]; done)) (by first | exact .inl ⟨rfl, by simp [Blk.kindIs, fillK_fd]⟩ | exact .inr (by simp [V.cold])) ?_
  refine k _ ?_; clear k K
  simp only [zY, zW, set_some, Nat.reduceEqDiff, reduceIte, V.ren, V.renL, rho, Nat.reduceAdd]
  -- 3 := assign t16
  refine v_op ?_; intro K k
  simp only [zE, zS, aStepM, optable, set_some, Nat.reduceEqDiff, reduceIte, Nat.reduceLT, implies_true, forall_const, reduceCtorEq, V.ofValue, V.ofScalar, V.un, V.gd, aExec, aop, Nat.reduceAdd]
  repeat (refine And.intro (by first | omega | (intros; omega) | (intros; simp_all; done) | (intros; simp_all; omega)) ?_)
  refine k _ ?_; clear k K
  refine k6 _ ?_
  refine n5 _ _ (weak_keep [0, 3] _) ?_
  simp only [keep_mk, keepE_nil, keepE_cons, look_cons, look_nil, Nat.reduceEqDiff, reduceIte]
  refine v_seq ?_; intro Q7 n7 e7 r7  -- SEQ 3
  refine v_seq ?_; intro Q8 n8 e8 r8  -- SEQ 4
  refine v_region ?_; intro K9 k9
  -- 17 := move t3
  refine v_op ?_; intro K k
  simp only [zE, aStepM, optable, set_some, Nat.reduceEqDiff, reduceIte, Nat.reduceLT, implies_true, forall_const, reduceCtorEq, V.ofValue, V.ofScalar, V.un, V.gd, aExec, aop]
  repeat (refine And.intro (by first | omega | (intros; omega) | (intros; simp_all; done) | (intros; simp_all; omega)) ?_)
  refine k _ ?_; clear k K
  -- 18 := binOp Go.BinOp.lss 3 t17 c<0:i64> 3
  refine v_op ?_; intro K k
  simp only [zE, aStepM, optable, set_some, Nat.reduceEqDiff, reduceIte, Nat.reduceLT, implies_true, forall_const, reduceCtorEq, V.ofValue, V.ofScalar, V.un, V.gd, aExec, aop, aBin, Try.underlying3]
  repeat (refine And.intro (by first | omega | (intros; omega) | (intros; simp_all; done) | (intros; simp_all; omega)) ?_)
  refine k _ ?_; clear k K
  refine k9 _ ?_
  refine n8 _ _ (weak_keep [0, 18] _) ?_
  simp only [keep_mk, keepE_nil, keepE_cons, look_cons, look_nil, Nat.reduceEqDiff, reduceIte]
  refine v_cond _ rfl ?_ ?_  -- COND 0
  · intro hc0
    try simp only [zC, reduceCtorEq] at hc0
    refine v_seq ?_; intro Q11 n11 e11 r11  -- SEQ 5
    refine v_region ?_; intro K12 k12
    -- 2 := assign c<true>
    refine v_op ?_; intro K k
    simp only [zE, zS, aStepM, optable, set_some, Nat.reduceEqDiff, reduceIte, Nat.reduceLT, implies_true, forall_const, reduceCtorEq, V.ofValue, V.ofScalar, V.un, V.gd, aExec, aop, Nat.reduceAdd]
    repeat (refine And.intro (by first | omega | (intros; omega) | (intros; simp_all; done) | (intros; simp_all; omega)) ?_)
    refine k _ ?_; clear k K
    refine k12 _ ?_
    refine n11 _ _ (weak_keep [2] _) ?_
    simp only [keep_mk, keepE_nil, keepE_cons, look_cons, look_nil, Nat.reduceEqDiff, reduceIte]
    refine v_ret ?_
    refine r7 _ ?_
    refine r0 _ ?_
    simp only [resK, pickRV, get_mk, look_cons, look_nil, Nat.reduceEqDiff, reduceIte, List.map_cons, List.map_nil]
    exact ret_pure rfl rfl (.inl rfl)
  · intro hc0
    try simp only [zC, reduceCtorEq] at hc0
    have hl2 : l.length ≤ 1048576 := by
      split at hc0 <;> omega
    have hT := busyR_len l
    have hT1 : (busyR l).length ≤ 1048576 := by omega
    have hT2 : ∀ p ∈ busyR l, p.length ≤ 1048576 := fun p hp => by rw [busyR_two l p hp]; omega
    have htot := tot_two (busyR l) (busyR_two l)
    refine v_skip ?_
    refine n7 _ _ (weak_keep [0] _) ?_
    simp only [keep_mk, keepE_nil, keepE_cons, look_cons, look_nil, Nat.reduceEqDiff, reduceIte]
    refine v_seq ?_; intro Q13 n13 e13 r13  -- SEQ 6
    refine v_region ?_; intro K14 k14
    -- 20 := move t0
    refine v_op ?_; intro K k
    simp only [zE, aStepM, optable, set_some, Nat.reduceEqDiff, reduceIte, Nat.reduceLT, implies_true, forall_const, reduceCtorEq, V.ofValue, V.ofScalar, V.un, V.gd, aExec, aop]
    repeat (refine And.intro (by first | omega | (intros; omega) | (intros; simp_all; done) | (intros; simp_all; omega)) ?_)
    refine k _ ?_; clear k K
    -- 21 := call v f17 t20 | 22
    refine v_op ?_; intro K k
    simp only [zE, zM, aStepM, optable, set_some, Nat.reduceEqDiff, reduceIte, Nat.reduceLT, implies_true, forall_const, reduceCtorEq, V.ofValue, V.ofScalar, V.un, V.gd, aExec, lentIds, lendOf, Try.underlying22, Ty.c22, Ty.a22, Ty.b22, Ty.s22, Try.underlying26, Ty.c26, Ty.a26, Ty.b26, Ty.s26, Try.underlying93, Ty.c93, Ty.a93, Ty.b93, Ty.s93, Try.underlying95, Ty.c95, Ty.a95, Ty.b95, Ty.s95]
    repeat (refine And.intro (by first | rfl | (intros; simp_all; done)) ?_)
    refine aCall_new (toTurnoutS_con l hl2) (by first | rfl | (simp only [toArgs, toArg, toCell, toCells, idx, row_mk, List.getElem?_cons_zero, List.getElem?_cons_succ, Option.bind_some, Option.map_some, Blk.row, fillK_mix, cond_true]; done) | (simp [toArgs, toArg, toCell, toCells, idx, row_mk, Blk.row, fillK_mix, Nat.beq_refl]; done)) (by first | exact .inl ⟨rfl, by simp [Blk.kindIs, fillK_fd]⟩ | exact .inr (by simp [V.cold])) ?_
    refine k _ ?_; clear k K
    simp only [zY, zW, set_some, Nat.reduceEqDiff, reduceIte, V.ren, V.renL, rho, Nat.reduceAdd]
    -- 22 := call v f48 t21 | 26
    refine v_op ?_; intro K k
    simp only [zE, zM, aStepM, optable, set_some, Nat.reduceEqDiff, reduceIte, Nat.reduceLT, implies_true, forall_const, reduceCtorEq, V.ofValue, V.ofScalar, V.un, V.gd, aExec, lentIds, lendOf, Try.underlying26, Ty.c26, Ty.a26, Ty.b26, Ty.s26, Try.underlying95, Ty.c95, Ty.a95, Ty.b95, Ty.s95]
    repeat (refine And.intro (by first | rfl | (intros; simp_all; done)) ?_)
    refine aCall_new (specBusy_con l hl2 hls) (by first | rfl | (simp only [toArgs, toArg, toCell, toCells, idx, row_mk, List.getElem?_cons_zero, List.getElem?_cons_succ, Option.bind_some, Option.map_some, Blk.row, fillK_mix, cond_true]; done) | (simp [toArgs, toArg, toCell, toCells, idx, row_mk, Blk.row, fillK_mix, Nat.beq_refl]; done)) (by first | exact .inl ⟨rfl, by simp [Blk.kindIs, fillK_fd]⟩ | exact .inr (by simp [V.cold])) ?_
    refine k _ ?_; clear k K
    simp only [zY, zW, set_some, Nat.reduceEqDiff, reduceIte, V.ren, V.renL, rho, Nat.reduceAdd]
    -- 19 := move t22
    refine v_op ?_; intro K k
    simp only [zE, aStepM, optable, set_some, Nat.reduceEqDiff, reduceIte, Nat.reduceLT, implies_true, forall_const, reduceCtorEq, V.ofValue, V.ofScalar, V.un, V.gd, aExec, aop]
    repeat (refine And.intro (by first | omega | (intros; omega) | (intros; simp_all; done) | (intros; simp_all; omega)) ?_)
    refine k _ ?_; clear k K
    -- 23 := extract t19 0
    refine v_op ?_; intro K k
    simp only [zE, zL, zN, aStepM, optable, set_some, Nat.reduceEqDiff, reduceIte, Nat.reduceLT, implies_true, forall_const, reduceCtorEq, V.ofValue, V.ofScalar, V.un, V.gd, aExec, aop, aExtract, Nat.reduceAdd, Nat.reduceLeDiff, Nat.reduceMul]
    repeat (refine And.intro (by first | omega | (intros; omega) | (intros; simp_all; done) | (intros; simp_all; omega)) ?_)
    refine k _ ?_; clear k K
    -- 24 := extract t19 1
    refine v_op ?_; intro K k
    simp only [zE, zL, zN, aStepM, optable, set_some, Nat.reduceEqDiff, reduceIte, Nat.reduceLT, implies_true, forall_const, reduceCtorEq, V.ofValue, V.ofScalar, V.un, V.gd, aExec, aop, aExtract, Nat.reduceAdd, Nat.reduceLeDiff, Nat.reduceMul]
    repeat (refine And.intro (by first | omega | (intros; omega) | (intros; simp_all; done) | (intros; simp_all; omega)) ?_)
    refine k _ ?_; clear k K
    -- 4 := assign t23
    refine v_op ?_; intro K k
    simp only [zE, zS, aStepM, optable, set_some, Nat.reduceEqDiff, reduceIte, Nat.reduceLT, implies_true, forall_const, reduceCtorEq, V.ofValue, V.ofScalar, V.un, V.gd, aExec, aop, Nat.reduceAdd]
    repeat (refine And.intro (by first | omega | (intros; omega) | (intros; simp_all; done) | (intros; simp_all; omega)) ?_)
    refine k _ ?_; clear k K
    -- 5 := assign t24
    refine v_op ?_; intro K k
    simp only [zE, zS, aStepM, optable, set_some, Nat.reduceEqDiff, reduceIte, Nat.reduceLT, implies_true, forall_const, reduceCtorEq, V.ofValue, V.ofScalar, V.un, V.gd, aExec, aop, Nat.reduceAdd]
    repeat (refine And.intro (by first | omega | (intros; omega) | (intros; simp_all; done) | (intros; simp_all; omega)) ?_)
    refine k _ ?_; clear k K
    refine k14 _ ?_
    refine n13 _ _ (weak_keep [0, 4, 5] _) ?_
    simp only [keep_mk, keepE_nil, keepE_cons, look_cons, look_nil, Nat.reduceEqDiff, reduceIte]
    refine v_seq ?_; intro Q15 n15 e15 r15  -- SEQ 7
    refine v_region ?_; intro K16 k16
    -- 25 := move t0
    refine v_op ?_; intro K k
    simp only [zE, aStepM, optable, set_some, Nat.reduceEqDiff, reduceIte, Nat.reduceLT, implies_true, forall_const, reduceCtorEq, V.ofValue, V.ofScalar, V.un, V.gd, aExec, aop]
    repeat (refine And.intro (by first | omega | (intros; omega) | (intros; simp_all; done) | (intros; simp_all; omega)) ?_)
    refine k _ ?_; clear k K
    -- 26 := call v f17 t25 | 22
    refine v_op ?_; intro K k
    simp only [zE, zM, aStepM, optable, set_some, Nat.reduceEqDiff, reduceIte, Nat.reduceLT, implies_true, forall_const, reduceCtorEq, V.ofValue, V.ofScalar, V.un, V.gd, aExec, lentIds, lendOf, Try.underlying22, Ty.c22, Ty.a22, Ty.b22, Ty.s22, Try.underlying26, Ty.c26, Ty.a26, Ty.b26, Ty.s26, Try.underlying93, Ty.c93, Ty.a93, Ty.b93, Ty.s93, Try.underlying95, Ty.c95, Ty.a95, Ty.b95, Ty.s95]
    repeat (refine And.intro (by first | rfl | (intros; simp_all; done)) ?_)
    refine aCall_new (toTurnoutS_con l hl2) (by first | rfl | (simp only [toArgs, toArg, toCell, toCells, idx, row_mk, List.getElem?_cons_zero, List.getElem?_cons_succ, Option.bind_some, Option.map_some, Blk.row, fillK_mix, cond_true]; done) | (simp [toArgs, toArg, toCell, toCells, idx, row_mk, Blk.row, fillK_mix, Nat.beq_refl]; done)) (by first | exact .inl ⟨rfl, by simp [Blk.kindIs, fillK_fd]⟩ | exact .inr (by simp [V.cold])) ?_
    refine k _ ?_; clear k K
    simp only [zY, zW, set_some, Nat.reduceEqDiff, reduceIte, V.ren, V.renL, rho, Nat.reduceAdd]
    -- 6 := assign t26
    refine v_op ?_; intro K k
    simp only [zE, zS, aStepM, optable, set_some, Nat.reduceEqDiff, reduceIte, Nat.reduceLT, implies_true, forall_const, reduceCtorEq, V.ofValue, V.ofScalar, V.un, V.gd, aExec, aop, Nat.reduceAdd]
    repeat (refine And.intro (by first | omega | (intros; omega) | (intros; simp_all; done) | (intros; simp_all; omega)) ?_)
    refine k _ ?_; clear k K
    refine k16 _ ?_
    refine n15 _ _ (weak_keep [0, 4, 5, 6] _) ?_
    simp only [keep_mk, keepE_nil, keepE_cons, look_cons, look_nil, Nat.reduceEqDiff, reduceIte]
    refine v_seq ?_; intro Q17 n17 e17 r17  -- SEQ 8
    refine v_region ?_; intro K18 k18
    -- 28 := move t6
    refine v_op ?_; intro K k
    simp only [zE, aStepM, optable, set_some, Nat.reduceEqDiff, reduceIte, Nat.reduceLT, implies_true, forall_const, reduceCtorEq, V.ofValue, V.ofScalar, V.un, V.gd, aExec, aop]
    repeat (refine And.intro (by first | omega | (intros; omega) | (intros; simp_all; done) | (intros; simp_all; omega)) ?_)
    refine k _ ?_; clear k K
    -- 29 := call v f49 t28 | 26
    refine v_op ?_; intro K k
    simp only [zE, zM, aStepM, optable, set_some, Nat.reduceEqDiff, reduceIte, Nat.reduceLT, implies_true, forall_const, reduceCtorEq, V.ofValue, V.ofScalar, V.un, V.gd, aExec, lentIds, lendOf, Try.underlying26, Ty.c26, Ty.a26, Ty.b26, Ty.s26, Try.underlying95, Ty.c95, Ty.a95, Ty.b95, Ty.s95]
    repeat (refine And.intro (by first | rfl | (intros; simp_all; done)) ?_)
    refine aCall_new (implBusy_con l hl2 hls) (by first | rfl | (simp only [toArgs, toArg, toCell, toCells, idx, row_mk, List.getElem?_cons_zero, List.getElem?_cons_succ, Option.bind_some, Option.map_some, Blk.row, fillK_mix, cond_true]; done) | (simp [toArgs, toArg, toCell, toCells, idx, row_mk, Blk.row, fillK_mix, Nat.beq_refl]; done)) (by first | exact .inl ⟨rfl, by simp [Blk.kindIs, fillK_fd]⟩ | exact .inr (by simp [V.cold])) ?_
    refine k _ ?_; clear k K
    simp only [zY, zW, set_some, Nat.reduceEqDiff, reduceIte, V.ren, V.renL, rho, Nat.reduceAdd]
    -- 27 := move t29
    refine v_op ?_; intro K k
    simp only [zE, aStepM, optable, set_some, Nat.reduceEqDiff, reduceIte, Nat.reduceLT, implies_true, forall_const, reduceCtorEq, V.ofValue, V.ofScalar, V.un, V.gd, aExec, aop]
    repeat (refine And.intro (by first | omega | (intros; omega) | (intros; simp_all; done) | (intros; simp_all; omega)) ?_)
    refine k _ ?_; clear k K
    -- 30 := extract t27 0
    refine v_op ?_; intro K k
    simp only [zE, zL, zN, aStepM, optable, set_some, Nat.reduceEqDiff, reduceIte, Nat.reduceLT, implies_true, forall_const, reduceCtorEq, V.ofValue, V.ofScalar, V.un, V.gd, aExec, aop, aExtract, Nat.reduceAdd, Nat.reduceLeDiff, Nat.reduceMul]
    repeat (refine And.intro (by first | omega | (intros; omega) | (intros; simp_all; done) | (intros; simp_all; omega)) ?_)
    refine k _ ?_; clear k K
    -- 31 := extract t27 1
    refine v_op ?_; intro K k
    simp only [zE, zL, zN, aStepM, optable, set_some, Nat.reduceEqDiff, reduceIte, Nat.reduceLT, implies_true, forall_const, reduceCtorEq, V.ofValue, V.ofScalar, V.un, V.gd, aExec, aop, aExtract, Nat.reduceAdd, Nat.reduceLeDiff, Nat.reduceMul]
    repeat (refine And.intro (by first | omega | (intros; omega) | (intros; simp_all; done) | (intros; simp_all; omega)) ?_)
    refine k _ ?_; clear k K
    -- 7 := assign t30
    refine v_op ?_; intro K k
    simp only [zE, zS, aStepM, optable, set_some, Nat.reduceEqDiff, reduceIte, Nat.reduceLT, implies_true, forall_const, reduceCtorEq, V.ofValue, V.ofScalar, V.un, V.gd, aExec, aop, Nat.reduceAdd]
    repeat (refine And.intro (by first | omega | (intros; omega) | (intros; simp_all; done) | (intros; simp_all; omega)) ?_)
    refine k _ ?_; clear k K
    -- 8 := assign t31
    refine v_op ?_; intro K k
    simp only [zE, zS, aStepM, optable, set_some, Nat.reduceEqDiff, reduceIte, Nat.reduceLT, implies_true, forall_const, reduceCtorEq, V.ofValue, V.ofScalar, V.un, V.gd, aExec, aop, Nat.reduceAdd]
    repeat (refine And.intro (by first | omega | (intros; omega) | (intros; simp_all; done) | (intros; simp_all; omega)) ?_)
    refine k _ ?_; clear k K
    refine k18 _ ?_
    refine n17 _ _ (weak_keep [0, 4, 5, 6, 7, 8] _) ?_
    simp only [keep_mk, keepE_nil, keepE_cons, look_cons, look_nil, Nat.reduceEqDiff, reduceIte]
    refine v_seq ?_; intro Q19 n19 e19 r19  -- SEQ 9
    refine v_seq ?_; intro Q20 n20 e20 r20  -- SEQ 10
    refine v_region ?_; intro K21 k21
    -- 32 := move t7
    refine v_op ?_; intro K k
    simp only [zE, aStepM, optable, set_some, Nat.reduceEqDiff, reduceIte, Nat.reduceLT, implies_true, forall_const, reduceCtorEq, V.ofValue, V.ofScalar, V.un, V.gd, aExec, aop]
    repeat (refine And.intro (by first | omega | (intros; omega) | (intros; simp_all; done) | (intros; simp_all; omega)) ?_)
    refine k _ ?_; clear k K
    -- 33 := move t4
    refine v_op ?_; intro K k
    simp only [zE, aStepM, optable, set_some, Nat.reduceEqDiff, reduceIte, Nat.reduceLT, implies_true, forall_const, reduceCtorEq, V.ofValue, V.ofScalar, V.un, V.gd, aExec, aop]
    repeat (refine And.intro (by first | omega | (intros; omega) | (intros; simp_all; done) | (intros; simp_all; omega)) ?_)
    refine k _ ?_; clear k K
    -- 34 := call v f27 t32 t33 | 32 32
    refine v_op ?_; intro K k
    simp only [zE, zM, aStepM, optable, set_some, Nat.reduceEqDiff, reduceIte, Nat.reduceLT, implies_true, forall_const, reduceCtorEq, V.ofValue, V.ofScalar, V.un, V.gd, aExec, lentIds, lendOf, Try.underlying4, Ty.c4, Ty.a4, Ty.b4, Ty.s4, Try.underlying32, Ty.c32, Ty.a32, Ty.b32, Ty.s32, Try.underlying47, Ty.c47, Ty.a47, Ty.b47, Ty.s47]
    repeat (refine And.intro (by first | rfl | (intros; simp_all; done)) ?_)
    refine aCall_new (eqIntSS_con (busyR l) (busyR l) hT1 hT2) (by first | rfl | (simp only [toArgs, toArg, toCell, toCells, idx, row_mk, List.getElem?_cons_zero, List.getElem?_cons_succ, Option.bind_some, Option.map_some, Blk.row, fillK_mix, cond_true]; done) | (simp [toArgs, toArg, toCell, toCells, idx, row_mk, Blk.row, fillK_mix, Nat.beq_refl]; done)) (by first | exact .inl ⟨rfl, by simp [Blk.kindIs, fillK_fd]⟩ | exact .inr (by simp [V.cold])) ?_
    refine k _ ?_; clear k K
    simp only [zY, zW, set_some, Nat.reduceEqDiff, reduceIte, V.ren, V.renL, rho, Nat.reduceAdd]
    -- 35 := unOp Go.UnOp.not 4 t34
    refine v_op ?_; intro K k
    simp only [zE, aStepM, optable, set_some, Nat.reduceEqDiff, reduceIte, Nat.reduceLT, implies_true, forall_const, reduceCtorEq, V.ofValue, V.ofScalar, V.un, V.gd, aExec, aop, aUn, Try.underlying4]
    repeat (refine And.intro (by first | omega | (intros; omega) | (intros; simp_all; done) | (intros; simp_all; omega)) ?_)
    refine k _ ?_; clear k K
    -- 36 := move t35
    refine v_op ?_; intro K k
    simp only [zE, aStepM, optable, set_some, Nat.reduceEqDiff, reduceIte, Nat.reduceLT, implies_true, forall_const, reduceCtorEq, V.ofValue, V.ofScalar, V.un, V.gd, aExec, aop]
    repeat (refine And.intro (by first | omega | (intros; omega) | (intros; simp_all; done) | (intros; simp_all; omega)) ?_)
    refine k _ ?_; clear k K
    -- 37 := move t8
    first
    | refine v_pass 37 4 false rfl (show 37 < 96 by decide) rfl ?_ ?_
      · first | rfl | (simp only [zV, guardV, Nat.reduceEqDiff, reduceIte]; done)
      simp only [zW, set_some, Nat.reduceEqDiff, reduceIte]
    | skip
      -- 37 := move t8
      refine v_op ?_; intro K k
      simp only [zE, zG, aStepM, optable, set_some, Nat.reduceEqDiff, reduceIte, Nat.reduceLT, implies_true, forall_const, reduceCtorEq, V.ofValue, V.ofScalar, V.un, V.gd, guardV, V.wrap, aExec, aop]
      repeat (refine And.intro (by first | omega | (intros; omega) | (intros; simp_all; done) | (intros; simp_all; omega)) ?_)
      refine k _ ?_; clear k K
    -- 38 := move t5
    first
    | refine v_pass 38 4 false rfl (show 38 < 96 by decide) rfl ?_ ?_
      · first | rfl | (simp only [zV, guardV, Nat.reduceEqDiff, reduceIte]; done)
      simp only [zW, set_some, Nat.reduceEqDiff, reduceIte]
    | skip
      -- 38 := move t5
      refine v_op ?_; intro K k
      simp only [zE, zG, aStepM, optable, set_some, Nat.reduceEqDiff, reduceIte, Nat.reduceLT, implies_true, forall_const, reduceCtorEq, V.ofValue, V.ofScalar, V.un, V.gd, guardV, V.wrap, aExec, aop]
      repeat (refine And.intro (by first | omega | (intros; omega) | (intros; simp_all; done) | (intros; simp_all; omega)) ?_)
      refine k _ ?_; clear k K
    -- 39 := binOp Go.BinOp.neq 4 t37 t38 4
    first
    | refine v_pass 39 4 false rfl (show 39 < 96 by decide) rfl ?_ ?_
      · first | rfl | (simp only [zV, guardV, Nat.reduceEqDiff, reduceIte]; done)
      simp only [zW, set_some, Nat.reduceEqDiff, reduceIte]
    | skip
      -- 39 := binOp Go.BinOp.neq 4 t37 t38 4
      refine v_op ?_; intro K k
      simp only [zE, zG, aStepM, optable, set_some, Nat.reduceEqDiff, reduceIte, Nat.reduceLT, implies_true, forall_const, reduceCtorEq, V.ofValue, V.ofScalar, V.un, V.gd, guardV, V.wrap, aExec, aop, aBin, Try.underlying4]
      repeat (refine And.intro (by first | omega | (intros; omega) | (intros; simp_all; done) | (intros; simp_all; omega)) ?_)
      refine k _ ?_; clear k K
    -- 40 := pick t36 c<true> t39
    refine v_op ?_; intro K k
    simp only [zE, zP, aStepM, optable, set_some, Nat.reduceEqDiff, reduceIte, Nat.reduceLT, implies_true, forall_const, reduceCtorEq, V.ofValue, V.ofScalar, V.un, V.gd, aExec, aop, pickV]
    repeat (refine And.intro (by first | omega | (intros; omega) | (intros; simp_all; done) | (intros; simp_all; omega)) ?_)
    refine k _ ?_; clear k K
    refine k21 _ ?_
    refine n20 _ _ (weak_keep [0, 4, 5, 6, 7, 8, 40] _) ?_
    simp only [keep_mk, keepE_nil, keepE_cons, look_cons, look_nil, Nat.reduceEqDiff, reduceIte]
    refine v_cond _ rfl ?_ ?_  -- COND 1
    · intro hc1
      exfalso; first | (simp at hc1; done) | (simp at hc1; omega)
    · intro hc1
      try simp only [zC, reduceCtorEq] at hc1
      refine v_skip ?_
      refine n19 _ _ (weak_keep [0, 4, 5, 6, 7, 8] _) ?_
      simp only [keep_mk, keepE_nil, keepE_cons, look_cons, look_nil, Nat.reduceEqDiff, reduceIte]
      refine v_seq ?_; intro Q23 n23 e23 r23  -- SEQ 11
      refine v_seq ?_; intro Q24 n24 e24 r24  -- SEQ 12
      refine v_region ?_; intro K25 k25
      -- 41 := move t6
      refine v_op ?_; intro K k
      simp only [zE, aStepM, optable, set_some, Nat.reduceEqDiff, reduceIte, Nat.reduceLT, implies_true, forall_const, reduceCtorEq, V.ofValue, V.ofScalar, V.un, V.gd, aExec, aop]
      repeat (refine And.intro (by first | omega | (intros; omega) | (intros; simp_all; done) | (intros; simp_all; omega)) ?_)
      refine k _ ?_; clear k K
      -- 42 := move t0
      refine v_op ?_; intro K k
      simp only [zE, aStepM, optable, set_some, Nat.reduceEqDiff, reduceIte, Nat.reduceLT, implies_true, forall_const, reduceCtorEq, V.ofValue, V.ofScalar, V.un, V.gd, aExec, aop]
      repeat (refine And.intro (by first | omega | (intros; omega) | (intros; simp_all; done) | (intros; simp_all; omega)) ?_)
      refine k _ ?_; clear k K
      -- 43 := call v f17 t42 | 22
      refine v_op ?_; intro K k
      simp only [zE, zM, aStepM, optable, set_some, Nat.reduceEqDiff, reduceIte, Nat.reduceLT, implies_true, forall_const, reduceCtorEq, V.ofValue, V.ofScalar, V.un, V.gd, aExec, lentIds, lendOf, Try.underlying22, Ty.c22, Ty.a22, Ty.b22, Ty.s22, Try.underlying26, Ty.c26, Ty.a26, Ty.b26, Ty.s26, Try.underlying93, Ty.c93, Ty.a93, Ty.b93, Ty.s93, Try.underlying95, Ty.c95, Ty.a95, Ty.b95, Ty.s95]
      repeat (refine And.intro (by first | rfl | (intros; simp_all; done)) ?_)
      refine aCall_new (toTurnoutS_con l hl2) (by first | rfl | (simp only [toArgs, toArg, toCell, toCells, idx, row_mk, List.getElem?_cons_zero, List.getElem?_cons_succ, Option.bind_some, Option.map_some, Blk.row, fillK_mix, cond_true]; done) | (simp [toArgs, toArg, toCell, toCells, idx, row_mk, Blk.row, fillK_mix, Nat.beq_refl]; done)) (by first | exact .inl ⟨rfl, by simp [Blk.kindIs, fillK_fd]⟩ | exact .inr (by simp [V.cold])) ?_
      refine k _ ?_; clear k K
      simp only [zY, zW, set_some, Nat.reduceEqDiff, reduceIte, V.ren, V.renL, rho, Nat.reduceAdd]
      -- 44 := call v f19 t41 t43 | 26 26
      refine v_op ?_; intro K k
      simp only [zE, zM, aStepM, optable, set_some, Nat.reduceEqDiff, reduceIte, Nat.reduceLT, implies_true, forall_const, reduceCtorEq, V.ofValue, V.ofScalar, V.un, V.gd, aExec, lentIds, lendOf, Try.underlying4, Ty.c4, Ty.a4, Ty.b4, Ty.s4, Try.underlying26, Ty.c26, Ty.a26, Ty.b26, Ty.s26, Try.underlying95, Ty.c95, Ty.a95, Ty.b95, Ty.s95]
      repeat (refine And.intro (by first | rfl | (intros; simp_all; done)) ?_)
      refine aCall_new (eqTurnoutS_con l l hl2) (by first | rfl | (simp only [toArgs, toArg, toCell, toCells, idx, row_mk, List.getElem?_cons_zero, List.getElem?_cons_succ, Option.bind_some, Option.map_some, Blk.row, fillK_mix, cond_true]; done) | (simp [toArgs, toArg, toCell, toCells, idx, row_mk, Blk.row, fillK_mix, Nat.beq_refl]; done)) (by first | exact .inl ⟨rfl, by simp [Blk.kindIs, fillK_fd]⟩ | exact .inr (by simp [V.cold])) ?_
      refine k _ ?_; clear k K
      simp only [zY, zW, set_some, Nat.reduceEqDiff, reduceIte, V.ren, V.renL, rho, Nat.reduceAdd]
      -- 45 := unOp Go.UnOp.not 4 t44
      refine v_op ?_; intro K k
      simp only [zE, aStepM, optable, set_some, Nat.reduceEqDiff, reduceIte, Nat.reduceLT, implies_true, forall_const, reduceCtorEq, V.ofValue, V.ofScalar, V.un, V.gd, aExec, aop, aUn, Try.underlying4]
      repeat (refine And.intro (by first | omega | (intros; omega) | (intros; simp_all; done) | (intros; simp_all; omega)) ?_)
      refine k _ ?_; clear k K
      refine k25 _ ?_
      refine n24 _ _ (weak_keep [0, 4, 5, 6, 7, 8, 45] _) ?_
      simp only [keep_mk, keepE_nil, keepE_cons, look_cons, look_nil, Nat.reduceEqDiff, reduceIte]
      refine v_cond _ rfl ?_ ?_  -- COND 2
      · intro hc2
        exfalso; first | (simp at hc2; done) | (simp at hc2; omega)
      · intro hc2
        try simp only [zC, reduceCtorEq] at hc2
        refine v_skip ?_
        refine n23 _ _ (weak_keep [0, 4, 5, 6, 7, 8] _) ?_
        simp only [keep_mk, keepE_nil, keepE_cons, look_cons, look_nil, Nat.reduceEqDiff, reduceIte]
        refine v_seq ?_; intro Q27 n27 e27 r27  -- SEQ 13
        refine v_region ?_; intro K28 k28
        -- 9 := assign c<1:i64>
        refine v_op ?_; intro K k
        simp only [zE, zS, aStepM, optable, set_some, Nat.reduceEqDiff, reduceIte, Nat.reduceLT, implies_true, forall_const, reduceCtorEq, V.ofValue, V.ofScalar, V.un, V.gd, aExec, aop, Nat.reduceAdd]
        repeat (refine And.intro (by first | omega | (intros; omega) | (intros; simp_all; done) | (intros; simp_all; omega)) ?_)
        refine k _ ?_; clear k K
        refine k28 _ ?_
        refine n27 _ _ (weak_keep [0, 4, 5, 6, 7, 8, 9] _) ?_
        simp only [keep_mk, keepE_nil, keepE_cons, look_cons, look_nil, Nat.reduceEqDiff, reduceIte]
        refine v_seq ?_; intro Q29 n29 e29 r29  -- SEQ 14
        refine v_region ?_; intro K30 k30
        -- 46 := move t6
        refine v_op ?_; intro K k
        simp only [zE, aStepM, optable, set_some, Nat.reduceEqDiff, reduceIte, Nat.reduceLT, implies_true, forall_const, reduceCtorEq, V.ofValue, V.ofScalar, V.un, V.gd, aExec, aop]
        repeat (refine And.intro (by first | omega | (intros; omega) | (intros; simp_all; done) | (intros; simp_all; omega)) ?_)
        refine k _ ?_; clear k K
        -- 47 := move t9
        refine v_op ?_; intro K k
        simp only [zE, aStepM, optable, set_some, Nat.reduceEqDiff, reduceIte, Nat.reduceLT, implies_true, forall_const, reduceCtorEq, V.ofValue, V.ofScalar, V.un, V.gd, aExec, aop]
        repeat (refine And.intro (by first | omega | (intros; omega) | (intros; simp_all; done) | (intros; simp_all; omega)) ?_)
        refine k _ ?_; clear k K
        -- 48 := call v f35 t46 t47 | 26 3
        refine v_op ?_; intro K k
        simp only [zE, zM, aStepM, optable, set_some, Nat.reduceEqDiff, reduceIte, Nat.reduceLT, implies_true, forall_const, reduceCtorEq, V.ofValue, V.ofScalar, V.un, V.gd, aExec, lentIds, lendOf, Try.underlying3, Ty.c3, Ty.a3, Ty.b3, Ty.s3, Try.underlying26, Ty.c26, Ty.a26, Ty.b26, Ty.s26, Try.underlying95, Ty.c95, Ty.a95, Ty.b95, Ty.s95]
        repeat (refine And.intro (by first | rfl | (intros; simp_all; done)) ?_)
        refine aCall_lent _ (markTurnoutS_con l 1 hl2 (by omega)) (by first | rfl | (simp only [toArgs, toArg, toCell, toCells, idx, row_mk, List.getElem?_cons_zero, List.getElem?_cons_succ, Option.bind_some, Option.map_some, Blk.row, fillK_mix, cond_true]; done) | (simp [toArgs, toArg, toCell, toCells, idx, row_mk, Blk.row, fillK_mix, Nat.beq_refl]; done)) rfl ⟨by simp [Blk.kindIs, fillK_mix], by simp⟩ (by first | exact .inl rfl | exact .inr (by simp [Blk.kindIs])) ⟨rfl, by simp [Blk.kindIs, fillK_fd]⟩ ?_
        refine k _ ?_; clear k K
        simp only [zY, zW, set_some, Nat.reduceEqDiff, reduceIte, V.ren, V.renL, List.set_cons_zero, List.set_cons_succ, Nat.reduceAdd]
        -- 9 := assign t48
        refine v_op ?_; intro K k
        simp only [zE, zS, aStepM, optable, set_some, Nat.reduceEqDiff, reduceIte, Nat.reduceLT, implies_true, forall_const, reduceCtorEq, V.ofValue, V.ofScalar, V.un, V.gd, aExec, aop, Nat.reduceAdd]
        repeat (refine And.intro (by first | omega | (intros; omega) | (intros; simp_all; done) | (intros; simp_all; omega)) ?_)
        refine k _ ?_; clear k K
        refine k30 _ ?_
        refine n29 _ _ (weak_keep [0, 4, 5, 7, 8, 9] _) ?_
        simp only [keep_mk, keepE_nil, keepE_cons, look_cons, look_nil, Nat.reduceEqDiff, reduceIte]
        refine v_seq ?_; intro Q31 n31 e31 r31  -- SEQ 15
        refine v_seq ?_; intro Q32 n32 e32 r32  -- SEQ 16
        refine v_region ?_; intro K33 k33
        -- 49 := move t9
        refine v_op ?_; intro K k
        simp only [zE, aStepM, optable, set_some, Nat.reduceEqDiff, reduceIte, Nat.reduceLT, implies_true, forall_const, reduceCtorEq, V.ofValue, V.ofScalar, V.un, V.gd, aExec, aop]
        repeat (refine And.intro (by first | omega | (intros; omega) | (intros; simp_all; done) | (intros; simp_all; omega)) ?_)
        refine k _ ?_; clear k K
        -- 50 := binOp Go.BinOp.lss 3 t49 c<0:i64> 3
        refine v_op ?_; intro K k
        simp only [zE, aStepM, optable, set_some, Nat.reduceEqDiff, reduceIte, Nat.reduceLT, implies_true, forall_const, reduceCtorEq, V.ofValue, V.ofScalar, V.un, V.gd, aExec, aop, aBin, Try.underlying3]
        repeat (refine And.intro (by first | omega | (intros; omega) | (intros; simp_all; done) | (intros; simp_all; omega)) ?_)
        refine k _ ?_; clear k K
        -- 51 := move t50
        refine v_op ?_; intro K k
        simp only [zE, aStepM, optable, set_some, Nat.reduceEqDiff, reduceIte, Nat.reduceLT, implies_true, forall_const, reduceCtorEq, V.ofValue, V.ofScalar, V.un, V.gd, aExec, aop]
        repeat (refine And.intro (by first | omega | (intros; omega) | (intros; simp_all; done) | (intros; simp_all; omega)) ?_)
        refine k _ ?_; clear k K
        -- 52 := move t7
        first
        | refine v_pass 52 2 false rfl (show 52 < 96 by decide) rfl ?_ ?_
          · first | rfl | (simp only [zV, guardV, Nat.reduceEqDiff, reduceIte]; done)
          simp only [zW, set_some, Nat.reduceEqDiff, reduceIte]
        | skip
          -- 52 := move t7
          refine v_op ?_; intro K k
          simp only [zE, zG, aStepM, optable, set_some, Nat.reduceEqDiff, reduceIte, Nat.reduceLT, implies_true, forall_const, reduceCtorEq, V.ofValue, V.ofScalar, V.un, V.gd, guardV, V.wrap, aExec, aop]
          repeat (refine And.intro (by first | omega | (intros; omega) | (intros; simp_all; done) | (intros; simp_all; omega)) ?_)
          refine k _ ?_; clear k K
        -- 53 := move t4
        first
        | refine v_pass 53 2 false rfl (show 53 < 96 by decide) rfl ?_ ?_
          · first | rfl | (simp only [zV, guardV, Nat.reduceEqDiff, reduceIte]; done)
          simp only [zW, set_some, Nat.reduceEqDiff, reduceIte]
        | skip
          -- 53 := move t4
          refine v_op ?_; intro K k
          simp only [zE, zG, aStepM, optable, set_some, Nat.reduceEqDiff, reduceIte, Nat.reduceLT, implies_true, forall_const, reduceCtorEq, V.ofValue, V.ofScalar, V.un, V.gd, guardV, V.wrap, aExec, aop]
          repeat (refine And.intro (by first | omega | (intros; omega) | (intros; simp_all; done) | (intros; simp_all; omega)) ?_)
          refine k _ ?_; clear k K
        -- 54 := call v f27 t52 t53 | 32 32
        first
        | refine v_pass 54 2 false rfl (show 54 < 96 by decide) rfl ?_ ?_
          · first | rfl | (simp only [zV, guardV, Nat.reduceEqDiff, reduceIte]; done)
          simp only [zW, set_some, Nat.reduceEqDiff, reduceIte]
        | skip
          -- 54 := call v f27 t52 t53 | 32 32
          refine v_op ?_; intro K k
          simp only [zE, zG, aStepM, optable, set_some, Nat.reduceEqDiff, reduceIte, Nat.reduceLT, implies_true, forall_const, reduceCtorEq, V.ofValue, V.ofScalar, V.un, V.gd, guardV, Try.underlying4, Ty.c4, Ty.a4, Ty.b4, Ty.s4, Try.underlying32, Ty.c32, Ty.a32, Ty.b32, Ty.s32, Try.underlying47, Ty.c47, Ty.a47, Ty.b47, Ty.s47]
          simp only [zM, zW, aExec, lentIds, lendOf, set_some, Nat.reduceEqDiff, reduceIte, V.ofValue, V.ofScalar, V.un, V.gd, and_true, true_and, implies_true, and_self, decide_eq_true_eq]
          first | refine Exists.imp (fun r h => h) (aCall_guardT (eqIntSS_con (busyR l) (busyR l) hT1 hT2) (by first | rfl | (simp only [toArgs, toArg, toCell, toCells, idx, row_mk, List.getElem?_cons_zero, List.getElem?_cons_succ, Option.bind_some, Option.map_some, Blk.row, fillK_mix, cond_true]; done) | (simp [toArgs, toArg, toCell, toCells, idx, row_mk, Blk.row, fillK_mix, Nat.beq_refl]; done)) rfl rfl ?_) | refine Exists.imp (fun r h => h) (aCall_guard (by first | (intros; trivial) | (intros; simp_all; done)) (fun hg => eqIntSS_con (busyR l) (busyR l) hT1 hT2) (by first | rfl | (simp only [toArgs, toArg, toCell, toCells, idx, row_mk, List.getElem?_cons_zero, List.getElem?_cons_succ, Option.bind_some, Option.map_some, Blk.row, fillK_mix, cond_true]; done) | (simp [toArgs, toArg, toCell, toCells, idx, row_mk, Blk.row, fillK_mix, Nat.beq_refl]; done)) rfl rfl ?_)
          refine k _ ?_
          clear k K
        -- 55 := unOp Go.UnOp.not 4 t54
        first
        | refine v_pass 55 2 false rfl (show 55 < 96 by decide) rfl ?_ ?_
          · first | rfl | (simp only [zV, guardV, Nat.reduceEqDiff, reduceIte]; done)
          simp only [zW, set_some, Nat.reduceEqDiff, reduceIte]
        | skip
          -- 55 := unOp Go.UnOp.not 4 t54
          refine v_op ?_; intro K k
          simp only [zE, zG, aStepM, optable, set_some, Nat.reduceEqDiff, reduceIte, Nat.reduceLT, implies_true, forall_const, reduceCtorEq, V.ofValue, V.ofScalar, V.un, V.gd, guardV, V.wrap, aExec, aop, aUn, Try.underlying4]
          repeat (refine And.intro (by first | omega | (intros; omega) | (intros; simp_all; done) | (intros; simp_all; omega)) ?_)
          refine k _ ?_; clear k K
        -- 56 := pick t51 c<true> t55
        refine v_op ?_; intro K k
        simp only [zE, zP, aStepM, optable, set_some, Nat.reduceEqDiff, reduceIte, Nat.reduceLT, implies_true, forall_const, reduceCtorEq, V.ofValue, V.ofScalar, V.un, V.gd, aExec, aop, pickV]
        repeat (refine And.intro (by first | omega | (intros; omega) | (intros; simp_all; done) | (intros; simp_all; omega)) ?_)
        refine k _ ?_; clear k K
        -- 57 := move t56
        refine v_op ?_; intro K k
        simp only [zE, aStepM, optable, set_some, Nat.reduceEqDiff, reduceIte, Nat.reduceLT, implies_true, forall_const, reduceCtorEq, V.ofValue, V.ofScalar, V.un, V.gd, aExec, aop]
        repeat (refine And.intro (by first | omega | (intros; omega) | (intros; simp_all; done) | (intros; simp_all; omega)) ?_)
        refine k _ ?_; clear k K
        -- 58 := move t8
        first
        | refine v_pass 58 8 false rfl (show 58 < 96 by decide) rfl ?_ ?_
          · first | rfl | (simp only [zV, guardV, Nat.reduceEqDiff, reduceIte]; done)
          simp only [zW, set_some, Nat.reduceEqDiff, reduceIte]
        | skip
          -- 58 := move t8
          refine v_op ?_; intro K k
          simp only [zE, zG, aStepM, optable, set_some, Nat.reduceEqDiff, reduceIte, Nat.reduceLT, implies_true, forall_const, reduceCtorEq, V.ofValue, V.ofScalar, V.un, V.gd, guardV, V.wrap, aExec, aop]
          repeat (refine And.intro (by first | omega | (intros; omega) | (intros; simp_all; done) | (intros; simp_all; omega)) ?_)
          refine k _ ?_; clear k K
        -- 59 := move t5
        first
        | refine v_pass 59 8 false rfl (show 59 < 96 by decide) rfl ?_ ?_
          · first | rfl | (simp only [zV, guardV, Nat.reduceEqDiff, reduceIte]; done)
          simp only [zW, set_some, Nat.reduceEqDiff, reduceIte]
        | skip
          -- 59 := move t5
          refine v_op ?_; intro K k
          simp only [zE, zG, aStepM, optable, set_some, Nat.reduceEqDiff, reduceIte, Nat.reduceLT, implies_true, forall_const, reduceCtorEq, V.ofValue, V.ofScalar, V.un, V.gd, guardV, V.wrap, aExec, aop]
          repeat (refine And.intro (by first | omega | (intros; omega) | (intros; simp_all; done) | (intros; simp_all; omega)) ?_)
          refine k _ ?_; clear k K
        -- 60 := binOp Go.BinOp.neq 4 t58 t59 4
        first
        | refine v_pass 60 8 false rfl (show 60 < 96 by decide) rfl ?_ ?_
          · first | rfl | (simp only [zV, guardV, Nat.reduceEqDiff, reduceIte]; done)
          simp only [zW, set_some, Nat.reduceEqDiff, reduceIte]
        | skip
          -- 60 := binOp Go.BinOp.neq 4 t58 t59 4
          refine v_op ?_; intro K k
          simp only [zE, zG, aStepM, optable, set_some, Nat.reduceEqDiff, reduceIte, Nat.reduceLT, implies_true, forall_const, reduceCtorEq, V.ofValue, V.ofScalar, V.un, V.gd, guardV, V.wrap, aExec, aop, aBin, Try.underlying4]
          repeat (refine And.intro (by first | omega | (intros; omega) | (intros; simp_all; done) | (intros; simp_all; omega)) ?_)
          refine k _ ?_; clear k K
        -- 61 := pick t57 c<true> t60
        refine v_op ?_; intro K k
        simp only [zE, zP, aStepM, optable, set_some, Nat.reduceEqDiff, reduceIte, Nat.reduceLT, implies_true, forall_const, reduceCtorEq, V.ofValue, V.ofScalar, V.un, V.gd, aExec, aop, pickV]
        repeat (refine And.intro (by first | omega | (intros; omega) | (intros; simp_all; done) | (intros; simp_all; omega)) ?_)
        refine k _ ?_; clear k K
        refine k33 _ ?_
        refine n32 _ _ (weak_keep [0, 4, 5, 7, 61] _) ?_
        simp only [keep_mk, keepE_nil, keepE_cons, look_cons, look_nil, Nat.reduceEqDiff, reduceIte]
        refine v_cond _ rfl ?_ ?_  -- COND 3
        · intro hc3
          exfalso; first | (simp at hc3; done) | (simp at hc3; omega)
        · intro hc3
          try simp only [zC, reduceCtorEq] at hc3
          refine v_skip ?_
          refine n31 _ _ (weak_keep [0, 4, 5, 7] _) ?_
          simp only [keep_mk, keepE_nil, keepE_cons, look_cons, look_nil, Nat.reduceEqDiff, reduceIte]
          refine v_seq ?_; intro Q35 n35 e35 r35  -- SEQ 17
          refine v_region ?_; intro K36 k36
          -- 10 := assign c<1:i64>
          refine v_op ?_; intro K k
          simp only [zE, zS, aStepM, optable, set_some, Nat.reduceEqDiff, reduceIte, Nat.reduceLT, implies_true, forall_const, reduceCtorEq, V.ofValue, V.ofScalar, V.un, V.gd, aExec, aop, Nat.reduceAdd]
          repeat (refine And.intro (by first | omega | (intros; omega) | (intros; simp_all; done) | (intros; simp_all; omega)) ?_)
          refine k _ ?_; clear k K
          refine k36 _ ?_
          refine n35 _ _ (weak_keep [0, 4, 5, 7, 10] _) ?_
          simp only [keep_mk, keepE_nil, keepE_cons, look_cons, look_nil, Nat.reduceEqDiff, reduceIte]
          refine v_seq ?_; intro Q37 n37 e37 r37  -- SEQ 18
          refine v_region ?_; intro K38 k38
          -- 62 := move t7
          refine v_op ?_; intro K k
          simp only [zE, aStepM, optable, set_some, Nat.reduceEqDiff, reduceIte, Nat.reduceLT, implies_true, forall_const, reduceCtorEq, V.ofValue, V.ofScalar, V.un, V.gd, aExec, aop]
          repeat (refine And.intro (by first | omega | (intros; omega) | (intros; simp_all; done) | (intros; simp_all; omega)) ?_)
          refine k _ ?_; clear k K
          -- 63 := move t10
          refine v_op ?_; intro K k
          simp only [zE, aStepM, optable, set_some, Nat.reduceEqDiff, reduceIte, Nat.reduceLT, implies_true, forall_const, reduceCtorEq, V.ofValue, V.ofScalar, V.un, V.gd, aExec, aop]
          repeat (refine And.intro (by first | omega | (intros; omega) | (intros; simp_all; done) | (intros; simp_all; omega)) ?_)
          refine k _ ?_; clear k K
          -- 64 := call v f50 t62 t63 | 32 3
          refine v_op ?_; intro K k
          simp only [zE, zM, aStepM, optable, set_some, Nat.reduceEqDiff, reduceIte, Nat.reduceLT, implies_true, forall_const, reduceCtorEq, V.ofValue, V.ofScalar, V.un, V.gd, aExec, lentIds, lendOf, Try.underlying3, Ty.c3, Ty.a3, Ty.b3, Ty.s3, Try.underlying32, Ty.c32, Ty.a32, Ty.b32, Ty.s32, Try.underlying47, Ty.c47, Ty.a47, Ty.b47, Ty.s47]
          repeat (refine And.intro (by first | rfl | (intros; simp_all; done)) ?_)
          refine aCall_lent _ (markIntSS_con (busyR l) 1 (fillK (busyR l).length) (fillK_or _) hT1 hT2 ⟨by omega, by omega⟩) (by first | rfl | (simp only [toArgs, toArg, toCell, toCells, idx, row_mk, List.getElem?_cons_zero, List.getElem?_cons_succ, Option.bind_some, Option.map_some, Blk.row, fillK_mix, cond_true]; done) | (simp [toArgs, toArg, toCell, toCells, idx, row_mk, Blk.row, fillK_mix, Nat.beq_refl]; done)) rfl ⟨by simp [Blk.kindIs, fillK_mix], by simp⟩ (by first | exact .inl rfl | exact .inr (by simp [Blk.kindIs])) ⟨rfl, by simp [Blk.kindIs, fillK_fd]⟩ ?_
          refine k _ ?_; clear k K
          simp only [zY, zW, set_some, Nat.reduceEqDiff, reduceIte, V.ren, V.renL, List.set_cons_zero, List.set_cons_succ, Nat.reduceAdd]
          -- 10 := assign t64
          refine v_op ?_; intro K k
          simp only [zE, zS, aStepM, optable, set_some, Nat.reduceEqDiff, reduceIte, Nat.reduceLT, implies_true, forall_const, reduceCtorEq, V.ofValue, V.ofScalar, V.un, V.gd, aExec, aop, Nat.reduceAdd]
          repeat (refine And.intro (by first | omega | (intros; omega) | (intros; simp_all; done) | (intros; simp_all; omega)) ?_)
          refine k _ ?_; clear k K
          refine k38 _ ?_
          refine n37 _ _ (weak_keep [0, 4, 5, 7, 10] _) ?_
          simp only [keep_mk, keepE_nil, keepE_cons, look_cons, look_nil, Nat.reduceEqDiff, reduceIte]
          refine v_seq ?_; intro Q39 n39 e39 r39  -- SEQ 19
          refine v_region ?_; intro K40 k40
          -- 11 := assign c<1:i64>
          refine v_op ?_; intro K k
          simp only [zE, zS, aStepM, optable, set_some, Nat.reduceEqDiff, reduceIte, Nat.reduceLT, implies_true, forall_const, reduceCtorEq, V.ofValue, V.ofScalar, V.un, V.gd, aExec, aop, Nat.reduceAdd]
          repeat (refine And.intro (by first | omega | (intros; omega) | (intros; simp_all; done) | (intros; simp_all; omega)) ?_)
          refine k _ ?_; clear k K
          refine k40 _ ?_
          refine n39 _ _ (weak_keep [0, 4, 5, 7, 10, 11] _) ?_
          simp only [keep_mk, keepE_nil, keepE_cons, look_cons, look_nil, Nat.reduceEqDiff, reduceIte]
          refine v_seq ?_; intro Q41 n41 e41 r41  -- SEQ 20
          refine v_region ?_; intro K42 k42
          -- 65 := move t7
          refine v_op ?_; intro K k
          simp only [zE, aStepM, optable, set_some, Nat.reduceEqDiff, reduceIte, Nat.reduceLT, implies_true, forall_const, reduceCtorEq, V.ofValue, V.ofScalar, V.un, V.gd, aExec, aop]
          repeat (refine And.intro (by first | omega | (intros; omega) | (intros; simp_all; done) | (intros; simp_all; omega)) ?_)
          refine k _ ?_; clear k K
          -- 66 := move t11
          refine v_op ?_; intro K k
          simp only [zE, aStepM, optable, set_some, Nat.reduceEqDiff, reduceIte, Nat.reduceLT, implies_true, forall_const, reduceCtorEq, V.ofValue, V.ofScalar, V.un, V.gd, aExec, aop]
          repeat (refine And.intro (by first | omega | (intros; omega) | (intros; simp_all; done) | (intros; simp_all; omega)) ?_)
          refine k _ ?_; clear k K
          -- 67 := call v f51 t65 t66 | 32 3
          refine v_op ?_; intro K k
          simp only [zE, zM, aStepM, optable, set_some, Nat.reduceEqDiff, reduceIte, Nat.reduceLT, implies_true, forall_const, reduceCtorEq, V.ofValue, V.ofScalar, V.un, V.gd, aExec, lentIds, lendOf, Try.underlying3, Ty.c3, Ty.a3, Ty.b3, Ty.s3, Try.underlying32, Ty.c32, Ty.a32, Ty.b32, Ty.s32, Try.underlying47, Ty.c47, Ty.a47, Ty.b47, Ty.s47]
          repeat (refine And.intro (by first | rfl | (intros; simp_all; done)) ?_)
          refine aCall_new (heldIntSS_con (busyR l) 1 hT1 hT2 ⟨by omega, by omega⟩) (by first | rfl | (simp only [toArgs, toArg, toCell, toCells, idx, row_mk, List.getElem?_cons_zero, List.getElem?_cons_succ, Option.bind_some, Option.map_some, Blk.row, fillK_mix, cond_true]; done) | (simp [toArgs, toArg, toCell, toCells, idx, row_mk, Blk.row, fillK_mix, Nat.beq_refl]; done)) (by first | exact .inl ⟨rfl, by simp [Blk.kindIs, fillK_fd]⟩ | exact .inr (by simp [V.cold])) ?_
          refine k _ ?_; clear k K
          simp only [zY, zW, set_some, Nat.reduceEqDiff, reduceIte, V.ren, V.renL, rho, Nat.reduceAdd]
          -- 11 := assign t67
          refine v_op ?_; intro K k
          simp only [zE, zS, aStepM, optable, set_some, Nat.reduceEqDiff, reduceIte, Nat.reduceLT, implies_true, forall_const, reduceCtorEq, V.ofValue, V.ofScalar, V.un, V.gd, aExec, aop, Nat.reduceAdd]
          repeat (refine And.intro (by first | omega | (intros; omega) | (intros; simp_all; done) | (intros; simp_all; omega)) ?_)
          refine k _ ?_; clear k K
          refine k42 _ ?_
          refine n41 _ _ (weak_keep [0, 4, 5, 7, 10, 11] _) ?_
          simp only [keep_mk, keepE_nil, keepE_cons, look_cons, look_nil, Nat.reduceEqDiff, reduceIte]
          refine v_seq ?_; intro Q43 n43 e43 r43  -- SEQ 21
          refine v_seq ?_; intro Q44 n44 e44 r44  -- SEQ 22
          refine v_region ?_; intro K45 k45
          -- 68 := move t11
          refine v_op ?_; intro K k
          simp only [zE, aStepM, optable, set_some, Nat.reduceEqDiff, reduceIte, Nat.reduceLT, implies_true, forall_const, reduceCtorEq, V.ofValue, V.ofScalar, V.un, V.gd, aExec, aop]
          repeat (refine And.intro (by first | omega | (intros; omega) | (intros; simp_all; done) | (intros; simp_all; omega)) ?_)
          refine k _ ?_; clear k K
          -- 69 := binOp Go.BinOp.lss 3 t68 c<0:i64> 3
          refine v_op ?_; intro K k
          simp only [zE, aStepM, optable, set_some, Nat.reduceEqDiff, reduceIte, Nat.reduceLT, implies_true, forall_const, reduceCtorEq, V.ofValue, V.ofScalar, V.un, V.gd, aExec, aop, aBin, Try.underlying3]
          repeat (refine And.intro (by first | omega | (intros; omega) | (intros; simp_all; done) | (intros; simp_all; omega)) ?_)
          refine k _ ?_; clear k K
          refine k45 _ ?_
          refine n44 _ _ (weak_keep [0, 4, 5, 7, 10, 11, 69] _) ?_
          simp only [keep_mk, keepE_nil, keepE_cons, look_cons, look_nil, Nat.reduceEqDiff, reduceIte]
          refine v_cond _ rfl ?_ ?_  -- COND 4
          · intro hc4
            exfalso; first | (simp at hc4; done) | (simp at hc4; omega)
          · intro hc4
            try simp only [zC, reduceCtorEq] at hc4
            refine v_skip ?_
            refine n43 _ _ (weak_keep [0, 4, 5, 7, 10, 11] _) ?_
            simp only [keep_mk, keepE_nil, keepE_cons, look_cons, look_nil, Nat.reduceEqDiff, reduceIte]
            refine v_seq ?_; intro Q47 n47 e47 r47  -- SEQ 23
            refine v_seq ?_; intro Q48 n48 e48 r48  -- SEQ 24
            refine v_region ?_; intro K49 k49
            -- 70 := move t11
            refine v_op ?_; intro K k
            simp only [zE, aStepM, optable, set_some, Nat.reduceEqDiff, reduceIte, Nat.reduceLT, implies_true, forall_const, reduceCtorEq, V.ofValue, V.ofScalar, V.un, V.gd, aExec, aop]
            repeat (refine And.intro (by first | omega | (intros; omega) | (intros; simp_all; done) | (intros; simp_all; omega)) ?_)
            refine k _ ?_; clear k K
            -- 71 := move t10
            refine v_op ?_; intro K k
            simp only [zE, aStepM, optable, set_some, Nat.reduceEqDiff, reduceIte, Nat.reduceLT, implies_true, forall_const, reduceCtorEq, V.ofValue, V.ofScalar, V.un, V.gd, aExec, aop]
            repeat (refine And.intro (by first | omega | (intros; omega) | (intros; simp_all; done) | (intros; simp_all; omega)) ?_)
            refine k _ ?_; clear k K
            -- 72 := binOp Go.BinOp.neq 3 t70 t71 3
            refine v_op ?_; intro K k
            simp only [zE, aStepM, optable, set_some, Nat.reduceEqDiff, reduceIte, Nat.reduceLT, implies_true, forall_const, reduceCtorEq, V.ofValue, V.ofScalar, V.un, V.gd, aExec, aop, aBin, Try.underlying3]
            repeat (refine And.intro (by first | omega | (intros; omega) | (intros; simp_all; done) | (intros; simp_all; omega)) ?_)
            refine k _ ?_; clear k K
            refine k49 _ ?_
            refine n48 _ _ (weak_keep [0, 4, 5, 7, 10, 72] _) ?_
            simp only [keep_mk, keepE_nil, keepE_cons, look_cons, look_nil, Nat.reduceEqDiff, reduceIte]
            refine v_cond _ rfl ?_ ?_  -- COND 5
            · intro hc5
              exfalso; first | (simp at hc5; done) | (simp at hc5; omega)
            · intro hc5
              try simp only [zC, reduceCtorEq] at hc5
              refine v_skip ?_
              refine n47 _ _ (weak_keep [0, 4, 5, 7, 10] _) ?_
              simp only [keep_mk, keepE_nil, keepE_cons, look_cons, look_nil, Nat.reduceEqDiff, reduceIte]
              refine v_seq ?_; intro Q51 n51 e51 r51  -- SEQ 25
              refine v_region ?_; intro K52 k52
              -- 74 := move t0
              refine v_op ?_; intro K k
              simp only [zE, aStepM, optable, set_some, Nat.reduceEqDiff, reduceIte, Nat.reduceLT, implies_true, forall_const, reduceCtorEq, V.ofValue, V.ofScalar, V.un, V.gd, aExec, aop]
              repeat (refine And.intro (by first | omega | (intros; omega) | (intros; simp_all; done) | (intros; simp_all; omega)) ?_)
              refine k _ ?_; clear k K
              -- 75 := call v f17 t74 | 22
              refine v_op ?_; intro K k
              simp only [zE, zM, aStepM, optable, set_some, Nat.reduceEqDiff, reduceIte, Nat.reduceLT, implies_true, forall_const, reduceCtorEq, V.ofValue, V.ofScalar, V.un, V.gd, aExec, lentIds, lendOf, Try.underlying22, Ty.c22, Ty.a22, Ty.b22, Ty.s22, Try.underlying26, Ty.c26, Ty.a26, Ty.b26, Ty.s26, Try.underlying93, Ty.c93, Ty.a93, Ty.b93, Ty.s93, Try.underlying95, Ty.c95, Ty.a95, Ty.b95, Ty.s95]
              repeat (refine And.intro (by first | rfl | (intros; simp_all; done)) ?_)
              refine aCall_new (toTurnoutS_con l hl2) (by first | rfl | (simp only [toArgs, toArg, toCell, toCells, idx, row_mk, List.getElem?_cons_zero, List.getElem?_cons_succ, Option.bind_some, Option.map_some, Blk.row, fillK_mix, cond_true]; done) | (simp [toArgs, toArg, toCell, toCells, idx, row_mk, Blk.row, fillK_mix, Nat.beq_refl]; done)) (by first | exact .inl ⟨rfl, by simp [Blk.kindIs, fillK_fd]⟩ | exact .inr (by simp [V.cold])) ?_
              refine k _ ?_; clear k K
              simp only [zY, zW, set_some, Nat.reduceEqDiff, reduceIte, V.ren, V.renL, rho, Nat.reduceAdd]
              -- 76 := call v f49 t75 | 26
              refine v_op ?_; intro K k
              simp only [zE, zM, aStepM, optable, set_some, Nat.reduceEqDiff, reduceIte, Nat.reduceLT, implies_true, forall_const, reduceCtorEq, V.ofValue, V.ofScalar, V.un, V.gd, aExec, lentIds, lendOf, Try.underlying26, Ty.c26, Ty.a26, Ty.b26, Ty.s26, Try.underlying95, Ty.c95, Ty.a95, Ty.b95, Ty.s95]
              repeat (refine And.intro (by first | rfl | (intros; simp_all; done)) ?_)
              refine aCall_new (implBusy_con l hl2 hls) (by first | rfl | (simp only [toArgs, toArg, toCell, toCells, idx, row_mk, List.getElem?_cons_zero, List.getElem?_cons_succ, Option.bind_some, Option.map_some, Blk.row, fillK_mix, cond_true]; done) | (simp [toArgs, toArg, toCell, toCells, idx, row_mk, Blk.row, fillK_mix, Nat.beq_refl]; done)) (by first | exact .inl ⟨rfl, by simp [Blk.kindIs, fillK_fd]⟩ | exact .inr (by simp [V.cold])) ?_
              refine k _ ?_; clear k K
              simp only [zY, zW, set_some, Nat.reduceEqDiff, reduceIte, V.ren, V.renL, rho, Nat.reduceAdd]
              -- 73 := move t76
              refine v_op ?_; intro K k
              simp only [zE, aStepM, optable, set_some, Nat.reduceEqDiff, reduceIte, Nat.reduceLT, implies_true, forall_const, reduceCtorEq, V.ofValue, V.ofScalar, V.un, V.gd, aExec, aop]
              repeat (refine And.intro (by first | omega | (intros; omega) | (intros; simp_all; done) | (intros; simp_all; omega)) ?_)
              refine k _ ?_; clear k K
              -- 77 := extract t73 0
              refine v_op ?_; intro K k
              simp only [zE, zL, zN, aStepM, optable, set_some, Nat.reduceEqDiff, reduceIte, Nat.reduceLT, implies_true, forall_const, reduceCtorEq, V.ofValue, V.ofScalar, V.un, V.gd, aExec, aop, aExtract, Nat.reduceAdd, Nat.reduceLeDiff, Nat.reduceMul]
              repeat (refine And.intro (by first | omega | (intros; omega) | (intros; simp_all; done) | (intros; simp_all; omega)) ?_)
              refine k _ ?_; clear k K
              -- 78 := extract t73 1
              refine v_op ?_; intro K k
              simp only [zE, zL, zN, aStepM, optable, set_some, Nat.reduceEqDiff, reduceIte, Nat.reduceLT, implies_true, forall_const, reduceCtorEq, V.ofValue, V.ofScalar, V.un, V.gd, aExec, aop, aExtract, Nat.reduceAdd, Nat.reduceLeDiff, Nat.reduceMul]
              repeat (refine And.intro (by first | omega | (intros; omega) | (intros; simp_all; done) | (intros; simp_all; omega)) ?_)
              refine k _ ?_; clear k K
              -- 12 := assign t77
              refine v_op ?_; intro K k
              simp only [zE, zS, aStepM, optable, set_some, Nat.reduceEqDiff, reduceIte, Nat.reduceLT, implies_true, forall_const, reduceCtorEq, V.ofValue, V.ofScalar, V.un, V.gd, aExec, aop, Nat.reduceAdd]
              repeat (refine And.intro (by first | omega | (intros; omega) | (intros; simp_all; done) | (intros; simp_all; omega)) ?_)
              refine k _ ?_; clear k K
              -- 13 := assign t78
              refine v_op ?_; intro K k
              simp only [zE, zS, aStepM, optable, set_some, Nat.reduceEqDiff, reduceIte, Nat.reduceLT, implies_true, forall_const, reduceCtorEq, V.ofValue, V.ofScalar, V.un, V.gd, aExec, aop, Nat.reduceAdd]
              repeat (refine And.intro (by first | omega | (intros; omega) | (intros; simp_all; done) | (intros; simp_all; omega)) ?_)
              refine k _ ?_; clear k K
              refine k52 _ ?_
              refine n51 _ _ (weak_keep [4, 5, 7, 10, 12, 13] _) ?_
              simp only [keep_mk, keepE_nil, keepE_cons, look_cons, look_nil, Nat.reduceEqDiff, reduceIte]
              refine v_seq ?_; intro Q53 n53 e53 r53  -- SEQ 26
              refine v_seq ?_; intro Q54 n54 e54 r54  -- SEQ 27
              refine v_region ?_; intro K55 k55
              -- 79 := move t12
              refine v_op ?_; intro K k
              simp only [zE, aStepM, optable, set_some, Nat.reduceEqDiff, reduceIte, Nat.reduceLT, implies_true, forall_const, reduceCtorEq, V.ofValue, V.ofScalar, V.un, V.gd, aExec, aop]
              repeat (refine And.intro (by first | omega | (intros; omega) | (intros; simp_all; done) | (intros; simp_all; omega)) ?_)
              refine k _ ?_; clear k K
              -- 80 := move t4
              refine v_op ?_; intro K k
              simp only [zE, aStepM, optable, set_some, Nat.reduceEqDiff, reduceIte, Nat.reduceLT, implies_true, forall_const, reduceCtorEq, V.ofValue, V.ofScalar, V.un, V.gd, aExec, aop]
              repeat (refine And.intro (by first | omega | (intros; omega) | (intros; simp_all; done) | (intros; simp_all; omega)) ?_)
              refine k _ ?_; clear k K
              -- 81 := call v f27 t79 t80 | 32 32
              refine v_op ?_; intro K k
              simp only [zE, zM, aStepM, optable, set_some, Nat.reduceEqDiff, reduceIte, Nat.reduceLT, implies_true, forall_const, reduceCtorEq, V.ofValue, V.ofScalar, V.un, V.gd, aExec, lentIds, lendOf, Try.underlying4, Ty.c4, Ty.a4, Ty.b4, Ty.s4, Try.underlying32, Ty.c32, Ty.a32, Ty.b32, Ty.s32, Try.underlying47, Ty.c47, Ty.a47, Ty.b47, Ty.s47]
              repeat (refine And.intro (by first | rfl | (intros; simp_all; done)) ?_)
              refine aCall_new (eqIntSS_con (busyR l) (busyR l) hT1 hT2) (by first | rfl | (simp only [toArgs, toArg, toCell, toCells, idx, row_mk, List.getElem?_cons_zero, List.getElem?_cons_succ, Option.bind_some, Option.map_some, Blk.row, fillK_mix, cond_true]; done) | (simp [toArgs, toArg, toCell, toCells, idx, row_mk, Blk.row, fillK_mix, Nat.beq_refl]; done)) (by first | exact .inl ⟨rfl, by simp [Blk.kindIs, fillK_fd]⟩ | exact .inr (by simp [V.cold])) ?_
              refine k _ ?_; clear k K
              simp only [zY, zW, set_some, Nat.reduceEqDiff, reduceIte, V.ren, V.renL, rho, Nat.reduceAdd]
              -- 82 := unOp Go.UnOp.not 4 t81
              refine v_op ?_; intro K k
              simp only [zE, aStepM, optable, set_some, Nat.reduceEqDiff, reduceIte, Nat.reduceLT, implies_true, forall_const, reduceCtorEq, V.ofValue, V.ofScalar, V.un, V.gd, aExec, aop, aUn, Try.underlying4]
              repeat (refine And.intro (by first | omega | (intros; omega) | (intros; simp_all; done) | (intros; simp_all; omega)) ?_)
              refine k _ ?_; clear k K
              -- 83 := move t82
              refine v_op ?_; intro K k
              simp only [zE, aStepM, optable, set_some, Nat.reduceEqDiff, reduceIte, Nat.reduceLT, implies_true, forall_const, reduceCtorEq, V.ofValue, V.ofScalar, V.un, V.gd, aExec, aop]
              repeat (refine And.intro (by first | omega | (intros; omega) | (intros; simp_all; done) | (intros; simp_all; omega)) ?_)
              refine k _ ?_; clear k K
              -- 84 := move t13
              first
              | refine v_pass 84 4 false rfl (show 84 < 96 by decide) rfl ?_ ?_
                · first | rfl | (simp only [zV, guardV, Nat.reduceEqDiff, reduceIte]; done)
                simp only [zW, set_some, Nat.reduceEqDiff, reduceIte]
              | skip
                -- 84 := move t13
                refine v_op ?_; intro K k
                simp only [zE, zG, aStepM, optable, set_some, Nat.reduceEqDiff, reduceIte, Nat.reduceLT, implies_true, forall_const, reduceCtorEq, V.ofValue, V.ofScalar, V.un, V.gd, guardV, V.wrap, aExec, aop]
                repeat (refine And.intro (by first | omega | (intros; omega) | (intros; simp_all; done) | (intros; simp_all; omega)) ?_)
                refine k _ ?_; clear k K
              -- 85 := move t5
              first
              | refine v_pass 85 4 false rfl (show 85 < 96 by decide) rfl ?_ ?_
                · first | rfl | (simp only [zV, guardV, Nat.reduceEqDiff, reduceIte]; done)
                simp only [zW, set_some, Nat.reduceEqDiff, reduceIte]
              | skip
                -- 85 := move t5
                refine v_op ?_; intro K k
                simp only [zE, zG, aStepM, optable, set_some, Nat.reduceEqDiff, reduceIte, Nat.reduceLT, implies_true, forall_const, reduceCtorEq, V.ofValue, V.ofScalar, V.un, V.gd, guardV, V.wrap, aExec, aop]
                repeat (refine And.intro (by first | omega | (intros; omega) | (intros; simp_all; done) | (intros; simp_all; omega)) ?_)
                refine k _ ?_; clear k K
              -- 86 := binOp Go.BinOp.neq 4 t84 t85 4
              first
              | refine v_pass 86 4 false rfl (show 86 < 96 by decide) rfl ?_ ?_
                · first | rfl | (simp only [zV, guardV, Nat.reduceEqDiff, reduceIte]; done)
                simp only [zW, set_some, Nat.reduceEqDiff, reduceIte]
              | skip
                -- 86 := binOp Go.BinOp.neq 4 t84 t85 4
                refine v_op ?_; intro K k
                simp only [zE, zG, aStepM, optable, set_some, Nat.reduceEqDiff, reduceIte, Nat.reduceLT, implies_true, forall_const, reduceCtorEq, V.ofValue, V.ofScalar, V.un, V.gd, guardV, V.wrap, aExec, aop, aBin, Try.underlying4]
                repeat (refine And.intro (by first | omega | (intros; omega) | (intros; simp_all; done) | (intros; simp_all; omega)) ?_)
                refine k _ ?_; clear k K
              -- 87 := pick t83 c<true> t86
              refine v_op ?_; intro K k
              simp only [zE, zP, aStepM, optable, set_some, Nat.reduceEqDiff, reduceIte, Nat.reduceLT, implies_true, forall_const, reduceCtorEq, V.ofValue, V.ofScalar, V.un, V.gd, aExec, aop, pickV]
              repeat (refine And.intro (by first | omega | (intros; omega) | (intros; simp_all; done) | (intros; simp_all; omega)) ?_)
              refine k _ ?_; clear k K
              refine k55 _ ?_
              refine n54 _ _ (weak_keep [7, 10, 87] _) ?_
              simp only [keep_mk, keepE_nil, keepE_cons, look_cons, look_nil, Nat.reduceEqDiff, reduceIte]
              refine v_cond _ rfl ?_ ?_  -- COND 6
              · intro hc6
                exfalso; first | (simp at hc6; done) | (simp at hc6; omega)
              · intro hc6
                try simp only [zC, reduceCtorEq] at hc6
                refine v_skip ?_
                refine n53 _ _ (weak_keep [7, 10] _) ?_
                simp only [keep_mk, keepE_nil, keepE_cons, look_cons, look_nil, Nat.reduceEqDiff, reduceIte]
                refine v_seq ?_; intro Q57 n57 e57 r57  -- SEQ 28
                refine v_region ?_; intro K58 k58
                -- 11 := assign c<1:i64>
                refine v_op ?_; intro K k
                simp only [zE, zS, aStepM, optable, set_some, Nat.reduceEqDiff, reduceIte, Nat.reduceLT, implies_true, forall_const, reduceCtorEq, V.ofValue, V.ofScalar, V.un, V.gd, aExec, aop, Nat.reduceAdd]
                repeat (refine And.intro (by first | omega | (intros; omega) | (intros; simp_all; done) | (intros; simp_all; omega)) ?_)
                refine k _ ?_; clear k K
                refine k58 _ ?_
                refine n57 _ _ (weak_keep [7, 10, 11] _) ?_
                simp only [keep_mk, keepE_nil, keepE_cons, look_cons, look_nil, Nat.reduceEqDiff, reduceIte]
                refine v_seq ?_; intro Q59 n59 e59 r59  -- SEQ 29
                refine v_region ?_; intro K60 k60
                -- 88 := move t7
                refine v_op ?_; intro K k
                simp only [zE, aStepM, optable, set_some, Nat.reduceEqDiff, reduceIte, Nat.reduceLT, implies_true, forall_const, reduceCtorEq, V.ofValue, V.ofScalar, V.un, V.gd, aExec, aop]
                repeat (refine And.intro (by first | omega | (intros; omega) | (intros; simp_all; done) | (intros; simp_all; omega)) ?_)
                refine k _ ?_; clear k K
                -- 89 := move t11
                refine v_op ?_; intro K k
                simp only [zE, aStepM, optable, set_some, Nat.reduceEqDiff, reduceIte, Nat.reduceLT, implies_true, forall_const, reduceCtorEq, V.ofValue, V.ofScalar, V.un, V.gd, aExec, aop]
                repeat (refine And.intro (by first | omega | (intros; omega) | (intros; simp_all; done) | (intros; simp_all; omega)) ?_)
                refine k _ ?_; clear k K
                -- 90 := call v f51 t88 t89 | 32 3
                refine v_op ?_; intro K k
                simp only [zE, zM, aStepM, optable, set_some, Nat.reduceEqDiff, reduceIte, Nat.reduceLT, implies_true, forall_const, reduceCtorEq, V.ofValue, V.ofScalar, V.un, V.gd, aExec, lentIds, lendOf, Try.underlying3, Ty.c3, Ty.a3, Ty.b3, Ty.s3, Try.underlying32, Ty.c32, Ty.a32, Ty.b32, Ty.s32, Try.underlying47, Ty.c47, Ty.a47, Ty.b47, Ty.s47]
                repeat (refine And.intro (by first | rfl | (intros; simp_all; done)) ?_)
                refine aCall_new (heldIntSS_con (busyR l) 1 hT1 hT2 ⟨by omega, by omega⟩) (by first | rfl | (simp only [toArgs, toArg, toCell, toCells, idx, row_mk, List.getElem?_cons_zero, List.getElem?_cons_succ, Option.bind_some, Option.map_some, Blk.row, fillK_mix, cond_true]; done) | (simp [toArgs, toArg, toCell, toCells, idx, row_mk, Blk.row, fillK_mix, Nat.beq_refl]; done)) (by first | exact .inl ⟨rfl, by simp [Blk.kindIs, fillK_fd]⟩ | exact .inr (by simp [V.cold])) ?_
                refine k _ ?_; clear k K
                simp only [zY, zW, set_some, Nat.reduceEqDiff, reduceIte, V.ren, V.renL, rho, Nat.reduceAdd]
                -- 11 := assign t90
                refine v_op ?_; intro K k
                simp only [zE, zS, aStepM, optable, set_some, Nat.reduceEqDiff, reduceIte, Nat.reduceLT, implies_true, forall_const, reduceCtorEq, V.ofValue, V.ofScalar, V.un, V.gd, aExec, aop, Nat.reduceAdd]
                repeat (refine And.intro (by first | omega | (intros; omega) | (intros; simp_all; done) | (intros; simp_all; omega)) ?_)
                refine k _ ?_; clear k K
                refine k60 _ ?_
                refine n59 _ _ (weak_keep [10, 11] _) ?_
                simp only [keep_mk, keepE_nil, keepE_cons, look_cons, look_nil, Nat.reduceEqDiff, reduceIte]
                refine v_seq ?_; intro Q61 n61 e61 r61  -- SEQ 30
                refine v_seq ?_; intro Q62 n62 e62 r62  -- SEQ 31
                refine v_region ?_; intro K63 k63
                -- 91 := move t11
                refine v_op ?_; intro K k
                simp only [zE, aStepM, optable, set_some, Nat.reduceEqDiff, reduceIte, Nat.reduceLT, implies_true, forall_const, reduceCtorEq, V.ofValue, V.ofScalar, V.un, V.gd, aExec, aop]
                repeat (refine And.intro (by first | omega | (intros; omega) | (intros; simp_all; done) | (intros; simp_all; omega)) ?_)
                refine k _ ?_; clear k K
                -- 92 := binOp Go.BinOp.lss 3 t91 c<0:i64> 3
                refine v_op ?_; intro K k
                simp only [zE, aStepM, optable, set_some, Nat.reduceEqDiff, reduceIte, Nat.reduceLT, implies_true, forall_const, reduceCtorEq, V.ofValue, V.ofScalar, V.un, V.gd, aExec, aop, aBin, Try.underlying3]
                repeat (refine And.intro (by first | omega | (intros; omega) | (intros; simp_all; done) | (intros; simp_all; omega)) ?_)
                refine k _ ?_; clear k K
                refine k63 _ ?_
                refine n62 _ _ (weak_keep [10, 11, 92] _) ?_
                simp only [keep_mk, keepE_nil, keepE_cons, look_cons, look_nil, Nat.reduceEqDiff, reduceIte]
                refine v_cond _ rfl ?_ ?_  -- COND 7
                · intro hc7
                  exfalso; first | (simp at hc7; done) | (simp at hc7; omega)
                · intro hc7
                  try simp only [zC, reduceCtorEq] at hc7
                  refine v_skip ?_
                  refine n61 _ _ (weak_keep [10, 11] _) ?_
                  simp only [keep_mk, keepE_nil, keepE_cons, look_cons, look_nil, Nat.reduceEqDiff, reduceIte]
                  refine v_seq ?_; intro Q65 n65 e65 r65  -- SEQ 32
                  refine v_seq ?_; intro Q66 n66 e66 r66  -- SEQ 33
                  refine v_region ?_; intro K67 k67
                  -- 93 := move t11
                  refine v_op ?_; intro K k
                  simp only [zE, aStepM, optable, set_some, Nat.reduceEqDiff, reduceIte, Nat.reduceLT, implies_true, forall_const, reduceCtorEq, V.ofValue, V.ofScalar, V.un, V.gd, aExec, aop]
                  repeat (refine And.intro (by first | omega | (intros; omega) | (intros; simp_all; done) | (intros; simp_all; omega)) ?_)
                  refine k _ ?_; clear k K
                  -- 94 := move t10
                  refine v_op ?_; intro K k
                  simp only [zE, aStepM, optable, set_some, Nat.reduceEqDiff, reduceIte, Nat.reduceLT, implies_true, forall_const, reduceCtorEq, V.ofValue, V.ofScalar, V.un, V.gd, aExec, aop]
                  repeat (refine And.intro (by first | omega | (intros; omega) | (intros; simp_all; done) | (intros; simp_all; omega)) ?_)
                  refine k _ ?_; clear k K
                  -- 95 := binOp Go.BinOp.neq 3 t93 t94 3
                  refine v_op ?_; intro K k
                  simp only [zE, aStepM, optable, set_some, Nat.reduceEqDiff, reduceIte, Nat.reduceLT, implies_true, forall_const, reduceCtorEq, V.ofValue, V.ofScalar, V.un, V.gd, aExec, aop, aBin, Try.underlying3]
                  repeat (refine And.intro (by first | omega | (intros; omega) | (intros; simp_all; done) | (intros; simp_all; omega)) ?_)
                  refine k _ ?_; clear k K
                  refine k67 _ ?_
                  refine n66 _ _ (weak_keep [95] _) ?_
                  simp only [keep_mk, keepE_nil, keepE_cons, look_cons, look_nil, Nat.reduceEqDiff, reduceIte]
                  refine v_cond _ rfl ?_ ?_  -- COND 8
                  · intro hc8
                    exfalso; first | (simp at hc8; done) | (simp at hc8; omega)
                  · intro hc8
                    try simp only [zC, reduceCtorEq] at hc8
                    refine v_skip ?_
                    refine n65 _ _ (weak_keep [] _) ?_
                    simp only [keep_mk, keepE_nil, keepE_cons, look_cons, look_nil, Nat.reduceEqDiff, reduceIte]
                    refine v_seq ?_; intro Q69 n69 e69 r69  -- SEQ 34
                    refine v_region ?_; intro K70 k70
                    -- 2 := assign c<true>
                    refine v_op ?_; intro K k
                    simp only [zE, zS, aStepM, optable, set_some, Nat.reduceEqDiff, reduceIte, Nat.reduceLT, implies_true, forall_const, reduceCtorEq, V.ofValue, V.ofScalar, V.un, V.gd, aExec, aop, Nat.reduceAdd]
                    repeat (refine And.intro (by first | omega | (intros; omega) | (intros; simp_all; done) | (intros; simp_all; omega)) ?_)
                    refine k _ ?_; clear k K
                    refine k70 _ ?_
                    refine n69 _ _ (weak_keep [2] _) ?_
                    simp only [keep_mk, keepE_nil, keepE_cons, look_cons, look_nil, Nat.reduceEqDiff, reduceIte]
                    refine v_ret ?_
                    refine r0 _ ?_
                    simp only [resK, pickRV, get_mk, look_cons, look_nil, Nat.reduceEqDiff, reduceIte, List.map_cons, List.map_nil]
                    exact ret_pure rfl rfl (.inl rfl)
end Go.Proofs.Ytciapcamhocmcaa
