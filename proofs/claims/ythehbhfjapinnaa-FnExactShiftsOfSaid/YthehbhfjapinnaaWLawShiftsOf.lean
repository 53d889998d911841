/- What functions compute (LawShiftsOf). No condition. -/
import Derived.Test.YthehbhfjapinnaaTy
import Derived.Test.YthehbhfjapinnaaVm21
import Derived.Test.YthehbhfjapinnaaWInts
import Derived.Test.YthehbhfjapinnaaWNeeds
import Derived.Test.YthehbhfjapinnaaWCopies
import Derived.Test.YthehbhfjapinnaaWEqSS
import Derived.Test.YthehbhfjapinnaaWShifts
import Derived.Test.YthehbhfjapinnaaWMarkSS
import Derived.Test.YthehbhfjapinnaaWMarks
set_option linter.unusedSimpArgs false
set_option linter.unusedVariables false
namespace Go.Proofs.Ythehbhfjapinnaa
open Go Go.Vm

-- loop.example/g01020/laws.FnExactShiftsOf
set_option maxHeartbeats 4000000 in
theorem lawShiftsOf_con (ll : List (List Int)) (n : Int) (hl : ll.length ≤ 9223372036854775807) (hls : ∀ l ∈ ll, l.length ≤ 9223372036854775807) : Con Try.prog 5 [.sl (ll.map fun l => V.sl (l.map (V.int .i64))), .int .i64 n] [] (.bool true) [] := by
  refine v_con [.tmp 4] [(21, [0]), (22, [0])] Try.func5 rfl rfl rfl (by simp [Try.ntmps5]) ?_
  intro Q0 n0 r0
  simp only [Try.ntmps5, envFrom, Nat.reduceAdd]
  refine v_seq ?_; intro Q1 n1 e1 r1  -- SEQ 0
  refine v_region ?_; intro K2 k2
  -- 4 := assign c<false>
  refine v_op ?_; intro K k
  simp only [zE, zS, aStepM, optable, set_some, Nat.reduceEqDiff, reduceIte, Nat.reduceLT, implies_true, forall_const, reduceCtorEq, V.ofValue, V.ofScalar, V.un, V.gd, aExec, aop, Nat.reduceAdd]
  repeat (refine And.intro (by first | omega | (intros; omega) | (intros; simp_all; done) | (intros; simp_all; omega)) ?_)
  refine k _ ?_; clear k K
  refine k2 _ ?_
  refine n1 _ _ (weak_keep [0, 1] _) ?_
  simp only [keep_mk, keepE_nil, keepE_cons, look_cons, look_nil, Nat.reduceEqDiff, reduceIte]
  refine v_seq ?_; intro Q3 n3 e3 r3  -- SEQ 1
  refine v_region ?_; intro K4 k4
  -- 5 := assign c<1048576:i64>
  refine v_op ?_; intro K k
  simp only [zE, zS, aStepM, optable, set_some, Nat.reduceEqDiff, reduceIte, Nat.reduceLT, implies_true, forall_const, reduceCtorEq, V.ofValue, V.ofScalar, V.un, V.gd, aExec, aop, Nat.reduceAdd]
  repeat (refine And.intro (by first | omega | (intros; omega) | (intros; simp_all; done) | (intros; simp_all; omega)) ?_)
  refine k _ ?_; clear k K
  refine k4 _ ?_
  refine n3 _ _ (weak_keep [0, 1, 5] _) ?_
  simp only [keep_mk, keepE_nil, keepE_cons, look_cons, look_nil, Nat.reduceEqDiff, reduceIte]
  refine v_seq ?_; intro Q5 n5 e5 r5  -- SEQ 2
  refine v_region ?_; intro K6 k6
  -- 16 := move t0
  refine v_op ?_; intro K k
  simp only [zE, aStepM, optable, set_some, Nat.reduceEqDiff, reduceIte, Nat.reduceLT, implies_true, forall_const, reduceCtorEq, V.ofValue, V.ofScalar, V.un, V.gd, aExec, aop]
  repeat (refine And.intro (by first | omega | (intros; omega) | (intros; simp_all; done) | (intros; simp_all; omega)) ?_)
  refine k _ ?_; clear k K
  -- 17 := move t5
  refine v_op ?_; intro K k
  simp only [zE, aStepM, optable, set_some, Nat.reduceEqDiff, reduceIte, Nat.reduceLT, implies_true, forall_const, reduceCtorEq, V.ofValue, V.ofScalar, V.un, V.gd, aExec, aop]
  repeat (refine And.intro (by first | omega | (intros; omega) | (intros; simp_all; done) | (intros; simp_all; omega)) ?_)
  refine k _ ?_; clear k K
  -- 18 := call v f13 t16 t17 | 28 3
  refine v_op ?_; intro K k
  simp only [zE, zM, aStepM, optable, set_some, Nat.reduceEqDiff, reduceIte, Nat.reduceLT, implies_true, forall_const, reduceCtorEq, V.ofValue, V.ofScalar, V.un, V.gd, aExec, lentIds, lendOf, Try.underlying3, Ty.c3, Ty.a3, Ty.b3, Ty.s3, Try.underlying28, Ty.c28, Ty.a28, Ty.b28, Ty.s28, Try.underlying33, Ty.c33, Ty.a33, Ty.b33, Ty.s33]
  repeat (refine And.intro (by first | rfl | (intros; simp_all; done)) ?_)
  refine aCall_new (szIntSS_con 1048576 ll (by omega) hl hls) (by first | rfl | (simp only [toArgs, toArg, toCell, toCells, idx, row_mk, List.getElem?_cons_zero, List.getElem?_cons_succ, Option.bind_some, Option.map_some, Blk.row, fillK_mix, cond_true]; done) | (simp [toArgs, toArg, toCell, toCells, idx, row_mk, Blk.row, fillK_mix, Nat.beq_refl]; done)) (by first | exact .inl ⟨rfl, by simp [Blk.kindIs, fillK_fd]⟩ | exact .inr (by simp [V.cold])) ?_
  refine k _ ?_; clear k K
  simp only [zY, zW, set_some, Nat.reduceEqDiff, reduceIte, V.ren, V.renL, rho, Nat.reduceAdd]
  -- 5 := assign t18
  refine v_op ?_; intro K k
  simp only [zE, zS, aStepM, optable, set_some, Nat.reduceEqDiff, reduceIte, Nat.reduceLT, implies_true, forall_const, reduceCtorEq, V.ofValue, V.ofScalar, V.un, V.gd, aExec, aop, Nat.reduceAdd]
  repeat (refine And.intro (by first | omega | (intros; omega) | (intros; simp_all; done) | (intros; simp_all; omega)) ?_)
  refine k _ ?_; clear k K
  refine k6 _ ?_
  refine n5 _ _ (weak_keep [0, 1, 5] _) ?_
  simp only [keep_mk, keepE_nil, keepE_cons, look_cons, look_nil, Nat.reduceEqDiff, reduceIte]
  refine v_seq ?_; intro Q7 n7 e7 r7  -- SEQ 3
  refine v_seq ?_; intro Q8 n8 e8 r8  -- SEQ 4
  refine v_region ?_; intro K9 k9
  -- 19 := move t5
  refine v_op ?_; intro K k
  simp only [zE, aStepM, optable, set_some, Nat.reduceEqDiff, reduceIte, Nat.reduceLT, implies_true, forall_const, reduceCtorEq, V.ofValue, V.ofScalar, V.un, V.gd, aExec, aop]
  repeat (refine And.intro (by first | omega | (intros; omega) | (intros; simp_all; done) | (intros; simp_all; omega)) ?_)
  refine k _ ?_; clear k K
  -- 20 := binOp Go.BinOp.lss 3 t19 c<0:i64> 3
  refine v_op ?_; intro K k
  simp only [zE, aStepM, optable, set_some, Nat.reduceEqDiff, reduceIte, Nat.reduceLT, implies_true, forall_const, reduceCtorEq, V.ofValue, V.ofScalar, V.un, V.gd, aExec, aop, aBin, Try.underlying3]
  repeat (refine And.intro (by first | omega | (intros; omega) | (intros; simp_all; done) | (intros; simp_all; omega)) ?_)
  refine k _ ?_; clear k K
  refine k9 _ ?_
  refine n8 _ _ (weak_keep [0, 1, 20] _) ?_
  simp only [keep_mk, keepE_nil, keepE_cons, look_cons, look_nil, Nat.reduceEqDiff, reduceIte]
  refine v_cond _ rfl ?_ ?_  -- COND 0
  · intro hc0
    try simp only [zC, reduceCtorEq] at hc0
    refine v_seq ?_; intro Q11 n11 e11 r11  -- SEQ 5
    refine v_region ?_; intro K12 k12
    -- 4 := assign c<true>
    refine v_op ?_; intro K k
    simp only [zE, zS, aStepM, optable, set_some, Nat.reduceEqDiff, reduceIte, Nat.reduceLT, implies_true, forall_const, reduceCtorEq, V.ofValue, V.ofScalar, V.un, V.gd, aExec, aop, Nat.reduceAdd]
    repeat (refine And.intro (by first | omega | (intros; omega) | (intros; simp_all; done) | (intros; simp_all; omega)) ?_)
    refine k _ ?_; clear k K
    refine k12 _ ?_
    refine n11 _ _ (weak_keep [4] _) ?_
    simp only [keep_mk, keepE_nil, keepE_cons, look_cons, look_nil, Nat.reduceEqDiff, reduceIte]
    refine v_ret ?_
    refine r7 _ ?_
    refine r0 _ ?_
    simp only [resK, pickRV, get_mk, look_cons, look_nil, Nat.reduceEqDiff, reduceIte, List.map_cons, List.map_nil]
    exact ret_pure rfl rfl (.inl rfl)
  · intro hc0
    try simp only [zC, reduceCtorEq] at hc0
    have hl2 : ll.length ≤ 1048576 := by
      split at hc0 <;> omega
    have hls2 : ∀ l ∈ ll, l.length ≤ 1048576 := by
      intro l h
      split at hc0
      · omega
      · have := szSS_le hc0 l h; omega
    have htp := totSS_pos ll
    have htt : totSS ll ≤ 1048576 := by
      split at hc0
      · omega
      · have := szSS_tot hc0; omega
    have hT := shiftsR_len ll n
    refine v_skip ?_
    refine n7 _ _ (weak_keep [0, 1] _) ?_
    simp only [keep_mk, keepE_nil, keepE_cons, look_cons, look_nil, Nat.reduceEqDiff, reduceIte]
    refine v_seq ?_; intro Q13 n13 e13 r13  -- SEQ 6
    refine v_region ?_; intro K14 k14
    -- 22 := move t0
    refine v_op ?_; intro K k
    simp only [zE, aStepM, optable, set_some, Nat.reduceEqDiff, reduceIte, Nat.reduceLT, implies_true, forall_const, reduceCtorEq, V.ofValue, V.ofScalar, V.un, V.gd, aExec, aop]
    repeat (refine And.intro (by first | omega | (intros; omega) | (intros; simp_all; done) | (intros; simp_all; omega)) ?_)
    refine k _ ?_; clear k K
    -- 23 := call v f15 t22 | 28
    refine v_op ?_; intro K k
    simp only [zE, zM, aStepM, optable, set_some, Nat.reduceEqDiff, reduceIte, Nat.reduceLT, implies_true, forall_const, reduceCtorEq, V.ofValue, V.ofScalar, V.un, V.gd, aExec, lentIds, lendOf, Try.underlying28, Ty.c28, Ty.a28, Ty.b28, Ty.s28, Try.underlying33, Ty.c33, Ty.a33, Ty.b33, Ty.s33]
    repeat (refine And.intro (by first | rfl | (intros; simp_all; done)) ?_)
    refine aCall_new (toIntSS_con ll hl2 hls2) (by first | rfl | (simp only [toArgs, toArg, toCell, toCells, idx, row_mk, List.getElem?_cons_zero, List.getElem?_cons_succ, Option.bind_some, Option.map_some, Blk.row, fillK_mix, cond_true]; done) | (simp [toArgs, toArg, toCell, toCells, idx, row_mk, Blk.row, fillK_mix, Nat.beq_refl]; done)) (by first | exact .inl ⟨rfl, by simp [Blk.kindIs, fillK_fd]⟩ | exact .inr (by simp [V.cold])) ?_
    refine k _ ?_; clear k K
    simp only [zY, zW, set_some, Nat.reduceEqDiff, reduceIte, V.ren, V.renL, rho, Nat.reduceAdd]
    -- 24 := move t1
    refine v_op ?_; intro K k
    simp only [zE, aStepM, optable, set_some, Nat.reduceEqDiff, reduceIte, Nat.reduceLT, implies_true, forall_const, reduceCtorEq, V.ofValue, V.ofScalar, V.un, V.gd, aExec, aop]
    repeat (refine And.intro (by first | omega | (intros; omega) | (intros; simp_all; done) | (intros; simp_all; omega)) ?_)
    refine k _ ?_; clear k K
    -- 25 := call v f18 t23 t24 | 28 3
    refine v_op ?_; intro K k
    simp only [zE, zM, aStepM, optable, set_some, Nat.reduceEqDiff, reduceIte, Nat.reduceLT, implies_true, forall_const, reduceCtorEq, V.ofValue, V.ofScalar, V.un, V.gd, aExec, lentIds, lendOf, Try.underlying3, Ty.c3, Ty.a3, Ty.b3, Ty.s3, Try.underlying28, Ty.c28, Ty.a28, Ty.b28, Ty.s28, Try.underlying33, Ty.c33, Ty.a33, Ty.b33, Ty.s33]
    repeat (refine And.intro (by first | rfl | (intros; simp_all; done)) ?_)
    refine aCall_new (specShiftsOf_con ll n hl2 hls2) (by first | rfl | (simp only [toArgs, toArg, toCell, toCells, idx, row_mk, List.getElem?_cons_zero, List.getElem?_cons_succ, Option.bind_some, Option.map_some, Blk.row, fillK_mix, cond_true]; done) | (simp [toArgs, toArg, toCell, toCells, idx, row_mk, Blk.row, fillK_mix, Nat.beq_refl]; done)) (by first | exact .inl ⟨rfl, by simp [Blk.kindIs, fillK_fd]⟩ | exact .inr (by simp [V.cold])) ?_
    refine k _ ?_; clear k K
    simp only [zY, zW, set_some, Nat.reduceEqDiff, reduceIte, V.ren, V.renL, rho, Nat.reduceAdd]
    -- 21 := move t25
    refine v_op ?_; intro K k
    simp only [zE, aStepM, optable, set_some, Nat.reduceEqDiff, reduceIte, Nat.reduceLT, implies_true, forall_const, reduceCtorEq, V.ofValue, V.ofScalar, V.un, V.gd, aExec, aop]
    repeat (refine And.intro (by first | omega | (intros; omega) | (intros; simp_all; done) | (intros; simp_all; omega)) ?_)
    refine k _ ?_; clear k K
    -- 26 := extract t21 0
    refine v_op ?_; intro K k
    simp only [zE, zL, zN, aStepM, optable, set_some, Nat.reduceEqDiff, reduceIte, Nat.reduceLT, implies_true, forall_const, reduceCtorEq, V.ofValue, V.ofScalar, V.un, V.gd, aExec, aop, aExtract, Nat.reduceAdd, Nat.reduceLeDiff, Nat.reduceMul]
    repeat (refine And.intro (by first | omega | (intros; omega) | (intros; simp_all; done) | (intros; simp_all; omega)) ?_)
    refine k _ ?_; clear k K
    -- 27 := extract t21 1
    refine v_op ?_; intro K k
    simp only [zE, zL, zN, aStepM, optable, set_some, Nat.reduceEqDiff, reduceIte, Nat.reduceLT, implies_true, forall_const, reduceCtorEq, V.ofValue, V.ofScalar, V.un, V.gd, aExec, aop, aExtract, Nat.reduceAdd, Nat.reduceLeDiff, Nat.reduceMul]
    repeat (refine And.intro (by first | omega | (intros; omega) | (intros; simp_all; done) | (intros; simp_all; omega)) ?_)
    refine k _ ?_; clear k K
    -- 6 := assign t26
    refine v_op ?_; intro K k
    simp only [zE, zS, aStepM, optable, set_some, Nat.reduceEqDiff, reduceIte, Nat.reduceLT, implies_true, forall_const, reduceCtorEq, V.ofValue, V.ofScalar, V.un, V.gd, aExec, aop, Nat.reduceAdd]
    repeat (refine And.intro (by first | omega | (intros; omega) | (intros; simp_all; done) | (intros; simp_all; omega)) ?_)
    refine k _ ?_; clear k K
    -- 7 := assign t27
    refine v_op ?_; intro K k
    simp only [zE, zS, aStepM, optable, set_some, Nat.reduceEqDiff, reduceIte, Nat.reduceLT, implies_true, forall_const, reduceCtorEq, V.ofValue, V.ofScalar, V.un, V.gd, aExec, aop, Nat.reduceAdd]
    repeat (refine And.intro (by first | omega | (intros; omega) | (intros; simp_all; done) | (intros; simp_all; omega)) ?_)
    refine k _ ?_; clear k K
    refine k14 _ ?_
    refine n13 _ _ (weak_keep [0, 1, 6, 7] _) ?_
    simp only [keep_mk, keepE_nil, keepE_cons, look_cons, look_nil, Nat.reduceEqDiff, reduceIte]
    refine v_seq ?_; intro Q15 n15 e15 r15  -- SEQ 7
    refine v_region ?_; intro K16 k16
    -- 28 := move t0
    refine v_op ?_; intro K k
    simp only [zE, aStepM, optable, set_some, Nat.reduceEqDiff, reduceIte, Nat.reduceLT, implies_true, forall_const, reduceCtorEq, V.ofValue, V.ofScalar, V.un, V.gd, aExec, aop]
    repeat (refine And.intro (by first | omega | (intros; omega) | (intros; simp_all; done) | (intros; simp_all; omega)) ?_)
    refine k _ ?_; clear k K
    -- 29 := call v f15 t28 | 28
    refine v_op ?_; intro K k
    simp only [zE, zM, aStepM, optable, set_some, Nat.reduceEqDiff, reduceIte, Nat.reduceLT, implies_true, forall_const, reduceCtorEq, V.ofValue, V.ofScalar, V.un, V.gd, aExec, lentIds, lendOf, Try.underlying28, Ty.c28, Ty.a28, Ty.b28, Ty.s28, Try.underlying33, Ty.c33, Ty.a33, Ty.b33, Ty.s33]
    repeat (refine And.intro (by first | rfl | (intros; simp_all; done)) ?_)
    refine aCall_new (toIntSS_con ll hl2 hls2) (by first | rfl | (simp only [toArgs, toArg, toCell, toCells, idx, row_mk, List.getElem?_cons_zero, List.getElem?_cons_succ, Option.bind_some, Option.map_some, Blk.row, fillK_mix, cond_true]; done) | (simp [toArgs, toArg, toCell, toCells, idx, row_mk, Blk.row, fillK_mix, Nat.beq_refl]; done)) (by first | exact .inl ⟨rfl, by simp [Blk.kindIs, fillK_fd]⟩ | exact .inr (by simp [V.cold])) ?_
    refine k _ ?_; clear k K
    simp only [zY, zW, set_some, Nat.reduceEqDiff, reduceIte, V.ren, V.renL, rho, Nat.reduceAdd]
    -- 8 := assign t29
    refine v_op ?_; intro K k
    simp only [zE, zS, aStepM, optable, set_some, Nat.reduceEqDiff, reduceIte, Nat.reduceLT, implies_true, forall_const, reduceCtorEq, V.ofValue, V.ofScalar, V.un, V.gd, aExec, aop, Nat.reduceAdd]
    repeat (refine And.intro (by first | omega | (intros; omega) | (intros; simp_all; done) | (intros; simp_all; omega)) ?_)
    refine k _ ?_; clear k K
    refine k16 _ ?_
    refine n15 _ _ (weak_keep [0, 1, 6, 7, 8] _) ?_
    simp only [keep_mk, keepE_nil, keepE_cons, look_cons, look_nil, Nat.reduceEqDiff, reduceIte]
    refine v_seq ?_; intro Q17 n17 e17 r17  -- SEQ 8
    refine v_region ?_; intro K18 k18
    -- 31 := move t8
    refine v_op ?_; intro K k
    simp only [zE, aStepM, optable, set_some, Nat.reduceEqDiff, reduceIte, Nat.reduceLT, implies_true, forall_const, reduceCtorEq, V.ofValue, V.ofScalar, V.un, V.gd, aExec, aop]
    repeat (refine And.intro (by first | omega | (intros; omega) | (intros; simp_all; done) | (intros; simp_all; omega)) ?_)
    refine k _ ?_; clear k K
    -- 32 := move t1
    refine v_op ?_; intro K k
    simp only [zE, aStepM, optable, set_some, Nat.reduceEqDiff, reduceIte, Nat.reduceLT, implies_true, forall_const, reduceCtorEq, V.ofValue, V.ofScalar, V.un, V.gd, aExec, aop]
    repeat (refine And.intro (by first | omega | (intros; omega) | (intros; simp_all; done) | (intros; simp_all; omega)) ?_)
    refine k _ ?_; clear k K
    -- 33 := call v f19 t31 t32 | 28 3
    refine v_op ?_; intro K k
    simp only [zE, zM, aStepM, optable, set_some, Nat.reduceEqDiff, reduceIte, Nat.reduceLT, implies_true, forall_const, reduceCtorEq, V.ofValue, V.ofScalar, V.un, V.gd, aExec, lentIds, lendOf, Try.underlying3, Ty.c3, Ty.a3, Ty.b3, Ty.s3, Try.underlying28, Ty.c28, Ty.a28, Ty.b28, Ty.s28, Try.underlying33, Ty.c33, Ty.a33, Ty.b33, Ty.s33]
    repeat (refine And.intro (by first | rfl | (intros; simp_all; done)) ?_)
    refine aCall_new (implShiftsOf_con ll n hl2 hls2) (by first | rfl | (simp only [toArgs, toArg, toCell, toCells, idx, row_mk, List.getElem?_cons_zero, List.getElem?_cons_succ, Option.bind_some, Option.map_some, Blk.row, fillK_mix, cond_true]; done) | (simp [toArgs, toArg, toCell, toCells, idx, row_mk, Blk.row, fillK_mix, Nat.beq_refl]; done)) (by first | exact .inl ⟨rfl, by simp [Blk.kindIs, fillK_fd]⟩ | exact .inr (by simp [V.cold])) ?_
    refine k _ ?_; clear k K
    simp only [zY, zW, set_some, Nat.reduceEqDiff, reduceIte, V.ren, V.renL, rho, Nat.reduceAdd]
    -- 30 := move t33
    refine v_op ?_; intro K k
    simp only [zE, aStepM, optable, set_some, Nat.reduceEqDiff, reduceIte, Nat.reduceLT, implies_true, forall_const, reduceCtorEq, V.ofValue, V.ofScalar, V.un, V.gd, aExec, aop]
    repeat (refine And.intro (by first | omega | (intros; omega) | (intros; simp_all; done) | (intros; simp_all; omega)) ?_)
    refine k _ ?_; clear k K
    -- 34 := extract t30 0
    refine v_op ?_; intro K k
    simp only [zE, zL, zN, aStepM, optable, set_some, Nat.reduceEqDiff, reduceIte, Nat.reduceLT, implies_true, forall_const, reduceCtorEq, V.ofValue, V.ofScalar, V.un, V.gd, aExec, aop, aExtract, Nat.reduceAdd, Nat.reduceLeDiff, Nat.reduceMul]
    repeat (refine And.intro (by first | omega | (intros; omega) | (intros; simp_all; done) | (intros; simp_all; omega)) ?_)
    refine k _ ?_; clear k K
    -- 35 := extract t30 1
    refine v_op ?_; intro K k
    simp only [zE, zL, zN, aStepM, optable, set_some, Nat.reduceEqDiff, reduceIte, Nat.reduceLT, implies_true, forall_const, reduceCtorEq, V.ofValue, V.ofScalar, V.un, V.gd, aExec, aop, aExtract, Nat.reduceAdd, Nat.reduceLeDiff, Nat.reduceMul]
    repeat (refine And.intro (by first | omega | (intros; omega) | (intros; simp_all; done) | (intros; simp_all; omega)) ?_)
    refine k _ ?_; clear k K
    -- 9 := assign t34
    refine v_op ?_; intro K k
    simp only [zE, zS, aStepM, optable, set_some, Nat.reduceEqDiff, reduceIte, Nat.reduceLT, implies_true, forall_const, reduceCtorEq, V.ofValue, V.ofScalar, V.un, V.gd, aExec, aop, Nat.reduceAdd]
    repeat (refine And.intro (by first | omega | (intros; omega) | (intros; simp_all; done) | (intros; simp_all; omega)) ?_)
    refine k _ ?_; clear k K
    -- 10 := assign t35
    refine v_op ?_; intro K k
    simp only [zE, zS, aStepM, optable, set_some, Nat.reduceEqDiff, reduceIte, Nat.reduceLT, implies_true, forall_const, reduceCtorEq, V.ofValue, V.ofScalar, V.un, V.gd, aExec, aop, Nat.reduceAdd]
    repeat (refine And.intro (by first | omega | (intros; omega) | (intros; simp_all; done) | (intros; simp_all; omega)) ?_)
    refine k _ ?_; clear k K
    refine k18 _ ?_
    refine n17 _ _ (weak_keep [0, 1, 6, 7, 8, 9, 10] _) ?_
    simp only [keep_mk, keepE_nil, keepE_cons, look_cons, look_nil, Nat.reduceEqDiff, reduceIte]
    refine v_seq ?_; intro Q19 n19 e19 r19  -- SEQ 9
    refine v_seq ?_; intro Q20 n20 e20 r20  -- SEQ 10
    refine v_region ?_; intro K21 k21
    -- 36 := move t9
    refine v_op ?_; intro K k
    simp only [zE, aStepM, optable, set_some, Nat.reduceEqDiff, reduceIte, Nat.reduceLT, implies_true, forall_const, reduceCtorEq, V.ofValue, V.ofScalar, V.un, V.gd, aExec, aop]
    repeat (refine And.intro (by first | omega | (intros; omega) | (intros; simp_all; done) | (intros; simp_all; omega)) ?_)
    refine k _ ?_; clear k K
    -- 37 := move t6
    refine v_op ?_; intro K k
    simp only [zE, aStepM, optable, set_some, Nat.reduceEqDiff, reduceIte, Nat.reduceLT, implies_true, forall_const, reduceCtorEq, V.ofValue, V.ofScalar, V.un, V.gd, aExec, aop]
    repeat (refine And.intro (by first | omega | (intros; omega) | (intros; simp_all; done) | (intros; simp_all; omega)) ?_)
    refine k _ ?_; clear k K
    -- 38 := call v f20 t36 t37 | 33 33
    refine v_op ?_; intro K k
    simp only [zE, zM, aStepM, optable, set_some, Nat.reduceEqDiff, reduceIte, Nat.reduceLT, implies_true, forall_const, reduceCtorEq, V.ofValue, V.ofScalar, V.un, V.gd, aExec, lentIds, lendOf, Try.underlying3, Ty.c3, Ty.a3, Ty.b3, Ty.s3, Try.underlying4, Ty.c4, Ty.a4, Ty.b4, Ty.s4, Try.underlying33, Ty.c33, Ty.a33, Ty.b33, Ty.s33]
    repeat (refine And.intro (by first | rfl | (intros; simp_all; done)) ?_)
    refine aCall_new (eqIntS_con (shiftsR ll n) (shiftsR ll n) hT) (by first | rfl | (simp only [toArgs, toArg, toCell, toCells, idx, row_mk, List.getElem?_cons_zero, List.getElem?_cons_succ, Option.bind_some, Option.map_some, Blk.row, fillK_mix, cond_true]; done) | (simp [toArgs, toArg, toCell, toCells, idx, row_mk, Blk.row, fillK_mix, Nat.beq_refl]; done)) (by first | exact .inl ⟨rfl, by simp [Blk.kindIs, fillK_fd]⟩ | exact .inr (by simp [V.cold])) ?_
    refine k _ ?_; clear k K
    simp only [zY, zW, set_some, Nat.reduceEqDiff, reduceIte, V.ren, V.renL, rho, Nat.reduceAdd]
    -- 39 := unOp Go.UnOp.not 4 t38
    refine v_op ?_; intro K k
    simp only [zE, aStepM, optable, set_some, Nat.reduceEqDiff, reduceIte, Nat.reduceLT, implies_true, forall_const, reduceCtorEq, V.ofValue, V.ofScalar, V.un, V.gd, aExec, aop, aUn, Try.underlying4]
    repeat (refine And.intro (by first | omega | (intros; omega) | (intros; simp_all; done) | (intros; simp_all; omega)) ?_)
    refine k _ ?_; clear k K
    -- 40 := move t39
    refine v_op ?_; intro K k
    simp only [zE, aStepM, optable, set_some, Nat.reduceEqDiff, reduceIte, Nat.reduceLT, implies_true, forall_const, reduceCtorEq, V.ofValue, V.ofScalar, V.un, V.gd, aExec, aop]
    repeat (refine And.intro (by first | omega | (intros; omega) | (intros; simp_all; done) | (intros; simp_all; omega)) ?_)
    refine k _ ?_; clear k K
    -- 41 := move t10
    first
    | refine v_pass 41 4 false rfl (show 41 < 101 by decide) rfl ?_ ?_
      · first | rfl | (simp only [zV, guardV, Nat.reduceEqDiff, reduceIte]; done)
      simp only [zW, set_some, Nat.reduceEqDiff, reduceIte]
    | skip
      -- 41 := move t10
      refine v_op ?_; intro K k
      simp only [zE, zG, aStepM, optable, set_some, Nat.reduceEqDiff, reduceIte, Nat.reduceLT, implies_true, forall_const, reduceCtorEq, V.ofValue, V.ofScalar, V.un, V.gd, guardV, V.wrap, aExec, aop]
      repeat (refine And.intro (by first | omega | (intros; omega) | (intros; simp_all; done) | (intros; simp_all; omega)) ?_)
      refine k _ ?_; clear k K
    -- 42 := move t7
    first
    | refine v_pass 42 4 false rfl (show 42 < 101 by decide) rfl ?_ ?_
      · first | rfl | (simp only [zV, guardV, Nat.reduceEqDiff, reduceIte]; done)
      simp only [zW, set_some, Nat.reduceEqDiff, reduceIte]
    | skip
      -- 42 := move t7
      refine v_op ?_; intro K k
      simp only [zE, zG, aStepM, optable, set_some, Nat.reduceEqDiff, reduceIte, Nat.reduceLT, implies_true, forall_const, reduceCtorEq, V.ofValue, V.ofScalar, V.un, V.gd, guardV, V.wrap, aExec, aop]
      repeat (refine And.intro (by first | omega | (intros; omega) | (intros; simp_all; done) | (intros; simp_all; omega)) ?_)
      refine k _ ?_; clear k K
    -- 43 := binOp Go.BinOp.neq 4 t41 t42 4
    first
    | refine v_pass 43 4 false rfl (show 43 < 101 by decide) rfl ?_ ?_
      · first | rfl | (simp only [zV, guardV, Nat.reduceEqDiff, reduceIte]; done)
      simp only [zW, set_some, Nat.reduceEqDiff, reduceIte]
    | skip
      -- 43 := binOp Go.BinOp.neq 4 t41 t42 4
      refine v_op ?_; intro K k
      simp only [zE, zG, aStepM, optable, set_some, Nat.reduceEqDiff, reduceIte, Nat.reduceLT, implies_true, forall_const, reduceCtorEq, V.ofValue, V.ofScalar, V.un, V.gd, guardV, V.wrap, aExec, aop, aBin, Try.underlying4]
      repeat (refine And.intro (by first | omega | (intros; omega) | (intros; simp_all; done) | (intros; simp_all; omega)) ?_)
      refine k _ ?_; clear k K
    -- 44 := pick t40 c<true> t43
    refine v_op ?_; intro K k
    simp only [zE, zP, aStepM, optable, set_some, Nat.reduceEqDiff, reduceIte, Nat.reduceLT, implies_true, forall_const, reduceCtorEq, V.ofValue, V.ofScalar, V.un, V.gd, aExec, aop, pickV]
    repeat (refine And.intro (by first | omega | (intros; omega) | (intros; simp_all; done) | (intros; simp_all; omega)) ?_)
    refine k _ ?_; clear k K
    refine k21 _ ?_
    refine n20 _ _ (weak_keep [0, 1, 6, 7, 8, 9, 10, 44] _) ?_
    simp only [keep_mk, keepE_nil, keepE_cons, look_cons, look_nil, Nat.reduceEqDiff, reduceIte]
    refine v_cond _ rfl ?_ ?_  -- COND 1
    · intro hc1
      exfalso; first | (simp at hc1; done) | (simp at hc1; omega)
    · intro hc1
      try simp only [zC, reduceCtorEq] at hc1
      refine v_skip ?_
      refine n19 _ _ (weak_keep [0, 1, 6, 7, 8, 9, 10] _) ?_
      simp only [keep_mk, keepE_nil, keepE_cons, look_cons, look_nil, Nat.reduceEqDiff, reduceIte]
      refine v_seq ?_; intro Q23 n23 e23 r23  -- SEQ 11
      refine v_seq ?_; intro Q24 n24 e24 r24  -- SEQ 12
      refine v_region ?_; intro K25 k25
      -- 45 := move t8
      refine v_op ?_; intro K k
      simp only [zE, aStepM, optable, set_some, Nat.reduceEqDiff, reduceIte, Nat.reduceLT, implies_true, forall_const, reduceCtorEq, V.ofValue, V.ofScalar, V.un, V.gd, aExec, aop]
      repeat (refine And.intro (by first | omega | (intros; omega) | (intros; simp_all; done) | (intros; simp_all; omega)) ?_)
      refine k _ ?_; clear k K
      -- 46 := move t0
      refine v_op ?_; intro K k
      simp only [zE, aStepM, optable, set_some, Nat.reduceEqDiff, reduceIte, Nat.reduceLT, implies_true, forall_const, reduceCtorEq, V.ofValue, V.ofScalar, V.un, V.gd, aExec, aop]
      repeat (refine And.intro (by first | omega | (intros; omega) | (intros; simp_all; done) | (intros; simp_all; omega)) ?_)
      refine k _ ?_; clear k K
      -- 47 := call v f15 t46 | 28
      refine v_op ?_; intro K k
      simp only [zE, zM, aStepM, optable, set_some, Nat.reduceEqDiff, reduceIte, Nat.reduceLT, implies_true, forall_const, reduceCtorEq, V.ofValue, V.ofScalar, V.un, V.gd, aExec, lentIds, lendOf, Try.underlying28, Ty.c28, Ty.a28, Ty.b28, Ty.s28, Try.underlying33, Ty.c33, Ty.a33, Ty.b33, Ty.s33]
      repeat (refine And.intro (by first | rfl | (intros; simp_all; done)) ?_)
      refine aCall_new (toIntSS_con ll hl2 hls2) (by first | rfl | (simp only [toArgs, toArg, toCell, toCells, idx, row_mk, List.getElem?_cons_zero, List.getElem?_cons_succ, Option.bind_some, Option.map_some, Blk.row, fillK_mix, cond_true]; done) | (simp [toArgs, toArg, toCell, toCells, idx, row_mk, Blk.row, fillK_mix, Nat.beq_refl]; done)) (by first | exact .inl ⟨rfl, by simp [Blk.kindIs, fillK_fd]⟩ | exact .inr (by simp [V.cold])) ?_
      refine k _ ?_; clear k K
      simp only [zY, zW, set_some, Nat.reduceEqDiff, reduceIte, V.ren, V.renL, rho, Nat.reduceAdd]
      -- 48 := call v f17 t45 t47 | 28 28
      refine v_op ?_; intro K k
      simp only [zE, zM, aStepM, optable, set_some, Nat.reduceEqDiff, reduceIte, Nat.reduceLT, implies_true, forall_const, reduceCtorEq, V.ofValue, V.ofScalar, V.un, V.gd, aExec, lentIds, lendOf, Try.underlying4, Ty.c4, Ty.a4, Ty.b4, Ty.s4, Try.underlying28, Ty.c28, Ty.a28, Ty.b28, Ty.s28, Try.underlying33, Ty.c33, Ty.a33, Ty.b33, Ty.s33]
      repeat (refine And.intro (by first | rfl | (intros; simp_all; done)) ?_)
      refine aCall_new (eqIntSS_con ll ll hl2 hls2) (by first | rfl | (simp only [toArgs, toArg, toCell, toCells, idx, row_mk, List.getElem?_cons_zero, List.getElem?_cons_succ, Option.bind_some, Option.map_some, Blk.row, fillK_mix, cond_true]; done) | (simp [toArgs, toArg, toCell, toCells, idx, row_mk, Blk.row, fillK_mix, Nat.beq_refl]; done)) (by first | exact .inl ⟨rfl, by simp [Blk.kindIs, fillK_fd]⟩ | exact .inr (by simp [V.cold])) ?_
      refine k _ ?_; clear k K
      simp only [zY, zW, set_some, Nat.reduceEqDiff, reduceIte, V.ren, V.renL, rho, Nat.reduceAdd]
      -- 49 := unOp Go.UnOp.not 4 t48
      refine v_op ?_; intro K k
      simp only [zE, aStepM, optable, set_some, Nat.reduceEqDiff, reduceIte, Nat.reduceLT, implies_true, forall_const, reduceCtorEq, V.ofValue, V.ofScalar, V.un, V.gd, aExec, aop, aUn, Try.underlying4]
      repeat (refine And.intro (by first | omega | (intros; omega) | (intros; simp_all; done) | (intros; simp_all; omega)) ?_)
      refine k _ ?_; clear k K
      refine k25 _ ?_
      refine n24 _ _ (weak_keep [0, 1, 6, 7, 8, 9, 10, 49] _) ?_
      simp only [keep_mk, keepE_nil, keepE_cons, look_cons, look_nil, Nat.reduceEqDiff, reduceIte]
      refine v_cond _ rfl ?_ ?_  -- COND 2
      · intro hc2
        exfalso; first | (simp at hc2; done) | (simp at hc2; omega)
      · intro hc2
        try simp only [zC, reduceCtorEq] at hc2
        refine v_skip ?_
        refine n23 _ _ (weak_keep [0, 1, 6, 7, 8, 9, 10] _) ?_
        simp only [keep_mk, keepE_nil, keepE_cons, look_cons, look_nil, Nat.reduceEqDiff, reduceIte]
        refine v_seq ?_; intro Q27 n27 e27 r27  -- SEQ 13
        refine v_region ?_; intro K28 k28
        -- 11 := assign c<1:i64>
        refine v_op ?_; intro K k
        simp only [zE, zS, aStepM, optable, set_some, Nat.reduceEqDiff, reduceIte, Nat.reduceLT, implies_true, forall_const, reduceCtorEq, V.ofValue, V.ofScalar, V.un, V.gd, aExec, aop, Nat.reduceAdd]
        repeat (refine And.intro (by first | omega | (intros; omega) | (intros; simp_all; done) | (intros; simp_all; omega)) ?_)
        refine k _ ?_; clear k K
        refine k28 _ ?_
        refine n27 _ _ (weak_keep [0, 1, 6, 7, 8, 9, 10, 11] _) ?_
        simp only [keep_mk, keepE_nil, keepE_cons, look_cons, look_nil, Nat.reduceEqDiff, reduceIte]
        refine v_seq ?_; intro Q29 n29 e29 r29  -- SEQ 14
        refine v_region ?_; intro K30 k30
        -- 50 := move t8
        refine v_op ?_; intro K k
        simp only [zE, aStepM, optable, set_some, Nat.reduceEqDiff, reduceIte, Nat.reduceLT, implies_true, forall_const, reduceCtorEq, V.ofValue, V.ofScalar, V.un, V.gd, aExec, aop]
        repeat (refine And.intro (by first | omega | (intros; omega) | (intros; simp_all; done) | (intros; simp_all; omega)) ?_)
        refine k _ ?_; clear k K
        -- 51 := move t11
        refine v_op ?_; intro K k
        simp only [zE, aStepM, optable, set_some, Nat.reduceEqDiff, reduceIte, Nat.reduceLT, implies_true, forall_const, reduceCtorEq, V.ofValue, V.ofScalar, V.un, V.gd, aExec, aop]
        repeat (refine And.intro (by first | omega | (intros; omega) | (intros; simp_all; done) | (intros; simp_all; omega)) ?_)
        refine k _ ?_; clear k K
        -- 52 := call v f21 t50 t51 | 28 3
        refine v_op ?_; intro K k
        simp only [zE, zM, aStepM, optable, set_some, Nat.reduceEqDiff, reduceIte, Nat.reduceLT, implies_true, forall_const, reduceCtorEq, V.ofValue, V.ofScalar, V.un, V.gd, aExec, lentIds, lendOf, Try.underlying3, Ty.c3, Ty.a3, Ty.b3, Ty.s3, Try.underlying28, Ty.c28, Ty.a28, Ty.b28, Ty.s28, Try.underlying33, Ty.c33, Ty.a33, Ty.b33, Ty.s33]
        repeat (refine And.intro (by first | rfl | (intros; simp_all; done)) ?_)
        refine aCall_lent _ (markIntSS_con ll 1 (fillK ll.length) (fillK_or _) hl2 hls2 ⟨by omega, by omega⟩) (by first | rfl | (simp only [toArgs, toArg, toCell, toCells, idx, row_mk, List.getElem?_cons_zero, List.getElem?_cons_succ, Option.bind_some, Option.map_some, Blk.row, fillK_mix, cond_true]; done) | (simp [toArgs, toArg, toCell, toCells, idx, row_mk, Blk.row, fillK_mix, Nat.beq_refl]; done)) rfl ⟨by simp [Blk.kindIs, fillK_mix], by simp⟩ (by first | exact .inl rfl | exact .inr (by simp [Blk.kindIs])) ⟨rfl, by simp [Blk.kindIs, fillK_fd]⟩ ?_
        refine k _ ?_; clear k K
        simp only [zY, zW, set_some, Nat.reduceEqDiff, reduceIte, V.ren, V.renL, List.set_cons_zero, List.set_cons_succ, Nat.reduceAdd]
        -- 11 := assign t52
        refine v_op ?_; intro K k
        simp only [zE, zS, aStepM, optable, set_some, Nat.reduceEqDiff, reduceIte, Nat.reduceLT, implies_true, forall_const, reduceCtorEq, V.ofValue, V.ofScalar, V.un, V.gd, aExec, aop, Nat.reduceAdd]
        repeat (refine And.intro (by first | omega | (intros; omega) | (intros; simp_all; done) | (intros; simp_all; omega)) ?_)
        refine k _ ?_; clear k K
        refine k30 _ ?_
        refine n29 _ _ (weak_keep [0, 1, 6, 7, 9, 10, 11] _) ?_
        simp only [keep_mk, keepE_nil, keepE_cons, look_cons, look_nil, Nat.reduceEqDiff, reduceIte]
        refine v_seq ?_; intro Q31 n31 e31 r31  -- SEQ 15
        refine v_seq ?_; intro Q32 n32 e32 r32  -- SEQ 16
        refine v_region ?_; intro K33 k33
        -- 53 := move t11
        refine v_op ?_; intro K k
        simp only [zE, aStepM, optable, set_some, Nat.reduceEqDiff, reduceIte, Nat.reduceLT, implies_true, forall_const, reduceCtorEq, V.ofValue, V.ofScalar, V.un, V.gd, aExec, aop]
        repeat (refine And.intro (by first | omega | (intros; omega) | (intros; simp_all; done) | (intros; simp_all; omega)) ?_)
        refine k _ ?_; clear k K
        -- 54 := binOp Go.BinOp.lss 3 t53 c<0:i64> 3
        refine v_op ?_; intro K k
        simp only [zE, aStepM, optable, set_some, Nat.reduceEqDiff, reduceIte, Nat.reduceLT, implies_true, forall_const, reduceCtorEq, V.ofValue, V.ofScalar, V.un, V.gd, aExec, aop, aBin, Try.underlying3]
        repeat (refine And.intro (by first | omega | (intros; omega) | (intros; simp_all; done) | (intros; simp_all; omega)) ?_)
        refine k _ ?_; clear k K
        -- 55 := move t54
        refine v_op ?_; intro K k
        simp only [zE, aStepM, optable, set_some, Nat.reduceEqDiff, reduceIte, Nat.reduceLT, implies_true, forall_const, reduceCtorEq, V.ofValue, V.ofScalar, V.un, V.gd, aExec, aop]
        repeat (refine And.intro (by first | omega | (intros; omega) | (intros; simp_all; done) | (intros; simp_all; omega)) ?_)
        refine k _ ?_; clear k K
        -- 56 := move t9
        first
        | refine v_pass 56 2 false rfl (show 56 < 101 by decide) rfl ?_ ?_
          · first | rfl | (simp only [zV, guardV, Nat.reduceEqDiff, reduceIte]; done)
          simp only [zW, set_some, Nat.reduceEqDiff, reduceIte]
        | skip
          -- 56 := move t9
          refine v_op ?_; intro K k
          simp only [zE, zG, aStepM, optable, set_some, Nat.reduceEqDiff, reduceIte, Nat.reduceLT, implies_true, forall_const, reduceCtorEq, V.ofValue, V.ofScalar, V.un, V.gd, guardV, V.wrap, aExec, aop]
          repeat (refine And.intro (by first | omega | (intros; omega) | (intros; simp_all; done) | (intros; simp_all; omega)) ?_)
          refine k _ ?_; clear k K
        -- 57 := move t6
        first
        | refine v_pass 57 2 false rfl (show 57 < 101 by decide) rfl ?_ ?_
          · first | rfl | (simp only [zV, guardV, Nat.reduceEqDiff, reduceIte]; done)
          simp only [zW, set_some, Nat.reduceEqDiff, reduceIte]
        | skip
          -- 57 := move t6
          refine v_op ?_; intro K k
          simp only [zE, zG, aStepM, optable, set_some, Nat.reduceEqDiff, reduceIte, Nat.reduceLT, implies_true, forall_const, reduceCtorEq, V.ofValue, V.ofScalar, V.un, V.gd, guardV, V.wrap, aExec, aop]
          repeat (refine And.intro (by first | omega | (intros; omega) | (intros; simp_all; done) | (intros; simp_all; omega)) ?_)
          refine k _ ?_; clear k K
        -- 58 := call v f20 t56 t57 | 33 33
        first
        | refine v_pass 58 2 false rfl (show 58 < 101 by decide) rfl ?_ ?_
          · first | rfl | (simp only [zV, guardV, Nat.reduceEqDiff, reduceIte]; done)
          simp only [zW, set_some, Nat.reduceEqDiff, reduceIte]
        | skip
          -- 58 := call v f20 t56 t57 | 33 33
          refine v_op ?_; intro K k
          simp only [zE, zG, aStepM, optable, set_some, Nat.reduceEqDiff, reduceIte, Nat.reduceLT, implies_true, forall_const, reduceCtorEq, V.ofValue, V.ofScalar, V.un, V.gd, guardV, Try.underlying3, Ty.c3, Ty.a3, Ty.b3, Ty.s3, Try.underlying4, Ty.c4, Ty.a4, Ty.b4, Ty.s4, Try.underlying33, Ty.c33, Ty.a33, Ty.b33, Ty.s33]
          simp only [zM, zW, aExec, lentIds, lendOf, set_some, Nat.reduceEqDiff, reduceIte, V.ofValue, V.ofScalar, V.un, V.gd, and_true, true_and, implies_true, and_self, decide_eq_true_eq]
          first | refine Exists.imp (fun r h => h) (aCall_guardT (eqIntS_con (shiftsR ll n) (shiftsR ll n) hT) (by first | rfl | (simp only [toArgs, toArg, toCell, toCells, idx, row_mk, List.getElem?_cons_zero, List.getElem?_cons_succ, Option.bind_some, Option.map_some, Blk.row, fillK_mix, cond_true]; done) | (simp [toArgs, toArg, toCell, toCells, idx, row_mk, Blk.row, fillK_mix, Nat.beq_refl]; done)) rfl rfl ?_) | refine Exists.imp (fun r h => h) (aCall_guard (by first | (intros; trivial) | (intros; simp_all; done)) (fun hg => eqIntS_con (shiftsR ll n) (shiftsR ll n) hT) rfl rfl rfl ?_)
          refine k _ ?_
          clear k K
        -- 59 := unOp Go.UnOp.not 4 t58
        first
        | refine v_pass 59 2 false rfl (show 59 < 101 by decide) rfl ?_ ?_
          · first | rfl | (simp only [zV, guardV, Nat.reduceEqDiff, reduceIte]; done)
          simp only [zW, set_some, Nat.reduceEqDiff, reduceIte]
        | skip
          -- 59 := unOp Go.UnOp.not 4 t58
          refine v_op ?_; intro K k
          simp only [zE, zG, aStepM, optable, set_some, Nat.reduceEqDiff, reduceIte, Nat.reduceLT, implies_true, forall_const, reduceCtorEq, V.ofValue, V.ofScalar, V.un, V.gd, guardV, V.wrap, aExec, aop, aUn, Try.underlying4]
          repeat (refine And.intro (by first | omega | (intros; omega) | (intros; simp_all; done) | (intros; simp_all; omega)) ?_)
          refine k _ ?_; clear k K
        -- 60 := pick t55 c<true> t59
        refine v_op ?_; intro K k
        simp only [zE, zP, aStepM, optable, set_some, Nat.reduceEqDiff, reduceIte, Nat.reduceLT, implies_true, forall_const, reduceCtorEq, V.ofValue, V.ofScalar, V.un, V.gd, aExec, aop, pickV]
        repeat (refine And.intro (by first | omega | (intros; omega) | (intros; simp_all; done) | (intros; simp_all; omega)) ?_)
        refine k _ ?_; clear k K
        -- 61 := move t60
        refine v_op ?_; intro K k
        simp only [zE, aStepM, optable, set_some, Nat.reduceEqDiff, reduceIte, Nat.reduceLT, implies_true, forall_const, reduceCtorEq, V.ofValue, V.ofScalar, V.un, V.gd, aExec, aop]
        repeat (refine And.intro (by first | omega | (intros; omega) | (intros; simp_all; done) | (intros; simp_all; omega)) ?_)
        refine k _ ?_; clear k K
        -- 62 := move t10
        first
        | refine v_pass 62 8 false rfl (show 62 < 101 by decide) rfl ?_ ?_
          · first | rfl | (simp only [zV, guardV, Nat.reduceEqDiff, reduceIte]; done)
          simp only [zW, set_some, Nat.reduceEqDiff, reduceIte]
        | skip
          -- 62 := move t10
          refine v_op ?_; intro K k
          simp only [zE, zG, aStepM, optable, set_some, Nat.reduceEqDiff, reduceIte, Nat.reduceLT, implies_true, forall_const, reduceCtorEq, V.ofValue, V.ofScalar, V.un, V.gd, guardV, V.wrap, aExec, aop]
          repeat (refine And.intro (by first | omega | (intros; omega) | (intros; simp_all; done) | (intros; simp_all; omega)) ?_)
          refine k _ ?_; clear k K
        -- 63 := move t7
        first
        | refine v_pass 63 8 false rfl (show 63 < 101 by decide) rfl ?_ ?_
          · first | rfl | (simp only [zV, guardV, Nat.reduceEqDiff, reduceIte]; done)
          simp only [zW, set_some, Nat.reduceEqDiff, reduceIte]
        | skip
          -- 63 := move t7
          refine v_op ?_; intro K k
          simp only [zE, zG, aStepM, optable, set_some, Nat.reduceEqDiff, reduceIte, Nat.reduceLT, implies_true, forall_const, reduceCtorEq, V.ofValue, V.ofScalar, V.un, V.gd, guardV, V.wrap, aExec, aop]
          repeat (refine And.intro (by first | omega | (intros; omega) | (intros; simp_all; done) | (intros; simp_all; omega)) ?_)
          refine k _ ?_; clear k K
        -- 64 := binOp Go.BinOp.neq 4 t62 t63 4
        first
        | refine v_pass 64 8 false rfl (show 64 < 101 by decide) rfl ?_ ?_
          · first | rfl | (simp only [zV, guardV, Nat.reduceEqDiff, reduceIte]; done)
          simp only [zW, set_some, Nat.reduceEqDiff, reduceIte]
        | skip
          -- 64 := binOp Go.BinOp.neq 4 t62 t63 4
          refine v_op ?_; intro K k
          simp only [zE, zG, aStepM, optable, set_some, Nat.reduceEqDiff, reduceIte, Nat.reduceLT, implies_true, forall_const, reduceCtorEq, V.ofValue, V.ofScalar, V.un, V.gd, guardV, V.wrap, aExec, aop, aBin, Try.underlying4]
          repeat (refine And.intro (by first | omega | (intros; omega) | (intros; simp_all; done) | (intros; simp_all; omega)) ?_)
          refine k _ ?_; clear k K
        -- 65 := pick t61 c<true> t64
        refine v_op ?_; intro K k
        simp only [zE, zP, aStepM, optable, set_some, Nat.reduceEqDiff, reduceIte, Nat.reduceLT, implies_true, forall_const, reduceCtorEq, V.ofValue, V.ofScalar, V.un, V.gd, aExec, aop, pickV]
        repeat (refine And.intro (by first | omega | (intros; omega) | (intros; simp_all; done) | (intros; simp_all; omega)) ?_)
        refine k _ ?_; clear k K
        refine k33 _ ?_
        refine n32 _ _ (weak_keep [0, 1, 6, 7, 9, 65] _) ?_
        simp only [keep_mk, keepE_nil, keepE_cons, look_cons, look_nil, Nat.reduceEqDiff, reduceIte]
        refine v_cond _ rfl ?_ ?_  -- COND 3
        · intro hc3
          exfalso; first | (simp at hc3; done) | (simp at hc3; omega)
        · intro hc3
          try simp only [zC, reduceCtorEq] at hc3
          refine v_skip ?_
          refine n31 _ _ (weak_keep [0, 1, 6, 7, 9] _) ?_
          simp only [keep_mk, keepE_nil, keepE_cons, look_cons, look_nil, Nat.reduceEqDiff, reduceIte]
          refine v_seq ?_; intro Q35 n35 e35 r35  -- SEQ 17
          refine v_region ?_; intro K36 k36
          -- 12 := assign c<1:i64>
          refine v_op ?_; intro K k
          simp only [zE, zS, aStepM, optable, set_some, Nat.reduceEqDiff, reduceIte, Nat.reduceLT, implies_true, forall_const, reduceCtorEq, V.ofValue, V.ofScalar, V.un, V.gd, aExec, aop, Nat.reduceAdd]
          repeat (refine And.intro (by first | omega | (intros; omega) | (intros; simp_all; done) | (intros; simp_all; omega)) ?_)
          refine k _ ?_; clear k K
          refine k36 _ ?_
          refine n35 _ _ (weak_keep [0, 1, 6, 7, 9, 12] _) ?_
          simp only [keep_mk, keepE_nil, keepE_cons, look_cons, look_nil, Nat.reduceEqDiff, reduceIte]
          refine v_seq ?_; intro Q37 n37 e37 r37  -- SEQ 18
          refine v_region ?_; intro K38 k38
          -- 66 := move t9
          refine v_op ?_; intro K k
          simp only [zE, aStepM, optable, set_some, Nat.reduceEqDiff, reduceIte, Nat.reduceLT, implies_true, forall_const, reduceCtorEq, V.ofValue, V.ofScalar, V.un, V.gd, aExec, aop]
          repeat (refine And.intro (by first | omega | (intros; omega) | (intros; simp_all; done) | (intros; simp_all; omega)) ?_)
          refine k _ ?_; clear k K
          -- 67 := move t12
          refine v_op ?_; intro K k
          simp only [zE, aStepM, optable, set_some, Nat.reduceEqDiff, reduceIte, Nat.reduceLT, implies_true, forall_const, reduceCtorEq, V.ofValue, V.ofScalar, V.un, V.gd, aExec, aop]
          repeat (refine And.intro (by first | omega | (intros; omega) | (intros; simp_all; done) | (intros; simp_all; omega)) ?_)
          refine k _ ?_; clear k K
          -- 68 := call v f22 t66 t67 | 33 3
          refine v_op ?_; intro K k
          simp only [zE, zM, aStepM, optable, set_some, Nat.reduceEqDiff, reduceIte, Nat.reduceLT, implies_true, forall_const, reduceCtorEq, V.ofValue, V.ofScalar, V.un, V.gd, aExec, lentIds, lendOf, Try.underlying3, Ty.c3, Ty.a3, Ty.b3, Ty.s3, Try.underlying33, Ty.c33, Ty.a33, Ty.b33, Ty.s33]
          repeat (refine And.intro (by first | rfl | (intros; simp_all; done)) ?_)
          refine aCall_lent _ (markIntS_con (shiftsR ll n) 1 hT (by omega)) (by first | rfl | (simp only [toArgs, toArg, toCell, toCells, idx, row_mk, List.getElem?_cons_zero, List.getElem?_cons_succ, Option.bind_some, Option.map_some, Blk.row, fillK_mix, cond_true]; done) | (simp [toArgs, toArg, toCell, toCells, idx, row_mk, Blk.row, fillK_mix, Nat.beq_refl]; done)) rfl ⟨by simp [Blk.kindIs, fillK_mix], by simp⟩ (by first | exact .inl rfl | exact .inr (by simp [Blk.kindIs])) ⟨rfl, by simp [Blk.kindIs, fillK_fd]⟩ ?_
          refine k _ ?_; clear k K
          simp only [zY, zW, set_some, Nat.reduceEqDiff, reduceIte, V.ren, V.renL, List.set_cons_zero, List.set_cons_succ, Nat.reduceAdd]
          -- 12 := assign t68
          refine v_op ?_; intro K k
          simp only [zE, zS, aStepM, optable, set_some, Nat.reduceEqDiff, reduceIte, Nat.reduceLT, implies_true, forall_const, reduceCtorEq, V.ofValue, V.ofScalar, V.un, V.gd, aExec, aop, Nat.reduceAdd]
          repeat (refine And.intro (by first | omega | (intros; omega) | (intros; simp_all; done) | (intros; simp_all; omega)) ?_)
          refine k _ ?_; clear k K
          refine k38 _ ?_
          refine n37 _ _ (weak_keep [0, 1, 6, 7, 9, 12] _) ?_
          simp only [keep_mk, keepE_nil, keepE_cons, look_cons, look_nil, Nat.reduceEqDiff, reduceIte]
          refine v_seq ?_; intro Q39 n39 e39 r39  -- SEQ 19
          refine v_region ?_; intro K40 k40
          -- 13 := assign c<1:i64>
          refine v_op ?_; intro K k
          simp only [zE, zS, aStepM, optable, set_some, Nat.reduceEqDiff, reduceIte, Nat.reduceLT, implies_true, forall_const, reduceCtorEq, V.ofValue, V.ofScalar, V.un, V.gd, aExec, aop, Nat.reduceAdd]
          repeat (refine And.intro (by first | omega | (intros; omega) | (intros; simp_all; done) | (intros; simp_all; omega)) ?_)
          refine k _ ?_; clear k K
          refine k40 _ ?_
          refine n39 _ _ (weak_keep [0, 1, 6, 7, 9, 12, 13] _) ?_
          simp only [keep_mk, keepE_nil, keepE_cons, look_cons, look_nil, Nat.reduceEqDiff, reduceIte]
          refine v_seq ?_; intro Q41 n41 e41 r41  -- SEQ 20
          refine v_region ?_; intro K42 k42
          -- 69 := move t9
          refine v_op ?_; intro K k
          simp only [zE, aStepM, optable, set_some, Nat.reduceEqDiff, reduceIte, Nat.reduceLT, implies_true, forall_const, reduceCtorEq, V.ofValue, V.ofScalar, V.un, V.gd, aExec, aop]
          repeat (refine And.intro (by first | omega | (intros; omega) | (intros; simp_all; done) | (intros; simp_all; omega)) ?_)
          refine k _ ?_; clear k K
          -- 70 := move t13
          refine v_op ?_; intro K k
          simp only [zE, aStepM, optable, set_some, Nat.reduceEqDiff, reduceIte, Nat.reduceLT, implies_true, forall_const, reduceCtorEq, V.ofValue, V.ofScalar, V.un, V.gd, aExec, aop]
          repeat (refine And.intro (by first | omega | (intros; omega) | (intros; simp_all; done) | (intros; simp_all; omega)) ?_)
          refine k _ ?_; clear k K
          -- 71 := call v f23 t69 t70 | 33 3
          refine v_op ?_; intro K k
          simp only [zE, zM, aStepM, optable, set_some, Nat.reduceEqDiff, reduceIte, Nat.reduceLT, implies_true, forall_const, reduceCtorEq, V.ofValue, V.ofScalar, V.un, V.gd, aExec, lentIds, lendOf, Try.underlying3, Ty.c3, Ty.a3, Ty.b3, Ty.s3, Try.underlying33, Ty.c33, Ty.a33, Ty.b33, Ty.s33]
          repeat (refine And.intro (by first | rfl | (intros; simp_all; done)) ?_)
          refine aCall_new (heldIntS_con 1 (shiftsR ll n).length hT (by omega)) (by first | rfl | (simp only [toArgs, toArg, toCell, toCells, idx, row_mk, List.getElem?_cons_zero, List.getElem?_cons_succ, Option.bind_some, Option.map_some, Blk.row, fillK_mix, cond_true]; done) | (simp [toArgs, toArg, toCell, toCells, idx, row_mk, Blk.row, fillK_mix, Nat.beq_refl]; done)) (by first | exact .inl ⟨rfl, by simp [Blk.kindIs, fillK_fd]⟩ | exact .inr (by simp [V.cold])) ?_
          refine k _ ?_; clear k K
          simp only [zY, zW, set_some, Nat.reduceEqDiff, reduceIte, V.ren, V.renL, rho, Nat.reduceAdd]
          -- 13 := assign t71
          refine v_op ?_; intro K k
          simp only [zE, zS, aStepM, optable, set_some, Nat.reduceEqDiff, reduceIte, Nat.reduceLT, implies_true, forall_const, reduceCtorEq, V.ofValue, V.ofScalar, V.un, V.gd, aExec, aop, Nat.reduceAdd]
          repeat (refine And.intro (by first | omega | (intros; omega) | (intros; simp_all; done) | (intros; simp_all; omega)) ?_)
          refine k _ ?_; clear k K
          refine k42 _ ?_
          refine n41 _ _ (weak_keep [0, 1, 6, 7, 9, 12, 13] _) ?_
          simp only [keep_mk, keepE_nil, keepE_cons, look_cons, look_nil, Nat.reduceEqDiff, reduceIte]
          refine v_seq ?_; intro Q43 n43 e43 r43  -- SEQ 21
          refine v_seq ?_; intro Q44 n44 e44 r44  -- SEQ 22
          refine v_region ?_; intro K45 k45
          -- 72 := move t13
          refine v_op ?_; intro K k
          simp only [zE, aStepM, optable, set_some, Nat.reduceEqDiff, reduceIte, Nat.reduceLT, implies_true, forall_const, reduceCtorEq, V.ofValue, V.ofScalar, V.un, V.gd, aExec, aop]
          repeat (refine And.intro (by first | omega | (intros; omega) | (intros; simp_all; done) | (intros; simp_all; omega)) ?_)
          refine k _ ?_; clear k K
          -- 73 := binOp Go.BinOp.lss 3 t72 c<0:i64> 3
          refine v_op ?_; intro K k
          simp only [zE, aStepM, optable, set_some, Nat.reduceEqDiff, reduceIte, Nat.reduceLT, implies_true, forall_const, reduceCtorEq, V.ofValue, V.ofScalar, V.un, V.gd, aExec, aop, aBin, Try.underlying3]
          repeat (refine And.intro (by first | omega | (intros; omega) | (intros; simp_all; done) | (intros; simp_all; omega)) ?_)
          refine k _ ?_; clear k K
          refine k45 _ ?_
          refine n44 _ _ (weak_keep [0, 1, 6, 7, 9, 12, 13, 73] _) ?_
          simp only [keep_mk, keepE_nil, keepE_cons, look_cons, look_nil, Nat.reduceEqDiff, reduceIte]
          refine v_cond _ rfl ?_ ?_  -- COND 4
          · intro hc4
            exfalso; first | (simp at hc4; done) | (simp at hc4; omega)
          · intro hc4
            try simp only [zC, reduceCtorEq] at hc4
            refine v_skip ?_
            refine n43 _ _ (weak_keep [0, 1, 6, 7, 9, 12, 13] _) ?_
            simp only [keep_mk, keepE_nil, keepE_cons, look_cons, look_nil, Nat.reduceEqDiff, reduceIte]
            refine v_seq ?_; intro Q47 n47 e47 r47  -- SEQ 23
            refine v_seq ?_; intro Q48 n48 e48 r48  -- SEQ 24
            refine v_region ?_; intro K49 k49
            -- 74 := move t13
            refine v_op ?_; intro K k
            simp only [zE, aStepM, optable, set_some, Nat.reduceEqDiff, reduceIte, Nat.reduceLT, implies_true, forall_const, reduceCtorEq, V.ofValue, V.ofScalar, V.un, V.gd, aExec, aop]
            repeat (refine And.intro (by first | omega | (intros; omega) | (intros; simp_all; done) | (intros; simp_all; omega)) ?_)
            refine k _ ?_; clear k K
            -- 75 := move t12
            refine v_op ?_; intro K k
            simp only [zE, aStepM, optable, set_some, Nat.reduceEqDiff, reduceIte, Nat.reduceLT, implies_true, forall_const, reduceCtorEq, V.ofValue, V.ofScalar, V.un, V.gd, aExec, aop]
            repeat (refine And.intro (by first | omega | (intros; omega) | (intros; simp_all; done) | (intros; simp_all; omega)) ?_)
            refine k _ ?_; clear k K
            -- 76 := binOp Go.BinOp.neq 3 t74 t75 3
            refine v_op ?_; intro K k
            simp only [zE, aStepM, optable, set_some, Nat.reduceEqDiff, reduceIte, Nat.reduceLT, implies_true, forall_const, reduceCtorEq, V.ofValue, V.ofScalar, V.un, V.gd, aExec, aop, aBin, Try.underlying3]
            repeat (refine And.intro (by first | omega | (intros; omega) | (intros; simp_all; done) | (intros; simp_all; omega)) ?_)
            refine k _ ?_; clear k K
            refine k49 _ ?_
            refine n48 _ _ (weak_keep [0, 1, 6, 7, 9, 12, 76] _) ?_
            simp only [keep_mk, keepE_nil, keepE_cons, look_cons, look_nil, Nat.reduceEqDiff, reduceIte]
            refine v_cond _ rfl ?_ ?_  -- COND 5
            · intro hc5
              exfalso; first | (simp at hc5; done) | (simp at hc5; omega)
            · intro hc5
              try simp only [zC, reduceCtorEq] at hc5
              refine v_skip ?_
              refine n47 _ _ (weak_keep [0, 1, 6, 7, 9, 12] _) ?_
              simp only [keep_mk, keepE_nil, keepE_cons, look_cons, look_nil, Nat.reduceEqDiff, reduceIte]
              refine v_seq ?_; intro Q51 n51 e51 r51  -- SEQ 25
              refine v_region ?_; intro K52 k52
              -- 78 := move t0
              refine v_op ?_; intro K k
              simp only [zE, aStepM, optable, set_some, Nat.reduceEqDiff, reduceIte, Nat.reduceLT, implies_true, forall_const, reduceCtorEq, V.ofValue, V.ofScalar, V.un, V.gd, aExec, aop]
              repeat (refine And.intro (by first | omega | (intros; omega) | (intros; simp_all; done) | (intros; simp_all; omega)) ?_)
              refine k _ ?_; clear k K
              -- 79 := call v f15 t78 | 28
              refine v_op ?_; intro K k
              simp only [zE, zM, aStepM, optable, set_some, Nat.reduceEqDiff, reduceIte, Nat.reduceLT, implies_true, forall_const, reduceCtorEq, V.ofValue, V.ofScalar, V.un, V.gd, aExec, lentIds, lendOf, Try.underlying28, Ty.c28, Ty.a28, Ty.b28, Ty.s28, Try.underlying33, Ty.c33, Ty.a33, Ty.b33, Ty.s33]
              repeat (refine And.intro (by first | rfl | (intros; simp_all; done)) ?_)
              refine aCall_new (toIntSS_con ll hl2 hls2) (by first | rfl | (simp only [toArgs, toArg, toCell, toCells, idx, row_mk, List.getElem?_cons_zero, List.getElem?_cons_succ, Option.bind_some, Option.map_some, Blk.row, fillK_mix, cond_true]; done) | (simp [toArgs, toArg, toCell, toCells, idx, row_mk, Blk.row, fillK_mix, Nat.beq_refl]; done)) (by first | exact .inl ⟨rfl, by simp [Blk.kindIs, fillK_fd]⟩ | exact .inr (by simp [V.cold])) ?_
              refine k _ ?_; clear k K
              simp only [zY, zW, set_some, Nat.reduceEqDiff, reduceIte, V.ren, V.renL, rho, Nat.reduceAdd]
              -- 80 := move t1
              refine v_op ?_; intro K k
              simp only [zE, aStepM, optable, set_some, Nat.reduceEqDiff, reduceIte, Nat.reduceLT, implies_true, forall_const, reduceCtorEq, V.ofValue, V.ofScalar, V.un, V.gd, aExec, aop]
              repeat (refine And.intro (by first | omega | (intros; omega) | (intros; simp_all; done) | (intros; simp_all; omega)) ?_)
              refine k _ ?_; clear k K
              -- 81 := call v f19 t79 t80 | 28 3
              refine v_op ?_; intro K k
              simp only [zE, zM, aStepM, optable, set_some, Nat.reduceEqDiff, reduceIte, Nat.reduceLT, implies_true, forall_const, reduceCtorEq, V.ofValue, V.ofScalar, V.un, V.gd, aExec, lentIds, lendOf, Try.underlying3, Ty.c3, Ty.a3, Ty.b3, Ty.s3, Try.underlying28, Ty.c28, Ty.a28, Ty.b28, Ty.s28, Try.underlying33, Ty.c33, Ty.a33, Ty.b33, Ty.s33]
              repeat (refine And.intro (by first | rfl | (intros; simp_all; done)) ?_)
              refine aCall_new (implShiftsOf_con ll n hl2 hls2) (by first | rfl | (simp only [toArgs, toArg, toCell, toCells, idx, row_mk, List.getElem?_cons_zero, List.getElem?_cons_succ, Option.bind_some, Option.map_some, Blk.row, fillK_mix, cond_true]; done) | (simp [toArgs, toArg, toCell, toCells, idx, row_mk, Blk.row, fillK_mix, Nat.beq_refl]; done)) (by first | exact .inl ⟨rfl, by simp [Blk.kindIs, fillK_fd]⟩ | exact .inr (by simp [V.cold])) ?_
              refine k _ ?_; clear k K
              simp only [zY, zW, set_some, Nat.reduceEqDiff, reduceIte, V.ren, V.renL, rho, Nat.reduceAdd]
              -- 77 := move t81
              refine v_op ?_; intro K k
              simp only [zE, aStepM, optable, set_some, Nat.reduceEqDiff, reduceIte, Nat.reduceLT, implies_true, forall_const, reduceCtorEq, V.ofValue, V.ofScalar, V.un, V.gd, aExec, aop]
              repeat (refine And.intro (by first | omega | (intros; omega) | (intros; simp_all; done) | (intros; simp_all; omega)) ?_)
              refine k _ ?_; clear k K
              -- 82 := extract t77 0
              refine v_op ?_; intro K k
              simp only [zE, zL, zN, aStepM, optable, set_some, Nat.reduceEqDiff, reduceIte, Nat.reduceLT, implies_true, forall_const, reduceCtorEq, V.ofValue, V.ofScalar, V.un, V.gd, aExec, aop, aExtract, Nat.reduceAdd, Nat.reduceLeDiff, Nat.reduceMul]
              repeat (refine And.intro (by first | omega | (intros; omega) | (intros; simp_all; done) | (intros; simp_all; omega)) ?_)
              refine k _ ?_; clear k K
              -- 83 := extract t77 1
              refine v_op ?_; intro K k
              simp only [zE, zL, zN, aStepM, optable, set_some, Nat.reduceEqDiff, reduceIte, Nat.reduceLT, implies_true, forall_const, reduceCtorEq, V.ofValue, V.ofScalar, V.un, V.gd, aExec, aop, aExtract, Nat.reduceAdd, Nat.reduceLeDiff, Nat.reduceMul]
              repeat (refine And.intro (by first | omega | (intros; omega) | (intros; simp_all; done) | (intros; simp_all; omega)) ?_)
              refine k _ ?_; clear k K
              -- 14 := assign t82
              refine v_op ?_; intro K k
              simp only [zE, zS, aStepM, optable, set_some, Nat.reduceEqDiff, reduceIte, Nat.reduceLT, implies_true, forall_const, reduceCtorEq, V.ofValue, V.ofScalar, V.un, V.gd, aExec, aop, Nat.reduceAdd]
              repeat (refine And.intro (by first | omega | (intros; omega) | (intros; simp_all; done) | (intros; simp_all; omega)) ?_)
              refine k _ ?_; clear k K
              -- 15 := assign t83
              refine v_op ?_; intro K k
              simp only [zE, zS, aStepM, optable, set_some, Nat.reduceEqDiff, reduceIte, Nat.reduceLT, implies_true, forall_const, reduceCtorEq, V.ofValue, V.ofScalar, V.un, V.gd, aExec, aop, Nat.reduceAdd]
              repeat (refine And.intro (by first | omega | (intros; omega) | (intros; simp_all; done) | (intros; simp_all; omega)) ?_)
              refine k _ ?_; clear k K
              refine k52 _ ?_
              refine n51 _ _ (weak_keep [6, 7, 9, 12, 14, 15] _) ?_
              simp only [keep_mk, keepE_nil, keepE_cons, look_cons, look_nil, Nat.reduceEqDiff, reduceIte]
              refine v_seq ?_; intro Q53 n53 e53 r53  -- SEQ 26
              refine v_seq ?_; intro Q54 n54 e54 r54  -- SEQ 27
              refine v_region ?_; intro K55 k55
              -- 84 := move t14
              refine v_op ?_; intro K k
              simp only [zE, aStepM, optable, set_some, Nat.reduceEqDiff, reduceIte, Nat.reduceLT, implies_true, forall_const, reduceCtorEq, V.ofValue, V.ofScalar, V.un, V.gd, aExec, aop]
              repeat (refine And.intro (by first | omega | (intros; omega) | (intros; simp_all; done) | (intros; simp_all; omega)) ?_)
              refine k _ ?_; clear k K
              -- 85 := move t6
              refine v_op ?_; intro K k
              simp only [zE, aStepM, optable, set_some, Nat.reduceEqDiff, reduceIte, Nat.reduceLT, implies_true, forall_const, reduceCtorEq, V.ofValue, V.ofScalar, V.un, V.gd, aExec, aop]
              repeat (refine And.intro (by first | omega | (intros; omega) | (intros; simp_all; done) | (intros; simp_all; omega)) ?_)
              refine k _ ?_; clear k K
              -- 86 := call v f20 t84 t85 | 33 33
              refine v_op ?_; intro K k
              simp only [zE, zM, aStepM, optable, set_some, Nat.reduceEqDiff, reduceIte, Nat.reduceLT, implies_true, forall_const, reduceCtorEq, V.ofValue, V.ofScalar, V.un, V.gd, aExec, lentIds, lendOf, Try.underlying3, Ty.c3, Ty.a3, Ty.b3, Ty.s3, Try.underlying4, Ty.c4, Ty.a4, Ty.b4, Ty.s4, Try.underlying33, Ty.c33, Ty.a33, Ty.b33, Ty.s33]
              repeat (refine And.intro (by first | rfl | (intros; simp_all; done)) ?_)
              refine aCall_new (eqIntS_con (shiftsR ll n) (shiftsR ll n) hT) (by first | rfl | (simp only [toArgs, toArg, toCell, toCells, idx, row_mk, List.getElem?_cons_zero, List.getElem?_cons_succ, Option.bind_some, Option.map_some, Blk.row, fillK_mix, cond_true]; done) | (simp [toArgs, toArg, toCell, toCells, idx, row_mk, Blk.row, fillK_mix, Nat.beq_refl]; done)) (by first | exact .inl ⟨rfl, by simp [Blk.kindIs, fillK_fd]⟩ | exact .inr (by simp [V.cold])) ?_
              refine k _ ?_; clear k K
              simp only [zY, zW, set_some, Nat.reduceEqDiff, reduceIte, V.ren, V.renL, rho, Nat.reduceAdd]
              -- 87 := unOp Go.UnOp.not 4 t86
              refine v_op ?_; intro K k
              simp only [zE, aStepM, optable, set_some, Nat.reduceEqDiff, reduceIte, Nat.reduceLT, implies_true, forall_const, reduceCtorEq, V.ofValue, V.ofScalar, V.un, V.gd, aExec, aop, aUn, Try.underlying4]
              repeat (refine And.intro (by first | omega | (intros; omega) | (intros; simp_all; done) | (intros; simp_all; omega)) ?_)
              refine k _ ?_; clear k K
              -- 88 := move t87
              refine v_op ?_; intro K k
              simp only [zE, aStepM, optable, set_some, Nat.reduceEqDiff, reduceIte, Nat.reduceLT, implies_true, forall_const, reduceCtorEq, V.ofValue, V.ofScalar, V.un, V.gd, aExec, aop]
              repeat (refine And.intro (by first | omega | (intros; omega) | (intros; simp_all; done) | (intros; simp_all; omega)) ?_)
              refine k _ ?_; clear k K
              -- 89 := move t15
              first
              | refine v_pass 89 4 false rfl (show 89 < 101 by decide) rfl ?_ ?_
                · first | rfl | (simp only [zV, guardV, Nat.reduceEqDiff, reduceIte]; done)
                simp only [zW, set_some, Nat.reduceEqDiff, reduceIte]
              | skip
                -- 89 := move t15
                refine v_op ?_; intro K k
                simp only [zE, zG, aStepM, optable, set_some, Nat.reduceEqDiff, reduceIte, Nat.reduceLT, implies_true, forall_const, reduceCtorEq, V.ofValue, V.ofScalar, V.un, V.gd, guardV, V.wrap, aExec, aop]
                repeat (refine And.intro (by first | omega | (intros; omega) | (intros; simp_all; done) | (intros; simp_all; omega)) ?_)
                refine k _ ?_; clear k K
              -- 90 := move t7
              first
              | refine v_pass 90 4 false rfl (show 90 < 101 by decide) rfl ?_ ?_
                · first | rfl | (simp only [zV, guardV, Nat.reduceEqDiff, reduceIte]; done)
                simp only [zW, set_some, Nat.reduceEqDiff, reduceIte]
              | skip
                -- 90 := move t7
                refine v_op ?_; intro K k
                simp only [zE, zG, aStepM, optable, set_some, Nat.reduceEqDiff, reduceIte, Nat.reduceLT, implies_true, forall_const, reduceCtorEq, V.ofValue, V.ofScalar, V.un, V.gd, guardV, V.wrap, aExec, aop]
                repeat (refine And.intro (by first | omega | (intros; omega) | (intros; simp_all; done) | (intros; simp_all; omega)) ?_)
                refine k _ ?_; clear k K
              -- 91 := binOp Go.BinOp.neq 4 t89 t90 4
              first
              | refine v_pass 91 4 false rfl (show 91 < 101 by decide) rfl ?_ ?_
                · first | rfl | (simp only [zV, guardV, Nat.reduceEqDiff, reduceIte]; done)
                simp only [zW, set_some, Nat.reduceEqDiff, reduceIte]
              | skip
                -- 91 := binOp Go.BinOp.neq 4 t89 t90 4
                refine v_op ?_; intro K k
                simp only [zE, zG, aStepM, optable, set_some, Nat.reduceEqDiff, reduceIte, Nat.reduceLT, implies_true, forall_const, reduceCtorEq, V.ofValue, V.ofScalar, V.un, V.gd, guardV, V.wrap, aExec, aop, aBin, Try.underlying4]
                repeat (refine And.intro (by first | omega | (intros; omega) | (intros; simp_all; done) | (intros; simp_all; omega)) ?_)
                refine k _ ?_; clear k K
              -- 92 := pick t88 c<true> t91
              refine v_op ?_; intro K k
              simp only [zE, zP, aStepM, optable, set_some, Nat.reduceEqDiff, reduceIte, Nat.reduceLT, implies_true, forall_const, reduceCtorEq, V.ofValue, V.ofScalar, V.un, V.gd, aExec, aop, pickV]
              repeat (refine And.intro (by first | omega | (intros; omega) | (intros; simp_all; done) | (intros; simp_all; omega)) ?_)
              refine k _ ?_; clear k K
              refine k55 _ ?_
              refine n54 _ _ (weak_keep [9, 12, 92] _) ?_
              simp only [keep_mk, keepE_nil, keepE_cons, look_cons, look_nil, Nat.reduceEqDiff, reduceIte]
              refine v_cond _ rfl ?_ ?_  -- COND 6
              · intro hc6
                exfalso; first | (simp at hc6; done) | (simp at hc6; omega)
              · intro hc6
                try simp only [zC, reduceCtorEq] at hc6
                refine v_skip ?_
                refine n53 _ _ (weak_keep [9, 12] _) ?_
                simp only [keep_mk, keepE_nil, keepE_cons, look_cons, look_nil, Nat.reduceEqDiff, reduceIte]
                refine v_seq ?_; intro Q57 n57 e57 r57  -- SEQ 28
                refine v_region ?_; intro K58 k58
                -- 13 := assign c<1:i64>
                refine v_op ?_; intro K k
                simp only [zE, zS, aStepM, optable, set_some, Nat.reduceEqDiff, reduceIte, Nat.reduceLT, implies_true, forall_const, reduceCtorEq, V.ofValue, V.ofScalar, V.un, V.gd, aExec, aop, Nat.reduceAdd]
                repeat (refine And.intro (by first | omega | (intros; omega) | (intros; simp_all; done) | (intros; simp_all; omega)) ?_)
                refine k _ ?_; clear k K
                refine k58 _ ?_
                refine n57 _ _ (weak_keep [9, 12, 13] _) ?_
                simp only [keep_mk, keepE_nil, keepE_cons, look_cons, look_nil, Nat.reduceEqDiff, reduceIte]
                refine v_seq ?_; intro Q59 n59 e59 r59  -- SEQ 29
                refine v_region ?_; intro K60 k60
                -- 93 := move t9
                refine v_op ?_; intro K k
                simp only [zE, aStepM, optable, set_some, Nat.reduceEqDiff, reduceIte, Nat.reduceLT, implies_true, forall_const, reduceCtorEq, V.ofValue, V.ofScalar, V.un, V.gd, aExec, aop]
                repeat (refine And.intro (by first | omega | (intros; omega) | (intros; simp_all; done) | (intros; simp_all; omega)) ?_)
                refine k _ ?_; clear k K
                -- 94 := move t13
                refine v_op ?_; intro K k
                simp only [zE, aStepM, optable, set_some, Nat.reduceEqDiff, reduceIte, Nat.reduceLT, implies_true, forall_const, reduceCtorEq, V.ofValue, V.ofScalar, V.un, V.gd, aExec, aop]
                repeat (refine And.intro (by first | omega | (intros; omega) | (intros; simp_all; done) | (intros; simp_all; omega)) ?_)
                refine k _ ?_; clear k K
                -- 95 := call v f23 t93 t94 | 33 3
                refine v_op ?_; intro K k
                simp only [zE, zM, aStepM, optable, set_some, Nat.reduceEqDiff, reduceIte, Nat.reduceLT, implies_true, forall_const, reduceCtorEq, V.ofValue, V.ofScalar, V.un, V.gd, aExec, lentIds, lendOf, Try.underlying3, Ty.c3, Ty.a3, Ty.b3, Ty.s3, Try.underlying33, Ty.c33, Ty.a33, Ty.b33, Ty.s33]
                repeat (refine And.intro (by first | rfl | (intros; simp_all; done)) ?_)
                refine aCall_new (heldIntS_con 1 (shiftsR ll n).length hT (by omega)) (by first | rfl | (simp only [toArgs, toArg, toCell, toCells, idx, row_mk, List.getElem?_cons_zero, List.getElem?_cons_succ, Option.bind_some, Option.map_some, Blk.row, fillK_mix, cond_true]; done) | (simp [toArgs, toArg, toCell, toCells, idx, row_mk, Blk.row, fillK_mix, Nat.beq_refl]; done)) (by first | exact .inl ⟨rfl, by simp [Blk.kindIs, fillK_fd]⟩ | exact .inr (by simp [V.cold])) ?_
                refine k _ ?_; clear k K
                simp only [zY, zW, set_some, Nat.reduceEqDiff, reduceIte, V.ren, V.renL, rho, Nat.reduceAdd]
                -- 13 := assign t95
                refine v_op ?_; intro K k
                simp only [zE, zS, aStepM, optable, set_some, Nat.reduceEqDiff, reduceIte, Nat.reduceLT, implies_true, forall_const, reduceCtorEq, V.ofValue, V.ofScalar, V.un, V.gd, aExec, aop, Nat.reduceAdd]
                repeat (refine And.intro (by first | omega | (intros; omega) | (intros; simp_all; done) | (intros; simp_all; omega)) ?_)
                refine k _ ?_; clear k K
                refine k60 _ ?_
                refine n59 _ _ (weak_keep [12, 13] _) ?_
                simp only [keep_mk, keepE_nil, keepE_cons, look_cons, look_nil, Nat.reduceEqDiff, reduceIte]
                refine v_seq ?_; intro Q61 n61 e61 r61  -- SEQ 30
                refine v_seq ?_; intro Q62 n62 e62 r62  -- SEQ 31
                refine v_region ?_; intro K63 k63
                -- 96 := move t13
                refine v_op ?_; intro K k
                simp only [zE, aStepM, optable, set_some, Nat.reduceEqDiff, reduceIte, Nat.reduceLT, implies_true, forall_const, reduceCtorEq, V.ofValue, V.ofScalar, V.un, V.gd, aExec, aop]
                repeat (refine And.intro (by first | omega | (intros; omega) | (intros; simp_all; done) | (intros; simp_all; omega)) ?_)
                refine k _ ?_; clear k K
                -- 97 := binOp Go.BinOp.lss 3 t96 c<0:i64> 3
                refine v_op ?_; intro K k
                simp only [zE, aStepM, optable, set_some, Nat.reduceEqDiff, reduceIte, Nat.reduceLT, implies_true, forall_const, reduceCtorEq, V.ofValue, V.ofScalar, V.un, V.gd, aExec, aop, aBin, Try.underlying3]
                repeat (refine And.intro (by first | omega | (intros; omega) | (intros; simp_all; done) | (intros; simp_all; omega)) ?_)
                refine k _ ?_; clear k K
                refine k63 _ ?_
                refine n62 _ _ (weak_keep [12, 13, 97] _) ?_
                simp only [keep_mk, keepE_nil, keepE_cons, look_cons, look_nil, Nat.reduceEqDiff, reduceIte]
                refine v_cond _ rfl ?_ ?_  -- COND 7
                · intro hc7
                  exfalso; first | (simp at hc7; done) | (simp at hc7; omega)
                · intro hc7
                  try simp only [zC, reduceCtorEq] at hc7
                  refine v_skip ?_
                  refine n61 _ _ (weak_keep [12, 13] _) ?_
                  simp only [keep_mk, keepE_nil, keepE_cons, look_cons, look_nil, Nat.reduceEqDiff, reduceIte]
                  refine v_seq ?_; intro Q65 n65 e65 r65  -- SEQ 32
                  refine v_seq ?_; intro Q66 n66 e66 r66  -- SEQ 33
                  refine v_region ?_; intro K67 k67
                  -- 98 := move t13
                  refine v_op ?_; intro K k
                  simp only [zE, aStepM, optable, set_some, Nat.reduceEqDiff, reduceIte, Nat.reduceLT, implies_true, forall_const, reduceCtorEq, V.ofValue, V.ofScalar, V.un, V.gd, aExec, aop]
                  repeat (refine And.intro (by first | omega | (intros; omega) | (intros; simp_all; done) | (intros; simp_all; omega)) ?_)
                  refine k _ ?_; clear k K
                  -- 99 := move t12
                  refine v_op ?_; intro K k
                  simp only [zE, aStepM, optable, set_some, Nat.reduceEqDiff, reduceIte, Nat.reduceLT, implies_true, forall_const, reduceCtorEq, V.ofValue, V.ofScalar, V.un, V.gd, aExec, aop]
                  repeat (refine And.intro (by first | omega | (intros; omega) | (intros; simp_all; done) | (intros; simp_all; omega)) ?_)
                  refine k _ ?_; clear k K
                  -- 100 := binOp Go.BinOp.neq 3 t98 t99 3
                  refine v_op ?_; intro K k
                  simp only [zE, aStepM, optable, set_some, Nat.reduceEqDiff, reduceIte, Nat.reduceLT, implies_true, forall_const, reduceCtorEq, V.ofValue, V.ofScalar, V.un, V.gd, aExec, aop, aBin, Try.underlying3]
                  repeat (refine And.intro (by first | omega | (intros; omega) | (intros; simp_all; done) | (intros; simp_all; omega)) ?_)
                  refine k _ ?_; clear k K
                  refine k67 _ ?_
                  refine n66 _ _ (weak_keep [100] _) ?_
                  simp only [keep_mk, keepE_nil, keepE_cons, look_cons, look_nil, Nat.reduceEqDiff, reduceIte]
                  refine v_cond _ rfl ?_ ?_  -- COND 8
                  · intro hc8
                    exfalso; first | (simp at hc8; done) | (simp at hc8; omega)
                  · intro hc8
                    try simp only [zC, reduceCtorEq] at hc8
                    refine v_skip ?_
                    refine n65 _ _ (weak_keep [] _) ?_
                    simp only [keep_mk, keepE_nil, keepE_cons, look_cons, look_nil, Nat.reduceEqDiff, reduceIte]
                    refine v_seq ?_; intro Q69 n69 e69 r69  -- SEQ 34
                    refine v_region ?_; intro K70 k70
                    -- 4 := assign c<true>
                    refine v_op ?_; intro K k
                    simp only [zE, zS, aStepM, optable, set_some, Nat.reduceEqDiff, reduceIte, Nat.reduceLT, implies_true, forall_const, reduceCtorEq, V.ofValue, V.ofScalar, V.un, V.gd, aExec, aop, Nat.reduceAdd]
                    repeat (refine And.intro (by first | omega | (intros; omega) | (intros; simp_all; done) | (intros; simp_all; omega)) ?_)
                    refine k _ ?_; clear k K
                    refine k70 _ ?_
                    refine n69 _ _ (weak_keep [4] _) ?_
                    simp only [keep_mk, keepE_nil, keepE_cons, look_cons, look_nil, Nat.reduceEqDiff, reduceIte]
                    refine v_ret ?_
                    refine r0 _ ?_
                    simp only [resK, pickRV, get_mk, look_cons, look_nil, Nat.reduceEqDiff, reduceIte, List.map_cons, List.map_nil]
                    exact ret_pure rfl rfl (.inl rfl)
end Go.Proofs.Ythehbhfjapinnaa
