/- What functions compute (LawTimeForShare). No condition. -/
import Derived.Test.YtldnelkcmffiaaaTy
import Derived.Test.YtldnelkcmffiaaaVm21
import Derived.Test.YtldnelkcmffiaaaWSzL
import Derived.Test.YtldnelkcmffiaaaWZTurnout
import Derived.Test.YtldnelkcmffiaaaWTTurnout
import Derived.Test.YtldnelkcmffiaaaWETurnout
import Derived.Test.YtldnelkcmffiaaaWTShare
set_option linter.unusedSimpArgs false
set_option linter.unusedVariables false
namespace Go.Proofs.Ytldnelkcmffiaaa
open Go Go.Vm

-- loop.example/g01020/laws.FnExactTimeForShare
set_option maxHeartbeats 1000000 in
theorem lawTShare_con (l : List (Int × ByteArray × Int × Int)) (share : Int) (hl : l.length ≤ 9223372036854775807) (hls : ∀ t ∈ l, t.2.1.size ≤ 9223372036854775807) : Con Try.prog 3 [.sl (l.map (fun t : Int × ByteArray × Int × Int => V.agg [V.int .i64 t.1, V.str t.2.1, V.int .i64 t.2.2.1, V.int .i64 t.2.2.2])), .int .i64 share] [] (.bool true) [] := by
  refine v_con [.tmp 4] [] Try.func3 rfl rfl rfl (by simp [Try.ntmps3]) ?_
  intro Q0 n0 r0
  simp only [Try.ntmps3, envFrom, Nat.reduceAdd]
  refine v_seq ?_; intro Q1 n1 e1 r1  -- SEQ 0
  refine v_region ?_; intro K2 k2
  -- 4 := assign c<false>
  refine v_op ?_; intro K k
  simp only [zE, zS, aStepM, optable, set_some, Nat.reduceEqDiff, reduceIte, Nat.reduceLT, implies_true, forall_const, reduceCtorEq, V.ofValue, V.ofScalar, V.un, V.gd, aExec, aop, Nat.reduceAdd]
  repeat (refine And.intro (by first | omega | (intros; omega) | (intros; simp_all; done) | (intros; simp_all; omega)) ?_)
  refine k _ ?_; clear k K
  refine k2 _ ?_
  refine n1 _ _ (weak_keep [0, 1] _) ?_
  simp only [keep_mk, keepE_nil, keepE_cons, look_cons, look_nil, Nat.reduceEqDiff, reduceIte]
  refine v_seq ?_; intro Q3 n3 e3 r3  -- SEQ 1
  refine v_region ?_; intro K4 k4
  -- 5 := assign c<1048576:i64>
  refine v_op ?_; intro K k
  simp only [zE, zS, aStepM, optable, set_some, Nat.reduceEqDiff, reduceIte, Nat.reduceLT, implies_true, forall_const, reduceCtorEq, V.ofValue, V.ofScalar, V.un, V.gd, aExec, aop, Nat.reduceAdd]
  repeat (refine And.intro (by first | omega | (intros; omega) | (intros; simp_all; done) | (intros; simp_all; omega)) ?_)
  refine k _ ?_; clear k K
  refine k4 _ ?_
  refine n3 _ _ (weak_keep [0, 1, 5] _) ?_
  simp only [keep_mk, keepE_nil, keepE_cons, look_cons, look_nil, Nat.reduceEqDiff, reduceIte]
  refine v_seq ?_; intro Q5 n5 e5 r5  -- SEQ 2
  refine v_region ?_; intro K6 k6
  -- 11 := move t0
  refine v_op ?_; intro K k
  simp only [zE, aStepM, optable, set_some, Nat.reduceEqDiff, reduceIte, Nat.reduceLT, implies_true, forall_const, reduceCtorEq, V.ofValue, V.ofScalar, V.un, V.gd, aExec, aop]
  repeat (refine And.intro (by first | omega | (intros; omega) | (intros; simp_all; done) | (intros; simp_all; omega)) ?_)
  refine k _ ?_; clear k K
  -- 12 := move t5
  refine v_op ?_; intro K k
  simp only [zE, aStepM, optable, set_some, Nat.reduceEqDiff, reduceIte, Nat.reduceLT, implies_true, forall_const, reduceCtorEq, V.ofValue, V.ofScalar, V.un, V.gd, aExec, aop]
  repeat (refine And.intro (by first | omega | (intros; omega) | (intros; simp_all; done) | (intros; simp_all; omega)) ?_)
  refine k _ ?_; clear k K
  -- 13 := call v f7 t11 t12 | 22 3
  refine v_op ?_; intro K k
  simp only [zE, zM, aStepM, optable, set_some, Nat.reduceEqDiff, reduceIte, Nat.reduceLT, implies_true, forall_const, reduceCtorEq, V.ofValue, V.ofScalar, V.un, V.gd, aExec, lentIds, lendOf, Try.underlying3, Ty.c3, Ty.a3, Ty.b3, Ty.s3, Try.underlying22, Ty.c22, Ty.a22, Ty.b22, Ty.s22, Try.underlying51, Ty.c51, Ty.a51, Ty.b51, Ty.s51]
  repeat (refine And.intro (by first | rfl | (intros; simp_all; done)) ?_)
  refine aCall_new (szTurnoutS_con 1048576 l (by omega) hl hls) (by first | rfl | (simp only [toArgs, toArg, toCell, toCells, idx, row_mk, List.getElem?_cons_zero, List.getElem?_cons_succ, Option.bind_some, Option.map_some, Blk.row, fillK_mix, flat_mix, deep_mix, cond_true]; done) | (simp [toArgs, toArg, toCell, toCells, idx, row_mk, Blk.row, fillK_mix, Nat.beq_refl]; done)) (by first | exact .inl ⟨rfl, by simp [Blk.kindIs, fillK_fd]⟩ | exact .inr (by simp [V.cold])) ?_
  refine k _ ?_; clear k K
  simp only [zY, zW, set_some, Nat.reduceEqDiff, reduceIte, V.ren, V.renL, rho, Nat.reduceAdd]
  -- 5 := assign t13
  refine v_op ?_; intro K k
  simp only [zE, zS, aStepM, optable, set_some, Nat.reduceEqDiff, reduceIte, Nat.reduceLT, implies_true, forall_const, reduceCtorEq, V.ofValue, V.ofScalar, V.un, V.gd, aExec, aop, Nat.reduceAdd]
  repeat (refine And.intro (by first | omega | (intros; omega) | (intros; simp_all; done) | (intros; simp_all; omega)) ?_)
  refine k _ ?_; clear k K
  refine k6 _ ?_
  refine n5 _ _ (weak_keep [0, 1, 5] _) ?_
  simp only [keep_mk, keepE_nil, keepE_cons, look_cons, look_nil, Nat.reduceEqDiff, reduceIte]
  refine v_seq ?_; intro Q7 n7 e7 r7  -- SEQ 3
  refine v_seq ?_; intro Q8 n8 e8 r8  -- SEQ 4
  refine v_region ?_; intro K9 k9
  -- 14 := move t5
  refine v_op ?_; intro K k
  simp only [zE, aStepM, optable, set_some, Nat.reduceEqDiff, reduceIte, Nat.reduceLT, implies_true, forall_const, reduceCtorEq, V.ofValue, V.ofScalar, V.un, V.gd, aExec, aop]
  repeat (refine And.intro (by first | omega | (intros; omega) | (intros; simp_all; done) | (intros; simp_all; omega)) ?_)
  refine k _ ?_; clear k K
  -- 15 := binOp Go.BinOp.lss 3 t14 c<0:i64> 3
  refine v_op ?_; intro K k
  simp only [zE, aStepM, optable, set_some, Nat.reduceEqDiff, reduceIte, Nat.reduceLT, implies_true, forall_const, reduceCtorEq, V.ofValue, V.ofScalar, V.un, V.gd, aExec, aop, aBin, Try.underlying3]
  repeat (refine And.intro (by first | omega | (intros; omega) | (intros; simp_all; done) | (intros; simp_all; omega)) ?_)
  refine k _ ?_; clear k K
  refine k9 _ ?_
  refine n8 _ _ (weak_keep [0, 1, 15] _) ?_
  simp only [keep_mk, keepE_nil, keepE_cons, look_cons, look_nil, Nat.reduceEqDiff, reduceIte]
  refine v_cond _ rfl ?_ ?_  -- COND 0
  · intro hc0
    try simp only [zC, reduceCtorEq] at hc0
    refine v_seq ?_; intro Q11 n11 e11 r11  -- SEQ 5
    refine v_region ?_; intro K12 k12
    -- 4 := assign c<true>
    refine v_op ?_; intro K k
    simp only [zE, zS, aStepM, optable, set_some, Nat.reduceEqDiff, reduceIte, Nat.reduceLT, implies_true, forall_const, reduceCtorEq, V.ofValue, V.ofScalar, V.un, V.gd, aExec, aop, Nat.reduceAdd]
    repeat (refine And.intro (by first | omega | (intros; omega) | (intros; simp_all; done) | (intros; simp_all; omega)) ?_)
    refine k _ ?_; clear k K
    refine k12 _ ?_
    refine n11 _ _ (weak_keep [4] _) ?_
    simp only [keep_mk, keepE_nil, keepE_cons, look_cons, look_nil, Nat.reduceEqDiff, reduceIte]
    refine v_ret ?_
    refine r7 _ ?_
    refine r0 _ ?_
    simp only [resK, pickRV, get_mk, look_cons, look_nil, Nat.reduceEqDiff, reduceIte, List.map_cons, List.map_nil]
    exact ret_pure rfl rfl (.inl rfl)
  · intro hc0
    try simp only [zC, reduceCtorEq] at hc0
    have hl2 : l.length ≤ 1048576 := by
      split at hc0 <;> omega
    refine v_skip ?_
    refine n7 _ _ (weak_keep [0, 1] _) ?_
    simp only [keep_mk, keepE_nil, keepE_cons, look_cons, look_nil, Nat.reduceEqDiff, reduceIte]
    refine v_seq ?_; intro Q13 n13 e13 r13  -- SEQ 6
    refine v_region ?_; intro K14 k14
    -- 17 := move t0
    refine v_op ?_; intro K k
    simp only [zE, aStepM, optable, set_some, Nat.reduceEqDiff, reduceIte, Nat.reduceLT, implies_true, forall_const, reduceCtorEq, V.ofValue, V.ofScalar, V.un, V.gd, aExec, aop]
    repeat (refine And.intro (by first | omega | (intros; omega) | (intros; simp_all; done) | (intros; simp_all; omega)) ?_)
    refine k _ ?_; clear k K
    -- 18 := call v f9 t17 | 22
    refine v_op ?_; intro K k
    simp only [zE, zM, aStepM, optable, set_some, Nat.reduceEqDiff, reduceIte, Nat.reduceLT, implies_true, forall_const, reduceCtorEq, V.ofValue, V.ofScalar, V.un, V.gd, aExec, lentIds, lendOf, Try.underlying22, Ty.c22, Ty.a22, Ty.b22, Ty.s22, Try.underlying26, Ty.c26, Ty.a26, Ty.b26, Ty.s26, Try.underlying51, Ty.c51, Ty.a51, Ty.b51, Ty.s51, Try.underlying54, Ty.c54, Ty.a54, Ty.b54, Ty.s54]
    repeat (refine And.intro (by first | rfl | (intros; simp_all; done)) ?_)
    refine aCall_new (toTurnoutS_con l hl2) (by first | rfl | (simp only [toArgs, toArg, toCell, toCells, idx, row_mk, List.getElem?_cons_zero, List.getElem?_cons_succ, Option.bind_some, Option.map_some, Blk.row, fillK_mix, flat_mix, deep_mix, cond_true]; done) | (simp [toArgs, toArg, toCell, toCells, idx, row_mk, Blk.row, fillK_mix, Nat.beq_refl]; done)) (by first | exact .inl ⟨rfl, by simp [Blk.kindIs, fillK_fd]⟩ | exact .inr (by simp [V.cold])) ?_
    refine k _ ?_; clear k K
    simp only [zY, zW, set_some, Nat.reduceEqDiff, reduceIte, V.ren, V.renL, rho, Nat.reduceAdd]
    -- 19 := move t1
    refine v_op ?_; intro K k
    simp only [zE, aStepM, optable, set_some, Nat.reduceEqDiff, reduceIte, Nat.reduceLT, implies_true, forall_const, reduceCtorEq, V.ofValue, V.ofScalar, V.un, V.gd, aExec, aop]
    repeat (refine And.intro (by first | omega | (intros; omega) | (intros; simp_all; done) | (intros; simp_all; omega)) ?_)
    refine k _ ?_; clear k K
    -- 20 := call v f8 t18 t19 | 26 3
    refine v_op ?_; intro K k
    simp only [zE, zM, aStepM, optable, set_some, Nat.reduceEqDiff, reduceIte, Nat.reduceLT, implies_true, forall_const, reduceCtorEq, V.ofValue, V.ofScalar, V.un, V.gd, aExec, lentIds, lendOf, Try.underlying3, Ty.c3, Ty.a3, Ty.b3, Ty.s3, Try.underlying26, Ty.c26, Ty.a26, Ty.b26, Ty.s26, Try.underlying54, Ty.c54, Ty.a54, Ty.b54, Ty.s54]
    repeat (refine And.intro (by first | rfl | (intros; simp_all; done)) ?_)
    refine aCall_new (specTShare_con l share hl2 hls) (by first | rfl | (simp only [toArgs, toArg, toCell, toCells, idx, row_mk, List.getElem?_cons_zero, List.getElem?_cons_succ, Option.bind_some, Option.map_some, Blk.row, fillK_mix, flat_mix, deep_mix, cond_true]; done) | (simp [toArgs, toArg, toCell, toCells, idx, row_mk, Blk.row, fillK_mix, Nat.beq_refl]; done)) (by first | exact .inl ⟨rfl, by simp [Blk.kindIs, fillK_fd]⟩ | exact .inr (by simp [V.cold])) ?_
    refine k _ ?_; clear k K
    simp only [zY, zW, set_some, Nat.reduceEqDiff, reduceIte, V.ren, V.renL, rho, Nat.reduceAdd]
    -- 16 := move t20
    refine v_op ?_; intro K k
    simp only [zE, aStepM, optable, set_some, Nat.reduceEqDiff, reduceIte, Nat.reduceLT, implies_true, forall_const, reduceCtorEq, V.ofValue, V.ofScalar, V.un, V.gd, aExec, aop]
    repeat (refine And.intro (by first | omega | (intros; omega) | (intros; simp_all; done) | (intros; simp_all; omega)) ?_)
    refine k _ ?_; clear k K
    -- 21 := extract t16 0
    refine v_op ?_; intro K k
    simp only [zE, zL, zN, aStepM, optable, set_some, Nat.reduceEqDiff, reduceIte, Nat.reduceLT, implies_true, forall_const, reduceCtorEq, V.ofValue, V.ofScalar, V.un, V.gd, aExec, aop, aExtract, Nat.reduceAdd, Nat.reduceLeDiff, Nat.reduceMul]
    repeat (refine And.intro (by first | omega | (intros; omega) | (intros; simp_all; done) | (intros; simp_all; omega)) ?_)
    refine k _ ?_; clear k K
    -- 22 := extract t16 1
    refine v_op ?_; intro K k
    simp only [zE, zL, zN, aStepM, optable, set_some, Nat.reduceEqDiff, reduceIte, Nat.reduceLT, implies_true, forall_const, reduceCtorEq, V.ofValue, V.ofScalar, V.un, V.gd, aExec, aop, aExtract, Nat.reduceAdd, Nat.reduceLeDiff, Nat.reduceMul]
    repeat (refine And.intro (by first | omega | (intros; omega) | (intros; simp_all; done) | (intros; simp_all; omega)) ?_)
    refine k _ ?_; clear k K
    -- 6 := assign t21
    refine v_op ?_; intro K k
    simp only [zE, zS, aStepM, optable, set_some, Nat.reduceEqDiff, reduceIte, Nat.reduceLT, implies_true, forall_const, reduceCtorEq, V.ofValue, V.ofScalar, V.un, V.gd, aExec, aop, Nat.reduceAdd]
    repeat (refine And.intro (by first | omega | (intros; omega) | (intros; simp_all; done) | (intros; simp_all; omega)) ?_)
    refine k _ ?_; clear k K
    -- 7 := assign t22
    refine v_op ?_; intro K k
    simp only [zE, zS, aStepM, optable, set_some, Nat.reduceEqDiff, reduceIte, Nat.reduceLT, implies_true, forall_const, reduceCtorEq, V.ofValue, V.ofScalar, V.un, V.gd, aExec, aop, Nat.reduceAdd]
    repeat (refine And.intro (by first | omega | (intros; omega) | (intros; simp_all; done) | (intros; simp_all; omega)) ?_)
    refine k _ ?_; clear k K
    refine k14 _ ?_
    refine n13 _ _ (weak_keep [0, 1, 6, 7] _) ?_
    simp only [keep_mk, keepE_nil, keepE_cons, look_cons, look_nil, Nat.reduceEqDiff, reduceIte]
    refine v_seq ?_; intro Q15 n15 e15 r15  -- SEQ 7
    refine v_region ?_; intro K16 k16
    -- 23 := move t0
    refine v_op ?_; intro K k
    simp only [zE, aStepM, optable, set_some, Nat.reduceEqDiff, reduceIte, Nat.reduceLT, implies_true, forall_const, reduceCtorEq, V.ofValue, V.ofScalar, V.un, V.gd, aExec, aop]
    repeat (refine And.intro (by first | omega | (intros; omega) | (intros; simp_all; done) | (intros; simp_all; omega)) ?_)
    refine k _ ?_; clear k K
    -- 24 := call v f9 t23 | 22
    refine v_op ?_; intro K k
    simp only [zE, zM, aStepM, optable, set_some, Nat.reduceEqDiff, reduceIte, Nat.reduceLT, implies_true, forall_const, reduceCtorEq, V.ofValue, V.ofScalar, V.un, V.gd, aExec, lentIds, lendOf, Try.underlying22, Ty.c22, Ty.a22, Ty.b22, Ty.s22, Try.underlying26, Ty.c26, Ty.a26, Ty.b26, Ty.s26, Try.underlying51, Ty.c51, Ty.a51, Ty.b51, Ty.s51, Try.underlying54, Ty.c54, Ty.a54, Ty.b54, Ty.s54]
    repeat (refine And.intro (by first | rfl | (intros; simp_all; done)) ?_)
    refine aCall_new (toTurnoutS_con l hl2) (by first | rfl | (simp only [toArgs, toArg, toCell, toCells, idx, row_mk, List.getElem?_cons_zero, List.getElem?_cons_succ, Option.bind_some, Option.map_some, Blk.row, fillK_mix, flat_mix, deep_mix, cond_true]; done) | (simp [toArgs, toArg, toCell, toCells, idx, row_mk, Blk.row, fillK_mix, Nat.beq_refl]; done)) (by first | exact .inl ⟨rfl, by simp [Blk.kindIs, fillK_fd]⟩ | exact .inr (by simp [V.cold])) ?_
    refine k _ ?_; clear k K
    simp only [zY, zW, set_some, Nat.reduceEqDiff, reduceIte, V.ren, V.renL, rho, Nat.reduceAdd]
    -- 8 := assign t24
    refine v_op ?_; intro K k
    simp only [zE, zS, aStepM, optable, set_some, Nat.reduceEqDiff, reduceIte, Nat.reduceLT, implies_true, forall_const, reduceCtorEq, V.ofValue, V.ofScalar, V.un, V.gd, aExec, aop, Nat.reduceAdd]
    repeat (refine And.intro (by first | omega | (intros; omega) | (intros; simp_all; done) | (intros; simp_all; omega)) ?_)
    refine k _ ?_; clear k K
    refine k16 _ ?_
    refine n15 _ _ (weak_keep [0, 1, 6, 7, 8] _) ?_
    simp only [keep_mk, keepE_nil, keepE_cons, look_cons, look_nil, Nat.reduceEqDiff, reduceIte]
    refine v_seq ?_; intro Q17 n17 e17 r17  -- SEQ 8
    refine v_region ?_; intro K18 k18
    -- 26 := move t8
    refine v_op ?_; intro K k
    simp only [zE, aStepM, optable, set_some, Nat.reduceEqDiff, reduceIte, Nat.reduceLT, implies_true, forall_const, reduceCtorEq, V.ofValue, V.ofScalar, V.un, V.gd, aExec, aop]
    repeat (refine And.intro (by first | omega | (intros; omega) | (intros; simp_all; done) | (intros; simp_all; omega)) ?_)
    refine k _ ?_; clear k K
    -- 27 := move t1
    refine v_op ?_; intro K k
    simp only [zE, aStepM, optable, set_some, Nat.reduceEqDiff, reduceIte, Nat.reduceLT, implies_true, forall_const, reduceCtorEq, V.ofValue, V.ofScalar, V.un, V.gd, aExec, aop]
    repeat (refine And.intro (by first | omega | (intros; omega) | (intros; simp_all; done) | (intros; simp_all; omega)) ?_)
    refine k _ ?_; clear k K
    -- 28 := call v f10 t26 t27 | 26 3
    refine v_op ?_; intro K k
    simp only [zE, zM, aStepM, optable, set_some, Nat.reduceEqDiff, reduceIte, Nat.reduceLT, implies_true, forall_const, reduceCtorEq, V.ofValue, V.ofScalar, V.un, V.gd, aExec, lentIds, lendOf, Try.underlying3, Ty.c3, Ty.a3, Ty.b3, Ty.s3, Try.underlying26, Ty.c26, Ty.a26, Ty.b26, Ty.s26, Try.underlying54, Ty.c54, Ty.a54, Ty.b54, Ty.s54]
    repeat (refine And.intro (by first | rfl | (intros; simp_all; done)) ?_)
    refine aCall_new (implTShare_con l share hl2 hls) (by first | rfl | (simp only [toArgs, toArg, toCell, toCells, idx, row_mk, List.getElem?_cons_zero, List.getElem?_cons_succ, Option.bind_some, Option.map_some, Blk.row, fillK_mix, flat_mix, deep_mix, cond_true]; done) | (simp [toArgs, toArg, toCell, toCells, idx, row_mk, Blk.row, fillK_mix, Nat.beq_refl]; done)) (by first | exact .inl ⟨rfl, by simp [Blk.kindIs, fillK_fd]⟩ | exact .inr (by simp [V.cold])) ?_
    refine k _ ?_; clear k K
    simp only [zY, zW, set_some, Nat.reduceEqDiff, reduceIte, V.ren, V.renL, rho, Nat.reduceAdd]
    -- 25 := move t28
    refine v_op ?_; intro K k
    simp only [zE, aStepM, optable, set_some, Nat.reduceEqDiff, reduceIte, Nat.reduceLT, implies_true, forall_const, reduceCtorEq, V.ofValue, V.ofScalar, V.un, V.gd, aExec, aop]
    repeat (refine And.intro (by first | omega | (intros; omega) | (intros; simp_all; done) | (intros; simp_all; omega)) ?_)
    refine k _ ?_; clear k K
    -- 29 := extract t25 0
    refine v_op ?_; intro K k
    simp only [zE, zL, zN, aStepM, optable, set_some, Nat.reduceEqDiff, reduceIte, Nat.reduceLT, implies_true, forall_const, reduceCtorEq, V.ofValue, V.ofScalar, V.un, V.gd, aExec, aop, aExtract, Nat.reduceAdd, Nat.reduceLeDiff, Nat.reduceMul]
    repeat (refine And.intro (by first | omega | (intros; omega) | (intros; simp_all; done) | (intros; simp_all; omega)) ?_)
    refine k _ ?_; clear k K
    -- 30 := extract t25 1
    refine v_op ?_; intro K k
    simp only [zE, zL, zN, aStepM, optable, set_some, Nat.reduceEqDiff, reduceIte, Nat.reduceLT, implies_true, forall_const, reduceCtorEq, V.ofValue, V.ofScalar, V.un, V.gd, aExec, aop, aExtract, Nat.reduceAdd, Nat.reduceLeDiff, Nat.reduceMul]
    repeat (refine And.intro (by first | omega | (intros; omega) | (intros; simp_all; done) | (intros; simp_all; omega)) ?_)
    refine k _ ?_; clear k K
    -- 9 := assign t29
    refine v_op ?_; intro K k
    simp only [zE, zS, aStepM, optable, set_some, Nat.reduceEqDiff, reduceIte, Nat.reduceLT, implies_true, forall_const, reduceCtorEq, V.ofValue, V.ofScalar, V.un, V.gd, aExec, aop, Nat.reduceAdd]
    repeat (refine And.intro (by first | omega | (intros; omega) | (intros; simp_all; done) | (intros; simp_all; omega)) ?_)
    refine k _ ?_; clear k K
    -- 10 := assign t30
    refine v_op ?_; intro K k
    simp only [zE, zS, aStepM, optable, set_some, Nat.reduceEqDiff, reduceIte, Nat.reduceLT, implies_true, forall_const, reduceCtorEq, V.ofValue, V.ofScalar, V.un, V.gd, aExec, aop, Nat.reduceAdd]
    repeat (refine And.intro (by first | omega | (intros; omega) | (intros; simp_all; done) | (intros; simp_all; omega)) ?_)
    refine k _ ?_; clear k K
    refine k18 _ ?_
    refine n17 _ _ (weak_keep [0, 6, 7, 8, 9, 10] _) ?_
    simp only [keep_mk, keepE_nil, keepE_cons, look_cons, look_nil, Nat.reduceEqDiff, reduceIte]
    refine v_seq ?_; intro Q19 n19 e19 r19  -- SEQ 9
    refine v_seq ?_; intro Q20 n20 e20 r20  -- SEQ 10
    refine v_region ?_; intro K21 k21
    -- 31 := move t9
    refine v_op ?_; intro K k
    simp only [zE, aStepM, optable, set_some, Nat.reduceEqDiff, reduceIte, Nat.reduceLT, implies_true, forall_const, reduceCtorEq, V.ofValue, V.ofScalar, V.un, V.gd, aExec, aop]
    repeat (refine And.intro (by first | omega | (intros; omega) | (intros; simp_all; done) | (intros; simp_all; omega)) ?_)
    refine k _ ?_; clear k K
    -- 32 := move t6
    refine v_op ?_; intro K k
    simp only [zE, aStepM, optable, set_some, Nat.reduceEqDiff, reduceIte, Nat.reduceLT, implies_true, forall_const, reduceCtorEq, V.ofValue, V.ofScalar, V.un, V.gd, aExec, aop]
    repeat (refine And.intro (by first | omega | (intros; omega) | (intros; simp_all; done) | (intros; simp_all; omega)) ?_)
    refine k _ ?_; clear k K
    -- 33 := binOp Go.BinOp.neq 3 t31 t32 3
    refine v_op ?_; intro K k
    simp only [zE, aStepM, optable, set_some, Nat.reduceEqDiff, reduceIte, Nat.reduceLT, implies_true, forall_const, reduceCtorEq, V.ofValue, V.ofScalar, V.un, V.gd, aExec, aop, aBin, Try.underlying3]
    repeat (refine And.intro (by first | omega | (intros; omega) | (intros; simp_all; done) | (intros; simp_all; omega)) ?_)
    refine k _ ?_; clear k K
    -- 34 := move t33
    refine v_op ?_; intro K k
    simp only [zE, aStepM, optable, set_some, Nat.reduceEqDiff, reduceIte, Nat.reduceLT, implies_true, forall_const, reduceCtorEq, V.ofValue, V.ofScalar, V.un, V.gd, aExec, aop]
    repeat (refine And.intro (by first | omega | (intros; omega) | (intros; simp_all; done) | (intros; simp_all; omega)) ?_)
    refine k _ ?_; clear k K
    -- 35 := move t10
    first
    | refine v_pass 35 3 false rfl (show 35 < 44 by decide) rfl ?_ ?_
      · first | rfl | (simp only [zV, guardV, Nat.reduceEqDiff, reduceIte]; done)
      simp only [zW, set_some, Nat.reduceEqDiff, reduceIte]
    | skip
      -- 35 := move t10
      refine v_op ?_; intro K k
      simp only [zE, zG, aStepM, optable, set_some, Nat.reduceEqDiff, reduceIte, Nat.reduceLT, implies_true, forall_const, reduceCtorEq, V.ofValue, V.ofScalar, V.un, V.gd, guardV, V.wrap, aExec, aop]
      repeat (refine And.intro (by first | omega | (intros; omega) | (intros; simp_all; done) | (intros; simp_all; omega)) ?_)
      refine k _ ?_; clear k K
    -- 36 := move t7
    first
    | refine v_pass 36 3 false rfl (show 36 < 44 by decide) rfl ?_ ?_
      · first | rfl | (simp only [zV, guardV, Nat.reduceEqDiff, reduceIte]; done)
      simp only [zW, set_some, Nat.reduceEqDiff, reduceIte]
    | skip
      -- 36 := move t7
      refine v_op ?_; intro K k
      simp only [zE, zG, aStepM, optable, set_some, Nat.reduceEqDiff, reduceIte, Nat.reduceLT, implies_true, forall_const, reduceCtorEq, V.ofValue, V.ofScalar, V.un, V.gd, guardV, V.wrap, aExec, aop]
      repeat (refine And.intro (by first | omega | (intros; omega) | (intros; simp_all; done) | (intros; simp_all; omega)) ?_)
      refine k _ ?_; clear k K
    -- 37 := binOp Go.BinOp.neq 4 t35 t36 4
    first
    | refine v_pass 37 3 false rfl (show 37 < 44 by decide) rfl ?_ ?_
      · first | rfl | (simp only [zV, guardV, Nat.reduceEqDiff, reduceIte]; done)
      simp only [zW, set_some, Nat.reduceEqDiff, reduceIte]
    | skip
      -- 37 := binOp Go.BinOp.neq 4 t35 t36 4
      refine v_op ?_; intro K k
      simp only [zE, zG, aStepM, optable, set_some, Nat.reduceEqDiff, reduceIte, Nat.reduceLT, implies_true, forall_const, reduceCtorEq, V.ofValue, V.ofScalar, V.un, V.gd, guardV, V.wrap, aExec, aop, aBin, Try.underlying4]
      repeat (refine And.intro (by first | omega | (intros; omega) | (intros; simp_all; done) | (intros; simp_all; omega)) ?_)
      refine k _ ?_; clear k K
    -- 38 := pick t34 c<true> t37
    refine v_op ?_; intro K k
    simp only [zE, zP, aStepM, optable, set_some, Nat.reduceEqDiff, reduceIte, Nat.reduceLT, implies_true, forall_const, reduceCtorEq, V.ofValue, V.ofScalar, V.un, V.gd, aExec, aop, pickV]
    repeat (refine And.intro (by first | omega | (intros; omega) | (intros; simp_all; done) | (intros; simp_all; omega)) ?_)
    refine k _ ?_; clear k K
    refine k21 _ ?_
    refine n20 _ _ (weak_keep [0, 8, 38] _) ?_
    simp only [keep_mk, keepE_nil, keepE_cons, look_cons, look_nil, Nat.reduceEqDiff, reduceIte]
    refine v_cond _ rfl ?_ ?_  -- COND 1
    · intro hc1
      exfalso; simp at hc1
    · intro hc1
      try simp only [zC, reduceCtorEq] at hc1
      refine v_skip ?_
      refine n19 _ _ (weak_keep [0, 8] _) ?_
      simp only [keep_mk, keepE_nil, keepE_cons, look_cons, look_nil, Nat.reduceEqDiff, reduceIte]
      refine v_seq ?_; intro Q23 n23 e23 r23  -- SEQ 11
      refine v_seq ?_; intro Q24 n24 e24 r24  -- SEQ 12
      refine v_region ?_; intro K25 k25
      -- 39 := move t8
      refine v_op ?_; intro K k
      simp only [zE, aStepM, optable, set_some, Nat.reduceEqDiff, reduceIte, Nat.reduceLT, implies_true, forall_const, reduceCtorEq, V.ofValue, V.ofScalar, V.un, V.gd, aExec, aop]
      repeat (refine And.intro (by first | omega | (intros; omega) | (intros; simp_all; done) | (intros; simp_all; omega)) ?_)
      refine k _ ?_; clear k K
      -- 40 := move t0
      refine v_op ?_; intro K k
      simp only [zE, aStepM, optable, set_some, Nat.reduceEqDiff, reduceIte, Nat.reduceLT, implies_true, forall_const, reduceCtorEq, V.ofValue, V.ofScalar, V.un, V.gd, aExec, aop]
      repeat (refine And.intro (by first | omega | (intros; omega) | (intros; simp_all; done) | (intros; simp_all; omega)) ?_)
      refine k _ ?_; clear k K
      -- 41 := call v f9 t40 | 22
      refine v_op ?_; intro K k
      simp only [zE, zM, aStepM, optable, set_some, Nat.reduceEqDiff, reduceIte, Nat.reduceLT, implies_true, forall_const, reduceCtorEq, V.ofValue, V.ofScalar, V.un, V.gd, aExec, lentIds, lendOf, Try.underlying22, Ty.c22, Ty.a22, Ty.b22, Ty.s22, Try.underlying26, Ty.c26, Ty.a26, Ty.b26, Ty.s26, Try.underlying51, Ty.c51, Ty.a51, Ty.b51, Ty.s51, Try.underlying54, Ty.c54, Ty.a54, Ty.b54, Ty.s54]
      repeat (refine And.intro (by first | rfl | (intros; simp_all; done)) ?_)
      refine aCall_new (toTurnoutS_con l hl2) (by first | rfl | (simp only [toArgs, toArg, toCell, toCells, idx, row_mk, List.getElem?_cons_zero, List.getElem?_cons_succ, Option.bind_some, Option.map_some, Blk.row, fillK_mix, flat_mix, deep_mix, cond_true]; done) | (simp [toArgs, toArg, toCell, toCells, idx, row_mk, Blk.row, fillK_mix, Nat.beq_refl]; done)) (by first | exact .inl ⟨rfl, by simp [Blk.kindIs, fillK_fd]⟩ | exact .inr (by simp [V.cold])) ?_
      refine k _ ?_; clear k K
      simp only [zY, zW, set_some, Nat.reduceEqDiff, reduceIte, V.ren, V.renL, rho, Nat.reduceAdd]
      -- 42 := call v f11 t39 t41 | 26 26
      refine v_op ?_; intro K k
      simp only [zE, zM, aStepM, optable, set_some, Nat.reduceEqDiff, reduceIte, Nat.reduceLT, implies_true, forall_const, reduceCtorEq, V.ofValue, V.ofScalar, V.un, V.gd, aExec, lentIds, lendOf, Try.underlying4, Ty.c4, Ty.a4, Ty.b4, Ty.s4, Try.underlying26, Ty.c26, Ty.a26, Ty.b26, Ty.s26, Try.underlying54, Ty.c54, Ty.a54, Ty.b54, Ty.s54]
      repeat (refine And.intro (by first | rfl | (intros; simp_all; done)) ?_)
      refine aCall_new (eqTurnoutS_con l l hl2) (by first | rfl | (simp only [toArgs, toArg, toCell, toCells, idx, row_mk, List.getElem?_cons_zero, List.getElem?_cons_succ, Option.bind_some, Option.map_some, Blk.row, fillK_mix, flat_mix, deep_mix, cond_true]; done) | (simp [toArgs, toArg, toCell, toCells, idx, row_mk, Blk.row, fillK_mix, Nat.beq_refl]; done)) (by first | exact .inl ⟨rfl, by simp [Blk.kindIs, fillK_fd]⟩ | exact .inr (by simp [V.cold])) ?_
      refine k _ ?_; clear k K
      simp only [zY, zW, set_some, Nat.reduceEqDiff, reduceIte, V.ren, V.renL, rho, Nat.reduceAdd]
      -- 43 := unOp Go.UnOp.not 4 t42
      refine v_op ?_; intro K k
      simp only [zE, aStepM, optable, set_some, Nat.reduceEqDiff, reduceIte, Nat.reduceLT, implies_true, forall_const, reduceCtorEq, V.ofValue, V.ofScalar, V.un, V.gd, aExec, aop, aUn, Try.underlying4]
      repeat (refine And.intro (by first | omega | (intros; omega) | (intros; simp_all; done) | (intros; simp_all; omega)) ?_)
      refine k _ ?_; clear k K
      refine k25 _ ?_
      refine n24 _ _ (weak_keep [43] _) ?_
      simp only [keep_mk, keepE_nil, keepE_cons, look_cons, look_nil, Nat.reduceEqDiff, reduceIte]
      refine v_cond _ rfl ?_ ?_  -- COND 2
      · intro hc2
        exfalso; simp at hc2
      · intro hc2
        try simp only [zC, reduceCtorEq] at hc2
        refine v_skip ?_
        refine n23 _ _ (weak_keep [] _) ?_
        simp only [keep_mk, keepE_nil, keepE_cons, look_cons, look_nil, Nat.reduceEqDiff, reduceIte]
        refine v_seq ?_; intro Q27 n27 e27 r27  -- SEQ 13
        refine v_region ?_; intro K28 k28
        -- 4 := assign c<true>
        refine v_op ?_; intro K k
        simp only [zE, zS, aStepM, optable, set_some, Nat.reduceEqDiff, reduceIte, Nat.reduceLT, implies_true, forall_const, reduceCtorEq, V.ofValue, V.ofScalar, V.un, V.gd, aExec, aop, Nat.reduceAdd]
        repeat (refine And.intro (by first | omega | (intros; omega) | (intros; simp_all; done) | (intros; simp_all; omega)) ?_)
        refine k _ ?_; clear k K
        refine k28 _ ?_
        refine n27 _ _ (weak_keep [4] _) ?_
        simp only [keep_mk, keepE_nil, keepE_cons, look_cons, look_nil, Nat.reduceEqDiff, reduceIte]
        refine v_ret ?_
        refine r0 _ ?_
        simp only [resK, pickRV, get_mk, look_cons, look_nil, Nat.reduceEqDiff, reduceIte, List.map_cons, List.map_nil]
        exact ret_pure rfl rfl (.inl rfl)
end Go.Proofs.Ytldnelkcmffiaaa
