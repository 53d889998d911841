/- What functions compute (TTurnout). No condition. -/
import Derived.Test.YtldnelkcmffiaaaTy
import Derived.Test.YtldnelkcmffiaaaVm21
set_option linter.unusedSimpArgs false
set_option linter.unusedVariables false
namespace Go.Proofs.Ytldnelkcmffiaaa
open Go Go.Vm

-- loop.example/g01020/laws.toTurnout
set_option maxHeartbeats 1000000 in
theorem toTurnout_con (x0 : Int) (x1 : ByteArray) (x2 : Int) (x3 : Int) : Con Try.prog 32 [.agg [V.int .i64 x0, V.str x1, V.int .i64 x2, V.int .i64 x3]] [] (.agg [V.int .i64 x0, V.str x1, V.int .i64 x2, V.int .i64 x3]) [] := by
  refine v_con [.cell 2 54] [] Try.func32 rfl rfl rfl (by simp [Try.ntmps32]) ?_
  intro Q0 n0 r0
  simp only [Try.ntmps32, envFrom, Nat.reduceAdd]
  refine v_seq ?_; intro Q1 n1 e1 r1  -- SEQ 0
  refine v_region ?_; intro K2 k2
  -- 1 := box 51 t0
  refine v_op ?_; intro K k
  simp only [zE, zS, zO, zN, aStepM, optable, set_some, Nat.reduceEqDiff, reduceIte, Nat.reduceLT, implies_true, forall_const, reduceCtorEq, V.ofValue, V.ofScalar, V.un, V.gd, aExec, aop, Nat.reduceAdd, V.isVal, V.cells, kindOf, kindAll, V.noSl, V.noRef, List.all_cons, List.all_nil, List.length_map, gt_iff_lt, Nat.reduceLeDiff, Nat.reduceMul, Try.underlying3, Ty.c3, Ty.a3, Try.underlying9, Ty.c9, Ty.a9, Try.underlying51, Ty.c51, Ty.a51]
  repeat (refine And.intro (by first | omega | (intros; omega) | (intros; simp_all; done) | (intros; simp_all; omega)) ?_)
  refine k _ ?_; clear k K
  -- 2 := alloc 54
  refine v_op ?_; intro K k
  simp only [zE, zS, zO, zN, aStepM, optable, set_some, Nat.reduceEqDiff, reduceIte, Nat.reduceLT, implies_true, forall_const, reduceCtorEq, V.ofValue, V.ofScalar, V.un, V.gd, aExec, aop, Nat.reduceAdd, Value.oneCell', V.isVal, V.cells, kindOf, kindAll, V.noSl, V.noRef, List.all_cons, List.all_nil, List.map_cons, List.map_nil, gt_iff_lt, Nat.reduceLeDiff, Nat.reduceMul, Try.underlying3, Ty.c3, Ty.a3, Ty.z3, Try.underlying9, Ty.c9, Ty.a9, Ty.z9, Try.underlying54, Ty.c54, Ty.a54, Ty.z54]
  repeat (refine And.intro (by first | omega | (intros; omega) | (intros; simp_all; done) | (intros; simp_all; omega)) ?_)
  refine k _ ?_; clear k K
  refine k2 _ ?_
  refine n1 _ _ (weak_keep [1, 2] _) ?_
  simp only [keep_mk, keepE_nil, keepE_cons, look_cons, look_nil, Nat.reduceEqDiff, reduceIte]
  refine v_seq ?_; intro Q3 n3 e3 r3  -- SEQ 1
  refine v_region ?_; intro K4 k4
  -- 3 := alloc 54
  refine v_op ?_; intro K k
  simp only [zE, zS, zO, zN, aStepM, optable, set_some, Nat.reduceEqDiff, reduceIte, Nat.reduceLT, implies_true, forall_const, reduceCtorEq, V.ofValue, V.ofScalar, V.un, V.gd, aExec, aop, Nat.reduceAdd, Value.oneCell', V.isVal, V.cells, kindOf, kindAll, V.noSl, V.noRef, List.all_cons, List.all_nil, List.map_cons, List.map_nil, gt_iff_lt, Nat.reduceLeDiff, Nat.reduceMul, Try.underlying3, Ty.c3, Ty.a3, Ty.z3, Try.underlying9, Ty.c9, Ty.a9, Ty.z9, Try.underlying54, Ty.c54, Ty.a54, Ty.z54]
  repeat (refine And.intro (by first | omega | (intros; omega) | (intros; simp_all; done) | (intros; simp_all; omega)) ?_)
  refine k _ ?_; clear k K
  refine k4 _ ?_
  refine n3 _ _ (weak_keep [1, 2, 3] _) ?_
  simp only [keep_mk, keepE_nil, keepE_cons, look_cons, look_nil, Nat.reduceEqDiff, reduceIte]
  refine v_seq ?_; intro Q5 n5 e5 r5  -- SEQ 2
  refine v_region ?_; intro K6 k6
  -- 4 := fieldAddr 51 t1 0
  refine v_op ?_; intro K k
  simp only [zE, zL, zN, aStepM, optable, set_some, Nat.reduceEqDiff, reduceIte, Nat.reduceLT, implies_true, forall_const, reduceCtorEq, V.ofValue, V.ofScalar, V.un, V.gd, aExec, aop, aFieldAddr, Nat.reduceAdd, Nat.reduceLeDiff, Nat.reduceMul, Try.underlying3, Ty.c3, Ty.a3, Try.underlying9, Ty.c9, Ty.a9, Try.underlying51, Ty.c51, Ty.a51]
  repeat (refine And.intro (by first | omega | (intros; omega) | (intros; simp_all; done) | (intros; simp_all; omega)) ?_)
  refine k _ ?_; clear k K
  -- 5 := load 3 t4
  refine v_op ?_; intro K k
  simp only [zE, zL, zO, zN, aStepM, optable, set_some, Nat.reduceEqDiff, reduceIte, Nat.reduceLT, implies_true, forall_const, reduceCtorEq, V.ofValue, V.ofScalar, V.un, V.gd, aExec, aop, aLoad, row_mk, Blk.row, PartOK, Go.Vm.part, V.cells, V.noSl, V.noRef, Nat.reduceAdd, Nat.reduceLeDiff, Nat.reduceMul, Try.underlying3, Ty.c3, Ty.a3]
  repeat (refine And.intro (by first | omega | (intros; omega) | (intros; simp_all; done) | (intros; simp_all; omega)) ?_)
  refine k _ ?_; clear k K
  -- 6 := fieldAddr 54 t3 0
  refine v_op ?_; intro K k
  simp only [zE, zL, zN, aStepM, optable, set_some, Nat.reduceEqDiff, reduceIte, Nat.reduceLT, implies_true, forall_const, reduceCtorEq, V.ofValue, V.ofScalar, V.un, V.gd, aExec, aop, aFieldAddr, Nat.reduceAdd, Nat.reduceLeDiff, Nat.reduceMul, Try.underlying3, Ty.c3, Ty.a3, Try.underlying9, Ty.c9, Ty.a9, Try.underlying54, Ty.c54, Ty.a54]
  repeat (refine And.intro (by first | omega | (intros; omega) | (intros; simp_all; done) | (intros; simp_all; omega)) ?_)
  refine k _ ?_; clear k K
  -- None := store 3 t6 t5
  refine v_op ?_; intro K k
  simp only [zE, zS, zJ, zL, zO, zN, aStepM, optable, set_some, Nat.reduceEqDiff, reduceIte, Nat.reduceLT, implies_true, forall_const, reduceCtorEq, V.ofValue, V.ofScalar, V.un, V.gd, aExec, aop, aStore, setCells, V.isVal, V.cells, kindOf, kindAll, V.noSl, V.noRef, gt_iff_lt, Nat.reduceAdd, Nat.reduceLeDiff, Nat.reduceMul, takeV, takeCell, takeCells, row_mk, Blk.row, killAll, Nat.reduceBEq, Try.underlying3, Ty.c3, Ty.a3]
  repeat (refine And.intro (by first | omega | (intros; omega) | (intros; simp_all; done) | (intros; simp_all; omega)) ?_)
  refine k _ ?_; clear k K
  refine k6 _ ?_
  refine n5 _ _ (weak_keep [1, 2, 3] _) ?_
  simp only [keep_mk, keepE_nil, keepE_cons, look_cons, look_nil, Nat.reduceEqDiff, reduceIte]
  refine v_seq ?_; intro Q7 n7 e7 r7  -- SEQ 3
  refine v_region ?_; intro K8 k8
  -- 7 := fieldAddr 51 t1 1
  refine v_op ?_; intro K k
  simp only [zE, zL, zN, aStepM, optable, set_some, Nat.reduceEqDiff, reduceIte, Nat.reduceLT, implies_true, forall_const, reduceCtorEq, V.ofValue, V.ofScalar, V.un, V.gd, aExec, aop, aFieldAddr, Nat.reduceAdd, Nat.reduceLeDiff, Nat.reduceMul, Try.underlying3, Ty.c3, Ty.a3, Try.underlying9, Ty.c9, Ty.a9, Try.underlying51, Ty.c51, Ty.a51]
  repeat (refine And.intro (by first | omega | (intros; omega) | (intros; simp_all; done) | (intros; simp_all; omega)) ?_)
  refine k _ ?_; clear k K
  -- 8 := load 9 t7
  refine v_op ?_; intro K k
  simp only [zE, zL, zO, zN, aStepM, optable, set_some, Nat.reduceEqDiff, reduceIte, Nat.reduceLT, implies_true, forall_const, reduceCtorEq, V.ofValue, V.ofScalar, V.un, V.gd, aExec, aop, aLoad, row_mk, Blk.row, PartOK, Go.Vm.part, V.cells, V.noSl, V.noRef, Nat.reduceAdd, Nat.reduceLeDiff, Nat.reduceMul, Try.underlying9, Ty.c9, Ty.a9]
  repeat (refine And.intro (by first | omega | (intros; omega) | (intros; simp_all; done) | (intros; simp_all; omega)) ?_)
  refine k _ ?_; clear k K
  -- 9 := fieldAddr 54 t3 1
  refine v_op ?_; intro K k
  simp only [zE, zL, zN, aStepM, optable, set_some, Nat.reduceEqDiff, reduceIte, Nat.reduceLT, implies_true, forall_const, reduceCtorEq, V.ofValue, V.ofScalar, V.un, V.gd, aExec, aop, aFieldAddr, Nat.reduceAdd, Nat.reduceLeDiff, Nat.reduceMul, Try.underlying3, Ty.c3, Ty.a3, Try.underlying9, Ty.c9, Ty.a9, Try.underlying54, Ty.c54, Ty.a54]
  repeat (refine And.intro (by first | omega | (intros; omega) | (intros; simp_all; done) | (intros; simp_all; omega)) ?_)
  refine k _ ?_; clear k K
  -- None := store 9 t9 t8
  refine v_op ?_; intro K k
  simp only [zE, zS, zJ, zL, zO, zN, aStepM, optable, set_some, Nat.reduceEqDiff, reduceIte, Nat.reduceLT, implies_true, forall_const, reduceCtorEq, V.ofValue, V.ofScalar, V.un, V.gd, aExec, aop, aStore, setCells, V.isVal, V.cells, kindOf, kindAll, V.noSl, V.noRef, gt_iff_lt, Nat.reduceAdd, Nat.reduceLeDiff, Nat.reduceMul, takeV, takeCell, takeCells, row_mk, Blk.row, killAll, Nat.reduceBEq, Try.underlying9, Ty.c9, Ty.a9]
  repeat (refine And.intro (by first | omega | (intros; omega) | (intros; simp_all; done) | (intros; simp_all; omega)) ?_)
  refine k _ ?_; clear k K
  refine k8 _ ?_
  refine n7 _ _ (weak_keep [1, 2, 3] _) ?_
  simp only [keep_mk, keepE_nil, keepE_cons, look_cons, look_nil, Nat.reduceEqDiff, reduceIte]
  refine v_seq ?_; intro Q9 n9 e9 r9  -- SEQ 4
  refine v_region ?_; intro K10 k10
  -- 10 := fieldAddr 51 t1 2
  refine v_op ?_; intro K k
  simp only [zE, zL, zN, aStepM, optable, set_some, Nat.reduceEqDiff, reduceIte, Nat.reduceLT, implies_true, forall_const, reduceCtorEq, V.ofValue, V.ofScalar, V.un, V.gd, aExec, aop, aFieldAddr, Nat.reduceAdd, Nat.reduceLeDiff, Nat.reduceMul, Try.underlying3, Ty.c3, Ty.a3, Try.underlying9, Ty.c9, Ty.a9, Try.underlying51, Ty.c51, Ty.a51]
  repeat (refine And.intro (by first | omega | (intros; omega) | (intros; simp_all; done) | (intros; simp_all; omega)) ?_)
  refine k _ ?_; clear k K
  -- 11 := load 3 t10
  refine v_op ?_; intro K k
  simp only [zE, zL, zO, zN, aStepM, optable, set_some, Nat.reduceEqDiff, reduceIte, Nat.reduceLT, implies_true, forall_const, reduceCtorEq, V.ofValue, V.ofScalar, V.un, V.gd, aExec, aop, aLoad, row_mk, Blk.row, PartOK, Go.Vm.part, V.cells, V.noSl, V.noRef, Nat.reduceAdd, Nat.reduceLeDiff, Nat.reduceMul, Try.underlying3, Ty.c3, Ty.a3]
  repeat (refine And.intro (by first | omega | (intros; omega) | (intros; simp_all; done) | (intros; simp_all; omega)) ?_)
  refine k _ ?_; clear k K
  -- 12 := fieldAddr 54 t3 2
  refine v_op ?_; intro K k
  simp only [zE, zL, zN, aStepM, optable, set_some, Nat.reduceEqDiff, reduceIte, Nat.reduceLT, implies_true, forall_const, reduceCtorEq, V.ofValue, V.ofScalar, V.un, V.gd, aExec, aop, aFieldAddr, Nat.reduceAdd, Nat.reduceLeDiff, Nat.reduceMul, Try.underlying3, Ty.c3, Ty.a3, Try.underlying9, Ty.c9, Ty.a9, Try.underlying54, Ty.c54, Ty.a54]
  repeat (refine And.intro (by first | omega | (intros; omega) | (intros; simp_all; done) | (intros; simp_all; omega)) ?_)
  refine k _ ?_; clear k K
  -- None := store 3 t12 t11
  refine v_op ?_; intro K k
  simp only [zE, zS, zJ, zL, zO, zN, aStepM, optable, set_some, Nat.reduceEqDiff, reduceIte, Nat.reduceLT, implies_true, forall_const, reduceCtorEq, V.ofValue, V.ofScalar, V.un, V.gd, aExec, aop, aStore, setCells, V.isVal, V.cells, kindOf, kindAll, V.noSl, V.noRef, gt_iff_lt, Nat.reduceAdd, Nat.reduceLeDiff, Nat.reduceMul, takeV, takeCell, takeCells, row_mk, Blk.row, killAll, Nat.reduceBEq, Try.underlying3, Ty.c3, Ty.a3]
  repeat (refine And.intro (by first | omega | (intros; omega) | (intros; simp_all; done) | (intros; simp_all; omega)) ?_)
  refine k _ ?_; clear k K
  refine k10 _ ?_
  refine n9 _ _ (weak_keep [1, 2, 3] _) ?_
  simp only [keep_mk, keepE_nil, keepE_cons, look_cons, look_nil, Nat.reduceEqDiff, reduceIte]
  refine v_seq ?_; intro Q11 n11 e11 r11  -- SEQ 5
  refine v_region ?_; intro K12 k12
  -- 13 := fieldAddr 51 t1 3
  refine v_op ?_; intro K k
  simp only [zE, zL, zN, aStepM, optable, set_some, Nat.reduceEqDiff, reduceIte, Nat.reduceLT, implies_true, forall_const, reduceCtorEq, V.ofValue, V.ofScalar, V.un, V.gd, aExec, aop, aFieldAddr, Nat.reduceAdd, Nat.reduceLeDiff, Nat.reduceMul, Try.underlying3, Ty.c3, Ty.a3, Try.underlying9, Ty.c9, Ty.a9, Try.underlying51, Ty.c51, Ty.a51]
  repeat (refine And.intro (by first | omega | (intros; omega) | (intros; simp_all; done) | (intros; simp_all; omega)) ?_)
  refine k _ ?_; clear k K
  -- 14 := load 3 t13
  refine v_op ?_; intro K k
  simp only [zE, zL, zO, zN, aStepM, optable, set_some, Nat.reduceEqDiff, reduceIte, Nat.reduceLT, implies_true, forall_const, reduceCtorEq, V.ofValue, V.ofScalar, V.un, V.gd, aExec, aop, aLoad, row_mk, Blk.row, PartOK, Go.Vm.part, V.cells, V.noSl, V.noRef, Nat.reduceAdd, Nat.reduceLeDiff, Nat.reduceMul, Try.underlying3, Ty.c3, Ty.a3]
  repeat (refine And.intro (by first | omega | (intros; omega) | (intros; simp_all; done) | (intros; simp_all; omega)) ?_)
  refine k _ ?_; clear k K
  -- 15 := fieldAddr 54 t3 3
  refine v_op ?_; intro K k
  simp only [zE, zL, zN, aStepM, optable, set_some, Nat.reduceEqDiff, reduceIte, Nat.reduceLT, implies_true, forall_const, reduceCtorEq, V.ofValue, V.ofScalar, V.un, V.gd, aExec, aop, aFieldAddr, Nat.reduceAdd, Nat.reduceLeDiff, Nat.reduceMul, Try.underlying3, Ty.c3, Ty.a3, Try.underlying9, Ty.c9, Ty.a9, Try.underlying54, Ty.c54, Ty.a54]
  repeat (refine And.intro (by first | omega | (intros; omega) | (intros; simp_all; done) | (intros; simp_all; omega)) ?_)
  refine k _ ?_; clear k K
  -- None := store 3 t15 t14
  refine v_op ?_; intro K k
  simp only [zE, zS, zJ, zL, zO, zN, aStepM, optable, set_some, Nat.reduceEqDiff, reduceIte, Nat.reduceLT, implies_true, forall_const, reduceCtorEq, V.ofValue, V.ofScalar, V.un, V.gd, aExec, aop, aStore, setCells, V.isVal, V.cells, kindOf, kindAll, V.noSl, V.noRef, gt_iff_lt, Nat.reduceAdd, Nat.reduceLeDiff, Nat.reduceMul, takeV, takeCell, takeCells, row_mk, Blk.row, killAll, Nat.reduceBEq, Try.underlying3, Ty.c3, Ty.a3]
  repeat (refine And.intro (by first | omega | (intros; omega) | (intros; simp_all; done) | (intros; simp_all; omega)) ?_)
  refine k _ ?_; clear k K
  refine k12 _ ?_
  refine n11 _ _ (weak_keep [2, 3] _) ?_
  simp only [keep_mk, keepE_nil, keepE_cons, look_cons, look_nil, Nat.reduceEqDiff, reduceIte]
  refine v_seq ?_; intro Q13 n13 e13 r13  -- SEQ 6
  refine v_region ?_; intro K14 k14
  -- 16 := load 54 t3
  refine v_op ?_; intro K k
  simp only [zE, zL, zO, zN, aStepM, optable, set_some, Nat.reduceEqDiff, reduceIte, Nat.reduceLT, implies_true, forall_const, reduceCtorEq, V.ofValue, V.ofScalar, V.un, V.gd, aExec, aop, aLoad, row_mk, Blk.row, PartOK, Go.Vm.part, V.cells, V.noSl, V.noRef, Nat.reduceAdd, Nat.reduceLeDiff, Nat.reduceMul, Try.underlying3, Ty.c3, Ty.a3, Try.underlying9, Ty.c9, Ty.a9, Try.underlying54, Ty.c54, Ty.a54]
  repeat (refine And.intro (by first | omega | (intros; omega) | (intros; simp_all; done) | (intros; simp_all; omega)) ?_)
  refine k _ ?_; clear k K
  -- None := store 54 t2 t16
  refine v_op ?_; intro K k
  simp only [zE, zS, zJ, zL, zO, zN, aStepM, optable, set_some, Nat.reduceEqDiff, reduceIte, Nat.reduceLT, implies_true, forall_const, reduceCtorEq, V.ofValue, V.ofScalar, V.un, V.gd, aExec, aop, aStore, setCells, V.isVal, V.cells, kindOf, kindAll, V.noSl, V.noRef, gt_iff_lt, Nat.reduceAdd, Nat.reduceLeDiff, Nat.reduceMul, takeV, takeCell, takeCells, row_mk, Blk.row, killAll, Nat.reduceBEq, Try.underlying3, Ty.c3, Ty.a3, Try.underlying9, Ty.c9, Ty.a9, Try.underlying54, Ty.c54, Ty.a54]
  repeat (refine And.intro (by first | omega | (intros; omega) | (intros; simp_all; done) | (intros; simp_all; omega)) ?_)
  refine k _ ?_; clear k K
  refine k14 _ ?_
  refine n13 _ _ (weak_keep [2] _) ?_
  simp only [keep_mk, keepE_nil, keepE_cons, look_cons, look_nil, Nat.reduceEqDiff, reduceIte]
  refine v_ret ?_
  refine r0 _ ?_
  simp only [resK, pickRV, get_mk, look_cons, look_nil, Nat.reduceEqDiff, reduceIte, List.map_cons, List.map_nil]
  simp only [zE, zL, zO, zN, aStepM, optable, set_some, Nat.reduceEqDiff, reduceIte, Nat.reduceLT, implies_true, forall_const, reduceCtorEq, V.ofValue, V.ofScalar, V.un, V.gd, aLoad, row_mk, Blk.row, PartOK, Go.Vm.part, V.cells, V.noSl, V.noRef, Nat.reduceAdd, Nat.reduceLeDiff, Nat.reduceMul, Try.underlying3, Ty.c3, Ty.a3, Try.underlying9, Ty.c9, Ty.a9, Try.underlying54, Ty.c54, Ty.a54]
  exact ret_pure rfl (by first | rfl | simp) (.inl rfl)
-- loop.example/g01020/laws.toTurnoutS
set_option maxHeartbeats 1000000 in
theorem toTurnoutS_con (l : List (Int × ByteArray × Int × Int)) (hl : l.length ≤ 1048576) : Con Try.prog 9 [.sl (l.map (fun t : Int × ByteArray × Int × Int => V.agg [V.int .i64 t.1, V.str t.2.1, V.int .i64 t.2.2.1, V.int .i64 t.2.2.2]))] [] (.ref 0) [.arr (l.map (fun t : Int × ByteArray × Int × Int => V.agg [V.int .i64 t.1, V.str t.2.1, V.int .i64 t.2.2.1, V.int .i64 t.2.2.2])) .flat] := by
  refine v_con [.tmp 2] [] Try.func9 rfl rfl rfl (by simp [Try.ntmps9]) ?_
  intro Q0 n0 r0
  simp only [Try.ntmps9, envFrom, Nat.reduceAdd]
  refine v_seq ?_; intro Q1 n1 e1 r1  -- SEQ 0
  refine v_region ?_; intro K2 k2
  -- 2 := assign c<nilslice0/0>
  refine v_op ?_; intro K k
  simp only [zE, zS, aStepM, optable, set_some, Nat.reduceEqDiff, reduceIte, Nat.reduceLT, implies_true, forall_const, reduceCtorEq, V.ofValue, V.ofScalar, V.un, V.gd, aExec, aop, Nat.reduceAdd, contentL, Value.oneCell', List.all_cons, List.all_nil, Bool.and_self]
  repeat (refine And.intro (by first | omega | (intros; omega) | (intros; simp_all; done) | (intros; simp_all; omega)) ?_)
  refine k _ ?_; clear k K
  refine k2 _ ?_
  refine n1 _ _ (weak_keep [0] _) ?_
  simp only [keep_mk, keepE_nil, keepE_cons, look_cons, look_nil, Nat.reduceEqDiff, reduceIte]
  refine v_seq ?_; intro Q3 n3 e3 r3  -- SEQ 1
  refine v_region ?_; intro K4 k4
  -- 5 := move t0
  refine v_op ?_; intro K k
  simp only [zE, aStepM, optable, set_some, Nat.reduceEqDiff, reduceIte, Nat.reduceLT, implies_true, forall_const, reduceCtorEq, V.ofValue, V.ofScalar, V.un, V.gd, aExec, aop, contentL, Value.oneCell', List.all_cons, List.all_nil, Bool.and_self]
  repeat (refine And.intro (by first | omega | (intros; omega) | (intros; simp_all; done) | (intros; simp_all; omega)) ?_)
  refine k _ ?_; clear k K
  -- 6 := call b Go.Builtin.len t5 | 22
  refine v_op ?_; intro K k
  simp only [zE, zL, zN, aStepM, optable, set_some, Nat.reduceEqDiff, reduceIte, Nat.reduceLT, implies_true, forall_const, reduceCtorEq, V.ofValue, V.ofScalar, V.un, V.gd, aExec, aop, List.length_map, aLen, lenOK, row_mk, Blk.row, List.size_toArray, List.getD_eq_getElem?_getD, Array.getD_eq_getD_getElem?, Option.getD_some, Nat.reduceAdd, Nat.reduceLeDiff, Nat.reduceMul, Try.underlying3, Ty.c3, Ty.a3, Ty.b3, Ty.s3, Try.underlying22, Ty.c22, Ty.a22, Ty.b22, Ty.s22, Try.underlying51, Ty.c51, Ty.a51, Ty.b51, Ty.s51, contentL, Value.oneCell', List.all_cons, List.all_nil, Bool.and_self]
  repeat (refine And.intro (by first | omega | (intros; omega) | (intros; simp_all; done) | (intros; simp_all; omega)) ?_)
  refine k _ ?_; clear k K
  -- 7 := makeSlice 26 t6 t6
  refine v_op ?_; intro K k
  simp only [zE, zL, zO, zN, aStepM, optable, set_some, Nat.reduceEqDiff, reduceIte, Nat.reduceLT, implies_true, forall_const, reduceCtorEq, V.ofValue, V.ofScalar, V.un, V.gd, aExec, aop, content, V.isVal, V.cells, V.noRef, V.noSl, Int.toNat_natCast, Nat.reduceAdd, Nat.reduceLeDiff, Nat.reduceMul, Try.underlying26, Ty.c26, Ty.a26, Ty.z26, Ty.b26, Try.underlying54, Ty.c54, Ty.a54, Ty.z54, Ty.b54, contentL, Value.oneCell', List.all_cons, List.all_nil]
  repeat (refine And.intro (by first | omega | (intros; omega) | (intros; simp_all; done) | (intros; simp_all; omega)) ?_)
  refine k _ ?_; clear k K
  -- 3 := assign t7
  refine v_op ?_; intro K k
  simp only [zE, zS, aStepM, optable, set_some, Nat.reduceEqDiff, reduceIte, Nat.reduceLT, implies_true, forall_const, reduceCtorEq, V.ofValue, V.ofScalar, V.un, V.gd, aExec, aop, Nat.reduceAdd, contentL, Value.oneCell', List.all_cons, List.all_nil, Bool.and_self]
  repeat (refine And.intro (by first | omega | (intros; omega) | (intros; simp_all; done) | (intros; simp_all; omega)) ?_)
  refine k _ ?_; clear k K
  refine k4 _ ?_
  refine n3 _ _ (weak_keep [0, 3] _) ?_
  simp only [keep_mk, keepE_nil, keepE_cons, look_cons, look_nil, Nat.reduceEqDiff, reduceIte]
  refine v_seq ?_; intro Q5 n5 e5 r5  -- SEQ 2
  refine v_seq ?_; intro Q6 n6 e6 r6  -- SEQ 3
  refine v_region ?_; intro K7 k7
  -- 4 := assign c<0:i64>
  refine v_op ?_; intro K k
  simp only [zE, zS, aStepM, optable, set_some, Nat.reduceEqDiff, reduceIte, Nat.reduceLT, implies_true, forall_const, reduceCtorEq, V.ofValue, V.ofScalar, V.un, V.gd, aExec, aop, Nat.reduceAdd, contentL, Value.oneCell', List.all_cons, List.all_nil, Bool.and_self]
  repeat (refine And.intro (by first | omega | (intros; omega) | (intros; simp_all; done) | (intros; simp_all; omega)) ?_)
  refine k _ ?_; clear k K
  refine k7 _ ?_
  refine n6 _ _ (weak_keep [0, 3, 4] _) ?_
  simp only [keep_mk, keepE_nil, keepE_cons, look_cons, look_nil, Nat.reduceEqDiff, reduceIte]
  refine v_block ?_; intro Q8 n8 x8 e8 r8
  refine v_loop (fun i => ⟨[(0, .sl (l.map (fun t : Int × ByteArray × Int × Int => V.agg [V.int .i64 t.1, V.str t.2.1, V.int .i64 t.2.2.1, V.int .i64 t.2.2.2]))), (3, .ref 0), (4, .int .i64 (Nat.cast i))], [.arr (fillTo (fun t : Int × ByteArray × Int × Int => V.agg [V.int .i64 t.1, V.str t.2.1, V.int .i64 t.2.2.1, V.int .i64 t.2.2.2]) (V.agg [V.int .i64 0, V.str .empty, V.int .i64 0, V.int .i64 0]) l i) .flat], false, 23, 0⟩) (fun i => i ≤ l.length) (fun i => l.length - i) 0 ?_ ?_ ?_
  · refine weak_both [0, 3, 4] [1] (by decide) (by simp) ?_ ?_ ?_
    · simp [keep_mk, keepE_nil, keepE_cons, look_cons, V.only, V.onlyL, idx] <;> (first | rfl | decide)
    · simp [Blk.kindIs, fillK_mix]
    simp only [keep_mk, keepE_nil, keepE_cons, look_cons, look_nil, Nat.reduceEqDiff, reduceIte, St.comp, List.map_cons, List.map_nil, V.ren, V.renL, idx, List.getD_cons_zero, List.getD_cons_succ, Nat.reduceBEq, cond_true, cond_false, Option.map_some, Option.getD_some, Nat.reduceAdd, Nat.beq_eq_true_eq]
    rw [fill_zero]; rfl
  · exact Nat.zero_le _
  · rintro i hok9 Q9 n9 e9 r9
    have hi1 : i ≤ l.length := hok9
    refine v_seq ?_; intro Q10 n10 e10 r10  -- SEQ 4
    refine v_seq ?_; intro Q11 n11 e11 r11  -- SEQ 5
    refine v_region ?_; intro K12 k12
    -- 8 := move t4
    refine v_op ?_; intro K k
    simp only [zE, aStepM, optable, set_some, Nat.reduceEqDiff, reduceIte, Nat.reduceLT, implies_true, forall_const, reduceCtorEq, V.ofValue, V.ofScalar, V.un, V.gd, aExec, aop, contentL, Value.oneCell', List.all_cons, List.all_nil, Bool.and_self]
    repeat (refine And.intro (by first | omega | (intros; omega) | (intros; simp_all; done) | (intros; simp_all; omega)) ?_)
    refine k _ ?_; clear k K
    -- 9 := move t0
    refine v_op ?_; intro K k
    simp only [zE, aStepM, optable, set_some, Nat.reduceEqDiff, reduceIte, Nat.reduceLT, implies_true, forall_const, reduceCtorEq, V.ofValue, V.ofScalar, V.un, V.gd, aExec, aop, contentL, Value.oneCell', List.all_cons, List.all_nil, Bool.and_self]
    repeat (refine And.intro (by first | omega | (intros; omega) | (intros; simp_all; done) | (intros; simp_all; omega)) ?_)
    refine k _ ?_; clear k K
    -- 10 := call b Go.Builtin.len t9 | 22
    refine v_op ?_; intro K k
    simp only [zE, zL, zN, aStepM, optable, set_some, Nat.reduceEqDiff, reduceIte, Nat.reduceLT, implies_true, forall_const, reduceCtorEq, V.ofValue, V.ofScalar, V.un, V.gd, aExec, aop, List.length_map, aLen, lenOK, row_mk, Blk.row, List.size_toArray, List.getD_eq_getElem?_getD, Array.getD_eq_getD_getElem?, Option.getD_some, Nat.reduceAdd, Nat.reduceLeDiff, Nat.reduceMul, Try.underlying3, Ty.c3, Ty.a3, Ty.b3, Ty.s3, Try.underlying22, Ty.c22, Ty.a22, Ty.b22, Ty.s22, Try.underlying51, Ty.c51, Ty.a51, Ty.b51, Ty.s51, contentL, Value.oneCell', List.all_cons, List.all_nil, Bool.and_self]
    repeat (refine And.intro (by first | omega | (intros; omega) | (intros; simp_all; done) | (intros; simp_all; omega)) ?_)
    refine k _ ?_; clear k K
    -- 11 := binOp Go.BinOp.lss 3 t8 t10 3
    refine v_op ?_; intro K k
    simp only [zE, aStepM, optable, set_some, Nat.reduceEqDiff, reduceIte, Nat.reduceLT, implies_true, forall_const, reduceCtorEq, V.ofValue, V.ofScalar, V.un, V.gd, aExec, aop, aBin, Try.underlying3, contentL, Value.oneCell', List.all_cons, List.all_nil, Bool.and_self]
    repeat (refine And.intro (by first | omega | (intros; omega) | (intros; simp_all; done) | (intros; simp_all; omega)) ?_)
    refine k _ ?_; clear k K
    refine k12 _ ?_
    refine n11 _ _ (weak_keep [0, 3, 4, 11] _) ?_
    simp only [keep_mk, keepE_nil, keepE_cons, look_cons, look_nil, Nat.reduceEqDiff, reduceIte]
    refine v_cond _ rfl ?_ ?_  -- COND 0
    · intro hc0
      try simp only [zC, reduceCtorEq] at hc0
      have hlt : i < l.length := by omega
      obtain ⟨⟨x0, x1, x2, x3⟩, hx⟩ : ∃ x : Int × ByteArray × Int × Int, l[i]? = some x := ⟨l[i]'(by omega), List.getElem?_eq_getElem (by omega)⟩
      refine v_skip ?_
      refine n10 _ _ (weak_keep [0, 3, 4] _) ?_
      simp only [keep_mk, keepE_nil, keepE_cons, look_cons, look_nil, Nat.reduceEqDiff, reduceIte]
      refine v_seq ?_; intro Q14 n14 e14 r14  -- SEQ 6
      refine v_block ?_; intro Q15 n15 x15 e15 r15
      refine v_region ?_; intro K16 k16
      -- 14 := move t3
      refine v_op ?_; intro K k
      simp only [zE, aStepM, optable, set_some, Nat.reduceEqDiff, reduceIte, Nat.reduceLT, implies_true, forall_const, reduceCtorEq, V.ofValue, V.ofScalar, V.un, V.gd, aExec, aop, contentL, Value.oneCell', List.all_cons, List.all_nil, Bool.and_self, getD_map hx, fill_len hi1, fill_get hlt, fill_set hx]
      repeat (refine And.intro (by first | omega | (intros; omega) | (intros; simp_all; done) | (intros; simp_all; omega)) ?_)
      refine k _ ?_; clear k K
      -- 15 := move t4
      refine v_op ?_; intro K k
      simp only [zE, aStepM, optable, set_some, Nat.reduceEqDiff, reduceIte, Nat.reduceLT, implies_true, forall_const, reduceCtorEq, V.ofValue, V.ofScalar, V.un, V.gd, aExec, aop, contentL, Value.oneCell', List.all_cons, List.all_nil, Bool.and_self, getD_map hx, fill_len hi1, fill_get hlt, fill_set hx]
      repeat (refine And.intro (by first | omega | (intros; omega) | (intros; simp_all; done) | (intros; simp_all; omega)) ?_)
      refine k _ ?_; clear k K
      -- 16 := move t0
      refine v_op ?_; intro K k
      simp only [zE, aStepM, optable, set_some, Nat.reduceEqDiff, reduceIte, Nat.reduceLT, implies_true, forall_const, reduceCtorEq, V.ofValue, V.ofScalar, V.un, V.gd, aExec, aop, contentL, Value.oneCell', List.all_cons, List.all_nil, Bool.and_self, getD_map hx, fill_len hi1, fill_get hlt, fill_set hx]
      repeat (refine And.intro (by first | omega | (intros; omega) | (intros; simp_all; done) | (intros; simp_all; omega)) ?_)
      refine k _ ?_; clear k K
      -- 17 := move t4
      refine v_op ?_; intro K k
      simp only [zE, aStepM, optable, set_some, Nat.reduceEqDiff, reduceIte, Nat.reduceLT, implies_true, forall_const, reduceCtorEq, V.ofValue, V.ofScalar, V.un, V.gd, aExec, aop, contentL, Value.oneCell', List.all_cons, List.all_nil, Bool.and_self, getD_map hx, fill_len hi1, fill_get hlt, fill_set hx]
      repeat (refine And.intro (by first | omega | (intros; omega) | (intros; simp_all; done) | (intros; simp_all; omega)) ?_)
      refine k _ ?_; clear k K
      -- 18 := indexAddr 22 t16 t17
      refine v_op ?_; intro K k
      simp only [zE, zL, zN, aStepM, optable, set_some, Nat.reduceEqDiff, reduceIte, Nat.reduceLT, implies_true, forall_const, reduceCtorEq, V.ofValue, V.ofScalar, V.un, V.gd, aExec, aop, aIndexAddr, row_mk, Blk.row, Go.Vm.V.cells, List.forall_mem_map, List.length_map, Int.toNat_natCast, Int.reduceToNat, TypeDesc.slice.injEq, Nat.reduceAdd, Nat.reduceLeDiff, Nat.reduceMul, Try.underlying22, Ty.c22, Ty.a22, Try.underlying51, Ty.c51, Ty.a51, contentL, Value.oneCell', List.all_cons, List.all_nil, Bool.and_self, getD_map hx, fill_len hi1, fill_get hlt, fill_set hx]
      repeat (refine And.intro (by first | omega | (exact fill_all (fun _ => rfl) rfl) | (intros; omega) | (intros; simp_all; done) | (intros; simp_all; omega)) ?_)
      refine k _ ?_; clear k K
      -- 19 := load 51 t18
      refine v_op ?_; intro K k
      simp only [zE, zL, zO, zN, aStepM, optable, set_some, Nat.reduceEqDiff, reduceIte, Nat.reduceLT, implies_true, forall_const, reduceCtorEq, V.ofValue, V.ofScalar, V.un, V.gd, aExec, aop, aLoad, row_mk, Blk.row, PartOK, Go.Vm.part, V.cells, V.noSl, V.noRef, Nat.reduceAdd, Nat.reduceLeDiff, Nat.reduceMul, Try.underlying3, Ty.c3, Ty.a3, Try.underlying9, Ty.c9, Ty.a9, Try.underlying51, Ty.c51, Ty.a51, contentL, Value.oneCell', List.all_cons, List.all_nil, getD_map hx, fill_len hi1, fill_get hlt, fill_set hx]
      repeat (refine And.intro (by first | omega | (intros; omega) | (intros; simp_all; done) | (intros; simp_all; omega)) ?_)
      refine k _ ?_; clear k K
      -- 20 := call v f32 t19 | 51
      refine v_op ?_; intro K k
      simp only [zE, zM, aStepM, optable, set_some, Nat.reduceEqDiff, reduceIte, Nat.reduceLT, implies_true, forall_const, reduceCtorEq, V.ofValue, V.ofScalar, V.un, V.gd, aExec, lentIds, lendOf, Try.underlying3, Ty.c3, Ty.a3, Ty.b3, Ty.s3, Try.underlying9, Ty.c9, Ty.a9, Ty.b9, Ty.s9, Try.underlying51, Ty.c51, Ty.a51, Ty.b51, Ty.s51, Try.underlying54, Ty.c54, Ty.a54, Ty.b54, Ty.s54]
      repeat (refine And.intro (by first | rfl | (intros; simp_all; done)) ?_)
      refine aCall_new (toTurnout_con x0 x1 x2 x3) (by first | rfl | (simp only [toArgs, toArg, toCell, toCells, idx, row_mk, List.getElem?_cons_zero, List.getElem?_cons_succ, Option.bind_some, Option.map_some, Blk.row, fillK_mix, flat_mix, deep_mix, cond_true]; done) | (simp [toArgs, toArg, toCell, toCells, idx, row_mk, Blk.row, fillK_mix, Nat.beq_refl]; done)) (by first | exact .inl ⟨rfl, by simp [Blk.kindIs, fillK_fd]⟩ | exact .inr (by simp [V.cold])) ?_
      refine k _ ?_; clear k K
      simp only [zY, zW, set_some, Nat.reduceEqDiff, reduceIte, V.ren, V.renL, rho, Nat.reduceAdd]
      -- 21 := indexAddr 26 t14 t15
      refine v_op ?_; intro K k
      simp only [zE, zL, zN, aStepM, optable, set_some, Nat.reduceEqDiff, reduceIte, Nat.reduceLT, implies_true, forall_const, reduceCtorEq, V.ofValue, V.ofScalar, V.un, V.gd, aExec, aop, aIndexAddr, row_mk, Blk.row, Go.Vm.V.cells, List.forall_mem_map, List.length_map, Int.toNat_natCast, Int.reduceToNat, TypeDesc.slice.injEq, Nat.reduceAdd, Nat.reduceLeDiff, Nat.reduceMul, Try.underlying26, Ty.c26, Ty.a26, Try.underlying54, Ty.c54, Ty.a54, contentL, Value.oneCell', List.all_cons, List.all_nil, Bool.and_self, getD_map hx, fill_len hi1, fill_get hlt, fill_set hx]
      repeat (refine And.intro (by first | omega | (exact fill_all (fun _ => rfl) rfl) | (intros; omega) | (intros; simp_all; done) | (intros; simp_all; omega)) ?_)
      refine k _ ?_; clear k K
      -- None := store 54 t21 t20
      refine v_op ?_; intro K k
      simp only [zE, zS, zJ, zL, zO, zN, aStepM, optable, set_some, Nat.reduceEqDiff, reduceIte, Nat.reduceLT, implies_true, forall_const, reduceCtorEq, V.ofValue, V.ofScalar, V.un, V.gd, aExec, aop, aStore, setCells, V.isVal, V.cells, kindOf, kindAll, V.noSl, V.noRef, gt_iff_lt, Nat.reduceAdd, Nat.reduceLeDiff, Nat.reduceMul, takeV, takeCell, takeCells, row_mk, Blk.row, killAll, Nat.reduceBEq, Try.underlying3, Ty.c3, Ty.a3, Try.underlying9, Ty.c9, Ty.a9, Try.underlying54, Ty.c54, Ty.a54, contentL, Value.oneCell', getD_map hx, fill_len hi1, fill_get hlt, fill_set hx]
      repeat (refine And.intro (by first | omega | (exact fill_all (fun _ => rfl) rfl) | (intros; omega) | (intros; simp_all; done) | (intros; simp_all; omega)) ?_)
      refine k _ ?_; clear k K
      refine k16 _ ?_
      refine n15 _ ?_
      refine n14 _ _ (weak_keep [0, 3, 4] _) ?_
      simp only [keep_mk, keepE_nil, keepE_cons, look_cons, look_nil, Nat.reduceEqDiff, reduceIte]
      refine v_region ?_; intro K17 k17
      -- 12 := move t4
      refine v_op ?_; intro K k
      simp only [zE, aStepM, optable, set_some, Nat.reduceEqDiff, reduceIte, Nat.reduceLT, implies_true, forall_const, reduceCtorEq, V.ofValue, V.ofScalar, V.un, V.gd, aExec, aop, contentL, Value.oneCell', List.all_cons, List.all_nil, Bool.and_self, getD_map hx, fill_len hi1, fill_get hlt, fill_set hx]
      repeat (refine And.intro (by first | omega | (intros; omega) | (intros; simp_all; done) | (intros; simp_all; omega)) ?_)
      refine k _ ?_; clear k K
      -- 13 := binOp Go.BinOp.add 3 t12 c<1:i64> 3
      refine v_op ?_; intro K k
      simp only [zE, aStepM, optable, set_some, Nat.reduceEqDiff, reduceIte, Nat.reduceLT, implies_true, forall_const, reduceCtorEq, V.ofValue, V.ofScalar, V.un, V.gd, aExec, aop, aBin, Try.underlying3, contentL, Value.oneCell', List.all_cons, List.all_nil, Bool.and_self, getD_map hx, fill_len hi1, fill_get hlt, fill_set hx]
      try simp (disch := omega) only [wrap64]
      repeat (refine And.intro (by first | omega | (intros; omega) | (intros; simp_all; done) | (intros; simp_all; omega)) ?_)
      refine k _ ?_; clear k K
      -- 4 := assign t13
      refine v_op ?_; intro K k
      simp only [zE, zS, aStepM, optable, set_some, Nat.reduceEqDiff, reduceIte, Nat.reduceLT, implies_true, forall_const, reduceCtorEq, V.ofValue, V.ofScalar, V.un, V.gd, aExec, aop, Nat.reduceAdd, contentL, Value.oneCell', List.all_cons, List.all_nil, Bool.and_self, getD_map hx, fill_len hi1, fill_get hlt, fill_set hx]
      repeat (refine And.intro (by first | omega | (intros; omega) | (intros; simp_all; done) | (intros; simp_all; omega)) ?_)
      refine k _ ?_; clear k K
      refine k17 _ ?_
      refine n9 _ (i + 1) ?_ ?_ ?_
      · refine weak_both [0, 3, 4] [0] (by decide) (by simp) ?_ ?_ ?_
        · simp [keep_mk, keepE_nil, keepE_cons, look_cons, V.only, V.onlyL, idx] <;> (first | rfl | decide)
        · simp [Blk.kindIs, fillK_mix]
        simp only [keep_mk, keepE_nil, keepE_cons, look_cons, look_nil, Nat.reduceEqDiff, reduceIte, St.comp, List.map_cons, List.map_nil, V.ren, V.renL, idx, List.getD_cons_zero, List.getD_cons_succ, Nat.reduceBEq, cond_true, cond_false, Option.map_some, Option.getD_some, Nat.reduceAdd, Nat.beq_eq_true_eq]
        rfl
      · exact hlt
      · show _ < _; omega
    · intro hc0
      try simp only [zC, reduceCtorEq] at hc0
      refine v_exit ?_
      refine e10 _ _ ?_
      refine e9 _ _ ?_
      refine x8 _ ?_
      refine n5 _ _ (weak_keep [3] _) ?_
      simp only [keep_mk, keepE_nil, keepE_cons, look_cons, look_nil, Nat.reduceEqDiff, reduceIte]
      refine v_seq ?_; intro Q18 n18 e18 r18  -- SEQ 7
      refine v_region ?_; intro K19 k19
      -- 22 := move t3
      refine v_op ?_; intro K k
      simp only [zE, aStepM, optable, set_some, Nat.reduceEqDiff, reduceIte, Nat.reduceLT, implies_true, forall_const, reduceCtorEq, V.ofValue, V.ofScalar, V.un, V.gd, aExec, aop, contentL, Value.oneCell', List.all_cons, List.all_nil, Bool.and_self]
      repeat (refine And.intro (by first | omega | (intros; omega) | (intros; simp_all; done) | (intros; simp_all; omega)) ?_)
      refine k _ ?_; clear k K
      -- 2 := assign t22
      refine v_op ?_; intro K k
      simp only [zE, zS, aStepM, optable, set_some, Nat.reduceEqDiff, reduceIte, Nat.reduceLT, implies_true, forall_const, reduceCtorEq, V.ofValue, V.ofScalar, V.un, V.gd, aExec, aop, Nat.reduceAdd, contentL, Value.oneCell', List.all_cons, List.all_nil, Bool.and_self]
      repeat (refine And.intro (by first | omega | (intros; omega) | (intros; simp_all; done) | (intros; simp_all; omega)) ?_)
      refine k _ ?_; clear k K
      refine k19 _ ?_
      refine n18 _ _ (weak_keep [2] _) ?_
      simp only [keep_mk, keepE_nil, keepE_cons, look_cons, look_nil, Nat.reduceEqDiff, reduceIte]
      refine v_ret ?_
      refine r0 _ ?_
      simp only [resK, pickRV, get_mk, look_cons, look_nil, Nat.reduceEqDiff, reduceIte, List.map_cons, List.map_nil]
      rw [← fill_end (f := (fun t : Int × ByteArray × Int × Int => V.agg [V.int .i64 t.1, V.str t.2.1, V.int .i64 t.2.2.1, V.int .i64 t.2.2.2])) (z := (V.agg [V.int .i64 0, V.str .empty, V.int .i64 0, V.int .i64 0])) (show l.length ≤ i by omega)]
      exact ret_ref rfl (.inl rfl)
end Go.Proofs.Ytldnelkcmffiaaa
