/- What functions compute (Mean). No condition. -/
import Derived.Test.YtciapcamhocmcaaTy
import Derived.Test.YtciapcamhocmcaaVm21
import Derived.Test.YtciapcamhocmcaaWTimes
import Derived.Test.YtciapcamhocmcaaWTurn
import Derived.Test.YtciapcamhocmcaaWTurns
set_option linter.unusedSimpArgs false
set_option linter.unusedVariables false
namespace Go.Proofs.Ytciapcamhocmcaa
open Go Go.Vm

def hasT (l : List (Int × ByteArray × Int × Int)) : Bool := turnsB l && !decide ((l.length : Int) = 0)
def meanV (l : List (Int × ByteArray × Int × Int)) : Int := if hasT l = true then IntKind.i64.wrap ((sumW (l.map tTime) 0).tdiv l.length) else 0

-- loop.example/g01020/spec.MeanTime
set_option maxHeartbeats 1000000 in
theorem specMeanTime_con (l : List (Int × ByteArray × Int × Int)) (hl : l.length ≤ 1048576) (hls : ∀ t ∈ l, t.2.1.size ≤ 9223372036854775807) : Con Try.prog 16 [.sl (l.map (fun t : Int × ByteArray × Int × Int => V.agg [V.int .i64 t.1, V.str t.2.1, V.int .i64 t.2.2.1, V.int .i64 t.2.2.2]))] [] (.tup [.int .i64 (meanV l), .bool (hasT l)]) [] := by
  refine v_con [.tmp 2, .tmp 3] [] Try.func16 rfl rfl rfl (by simp [Try.ntmps16]) ?_
  intro Q0 n0 r0
  simp only [Try.ntmps16, envFrom, Nat.reduceAdd]
  refine v_seq ?_; intro Q1 n1 e1 r1
  refine v_region ?_; intro K2 k2
  -- 2 := assign c<0:i64>
  refine v_op ?_; intro K k
  simp only [zE, zS, aStepM, optable, set_some, Nat.reduceEqDiff, reduceIte, Nat.reduceLT, implies_true, forall_const, reduceCtorEq, V.ofValue, V.ofScalar, V.un, V.gd, aExec, aop, Nat.reduceAdd]
  repeat (refine And.intro (by first | omega | (intros; omega) | (intros; simp_all; done) | (intros; simp_all; omega)) ?_)
  refine k _ ?_; clear k K
  -- 3 := assign c<false>
  refine v_op ?_; intro K k
  simp only [zE, zS, aStepM, optable, set_some, Nat.reduceEqDiff, reduceIte, Nat.reduceLT, implies_true, forall_const, reduceCtorEq, V.ofValue, V.ofScalar, V.un, V.gd, aExec, aop, Nat.reduceAdd]
  repeat (refine And.intro (by first | omega | (intros; omega) | (intros; simp_all; done) | (intros; simp_all; omega)) ?_)
  refine k _ ?_; clear k K
  refine k2 _ ?_
  refine n1 _ _ (weak_keep [0] _) ?_
  simp only [keep_mk, keepE_nil, keepE_cons, look_cons, look_nil, Nat.reduceEqDiff, reduceIte]
  refine v_seq ?_; intro Q3 n3 e3 r3
  refine v_seq ?_; intro Q4 n4 e4 r4
  refine v_region ?_; intro K5 k5
  -- 7 := move t0
  refine v_op ?_; intro K k
  simp only [zE, aStepM, optable, set_some, Nat.reduceEqDiff, reduceIte, Nat.reduceLT, implies_true, forall_const, reduceCtorEq, V.ofValue, V.ofScalar, V.un, V.gd, aExec, aop]
  repeat (refine And.intro (by first | omega | (intros; omega) | (intros; simp_all; done) | (intros; simp_all; omega)) ?_)
  refine k _ ?_; clear k K
  -- 8 := call v f70 t7 | 26
  refine v_op ?_; intro K k
  simp only [zE, zM, aStepM, optable, set_some, Nat.reduceEqDiff, reduceIte, Nat.reduceLT, implies_true, forall_const, reduceCtorEq, V.ofValue, V.ofScalar, V.un, V.gd, aExec, lentIds, lendOf, Try.underlying4, Ty.c4, Ty.a4, Ty.b4, Ty.s4, Try.underlying26, Ty.c26, Ty.a26, Ty.b26, Ty.s26, Try.underlying95, Ty.c95, Ty.a95, Ty.b95, Ty.s95]
  repeat (refine And.intro (by first | rfl | (intros; simp_all; done)) ?_)
  refine aCall_new (dbGood_con l hl hls) (by first | rfl | simp only [toArgs, toArg, toCell, toCells, idx, row_mk, List.getElem?_cons_zero, List.getElem?_cons_succ, Option.bind_some, Option.map_some, Blk.row, fillK_mix, cond_true]) (by first | exact .inl ⟨rfl, by simp [Blk.kindIs, fillK_fd]⟩ | exact .inr (by simp [V.cold])) ?_
  refine k _ ?_; clear k K
  simp only [zY, zW, set_some, Nat.reduceEqDiff, reduceIte, V.ren, V.renL, rho, Nat.reduceAdd]
  -- 9 := unOp Go.UnOp.not 4 t8
  refine v_op ?_; intro K k
  simp only [zE, aStepM, optable, set_some, Nat.reduceEqDiff, reduceIte, Nat.reduceLT, implies_true, forall_const, reduceCtorEq, V.ofValue, V.ofScalar, V.un, V.gd, aExec, aop, aUn, Try.underlying4]
  repeat (refine And.intro (by first | omega | (intros; omega) | (intros; simp_all; done) | (intros; simp_all; omega)) ?_)
  refine k _ ?_; clear k K
  -- 10 := move t9
  refine v_op ?_; intro K k
  simp only [zE, aStepM, optable, set_some, Nat.reduceEqDiff, reduceIte, Nat.reduceLT, implies_true, forall_const, reduceCtorEq, V.ofValue, V.ofScalar, V.un, V.gd, aExec, aop]
  repeat (refine And.intro (by first | omega | (intros; omega) | (intros; simp_all; done) | (intros; simp_all; omega)) ?_)
  refine k _ ?_; clear k K
  -- 11 := move t0
  first
  | refine v_pass 11 3 false rfl (show 11 < 30 by decide) rfl ?_ ?_
    · first | rfl | (simp only [zV, guardV, Nat.reduceEqDiff, reduceIte]; done)
    simp only [zW, set_some, Nat.reduceEqDiff, reduceIte]
  | skip
    -- 11 := move t0
    refine v_op ?_; intro K k
    simp only [zE, zG, aStepM, optable, set_some, Nat.reduceEqDiff, reduceIte, Nat.reduceLT, implies_true, forall_const, reduceCtorEq, V.ofValue, V.ofScalar, V.un, V.gd, guardV, V.wrap, aExec, aop]
    repeat (refine And.intro (by first | omega | (intros; omega) | (intros; simp_all; done) | (intros; simp_all; omega)) ?_)
    refine k _ ?_; clear k K
  -- 12 := call b Go.Builtin.len t11 | 26
  first
  | refine v_pass 12 3 false rfl (show 12 < 30 by decide) rfl ?_ ?_
    · first | rfl | (simp only [zV, guardV, Nat.reduceEqDiff, reduceIte]; done)
    simp only [zW, set_some, Nat.reduceEqDiff, reduceIte]
  | skip
    -- 12 := call b Go.Builtin.len t11 | 26
    refine v_op ?_; intro K k
    simp only [zE, zL, zN, aStepM, optable, set_some, Nat.reduceEqDiff, reduceIte, Nat.reduceLT, implies_true, forall_const, reduceCtorEq, V.ofValue, V.ofScalar, V.un, V.gd, guardV, V.wrap, aExec, aop, List.length_map, aLen, lenOK, row_mk, Blk.row, List.size_toArray, List.getD_eq_getElem?_getD, Array.getD_eq_getD_getElem?, Option.getD_some, Nat.reduceAdd, Nat.reduceLeDiff, Nat.reduceMul, Try.underlying3, Ty.c3, Ty.a3, Ty.b3, Ty.s3, Try.underlying26, Ty.c26, Ty.a26, Ty.b26, Ty.s26, Try.underlying95, Ty.c95, Ty.a95, Ty.b95, Ty.s95]
    repeat (refine And.intro (by first | omega | (intros; omega) | (intros; simp_all; done) | (intros; simp_all; omega)) ?_)
    refine k _ ?_; clear k K
  -- 13 := binOp Go.BinOp.eql 3 t12 c<0:i64> 3
  first
  | refine v_pass 13 3 false rfl (show 13 < 30 by decide) rfl ?_ ?_
    · first | rfl | (simp only [zV, guardV, Nat.reduceEqDiff, reduceIte]; done)
    simp only [zW, set_some, Nat.reduceEqDiff, reduceIte]
  | skip
    -- 13 := binOp Go.BinOp.eql 3 t12 c<0:i64> 3
    refine v_op ?_; intro K k
    simp only [zE, zG, aStepM, optable, set_some, Nat.reduceEqDiff, reduceIte, Nat.reduceLT, implies_true, forall_const, reduceCtorEq, V.ofValue, V.ofScalar, V.un, V.gd, guardV, V.wrap, aExec, aop, aBin, Try.underlying3]
    repeat (refine And.intro (by first | omega | (intros; omega) | (intros; simp_all; done) | (intros; simp_all; omega)) ?_)
    refine k _ ?_; clear k K
  -- 14 := pick t10 c<true> t13
  refine v_op ?_; intro K k
  simp only [zE, zP, aStepM, optable, set_some, Nat.reduceEqDiff, reduceIte, Nat.reduceLT, implies_true, forall_const, reduceCtorEq, V.ofValue, V.ofScalar, V.un, V.gd, aExec, aop, pickV]
  repeat (refine And.intro (by first | omega | (intros; omega) | (intros; simp_all; done) | (intros; simp_all; omega)) ?_)
  refine k _ ?_; clear k K
  refine k5 _ ?_
  refine n4 _ _ (weak_keep [0, 14] _) ?_
  simp only [keep_mk, keepE_nil, keepE_cons, look_cons, look_nil, Nat.reduceEqDiff, reduceIte]
  refine v_cond _ rfl ?_ ?_  -- COND 0
  · intro hc0
    try simp only [zC, reduceCtorEq] at hc0
    refine v_seq ?_; intro Q7 n7 e7 r7
    refine v_region ?_; intro K8 k8
    -- 2 := assign c<0:i64>
    refine v_op ?_; intro K k
    simp only [zE, zS, aStepM, optable, set_some, Nat.reduceEqDiff, reduceIte, Nat.reduceLT, implies_true, forall_const, reduceCtorEq, V.ofValue, V.ofScalar, V.un, V.gd, aExec, aop, Nat.reduceAdd]
    repeat (refine And.intro (by first | omega | (intros; omega) | (intros; simp_all; done) | (intros; simp_all; omega)) ?_)
    refine k _ ?_; clear k K
    -- 3 := assign c<false>
    refine v_op ?_; intro K k
    simp only [zE, zS, aStepM, optable, set_some, Nat.reduceEqDiff, reduceIte, Nat.reduceLT, implies_true, forall_const, reduceCtorEq, V.ofValue, V.ofScalar, V.un, V.gd, aExec, aop, Nat.reduceAdd]
    repeat (refine And.intro (by first | omega | (intros; omega) | (intros; simp_all; done) | (intros; simp_all; omega)) ?_)
    refine k _ ?_; clear k K
    refine k8 _ ?_
    refine n7 _ _ (weak_keep [2, 3] _) ?_
    simp only [keep_mk, keepE_nil, keepE_cons, look_cons, look_nil, Nat.reduceEqDiff, reduceIte]
    refine v_ret ?_
    refine r3 _ ?_
    refine r0 _ ?_
    simp only [resK, pickRV, get_mk, look_cons, look_nil, Nat.reduceEqDiff, reduceIte, List.map_cons, List.map_nil]
    have hg : hasT l = false := by rw [hasT]; rcases hc0 with h | h <;> simp [h]
    have hmv : meanV l = 0 := by rw [meanV, hg]; rfl
    rw [hmv, hg]
    exact ret_pure rfl rfl (.inl rfl)
  · intro hc0
    try simp only [zC, reduceCtorEq] at hc0
    have hg : hasT l = true := by rw [hasT, hc0.1, decide_eq_false (by omega)]; rfl
    have hn0 : (l.length : Int) ≠ 0 := by omega
    have hmv : meanV l = IntKind.i64.wrap ((sumW ((l.map tTime).drop 0) 0).tdiv l.length) := by rw [meanV, hg]; rfl
    refine v_skip ?_
    refine n3 _ _ (weak_keep [0] _) ?_
    simp only [keep_mk, keepE_nil, keepE_cons, look_cons, look_nil, Nat.reduceEqDiff, reduceIte]
    refine v_seq ?_; intro Q9 n9 e9 r9
    refine v_region ?_; intro K10 k10
    -- 4 := assign c<0:i64>
    refine v_op ?_; intro K k
    simp only [zE, zS, aStepM, optable, set_some, Nat.reduceEqDiff, reduceIte, Nat.reduceLT, implies_true, forall_const, reduceCtorEq, V.ofValue, V.ofScalar, V.un, V.gd, aExec, aop, Nat.reduceAdd]
    repeat (refine And.intro (by first | omega | (intros; omega) | (intros; simp_all; done) | (intros; simp_all; omega)) ?_)
    refine k _ ?_; clear k K
    refine k10 _ ?_
    refine n9 _ _ (weak_keep [0, 4] _) ?_
    simp only [keep_mk, keepE_nil, keepE_cons, look_cons, look_nil, Nat.reduceEqDiff, reduceIte]
    refine v_seq ?_; intro Q11 n11 e11 r11
    refine v_seq ?_; intro Q12 n12 e12 r12
    refine v_region ?_; intro K13 k13
    -- 15 := move t0
    refine v_op ?_; intro K k
    simp only [zE, aStepM, optable, set_some, Nat.reduceEqDiff, reduceIte, Nat.reduceLT, implies_true, forall_const, reduceCtorEq, V.ofValue, V.ofScalar, V.un, V.gd, aExec, aop]
    repeat (refine And.intro (by first | omega | (intros; omega) | (intros; simp_all; done) | (intros; simp_all; omega)) ?_)
    refine k _ ?_; clear k K
    -- 16 := call b Go.Builtin.len t15 | 26
    refine v_op ?_; intro K k
    simp only [zE, zL, zN, aStepM, optable, set_some, Nat.reduceEqDiff, reduceIte, Nat.reduceLT, implies_true, forall_const, reduceCtorEq, V.ofValue, V.ofScalar, V.un, V.gd, aExec, aop, List.length_map, aLen, lenOK, row_mk, Blk.row, List.size_toArray, List.getD_eq_getElem?_getD, Array.getD_eq_getD_getElem?, Option.getD_some, Nat.reduceAdd, Nat.reduceLeDiff, Nat.reduceMul, Try.underlying3, Ty.c3, Ty.a3, Ty.b3, Ty.s3, Try.underlying26, Ty.c26, Ty.a26, Ty.b26, Ty.s26, Try.underlying95, Ty.c95, Ty.a95, Ty.b95, Ty.s95]
    repeat (refine And.intro (by first | omega | (intros; omega) | (intros; simp_all; done) | (intros; simp_all; omega)) ?_)
    refine k _ ?_; clear k K
    -- 17 := move c<0:i64>
    refine v_op ?_; intro K k
    simp only [zE, aStepM, optable, set_some, Nat.reduceEqDiff, reduceIte, Nat.reduceLT, implies_true, forall_const, reduceCtorEq, V.ofValue, V.ofScalar, V.un, V.gd, aExec, aop]
    repeat (refine And.intro (by first | omega | (intros; omega) | (intros; simp_all; done) | (intros; simp_all; omega)) ?_)
    refine k _ ?_; clear k K
    refine k13 _ ?_
    refine n12 _ _ (weak_keep [0, 4, 15, 16, 17] _) ?_
    simp only [keep_mk, keepE_nil, keepE_cons, look_cons, look_nil, Nat.reduceEqDiff, reduceIte]
    refine v_block ?_; intro Q14 n14 x14 e14 r14
    refine v_loop (fun p => ⟨[(0, .sl (l.map (fun t : Int × ByteArray × Int × Int => V.agg [V.int .i64 t.1, V.str t.2.1, V.int .i64 t.2.2.1, V.int .i64 t.2.2.2]))), (4, .int .i64 p.2), (15, .sl (l.map (fun t : Int × ByteArray × Int × Int => V.agg [V.int .i64 t.1, V.str t.2.1, V.int .i64 t.2.2.1, V.int .i64 t.2.2.2]))), (16, .int .i64 l.length), (17, .int .i64 (Nat.cast p.1))], [], false, 30, 0⟩) (fun p => p.1 ≤ l.length ∧ sumW ((l.map tTime).drop p.1) p.2 = sumW ((l.map tTime).drop 0) 0) (fun p => l.length - p.1) ((0, 0) : Nat × Int) ?_ ?_ ?_
    · refine weak_of [0, 4, 15, 16, 17] ?_
      simp only [keep_mk, keepE_nil, keepE_cons, look_cons, look_nil, Nat.reduceEqDiff, reduceIte]
      rfl
    · exact ⟨Nat.zero_le _, rfl⟩
    · rintro ⟨i, sm⟩ hok15 Q15 n15 e15 r15
      obtain ⟨hi1, hR⟩ := hok15
      simp only [] at hi1 hR ⊢
      refine v_seq ?_; intro Q16 n16 e16 r16
      refine v_region ?_; intro K17 k17
      -- 18 := binOp Go.BinOp.lss 3 t17 t16 3
      refine v_op ?_; intro K k
      simp only [zE, aStepM, optable, set_some, Nat.reduceEqDiff, reduceIte, Nat.reduceLT, implies_true, forall_const, reduceCtorEq, V.ofValue, V.ofScalar, V.un, V.gd, aExec, aop, aBin, Try.underlying3]
      repeat (refine And.intro (by first | omega | (intros; omega) | (intros; simp_all; done) | (intros; simp_all; omega)) ?_)
      refine k _ ?_; clear k K
      refine k17 _ ?_
      refine n16 _ _ (weak_keep [0, 4, 15, 16, 17, 18] _) ?_
      simp only [keep_mk, keepE_nil, keepE_cons, look_cons, look_nil, Nat.reduceEqDiff, reduceIte]
      refine v_seq ?_; intro Q18 n18 e18 r18
      refine v_cond _ rfl ?_ ?_  -- COND 1
      · intro hc1
        try simp only [zC, reduceCtorEq] at hc1
        have hlt : i < l.length := by omega
        obtain ⟨⟨x0, x1, x2, x3⟩, hx⟩ : ∃ x : Int × ByteArray × Int × Int, l[i]? = some x := ⟨l[i]'(by omega), List.getElem?_eq_getElem (by omega)⟩
        refine v_skip ?_
        refine n18 _ _ (weak_keep [0, 4, 15, 16, 17] _) ?_
        simp only [keep_mk, keepE_nil, keepE_cons, look_cons, look_nil, Nat.reduceEqDiff, reduceIte]
        refine v_seq ?_; intro Q20 n20 e20 r20
        refine v_block ?_; intro Q21 n21 x21 e21 r21
        refine v_seq ?_; intro Q22 n22 e22 r22
        refine v_region ?_; intro K23 k23
        -- 19 := indexAddr 26 t15 t17
        refine v_op ?_; intro K k
        simp only [zE, zL, zN, aStepM, optable, set_some, Nat.reduceEqDiff, reduceIte, Nat.reduceLT, implies_true, forall_const, reduceCtorEq, V.ofValue, V.ofScalar, V.un, V.gd, aExec, aop, aIndexAddr, row_mk, Blk.row, Go.Vm.V.cells, List.forall_mem_map, List.length_map, Int.toNat_natCast, Int.reduceToNat, TypeDesc.slice.injEq, Nat.reduceAdd, Nat.reduceLeDiff, Nat.reduceMul, Try.underlying26, Ty.c26, Ty.a26, Try.underlying95, Ty.c95, Ty.a95, getD_map hx]
        repeat (refine And.intro (by first | omega | (intros; omega) | (intros; simp_all; done) | (intros; simp_all; omega)) ?_)
        refine k _ ?_; clear k K
        -- 20 := load 95 t19
        refine v_op ?_; intro K k
        simp only [zE, zL, zO, zN, aStepM, optable, set_some, Nat.reduceEqDiff, reduceIte, Nat.reduceLT, implies_true, forall_const, reduceCtorEq, V.ofValue, V.ofScalar, V.un, V.gd, aExec, aop, aLoad, row_mk, Blk.row, PartOK, Go.Vm.part, V.cells, V.noSl, V.noRef, Nat.reduceAdd, Nat.reduceLeDiff, Nat.reduceMul, Try.underlying3, Ty.c3, Ty.a3, Try.underlying9, Ty.c9, Ty.a9, Try.underlying95, Ty.c95, Ty.a95, getD_map hx]
        repeat (refine And.intro (by first | omega | (intros; omega) | (intros; simp_all; done) | (intros; simp_all; omega)) ?_)
        refine k _ ?_; clear k K
        -- 6 := alloc 95
        refine v_op ?_; intro K k
        simp only [zE, zS, zO, zN, aStepM, optable, set_some, Nat.reduceEqDiff, reduceIte, Nat.reduceLT, implies_true, forall_const, reduceCtorEq, V.ofValue, V.ofScalar, V.un, V.gd, aExec, aop, Nat.reduceAdd, Value.oneCell', V.isVal, V.cells, kindOf, kindAll, V.noSl, V.noRef, List.all_cons, List.all_nil, List.map_cons, List.map_nil, gt_iff_lt, Nat.reduceLeDiff, Nat.reduceMul, Try.underlying3, Ty.c3, Ty.a3, Ty.z3, Try.underlying9, Ty.c9, Ty.a9, Ty.z9, Try.underlying95, Ty.c95, Ty.a95, Ty.z95, getD_map hx]
        repeat (refine And.intro (by first | omega | (intros; omega) | (intros; simp_all; done) | (intros; simp_all; omega)) ?_)
        refine k _ ?_; clear k K
        -- None := store 95 t6 t20
        refine v_op ?_; intro K k
        simp only [zE, zS, zJ, zL, zO, zN, aStepM, optable, set_some, Nat.reduceEqDiff, reduceIte, Nat.reduceLT, implies_true, forall_const, reduceCtorEq, V.ofValue, V.ofScalar, V.un, V.gd, aExec, aop, aStore, setCells, V.isVal, V.cells, kindOf, kindAll, V.noSl, V.noRef, gt_iff_lt, Nat.reduceAdd, Nat.reduceLeDiff, Nat.reduceMul, takeV, takeCell, takeCells, row_mk, Blk.row, killAll, Nat.reduceBEq, Try.underlying3, Ty.c3, Ty.a3, Try.underlying9, Ty.c9, Ty.a9, Try.underlying95, Ty.c95, Ty.a95, getD_map hx]
        repeat (refine And.intro (by first | omega | (intros; omega) | (intros; simp_all; done) | (intros; simp_all; omega)) ?_)
        refine k _ ?_; clear k K
        refine k23 _ ?_
        refine n22 _ _ (weak_keep [0, 4, 6, 15, 16, 17] _) ?_
        simp only [keep_mk, keepE_nil, keepE_cons, look_cons, look_nil, Nat.reduceEqDiff, reduceIte]
        refine v_region ?_; intro K24 k24
        -- 21 := move t4
        refine v_op ?_; intro K k
        simp only [zE, aStepM, optable, set_some, Nat.reduceEqDiff, reduceIte, Nat.reduceLT, implies_true, forall_const, reduceCtorEq, V.ofValue, V.ofScalar, V.un, V.gd, aExec, aop, getD_map hx]
        repeat (refine And.intro (by first | omega | (intros; omega) | (intros; simp_all; done) | (intros; simp_all; omega)) ?_)
        refine k _ ?_; clear k K
        -- 22 := load 95 t6
        refine v_op ?_; intro K k
        simp only [zE, zL, zO, zN, aStepM, optable, set_some, Nat.reduceEqDiff, reduceIte, Nat.reduceLT, implies_true, forall_const, reduceCtorEq, V.ofValue, V.ofScalar, V.un, V.gd, aExec, aop, aLoad, row_mk, Blk.row, PartOK, Go.Vm.part, V.cells, V.noSl, V.noRef, Nat.reduceAdd, Nat.reduceLeDiff, Nat.reduceMul, Try.underlying3, Ty.c3, Ty.a3, Try.underlying9, Ty.c9, Ty.a9, Try.underlying95, Ty.c95, Ty.a95, getD_map hx]
        repeat (refine And.intro (by first | omega | (intros; omega) | (intros; simp_all; done) | (intros; simp_all; omega)) ?_)
        refine k _ ?_; clear k K
        -- 23 := call v f71 t22 | 95
        refine v_op ?_; intro K k
        simp only [zE, zM, aStepM, optable, set_some, Nat.reduceEqDiff, reduceIte, Nat.reduceLT, implies_true, forall_const, reduceCtorEq, V.ofValue, V.ofScalar, V.un, V.gd, aExec, lentIds, lendOf, Try.underlying3, Ty.c3, Ty.a3, Ty.b3, Ty.s3, Try.underlying9, Ty.c9, Ty.a9, Ty.b9, Ty.s9, Try.underlying95, Ty.c95, Ty.a95, Ty.b95, Ty.s95]
        repeat (refine And.intro (by first | rfl | (intros; simp_all; done)) ?_)
        refine aCall_new (dbTime_con x0 x1 x2 x3) (by first | rfl | simp only [toArgs, toArg, toCell, toCells, idx, row_mk, List.getElem?_cons_zero, List.getElem?_cons_succ, Option.bind_some, Option.map_some, Blk.row, fillK_mix, cond_true]) (by first | exact .inl ⟨rfl, by simp [Blk.kindIs, fillK_fd]⟩ | exact .inr (by simp [V.cold])) ?_
        refine k _ ?_; clear k K
        simp only [zY, zW, set_some, Nat.reduceEqDiff, reduceIte, V.ren, V.renL, rho, Nat.reduceAdd]
        -- 24 := binOp Go.BinOp.add 3 t21 t23 3
        refine v_op ?_; intro K k
        simp only [zE, aStepM, optable, set_some, Nat.reduceEqDiff, reduceIte, Nat.reduceLT, implies_true, forall_const, reduceCtorEq, V.ofValue, V.ofScalar, V.un, V.gd, aExec, aop, aBin, Try.underlying3, getD_map hx]
        try simp (disch := omega) only [wrap64]
        repeat (refine And.intro (by first | omega | (intros; omega) | (intros; simp_all; done) | (intros; simp_all; omega)) ?_)
        refine k _ ?_; clear k K
        -- 4 := assign t24
        refine v_op ?_; intro K k
        simp only [zE, zS, aStepM, optable, set_some, Nat.reduceEqDiff, reduceIte, Nat.reduceLT, implies_true, forall_const, reduceCtorEq, V.ofValue, V.ofScalar, V.un, V.gd, aExec, aop, Nat.reduceAdd, getD_map hx]
        repeat (refine And.intro (by first | omega | (intros; omega) | (intros; simp_all; done) | (intros; simp_all; omega)) ?_)
        refine k _ ?_; clear k K
        refine k24 _ ?_
        refine n21 _ ?_
        refine n20 _ _ (weak_keep [0, 4, 15, 16, 17] _) ?_
        simp only [keep_mk, keepE_nil, keepE_cons, look_cons, look_nil, Nat.reduceEqDiff, reduceIte]
        refine v_region ?_; intro K25 k25
        -- 25 := binOp Go.BinOp.add 3 t17 c<1:i64> 3
        refine v_op ?_; intro K k
        simp only [zE, aStepM, optable, set_some, Nat.reduceEqDiff, reduceIte, Nat.reduceLT, implies_true, forall_const, reduceCtorEq, V.ofValue, V.ofScalar, V.un, V.gd, aExec, aop, aBin, Try.underlying3, getD_map hx]
        try simp (disch := omega) only [wrap64]
        repeat (refine And.intro (by first | omega | (intros; omega) | (intros; simp_all; done) | (intros; simp_all; omega)) ?_)
        refine k _ ?_; clear k K
        -- 17 := move t25
        refine v_op ?_; intro K k
        simp only [zE, aStepM, optable, set_some, Nat.reduceEqDiff, reduceIte, Nat.reduceLT, implies_true, forall_const, reduceCtorEq, V.ofValue, V.ofScalar, V.un, V.gd, aExec, aop, getD_map hx]
        repeat (refine And.intro (by first | omega | (intros; omega) | (intros; simp_all; done) | (intros; simp_all; omega)) ?_)
        refine k _ ?_; clear k K
        refine k25 _ ?_
        refine n15 _ (i + 1, IntKind.i64.wrap (sm + tTime (x0, x1, x2, x3))) ?_ ?_ ?_
        · refine weak_both [0, 4, 15, 16, 17] [] (by decide) (by simp) ?_ ?_ ?_
          · simp [keep_mk, keepE_nil, keepE_cons, look_cons, V.only, V.onlyL, idx]
          · simp [Blk.kindIs, fillK_mix]
          simp only [keep_mk, keepE_nil, keepE_cons, look_cons, look_nil, Nat.reduceEqDiff, reduceIte, St.comp, List.map_cons, List.map_nil, V.ren, V.renL, idx, List.getD_cons_zero, List.getD_cons_succ, Nat.reduceBEq, cond_true, cond_false, Option.map_some, Option.getD_some, Nat.reduceAdd, Nat.beq_eq_true_eq]
          rfl
        · exact ⟨hlt, by show sumW ((l.map tTime).drop (i + 1)) _ = _; rw [← hR, sum_step (map_at hx)]⟩
        · show _ < _; show l.length - (i + 1) < l.length - i; omega
      · intro hc1
        try simp only [zC, reduceCtorEq] at hc1
        refine v_exit ?_
        refine e18 _ _ ?_
        refine e15 _ _ ?_
        refine x14 _ ?_
        refine n11 _ _ (weak_keep [0, 4] _) ?_
        simp only [keep_mk, keepE_nil, keepE_cons, look_cons, look_nil, Nat.reduceEqDiff, reduceIte]
        refine v_seq ?_; intro Q26 n26 e26 r26
        refine v_region ?_; intro K27 k27
        -- 26 := move t4
        refine v_op ?_; intro K k
        simp only [zE, aStepM, optable, set_some, Nat.reduceEqDiff, reduceIte, Nat.reduceLT, implies_true, forall_const, reduceCtorEq, V.ofValue, V.ofScalar, V.un, V.gd, aExec, aop]
        repeat (refine And.intro (by first | omega | (intros; omega) | (intros; simp_all; done) | (intros; simp_all; omega)) ?_)
        refine k _ ?_; clear k K
        -- 27 := move t0
        refine v_op ?_; intro K k
        simp only [zE, aStepM, optable, set_some, Nat.reduceEqDiff, reduceIte, Nat.reduceLT, implies_true, forall_const, reduceCtorEq, V.ofValue, V.ofScalar, V.un, V.gd, aExec, aop]
        repeat (refine And.intro (by first | omega | (intros; omega) | (intros; simp_all; done) | (intros; simp_all; omega)) ?_)
        refine k _ ?_; clear k K
        -- 28 := call b Go.Builtin.len t27 | 26
        refine v_op ?_; intro K k
        simp only [zE, zL, zN, aStepM, optable, set_some, Nat.reduceEqDiff, reduceIte, Nat.reduceLT, implies_true, forall_const, reduceCtorEq, V.ofValue, V.ofScalar, V.un, V.gd, aExec, aop, List.length_map, aLen, lenOK, row_mk, Blk.row, List.size_toArray, List.getD_eq_getElem?_getD, Array.getD_eq_getD_getElem?, Option.getD_some, Nat.reduceAdd, Nat.reduceLeDiff, Nat.reduceMul, Try.underlying3, Ty.c3, Ty.a3, Ty.b3, Ty.s3, Try.underlying26, Ty.c26, Ty.a26, Ty.b26, Ty.s26, Try.underlying95, Ty.c95, Ty.a95, Ty.b95, Ty.s95]
        repeat (refine And.intro (by first | omega | (intros; omega) | (intros; simp_all; done) | (intros; simp_all; omega)) ?_)
        refine k _ ?_; clear k K
        -- 29 := binOp Go.BinOp.quo 3 t26 t28 3
        refine v_op ?_; intro K k
        simp only [zE, aStepM, optable, set_some, Nat.reduceEqDiff, reduceIte, Nat.reduceLT, implies_true, forall_const, reduceCtorEq, V.ofValue, V.ofScalar, V.un, V.gd, aExec, aop, aBin, Try.underlying3]
        try simp (disch := omega) only [wrap64]
        repeat (refine And.intro (by first | omega | (intros; omega) | (intros; simp_all; done) | (intros; simp_all; omega)) ?_)
        refine k _ ?_; clear k K
        -- 2 := assign t29
        refine v_op ?_; intro K k
        simp only [zE, zS, aStepM, optable, set_some, Nat.reduceEqDiff, reduceIte, Nat.reduceLT, implies_true, forall_const, reduceCtorEq, V.ofValue, V.ofScalar, V.un, V.gd, aExec, aop, Nat.reduceAdd]
        repeat (refine And.intro (by first | omega | (intros; omega) | (intros; simp_all; done) | (intros; simp_all; omega)) ?_)
        refine k _ ?_; clear k K
        -- 3 := assign c<true>
        refine v_op ?_; intro K k
        simp only [zE, zS, aStepM, optable, set_some, Nat.reduceEqDiff, reduceIte, Nat.reduceLT, implies_true, forall_const, reduceCtorEq, V.ofValue, V.ofScalar, V.un, V.gd, aExec, aop, Nat.reduceAdd]
        repeat (refine And.intro (by first | omega | (intros; omega) | (intros; simp_all; done) | (intros; simp_all; omega)) ?_)
        refine k _ ?_; clear k K
        refine k27 _ ?_
        refine n26 _ _ (weak_keep [2, 3] _) ?_
        simp only [keep_mk, keepE_nil, keepE_cons, look_cons, look_nil, Nat.reduceEqDiff, reduceIte]
        refine v_ret ?_
        refine r0 _ ?_
        simp only [resK, pickRV, get_mk, look_cons, look_nil, Nat.reduceEqDiff, reduceIte, List.map_cons, List.map_nil]
        rw [hmv, hg, ← hR, sum_end (by rw [List.length_map]; omega)]
        exact ret_pure rfl rfl (.inl rfl)
-- loop.example/g01020/impl.MeanTime
set_option maxHeartbeats 1000000 in
theorem implMeanTime_con (l : List (Int × ByteArray × Int × Int)) (hl : l.length ≤ 1048576) (hls : ∀ t ∈ l, t.2.1.size ≤ 9223372036854775807) : Con Try.prog 18 [.sl (l.map (fun t : Int × ByteArray × Int × Int => V.agg [V.int .i64 t.1, V.str t.2.1, V.int .i64 t.2.2.1, V.int .i64 t.2.2.2]))] [] (.tup [.int .i64 (meanV l), .bool (hasT l)]) [] := by
  refine v_con [.tmp 2, .tmp 3] [] Try.func18 rfl rfl rfl (by simp [Try.ntmps18]) ?_
  intro Q0 n0 r0
  simp only [Try.ntmps18, envFrom, Nat.reduceAdd]
  refine v_seq ?_; intro Q1 n1 e1 r1
  refine v_region ?_; intro K2 k2
  -- 2 := assign c<0:i64>
  refine v_op ?_; intro K k
  simp only [zE, zS, aStepM, optable, set_some, Nat.reduceEqDiff, reduceIte, Nat.reduceLT, implies_true, forall_const, reduceCtorEq, V.ofValue, V.ofScalar, V.un, V.gd, aExec, aop, Nat.reduceAdd]
  repeat (refine And.intro (by first | omega | (intros; omega) | (intros; simp_all; done) | (intros; simp_all; omega)) ?_)
  refine k _ ?_; clear k K
  -- 3 := assign c<false>
  refine v_op ?_; intro K k
  simp only [zE, zS, aStepM, optable, set_some, Nat.reduceEqDiff, reduceIte, Nat.reduceLT, implies_true, forall_const, reduceCtorEq, V.ofValue, V.ofScalar, V.un, V.gd, aExec, aop, Nat.reduceAdd]
  repeat (refine And.intro (by first | omega | (intros; omega) | (intros; simp_all; done) | (intros; simp_all; omega)) ?_)
  refine k _ ?_; clear k K
  refine k2 _ ?_
  refine n1 _ _ (weak_keep [0] _) ?_
  simp only [keep_mk, keepE_nil, keepE_cons, look_cons, look_nil, Nat.reduceEqDiff, reduceIte]
  refine v_seq ?_; intro Q3 n3 e3 r3
  refine v_seq ?_; intro Q4 n4 e4 r4
  refine v_region ?_; intro K5 k5
  -- 7 := move t0
  refine v_op ?_; intro K k
  simp only [zE, aStepM, optable, set_some, Nat.reduceEqDiff, reduceIte, Nat.reduceLT, implies_true, forall_const, reduceCtorEq, V.ofValue, V.ofScalar, V.un, V.gd, aExec, aop]
  repeat (refine And.intro (by first | omega | (intros; omega) | (intros; simp_all; done) | (intros; simp_all; omega)) ?_)
  refine k _ ?_; clear k K
  -- 8 := call v f73 t7 | 26
  refine v_op ?_; intro K k
  simp only [zE, zM, aStepM, optable, set_some, Nat.reduceEqDiff, reduceIte, Nat.reduceLT, implies_true, forall_const, reduceCtorEq, V.ofValue, V.ofScalar, V.un, V.gd, aExec, lentIds, lendOf, Try.underlying4, Ty.c4, Ty.a4, Ty.b4, Ty.s4, Try.underlying26, Ty.c26, Ty.a26, Ty.b26, Ty.s26, Try.underlying95, Ty.c95, Ty.a95, Ty.b95, Ty.s95]
  repeat (refine And.intro (by first | rfl | (intros; simp_all; done)) ?_)
  refine aCall_new (areTurnouts_con l hl hls) (by first | rfl | simp only [toArgs, toArg, toCell, toCells, idx, row_mk, List.getElem?_cons_zero, List.getElem?_cons_succ, Option.bind_some, Option.map_some, Blk.row, fillK_mix, cond_true]) (by first | exact .inl ⟨rfl, by simp [Blk.kindIs, fillK_fd]⟩ | exact .inr (by simp [V.cold])) ?_
  refine k _ ?_; clear k K
  simp only [zY, zW, set_some, Nat.reduceEqDiff, reduceIte, V.ren, V.renL, rho, Nat.reduceAdd]
  -- 9 := unOp Go.UnOp.not 4 t8
  refine v_op ?_; intro K k
  simp only [zE, aStepM, optable, set_some, Nat.reduceEqDiff, reduceIte, Nat.reduceLT, implies_true, forall_const, reduceCtorEq, V.ofValue, V.ofScalar, V.un, V.gd, aExec, aop, aUn, Try.underlying4]
  repeat (refine And.intro (by first | omega | (intros; omega) | (intros; simp_all; done) | (intros; simp_all; omega)) ?_)
  refine k _ ?_; clear k K
  -- 10 := move t9
  refine v_op ?_; intro K k
  simp only [zE, aStepM, optable, set_some, Nat.reduceEqDiff, reduceIte, Nat.reduceLT, implies_true, forall_const, reduceCtorEq, V.ofValue, V.ofScalar, V.un, V.gd, aExec, aop]
  repeat (refine And.intro (by first | omega | (intros; omega) | (intros; simp_all; done) | (intros; simp_all; omega)) ?_)
  refine k _ ?_; clear k K
  -- 11 := move t0
  first
  | refine v_pass 11 3 false rfl (show 11 < 30 by decide) rfl ?_ ?_
    · first | rfl | (simp only [zV, guardV, Nat.reduceEqDiff, reduceIte]; done)
    simp only [zW, set_some, Nat.reduceEqDiff, reduceIte]
  | skip
    -- 11 := move t0
    refine v_op ?_; intro K k
    simp only [zE, zG, aStepM, optable, set_some, Nat.reduceEqDiff, reduceIte, Nat.reduceLT, implies_true, forall_const, reduceCtorEq, V.ofValue, V.ofScalar, V.un, V.gd, guardV, V.wrap, aExec, aop]
    repeat (refine And.intro (by first | omega | (intros; omega) | (intros; simp_all; done) | (intros; simp_all; omega)) ?_)
    refine k _ ?_; clear k K
  -- 12 := call b Go.Builtin.len t11 | 26
  first
  | refine v_pass 12 3 false rfl (show 12 < 30 by decide) rfl ?_ ?_
    · first | rfl | (simp only [zV, guardV, Nat.reduceEqDiff, reduceIte]; done)
    simp only [zW, set_some, Nat.reduceEqDiff, reduceIte]
  | skip
    -- 12 := call b Go.Builtin.len t11 | 26
    refine v_op ?_; intro K k
    simp only [zE, zL, zN, aStepM, optable, set_some, Nat.reduceEqDiff, reduceIte, Nat.reduceLT, implies_true, forall_const, reduceCtorEq, V.ofValue, V.ofScalar, V.un, V.gd, guardV, V.wrap, aExec, aop, List.length_map, aLen, lenOK, row_mk, Blk.row, List.size_toArray, List.getD_eq_getElem?_getD, Array.getD_eq_getD_getElem?, Option.getD_some, Nat.reduceAdd, Nat.reduceLeDiff, Nat.reduceMul, Try.underlying3, Ty.c3, Ty.a3, Ty.b3, Ty.s3, Try.underlying26, Ty.c26, Ty.a26, Ty.b26, Ty.s26, Try.underlying95, Ty.c95, Ty.a95, Ty.b95, Ty.s95]
    repeat (refine And.intro (by first | omega | (intros; omega) | (intros; simp_all; done) | (intros; simp_all; omega)) ?_)
    refine k _ ?_; clear k K
  -- 13 := binOp Go.BinOp.eql 3 t12 c<0:i64> 3
  first
  | refine v_pass 13 3 false rfl (show 13 < 30 by decide) rfl ?_ ?_
    · first | rfl | (simp only [zV, guardV, Nat.reduceEqDiff, reduceIte]; done)
    simp only [zW, set_some, Nat.reduceEqDiff, reduceIte]
  | skip
    -- 13 := binOp Go.BinOp.eql 3 t12 c<0:i64> 3
    refine v_op ?_; intro K k
    simp only [zE, zG, aStepM, optable, set_some, Nat.reduceEqDiff, reduceIte, Nat.reduceLT, implies_true, forall_const, reduceCtorEq, V.ofValue, V.ofScalar, V.un, V.gd, guardV, V.wrap, aExec, aop, aBin, Try.underlying3]
    repeat (refine And.intro (by first | omega | (intros; omega) | (intros; simp_all; done) | (intros; simp_all; omega)) ?_)
    refine k _ ?_; clear k K
  -- 14 := pick t10 c<true> t13
  refine v_op ?_; intro K k
  simp only [zE, zP, aStepM, optable, set_some, Nat.reduceEqDiff, reduceIte, Nat.reduceLT, implies_true, forall_const, reduceCtorEq, V.ofValue, V.ofScalar, V.un, V.gd, aExec, aop, pickV]
  repeat (refine And.intro (by first | omega | (intros; omega) | (intros; simp_all; done) | (intros; simp_all; omega)) ?_)
  refine k _ ?_; clear k K
  refine k5 _ ?_
  refine n4 _ _ (weak_keep [0, 14] _) ?_
  simp only [keep_mk, keepE_nil, keepE_cons, look_cons, look_nil, Nat.reduceEqDiff, reduceIte]
  refine v_cond _ rfl ?_ ?_  -- COND 0
  · intro hc0
    try simp only [zC, reduceCtorEq] at hc0
    refine v_seq ?_; intro Q7 n7 e7 r7
    refine v_region ?_; intro K8 k8
    -- 2 := assign c<0:i64>
    refine v_op ?_; intro K k
    simp only [zE, zS, aStepM, optable, set_some, Nat.reduceEqDiff, reduceIte, Nat.reduceLT, implies_true, forall_const, reduceCtorEq, V.ofValue, V.ofScalar, V.un, V.gd, aExec, aop, Nat.reduceAdd]
    repeat (refine And.intro (by first | omega | (intros; omega) | (intros; simp_all; done) | (intros; simp_all; omega)) ?_)
    refine k _ ?_; clear k K
    -- 3 := assign c<false>
    refine v_op ?_; intro K k
    simp only [zE, zS, aStepM, optable, set_some, Nat.reduceEqDiff, reduceIte, Nat.reduceLT, implies_true, forall_const, reduceCtorEq, V.ofValue, V.ofScalar, V.un, V.gd, aExec, aop, Nat.reduceAdd]
    repeat (refine And.intro (by first | omega | (intros; omega) | (intros; simp_all; done) | (intros; simp_all; omega)) ?_)
    refine k _ ?_; clear k K
    refine k8 _ ?_
    refine n7 _ _ (weak_keep [2, 3] _) ?_
    simp only [keep_mk, keepE_nil, keepE_cons, look_cons, look_nil, Nat.reduceEqDiff, reduceIte]
    refine v_ret ?_
    refine r3 _ ?_
    refine r0 _ ?_
    simp only [resK, pickRV, get_mk, look_cons, look_nil, Nat.reduceEqDiff, reduceIte, List.map_cons, List.map_nil]
    have hg : hasT l = false := by rw [hasT]; rcases hc0 with h | h <;> simp [h]
    have hmv : meanV l = 0 := by rw [meanV, hg]; rfl
    rw [hmv, hg]
    exact ret_pure rfl rfl (.inl rfl)
  · intro hc0
    try simp only [zC, reduceCtorEq] at hc0
    have hg : hasT l = true := by rw [hasT, hc0.1, decide_eq_false (by omega)]; rfl
    have hn0 : (l.length : Int) ≠ 0 := by omega
    have hmv : meanV l = IntKind.i64.wrap ((sumW ((l.map tTime).drop 0) 0).tdiv l.length) := by rw [meanV, hg]; rfl
    refine v_skip ?_
    refine n3 _ _ (weak_keep [0] _) ?_
    simp only [keep_mk, keepE_nil, keepE_cons, look_cons, look_nil, Nat.reduceEqDiff, reduceIte]
    refine v_seq ?_; intro Q9 n9 e9 r9
    refine v_region ?_; intro K10 k10
    -- 4 := assign c<0:i64>
    refine v_op ?_; intro K k
    simp only [zE, zS, aStepM, optable, set_some, Nat.reduceEqDiff, reduceIte, Nat.reduceLT, implies_true, forall_const, reduceCtorEq, V.ofValue, V.ofScalar, V.un, V.gd, aExec, aop, Nat.reduceAdd]
    repeat (refine And.intro (by first | omega | (intros; omega) | (intros; simp_all; done) | (intros; simp_all; omega)) ?_)
    refine k _ ?_; clear k K
    refine k10 _ ?_
    refine n9 _ _ (weak_keep [0, 4] _) ?_
    simp only [keep_mk, keepE_nil, keepE_cons, look_cons, look_nil, Nat.reduceEqDiff, reduceIte]
    refine v_seq ?_; intro Q11 n11 e11 r11
    refine v_seq ?_; intro Q12 n12 e12 r12
    refine v_region ?_; intro K13 k13
    -- 15 := move t0
    refine v_op ?_; intro K k
    simp only [zE, aStepM, optable, set_some, Nat.reduceEqDiff, reduceIte, Nat.reduceLT, implies_true, forall_const, reduceCtorEq, V.ofValue, V.ofScalar, V.un, V.gd, aExec, aop]
    repeat (refine And.intro (by first | omega | (intros; omega) | (intros; simp_all; done) | (intros; simp_all; omega)) ?_)
    refine k _ ?_; clear k K
    -- 16 := call v f74 t15 | 26
    refine v_op ?_; intro K k
    simp only [zE, zM, aStepM, optable, set_some, Nat.reduceEqDiff, reduceIte, Nat.reduceLT, implies_true, forall_const, reduceCtorEq, V.ofValue, V.ofScalar, V.un, V.gd, aExec, lentIds, lendOf, Try.underlying3, Ty.c3, Ty.a3, Ty.b3, Ty.s3, Try.underlying26, Ty.c26, Ty.a26, Ty.b26, Ty.s26, Try.underlying47, Ty.c47, Ty.a47, Ty.b47, Ty.s47, Try.underlying95, Ty.c95, Ty.a95, Ty.b95, Ty.s95]
    repeat (refine And.intro (by first | rfl | (intros; simp_all; done)) ?_)
    refine aCall_new (timesOf_con l hl) (by first | rfl | simp only [toArgs, toArg, toCell, toCells, idx, row_mk, List.getElem?_cons_zero, List.getElem?_cons_succ, Option.bind_some, Option.map_some, Blk.row, fillK_mix, cond_true]) (by first | exact .inl ⟨rfl, by simp [Blk.kindIs, fillK_fd]⟩ | exact .inr (by simp [V.cold])) ?_
    refine k _ ?_; clear k K
    simp only [zY, zW, set_some, Nat.reduceEqDiff, reduceIte, V.ren, V.renL, rho, Nat.reduceAdd]
    -- 17 := call b Go.Builtin.len t16 | 47
    refine v_op ?_; intro K k
    simp only [zE, zL, zN, aStepM, optable, set_some, Nat.reduceEqDiff, reduceIte, Nat.reduceLT, implies_true, forall_const, reduceCtorEq, V.ofValue, V.ofScalar, V.un, V.gd, aExec, aop, List.length_map, aLen, lenOK, row_mk, Blk.row, List.size_toArray, List.getD_eq_getElem?_getD, Array.getD_eq_getD_getElem?, Option.getD_some, Nat.reduceAdd, Nat.reduceLeDiff, Nat.reduceMul, Try.underlying3, Ty.c3, Ty.a3, Ty.b3, Ty.s3, Try.underlying47, Ty.c47, Ty.a47, Ty.b47, Ty.s47]
    repeat (refine And.intro (by first | omega | (intros; omega) | (intros; simp_all; done) | (intros; simp_all; omega)) ?_)
    refine k _ ?_; clear k K
    -- 18 := move c<0:i64>
    refine v_op ?_; intro K k
    simp only [zE, aStepM, optable, set_some, Nat.reduceEqDiff, reduceIte, Nat.reduceLT, implies_true, forall_const, reduceCtorEq, V.ofValue, V.ofScalar, V.un, V.gd, aExec, aop]
    repeat (refine And.intro (by first | omega | (intros; omega) | (intros; simp_all; done) | (intros; simp_all; omega)) ?_)
    refine k _ ?_; clear k K
    refine k13 _ ?_
    refine n12 _ _ (weak_keep [0, 4, 16, 17, 18] _) ?_
    simp only [keep_mk, keepE_nil, keepE_cons, look_cons, look_nil, Nat.reduceEqDiff, reduceIte]
    refine v_block ?_; intro Q14 n14 x14 e14 r14
    refine v_loop (fun p => ⟨[(0, .sl (l.map (fun t : Int × ByteArray × Int × Int => V.agg [V.int .i64 t.1, V.str t.2.1, V.int .i64 t.2.2.1, V.int .i64 t.2.2.2]))), (4, .int .i64 p.2), (16, .ref 0), (17, .int .i64 l.length), (18, .int .i64 (Nat.cast p.1))], [.arr ((l.map tTime).map (V.int .i64)) .flat], false, 30, 0⟩) (fun p => p.1 ≤ l.length ∧ sumW ((l.map tTime).drop p.1) p.2 = sumW ((l.map tTime).drop 0) 0) (fun p => l.length - p.1) ((0, 0) : Nat × Int) ?_ ?_ ?_
    · refine weak_both [0, 4, 16, 17, 18] [0] (by decide) (by simp) ?_ ?_ ?_
      · simp [keep_mk, keepE_nil, keepE_cons, look_cons, V.only, V.onlyL, idx]
      · simp [Blk.kindIs, fillK_mix]
      simp only [keep_mk, keepE_nil, keepE_cons, look_cons, look_nil, Nat.reduceEqDiff, reduceIte, St.comp, List.map_cons, List.map_nil, V.ren, V.renL, idx, List.getD_cons_zero, List.getD_cons_succ, Nat.reduceBEq, cond_true, cond_false, Option.map_some, Option.getD_some, Nat.reduceAdd, Nat.beq_eq_true_eq]
      rfl
    · exact ⟨Nat.zero_le _, rfl⟩
    · rintro ⟨i, sm⟩ hok15 Q15 n15 e15 r15
      obtain ⟨hi1, hR⟩ := hok15
      simp only [] at hi1 hR ⊢
      refine v_seq ?_; intro Q16 n16 e16 r16
      refine v_region ?_; intro K17 k17
      -- 19 := binOp Go.BinOp.lss 3 t18 t17 3
      refine v_op ?_; intro K k
      simp only [zE, aStepM, optable, set_some, Nat.reduceEqDiff, reduceIte, Nat.reduceLT, implies_true, forall_const, reduceCtorEq, V.ofValue, V.ofScalar, V.un, V.gd, aExec, aop, aBin, Try.underlying3]
      repeat (refine And.intro (by first | omega | (intros; omega) | (intros; simp_all; done) | (intros; simp_all; omega)) ?_)
      refine k _ ?_; clear k K
      refine k17 _ ?_
      refine n16 _ _ (weak_keep [0, 4, 16, 17, 18, 19] _) ?_
      simp only [keep_mk, keepE_nil, keepE_cons, look_cons, look_nil, Nat.reduceEqDiff, reduceIte]
      refine v_seq ?_; intro Q18 n18 e18 r18
      refine v_cond _ rfl ?_ ?_  -- COND 1
      · intro hc1
        try simp only [zC, reduceCtorEq] at hc1
        have hlt : i < l.length := by omega
        obtain ⟨⟨x0, x1, x2, x3⟩, hx⟩ : ∃ x : Int × ByteArray × Int × Int, l[i]? = some x := ⟨l[i]'(by omega), List.getElem?_eq_getElem (by omega)⟩
        have hxm := map_at (f := tTime) hx
        refine v_skip ?_
        refine n18 _ _ (weak_keep [0, 4, 16, 17, 18] _) ?_
        simp only [keep_mk, keepE_nil, keepE_cons, look_cons, look_nil, Nat.reduceEqDiff, reduceIte]
        refine v_seq ?_; intro Q20 n20 e20 r20
        refine v_block ?_; intro Q21 n21 x21 e21 r21
        refine v_seq ?_; intro Q22 n22 e22 r22
        refine v_region ?_; intro K23 k23
        -- 20 := indexAddr 47 t16 t18
        refine v_op ?_; intro K k
        simp only [zE, zL, zN, aStepM, optable, set_some, Nat.reduceEqDiff, reduceIte, Nat.reduceLT, implies_true, forall_const, reduceCtorEq, V.ofValue, V.ofScalar, V.un, V.gd, aExec, aop, aIndexAddr, row_mk, Blk.row, Go.Vm.V.cells, List.forall_mem_map, List.length_map, Int.toNat_natCast, Int.reduceToNat, TypeDesc.slice.injEq, Nat.reduceAdd, Nat.reduceLeDiff, Nat.reduceMul, Try.underlying3, Ty.c3, Ty.a3, Try.underlying47, Ty.c47, Ty.a47, getD_map hxm]
        repeat (refine And.intro (by first | omega | (intros; omega) | (intros; simp_all; done) | (intros; simp_all; omega)) ?_)
        refine k _ ?_; clear k K
        -- 21 := load 3 t20
        refine v_op ?_; intro K k
        simp only [zE, zL, zO, zN, aStepM, optable, set_some, Nat.reduceEqDiff, reduceIte, Nat.reduceLT, implies_true, forall_const, reduceCtorEq, V.ofValue, V.ofScalar, V.un, V.gd, aExec, aop, aLoad, row_mk, Blk.row, PartOK, Go.Vm.part, V.cells, V.noSl, V.noRef, Nat.reduceAdd, Nat.reduceLeDiff, Nat.reduceMul, Try.underlying3, Ty.c3, Ty.a3, getD_map hxm]
        repeat (refine And.intro (by first | omega | (intros; omega) | (intros; simp_all; done) | (intros; simp_all; omega)) ?_)
        refine k _ ?_; clear k K
        -- 6 := assign t21
        refine v_op ?_; intro K k
        simp only [zE, zS, aStepM, optable, set_some, Nat.reduceEqDiff, reduceIte, Nat.reduceLT, implies_true, forall_const, reduceCtorEq, V.ofValue, V.ofScalar, V.un, V.gd, aExec, aop, Nat.reduceAdd, getD_map hxm]
        repeat (refine And.intro (by first | omega | (intros; omega) | (intros; simp_all; done) | (intros; simp_all; omega)) ?_)
        refine k _ ?_; clear k K
        refine k23 _ ?_
        refine n22 _ _ (weak_keep [0, 4, 6, 16, 17, 18] _) ?_
        simp only [keep_mk, keepE_nil, keepE_cons, look_cons, look_nil, Nat.reduceEqDiff, reduceIte]
        refine v_region ?_; intro K24 k24
        -- 22 := move t4
        refine v_op ?_; intro K k
        simp only [zE, aStepM, optable, set_some, Nat.reduceEqDiff, reduceIte, Nat.reduceLT, implies_true, forall_const, reduceCtorEq, V.ofValue, V.ofScalar, V.un, V.gd, aExec, aop, getD_map hxm]
        repeat (refine And.intro (by first | omega | (intros; omega) | (intros; simp_all; done) | (intros; simp_all; omega)) ?_)
        refine k _ ?_; clear k K
        -- 23 := move t6
        refine v_op ?_; intro K k
        simp only [zE, aStepM, optable, set_some, Nat.reduceEqDiff, reduceIte, Nat.reduceLT, implies_true, forall_const, reduceCtorEq, V.ofValue, V.ofScalar, V.un, V.gd, aExec, aop, getD_map hxm]
        repeat (refine And.intro (by first | omega | (intros; omega) | (intros; simp_all; done) | (intros; simp_all; omega)) ?_)
        refine k _ ?_; clear k K
        -- 24 := binOp Go.BinOp.add 3 t22 t23 3
        refine v_op ?_; intro K k
        simp only [zE, aStepM, optable, set_some, Nat.reduceEqDiff, reduceIte, Nat.reduceLT, implies_true, forall_const, reduceCtorEq, V.ofValue, V.ofScalar, V.un, V.gd, aExec, aop, aBin, Try.underlying3, getD_map hxm]
        try simp (disch := omega) only [wrap64]
        repeat (refine And.intro (by first | omega | (intros; omega) | (intros; simp_all; done) | (intros; simp_all; omega)) ?_)
        refine k _ ?_; clear k K
        -- 4 := assign t24
        refine v_op ?_; intro K k
        simp only [zE, zS, aStepM, optable, set_some, Nat.reduceEqDiff, reduceIte, Nat.reduceLT, implies_true, forall_const, reduceCtorEq, V.ofValue, V.ofScalar, V.un, V.gd, aExec, aop, Nat.reduceAdd, getD_map hxm]
        repeat (refine And.intro (by first | omega | (intros; omega) | (intros; simp_all; done) | (intros; simp_all; omega)) ?_)
        refine k _ ?_; clear k K
        refine k24 _ ?_
        refine n21 _ ?_
        refine n20 _ _ (weak_keep [0, 4, 16, 17, 18] _) ?_
        simp only [keep_mk, keepE_nil, keepE_cons, look_cons, look_nil, Nat.reduceEqDiff, reduceIte]
        refine v_region ?_; intro K25 k25
        -- 25 := binOp Go.BinOp.add 3 t18 c<1:i64> 3
        refine v_op ?_; intro K k
        simp only [zE, aStepM, optable, set_some, Nat.reduceEqDiff, reduceIte, Nat.reduceLT, implies_true, forall_const, reduceCtorEq, V.ofValue, V.ofScalar, V.un, V.gd, aExec, aop, aBin, Try.underlying3, getD_map hxm]
        try simp (disch := omega) only [wrap64]
        repeat (refine And.intro (by first | omega | (intros; omega) | (intros; simp_all; done) | (intros; simp_all; omega)) ?_)
        refine k _ ?_; clear k K
        -- 18 := move t25
        refine v_op ?_; intro K k
        simp only [zE, aStepM, optable, set_some, Nat.reduceEqDiff, reduceIte, Nat.reduceLT, implies_true, forall_const, reduceCtorEq, V.ofValue, V.ofScalar, V.un, V.gd, aExec, aop, getD_map hxm]
        repeat (refine And.intro (by first | omega | (intros; omega) | (intros; simp_all; done) | (intros; simp_all; omega)) ?_)
        refine k _ ?_; clear k K
        refine k25 _ ?_
        refine n15 _ (i + 1, IntKind.i64.wrap (sm + tTime (x0, x1, x2, x3))) ?_ ?_ ?_
        · refine weak_both [0, 4, 16, 17, 18] [0] (by decide) (by simp) ?_ ?_ ?_
          · simp [keep_mk, keepE_nil, keepE_cons, look_cons, V.only, V.onlyL, idx]
          · simp [Blk.kindIs, fillK_mix]
          simp only [keep_mk, keepE_nil, keepE_cons, look_cons, look_nil, Nat.reduceEqDiff, reduceIte, St.comp, List.map_cons, List.map_nil, V.ren, V.renL, idx, List.getD_cons_zero, List.getD_cons_succ, Nat.reduceBEq, cond_true, cond_false, Option.map_some, Option.getD_some, Nat.reduceAdd, Nat.beq_eq_true_eq]
          rfl
        · exact ⟨hlt, by show sumW ((l.map tTime).drop (i + 1)) _ = _; rw [← hR, sum_step (map_at hx)]⟩
        · show _ < _; show l.length - (i + 1) < l.length - i; omega
      · intro hc1
        try simp only [zC, reduceCtorEq] at hc1
        refine v_exit ?_
        refine e18 _ _ ?_
        refine e15 _ _ ?_
        refine x14 _ ?_
        refine n11 _ _ (weak_keep [0, 4] _) ?_
        simp only [keep_mk, keepE_nil, keepE_cons, look_cons, look_nil, Nat.reduceEqDiff, reduceIte]
        refine v_seq ?_; intro Q26 n26 e26 r26
        refine v_region ?_; intro K27 k27
        -- 26 := move t4
        refine v_op ?_; intro K k
        simp only [zE, aStepM, optable, set_some, Nat.reduceEqDiff, reduceIte, Nat.reduceLT, implies_true, forall_const, reduceCtorEq, V.ofValue, V.ofScalar, V.un, V.gd, aExec, aop]
        repeat (refine And.intro (by first | omega | (intros; omega) | (intros; simp_all; done) | (intros; simp_all; omega)) ?_)
        refine k _ ?_; clear k K
        -- 27 := move t0
        refine v_op ?_; intro K k
        simp only [zE, aStepM, optable, set_some, Nat.reduceEqDiff, reduceIte, Nat.reduceLT, implies_true, forall_const, reduceCtorEq, V.ofValue, V.ofScalar, V.un, V.gd, aExec, aop]
        repeat (refine And.intro (by first | omega | (intros; omega) | (intros; simp_all; done) | (intros; simp_all; omega)) ?_)
        refine k _ ?_; clear k K
        -- 28 := call b Go.Builtin.len t27 | 26
        refine v_op ?_; intro K k
        simp only [zE, zL, zN, aStepM, optable, set_some, Nat.reduceEqDiff, reduceIte, Nat.reduceLT, implies_true, forall_const, reduceCtorEq, V.ofValue, V.ofScalar, V.un, V.gd, aExec, aop, List.length_map, aLen, lenOK, row_mk, Blk.row, List.size_toArray, List.getD_eq_getElem?_getD, Array.getD_eq_getD_getElem?, Option.getD_some, Nat.reduceAdd, Nat.reduceLeDiff, Nat.reduceMul, Try.underlying3, Ty.c3, Ty.a3, Ty.b3, Ty.s3, Try.underlying26, Ty.c26, Ty.a26, Ty.b26, Ty.s26, Try.underlying95, Ty.c95, Ty.a95, Ty.b95, Ty.s95]
        repeat (refine And.intro (by first | omega | (intros; omega) | (intros; simp_all; done) | (intros; simp_all; omega)) ?_)
        refine k _ ?_; clear k K
        -- 29 := binOp Go.BinOp.quo 3 t26 t28 3
        refine v_op ?_; intro K k
        simp only [zE, aStepM, optable, set_some, Nat.reduceEqDiff, reduceIte, Nat.reduceLT, implies_true, forall_const, reduceCtorEq, V.ofValue, V.ofScalar, V.un, V.gd, aExec, aop, aBin, Try.underlying3]
        try simp (disch := omega) only [wrap64]
        repeat (refine And.intro (by first | omega | (intros; omega) | (intros; simp_all; done) | (intros; simp_all; omega)) ?_)
        refine k _ ?_; clear k K
        -- 2 := assign t29
        refine v_op ?_; intro K k
        simp only [zE, zS, aStepM, optable, set_some, Nat.reduceEqDiff, reduceIte, Nat.reduceLT, implies_true, forall_const, reduceCtorEq, V.ofValue, V.ofScalar, V.un, V.gd, aExec, aop, Nat.reduceAdd]
        repeat (refine And.intro (by first | omega | (intros; omega) | (intros; simp_all; done) | (intros; simp_all; omega)) ?_)
        refine k _ ?_; clear k K
        -- 3 := assign c<true>
        refine v_op ?_; intro K k
        simp only [zE, zS, aStepM, optable, set_some, Nat.reduceEqDiff, reduceIte, Nat.reduceLT, implies_true, forall_const, reduceCtorEq, V.ofValue, V.ofScalar, V.un, V.gd, aExec, aop, Nat.reduceAdd]
        repeat (refine And.intro (by first | omega | (intros; omega) | (intros; simp_all; done) | (intros; simp_all; omega)) ?_)
        refine k _ ?_; clear k K
        refine k27 _ ?_
        refine n26 _ _ (weak_keep [2, 3] _) ?_
        simp only [keep_mk, keepE_nil, keepE_cons, look_cons, look_nil, Nat.reduceEqDiff, reduceIte]
        refine v_ret ?_
        refine r0 _ ?_
        simp only [resK, pickRV, get_mk, look_cons, look_nil, Nat.reduceEqDiff, reduceIte, List.map_cons, List.map_nil]
        rw [hmv, hg, ← hR, sum_end (by rw [List.length_map]; omega)]
        exact ret_pure rfl rfl (.inl rfl)
end Go.Proofs.Ytciapcamhocmcaa
