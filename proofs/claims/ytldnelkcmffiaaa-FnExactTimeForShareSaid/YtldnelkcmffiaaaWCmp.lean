/- What functions compute (Cmp). No condition. -/
import Derived.Test.YtldnelkcmffiaaaTy
import Derived.Test.YtldnelkcmffiaaaVm21
import Derived.Test.YtldnelkcmffiaaaWBase
set_option linter.unusedSimpArgs false
set_option linter.unusedVariables false
namespace Go.Proofs.Ytldnelkcmffiaaa
open Go Go.Vm

-- cmp.isNaN[int]
set_option maxHeartbeats 1000000 in
theorem isNaN_int_con (a : Int) : Con Try.prog 78 [V.int .i64 a] [] (.bool false) [] := by
  refine v_con [.tmp 2] [] Try.func78 rfl rfl rfl (by simp [Try.ntmps78]) ?_
  intro Q0 n0 r0
  simp only [Try.ntmps78, envFrom, Nat.reduceAdd]
  refine v_seq ?_; intro Q1 n1 e1 r1  -- SEQ 0
  refine v_region ?_; intro K2 k2
  -- 2 := assign c<false>
  refine v_op ?_; intro K k
  simp only [zE, zS, aStepM, optable, set_some, Nat.reduceEqDiff, reduceIte, Nat.reduceLT, implies_true, forall_const, reduceCtorEq, V.ofValue, V.ofScalar, V.un, V.gd, aExec, aop, Nat.reduceAdd]
  repeat (refine And.intro (by first | omega | (intros; omega) | (intros; simp_all; done) | (intros; simp_all; omega)) ?_)
  refine k _ ?_; clear k K
  refine k2 _ ?_
  refine n1 _ _ (weak_keep [0] _) ?_
  simp only [keep_mk, keepE_nil, keepE_cons, look_cons, look_nil, Nat.reduceEqDiff, reduceIte]
  refine v_seq ?_; intro Q3 n3 e3 r3  -- SEQ 1
  refine v_region ?_; intro K4 k4
  -- 3 := move t0
  refine v_op ?_; intro K k
  simp only [zE, aStepM, optable, set_some, Nat.reduceEqDiff, reduceIte, Nat.reduceLT, implies_true, forall_const, reduceCtorEq, V.ofValue, V.ofScalar, V.un, V.gd, aExec, aop]
  repeat (refine And.intro (by first | omega | (intros; omega) | (intros; simp_all; done) | (intros; simp_all; omega)) ?_)
  refine k _ ?_; clear k K
  -- 4 := move t0
  refine v_op ?_; intro K k
  simp only [zE, aStepM, optable, set_some, Nat.reduceEqDiff, reduceIte, Nat.reduceLT, implies_true, forall_const, reduceCtorEq, V.ofValue, V.ofScalar, V.un, V.gd, aExec, aop]
  repeat (refine And.intro (by first | omega | (intros; omega) | (intros; simp_all; done) | (intros; simp_all; omega)) ?_)
  refine k _ ?_; clear k K
  -- 5 := binOp Go.BinOp.neq 3 t3 t4 3
  refine v_op ?_; intro K k
  simp only [zE, aStepM, optable, set_some, Nat.reduceEqDiff, reduceIte, Nat.reduceLT, implies_true, forall_const, reduceCtorEq, V.ofValue, V.ofScalar, V.un, V.gd, aExec, aop, aBin, Try.underlying3]
  repeat (refine And.intro (by first | omega | (intros; omega) | (intros; simp_all; done) | (intros; simp_all; omega)) ?_)
  refine k _ ?_; clear k K
  -- 2 := assign t5
  refine v_op ?_; intro K k
  simp only [zE, zS, aStepM, optable, set_some, Nat.reduceEqDiff, reduceIte, Nat.reduceLT, implies_true, forall_const, reduceCtorEq, V.ofValue, V.ofScalar, V.un, V.gd, aExec, aop, Nat.reduceAdd]
  repeat (refine And.intro (by first | omega | (intros; omega) | (intros; simp_all; done) | (intros; simp_all; omega)) ?_)
  refine k _ ?_; clear k K
  refine k4 _ ?_
  refine n3 _ _ (weak_keep [2] _) ?_
  simp only [keep_mk, keepE_nil, keepE_cons, look_cons, look_nil, Nat.reduceEqDiff, reduceIte]
  refine v_ret ?_
  refine r0 _ ?_
  simp only [resK, pickRV, get_mk, look_cons, look_nil, Nat.reduceEqDiff, reduceIte, List.map_cons, List.map_nil]
  exact ret_pure rfl (by first | rfl | simp) (.inl rfl)
-- cmp.isNaN[string]
set_option maxHeartbeats 1000000 in
theorem isNaN_string_con (a : ByteArray) : Con Try.prog 79 [V.str a] [] (.bool false) [] := by
  refine v_con [.tmp 2] [] Try.func79 rfl rfl rfl (by simp [Try.ntmps79]) ?_
  intro Q0 n0 r0
  simp only [Try.ntmps79, envFrom, Nat.reduceAdd]
  refine v_seq ?_; intro Q1 n1 e1 r1  -- SEQ 0
  refine v_region ?_; intro K2 k2
  -- 2 := assign c<false>
  refine v_op ?_; intro K k
  simp only [zE, zS, aStepM, optable, set_some, Nat.reduceEqDiff, reduceIte, Nat.reduceLT, implies_true, forall_const, reduceCtorEq, V.ofValue, V.ofScalar, V.un, V.gd, aExec, aop, Nat.reduceAdd]
  repeat (refine And.intro (by first | omega | (intros; omega) | (intros; simp_all; done) | (intros; simp_all; omega)) ?_)
  refine k _ ?_; clear k K
  refine k2 _ ?_
  refine n1 _ _ (weak_keep [0] _) ?_
  simp only [keep_mk, keepE_nil, keepE_cons, look_cons, look_nil, Nat.reduceEqDiff, reduceIte]
  refine v_seq ?_; intro Q3 n3 e3 r3  -- SEQ 1
  refine v_region ?_; intro K4 k4
  -- 3 := move t0
  refine v_op ?_; intro K k
  simp only [zE, aStepM, optable, set_some, Nat.reduceEqDiff, reduceIte, Nat.reduceLT, implies_true, forall_const, reduceCtorEq, V.ofValue, V.ofScalar, V.un, V.gd, aExec, aop]
  repeat (refine And.intro (by first | omega | (intros; omega) | (intros; simp_all; done) | (intros; simp_all; omega)) ?_)
  refine k _ ?_; clear k K
  -- 4 := move t0
  refine v_op ?_; intro K k
  simp only [zE, aStepM, optable, set_some, Nat.reduceEqDiff, reduceIte, Nat.reduceLT, implies_true, forall_const, reduceCtorEq, V.ofValue, V.ofScalar, V.un, V.gd, aExec, aop]
  repeat (refine And.intro (by first | omega | (intros; omega) | (intros; simp_all; done) | (intros; simp_all; omega)) ?_)
  refine k _ ?_; clear k K
  -- 5 := binOp Go.BinOp.neq 9 t3 t4 9
  refine v_op ?_; intro K k
  simp only [zE, aStepM, optable, set_some, Nat.reduceEqDiff, reduceIte, Nat.reduceLT, implies_true, forall_const, reduceCtorEq, V.ofValue, V.ofScalar, V.un, V.gd, aExec, aop, aBin, Try.underlying9]
  repeat (refine And.intro (by first | omega | (intros; omega) | (intros; simp_all; done) | (intros; simp_all; omega)) ?_)
  refine k _ ?_; clear k K
  -- 2 := assign t5
  refine v_op ?_; intro K k
  simp only [zE, zS, aStepM, optable, set_some, Nat.reduceEqDiff, reduceIte, Nat.reduceLT, implies_true, forall_const, reduceCtorEq, V.ofValue, V.ofScalar, V.un, V.gd, aExec, aop, Nat.reduceAdd]
  repeat (refine And.intro (by first | omega | (intros; omega) | (intros; simp_all; done) | (intros; simp_all; omega)) ?_)
  refine k _ ?_; clear k K
  refine k4 _ ?_
  refine n3 _ _ (weak_keep [2] _) ?_
  simp only [keep_mk, keepE_nil, keepE_cons, look_cons, look_nil, Nat.reduceEqDiff, reduceIte]
  refine v_ret ?_
  refine r0 _ ?_
  simp only [resK, pickRV, get_mk, look_cons, look_nil, Nat.reduceEqDiff, reduceIte, List.map_cons, List.map_nil]
  exact ret_pure rfl (by first | rfl | simp) (.inl rfl)
def cmpI (a b : Int) : Int := if a < b then -1 else if b < a then 1 else 0
def cmpS (a b : ByteArray) : Int := if strLt a b = true then -1 else if a = b then 0 else 1
def orL : List Int → Int
  | [] => 0
  | x :: l => if x ≠ 0 then x else orL l
theorem or_step {l : List Int} {i : Nat} {x : Int} (h : l[i]? = some x) : orL (l.drop i) = if x ≠ 0 then x else orL (l.drop (i + 1)) := by
  rw [getElem_drop_cons h, orL]
theorem or_end {l : List Int} {i : Nat} (h : l.length ≤ i) : orL (l.drop i) = 0 := by
  rw [List.drop_of_length_le h, orL]

-- cmp.Compare[int]
set_option maxHeartbeats 1000000 in
theorem cmpInt_con (a b : Int) : Con Try.prog 62 [.int .i64 a, .int .i64 b] [] (.int .i64 (cmpI a b)) [] := by
  refine v_con [.tmp 4] [] Try.func62 rfl rfl rfl (by simp [Try.ntmps62]) ?_
  intro Q0 n0 r0
  simp only [Try.ntmps62, envFrom, Nat.reduceAdd]
  refine v_seq ?_; intro Q1 n1 e1 r1  -- SEQ 0
  refine v_region ?_; intro K2 k2
  -- 4 := assign c<0:i64>
  refine v_op ?_; intro K k
  simp only [zE, zS, aStepM, optable, set_some, Nat.reduceEqDiff, reduceIte, Nat.reduceLT, implies_true, forall_const, reduceCtorEq, V.ofValue, V.ofScalar, V.un, V.gd, aExec, aop, Nat.reduceAdd]
  repeat (refine And.intro (by first | omega | (intros; omega) | (intros; simp_all; done) | (intros; simp_all; omega)) ?_)
  refine k _ ?_; clear k K
  refine k2 _ ?_
  refine n1 _ _ (weak_keep [0, 1] _) ?_
  simp only [keep_mk, keepE_nil, keepE_cons, look_cons, look_nil, Nat.reduceEqDiff, reduceIte]
  refine v_seq ?_; intro Q3 n3 e3 r3  -- SEQ 1
  refine v_region ?_; intro K4 k4
  -- 7 := move t0
  refine v_op ?_; intro K k
  simp only [zE, aStepM, optable, set_some, Nat.reduceEqDiff, reduceIte, Nat.reduceLT, implies_true, forall_const, reduceCtorEq, V.ofValue, V.ofScalar, V.un, V.gd, aExec, aop]
  repeat (refine And.intro (by first | omega | (intros; omega) | (intros; simp_all; done) | (intros; simp_all; omega)) ?_)
  refine k _ ?_; clear k K
  -- 8 := call v f78 t7 | 3
  refine v_op ?_; intro K k
  simp only [zE, zM, aStepM, optable, set_some, Nat.reduceEqDiff, reduceIte, Nat.reduceLT, implies_true, forall_const, reduceCtorEq, V.ofValue, V.ofScalar, V.un, V.gd, aExec, lentIds, lendOf, Try.underlying3, Ty.c3, Ty.a3, Ty.b3, Ty.s3, Try.underlying4, Ty.c4, Ty.a4, Ty.b4, Ty.s4]
  repeat (refine And.intro (by first | rfl | (intros; simp_all; done)) ?_)
  refine aCall_new (isNaN_int_con _) (by first | rfl | (simp only [toArgs, toArg, toCell, toCells, idx, row_mk, List.getElem?_cons_zero, List.getElem?_cons_succ, Option.bind_some, Option.map_some, Blk.row, fillK_mix, flat_mix, deep_mix, cond_true]; done) | (simp [toArgs, toArg, toCell, toCells, idx, row_mk, Blk.row, fillK_mix, Nat.beq_refl]; done)) (by first | exact .inl ⟨rfl, by simp [Blk.kindIs, fillK_fd]⟩ | exact .inr (by simp [V.cold])) ?_
  refine k _ ?_; clear k K
  simp only [zY, zW, set_some, Nat.reduceEqDiff, reduceIte, V.ren, V.renL, rho, Nat.reduceAdd]
  -- 5 := assign t8
  refine v_op ?_; intro K k
  simp only [zE, zS, aStepM, optable, set_some, Nat.reduceEqDiff, reduceIte, Nat.reduceLT, implies_true, forall_const, reduceCtorEq, V.ofValue, V.ofScalar, V.un, V.gd, aExec, aop, Nat.reduceAdd]
  repeat (refine And.intro (by first | omega | (intros; omega) | (intros; simp_all; done) | (intros; simp_all; omega)) ?_)
  refine k _ ?_; clear k K
  refine k4 _ ?_
  refine n3 _ _ (weak_keep [0, 1, 5] _) ?_
  simp only [keep_mk, keepE_nil, keepE_cons, look_cons, look_nil, Nat.reduceEqDiff, reduceIte]
  refine v_seq ?_; intro Q5 n5 e5 r5  -- SEQ 2
  refine v_region ?_; intro K6 k6
  -- 9 := move t1
  refine v_op ?_; intro K k
  simp only [zE, aStepM, optable, set_some, Nat.reduceEqDiff, reduceIte, Nat.reduceLT, implies_true, forall_const, reduceCtorEq, V.ofValue, V.ofScalar, V.un, V.gd, aExec, aop]
  repeat (refine And.intro (by first | omega | (intros; omega) | (intros; simp_all; done) | (intros; simp_all; omega)) ?_)
  refine k _ ?_; clear k K
  -- 10 := call v f78 t9 | 3
  refine v_op ?_; intro K k
  simp only [zE, zM, aStepM, optable, set_some, Nat.reduceEqDiff, reduceIte, Nat.reduceLT, implies_true, forall_const, reduceCtorEq, V.ofValue, V.ofScalar, V.un, V.gd, aExec, lentIds, lendOf, Try.underlying3, Ty.c3, Ty.a3, Ty.b3, Ty.s3, Try.underlying4, Ty.c4, Ty.a4, Ty.b4, Ty.s4]
  repeat (refine And.intro (by first | rfl | (intros; simp_all; done)) ?_)
  refine aCall_new (isNaN_int_con _) (by first | rfl | (simp only [toArgs, toArg, toCell, toCells, idx, row_mk, List.getElem?_cons_zero, List.getElem?_cons_succ, Option.bind_some, Option.map_some, Blk.row, fillK_mix, flat_mix, deep_mix, cond_true]; done) | (simp [toArgs, toArg, toCell, toCells, idx, row_mk, Blk.row, fillK_mix, Nat.beq_refl]; done)) (by first | exact .inl ⟨rfl, by simp [Blk.kindIs, fillK_fd]⟩ | exact .inr (by simp [V.cold])) ?_
  refine k _ ?_; clear k K
  simp only [zY, zW, set_some, Nat.reduceEqDiff, reduceIte, V.ren, V.renL, rho, Nat.reduceAdd]
  -- 6 := assign t10
  refine v_op ?_; intro K k
  simp only [zE, zS, aStepM, optable, set_some, Nat.reduceEqDiff, reduceIte, Nat.reduceLT, implies_true, forall_const, reduceCtorEq, V.ofValue, V.ofScalar, V.un, V.gd, aExec, aop, Nat.reduceAdd]
  repeat (refine And.intro (by first | omega | (intros; omega) | (intros; simp_all; done) | (intros; simp_all; omega)) ?_)
  refine k _ ?_; clear k K
  refine k6 _ ?_
  refine n5 _ _ (weak_keep [0, 1, 5, 6] _) ?_
  simp only [keep_mk, keepE_nil, keepE_cons, look_cons, look_nil, Nat.reduceEqDiff, reduceIte]
  refine v_seq ?_; intro Q7 n7 e7 r7  -- SEQ 3
  refine v_seq ?_; intro Q8 n8 e8 r8  -- SEQ 4
  refine v_region ?_; intro K9 k9
  -- 11 := move t5
  refine v_op ?_; intro K k
  simp only [zE, aStepM, optable, set_some, Nat.reduceEqDiff, reduceIte, Nat.reduceLT, implies_true, forall_const, reduceCtorEq, V.ofValue, V.ofScalar, V.un, V.gd, aExec, aop]
  repeat (refine And.intro (by first | omega | (intros; omega) | (intros; simp_all; done) | (intros; simp_all; omega)) ?_)
  refine k _ ?_; clear k K
  refine k9 _ ?_
  refine n8 _ _ (weak_keep [0, 1, 6, 11] _) ?_
  simp only [keep_mk, keepE_nil, keepE_cons, look_cons, look_nil, Nat.reduceEqDiff, reduceIte]
  refine v_cond _ rfl ?_ ?_  -- COND 0
  · intro hc0
    exfalso; simp at hc0
  · intro hc0
    try simp only [zC, reduceCtorEq] at hc0
    refine v_skip ?_
    refine n7 _ _ (weak_keep [0, 1, 6] _) ?_
    simp only [keep_mk, keepE_nil, keepE_cons, look_cons, look_nil, Nat.reduceEqDiff, reduceIte]
    refine v_seq ?_; intro Q11 n11 e11 r11  -- SEQ 5
    refine v_seq ?_; intro Q12 n12 e12 r12  -- SEQ 6
    refine v_region ?_; intro K13 k13
    -- 13 := move t6
    refine v_op ?_; intro K k
    simp only [zE, aStepM, optable, set_some, Nat.reduceEqDiff, reduceIte, Nat.reduceLT, implies_true, forall_const, reduceCtorEq, V.ofValue, V.ofScalar, V.un, V.gd, aExec, aop]
    repeat (refine And.intro (by first | omega | (intros; omega) | (intros; simp_all; done) | (intros; simp_all; omega)) ?_)
    refine k _ ?_; clear k K
    refine k13 _ ?_
    refine n12 _ _ (weak_keep [0, 1, 13] _) ?_
    simp only [keep_mk, keepE_nil, keepE_cons, look_cons, look_nil, Nat.reduceEqDiff, reduceIte]
    refine v_cond _ rfl ?_ ?_  -- COND 1
    · intro hc1
      exfalso; simp at hc1
    · intro hc1
      try simp only [zC, reduceCtorEq] at hc1
      refine v_skip ?_
      refine n11 _ _ (weak_keep [0, 1] _) ?_
      simp only [keep_mk, keepE_nil, keepE_cons, look_cons, look_nil, Nat.reduceEqDiff, reduceIte]
      refine v_seq ?_; intro Q15 n15 e15 r15  -- SEQ 7
      refine v_seq ?_; intro Q16 n16 e16 r16  -- SEQ 8
      refine v_region ?_; intro K17 k17
      -- 14 := move t0
      refine v_op ?_; intro K k
      simp only [zE, aStepM, optable, set_some, Nat.reduceEqDiff, reduceIte, Nat.reduceLT, implies_true, forall_const, reduceCtorEq, V.ofValue, V.ofScalar, V.un, V.gd, aExec, aop]
      repeat (refine And.intro (by first | omega | (intros; omega) | (intros; simp_all; done) | (intros; simp_all; omega)) ?_)
      refine k _ ?_; clear k K
      -- 15 := move t1
      refine v_op ?_; intro K k
      simp only [zE, aStepM, optable, set_some, Nat.reduceEqDiff, reduceIte, Nat.reduceLT, implies_true, forall_const, reduceCtorEq, V.ofValue, V.ofScalar, V.un, V.gd, aExec, aop]
      repeat (refine And.intro (by first | omega | (intros; omega) | (intros; simp_all; done) | (intros; simp_all; omega)) ?_)
      refine k _ ?_; clear k K
      -- 16 := binOp Go.BinOp.lss 3 t14 t15 3
      refine v_op ?_; intro K k
      simp only [zE, aStepM, optable, set_some, Nat.reduceEqDiff, reduceIte, Nat.reduceLT, implies_true, forall_const, reduceCtorEq, V.ofValue, V.ofScalar, V.un, V.gd, aExec, aop, aBin, Try.underlying3]
      repeat (refine And.intro (by first | omega | (intros; omega) | (intros; simp_all; done) | (intros; simp_all; omega)) ?_)
      refine k _ ?_; clear k K
      refine k17 _ ?_
      refine n16 _ _ (weak_keep [0, 1, 16] _) ?_
      simp only [keep_mk, keepE_nil, keepE_cons, look_cons, look_nil, Nat.reduceEqDiff, reduceIte]
      refine v_cond _ rfl ?_ ?_  -- COND 2
      · intro hc2
        try simp only [zC, reduceCtorEq] at hc2
        refine v_seq ?_; intro Q19 n19 e19 r19  -- SEQ 9
        refine v_region ?_; intro K20 k20
        -- 4 := assign c<-1:i64>
        refine v_op ?_; intro K k
        simp only [zE, zS, aStepM, optable, set_some, Nat.reduceEqDiff, reduceIte, Nat.reduceLT, implies_true, forall_const, reduceCtorEq, V.ofValue, V.ofScalar, V.un, V.gd, aExec, aop, Nat.reduceAdd]
        repeat (refine And.intro (by first | omega | (intros; omega) | (intros; simp_all; done) | (intros; simp_all; omega)) ?_)
        refine k _ ?_; clear k K
        refine k20 _ ?_
        refine n19 _ _ (weak_keep [4] _) ?_
        simp only [keep_mk, keepE_nil, keepE_cons, look_cons, look_nil, Nat.reduceEqDiff, reduceIte]
        refine v_ret ?_
        refine r15 _ ?_
        refine r0 _ ?_
        simp only [resK, pickRV, get_mk, look_cons, look_nil, Nat.reduceEqDiff, reduceIte, List.map_cons, List.map_nil]
        exact ret_pure rfl (by rw [cmpI, if_pos hc2]) (.inl rfl)
      · intro hc2
        try simp only [zC, reduceCtorEq] at hc2
        refine v_skip ?_
        refine n15 _ _ (weak_keep [0, 1] _) ?_
        simp only [keep_mk, keepE_nil, keepE_cons, look_cons, look_nil, Nat.reduceEqDiff, reduceIte]
        refine v_seq ?_; intro Q21 n21 e21 r21  -- SEQ 10
        refine v_seq ?_; intro Q22 n22 e22 r22  -- SEQ 11
        refine v_region ?_; intro K23 k23
        -- 17 := move t0
        refine v_op ?_; intro K k
        simp only [zE, aStepM, optable, set_some, Nat.reduceEqDiff, reduceIte, Nat.reduceLT, implies_true, forall_const, reduceCtorEq, V.ofValue, V.ofScalar, V.un, V.gd, aExec, aop]
        repeat (refine And.intro (by first | omega | (intros; omega) | (intros; simp_all; done) | (intros; simp_all; omega)) ?_)
        refine k _ ?_; clear k K
        -- 18 := move t1
        refine v_op ?_; intro K k
        simp only [zE, aStepM, optable, set_some, Nat.reduceEqDiff, reduceIte, Nat.reduceLT, implies_true, forall_const, reduceCtorEq, V.ofValue, V.ofScalar, V.un, V.gd, aExec, aop]
        repeat (refine And.intro (by first | omega | (intros; omega) | (intros; simp_all; done) | (intros; simp_all; omega)) ?_)
        refine k _ ?_; clear k K
        -- 19 := binOp Go.BinOp.gtr 3 t17 t18 3
        refine v_op ?_; intro K k
        simp only [zE, aStepM, optable, set_some, Nat.reduceEqDiff, reduceIte, Nat.reduceLT, implies_true, forall_const, reduceCtorEq, V.ofValue, V.ofScalar, V.un, V.gd, aExec, aop, aBin, Try.underlying3]
        repeat (refine And.intro (by first | omega | (intros; omega) | (intros; simp_all; done) | (intros; simp_all; omega)) ?_)
        refine k _ ?_; clear k K
        refine k23 _ ?_
        refine n22 _ _ (weak_keep [19] _) ?_
        simp only [keep_mk, keepE_nil, keepE_cons, look_cons, look_nil, Nat.reduceEqDiff, reduceIte]
        refine v_cond _ rfl ?_ ?_  -- COND 3
        · intro hc3
          try simp only [zC, reduceCtorEq] at hc3
          refine v_seq ?_; intro Q25 n25 e25 r25  -- SEQ 12
          refine v_region ?_; intro K26 k26
          -- 4 := assign c<1:i64>
          refine v_op ?_; intro K k
          simp only [zE, zS, aStepM, optable, set_some, Nat.reduceEqDiff, reduceIte, Nat.reduceLT, implies_true, forall_const, reduceCtorEq, V.ofValue, V.ofScalar, V.un, V.gd, aExec, aop, Nat.reduceAdd]
          repeat (refine And.intro (by first | omega | (intros; omega) | (intros; simp_all; done) | (intros; simp_all; omega)) ?_)
          refine k _ ?_; clear k K
          refine k26 _ ?_
          refine n25 _ _ (weak_keep [4] _) ?_
          simp only [keep_mk, keepE_nil, keepE_cons, look_cons, look_nil, Nat.reduceEqDiff, reduceIte]
          refine v_ret ?_
          refine r21 _ ?_
          refine r0 _ ?_
          simp only [resK, pickRV, get_mk, look_cons, look_nil, Nat.reduceEqDiff, reduceIte, List.map_cons, List.map_nil]
          exact ret_pure rfl (by rw [cmpI, if_neg (by omega), if_pos hc3]) (.inl rfl)
        · intro hc3
          try simp only [zC, reduceCtorEq] at hc3
          refine v_skip ?_
          refine n21 _ _ (weak_keep [] _) ?_
          simp only [keep_mk, keepE_nil, keepE_cons, look_cons, look_nil, Nat.reduceEqDiff, reduceIte]
          refine v_seq ?_; intro Q27 n27 e27 r27  -- SEQ 13
          refine v_region ?_; intro K28 k28
          -- 4 := assign c<0:i64>
          refine v_op ?_; intro K k
          simp only [zE, zS, aStepM, optable, set_some, Nat.reduceEqDiff, reduceIte, Nat.reduceLT, implies_true, forall_const, reduceCtorEq, V.ofValue, V.ofScalar, V.un, V.gd, aExec, aop, Nat.reduceAdd]
          repeat (refine And.intro (by first | omega | (intros; omega) | (intros; simp_all; done) | (intros; simp_all; omega)) ?_)
          refine k _ ?_; clear k K
          refine k28 _ ?_
          refine n27 _ _ (weak_keep [4] _) ?_
          simp only [keep_mk, keepE_nil, keepE_cons, look_cons, look_nil, Nat.reduceEqDiff, reduceIte]
          refine v_ret ?_
          refine r0 _ ?_
          simp only [resK, pickRV, get_mk, look_cons, look_nil, Nat.reduceEqDiff, reduceIte, List.map_cons, List.map_nil]
          exact ret_pure rfl (by rw [cmpI, if_neg (by omega), if_neg (by omega)]) (.inl rfl)
-- cmp.Compare[string]
set_option maxHeartbeats 1000000 in
theorem cmpStr_con (a b : ByteArray) : Con Try.prog 63 [.str a, .str b] [] (.int .i64 (cmpS a b)) [] := by
  refine v_con [.tmp 4] [] Try.func63 rfl rfl rfl (by simp [Try.ntmps63]) ?_
  intro Q0 n0 r0
  simp only [Try.ntmps63, envFrom, Nat.reduceAdd]
  refine v_seq ?_; intro Q1 n1 e1 r1  -- SEQ 0
  refine v_region ?_; intro K2 k2
  -- 4 := assign c<0:i64>
  refine v_op ?_; intro K k
  simp only [zE, zS, aStepM, optable, set_some, Nat.reduceEqDiff, reduceIte, Nat.reduceLT, implies_true, forall_const, reduceCtorEq, V.ofValue, V.ofScalar, V.un, V.gd, aExec, aop, Nat.reduceAdd]
  repeat (refine And.intro (by first | omega | (intros; omega) | (intros; simp_all; done) | (intros; simp_all; omega)) ?_)
  refine k _ ?_; clear k K
  refine k2 _ ?_
  refine n1 _ _ (weak_keep [0, 1] _) ?_
  simp only [keep_mk, keepE_nil, keepE_cons, look_cons, look_nil, Nat.reduceEqDiff, reduceIte]
  refine v_seq ?_; intro Q3 n3 e3 r3  -- SEQ 1
  refine v_region ?_; intro K4 k4
  -- 7 := move t0
  refine v_op ?_; intro K k
  simp only [zE, aStepM, optable, set_some, Nat.reduceEqDiff, reduceIte, Nat.reduceLT, implies_true, forall_const, reduceCtorEq, V.ofValue, V.ofScalar, V.un, V.gd, aExec, aop]
  repeat (refine And.intro (by first | omega | (intros; omega) | (intros; simp_all; done) | (intros; simp_all; omega)) ?_)
  refine k _ ?_; clear k K
  -- 8 := call v f79 t7 | 9
  refine v_op ?_; intro K k
  simp only [zE, zM, aStepM, optable, set_some, Nat.reduceEqDiff, reduceIte, Nat.reduceLT, implies_true, forall_const, reduceCtorEq, V.ofValue, V.ofScalar, V.un, V.gd, aExec, lentIds, lendOf, Try.underlying4, Ty.c4, Ty.a4, Ty.b4, Ty.s4, Try.underlying9, Ty.c9, Ty.a9, Ty.b9, Ty.s9]
  repeat (refine And.intro (by first | rfl | (intros; simp_all; done)) ?_)
  refine aCall_new (isNaN_string_con _) (by first | rfl | (simp only [toArgs, toArg, toCell, toCells, idx, row_mk, List.getElem?_cons_zero, List.getElem?_cons_succ, Option.bind_some, Option.map_some, Blk.row, fillK_mix, flat_mix, deep_mix, cond_true]; done) | (simp [toArgs, toArg, toCell, toCells, idx, row_mk, Blk.row, fillK_mix, Nat.beq_refl]; done)) (by first | exact .inl ⟨rfl, by simp [Blk.kindIs, fillK_fd]⟩ | exact .inr (by simp [V.cold])) ?_
  refine k _ ?_; clear k K
  simp only [zY, zW, set_some, Nat.reduceEqDiff, reduceIte, V.ren, V.renL, rho, Nat.reduceAdd]
  -- 5 := assign t8
  refine v_op ?_; intro K k
  simp only [zE, zS, aStepM, optable, set_some, Nat.reduceEqDiff, reduceIte, Nat.reduceLT, implies_true, forall_const, reduceCtorEq, V.ofValue, V.ofScalar, V.un, V.gd, aExec, aop, Nat.reduceAdd]
  repeat (refine And.intro (by first | omega | (intros; omega) | (intros; simp_all; done) | (intros; simp_all; omega)) ?_)
  refine k _ ?_; clear k K
  refine k4 _ ?_
  refine n3 _ _ (weak_keep [0, 1, 5] _) ?_
  simp only [keep_mk, keepE_nil, keepE_cons, look_cons, look_nil, Nat.reduceEqDiff, reduceIte]
  refine v_seq ?_; intro Q5 n5 e5 r5  -- SEQ 2
  refine v_region ?_; intro K6 k6
  -- 9 := move t1
  refine v_op ?_; intro K k
  simp only [zE, aStepM, optable, set_some, Nat.reduceEqDiff, reduceIte, Nat.reduceLT, implies_true, forall_const, reduceCtorEq, V.ofValue, V.ofScalar, V.un, V.gd, aExec, aop]
  repeat (refine And.intro (by first | omega | (intros; omega) | (intros; simp_all; done) | (intros; simp_all; omega)) ?_)
  refine k _ ?_; clear k K
  -- 10 := call v f79 t9 | 9
  refine v_op ?_; intro K k
  simp only [zE, zM, aStepM, optable, set_some, Nat.reduceEqDiff, reduceIte, Nat.reduceLT, implies_true, forall_const, reduceCtorEq, V.ofValue, V.ofScalar, V.un, V.gd, aExec, lentIds, lendOf, Try.underlying4, Ty.c4, Ty.a4, Ty.b4, Ty.s4, Try.underlying9, Ty.c9, Ty.a9, Ty.b9, Ty.s9]
  repeat (refine And.intro (by first | rfl | (intros; simp_all; done)) ?_)
  refine aCall_new (isNaN_string_con _) (by first | rfl | (simp only [toArgs, toArg, toCell, toCells, idx, row_mk, List.getElem?_cons_zero, List.getElem?_cons_succ, Option.bind_some, Option.map_some, Blk.row, fillK_mix, flat_mix, deep_mix, cond_true]; done) | (simp [toArgs, toArg, toCell, toCells, idx, row_mk, Blk.row, fillK_mix, Nat.beq_refl]; done)) (by first | exact .inl ⟨rfl, by simp [Blk.kindIs, fillK_fd]⟩ | exact .inr (by simp [V.cold])) ?_
  refine k _ ?_; clear k K
  simp only [zY, zW, set_some, Nat.reduceEqDiff, reduceIte, V.ren, V.renL, rho, Nat.reduceAdd]
  -- 6 := assign t10
  refine v_op ?_; intro K k
  simp only [zE, zS, aStepM, optable, set_some, Nat.reduceEqDiff, reduceIte, Nat.reduceLT, implies_true, forall_const, reduceCtorEq, V.ofValue, V.ofScalar, V.un, V.gd, aExec, aop, Nat.reduceAdd]
  repeat (refine And.intro (by first | omega | (intros; omega) | (intros; simp_all; done) | (intros; simp_all; omega)) ?_)
  refine k _ ?_; clear k K
  refine k6 _ ?_
  refine n5 _ _ (weak_keep [0, 1, 5, 6] _) ?_
  simp only [keep_mk, keepE_nil, keepE_cons, look_cons, look_nil, Nat.reduceEqDiff, reduceIte]
  refine v_seq ?_; intro Q7 n7 e7 r7  -- SEQ 3
  refine v_seq ?_; intro Q8 n8 e8 r8  -- SEQ 4
  refine v_region ?_; intro K9 k9
  -- 11 := move t5
  refine v_op ?_; intro K k
  simp only [zE, aStepM, optable, set_some, Nat.reduceEqDiff, reduceIte, Nat.reduceLT, implies_true, forall_const, reduceCtorEq, V.ofValue, V.ofScalar, V.un, V.gd, aExec, aop]
  repeat (refine And.intro (by first | omega | (intros; omega) | (intros; simp_all; done) | (intros; simp_all; omega)) ?_)
  refine k _ ?_; clear k K
  refine k9 _ ?_
  refine n8 _ _ (weak_keep [0, 1, 6, 11] _) ?_
  simp only [keep_mk, keepE_nil, keepE_cons, look_cons, look_nil, Nat.reduceEqDiff, reduceIte]
  refine v_cond _ rfl ?_ ?_  -- COND 0
  · intro hc0
    exfalso; simp at hc0
  · intro hc0
    try simp only [zC, reduceCtorEq] at hc0
    refine v_skip ?_
    refine n7 _ _ (weak_keep [0, 1, 6] _) ?_
    simp only [keep_mk, keepE_nil, keepE_cons, look_cons, look_nil, Nat.reduceEqDiff, reduceIte]
    refine v_seq ?_; intro Q11 n11 e11 r11  -- SEQ 5
    refine v_seq ?_; intro Q12 n12 e12 r12  -- SEQ 6
    refine v_region ?_; intro K13 k13
    -- 13 := move t6
    refine v_op ?_; intro K k
    simp only [zE, aStepM, optable, set_some, Nat.reduceEqDiff, reduceIte, Nat.reduceLT, implies_true, forall_const, reduceCtorEq, V.ofValue, V.ofScalar, V.un, V.gd, aExec, aop]
    repeat (refine And.intro (by first | omega | (intros; omega) | (intros; simp_all; done) | (intros; simp_all; omega)) ?_)
    refine k _ ?_; clear k K
    refine k13 _ ?_
    refine n12 _ _ (weak_keep [0, 1, 13] _) ?_
    simp only [keep_mk, keepE_nil, keepE_cons, look_cons, look_nil, Nat.reduceEqDiff, reduceIte]
    refine v_cond _ rfl ?_ ?_  -- COND 1
    · intro hc1
      exfalso; simp at hc1
    · intro hc1
      try simp only [zC, reduceCtorEq] at hc1
      refine v_skip ?_
      refine n11 _ _ (weak_keep [0, 1] _) ?_
      simp only [keep_mk, keepE_nil, keepE_cons, look_cons, look_nil, Nat.reduceEqDiff, reduceIte]
      refine v_seq ?_; intro Q15 n15 e15 r15  -- SEQ 7
      refine v_seq ?_; intro Q16 n16 e16 r16  -- SEQ 8
      refine v_region ?_; intro K17 k17
      -- 14 := move t0
      refine v_op ?_; intro K k
      simp only [zE, aStepM, optable, set_some, Nat.reduceEqDiff, reduceIte, Nat.reduceLT, implies_true, forall_const, reduceCtorEq, V.ofValue, V.ofScalar, V.un, V.gd, aExec, aop]
      repeat (refine And.intro (by first | omega | (intros; omega) | (intros; simp_all; done) | (intros; simp_all; omega)) ?_)
      refine k _ ?_; clear k K
      -- 15 := move t1
      refine v_op ?_; intro K k
      simp only [zE, aStepM, optable, set_some, Nat.reduceEqDiff, reduceIte, Nat.reduceLT, implies_true, forall_const, reduceCtorEq, V.ofValue, V.ofScalar, V.un, V.gd, aExec, aop]
      repeat (refine And.intro (by first | omega | (intros; omega) | (intros; simp_all; done) | (intros; simp_all; omega)) ?_)
      refine k _ ?_; clear k K
      -- 16 := binOp Go.BinOp.lss 9 t14 t15 9
      refine v_op ?_; intro K k
      simp only [zE, aStepM, optable, set_some, Nat.reduceEqDiff, reduceIte, Nat.reduceLT, implies_true, forall_const, reduceCtorEq, V.ofValue, V.ofScalar, V.un, V.gd, aExec, aop, aBin, Try.underlying9]
      repeat (refine And.intro (by first | omega | (intros; omega) | (intros; simp_all; done) | (intros; simp_all; omega)) ?_)
      refine k _ ?_; clear k K
      refine k17 _ ?_
      refine n16 _ _ (weak_keep [0, 1, 16] _) ?_
      simp only [keep_mk, keepE_nil, keepE_cons, look_cons, look_nil, Nat.reduceEqDiff, reduceIte]
      refine v_cond _ rfl ?_ ?_  -- COND 2
      · intro hc2
        try simp only [zC, reduceCtorEq] at hc2
        refine v_seq ?_; intro Q19 n19 e19 r19  -- SEQ 9
        refine v_region ?_; intro K20 k20
        -- 4 := assign c<-1:i64>
        refine v_op ?_; intro K k
        simp only [zE, zS, aStepM, optable, set_some, Nat.reduceEqDiff, reduceIte, Nat.reduceLT, implies_true, forall_const, reduceCtorEq, V.ofValue, V.ofScalar, V.un, V.gd, aExec, aop, Nat.reduceAdd]
        repeat (refine And.intro (by first | omega | (intros; omega) | (intros; simp_all; done) | (intros; simp_all; omega)) ?_)
        refine k _ ?_; clear k K
        refine k20 _ ?_
        refine n19 _ _ (weak_keep [4] _) ?_
        simp only [keep_mk, keepE_nil, keepE_cons, look_cons, look_nil, Nat.reduceEqDiff, reduceIte]
        refine v_ret ?_
        refine r15 _ ?_
        refine r0 _ ?_
        simp only [resK, pickRV, get_mk, look_cons, look_nil, Nat.reduceEqDiff, reduceIte, List.map_cons, List.map_nil]
        exact ret_pure rfl (by rw [cmpS, if_pos hc2]) (.inl rfl)
      · intro hc2
        try simp only [zC, reduceCtorEq] at hc2
        refine v_skip ?_
        refine n15 _ _ (weak_keep [0, 1] _) ?_
        simp only [keep_mk, keepE_nil, keepE_cons, look_cons, look_nil, Nat.reduceEqDiff, reduceIte]
        refine v_seq ?_; intro Q21 n21 e21 r21  -- SEQ 10
        refine v_seq ?_; intro Q22 n22 e22 r22  -- SEQ 11
        refine v_region ?_; intro K23 k23
        -- 17 := move t0
        refine v_op ?_; intro K k
        simp only [zE, aStepM, optable, set_some, Nat.reduceEqDiff, reduceIte, Nat.reduceLT, implies_true, forall_const, reduceCtorEq, V.ofValue, V.ofScalar, V.un, V.gd, aExec, aop]
        repeat (refine And.intro (by first | omega | (intros; omega) | (intros; simp_all; done) | (intros; simp_all; omega)) ?_)
        refine k _ ?_; clear k K
        -- 18 := move t1
        refine v_op ?_; intro K k
        simp only [zE, aStepM, optable, set_some, Nat.reduceEqDiff, reduceIte, Nat.reduceLT, implies_true, forall_const, reduceCtorEq, V.ofValue, V.ofScalar, V.un, V.gd, aExec, aop]
        repeat (refine And.intro (by first | omega | (intros; omega) | (intros; simp_all; done) | (intros; simp_all; omega)) ?_)
        refine k _ ?_; clear k K
        -- 19 := binOp Go.BinOp.gtr 9 t17 t18 9
        refine v_op ?_; intro K k
        simp only [zE, aStepM, optable, set_some, Nat.reduceEqDiff, reduceIte, Nat.reduceLT, implies_true, forall_const, reduceCtorEq, V.ofValue, V.ofScalar, V.un, V.gd, aExec, aop, aBin, Try.underlying9]
        repeat (refine And.intro (by first | omega | (intros; omega) | (intros; simp_all; done) | (intros; simp_all; omega)) ?_)
        refine k _ ?_; clear k K
        refine k23 _ ?_
        refine n22 _ _ (weak_keep [19] _) ?_
        simp only [keep_mk, keepE_nil, keepE_cons, look_cons, look_nil, Nat.reduceEqDiff, reduceIte]
        refine v_cond _ rfl ?_ ?_  -- COND 3
        · intro hc3
          try simp only [zC, reduceCtorEq] at hc3
          refine v_seq ?_; intro Q25 n25 e25 r25  -- SEQ 12
          refine v_region ?_; intro K26 k26
          -- 4 := assign c<1:i64>
          refine v_op ?_; intro K k
          simp only [zE, zS, aStepM, optable, set_some, Nat.reduceEqDiff, reduceIte, Nat.reduceLT, implies_true, forall_const, reduceCtorEq, V.ofValue, V.ofScalar, V.un, V.gd, aExec, aop, Nat.reduceAdd]
          repeat (refine And.intro (by first | omega | (intros; omega) | (intros; simp_all; done) | (intros; simp_all; omega)) ?_)
          refine k _ ?_; clear k K
          refine k26 _ ?_
          refine n25 _ _ (weak_keep [4] _) ?_
          simp only [keep_mk, keepE_nil, keepE_cons, look_cons, look_nil, Nat.reduceEqDiff, reduceIte]
          refine v_ret ?_
          refine r21 _ ?_
          refine r0 _ ?_
          simp only [resK, pickRV, get_mk, look_cons, look_nil, Nat.reduceEqDiff, reduceIte, List.map_cons, List.map_nil]
          exact ret_pure rfl (by rw [cmpS, if_neg (by rw [hc2]; simp), if_neg (by intro h; simp [hc2, h] at hc3)]) (.inl rfl)
        · intro hc3
          try simp only [zC, reduceCtorEq] at hc3
          refine v_skip ?_
          refine n21 _ _ (weak_keep [] _) ?_
          simp only [keep_mk, keepE_nil, keepE_cons, look_cons, look_nil, Nat.reduceEqDiff, reduceIte]
          refine v_seq ?_; intro Q27 n27 e27 r27  -- SEQ 13
          refine v_region ?_; intro K28 k28
          -- 4 := assign c<0:i64>
          refine v_op ?_; intro K k
          simp only [zE, zS, aStepM, optable, set_some, Nat.reduceEqDiff, reduceIte, Nat.reduceLT, implies_true, forall_const, reduceCtorEq, V.ofValue, V.ofScalar, V.un, V.gd, aExec, aop, Nat.reduceAdd]
          repeat (refine And.intro (by first | omega | (intros; omega) | (intros; simp_all; done) | (intros; simp_all; omega)) ?_)
          refine k _ ?_; clear k K
          refine k28 _ ?_
          refine n27 _ _ (weak_keep [4] _) ?_
          simp only [keep_mk, keepE_nil, keepE_cons, look_cons, look_nil, Nat.reduceEqDiff, reduceIte]
          refine v_ret ?_
          refine r0 _ ?_
          simp only [resK, pickRV, get_mk, look_cons, look_nil, Nat.reduceEqDiff, reduceIte, List.map_cons, List.map_nil]
          exact ret_pure rfl (by rw [cmpS, if_neg (by rw [hc2]; simp), if_pos (by simp [hc2] at hc3; exact hc3)]) (.inl rfl)
-- cmp.Or[int]
set_option maxHeartbeats 1000000 in
theorem cmpOr_con (l : List Int) (hl : l.length ≤ 1048576) : Con Try.prog 61 [.sl (l.map (V.int .i64))] [] (.int .i64 (orL l)) [] := by
  refine v_con [.tmp 2] [] Try.func61 rfl rfl rfl (by simp [Try.ntmps61]) ?_
  intro Q0 n0 r0
  simp only [Try.ntmps61, envFrom, Nat.reduceAdd]
  refine v_seq ?_; intro Q1 n1 e1 r1  -- SEQ 0
  refine v_region ?_; intro K2 k2
  -- 2 := assign c<0:i64>
  refine v_op ?_; intro K k
  simp only [zE, zS, aStepM, optable, set_some, Nat.reduceEqDiff, reduceIte, Nat.reduceLT, implies_true, forall_const, reduceCtorEq, V.ofValue, V.ofScalar, V.un, V.gd, aExec, aop, Nat.reduceAdd]
  repeat (refine And.intro (by first | omega | (intros; omega) | (intros; simp_all; done) | (intros; simp_all; omega)) ?_)
  refine k _ ?_; clear k K
  refine k2 _ ?_
  refine n1 _ _ (weak_keep [0] _) ?_
  simp only [keep_mk, keepE_nil, keepE_cons, look_cons, look_nil, Nat.reduceEqDiff, reduceIte]
  refine v_seq ?_; intro Q3 n3 e3 r3  -- SEQ 1
  refine v_region ?_; intro K4 k4
  -- 3 := assign c<0:i64>
  refine v_op ?_; intro K k
  simp only [zE, zS, aStepM, optable, set_some, Nat.reduceEqDiff, reduceIte, Nat.reduceLT, implies_true, forall_const, reduceCtorEq, V.ofValue, V.ofScalar, V.un, V.gd, aExec, aop, Nat.reduceAdd]
  repeat (refine And.intro (by first | omega | (intros; omega) | (intros; simp_all; done) | (intros; simp_all; omega)) ?_)
  refine k _ ?_; clear k K
  refine k4 _ ?_
  refine n3 _ _ (weak_keep [0, 3] _) ?_
  simp only [keep_mk, keepE_nil, keepE_cons, look_cons, look_nil, Nat.reduceEqDiff, reduceIte]
  refine v_seq ?_; intro Q5 n5 e5 r5  -- SEQ 2
  refine v_seq ?_; intro Q6 n6 e6 r6  -- SEQ 3
  refine v_region ?_; intro K7 k7
  -- 6 := move t0
  refine v_op ?_; intro K k
  simp only [zE, aStepM, optable, set_some, Nat.reduceEqDiff, reduceIte, Nat.reduceLT, implies_true, forall_const, reduceCtorEq, V.ofValue, V.ofScalar, V.un, V.gd, aExec, aop]
  repeat (refine And.intro (by first | omega | (intros; omega) | (intros; simp_all; done) | (intros; simp_all; omega)) ?_)
  refine k _ ?_; clear k K
  -- 7 := call b Go.Builtin.len t6 | 41
  refine v_op ?_; intro K k
  simp only [zE, zL, zN, aStepM, optable, set_some, Nat.reduceEqDiff, reduceIte, Nat.reduceLT, implies_true, forall_const, reduceCtorEq, V.ofValue, V.ofScalar, V.un, V.gd, aExec, aop, List.length_map, aLen, lenOK, row_mk, Blk.row, List.size_toArray, List.getD_eq_getElem?_getD, Array.getD_eq_getD_getElem?, Option.getD_some, Nat.reduceAdd, Nat.reduceLeDiff, Nat.reduceMul, Try.underlying3, Ty.c3, Ty.a3, Ty.b3, Ty.s3, Try.underlying41, Ty.c41, Ty.a41, Ty.b41, Ty.s41]
  repeat (refine And.intro (by first | omega | (intros; omega) | (intros; simp_all; done) | (intros; simp_all; omega)) ?_)
  refine k _ ?_; clear k K
  -- 8 := move c<0:i64>
  refine v_op ?_; intro K k
  simp only [zE, aStepM, optable, set_some, Nat.reduceEqDiff, reduceIte, Nat.reduceLT, implies_true, forall_const, reduceCtorEq, V.ofValue, V.ofScalar, V.un, V.gd, aExec, aop]
  repeat (refine And.intro (by first | omega | (intros; omega) | (intros; simp_all; done) | (intros; simp_all; omega)) ?_)
  refine k _ ?_; clear k K
  refine k7 _ ?_
  refine n6 _ _ (weak_keep [3, 6, 7, 8] _) ?_
  simp only [keep_mk, keepE_nil, keepE_cons, look_cons, look_nil, Nat.reduceEqDiff, reduceIte]
  refine v_block ?_; intro Q8 n8 x8 e8 r8
  refine v_loop (fun i => ⟨[(3, .int .i64 0), (6, .sl (l.map (V.int .i64))), (7, .int .i64 l.length), (8, .int .i64 (Nat.cast i))], [], false, 18, 0⟩) (fun i => i ≤ l.length ∧ orL (l.drop i) = orL l) (fun i => l.length - i) 0 ?_ ?_ ?_
  · refine weak_of [3, 6, 7, 8] ?_
    simp only [keep_mk, keepE_nil, keepE_cons, look_cons, look_nil, Nat.reduceEqDiff, reduceIte]
    rfl
  · exact ⟨Nat.zero_le _, rfl⟩
  · rintro i hok9 Q9 n9 e9 r9
    obtain ⟨hi1, hR⟩ := hok9
    refine v_seq ?_; intro Q10 n10 e10 r10  -- SEQ 4
    refine v_region ?_; intro K11 k11
    -- 9 := binOp Go.BinOp.lss 3 t8 t7 3
    refine v_op ?_; intro K k
    simp only [zE, aStepM, optable, set_some, Nat.reduceEqDiff, reduceIte, Nat.reduceLT, implies_true, forall_const, reduceCtorEq, V.ofValue, V.ofScalar, V.un, V.gd, aExec, aop, aBin, Try.underlying3]
    repeat (refine And.intro (by first | omega | (intros; omega) | (intros; simp_all; done) | (intros; simp_all; omega)) ?_)
    refine k _ ?_; clear k K
    refine k11 _ ?_
    refine n10 _ _ (weak_keep [3, 6, 7, 8, 9] _) ?_
    simp only [keep_mk, keepE_nil, keepE_cons, look_cons, look_nil, Nat.reduceEqDiff, reduceIte]
    refine v_seq ?_; intro Q12 n12 e12 r12  -- SEQ 5
    refine v_cond _ rfl ?_ ?_  -- COND 0
    · intro hc0
      try simp only [zC, reduceCtorEq] at hc0
      have hlt : i < l.length := by omega
      obtain ⟨y, hy⟩ : ∃ y, l[i]? = some y := ⟨l[i], List.getElem?_eq_getElem hlt⟩
      have hst := or_step hy
      refine v_skip ?_
      refine n12 _ _ (weak_keep [3, 6, 7, 8] _) ?_
      simp only [keep_mk, keepE_nil, keepE_cons, look_cons, look_nil, Nat.reduceEqDiff, reduceIte]
      refine v_seq ?_; intro Q14 n14 e14 r14  -- SEQ 6
      refine v_block ?_; intro Q15 n15 x15 e15 r15
      refine v_seq ?_; intro Q16 n16 e16 r16  -- SEQ 7
      refine v_region ?_; intro K17 k17
      -- 10 := indexAddr 41 t6 t8
      refine v_op ?_; intro K k
      simp only [zE, zL, zN, aStepM, optable, set_some, Nat.reduceEqDiff, reduceIte, Nat.reduceLT, implies_true, forall_const, reduceCtorEq, V.ofValue, V.ofScalar, V.un, V.gd, aExec, aop, aIndexAddr, row_mk, Blk.row, Go.Vm.V.cells, List.forall_mem_map, List.length_map, Int.toNat_natCast, Int.reduceToNat, TypeDesc.slice.injEq, Nat.reduceAdd, Nat.reduceLeDiff, Nat.reduceMul, Try.underlying3, Ty.c3, Ty.a3, Try.underlying41, Ty.c41, Ty.a41, getD_map hy]
      repeat (refine And.intro (by first | omega | (intros; omega) | (intros; simp_all; done) | (intros; simp_all; omega)) ?_)
      refine k _ ?_; clear k K
      -- 11 := load 3 t10
      refine v_op ?_; intro K k
      simp only [zE, zL, zO, zN, aStepM, optable, set_some, Nat.reduceEqDiff, reduceIte, Nat.reduceLT, implies_true, forall_const, reduceCtorEq, V.ofValue, V.ofScalar, V.un, V.gd, aExec, aop, aLoad, row_mk, Blk.row, PartOK, Go.Vm.part, V.cells, V.noSl, V.noRef, Nat.reduceAdd, Nat.reduceLeDiff, Nat.reduceMul, Try.underlying3, Ty.c3, Ty.a3, getD_map hy]
      repeat (refine And.intro (by first | omega | (intros; omega) | (intros; simp_all; done) | (intros; simp_all; omega)) ?_)
      refine k _ ?_; clear k K
      -- 5 := assign t11
      refine v_op ?_; intro K k
      simp only [zE, zS, aStepM, optable, set_some, Nat.reduceEqDiff, reduceIte, Nat.reduceLT, implies_true, forall_const, reduceCtorEq, V.ofValue, V.ofScalar, V.un, V.gd, aExec, aop, Nat.reduceAdd, getD_map hy]
      repeat (refine And.intro (by first | omega | (intros; omega) | (intros; simp_all; done) | (intros; simp_all; omega)) ?_)
      refine k _ ?_; clear k K
      refine k17 _ ?_
      refine n16 _ _ (weak_keep [3, 5, 6, 7, 8] _) ?_
      simp only [keep_mk, keepE_nil, keepE_cons, look_cons, look_nil, Nat.reduceEqDiff, reduceIte]
      refine v_seq ?_; intro Q18 n18 e18 r18  -- SEQ 8
      refine v_region ?_; intro K19 k19
      -- 12 := move t5
      refine v_op ?_; intro K k
      simp only [zE, aStepM, optable, set_some, Nat.reduceEqDiff, reduceIte, Nat.reduceLT, implies_true, forall_const, reduceCtorEq, V.ofValue, V.ofScalar, V.un, V.gd, aExec, aop, getD_map hy]
      repeat (refine And.intro (by first | omega | (intros; omega) | (intros; simp_all; done) | (intros; simp_all; omega)) ?_)
      refine k _ ?_; clear k K
      -- 13 := move t3
      refine v_op ?_; intro K k
      simp only [zE, aStepM, optable, set_some, Nat.reduceEqDiff, reduceIte, Nat.reduceLT, implies_true, forall_const, reduceCtorEq, V.ofValue, V.ofScalar, V.un, V.gd, aExec, aop, getD_map hy]
      repeat (refine And.intro (by first | omega | (intros; omega) | (intros; simp_all; done) | (intros; simp_all; omega)) ?_)
      refine k _ ?_; clear k K
      -- 14 := binOp Go.BinOp.neq 3 t12 t13 3
      refine v_op ?_; intro K k
      simp only [zE, aStepM, optable, set_some, Nat.reduceEqDiff, reduceIte, Nat.reduceLT, implies_true, forall_const, reduceCtorEq, V.ofValue, V.ofScalar, V.un, V.gd, aExec, aop, aBin, Try.underlying3, getD_map hy]
      repeat (refine And.intro (by first | omega | (intros; omega) | (intros; simp_all; done) | (intros; simp_all; omega)) ?_)
      refine k _ ?_; clear k K
      refine k19 _ ?_
      refine n18 _ _ (weak_keep [3, 5, 6, 7, 8, 14] _) ?_
      simp only [keep_mk, keepE_nil, keepE_cons, look_cons, look_nil, Nat.reduceEqDiff, reduceIte]
      refine v_cond _ rfl ?_ ?_  -- COND 1
      · intro hc1
        try simp only [zC, reduceCtorEq] at hc1
        refine v_seq ?_; intro Q21 n21 e21 r21  -- SEQ 9
        refine v_region ?_; intro K22 k22
        -- 15 := move t5
        refine v_op ?_; intro K k
        simp only [zE, aStepM, optable, set_some, Nat.reduceEqDiff, reduceIte, Nat.reduceLT, implies_true, forall_const, reduceCtorEq, V.ofValue, V.ofScalar, V.un, V.gd, aExec, aop, getD_map hy]
        repeat (refine And.intro (by first | omega | (intros; omega) | (intros; simp_all; done) | (intros; simp_all; omega)) ?_)
        refine k _ ?_; clear k K
        -- 2 := assign t15
        refine v_op ?_; intro K k
        simp only [zE, zS, aStepM, optable, set_some, Nat.reduceEqDiff, reduceIte, Nat.reduceLT, implies_true, forall_const, reduceCtorEq, V.ofValue, V.ofScalar, V.un, V.gd, aExec, aop, Nat.reduceAdd, getD_map hy]
        repeat (refine And.intro (by first | omega | (intros; omega) | (intros; simp_all; done) | (intros; simp_all; omega)) ?_)
        refine k _ ?_; clear k K
        refine k22 _ ?_
        refine n21 _ _ (weak_keep [2] _) ?_
        simp only [keep_mk, keepE_nil, keepE_cons, look_cons, look_nil, Nat.reduceEqDiff, reduceIte]
        refine v_ret ?_
        refine r15 _ ?_
        refine r14 _ ?_
        refine r9 _ ?_
        refine r8 _ ?_
        refine r5 _ ?_
        refine r0 _ ?_
        simp only [resK, pickRV, get_mk, look_cons, look_nil, Nat.reduceEqDiff, reduceIte, List.map_cons, List.map_nil]
        exact ret_pure rfl (by rw [← hR, hst, if_pos hc1]) (.inl rfl)
      · intro hc1
        try simp only [zC, reduceCtorEq] at hc1
        refine v_skip ?_
        refine n15 _ ?_
        refine n14 _ _ (weak_keep [3, 6, 7, 8] _) ?_
        simp only [keep_mk, keepE_nil, keepE_cons, look_cons, look_nil, Nat.reduceEqDiff, reduceIte]
        refine v_region ?_; intro K23 k23
        -- 16 := binOp Go.BinOp.add 3 t8 c<1:i64> 3
        refine v_op ?_; intro K k
        simp only [zE, aStepM, optable, set_some, Nat.reduceEqDiff, reduceIte, Nat.reduceLT, implies_true, forall_const, reduceCtorEq, V.ofValue, V.ofScalar, V.un, V.gd, aExec, aop, aBin, Try.underlying3, getD_map hy]
        try simp (disch := omega) only [wrap64]
        repeat (refine And.intro (by first | omega | (intros; omega) | (intros; simp_all; done) | (intros; simp_all; omega)) ?_)
        refine k _ ?_; clear k K
        -- 8 := move t16
        refine v_op ?_; intro K k
        simp only [zE, aStepM, optable, set_some, Nat.reduceEqDiff, reduceIte, Nat.reduceLT, implies_true, forall_const, reduceCtorEq, V.ofValue, V.ofScalar, V.un, V.gd, aExec, aop, getD_map hy]
        repeat (refine And.intro (by first | omega | (intros; omega) | (intros; simp_all; done) | (intros; simp_all; omega)) ?_)
        refine k _ ?_; clear k K
        refine k23 _ ?_
        refine n9 _ (i + 1) ?_ ?_ ?_
        · refine weak_of [3, 6, 7, 8] ?_
          simp only [keep_mk, keepE_nil, keepE_cons, look_cons, look_nil, Nat.reduceEqDiff, reduceIte]
          rfl
        · exact ⟨by omega, by rw [← hR, hst, if_neg (by simp [hc1])]⟩
        · show _ < _; omega
    · intro hc0
      try simp only [zC, reduceCtorEq] at hc0
      refine v_exit ?_
      refine e12 _ _ ?_
      refine e9 _ _ ?_
      refine x8 _ ?_
      refine n5 _ _ (weak_keep [3] _) ?_
      simp only [keep_mk, keepE_nil, keepE_cons, look_cons, look_nil, Nat.reduceEqDiff, reduceIte]
      refine v_seq ?_; intro Q24 n24 e24 r24  -- SEQ 10
      refine v_region ?_; intro K25 k25
      -- 17 := move t3
      refine v_op ?_; intro K k
      simp only [zE, aStepM, optable, set_some, Nat.reduceEqDiff, reduceIte, Nat.reduceLT, implies_true, forall_const, reduceCtorEq, V.ofValue, V.ofScalar, V.un, V.gd, aExec, aop]
      repeat (refine And.intro (by first | omega | (intros; omega) | (intros; simp_all; done) | (intros; simp_all; omega)) ?_)
      refine k _ ?_; clear k K
      -- 2 := assign t17
      refine v_op ?_; intro K k
      simp only [zE, zS, aStepM, optable, set_some, Nat.reduceEqDiff, reduceIte, Nat.reduceLT, implies_true, forall_const, reduceCtorEq, V.ofValue, V.ofScalar, V.un, V.gd, aExec, aop, Nat.reduceAdd]
      repeat (refine And.intro (by first | omega | (intros; omega) | (intros; simp_all; done) | (intros; simp_all; omega)) ?_)
      refine k _ ?_; clear k K
      refine k25 _ ?_
      refine n24 _ _ (weak_keep [2] _) ?_
      simp only [keep_mk, keepE_nil, keepE_cons, look_cons, look_nil, Nat.reduceEqDiff, reduceIte]
      refine v_ret ?_
      refine r0 _ ?_
      simp only [resK, pickRV, get_mk, look_cons, look_nil, Nat.reduceEqDiff, reduceIte, List.map_cons, List.map_nil]
      exact ret_pure rfl (by rw [← hR, or_end (by omega)]) (.inl rfl)
end Go.Proofs.Ytldnelkcmffiaaa
