/- What functions compute (Names). No condition. -/
import Derived.Test.YtldnelkcmffiaaaTy
import Derived.Test.YtldnelkcmffiaaaVm21
import Derived.Test.YtldnelkcmffiaaaWBase
set_option linter.unusedSimpArgs false
set_option linter.unusedVariables false
namespace Go.Proofs.Ytldnelkcmffiaaa
open Go Go.Vm

def okAt (s : ByteArray) (i : Nat) : Bool := (decide (97 ≤ byteAt s i) && decide (byteAt s i ≤ 122)) || ((decide (48 ≤ byteAt s i) && decide (byteAt s i ≤ 57)) && !decide (i = 0))
def nameB (s : ByteArray) : Bool := (List.range s.size).all (okAt s) && (decide (1 ≤ (s.size : Int)) && decide ((s.size : Int) ≤ 6))
theorem name_bad {s : ByteArray} {i : Nat} (hi : i < s.size) (h : okAt s i = false) : nameB s = false := by
  have : (List.range s.size).all (okAt s) = false := by
    rw [List.all_eq_false]
    exact ⟨i, List.mem_range.2 hi, by rw [h]; simp⟩
  rw [nameB, this]; rfl
theorem name_good {s : ByteArray} {i : Nat} (hi : s.size ≤ i) (h : ∀ j, j < i → okAt s j = true) : nameB s = (decide (1 ≤ (s.size : Int)) && decide ((s.size : Int) ≤ 6)) := by
  have : (List.range s.size).all (okAt s) = true := by
    rw [List.all_eq_true]
    intro j hj
    exact h j (Nat.lt_of_lt_of_le (List.mem_range.1 hj) hi)
  rw [nameB, this]; rfl
theorem ok_step {s : ByteArray} {i : Nat} (h : ∀ j, j < i → okAt s j = true) (hi : okAt s i = true) : ∀ j, j < i + 1 → okAt s j = true := by
  intro j hj
  rcases Nat.lt_or_ge j i with q | q
  · exact h j q
  · have : j = i := by omega
    subst this; exact hi

-- loop.example/g01020/spec.apName
set_option maxHeartbeats 1000000 in
theorem apName_con (s : ByteArray) (hs : s.size ≤ 9223372036854775807) : Con Try.prog 76 [.str s] [] (.bool (nameB s)) [] := by
  refine v_con [.tmp 2] [] Try.func76 rfl rfl rfl (by simp [Try.ntmps76]) ?_
  intro Q0 n0 r0
  simp only [Try.ntmps76, envFrom, Nat.reduceAdd]
  refine v_seq ?_; intro Q1 n1 e1 r1  -- SEQ 0
  refine v_region ?_; intro K2 k2
  -- 2 := assign c<false>
  refine v_op ?_; intro K k
  simp only [zE, zS, aStepM, optable, set_some, Nat.reduceEqDiff, reduceIte, Nat.reduceLT, implies_true, forall_const, reduceCtorEq, V.ofValue, V.ofScalar, V.un, V.gd, aExec, aop, Nat.reduceAdd]
  repeat (refine And.intro (by first | omega | (intros; omega) | (intros; simp_all; done) | (intros; simp_all; omega)) ?_)
  refine k _ ?_; clear k K
  refine k2 _ ?_
  refine n1 _ _ (weak_keep [0] _) ?_
  simp only [keep_mk, keepE_nil, keepE_cons, look_cons, look_nil, Nat.reduceEqDiff, reduceIte]
  refine v_seq ?_; intro Q3 n3 e3 r3  -- SEQ 1
  refine v_seq ?_; intro Q4 n4 e4 r4  -- SEQ 2
  refine v_region ?_; intro K5 k5
  -- 3 := assign c<0:i64>
  refine v_op ?_; intro K k
  simp only [zE, zS, aStepM, optable, set_some, Nat.reduceEqDiff, reduceIte, Nat.reduceLT, implies_true, forall_const, reduceCtorEq, V.ofValue, V.ofScalar, V.un, V.gd, aExec, aop, Nat.reduceAdd]
  repeat (refine And.intro (by first | omega | (intros; omega) | (intros; simp_all; done) | (intros; simp_all; omega)) ?_)
  refine k _ ?_; clear k K
  refine k5 _ ?_
  refine n4 _ _ (weak_keep [0, 3] _) ?_
  simp only [keep_mk, keepE_nil, keepE_cons, look_cons, look_nil, Nat.reduceEqDiff, reduceIte]
  refine v_block ?_; intro Q6 n6 x6 e6 r6
  refine v_loop (fun i => ⟨[(0, .str s), (3, .int .i64 (Nat.cast i))], [], false, 45, 0⟩) (fun i => i ≤ s.size ∧ ∀ j, j < i → okAt s j = true) (fun i => s.size - i) 0 ?_ ?_ ?_
  · refine weak_of [0, 3] ?_
    simp only [keep_mk, keepE_nil, keepE_cons, look_cons, look_nil, Nat.reduceEqDiff, reduceIte]
    rfl
  · exact ⟨Nat.zero_le _, fun j h => absurd h (Nat.not_lt_zero _)⟩
  · rintro i hok7 Q7 n7 e7 r7
    obtain ⟨hi1, hR⟩ := hok7
    refine v_seq ?_; intro Q8 n8 e8 r8  -- SEQ 3
    refine v_seq ?_; intro Q9 n9 e9 r9  -- SEQ 4
    refine v_region ?_; intro K10 k10
    -- 6 := move t3
    refine v_op ?_; intro K k
    simp only [zE, aStepM, optable, set_some, Nat.reduceEqDiff, reduceIte, Nat.reduceLT, implies_true, forall_const, reduceCtorEq, V.ofValue, V.ofScalar, V.un, V.gd, aExec, aop]
    repeat (refine And.intro (by first | omega | (intros; omega) | (intros; simp_all; done) | (intros; simp_all; omega)) ?_)
    refine k _ ?_; clear k K
    -- 7 := move t0
    refine v_op ?_; intro K k
    simp only [zE, aStepM, optable, set_some, Nat.reduceEqDiff, reduceIte, Nat.reduceLT, implies_true, forall_const, reduceCtorEq, V.ofValue, V.ofScalar, V.un, V.gd, aExec, aop]
    repeat (refine And.intro (by first | omega | (intros; omega) | (intros; simp_all; done) | (intros; simp_all; omega)) ?_)
    refine k _ ?_; clear k K
    -- 8 := call b Go.Builtin.len t7 | 9
    refine v_op ?_; intro K k
    simp only [zE, zL, zN, aStepM, optable, set_some, Nat.reduceEqDiff, reduceIte, Nat.reduceLT, implies_true, forall_const, reduceCtorEq, V.ofValue, V.ofScalar, V.un, V.gd, aExec, aop, List.length_map, aLen, lenOK, row_mk, Blk.row, List.size_toArray, List.getD_eq_getElem?_getD, Array.getD_eq_getD_getElem?, Option.getD_some, Nat.reduceAdd, Nat.reduceLeDiff, Nat.reduceMul, Try.underlying3, Ty.c3, Ty.a3, Ty.b3, Ty.s3, Try.underlying9, Ty.c9, Ty.a9, Ty.b9, Ty.s9]
    repeat (refine And.intro (by first | omega | (intros; omega) | (intros; simp_all; done) | (intros; simp_all; omega)) ?_)
    refine k _ ?_; clear k K
    -- 9 := binOp Go.BinOp.lss 3 t6 t8 3
    refine v_op ?_; intro K k
    simp only [zE, aStepM, optable, set_some, Nat.reduceEqDiff, reduceIte, Nat.reduceLT, implies_true, forall_const, reduceCtorEq, V.ofValue, V.ofScalar, V.un, V.gd, aExec, aop, aBin, Try.underlying3]
    repeat (refine And.intro (by first | omega | (intros; omega) | (intros; simp_all; done) | (intros; simp_all; omega)) ?_)
    refine k _ ?_; clear k K
    refine k10 _ ?_
    refine n9 _ _ (weak_keep [0, 3, 9] _) ?_
    simp only [keep_mk, keepE_nil, keepE_cons, look_cons, look_nil, Nat.reduceEqDiff, reduceIte]
    refine v_cond _ rfl ?_ ?_  -- COND 0
    · intro hc0
      try simp only [zC, reduceCtorEq] at hc0
      have hlt : i < s.size := by omega
      refine v_skip ?_
      refine n8 _ _ (weak_keep [0, 3] _) ?_
      simp only [keep_mk, keepE_nil, keepE_cons, look_cons, look_nil, Nat.reduceEqDiff, reduceIte]
      refine v_seq ?_; intro Q12 n12 e12 r12  -- SEQ 5
      refine v_block ?_; intro Q13 n13 x13 e13 r13
      refine v_seq ?_; intro Q14 n14 e14 r14  -- SEQ 6
      refine v_region ?_; intro K15 k15
      -- 12 := move t0
      refine v_op ?_; intro K k
      simp only [zE, aStepM, optable, set_some, Nat.reduceEqDiff, reduceIte, Nat.reduceLT, implies_true, forall_const, reduceCtorEq, V.ofValue, V.ofScalar, V.un, V.gd, aExec, aop]
      repeat (refine And.intro (by first | omega | (intros; omega) | (intros; simp_all; done) | (intros; simp_all; omega)) ?_)
      refine k _ ?_; clear k K
      -- 13 := move t3
      refine v_op ?_; intro K k
      simp only [zE, aStepM, optable, set_some, Nat.reduceEqDiff, reduceIte, Nat.reduceLT, implies_true, forall_const, reduceCtorEq, V.ofValue, V.ofScalar, V.un, V.gd, aExec, aop]
      repeat (refine And.intro (by first | omega | (intros; omega) | (intros; simp_all; done) | (intros; simp_all; omega)) ?_)
      refine k _ ?_; clear k K
      -- 14 := index 9 t12 t13
      refine v_op ?_; intro K k
      simp only [zE, aStepM, optable, set_some, Nat.reduceEqDiff, reduceIte, Nat.reduceLT, implies_true, forall_const, reduceCtorEq, V.ofValue, V.ofScalar, V.un, V.gd, aExec, aop, aIndex, Int.toNat_natCast, Try.underlying9]
      repeat (refine And.intro (by first | omega | (intros; omega) | (intros; simp_all; done) | (intros; simp_all; omega)) ?_)
      refine k _ ?_; clear k K
      -- 15 := binOp Go.BinOp.geq 5 t14 c<48:u8> 5
      refine v_op ?_; intro K k
      simp only [zE, aStepM, optable, set_some, Nat.reduceEqDiff, reduceIte, Nat.reduceLT, implies_true, forall_const, reduceCtorEq, V.ofValue, V.ofScalar, V.un, V.gd, aExec, aop, aBin, Try.underlying5]
      repeat (refine And.intro (by first | omega | (intros; omega) | (intros; simp_all; done) | (intros; simp_all; omega)) ?_)
      refine k _ ?_; clear k K
      -- 16 := move t15
      refine v_op ?_; intro K k
      simp only [zE, aStepM, optable, set_some, Nat.reduceEqDiff, reduceIte, Nat.reduceLT, implies_true, forall_const, reduceCtorEq, V.ofValue, V.ofScalar, V.un, V.gd, aExec, aop]
      repeat (refine And.intro (by first | omega | (intros; omega) | (intros; simp_all; done) | (intros; simp_all; omega)) ?_)
      refine k _ ?_; clear k K
      -- 17 := move t0
      first
      | refine v_pass 17 4 true rfl (show 17 < 45 by decide) rfl ?_ ?_
        · first | rfl | (simp only [zV, guardV, Nat.reduceEqDiff, reduceIte]; done)
        simp only [zW, set_some, Nat.reduceEqDiff, reduceIte]
      | skip
        -- 17 := move t0
        refine v_op ?_; intro K k
        simp only [zE, zG, aStepM, optable, set_some, Nat.reduceEqDiff, reduceIte, Nat.reduceLT, implies_true, forall_const, reduceCtorEq, V.ofValue, V.ofScalar, V.un, V.gd, guardV, V.wrap, aExec, aop]
        repeat (refine And.intro (by first | omega | (intros; omega) | (intros; simp_all; done) | (intros; simp_all; omega)) ?_)
        refine k _ ?_; clear k K
      -- 18 := move t3
      first
      | refine v_pass 18 4 true rfl (show 18 < 45 by decide) rfl ?_ ?_
        · first | rfl | (simp only [zV, guardV, Nat.reduceEqDiff, reduceIte]; done)
        simp only [zW, set_some, Nat.reduceEqDiff, reduceIte]
      | skip
        -- 18 := move t3
        refine v_op ?_; intro K k
        simp only [zE, zG, aStepM, optable, set_some, Nat.reduceEqDiff, reduceIte, Nat.reduceLT, implies_true, forall_const, reduceCtorEq, V.ofValue, V.ofScalar, V.un, V.gd, guardV, V.wrap, aExec, aop]
        repeat (refine And.intro (by first | omega | (intros; omega) | (intros; simp_all; done) | (intros; simp_all; omega)) ?_)
        refine k _ ?_; clear k K
      -- 19 := index 9 t17 t18
      first
      | refine v_pass 19 4 true rfl (show 19 < 45 by decide) rfl ?_ ?_
        · first | rfl | (simp only [zV, guardV, Nat.reduceEqDiff, reduceIte]; done)
        simp only [zW, set_some, Nat.reduceEqDiff, reduceIte]
      | skip
        -- 19 := index 9 t17 t18
        refine v_op ?_; intro K k
        simp only [zE, zG, aStepM, optable, set_some, Nat.reduceEqDiff, reduceIte, Nat.reduceLT, implies_true, forall_const, reduceCtorEq, V.ofValue, V.ofScalar, V.un, V.gd, guardV, V.wrap, aExec, aop, aIndex, Int.toNat_natCast, Try.underlying9]
        repeat (refine And.intro (by first | omega | (intros; omega) | (intros; simp_all; done) | (intros; simp_all; omega)) ?_)
        refine k _ ?_; clear k K
      -- 20 := binOp Go.BinOp.leq 5 t19 c<57:u8> 5
      first
      | refine v_pass 20 4 true rfl (show 20 < 45 by decide) rfl ?_ ?_
        · first | rfl | (simp only [zV, guardV, Nat.reduceEqDiff, reduceIte]; done)
        simp only [zW, set_some, Nat.reduceEqDiff, reduceIte]
      | skip
        -- 20 := binOp Go.BinOp.leq 5 t19 c<57:u8> 5
        refine v_op ?_; intro K k
        simp only [zE, zG, aStepM, optable, set_some, Nat.reduceEqDiff, reduceIte, Nat.reduceLT, implies_true, forall_const, reduceCtorEq, V.ofValue, V.ofScalar, V.un, V.gd, guardV, V.wrap, aExec, aop, aBin, Try.underlying5]
        repeat (refine And.intro (by first | omega | (intros; omega) | (intros; simp_all; done) | (intros; simp_all; omega)) ?_)
        refine k _ ?_; clear k K
      -- 21 := pick t16 t20 c<false>
      refine v_op ?_; intro K k
      simp only [zE, zP, aStepM, optable, set_some, Nat.reduceEqDiff, reduceIte, Nat.reduceLT, implies_true, forall_const, reduceCtorEq, V.ofValue, V.ofScalar, V.un, V.gd, aExec, aop, pickV]
      repeat (refine And.intro (by first | omega | (intros; omega) | (intros; simp_all; done) | (intros; simp_all; omega)) ?_)
      refine k _ ?_; clear k K
      -- 4 := assign t21
      refine v_op ?_; intro K k
      simp only [zE, zS, aStepM, optable, set_some, Nat.reduceEqDiff, reduceIte, Nat.reduceLT, implies_true, forall_const, reduceCtorEq, V.ofValue, V.ofScalar, V.un, V.gd, aExec, aop, Nat.reduceAdd]
      repeat (refine And.intro (by first | omega | (intros; omega) | (intros; simp_all; done) | (intros; simp_all; omega)) ?_)
      refine k _ ?_; clear k K
      refine k15 _ ?_
      refine n14 _ _ (weak_keep [0, 3, 4] _) ?_
      simp only [keep_mk, keepE_nil, keepE_cons, look_cons, look_nil, Nat.reduceEqDiff, reduceIte]
      refine v_seq ?_; intro Q16 n16 e16 r16  -- SEQ 7
      refine v_region ?_; intro K17 k17
      -- 22 := move t0
      refine v_op ?_; intro K k
      simp only [zE, aStepM, optable, set_some, Nat.reduceEqDiff, reduceIte, Nat.reduceLT, implies_true, forall_const, reduceCtorEq, V.ofValue, V.ofScalar, V.un, V.gd, aExec, aop]
      repeat (refine And.intro (by first | omega | (intros; omega) | (intros; simp_all; done) | (intros; simp_all; omega)) ?_)
      refine k _ ?_; clear k K
      -- 23 := move t3
      refine v_op ?_; intro K k
      simp only [zE, aStepM, optable, set_some, Nat.reduceEqDiff, reduceIte, Nat.reduceLT, implies_true, forall_const, reduceCtorEq, V.ofValue, V.ofScalar, V.un, V.gd, aExec, aop]
      repeat (refine And.intro (by first | omega | (intros; omega) | (intros; simp_all; done) | (intros; simp_all; omega)) ?_)
      refine k _ ?_; clear k K
      -- 24 := index 9 t22 t23
      refine v_op ?_; intro K k
      simp only [zE, aStepM, optable, set_some, Nat.reduceEqDiff, reduceIte, Nat.reduceLT, implies_true, forall_const, reduceCtorEq, V.ofValue, V.ofScalar, V.un, V.gd, aExec, aop, aIndex, Int.toNat_natCast, Try.underlying9]
      repeat (refine And.intro (by first | omega | (intros; omega) | (intros; simp_all; done) | (intros; simp_all; omega)) ?_)
      refine k _ ?_; clear k K
      -- 25 := binOp Go.BinOp.geq 5 t24 c<97:u8> 5
      refine v_op ?_; intro K k
      simp only [zE, aStepM, optable, set_some, Nat.reduceEqDiff, reduceIte, Nat.reduceLT, implies_true, forall_const, reduceCtorEq, V.ofValue, V.ofScalar, V.un, V.gd, aExec, aop, aBin, Try.underlying5]
      repeat (refine And.intro (by first | omega | (intros; omega) | (intros; simp_all; done) | (intros; simp_all; omega)) ?_)
      refine k _ ?_; clear k K
      -- 26 := move t25
      refine v_op ?_; intro K k
      simp only [zE, aStepM, optable, set_some, Nat.reduceEqDiff, reduceIte, Nat.reduceLT, implies_true, forall_const, reduceCtorEq, V.ofValue, V.ofScalar, V.un, V.gd, aExec, aop]
      repeat (refine And.intro (by first | omega | (intros; omega) | (intros; simp_all; done) | (intros; simp_all; omega)) ?_)
      refine k _ ?_; clear k K
      -- 27 := move t0
      first
      | refine v_pass 27 4 true rfl (show 27 < 45 by decide) rfl ?_ ?_
        · first | rfl | (simp only [zV, guardV, Nat.reduceEqDiff, reduceIte]; done)
        simp only [zW, set_some, Nat.reduceEqDiff, reduceIte]
      | skip
        -- 27 := move t0
        refine v_op ?_; intro K k
        simp only [zE, zG, aStepM, optable, set_some, Nat.reduceEqDiff, reduceIte, Nat.reduceLT, implies_true, forall_const, reduceCtorEq, V.ofValue, V.ofScalar, V.un, V.gd, guardV, V.wrap, aExec, aop]
        repeat (refine And.intro (by first | omega | (intros; omega) | (intros; simp_all; done) | (intros; simp_all; omega)) ?_)
        refine k _ ?_; clear k K
      -- 28 := move t3
      first
      | refine v_pass 28 4 true rfl (show 28 < 45 by decide) rfl ?_ ?_
        · first | rfl | (simp only [zV, guardV, Nat.reduceEqDiff, reduceIte]; done)
        simp only [zW, set_some, Nat.reduceEqDiff, reduceIte]
      | skip
        -- 28 := move t3
        refine v_op ?_; intro K k
        simp only [zE, zG, aStepM, optable, set_some, Nat.reduceEqDiff, reduceIte, Nat.reduceLT, implies_true, forall_const, reduceCtorEq, V.ofValue, V.ofScalar, V.un, V.gd, guardV, V.wrap, aExec, aop]
        repeat (refine And.intro (by first | omega | (intros; omega) | (intros; simp_all; done) | (intros; simp_all; omega)) ?_)
        refine k _ ?_; clear k K
      -- 29 := index 9 t27 t28
      first
      | refine v_pass 29 4 true rfl (show 29 < 45 by decide) rfl ?_ ?_
        · first | rfl | (simp only [zV, guardV, Nat.reduceEqDiff, reduceIte]; done)
        simp only [zW, set_some, Nat.reduceEqDiff, reduceIte]
      | skip
        -- 29 := index 9 t27 t28
        refine v_op ?_; intro K k
        simp only [zE, zG, aStepM, optable, set_some, Nat.reduceEqDiff, reduceIte, Nat.reduceLT, implies_true, forall_const, reduceCtorEq, V.ofValue, V.ofScalar, V.un, V.gd, guardV, V.wrap, aExec, aop, aIndex, Int.toNat_natCast, Try.underlying9]
        repeat (refine And.intro (by first | omega | (intros; omega) | (intros; simp_all; done) | (intros; simp_all; omega)) ?_)
        refine k _ ?_; clear k K
      -- 30 := binOp Go.BinOp.leq 5 t29 c<122:u8> 5
      first
      | refine v_pass 30 4 true rfl (show 30 < 45 by decide) rfl ?_ ?_
        · first | rfl | (simp only [zV, guardV, Nat.reduceEqDiff, reduceIte]; done)
        simp only [zW, set_some, Nat.reduceEqDiff, reduceIte]
      | skip
        -- 30 := binOp Go.BinOp.leq 5 t29 c<122:u8> 5
        refine v_op ?_; intro K k
        simp only [zE, zG, aStepM, optable, set_some, Nat.reduceEqDiff, reduceIte, Nat.reduceLT, implies_true, forall_const, reduceCtorEq, V.ofValue, V.ofScalar, V.un, V.gd, guardV, V.wrap, aExec, aop, aBin, Try.underlying5]
        repeat (refine And.intro (by first | omega | (intros; omega) | (intros; simp_all; done) | (intros; simp_all; omega)) ?_)
        refine k _ ?_; clear k K
      -- 31 := pick t26 t30 c<false>
      refine v_op ?_; intro K k
      simp only [zE, zP, aStepM, optable, set_some, Nat.reduceEqDiff, reduceIte, Nat.reduceLT, implies_true, forall_const, reduceCtorEq, V.ofValue, V.ofScalar, V.un, V.gd, aExec, aop, pickV]
      repeat (refine And.intro (by first | omega | (intros; omega) | (intros; simp_all; done) | (intros; simp_all; omega)) ?_)
      refine k _ ?_; clear k K
      -- 5 := assign t31
      refine v_op ?_; intro K k
      simp only [zE, zS, aStepM, optable, set_some, Nat.reduceEqDiff, reduceIte, Nat.reduceLT, implies_true, forall_const, reduceCtorEq, V.ofValue, V.ofScalar, V.un, V.gd, aExec, aop, Nat.reduceAdd]
      repeat (refine And.intro (by first | omega | (intros; omega) | (intros; simp_all; done) | (intros; simp_all; omega)) ?_)
      refine k _ ?_; clear k K
      refine k17 _ ?_
      refine n16 _ _ (weak_keep [0, 3, 4, 5] _) ?_
      simp only [keep_mk, keepE_nil, keepE_cons, look_cons, look_nil, Nat.reduceEqDiff, reduceIte]
      refine v_seq ?_; intro Q18 n18 e18 r18  -- SEQ 8
      refine v_region ?_; intro K19 k19
      -- 32 := move t5
      refine v_op ?_; intro K k
      simp only [zE, aStepM, optable, set_some, Nat.reduceEqDiff, reduceIte, Nat.reduceLT, implies_true, forall_const, reduceCtorEq, V.ofValue, V.ofScalar, V.un, V.gd, aExec, aop]
      repeat (refine And.intro (by first | omega | (intros; omega) | (intros; simp_all; done) | (intros; simp_all; omega)) ?_)
      refine k _ ?_; clear k K
      -- 33 := unOp Go.UnOp.not 4 t32
      refine v_op ?_; intro K k
      simp only [zE, aStepM, optable, set_some, Nat.reduceEqDiff, reduceIte, Nat.reduceLT, implies_true, forall_const, reduceCtorEq, V.ofValue, V.ofScalar, V.un, V.gd, aExec, aop, aUn, Try.underlying4]
      repeat (refine And.intro (by first | omega | (intros; omega) | (intros; simp_all; done) | (intros; simp_all; omega)) ?_)
      refine k _ ?_; clear k K
      -- 34 := move t33
      refine v_op ?_; intro K k
      simp only [zE, aStepM, optable, set_some, Nat.reduceEqDiff, reduceIte, Nat.reduceLT, implies_true, forall_const, reduceCtorEq, V.ofValue, V.ofScalar, V.un, V.gd, aExec, aop]
      repeat (refine And.intro (by first | omega | (intros; omega) | (intros; simp_all; done) | (intros; simp_all; omega)) ?_)
      refine k _ ?_; clear k K
      -- 35 := move t4
      first
      | refine v_pass 35 2 true rfl (show 35 < 45 by decide) rfl ?_ ?_
        · first | rfl | (simp only [zV, guardV, Nat.reduceEqDiff, reduceIte]; done)
        simp only [zW, set_some, Nat.reduceEqDiff, reduceIte]
      | skip
        -- 35 := move t4
        refine v_op ?_; intro K k
        simp only [zE, zG, aStepM, optable, set_some, Nat.reduceEqDiff, reduceIte, Nat.reduceLT, implies_true, forall_const, reduceCtorEq, V.ofValue, V.ofScalar, V.un, V.gd, guardV, V.wrap, aExec, aop]
        repeat (refine And.intro (by first | omega | (intros; omega) | (intros; simp_all; done) | (intros; simp_all; omega)) ?_)
        refine k _ ?_; clear k K
      -- 36 := unOp Go.UnOp.not 4 t35
      first
      | refine v_pass 36 2 true rfl (show 36 < 45 by decide) rfl ?_ ?_
        · first | rfl | (simp only [zV, guardV, Nat.reduceEqDiff, reduceIte]; done)
        simp only [zW, set_some, Nat.reduceEqDiff, reduceIte]
      | skip
        -- 36 := unOp Go.UnOp.not 4 t35
        refine v_op ?_; intro K k
        simp only [zE, zG, aStepM, optable, set_some, Nat.reduceEqDiff, reduceIte, Nat.reduceLT, implies_true, forall_const, reduceCtorEq, V.ofValue, V.ofScalar, V.un, V.gd, guardV, V.wrap, aExec, aop, aUn, Try.underlying4]
        repeat (refine And.intro (by first | omega | (intros; omega) | (intros; simp_all; done) | (intros; simp_all; omega)) ?_)
        refine k _ ?_; clear k K
      -- 37 := move t36
      first
      | refine v_pass 37 2 true rfl (show 37 < 45 by decide) rfl ?_ ?_
        · first | rfl | (simp only [zV, guardV, Nat.reduceEqDiff, reduceIte]; done)
        simp only [zW, set_some, Nat.reduceEqDiff, reduceIte]
      | skip
        -- 37 := move t36
        refine v_op ?_; intro K k
        simp only [zE, zG, aStepM, optable, set_some, Nat.reduceEqDiff, reduceIte, Nat.reduceLT, implies_true, forall_const, reduceCtorEq, V.ofValue, V.ofScalar, V.un, V.gd, guardV, V.wrap, aExec, aop]
        repeat (refine And.intro (by first | omega | (intros; omega) | (intros; simp_all; done) | (intros; simp_all; omega)) ?_)
        refine k _ ?_; clear k K
      -- 38 := move t3
      first
      | refine v_pass 38 5 false rfl (show 38 < 45 by decide) rfl ?_ ?_
        · first | rfl | (simp only [zV, guardV, Nat.reduceEqDiff, reduceIte]; done)
        simp only [zW, set_some, Nat.reduceEqDiff, reduceIte]
      | skip
        -- 38 := move t3
        refine v_op ?_; intro K k
        simp only [zE, zG, aStepM, optable, set_some, Nat.reduceEqDiff, reduceIte, Nat.reduceLT, implies_true, forall_const, reduceCtorEq, V.ofValue, V.ofScalar, V.un, V.gd, guardV, V.wrap, aExec, aop]
        repeat (refine And.intro (by first | omega | (intros; omega) | (intros; simp_all; done) | (intros; simp_all; omega)) ?_)
        refine k _ ?_; clear k K
      -- 39 := binOp Go.BinOp.eql 3 t38 c<0:i64> 3
      first
      | refine v_pass 39 5 false rfl (show 39 < 45 by decide) rfl ?_ ?_
        · first | rfl | (simp only [zV, guardV, Nat.reduceEqDiff, reduceIte]; done)
        simp only [zW, set_some, Nat.reduceEqDiff, reduceIte]
      | skip
        -- 39 := binOp Go.BinOp.eql 3 t38 c<0:i64> 3
        refine v_op ?_; intro K k
        simp only [zE, zG, aStepM, optable, set_some, Nat.reduceEqDiff, reduceIte, Nat.reduceLT, implies_true, forall_const, reduceCtorEq, V.ofValue, V.ofScalar, V.un, V.gd, guardV, V.wrap, aExec, aop, aBin, Try.underlying3]
        repeat (refine And.intro (by first | omega | (intros; omega) | (intros; simp_all; done) | (intros; simp_all; omega)) ?_)
        refine k _ ?_; clear k K
      -- 40 := pick t37 c<true> t39
      first
      | refine v_pass 40 2 true rfl (show 40 < 45 by decide) rfl ?_ ?_
        · first | rfl | (simp only [zV, guardV, Nat.reduceEqDiff, reduceIte]; done)
        simp only [zW, set_some, Nat.reduceEqDiff, reduceIte]
      | skip
        -- 40 := pick t37 c<true> t39
        refine v_op ?_; intro K k
        simp only [zE, zP, zG, aStepM, optable, set_some, Nat.reduceEqDiff, reduceIte, Nat.reduceLT, implies_true, forall_const, reduceCtorEq, V.ofValue, V.ofScalar, V.un, V.gd, guardV, V.wrap, aExec, aop, pickV]
        repeat (refine And.intro (by first | omega | (intros; omega) | (intros; simp_all; done) | (intros; simp_all; omega)) ?_)
        refine k _ ?_; clear k K
      -- 41 := pick t34 t40 c<false>
      refine v_op ?_; intro K k
      simp only [zE, zP, aStepM, optable, set_some, Nat.reduceEqDiff, reduceIte, Nat.reduceLT, implies_true, forall_const, reduceCtorEq, V.ofValue, V.ofScalar, V.un, V.gd, aExec, aop, pickV]
      repeat (refine And.intro (by first | omega | (intros; omega) | (intros; simp_all; done) | (intros; simp_all; omega)) ?_)
      refine k _ ?_; clear k K
      refine k19 _ ?_
      refine n18 _ _ (weak_keep [0, 3, 41] _) ?_
      simp only [keep_mk, keepE_nil, keepE_cons, look_cons, look_nil, Nat.reduceEqDiff, reduceIte]
      refine v_cond _ rfl ?_ ?_  -- COND 1
      · intro hc1
        try simp only [zC, reduceCtorEq] at hc1
        have hbad : okAt s i = false := by simp only [okAt, Bool.or_eq_false_iff, Bool.and_eq_false_imp, decide_eq_true_eq, decide_eq_false_iff_not, Bool.not_eq_false', Bool.and_eq_true]; omega
        refine v_seq ?_; intro Q21 n21 e21 r21  -- SEQ 9
        refine v_region ?_; intro K22 k22
        -- 2 := assign c<false>
        refine v_op ?_; intro K k
        simp only [zE, zS, aStepM, optable, set_some, Nat.reduceEqDiff, reduceIte, Nat.reduceLT, implies_true, forall_const, reduceCtorEq, V.ofValue, V.ofScalar, V.un, V.gd, aExec, aop, Nat.reduceAdd]
        repeat (refine And.intro (by first | omega | (intros; omega) | (intros; simp_all; done) | (intros; simp_all; omega)) ?_)
        refine k _ ?_; clear k K
        refine k22 _ ?_
        refine n21 _ _ (weak_keep [2] _) ?_
        simp only [keep_mk, keepE_nil, keepE_cons, look_cons, look_nil, Nat.reduceEqDiff, reduceIte]
        refine v_ret ?_
        refine r13 _ ?_
        refine r12 _ ?_
        refine r7 _ ?_
        refine r6 _ ?_
        refine r3 _ ?_
        refine r0 _ ?_
        simp only [resK, pickRV, get_mk, look_cons, look_nil, Nat.reduceEqDiff, reduceIte, List.map_cons, List.map_nil]
        exact ret_pure rfl (by rw [name_bad hlt hbad]) (.inl rfl)
      · intro hc1
        try simp only [zC, reduceCtorEq] at hc1
        have hgood : okAt s i = true := by simp only [okAt, Bool.or_eq_true, Bool.and_eq_true, decide_eq_true_eq, Bool.not_eq_true', decide_eq_false_iff_not]; omega
        refine v_skip ?_
        refine n13 _ ?_
        refine n12 _ _ (weak_keep [0, 3] _) ?_
        simp only [keep_mk, keepE_nil, keepE_cons, look_cons, look_nil, Nat.reduceEqDiff, reduceIte]
        refine v_region ?_; intro K23 k23
        -- 10 := move t3
        refine v_op ?_; intro K k
        simp only [zE, aStepM, optable, set_some, Nat.reduceEqDiff, reduceIte, Nat.reduceLT, implies_true, forall_const, reduceCtorEq, V.ofValue, V.ofScalar, V.un, V.gd, aExec, aop]
        repeat (refine And.intro (by first | omega | (intros; omega) | (intros; simp_all; done) | (intros; simp_all; omega)) ?_)
        refine k _ ?_; clear k K
        -- 11 := binOp Go.BinOp.add 3 t10 c<1:i64> 3
        refine v_op ?_; intro K k
        simp only [zE, aStepM, optable, set_some, Nat.reduceEqDiff, reduceIte, Nat.reduceLT, implies_true, forall_const, reduceCtorEq, V.ofValue, V.ofScalar, V.un, V.gd, aExec, aop, aBin, Try.underlying3]
        try simp (disch := omega) only [wrap64]
        repeat (refine And.intro (by first | omega | (intros; omega) | (intros; simp_all; done) | (intros; simp_all; omega)) ?_)
        refine k _ ?_; clear k K
        -- 3 := assign t11
        refine v_op ?_; intro K k
        simp only [zE, zS, aStepM, optable, set_some, Nat.reduceEqDiff, reduceIte, Nat.reduceLT, implies_true, forall_const, reduceCtorEq, V.ofValue, V.ofScalar, V.un, V.gd, aExec, aop, Nat.reduceAdd]
        repeat (refine And.intro (by first | omega | (intros; omega) | (intros; simp_all; done) | (intros; simp_all; omega)) ?_)
        refine k _ ?_; clear k K
        refine k23 _ ?_
        refine n7 _ (i + 1) ?_ ?_ ?_
        · refine weak_of [0, 3] ?_
          simp only [keep_mk, keepE_nil, keepE_cons, look_cons, look_nil, Nat.reduceEqDiff, reduceIte]
          rfl
        · exact ⟨by omega, ok_step hR hgood⟩
        · show _ < _; omega
    · intro hc0
      try simp only [zC, reduceCtorEq] at hc0
      refine v_exit ?_
      refine e8 _ _ ?_
      refine e7 _ _ ?_
      refine x6 _ ?_
      refine n3 _ _ (weak_keep [0] _) ?_
      simp only [keep_mk, keepE_nil, keepE_cons, look_cons, look_nil, Nat.reduceEqDiff, reduceIte]
      refine v_seq ?_; intro Q24 n24 e24 r24  -- SEQ 10
      refine v_region ?_; intro K25 k25
      -- 42 := move t0
      refine v_op ?_; intro K k
      simp only [zE, aStepM, optable, set_some, Nat.reduceEqDiff, reduceIte, Nat.reduceLT, implies_true, forall_const, reduceCtorEq, V.ofValue, V.ofScalar, V.un, V.gd, aExec, aop]
      repeat (refine And.intro (by first | omega | (intros; omega) | (intros; simp_all; done) | (intros; simp_all; omega)) ?_)
      refine k _ ?_; clear k K
      -- 43 := call b Go.Builtin.len t42 | 9
      refine v_op ?_; intro K k
      simp only [zE, zL, zN, aStepM, optable, set_some, Nat.reduceEqDiff, reduceIte, Nat.reduceLT, implies_true, forall_const, reduceCtorEq, V.ofValue, V.ofScalar, V.un, V.gd, aExec, aop, List.length_map, aLen, lenOK, row_mk, Blk.row, List.size_toArray, List.getD_eq_getElem?_getD, Array.getD_eq_getD_getElem?, Option.getD_some, Nat.reduceAdd, Nat.reduceLeDiff, Nat.reduceMul, Try.underlying3, Ty.c3, Ty.a3, Ty.b3, Ty.s3, Try.underlying9, Ty.c9, Ty.a9, Ty.b9, Ty.s9]
      repeat (refine And.intro (by first | omega | (intros; omega) | (intros; simp_all; done) | (intros; simp_all; omega)) ?_)
      refine k _ ?_; clear k K
      -- 44 := call v f29 t43 c<1:i64> c<6:i64> | 3 3 3
      refine v_op ?_; intro K k
      simp only [zE, zM, aStepM, optable, set_some, Nat.reduceEqDiff, reduceIte, Nat.reduceLT, implies_true, forall_const, reduceCtorEq, V.ofValue, V.ofScalar, V.un, V.gd, aExec, lentIds, lendOf, Try.underlying3, Ty.c3, Ty.a3, Ty.b3, Ty.s3, Try.underlying4, Ty.c4, Ty.a4, Ty.b4, Ty.s4]
      repeat (refine And.intro (by first | rfl | (intros; simp_all; done)) ?_)
      refine aCall_new (l1In_con _ _ _) (by first | rfl | (simp only [toArgs, toArg, toCell, toCells, idx, row_mk, List.getElem?_cons_zero, List.getElem?_cons_succ, Option.bind_some, Option.map_some, Blk.row, fillK_mix, flat_mix, deep_mix, cond_true]; done) | (simp [toArgs, toArg, toCell, toCells, idx, row_mk, Blk.row, fillK_mix, Nat.beq_refl]; done)) (by first | exact .inl ⟨rfl, by simp [Blk.kindIs, fillK_fd]⟩ | exact .inr (by simp [V.cold])) ?_
      refine k _ ?_; clear k K
      simp only [zY, zW, set_some, Nat.reduceEqDiff, reduceIte, V.ren, V.renL, rho, Nat.reduceAdd]
      -- 2 := assign t44
      refine v_op ?_; intro K k
      simp only [zE, zS, aStepM, optable, set_some, Nat.reduceEqDiff, reduceIte, Nat.reduceLT, implies_true, forall_const, reduceCtorEq, V.ofValue, V.ofScalar, V.un, V.gd, aExec, aop, Nat.reduceAdd]
      repeat (refine And.intro (by first | omega | (intros; omega) | (intros; simp_all; done) | (intros; simp_all; omega)) ?_)
      refine k _ ?_; clear k K
      refine k25 _ ?_
      refine n24 _ _ (weak_keep [2] _) ?_
      simp only [keep_mk, keepE_nil, keepE_cons, look_cons, look_nil, Nat.reduceEqDiff, reduceIte]
      refine v_ret ?_
      refine r0 _ ?_
      simp only [resK, pickRV, get_mk, look_cons, look_nil, Nat.reduceEqDiff, reduceIte, List.map_cons, List.map_nil]
      exact ret_pure rfl (by rw [name_good (by omega) hR]) (.inl rfl)
-- loop.example/g01020/impl.isName
set_option maxHeartbeats 1000000 in
theorem isName_con (s : ByteArray) (hs : s.size ≤ 9223372036854775807) : Con Try.prog 60 [.str s] [] (.bool (nameB s)) [] := by
  refine v_con [.tmp 2] [] Try.func60 rfl rfl rfl (by simp [Try.ntmps60]) ?_
  intro Q0 n0 r0
  simp only [Try.ntmps60, envFrom, Nat.reduceAdd]
  refine v_seq ?_; intro Q1 n1 e1 r1  -- SEQ 0
  refine v_region ?_; intro K2 k2
  -- 2 := assign c<false>
  refine v_op ?_; intro K k
  simp only [zE, zS, aStepM, optable, set_some, Nat.reduceEqDiff, reduceIte, Nat.reduceLT, implies_true, forall_const, reduceCtorEq, V.ofValue, V.ofScalar, V.un, V.gd, aExec, aop, Nat.reduceAdd]
  repeat (refine And.intro (by first | omega | (intros; omega) | (intros; simp_all; done) | (intros; simp_all; omega)) ?_)
  refine k _ ?_; clear k K
  refine k2 _ ?_
  refine n1 _ _ (weak_keep [0] _) ?_
  simp only [keep_mk, keepE_nil, keepE_cons, look_cons, look_nil, Nat.reduceEqDiff, reduceIte]
  refine v_seq ?_; intro Q3 n3 e3 r3  -- SEQ 1
  refine v_seq ?_; intro Q4 n4 e4 r4  -- SEQ 2
  refine v_region ?_; intro K5 k5
  -- 6 := move t0
  refine v_op ?_; intro K k
  simp only [zE, aStepM, optable, set_some, Nat.reduceEqDiff, reduceIte, Nat.reduceLT, implies_true, forall_const, reduceCtorEq, V.ofValue, V.ofScalar, V.un, V.gd, aExec, aop]
  repeat (refine And.intro (by first | omega | (intros; omega) | (intros; simp_all; done) | (intros; simp_all; omega)) ?_)
  refine k _ ?_; clear k K
  -- 7 := call b Go.Builtin.len t6 | 9
  refine v_op ?_; intro K k
  simp only [zE, zL, zN, aStepM, optable, set_some, Nat.reduceEqDiff, reduceIte, Nat.reduceLT, implies_true, forall_const, reduceCtorEq, V.ofValue, V.ofScalar, V.un, V.gd, aExec, aop, List.length_map, aLen, lenOK, row_mk, Blk.row, List.size_toArray, List.getD_eq_getElem?_getD, Array.getD_eq_getD_getElem?, Option.getD_some, Nat.reduceAdd, Nat.reduceLeDiff, Nat.reduceMul, Try.underlying3, Ty.c3, Ty.a3, Ty.b3, Ty.s3, Try.underlying9, Ty.c9, Ty.a9, Ty.b9, Ty.s9]
  repeat (refine And.intro (by first | omega | (intros; omega) | (intros; simp_all; done) | (intros; simp_all; omega)) ?_)
  refine k _ ?_; clear k K
  -- 8 := move c<0:i64>
  refine v_op ?_; intro K k
  simp only [zE, aStepM, optable, set_some, Nat.reduceEqDiff, reduceIte, Nat.reduceLT, implies_true, forall_const, reduceCtorEq, V.ofValue, V.ofScalar, V.un, V.gd, aExec, aop]
  repeat (refine And.intro (by first | omega | (intros; omega) | (intros; simp_all; done) | (intros; simp_all; omega)) ?_)
  refine k _ ?_; clear k K
  refine k5 _ ?_
  refine n4 _ _ (weak_keep [0, 7, 8] _) ?_
  simp only [keep_mk, keepE_nil, keepE_cons, look_cons, look_nil, Nat.reduceEqDiff, reduceIte]
  refine v_block ?_; intro Q6 n6 x6 e6 r6
  refine v_loop (fun i => ⟨[(0, .str s), (7, .int .i64 s.size), (8, .int .i64 (Nat.cast i))], [], false, 45, 0⟩) (fun i => i ≤ s.size ∧ ∀ j, j < i → okAt s j = true) (fun i => s.size - i) 0 ?_ ?_ ?_
  · refine weak_of [0, 7, 8] ?_
    simp only [keep_mk, keepE_nil, keepE_cons, look_cons, look_nil, Nat.reduceEqDiff, reduceIte]
    rfl
  · exact ⟨Nat.zero_le _, fun j h => absurd h (Nat.not_lt_zero _)⟩
  · rintro i hok7 Q7 n7 e7 r7
    obtain ⟨hi1, hR⟩ := hok7
    refine v_seq ?_; intro Q8 n8 e8 r8  -- SEQ 3
    refine v_region ?_; intro K9 k9
    -- 9 := binOp Go.BinOp.lss 3 t8 t7 3
    refine v_op ?_; intro K k
    simp only [zE, aStepM, optable, set_some, Nat.reduceEqDiff, reduceIte, Nat.reduceLT, implies_true, forall_const, reduceCtorEq, V.ofValue, V.ofScalar, V.un, V.gd, aExec, aop, aBin, Try.underlying3]
    repeat (refine And.intro (by first | omega | (intros; omega) | (intros; simp_all; done) | (intros; simp_all; omega)) ?_)
    refine k _ ?_; clear k K
    refine k9 _ ?_
    refine n8 _ _ (weak_keep [0, 7, 8, 9] _) ?_
    simp only [keep_mk, keepE_nil, keepE_cons, look_cons, look_nil, Nat.reduceEqDiff, reduceIte]
    refine v_seq ?_; intro Q10 n10 e10 r10  -- SEQ 4
    refine v_cond _ rfl ?_ ?_  -- COND 0
    · intro hc0
      try simp only [zC, reduceCtorEq] at hc0
      have hlt : i < s.size := by omega
      refine v_skip ?_
      refine n10 _ _ (weak_keep [0, 7, 8] _) ?_
      simp only [keep_mk, keepE_nil, keepE_cons, look_cons, look_nil, Nat.reduceEqDiff, reduceIte]
      refine v_seq ?_; intro Q12 n12 e12 r12  -- SEQ 5
      refine v_block ?_; intro Q13 n13 x13 e13 r13
      refine v_seq ?_; intro Q14 n14 e14 r14  -- SEQ 6
      refine v_region ?_; intro K15 k15
      -- 10 := move t8
      refine v_op ?_; intro K k
      simp only [zE, aStepM, optable, set_some, Nat.reduceEqDiff, reduceIte, Nat.reduceLT, implies_true, forall_const, reduceCtorEq, V.ofValue, V.ofScalar, V.un, V.gd, aExec, aop]
      repeat (refine And.intro (by first | omega | (intros; omega) | (intros; simp_all; done) | (intros; simp_all; omega)) ?_)
      refine k _ ?_; clear k K
      -- 3 := assign t10
      refine v_op ?_; intro K k
      simp only [zE, zS, aStepM, optable, set_some, Nat.reduceEqDiff, reduceIte, Nat.reduceLT, implies_true, forall_const, reduceCtorEq, V.ofValue, V.ofScalar, V.un, V.gd, aExec, aop, Nat.reduceAdd]
      repeat (refine And.intro (by first | omega | (intros; omega) | (intros; simp_all; done) | (intros; simp_all; omega)) ?_)
      refine k _ ?_; clear k K
      refine k15 _ ?_
      refine n14 _ _ (weak_keep [0, 3, 7, 8] _) ?_
      simp only [keep_mk, keepE_nil, keepE_cons, look_cons, look_nil, Nat.reduceEqDiff, reduceIte]
      refine v_seq ?_; intro Q16 n16 e16 r16  -- SEQ 7
      refine v_draw (by kernel_rfl) ?_; intro K17 q17 k17
      show aAny _ _ _ _ 22 (Array.replicate 22 false) _
      -- 11 := move t0
      refine aAny_take q17 true 0 11 rfl rfl (by kernel_rfl) (by kernel_rfl) ?_
      apply Exists.intro; apply And.intro
      · intro t hn gx ho K' k'
        have g0 := gx 0 (by decide)
        simp only [get_mk, look_cons, look_nil, set_some, Nat.reduceEqDiff, reduceIte] at g0
        have hdl : 11 < t.n := by rw [hn]; show 11 < 45; decide
        clear hn
        refine .inl ?_
        simp only [zE, hdl, aStepM, optable, Nat.reduceEqDiff, reduceIte, implies_true, forall_const, reduceCtorEq, V.ofValue, V.ofScalar, V.un, V.gd, aExec, aop, g0]
        repeat (refine And.intro (by first | omega | (intros; omega) | (intros; simp_all; done) | (intros; simp_all; omega)) ?_)
        exact k'
      simp only [set_some]
      -- 12 := move t3
      refine aAny_take q17 true 1 12 rfl rfl (by kernel_rfl) (by kernel_rfl) ?_
      apply Exists.intro; apply And.intro
      · intro t hn gx ho K' k'
        have g3 := gx 3 (by decide)
        simp only [get_mk, look_cons, look_nil, set_some, Nat.reduceEqDiff, reduceIte] at g3
        have hdl : 12 < t.n := by rw [hn]; show 12 < 45; decide
        clear hn
        refine .inl ?_
        simp only [zE, hdl, aStepM, optable, Nat.reduceEqDiff, reduceIte, implies_true, forall_const, reduceCtorEq, V.ofValue, V.ofScalar, V.un, V.gd, aExec, aop, g3]
        repeat (refine And.intro (by first | omega | (intros; omega) | (intros; simp_all; done) | (intros; simp_all; omega)) ?_)
        exact k'
      simp only [set_some]
      -- 13 := index 9 t11 t12
      refine aAny_take q17 true 2 13 rfl rfl (by kernel_rfl) (by kernel_rfl) ?_
      apply Exists.intro; apply And.intro
      · intro t hn gx ho K' k'
        have g11 := gx 11 (by decide)
        have g12 := gx 12 (by decide)
        simp only [get_mk, look_cons, look_nil, set_some, Nat.reduceEqDiff, reduceIte] at g11 g12
        have hdl : 13 < t.n := by rw [hn]; show 13 < 45; decide
        clear hn
        refine .inl ?_
        simp only [zE, hdl, aStepM, optable, Nat.reduceEqDiff, reduceIte, implies_true, forall_const, reduceCtorEq, V.ofValue, V.ofScalar, V.un, V.gd, aExec, aop, g11, g12, aIndex, Int.toNat_natCast, Try.underlying9]
        repeat (refine And.intro (by first | omega | (intros; omega) | (intros; simp_all; done) | (intros; simp_all; omega)) ?_)
        exact k'
      simp only [set_some]
      -- 14 := binOp Go.BinOp.geq 5 t13 c<97:u8> 5
      refine aAny_take q17 true 3 14 rfl rfl (by kernel_rfl) (by kernel_rfl) ?_
      apply Exists.intro; apply And.intro
      · intro t hn gx ho K' k'
        have g13 := gx 13 (by decide)
        simp only [get_mk, look_cons, look_nil, set_some, Nat.reduceEqDiff, reduceIte] at g13
        have hdl : 14 < t.n := by rw [hn]; show 14 < 45; decide
        clear hn
        refine .inl ?_
        simp only [zE, hdl, aStepM, optable, Nat.reduceEqDiff, reduceIte, implies_true, forall_const, reduceCtorEq, V.ofValue, V.ofScalar, V.un, V.gd, aExec, aop, g13, aBin, Try.underlying5]
        repeat (refine And.intro (by first | omega | (intros; omega) | (intros; simp_all; done) | (intros; simp_all; omega)) ?_)
        exact k'
      simp only [set_some]
      -- 15 := move t14
      refine aAny_take q17 true 4 15 rfl rfl (by kernel_rfl) (by kernel_rfl) ?_
      apply Exists.intro; apply And.intro
      · intro t hn gx ho K' k'
        have g14 := gx 14 (by decide)
        simp only [get_mk, look_cons, look_nil, set_some, Nat.reduceEqDiff, reduceIte] at g14
        have hdl : 15 < t.n := by rw [hn]; show 15 < 45; decide
        clear hn
        refine .inl ?_
        simp only [zE, hdl, aStepM, optable, Nat.reduceEqDiff, reduceIte, implies_true, forall_const, reduceCtorEq, V.ofValue, V.ofScalar, V.un, V.gd, aExec, aop, g14]
        repeat (refine And.intro (by first | omega | (intros; omega) | (intros; simp_all; done) | (intros; simp_all; omega)) ?_)
        exact k'
      simp only [set_some]
      -- 16 := move t0
      refine aAny_take q17 true 5 16 rfl rfl (by kernel_rfl) (by kernel_rfl) ?_
      apply Exists.intro; apply And.intro
      · intro t hn gx ho K' k'
        have g0 := gx 0 (by decide)
        have g15 := gx 15 (by decide)
        simp only [get_mk, look_cons, look_nil, set_some, Nat.reduceEqDiff, reduceIte] at g0 g15
        have hdl : 16 < t.n := by rw [hn]; show 16 < 45; decide
        clear hn
        first
        | refine .inr ⟨hdl, 4, true, rfl, ?_, k'⟩
          first | rfl | (simp only [zV, guardV, Nat.reduceEqDiff, reduceIte, g0, g15]; done)
        | skip
          refine .inl ?_
          simp only [zE, zG, hdl, aStepM, optable, Nat.reduceEqDiff, reduceIte, implies_true, forall_const, reduceCtorEq, V.ofValue, V.ofScalar, V.un, V.gd, guardV, V.wrap, aExec, aop, g0, g15]
          repeat (refine And.intro (by first | omega | (intros; omega) | (intros; simp_all; done) | (intros; simp_all; omega)) ?_)
          exact k'
      simp only [set_some]
      -- 17 := move t3
      refine aAny_take q17 true 6 17 rfl rfl (by kernel_rfl) (by kernel_rfl) ?_
      apply Exists.intro; apply And.intro
      · intro t hn gx ho K' k'
        have g3 := gx 3 (by decide)
        have g15 := gx 15 (by decide)
        simp only [get_mk, look_cons, look_nil, set_some, Nat.reduceEqDiff, reduceIte] at g3 g15
        have hdl : 17 < t.n := by rw [hn]; show 17 < 45; decide
        clear hn
        first
        | refine .inr ⟨hdl, 4, true, rfl, ?_, k'⟩
          first | rfl | (simp only [zV, guardV, Nat.reduceEqDiff, reduceIte, g3, g15]; done)
        | skip
          refine .inl ?_
          simp only [zE, zG, hdl, aStepM, optable, Nat.reduceEqDiff, reduceIte, implies_true, forall_const, reduceCtorEq, V.ofValue, V.ofScalar, V.un, V.gd, guardV, V.wrap, aExec, aop, g3, g15]
          repeat (refine And.intro (by first | omega | (intros; omega) | (intros; simp_all; done) | (intros; simp_all; omega)) ?_)
          exact k'
      simp only [set_some]
      -- 18 := index 9 t16 t17
      refine aAny_take q17 true 7 18 rfl rfl (by kernel_rfl) (by kernel_rfl) ?_
      apply Exists.intro; apply And.intro
      · intro t hn gx ho K' k'
        have g15 := gx 15 (by decide)
        have g16 := gx 16 (by decide)
        have g17 := gx 17 (by decide)
        simp only [get_mk, look_cons, look_nil, set_some, Nat.reduceEqDiff, reduceIte] at g15 g16 g17
        have hdl : 18 < t.n := by rw [hn]; show 18 < 45; decide
        clear hn
        first
        | refine .inr ⟨hdl, 4, true, rfl, ?_, k'⟩
          first | rfl | (simp only [zV, guardV, Nat.reduceEqDiff, reduceIte, g15, g16, g17]; done)
        | skip
          refine .inl ?_
          simp only [zE, zG, hdl, aStepM, optable, Nat.reduceEqDiff, reduceIte, implies_true, forall_const, reduceCtorEq, V.ofValue, V.ofScalar, V.un, V.gd, guardV, V.wrap, aExec, aop, g15, g16, g17, aIndex, Int.toNat_natCast, Try.underlying9]
          repeat (refine And.intro (by first | omega | (intros; omega) | (intros; simp_all; done) | (intros; simp_all; omega)) ?_)
          exact k'
      simp only [set_some]
      -- 19 := binOp Go.BinOp.leq 5 t18 c<122:u8> 5
      refine aAny_take q17 true 8 19 rfl rfl (by kernel_rfl) (by kernel_rfl) ?_
      apply Exists.intro; apply And.intro
      · intro t hn gx ho K' k'
        have g15 := gx 15 (by decide)
        have g18 := gx 18 (by decide)
        simp only [get_mk, look_cons, look_nil, set_some, Nat.reduceEqDiff, reduceIte] at g15 g18
        have hdl : 19 < t.n := by rw [hn]; show 19 < 45; decide
        clear hn
        first
        | refine .inr ⟨hdl, 4, true, rfl, ?_, k'⟩
          first | rfl | (simp only [zV, guardV, Nat.reduceEqDiff, reduceIte, g15, g18]; done)
        | skip
          refine .inl ?_
          simp only [zE, zG, hdl, aStepM, optable, Nat.reduceEqDiff, reduceIte, implies_true, forall_const, reduceCtorEq, V.ofValue, V.ofScalar, V.un, V.gd, guardV, V.wrap, aExec, aop, g15, g18, aBin, Try.underlying5]
          repeat (refine And.intro (by first | omega | (intros; omega) | (intros; simp_all; done) | (intros; simp_all; omega)) ?_)
          exact k'
      simp only [set_some]
      -- 20 := pick t15 t19 c<false>
      refine aAny_take q17 true 9 20 rfl rfl (by kernel_rfl) (by kernel_rfl) ?_
      apply Exists.intro; apply And.intro
      · intro t hn gx ho K' k'
        have g15 := gx 15 (by decide)
        have g19 := gx 19 (by decide)
        simp only [get_mk, look_cons, look_nil, set_some, Nat.reduceEqDiff, reduceIte] at g15 g19
        have hdl : 20 < t.n := by rw [hn]; show 20 < 45; decide
        clear hn
        refine .inl ?_
        simp only [zE, zP, hdl, aStepM, optable, Nat.reduceEqDiff, reduceIte, implies_true, forall_const, reduceCtorEq, V.ofValue, V.ofScalar, V.un, V.gd, aExec, aop, g15, g19, pickV]
        repeat (refine And.intro (by first | omega | (intros; omega) | (intros; simp_all; done) | (intros; simp_all; omega)) ?_)
        exact k'
      simp only [set_some]
      -- 21 := move t0
      refine aAny_take q17 true 10 21 rfl rfl (by kernel_rfl) (by kernel_rfl) ?_
      apply Exists.intro; apply And.intro
      · intro t hn gx ho K' k'
        have g0 := gx 0 (by decide)
        simp only [get_mk, look_cons, look_nil, set_some, Nat.reduceEqDiff, reduceIte] at g0
        have hdl : 21 < t.n := by rw [hn]; show 21 < 45; decide
        clear hn
        refine .inl ?_
        simp only [zE, hdl, aStepM, optable, Nat.reduceEqDiff, reduceIte, implies_true, forall_const, reduceCtorEq, V.ofValue, V.ofScalar, V.un, V.gd, aExec, aop, g0]
        repeat (refine And.intro (by first | omega | (intros; omega) | (intros; simp_all; done) | (intros; simp_all; omega)) ?_)
        exact k'
      simp only [set_some]
      -- 22 := move t3
      refine aAny_take q17 true 11 22 rfl rfl (by kernel_rfl) (by kernel_rfl) ?_
      apply Exists.intro; apply And.intro
      · intro t hn gx ho K' k'
        have g3 := gx 3 (by decide)
        simp only [get_mk, look_cons, look_nil, set_some, Nat.reduceEqDiff, reduceIte] at g3
        have hdl : 22 < t.n := by rw [hn]; show 22 < 45; decide
        clear hn
        refine .inl ?_
        simp only [zE, hdl, aStepM, optable, Nat.reduceEqDiff, reduceIte, implies_true, forall_const, reduceCtorEq, V.ofValue, V.ofScalar, V.un, V.gd, aExec, aop, g3]
        repeat (refine And.intro (by first | omega | (intros; omega) | (intros; simp_all; done) | (intros; simp_all; omega)) ?_)
        exact k'
      simp only [set_some]
      -- 23 := index 9 t21 t22
      refine aAny_take q17 true 12 23 rfl rfl (by kernel_rfl) (by kernel_rfl) ?_
      apply Exists.intro; apply And.intro
      · intro t hn gx ho K' k'
        have g21 := gx 21 (by decide)
        have g22 := gx 22 (by decide)
        simp only [get_mk, look_cons, look_nil, set_some, Nat.reduceEqDiff, reduceIte] at g21 g22
        have hdl : 23 < t.n := by rw [hn]; show 23 < 45; decide
        clear hn
        refine .inl ?_
        simp only [zE, hdl, aStepM, optable, Nat.reduceEqDiff, reduceIte, implies_true, forall_const, reduceCtorEq, V.ofValue, V.ofScalar, V.un, V.gd, aExec, aop, g21, g22, aIndex, Int.toNat_natCast, Try.underlying9]
        repeat (refine And.intro (by first | omega | (intros; omega) | (intros; simp_all; done) | (intros; simp_all; omega)) ?_)
        exact k'
      simp only [set_some]
      -- 24 := binOp Go.BinOp.geq 5 t23 c<48:u8> 5
      refine aAny_take q17 true 13 24 rfl rfl (by kernel_rfl) (by kernel_rfl) ?_
      apply Exists.intro; apply And.intro
      · intro t hn gx ho K' k'
        have g23 := gx 23 (by decide)
        simp only [get_mk, look_cons, look_nil, set_some, Nat.reduceEqDiff, reduceIte] at g23
        have hdl : 24 < t.n := by rw [hn]; show 24 < 45; decide
        clear hn
        refine .inl ?_
        simp only [zE, hdl, aStepM, optable, Nat.reduceEqDiff, reduceIte, implies_true, forall_const, reduceCtorEq, V.ofValue, V.ofScalar, V.un, V.gd, aExec, aop, g23, aBin, Try.underlying5]
        repeat (refine And.intro (by first | omega | (intros; omega) | (intros; simp_all; done) | (intros; simp_all; omega)) ?_)
        exact k'
      simp only [set_some]
      -- 25 := move t24
      refine aAny_take q17 true 14 25 rfl rfl (by kernel_rfl) (by kernel_rfl) ?_
      apply Exists.intro; apply And.intro
      · intro t hn gx ho K' k'
        have g24 := gx 24 (by decide)
        simp only [get_mk, look_cons, look_nil, set_some, Nat.reduceEqDiff, reduceIte] at g24
        have hdl : 25 < t.n := by rw [hn]; show 25 < 45; decide
        clear hn
        refine .inl ?_
        simp only [zE, hdl, aStepM, optable, Nat.reduceEqDiff, reduceIte, implies_true, forall_const, reduceCtorEq, V.ofValue, V.ofScalar, V.un, V.gd, aExec, aop, g24]
        repeat (refine And.intro (by first | omega | (intros; omega) | (intros; simp_all; done) | (intros; simp_all; omega)) ?_)
        exact k'
      simp only [set_some]
      -- 26 := move t0
      refine aAny_take q17 true 15 26 rfl rfl (by kernel_rfl) (by kernel_rfl) ?_
      apply Exists.intro; apply And.intro
      · intro t hn gx ho K' k'
        have g0 := gx 0 (by decide)
        have g25 := gx 25 (by decide)
        simp only [get_mk, look_cons, look_nil, set_some, Nat.reduceEqDiff, reduceIte] at g0 g25
        have hdl : 26 < t.n := by rw [hn]; show 26 < 45; decide
        clear hn
        first
        | refine .inr ⟨hdl, 14, true, rfl, ?_, k'⟩
          first | rfl | (simp only [zV, guardV, Nat.reduceEqDiff, reduceIte, g0, g25]; done)
        | skip
          refine .inl ?_
          simp only [zE, zG, hdl, aStepM, optable, Nat.reduceEqDiff, reduceIte, implies_true, forall_const, reduceCtorEq, V.ofValue, V.ofScalar, V.un, V.gd, guardV, V.wrap, aExec, aop, g0, g25]
          repeat (refine And.intro (by first | omega | (intros; omega) | (intros; simp_all; done) | (intros; simp_all; omega)) ?_)
          exact k'
      simp only [set_some]
      -- 27 := move t3
      refine aAny_take q17 true 16 27 rfl rfl (by kernel_rfl) (by kernel_rfl) ?_
      apply Exists.intro; apply And.intro
      · intro t hn gx ho K' k'
        have g3 := gx 3 (by decide)
        have g25 := gx 25 (by decide)
        simp only [get_mk, look_cons, look_nil, set_some, Nat.reduceEqDiff, reduceIte] at g3 g25
        have hdl : 27 < t.n := by rw [hn]; show 27 < 45; decide
        clear hn
        first
        | refine .inr ⟨hdl, 14, true, rfl, ?_, k'⟩
          first | rfl | (simp only [zV, guardV, Nat.reduceEqDiff, reduceIte, g3, g25]; done)
        | skip
          refine .inl ?_
          simp only [zE, zG, hdl, aStepM, optable, Nat.reduceEqDiff, reduceIte, implies_true, forall_const, reduceCtorEq, V.ofValue, V.ofScalar, V.un, V.gd, guardV, V.wrap, aExec, aop, g3, g25]
          repeat (refine And.intro (by first | omega | (intros; omega) | (intros; simp_all; done) | (intros; simp_all; omega)) ?_)
          exact k'
      simp only [set_some]
      -- 28 := index 9 t26 t27
      refine aAny_take q17 true 17 28 rfl rfl (by kernel_rfl) (by kernel_rfl) ?_
      apply Exists.intro; apply And.intro
      · intro t hn gx ho K' k'
        have g25 := gx 25 (by decide)
        have g26 := gx 26 (by decide)
        have g27 := gx 27 (by decide)
        simp only [get_mk, look_cons, look_nil, set_some, Nat.reduceEqDiff, reduceIte] at g25 g26 g27
        have hdl : 28 < t.n := by rw [hn]; show 28 < 45; decide
        clear hn
        first
        | refine .inr ⟨hdl, 14, true, rfl, ?_, k'⟩
          first | rfl | (simp only [zV, guardV, Nat.reduceEqDiff, reduceIte, g25, g26, g27]; done)
        | skip
          refine .inl ?_
          simp only [zE, zG, hdl, aStepM, optable, Nat.reduceEqDiff, reduceIte, implies_true, forall_const, reduceCtorEq, V.ofValue, V.ofScalar, V.un, V.gd, guardV, V.wrap, aExec, aop, g25, g26, g27, aIndex, Int.toNat_natCast, Try.underlying9]
          repeat (refine And.intro (by first | omega | (intros; omega) | (intros; simp_all; done) | (intros; simp_all; omega)) ?_)
          exact k'
      simp only [set_some]
      -- 29 := binOp Go.BinOp.leq 5 t28 c<57:u8> 5
      refine aAny_take q17 true 18 29 rfl rfl (by kernel_rfl) (by kernel_rfl) ?_
      apply Exists.intro; apply And.intro
      · intro t hn gx ho K' k'
        have g25 := gx 25 (by decide)
        have g28 := gx 28 (by decide)
        simp only [get_mk, look_cons, look_nil, set_some, Nat.reduceEqDiff, reduceIte] at g25 g28
        have hdl : 29 < t.n := by rw [hn]; show 29 < 45; decide
        clear hn
        first
        | refine .inr ⟨hdl, 14, true, rfl, ?_, k'⟩
          first | rfl | (simp only [zV, guardV, Nat.reduceEqDiff, reduceIte, g25, g28]; done)
        | skip
          refine .inl ?_
          simp only [zE, zG, hdl, aStepM, optable, Nat.reduceEqDiff, reduceIte, implies_true, forall_const, reduceCtorEq, V.ofValue, V.ofScalar, V.un, V.gd, guardV, V.wrap, aExec, aop, g25, g28, aBin, Try.underlying5]
          repeat (refine And.intro (by first | omega | (intros; omega) | (intros; simp_all; done) | (intros; simp_all; omega)) ?_)
          exact k'
      simp only [set_some]
      -- 30 := pick t25 t29 c<false>
      refine aAny_take q17 true 19 30 rfl rfl (by kernel_rfl) (by kernel_rfl) ?_
      apply Exists.intro; apply And.intro
      · intro t hn gx ho K' k'
        have g25 := gx 25 (by decide)
        have g29 := gx 29 (by decide)
        simp only [get_mk, look_cons, look_nil, set_some, Nat.reduceEqDiff, reduceIte] at g25 g29
        have hdl : 30 < t.n := by rw [hn]; show 30 < 45; decide
        clear hn
        refine .inl ?_
        simp only [zE, zP, hdl, aStepM, optable, Nat.reduceEqDiff, reduceIte, implies_true, forall_const, reduceCtorEq, V.ofValue, V.ofScalar, V.un, V.gd, aExec, aop, g25, g29, pickV]
        repeat (refine And.intro (by first | omega | (intros; omega) | (intros; simp_all; done) | (intros; simp_all; omega)) ?_)
        exact k'
      simp only [set_some]
      -- 4 := assign t20
      refine aAny_only 20 rfl (by kernel_rfl) ?_; intro K k
      simp only [zE, zS, aStepM, optable, set_some, Nat.reduceEqDiff, reduceIte, Nat.reduceLT, implies_true, forall_const, reduceCtorEq, V.ofValue, V.ofScalar, V.un, V.gd, aExec, aop, Nat.reduceAdd]
      repeat (refine And.intro (by first | omega | (intros; omega) | (intros; simp_all; done) | (intros; simp_all; omega)) ?_)
      refine k _ ?_; clear k K
      -- 5 := assign t30
      refine aAny_only 21 rfl (by kernel_rfl) ?_; intro K k
      simp only [zE, zS, aStepM, optable, set_some, Nat.reduceEqDiff, reduceIte, Nat.reduceLT, implies_true, forall_const, reduceCtorEq, V.ofValue, V.ofScalar, V.un, V.gd, aExec, aop, Nat.reduceAdd]
      repeat (refine And.intro (by first | omega | (intros; omega) | (intros; simp_all; done) | (intros; simp_all; omega)) ?_)
      refine k _ ?_; clear k K
      refine aAny_done (by kernel_rfl) ?_
      refine k17 _ ?_
      refine n16 _ _ (weak_keep [0, 3, 4, 5, 7, 8] _) ?_
      simp only [keep_mk, keepE_nil, keepE_cons, look_cons, look_nil, Nat.reduceEqDiff, reduceIte]
      refine v_seq ?_; intro Q18 n18 e18 r18  -- SEQ 8
      refine v_region ?_; intro K19 k19
      -- 31 := move t4
      refine v_op ?_; intro K k
      simp only [zE, aStepM, optable, set_some, Nat.reduceEqDiff, reduceIte, Nat.reduceLT, implies_true, forall_const, reduceCtorEq, V.ofValue, V.ofScalar, V.un, V.gd, aExec, aop]
      repeat (refine And.intro (by first | omega | (intros; omega) | (intros; simp_all; done) | (intros; simp_all; omega)) ?_)
      refine k _ ?_; clear k K
      -- 32 := unOp Go.UnOp.not 4 t31
      refine v_op ?_; intro K k
      simp only [zE, aStepM, optable, set_some, Nat.reduceEqDiff, reduceIte, Nat.reduceLT, implies_true, forall_const, reduceCtorEq, V.ofValue, V.ofScalar, V.un, V.gd, aExec, aop, aUn, Try.underlying4]
      repeat (refine And.intro (by first | omega | (intros; omega) | (intros; simp_all; done) | (intros; simp_all; omega)) ?_)
      refine k _ ?_; clear k K
      -- 33 := move t32
      refine v_op ?_; intro K k
      simp only [zE, aStepM, optable, set_some, Nat.reduceEqDiff, reduceIte, Nat.reduceLT, implies_true, forall_const, reduceCtorEq, V.ofValue, V.ofScalar, V.un, V.gd, aExec, aop]
      repeat (refine And.intro (by first | omega | (intros; omega) | (intros; simp_all; done) | (intros; simp_all; omega)) ?_)
      refine k _ ?_; clear k K
      -- 34 := move t5
      first
      | refine v_pass 34 2 true rfl (show 34 < 45 by decide) rfl ?_ ?_
        · first | rfl | (simp only [zV, guardV, Nat.reduceEqDiff, reduceIte]; done)
        simp only [zW, set_some, Nat.reduceEqDiff, reduceIte]
      | skip
        -- 34 := move t5
        refine v_op ?_; intro K k
        simp only [zE, zG, aStepM, optable, set_some, Nat.reduceEqDiff, reduceIte, Nat.reduceLT, implies_true, forall_const, reduceCtorEq, V.ofValue, V.ofScalar, V.un, V.gd, guardV, V.wrap, aExec, aop]
        repeat (refine And.intro (by first | omega | (intros; omega) | (intros; simp_all; done) | (intros; simp_all; omega)) ?_)
        refine k _ ?_; clear k K
      -- 35 := unOp Go.UnOp.not 4 t34
      first
      | refine v_pass 35 2 true rfl (show 35 < 45 by decide) rfl ?_ ?_
        · first | rfl | (simp only [zV, guardV, Nat.reduceEqDiff, reduceIte]; done)
        simp only [zW, set_some, Nat.reduceEqDiff, reduceIte]
      | skip
        -- 35 := unOp Go.UnOp.not 4 t34
        refine v_op ?_; intro K k
        simp only [zE, zG, aStepM, optable, set_some, Nat.reduceEqDiff, reduceIte, Nat.reduceLT, implies_true, forall_const, reduceCtorEq, V.ofValue, V.ofScalar, V.un, V.gd, guardV, V.wrap, aExec, aop, aUn, Try.underlying4]
        repeat (refine And.intro (by first | omega | (intros; omega) | (intros; simp_all; done) | (intros; simp_all; omega)) ?_)
        refine k _ ?_; clear k K
      -- 36 := move t35
      first
      | refine v_pass 36 2 true rfl (show 36 < 45 by decide) rfl ?_ ?_
        · first | rfl | (simp only [zV, guardV, Nat.reduceEqDiff, reduceIte]; done)
        simp only [zW, set_some, Nat.reduceEqDiff, reduceIte]
      | skip
        -- 36 := move t35
        refine v_op ?_; intro K k
        simp only [zE, zG, aStepM, optable, set_some, Nat.reduceEqDiff, reduceIte, Nat.reduceLT, implies_true, forall_const, reduceCtorEq, V.ofValue, V.ofScalar, V.un, V.gd, guardV, V.wrap, aExec, aop]
        repeat (refine And.intro (by first | omega | (intros; omega) | (intros; simp_all; done) | (intros; simp_all; omega)) ?_)
        refine k _ ?_; clear k K
      -- 37 := move t3
      first
      | refine v_pass 37 5 false rfl (show 37 < 45 by decide) rfl ?_ ?_
        · first | rfl | (simp only [zV, guardV, Nat.reduceEqDiff, reduceIte]; done)
        simp only [zW, set_some, Nat.reduceEqDiff, reduceIte]
      | skip
        -- 37 := move t3
        refine v_op ?_; intro K k
        simp only [zE, zG, aStepM, optable, set_some, Nat.reduceEqDiff, reduceIte, Nat.reduceLT, implies_true, forall_const, reduceCtorEq, V.ofValue, V.ofScalar, V.un, V.gd, guardV, V.wrap, aExec, aop]
        repeat (refine And.intro (by first | omega | (intros; omega) | (intros; simp_all; done) | (intros; simp_all; omega)) ?_)
        refine k _ ?_; clear k K
      -- 38 := binOp Go.BinOp.eql 3 t37 c<0:i64> 3
      first
      | refine v_pass 38 5 false rfl (show 38 < 45 by decide) rfl ?_ ?_
        · first | rfl | (simp only [zV, guardV, Nat.reduceEqDiff, reduceIte]; done)
        simp only [zW, set_some, Nat.reduceEqDiff, reduceIte]
      | skip
        -- 38 := binOp Go.BinOp.eql 3 t37 c<0:i64> 3
        refine v_op ?_; intro K k
        simp only [zE, zG, aStepM, optable, set_some, Nat.reduceEqDiff, reduceIte, Nat.reduceLT, implies_true, forall_const, reduceCtorEq, V.ofValue, V.ofScalar, V.un, V.gd, guardV, V.wrap, aExec, aop, aBin, Try.underlying3]
        repeat (refine And.intro (by first | omega | (intros; omega) | (intros; simp_all; done) | (intros; simp_all; omega)) ?_)
        refine k _ ?_; clear k K
      -- 39 := pick t36 c<true> t38
      first
      | refine v_pass 39 2 true rfl (show 39 < 45 by decide) rfl ?_ ?_
        · first | rfl | (simp only [zV, guardV, Nat.reduceEqDiff, reduceIte]; done)
        simp only [zW, set_some, Nat.reduceEqDiff, reduceIte]
      | skip
        -- 39 := pick t36 c<true> t38
        refine v_op ?_; intro K k
        simp only [zE, zP, zG, aStepM, optable, set_some, Nat.reduceEqDiff, reduceIte, Nat.reduceLT, implies_true, forall_const, reduceCtorEq, V.ofValue, V.ofScalar, V.un, V.gd, guardV, V.wrap, aExec, aop, pickV]
        repeat (refine And.intro (by first | omega | (intros; omega) | (intros; simp_all; done) | (intros; simp_all; omega)) ?_)
        refine k _ ?_; clear k K
      -- 40 := pick t33 t39 c<false>
      refine v_op ?_; intro K k
      simp only [zE, zP, aStepM, optable, set_some, Nat.reduceEqDiff, reduceIte, Nat.reduceLT, implies_true, forall_const, reduceCtorEq, V.ofValue, V.ofScalar, V.un, V.gd, aExec, aop, pickV]
      repeat (refine And.intro (by first | omega | (intros; omega) | (intros; simp_all; done) | (intros; simp_all; omega)) ?_)
      refine k _ ?_; clear k K
      refine k19 _ ?_
      refine n18 _ _ (weak_keep [0, 7, 8, 40] _) ?_
      simp only [keep_mk, keepE_nil, keepE_cons, look_cons, look_nil, Nat.reduceEqDiff, reduceIte]
      refine v_cond _ rfl ?_ ?_  -- COND 1
      · intro hc1
        try simp only [zC, reduceCtorEq] at hc1
        have hbad : okAt s i = false := by simp only [okAt, Bool.or_eq_false_iff, Bool.and_eq_false_imp, decide_eq_true_eq, decide_eq_false_iff_not, Bool.not_eq_false', Bool.and_eq_true]; omega
        refine v_seq ?_; intro Q21 n21 e21 r21  -- SEQ 9
        refine v_region ?_; intro K22 k22
        -- 2 := assign c<false>
        refine v_op ?_; intro K k
        simp only [zE, zS, aStepM, optable, set_some, Nat.reduceEqDiff, reduceIte, Nat.reduceLT, implies_true, forall_const, reduceCtorEq, V.ofValue, V.ofScalar, V.un, V.gd, aExec, aop, Nat.reduceAdd]
        repeat (refine And.intro (by first | omega | (intros; omega) | (intros; simp_all; done) | (intros; simp_all; omega)) ?_)
        refine k _ ?_; clear k K
        refine k22 _ ?_
        refine n21 _ _ (weak_keep [2] _) ?_
        simp only [keep_mk, keepE_nil, keepE_cons, look_cons, look_nil, Nat.reduceEqDiff, reduceIte]
        refine v_ret ?_
        refine r13 _ ?_
        refine r12 _ ?_
        refine r7 _ ?_
        refine r6 _ ?_
        refine r3 _ ?_
        refine r0 _ ?_
        simp only [resK, pickRV, get_mk, look_cons, look_nil, Nat.reduceEqDiff, reduceIte, List.map_cons, List.map_nil]
        exact ret_pure rfl (by rw [name_bad hlt hbad]) (.inl rfl)
      · intro hc1
        try simp only [zC, reduceCtorEq] at hc1
        have hgood : okAt s i = true := by simp only [okAt, Bool.or_eq_true, Bool.and_eq_true, decide_eq_true_eq, Bool.not_eq_true', decide_eq_false_iff_not]; omega
        refine v_skip ?_
        refine n13 _ ?_
        refine n12 _ _ (weak_keep [0, 7, 8] _) ?_
        simp only [keep_mk, keepE_nil, keepE_cons, look_cons, look_nil, Nat.reduceEqDiff, reduceIte]
        refine v_region ?_; intro K23 k23
        -- 41 := binOp Go.BinOp.add 3 t8 c<1:i64> 3
        refine v_op ?_; intro K k
        simp only [zE, aStepM, optable, set_some, Nat.reduceEqDiff, reduceIte, Nat.reduceLT, implies_true, forall_const, reduceCtorEq, V.ofValue, V.ofScalar, V.un, V.gd, aExec, aop, aBin, Try.underlying3]
        try simp (disch := omega) only [wrap64]
        repeat (refine And.intro (by first | omega | (intros; omega) | (intros; simp_all; done) | (intros; simp_all; omega)) ?_)
        refine k _ ?_; clear k K
        -- 8 := move t41
        refine v_op ?_; intro K k
        simp only [zE, aStepM, optable, set_some, Nat.reduceEqDiff, reduceIte, Nat.reduceLT, implies_true, forall_const, reduceCtorEq, V.ofValue, V.ofScalar, V.un, V.gd, aExec, aop]
        repeat (refine And.intro (by first | omega | (intros; omega) | (intros; simp_all; done) | (intros; simp_all; omega)) ?_)
        refine k _ ?_; clear k K
        refine k23 _ ?_
        refine n7 _ (i + 1) ?_ ?_ ?_
        · refine weak_of [0, 7, 8] ?_
          simp only [keep_mk, keepE_nil, keepE_cons, look_cons, look_nil, Nat.reduceEqDiff, reduceIte]
          rfl
        · exact ⟨by omega, ok_step hR hgood⟩
        · show _ < _; omega
    · intro hc0
      try simp only [zC, reduceCtorEq] at hc0
      refine v_exit ?_
      refine e10 _ _ ?_
      refine e7 _ _ ?_
      refine x6 _ ?_
      refine n3 _ _ (weak_keep [0] _) ?_
      simp only [keep_mk, keepE_nil, keepE_cons, look_cons, look_nil, Nat.reduceEqDiff, reduceIte]
      refine v_seq ?_; intro Q24 n24 e24 r24  -- SEQ 10
      refine v_region ?_; intro K25 k25
      -- 42 := move t0
      refine v_op ?_; intro K k
      simp only [zE, aStepM, optable, set_some, Nat.reduceEqDiff, reduceIte, Nat.reduceLT, implies_true, forall_const, reduceCtorEq, V.ofValue, V.ofScalar, V.un, V.gd, aExec, aop]
      repeat (refine And.intro (by first | omega | (intros; omega) | (intros; simp_all; done) | (intros; simp_all; omega)) ?_)
      refine k _ ?_; clear k K
      -- 43 := call b Go.Builtin.len t42 | 9
      refine v_op ?_; intro K k
      simp only [zE, zL, zN, aStepM, optable, set_some, Nat.reduceEqDiff, reduceIte, Nat.reduceLT, implies_true, forall_const, reduceCtorEq, V.ofValue, V.ofScalar, V.un, V.gd, aExec, aop, List.length_map, aLen, lenOK, row_mk, Blk.row, List.size_toArray, List.getD_eq_getElem?_getD, Array.getD_eq_getD_getElem?, Option.getD_some, Nat.reduceAdd, Nat.reduceLeDiff, Nat.reduceMul, Try.underlying3, Ty.c3, Ty.a3, Ty.b3, Ty.s3, Try.underlying9, Ty.c9, Ty.a9, Ty.b9, Ty.s9]
      repeat (refine And.intro (by first | omega | (intros; omega) | (intros; simp_all; done) | (intros; simp_all; omega)) ?_)
      refine k _ ?_; clear k K
      -- 44 := call v f34 t43 c<1:i64> c<6:i64> | 3 3 3
      refine v_op ?_; intro K k
      simp only [zE, zM, aStepM, optable, set_some, Nat.reduceEqDiff, reduceIte, Nat.reduceLT, implies_true, forall_const, reduceCtorEq, V.ofValue, V.ofScalar, V.un, V.gd, aExec, lentIds, lendOf, Try.underlying3, Ty.c3, Ty.a3, Ty.b3, Ty.s3, Try.underlying4, Ty.c4, Ty.a4, Ty.b4, Ty.s4]
      repeat (refine And.intro (by first | rfl | (intros; simp_all; done)) ?_)
      refine aCall_new (inside_con _ _ _) (by first | rfl | (simp only [toArgs, toArg, toCell, toCells, idx, row_mk, List.getElem?_cons_zero, List.getElem?_cons_succ, Option.bind_some, Option.map_some, Blk.row, fillK_mix, flat_mix, deep_mix, cond_true]; done) | (simp [toArgs, toArg, toCell, toCells, idx, row_mk, Blk.row, fillK_mix, Nat.beq_refl]; done)) (by first | exact .inl ⟨rfl, by simp [Blk.kindIs, fillK_fd]⟩ | exact .inr (by simp [V.cold])) ?_
      refine k _ ?_; clear k K
      simp only [zY, zW, set_some, Nat.reduceEqDiff, reduceIte, V.ren, V.renL, rho, Nat.reduceAdd]
      -- 2 := assign t44
      refine v_op ?_; intro K k
      simp only [zE, zS, aStepM, optable, set_some, Nat.reduceEqDiff, reduceIte, Nat.reduceLT, implies_true, forall_const, reduceCtorEq, V.ofValue, V.ofScalar, V.un, V.gd, aExec, aop, Nat.reduceAdd]
      repeat (refine And.intro (by first | omega | (intros; omega) | (intros; simp_all; done) | (intros; simp_all; omega)) ?_)
      refine k _ ?_; clear k K
      refine k25 _ ?_
      refine n24 _ _ (weak_keep [2] _) ?_
      simp only [keep_mk, keepE_nil, keepE_cons, look_cons, look_nil, Nat.reduceEqDiff, reduceIte]
      refine v_ret ?_
      refine r0 _ ?_
      simp only [resK, pickRV, get_mk, look_cons, look_nil, Nat.reduceEqDiff, reduceIte, List.map_cons, List.map_nil]
      exact ret_pure rfl (by rw [name_good (by omega) hR]) (.inl rfl)
end Go.Proofs.Ytldnelkcmffiaaa
