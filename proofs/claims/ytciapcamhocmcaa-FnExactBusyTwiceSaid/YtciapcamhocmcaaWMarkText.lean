/- What functions compute (MarkText). No condition. -/
import Derived.Test.YtciapcamhocmcaaTy
import Derived.Test.YtciapcamhocmcaaVm21
set_option linter.unusedSimpArgs false
set_option linter.unusedVariables false
namespace Go.Proofs.Ytciapcamhocmcaa
open Go Go.Vm

def markD : Nat → Int → ByteArray → ByteArray
  | 0, _, out => out
  | m + 1, k, out => if 0 < k then markD m (k / 10) (strOf [IntKind.u8.wrap (48 + k % 10)] ++ out) else out
def markT (k : Int) : ByteArray := if k ≤ 0 then ⟨#[109, 48]⟩ else ⟨#[109]⟩ ++ markD 19 k ⟨#[]⟩
theorem markD_stop {m : Nat} {k : Int} {out : ByteArray} (h : ¬ 0 < k) : markD m k out = out := by
  cases m with
  | zero => rfl
  | succ m => rw [markD, if_neg h]
theorem str1 (n : Int) : (strOf [n]).size = 1 := rfl

-- loop.example/g01020/laws.markText
set_option maxHeartbeats 1000000 in
theorem markText_con (n : Int) (hn : n ≤ 1152921504606846976) : Con Try.prog 89 [.int .i64 n] [] (.str (markT n)) [] := by
  have hz1 : (⟨#[109]⟩ : ByteArray).size = 1 := rfl
  refine v_con [.tmp 2] [] Try.func89 rfl rfl rfl (by simp [Try.ntmps89]) ?_
  intro Q0 n0 r0
  simp only [Try.ntmps89, envFrom, Nat.reduceAdd]
  refine v_seq ?_; intro Q1 n1 e1 r1  -- SEQ 0
  refine v_region ?_; intro K2 k2
  -- 2 := assign c<str>
  refine v_op ?_; intro K k
  simp only [zE, zS, aStepM, optable, set_some, Nat.reduceEqDiff, reduceIte, Nat.reduceLT, implies_true, forall_const, reduceCtorEq, V.ofValue, V.ofScalar, V.un, V.gd, aExec, aop, Nat.reduceAdd]
  repeat (refine And.intro (by first | omega | (intros; omega) | (intros; simp_all; done) | (intros; simp_all; omega)) ?_)
  refine k _ ?_; clear k K
  refine k2 _ ?_
  refine n1 _ _ (weak_keep [0] _) ?_
  simp only [keep_mk, keepE_nil, keepE_cons, look_cons, look_nil, Nat.reduceEqDiff, reduceIte]
  refine v_seq ?_; intro Q3 n3 e3 r3  -- SEQ 1
  refine v_seq ?_; intro Q4 n4 e4 r4  -- SEQ 2
  refine v_region ?_; intro K5 k5
  -- 4 := move t0
  refine v_op ?_; intro K k
  simp only [zE, aStepM, optable, set_some, Nat.reduceEqDiff, reduceIte, Nat.reduceLT, implies_true, forall_const, reduceCtorEq, V.ofValue, V.ofScalar, V.un, V.gd, aExec, aop]
  repeat (refine And.intro (by first | omega | (intros; omega) | (intros; simp_all; done) | (intros; simp_all; omega)) ?_)
  refine k _ ?_; clear k K
  -- 5 := binOp Go.BinOp.leq 3 t4 c<0:i64> 3
  refine v_op ?_; intro K k
  simp only [zE, aStepM, optable, set_some, Nat.reduceEqDiff, reduceIte, Nat.reduceLT, implies_true, forall_const, reduceCtorEq, V.ofValue, V.ofScalar, V.un, V.gd, aExec, aop, aBin, Try.underlying3]
  repeat (refine And.intro (by first | omega | (intros; omega) | (intros; simp_all; done) | (intros; simp_all; omega)) ?_)
  refine k _ ?_; clear k K
  refine k5 _ ?_
  refine n4 _ _ (weak_keep [0, 5] _) ?_
  simp only [keep_mk, keepE_nil, keepE_cons, look_cons, look_nil, Nat.reduceEqDiff, reduceIte]
  refine v_cond _ rfl ?_ ?_  -- COND 0
  · intro hc0
    try simp only [zC, reduceCtorEq] at hc0
    refine v_seq ?_; intro Q7 n7 e7 r7  -- SEQ 3
    refine v_region ?_; intro K8 k8
    -- 2 := assign c<strm0>
    refine v_op ?_; intro K k
    simp only [zE, zS, aStepM, optable, set_some, Nat.reduceEqDiff, reduceIte, Nat.reduceLT, implies_true, forall_const, reduceCtorEq, V.ofValue, V.ofScalar, V.un, V.gd, aExec, aop, Nat.reduceAdd]
    repeat (refine And.intro (by first | omega | (intros; omega) | (intros; simp_all; done) | (intros; simp_all; omega)) ?_)
    refine k _ ?_; clear k K
    refine k8 _ ?_
    refine n7 _ _ (weak_keep [2] _) ?_
    simp only [keep_mk, keepE_nil, keepE_cons, look_cons, look_nil, Nat.reduceEqDiff, reduceIte]
    refine v_ret ?_
    refine r3 _ ?_
    refine r0 _ ?_
    simp only [resK, pickRV, get_mk, look_cons, look_nil, Nat.reduceEqDiff, reduceIte, List.map_cons, List.map_nil]
    exact ret_pure rfl (by rw [markT, if_pos hc0]) (.inl rfl)
  · intro hc0
    try simp only [zC, reduceCtorEq] at hc0
    refine v_skip ?_
    refine n3 _ _ (weak_keep [0] _) ?_
    simp only [keep_mk, keepE_nil, keepE_cons, look_cons, look_nil, Nat.reduceEqDiff, reduceIte]
    refine v_seq ?_; intro Q9 n9 e9 r9  -- SEQ 4
    refine v_region ?_; intro K10 k10
    -- 3 := assign c<str>
    refine v_op ?_; intro K k
    simp only [zE, zS, aStepM, optable, set_some, Nat.reduceEqDiff, reduceIte, Nat.reduceLT, implies_true, forall_const, reduceCtorEq, V.ofValue, V.ofScalar, V.un, V.gd, aExec, aop, Nat.reduceAdd]
    repeat (refine And.intro (by first | omega | (intros; omega) | (intros; simp_all; done) | (intros; simp_all; omega)) ?_)
    refine k _ ?_; clear k K
    refine k10 _ ?_
    refine n9 _ _ (weak_keep [0, 3] _) ?_
    simp only [keep_mk, keepE_nil, keepE_cons, look_cons, look_nil, Nat.reduceEqDiff, reduceIte]
    refine v_seq ?_; intro Q11 n11 e11 r11  -- SEQ 5
    refine v_block ?_; intro Q12 n12 x12 e12 r12
    refine v_loop (fun p => ⟨[(0, .int .i64 p.2.1), (3, .str p.2.2)], [], false, 20, 0⟩) (fun p => 0 ≤ p.2.1 ∧ p.2.1 < 10 ^ p.1 ∧ p.2.1 ≤ 1152921504606846976 ∧ p.2.2.size + p.1 ≤ 100 ∧ markD p.1 p.2.1 p.2.2 = markD 19 n ⟨#[]⟩) (fun p => p.1) ((19, n, ⟨#[]⟩) : Nat × Int × ByteArray) ?_ ?_ ?_
    · refine weak_of [0, 3] ?_
      simp only [keep_mk, keepE_nil, keepE_cons, look_cons, look_nil, Nat.reduceEqDiff, reduceIte]
      all_goals rfl
    · exact ⟨by show 0 ≤ n; omega, by show n < (10 : Int) ^ 19; rw [show (10 : Int) ^ 19 = 10000000000000000000 from by decide]; omega, hn, by show (0 : Nat) + 19 ≤ 100; omega, rfl⟩
    · rintro ⟨m0, k, out⟩ hok13 Q13 n13 e13 r13
      obtain ⟨hk1, hk2, hk3, hk4, hR⟩ := hok13
      simp only [] at hk1 hk2 hk3 hk4 hR ⊢
      refine v_seq ?_; intro Q14 n14 e14 r14  -- SEQ 6
      refine v_seq ?_; intro Q15 n15 e15 r15  -- SEQ 7
      refine v_region ?_; intro K16 k16
      -- 6 := move t0
      refine v_op ?_; intro K k
      simp only [zE, aStepM, optable, set_some, Nat.reduceEqDiff, reduceIte, Nat.reduceLT, implies_true, forall_const, reduceCtorEq, V.ofValue, V.ofScalar, V.un, V.gd, aExec, aop]
      repeat (refine And.intro (by first | omega | (intros; omega) | (intros; simp_all; done) | (intros; simp_all; omega)) ?_)
      refine k _ ?_; clear k K
      -- 7 := binOp Go.BinOp.gtr 3 t6 c<0:i64> 3
      refine v_op ?_; intro K k
      simp only [zE, aStepM, optable, set_some, Nat.reduceEqDiff, reduceIte, Nat.reduceLT, implies_true, forall_const, reduceCtorEq, V.ofValue, V.ofScalar, V.un, V.gd, aExec, aop, aBin, Try.underlying3]
      repeat (refine And.intro (by first | omega | (intros; omega) | (intros; simp_all; done) | (intros; simp_all; omega)) ?_)
      refine k _ ?_; clear k K
      refine k16 _ ?_
      refine n15 _ _ (weak_keep [0, 3, 7] _) ?_
      simp only [keep_mk, keepE_nil, keepE_cons, look_cons, look_nil, Nat.reduceEqDiff, reduceIte]
      refine v_cond _ rfl ?_ ?_  -- COND 1
      · intro hc1
        try simp only [zC, reduceCtorEq] at hc1
        obtain ⟨m, rfl⟩ : ∃ m', m0 = m' + 1 := ⟨m0 - 1, by cases m0 with | zero => (simp at hk2; omega) | succ n => rfl⟩
        have hq : k.tdiv 10 = k / 10 := Int.tdiv_eq_ediv_of_nonneg (by omega)
        have hr : k.tmod 10 = k % 10 := Int.tmod_eq_emod_of_nonneg (by omega)
        have hs1 := str1 (IntKind.u8.wrap (48 + k % 10))
        have hpow : (10 : Int) ^ (m + 1) = 10 * 10 ^ m := by rw [Int.pow_succ]; omega
        refine v_skip ?_
        refine n14 _ _ (weak_keep [0, 3] _) ?_
        simp only [keep_mk, keepE_nil, keepE_cons, look_cons, look_nil, Nat.reduceEqDiff, reduceIte]
        refine v_block ?_; intro Q18 n18 x18 e18 r18
        refine v_seq ?_; intro Q19 n19 e19 r19  -- SEQ 8
        refine v_region ?_; intro K20 k20
        -- 8 := move t0
        refine v_op ?_; intro K k
        simp only [zE, aStepM, optable, set_some, Nat.reduceEqDiff, reduceIte, Nat.reduceLT, implies_true, forall_const, reduceCtorEq, V.ofValue, V.ofScalar, V.un, V.gd, aExec, aop, hq, hr]
        repeat (refine And.intro (by first | omega | (intros; omega) | (intros; simp_all; done) | (intros; simp_all; omega)) ?_)
        refine k _ ?_; clear k K
        -- 9 := binOp Go.BinOp.rem 3 t8 c<10:i64> 3
        refine v_op ?_; intro K k
        simp only [zE, aStepM, optable, set_some, Nat.reduceEqDiff, reduceIte, Nat.reduceLT, implies_true, forall_const, reduceCtorEq, V.ofValue, V.ofScalar, V.un, V.gd, aExec, aop, aBin, Try.underlying3, hq, hr]
        repeat (refine And.intro (by first | omega | (intros; omega) | (intros; simp_all; done) | (intros; simp_all; omega)) ?_)
        refine k _ ?_; clear k K
        -- 10 := binOp Go.BinOp.add 3 c<48:i64> t9 3
        refine v_op ?_; intro K k
        simp only [zE, aStepM, optable, set_some, Nat.reduceEqDiff, reduceIte, Nat.reduceLT, implies_true, forall_const, reduceCtorEq, V.ofValue, V.ofScalar, V.un, V.gd, aExec, aop, aBin, Try.underlying3, hq, hr]
        try simp (disch := omega) only [wrap64]
        repeat (refine And.intro (by first | omega | (intros; omega) | (intros; simp_all; done) | (intros; simp_all; omega)) ?_)
        refine k _ ?_; clear k K
        -- 11 := convert 3 5 t10
        refine v_op ?_; intro K k
        simp only [zE, zL, zN, aStepM, optable, set_some, Nat.reduceEqDiff, reduceIte, Nat.reduceLT, implies_true, forall_const, reduceCtorEq, V.ofValue, V.ofScalar, V.un, V.gd, aExec, aop, unByte, row_mk, Blk.row, TypeDesc.slice.injEq, Nat.reduceAdd, Nat.reduceLeDiff, Nat.reduceMul, Try.underlying3, Try.underlying5, hq, hr]
        repeat (refine And.intro (by first | omega | (intros; omega) | (intros; simp_all; done) | (intros; simp_all; omega)) ?_)
        refine k _ ?_; clear k K
        -- 12 := buildSlice 68 1 0=t11
        refine v_op ?_; intro K k
        simp only [zE, zO, zN, aStepM, optable, set_some, Nat.reduceEqDiff, reduceIte, Nat.reduceLT, implies_true, forall_const, reduceCtorEq, V.ofValue, V.ofScalar, V.un, V.gd, aExec, aop, litElems, rng0, rng1, rng2, rng3, rng4, List.map_cons, List.map_nil, List.all_cons, List.all_nil, V.isVal, V.cells, content, kindAll, V.noRef, V.noSl, List.mem_cons, List.not_mem_nil, or_false, forall_eq_or_imp, forall_eq, if_true, Option.isSome_some, List.length_cons, List.length_nil, Nat.reduceAdd, Nat.reduceLeDiff, Nat.reduceMul, Try.underlying5, Ty.c5, Ty.a5, Ty.z5, Try.underlying68, Ty.c68, Ty.a68, Ty.z68, hq, hr]
        repeat (refine And.intro (by first | omega | (intros; omega) | (intros; simp_all; done) | (intros; simp_all; omega)) ?_)
        refine k _ ?_; clear k K
        -- 13 := convert 68 9 t12
        refine v_op ?_; intro K k
        simp only [zE, zL, zN, aStepM, optable, set_some, Nat.reduceEqDiff, reduceIte, Nat.reduceLT, implies_true, forall_const, reduceCtorEq, V.ofValue, V.ofScalar, V.un, V.gd, aExec, aop, unByte, row_mk, Blk.row, TypeDesc.slice.injEq, Nat.reduceAdd, Nat.reduceLeDiff, Nat.reduceMul, Try.underlying5, Try.underlying9, Try.underlying68, hq, hr]
        repeat (refine And.intro (by first | omega | (intros; omega) | (intros; simp_all; done) | (intros; simp_all; omega)) ?_)
        refine k _ ?_; clear k K
        -- 14 := move t3
        refine v_op ?_; intro K k
        simp only [zE, aStepM, optable, set_some, Nat.reduceEqDiff, reduceIte, Nat.reduceLT, implies_true, forall_const, reduceCtorEq, V.ofValue, V.ofScalar, V.un, V.gd, aExec, aop, hq, hr]
        repeat (refine And.intro (by first | omega | (intros; omega) | (intros; simp_all; done) | (intros; simp_all; omega)) ?_)
        refine k _ ?_; clear k K
        -- 15 := binOp Go.BinOp.add 9 t13 t14 9
        refine v_op ?_; intro K k
        simp only [zE, aStepM, optable, set_some, Nat.reduceEqDiff, reduceIte, Nat.reduceLT, implies_true, forall_const, reduceCtorEq, V.ofValue, V.ofScalar, V.un, V.gd, aExec, aop, aBin, Try.underlying9, hq, hr]
        try simp (disch := omega) only [wrap64]
        repeat (refine And.intro (by first | omega | (intros; omega) | (intros; simp_all; done) | (intros; simp_all; omega)) ?_)
        refine k _ ?_; clear k K
        -- 3 := assign t15
        refine v_op ?_; intro K k
        simp only [zE, zS, aStepM, optable, set_some, Nat.reduceEqDiff, reduceIte, Nat.reduceLT, implies_true, forall_const, reduceCtorEq, V.ofValue, V.ofScalar, V.un, V.gd, aExec, aop, Nat.reduceAdd, hq, hr]
        repeat (refine And.intro (by first | omega | (intros; omega) | (intros; simp_all; done) | (intros; simp_all; omega)) ?_)
        refine k _ ?_; clear k K
        refine k20 _ ?_
        refine n19 _ _ (weak_keep [0, 3] _) ?_
        simp only [keep_mk, keepE_nil, keepE_cons, look_cons, look_nil, Nat.reduceEqDiff, reduceIte]
        refine v_region ?_; intro K21 k21
        -- 16 := move t0
        refine v_op ?_; intro K k
        simp only [zE, aStepM, optable, set_some, Nat.reduceEqDiff, reduceIte, Nat.reduceLT, implies_true, forall_const, reduceCtorEq, V.ofValue, V.ofScalar, V.un, V.gd, aExec, aop, hq, hr]
        repeat (refine And.intro (by first | omega | (intros; omega) | (intros; simp_all; done) | (intros; simp_all; omega)) ?_)
        refine k _ ?_; clear k K
        -- 17 := binOp Go.BinOp.quo 3 t16 c<10:i64> 3
        refine v_op ?_; intro K k
        simp only [zE, aStepM, optable, set_some, Nat.reduceEqDiff, reduceIte, Nat.reduceLT, implies_true, forall_const, reduceCtorEq, V.ofValue, V.ofScalar, V.un, V.gd, aExec, aop, aBin, Try.underlying3, hq, hr]
        try simp (disch := omega) only [wrap64]
        repeat (refine And.intro (by first | omega | (intros; omega) | (intros; simp_all; done) | (intros; simp_all; omega)) ?_)
        refine k _ ?_; clear k K
        -- 0 := assign t17
        refine v_op ?_; intro K k
        simp only [zE, zS, aStepM, optable, set_some, Nat.reduceEqDiff, reduceIte, Nat.reduceLT, implies_true, forall_const, reduceCtorEq, V.ofValue, V.ofScalar, V.un, V.gd, aExec, aop, Nat.reduceAdd, hq, hr]
        repeat (refine And.intro (by first | omega | (intros; omega) | (intros; simp_all; done) | (intros; simp_all; omega)) ?_)
        refine k _ ?_; clear k K
        refine k21 _ ?_
        refine n18 _ ?_
        refine n13 _ (m, k / 10, strOf [IntKind.u8.wrap (48 + k % 10)] ++ out) ?_ ?_ ?_
        · refine weak_both [0, 3] [] (by decide) (by simp) ?_ ?_ ?_
          · simp [keep_mk, keepE_nil, keepE_cons, look_cons, V.only, V.onlyL, idx] <;> (first | rfl | decide)
          · simp [Blk.kindIs, fillK_mix]
          simp only [keep_mk, keepE_nil, keepE_cons, look_cons, look_nil, Nat.reduceEqDiff, reduceIte, St.comp, List.map_cons, List.map_nil, V.ren, V.renL, idx, List.getD_cons_zero, List.getD_cons_succ, Nat.reduceBEq, cond_true, cond_false, Option.map_some, Option.getD_some, Nat.reduceAdd, Nat.beq_eq_true_eq]
          all_goals rfl
        · exact ⟨by show 0 ≤ k / 10; omega, by show k / 10 < 10 ^ m; omega, by show k / 10 ≤ _; omega, by show (strOf [IntKind.u8.wrap (48 + k % 10)] ++ out).size + m ≤ 100; rw [ByteArray.size_append, hs1]; omega, by rw [← hR]; show markD m (k / 10) _ = markD (m + 1) k out; rw [markD, if_pos (by omega)]⟩
        · show m < m + 1; omega
      · intro hc1
        try simp only [zC, reduceCtorEq] at hc1
        refine v_exit ?_
        refine e14 _ _ ?_
        refine e13 _ _ ?_
        refine x12 _ ?_
        refine n11 _ _ (weak_keep [3] _) ?_
        simp only [keep_mk, keepE_nil, keepE_cons, look_cons, look_nil, Nat.reduceEqDiff, reduceIte]
        refine v_seq ?_; intro Q22 n22 e22 r22  -- SEQ 9
        refine v_region ?_; intro K23 k23
        -- 18 := move t3
        refine v_op ?_; intro K k
        simp only [zE, aStepM, optable, set_some, Nat.reduceEqDiff, reduceIte, Nat.reduceLT, implies_true, forall_const, reduceCtorEq, V.ofValue, V.ofScalar, V.un, V.gd, aExec, aop]
        repeat (refine And.intro (by first | omega | (intros; omega) | (intros; simp_all; done) | (intros; simp_all; omega)) ?_)
        refine k _ ?_; clear k K
        -- 19 := binOp Go.BinOp.add 9 c<strm> t18 9
        refine v_op ?_; intro K k
        simp only [zE, aStepM, optable, set_some, Nat.reduceEqDiff, reduceIte, Nat.reduceLT, implies_true, forall_const, reduceCtorEq, V.ofValue, V.ofScalar, V.un, V.gd, aExec, aop, aBin, Try.underlying9]
        try simp (disch := omega) only [wrap64]
        repeat (refine And.intro (by first | omega | (intros; omega) | (intros; simp_all; done) | (intros; simp_all; omega)) ?_)
        refine k _ ?_; clear k K
        -- 2 := assign t19
        refine v_op ?_; intro K k
        simp only [zE, zS, aStepM, optable, set_some, Nat.reduceEqDiff, reduceIte, Nat.reduceLT, implies_true, forall_const, reduceCtorEq, V.ofValue, V.ofScalar, V.un, V.gd, aExec, aop, Nat.reduceAdd]
        repeat (refine And.intro (by first | omega | (intros; omega) | (intros; simp_all; done) | (intros; simp_all; omega)) ?_)
        refine k _ ?_; clear k K
        refine k23 _ ?_
        refine n22 _ _ (weak_keep [2] _) ?_
        simp only [keep_mk, keepE_nil, keepE_cons, look_cons, look_nil, Nat.reduceEqDiff, reduceIte]
        refine v_ret ?_
        refine r0 _ ?_
        simp only [resK, pickRV, get_mk, look_cons, look_nil, Nat.reduceEqDiff, reduceIte, List.map_cons, List.map_nil]
        exact ret_pure rfl (by rw [markT, if_neg (by omega), ← hR, markD_stop (by omega)]) (.inl rfl)
end Go.Proofs.Ytciapcamhocmcaa
