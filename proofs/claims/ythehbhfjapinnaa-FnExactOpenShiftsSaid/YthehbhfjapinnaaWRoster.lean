/- What functions compute (Roster). No condition. -/
import Derived.Test.YthehbhfjapinnaaTy
import Derived.Test.YthehbhfjapinnaaVm21
import Derived.Test.YthehbhfjapinnaaWRising
import Derived.Test.YthehbhfjapinnaaWDuty
import Derived.Test.YthehbhfjapinnaaWBase
set_option linter.unusedSimpArgs false
set_option linter.unusedVariables false
namespace Go.Proofs.Ythehbhfjapinnaa
open Go Go.Vm

def rosterB (d : List (List Int)) (n : Int) : Bool := d.all (fun l => risingAt 0 (IntKind.i64.wrap (n - 1)) l 0) && (decide (1 ≤ n) && decide (n ≤ 9)) && decide ((d.length : Int) ≤ 21)
theorem roster_in {d : List (List Int)} {n : Int} (h : rosterB d n = true) : 1 ≤ n ∧ n ≤ 9 ∧ ∀ l ∈ d, ∀ x ∈ l, 0 ≤ x ∧ x < n := by
  simp only [rosterB, Bool.and_eq_true, decide_eq_true_eq, List.all_eq_true] at h
  obtain ⟨⟨h1, h2, h3⟩, _⟩ := h
  refine ⟨h2, h3, fun l hl x hx => ?_⟩
  have := h1 l hl
  rw [wrap64 (by omega) (by omega)] at this
  have := rising_in (by simpa [risingAt] using this) x hx
  omega
theorem roster_len {d : List (List Int)} {n : Int} (h : rosterB d n = true) : d.length ≤ 21 := by
  simp only [rosterB, Bool.and_eq_true, decide_eq_true_eq] at h
  omega

-- loop.example/g01020/spec.duRoster
set_option maxHeartbeats 1000000 in
theorem duRoster_con (d : List (List Int)) (n : Int) (hd : d.length ≤ 1048576) (hds : ∀ l ∈ d, l.length ≤ 1048576) : Con Try.prog 39 [.sl (d.map fun l => V.sl (l.map (V.int .i64))), .int .i64 n] [] (.bool (rosterB d n)) [] := by
  refine v_con [.tmp 4] [] Try.func39 rfl rfl rfl (by simp [Try.ntmps39]) ?_
  intro Q0 n0 r0
  simp only [Try.ntmps39, envFrom, Nat.reduceAdd]
  refine v_seq ?_; intro Q1 n1 e1 r1  -- SEQ 0
  refine v_region ?_; intro K2 k2
  -- 4 := assign c<false>
  refine v_op ?_; intro K k
  simp only [zE, zS, aStepM, optable, set_some, Nat.reduceEqDiff, reduceIte, Nat.reduceLT, implies_true, forall_const, reduceCtorEq, V.ofValue, V.ofScalar, V.un, V.gd, aExec, aop, Nat.reduceAdd]
  repeat (refine And.intro (by first | omega | (intros; omega) | (intros; simp_all; done) | (intros; simp_all; omega)) ?_)
  refine k _ ?_; clear k K
  refine k2 _ ?_
  refine n1 _ _ (weak_keep [0, 1] _) ?_
  simp only [keep_mk, keepE_nil, keepE_cons, look_cons, look_nil, Nat.reduceEqDiff, reduceIte]
  refine v_seq ?_; intro Q3 n3 e3 r3  -- SEQ 1
  refine v_seq ?_; intro Q4 n4 e4 r4  -- SEQ 2
  refine v_region ?_; intro K5 k5
  -- 7 := move t0
  refine v_op ?_; intro K k
  simp only [zE, aStepM, optable, set_some, Nat.reduceEqDiff, reduceIte, Nat.reduceLT, implies_true, forall_const, reduceCtorEq, V.ofValue, V.ofScalar, V.un, V.gd, aExec, aop]
  repeat (refine And.intro (by first | omega | (intros; omega) | (intros; simp_all; done) | (intros; simp_all; omega)) ?_)
  refine k _ ?_; clear k K
  -- 8 := call b Go.Builtin.len t7 | 28
  refine v_op ?_; intro K k
  simp only [zE, zL, zN, aStepM, optable, set_some, Nat.reduceEqDiff, reduceIte, Nat.reduceLT, implies_true, forall_const, reduceCtorEq, V.ofValue, V.ofScalar, V.un, V.gd, aExec, aop, List.length_map, aLen, lenOK, row_mk, Blk.row, List.size_toArray, List.getD_eq_getElem?_getD, Array.getD_eq_getD_getElem?, Option.getD_some, Nat.reduceAdd, Nat.reduceLeDiff, Nat.reduceMul, Try.underlying3, Ty.c3, Ty.a3, Ty.b3, Ty.s3, Try.underlying28, Ty.c28, Ty.a28, Ty.b28, Ty.s28, Try.underlying33, Ty.c33, Ty.a33, Ty.b33, Ty.s33]
  repeat (refine And.intro (by first | omega | (intros; omega) | (intros; simp_all; done) | (intros; simp_all; omega)) ?_)
  refine k _ ?_; clear k K
  -- 9 := move c<0:i64>
  refine v_op ?_; intro K k
  simp only [zE, aStepM, optable, set_some, Nat.reduceEqDiff, reduceIte, Nat.reduceLT, implies_true, forall_const, reduceCtorEq, V.ofValue, V.ofScalar, V.un, V.gd, aExec, aop]
  repeat (refine And.intro (by first | omega | (intros; omega) | (intros; simp_all; done) | (intros; simp_all; omega)) ?_)
  refine k _ ?_; clear k K
  refine k5 _ ?_
  refine n4 _ _ (weak_keep [0, 1, 7, 8, 9] _) ?_
  simp only [keep_mk, keepE_nil, keepE_cons, look_cons, look_nil, Nat.reduceEqDiff, reduceIte]
  refine v_block ?_; intro Q6 n6 x6 e6 r6
  refine v_loop (fun i => ⟨[(0, .sl (d.map fun l => V.sl (l.map (V.int .i64)))), (1, .int .i64 n), (7, .sl (d.map fun l => V.sl (l.map (V.int .i64)))), (8, .int .i64 d.length), (9, .int .i64 (Nat.cast i))], [], false, 26, 0⟩) (fun i => i ≤ d.length ∧ d.all (fun l => risingAt 0 (IntKind.i64.wrap (n - 1)) l 0) = (d.drop i).all (fun l => risingAt 0 (IntKind.i64.wrap (n - 1)) l 0)) (fun i => d.length - i) 0 ?_ ?_ ?_
  · refine weak_of [0, 1, 7, 8, 9] ?_
    simp only [keep_mk, keepE_nil, keepE_cons, look_cons, look_nil, Nat.reduceEqDiff, reduceIte]
    rfl
  · exact ⟨Nat.zero_le _, by simp⟩
  · rintro i hok7 Q7 n7 e7 r7
    obtain ⟨hi1, hR⟩ := hok7
    refine v_seq ?_; intro Q8 n8 e8 r8  -- SEQ 3
    refine v_region ?_; intro K9 k9
    -- 10 := binOp Go.BinOp.lss 3 t9 t8 3
    refine v_op ?_; intro K k
    simp only [zE, aStepM, optable, set_some, Nat.reduceEqDiff, reduceIte, Nat.reduceLT, implies_true, forall_const, reduceCtorEq, V.ofValue, V.ofScalar, V.un, V.gd, aExec, aop, aBin, Try.underlying3]
    repeat (refine And.intro (by first | omega | (intros; omega) | (intros; simp_all; done) | (intros; simp_all; omega)) ?_)
    refine k _ ?_; clear k K
    refine k9 _ ?_
    refine n8 _ _ (weak_keep [0, 1, 7, 8, 9, 10] _) ?_
    simp only [keep_mk, keepE_nil, keepE_cons, look_cons, look_nil, Nat.reduceEqDiff, reduceIte]
    refine v_seq ?_; intro Q10 n10 e10 r10  -- SEQ 4
    refine v_cond _ rfl ?_ ?_  -- COND 0
    · intro hc0
      try simp only [zC, reduceCtorEq] at hc0
      have hlt : i < d.length := by omega
      obtain ⟨x, hx⟩ : ∃ x, d[i]? = some x := ⟨d[i], List.getElem?_eq_getElem hlt⟩
      have hlx : x.length ≤ 1048576 := hds x (List.mem_of_getElem? hx)
      have hstep := all_drop (f := (fun l => risingAt 0 (IntKind.i64.wrap (n - 1)) l 0)) hx
      refine v_skip ?_
      refine n10 _ _ (weak_keep [0, 1, 7, 8, 9] _) ?_
      simp only [keep_mk, keepE_nil, keepE_cons, look_cons, look_nil, Nat.reduceEqDiff, reduceIte]
      refine v_seq ?_; intro Q12 n12 e12 r12  -- SEQ 5
      refine v_block ?_; intro Q13 n13 x13 e13 r13
      refine v_seq ?_; intro Q14 n14 e14 r14  -- SEQ 6
      refine v_region ?_; intro K15 k15
      -- 11 := indexAddr 28 t7 t9
      refine v_op ?_; intro K k
      simp only [zE, zL, zN, aStepM, optable, set_some, Nat.reduceEqDiff, reduceIte, Nat.reduceLT, implies_true, forall_const, reduceCtorEq, V.ofValue, V.ofScalar, V.un, V.gd, aExec, aop, aIndexAddr, row_mk, Blk.row, Go.Vm.V.cells, List.forall_mem_map, List.length_map, Int.toNat_natCast, Int.reduceToNat, TypeDesc.slice.injEq, Nat.reduceAdd, Nat.reduceLeDiff, Nat.reduceMul, Try.underlying28, Ty.c28, Ty.a28, Try.underlying33, Ty.c33, Ty.a33, getD_map hx]
      repeat (refine And.intro (by first | omega | (intros; omega) | (intros; simp_all; done) | (intros; simp_all; omega)) ?_)
      refine k _ ?_; clear k K
      -- 12 := load 33 t11
      refine v_op ?_; intro K k
      simp only [zE, zL, zO, zN, aStepM, optable, set_some, Nat.reduceEqDiff, reduceIte, Nat.reduceLT, implies_true, forall_const, reduceCtorEq, V.ofValue, V.ofScalar, V.un, V.gd, aExec, aop, aLoad, row_mk, Blk.row, PartOK, Go.Vm.part, V.cells, V.noSl, V.noRef, Nat.reduceAdd, Nat.reduceLeDiff, Nat.reduceMul, Try.underlying3, Ty.c3, Ty.a3, Try.underlying33, Ty.c33, Ty.a33, getD_map hx]
      repeat (refine And.intro (by first | omega | (intros; omega) | (intros; simp_all; done) | (intros; simp_all; omega)) ?_)
      refine k _ ?_; clear k K
      -- 6 := assign t12
      refine v_op ?_; intro K k
      simp only [zE, zS, aStepM, optable, set_some, Nat.reduceEqDiff, reduceIte, Nat.reduceLT, implies_true, forall_const, reduceCtorEq, V.ofValue, V.ofScalar, V.un, V.gd, aExec, aop, Nat.reduceAdd, getD_map hx]
      repeat (refine And.intro (by first | omega | (intros; omega) | (intros; simp_all; done) | (intros; simp_all; omega)) ?_)
      refine k _ ?_; clear k K
      refine k15 _ ?_
      refine n14 _ _ (weak_keep [0, 1, 6, 7, 8, 9] _) ?_
      simp only [keep_mk, keepE_nil, keepE_cons, look_cons, look_nil, Nat.reduceEqDiff, reduceIte]
      refine v_seq ?_; intro Q16 n16 e16 r16  -- SEQ 7
      refine v_region ?_; intro K17 k17
      -- 13 := move t6
      refine v_op ?_; intro K k
      simp only [zE, aStepM, optable, set_some, Nat.reduceEqDiff, reduceIte, Nat.reduceLT, implies_true, forall_const, reduceCtorEq, V.ofValue, V.ofScalar, V.un, V.gd, aExec, aop, getD_map hx]
      repeat (refine And.intro (by first | omega | (intros; omega) | (intros; simp_all; done) | (intros; simp_all; omega)) ?_)
      refine k _ ?_; clear k K
      -- 14 := move t1
      refine v_op ?_; intro K k
      simp only [zE, aStepM, optable, set_some, Nat.reduceEqDiff, reduceIte, Nat.reduceLT, implies_true, forall_const, reduceCtorEq, V.ofValue, V.ofScalar, V.un, V.gd, aExec, aop, getD_map hx]
      repeat (refine And.intro (by first | omega | (intros; omega) | (intros; simp_all; done) | (intros; simp_all; omega)) ?_)
      refine k _ ?_; clear k K
      -- 15 := binOp Go.BinOp.sub 3 t14 c<1:i64> 3
      refine v_op ?_; intro K k
      simp only [zE, aStepM, optable, set_some, Nat.reduceEqDiff, reduceIte, Nat.reduceLT, implies_true, forall_const, reduceCtorEq, V.ofValue, V.ofScalar, V.un, V.gd, aExec, aop, aBin, Try.underlying3, getD_map hx]
      try simp (disch := omega) only [wrap64]
      repeat (refine And.intro (by first | omega | (intros; omega) | (intros; simp_all; done) | (intros; simp_all; omega)) ?_)
      refine k _ ?_; clear k K
      -- 16 := call v f59 t13 c<0:i64> t15 | 33 3 3
      refine v_op ?_; intro K k
      simp only [zE, zM, aStepM, optable, set_some, Nat.reduceEqDiff, reduceIte, Nat.reduceLT, implies_true, forall_const, reduceCtorEq, V.ofValue, V.ofScalar, V.un, V.gd, aExec, lentIds, lendOf, Try.underlying3, Ty.c3, Ty.a3, Ty.b3, Ty.s3, Try.underlying4, Ty.c4, Ty.a4, Ty.b4, Ty.s4, Try.underlying33, Ty.c33, Ty.a33, Ty.b33, Ty.s33]
      repeat (refine And.intro (by first | rfl | (intros; simp_all; done)) ?_)
      refine aCall_new (l1Rising_con x 0 _ hlx) (by first | rfl | (simp only [toArgs, toArg, toCell, toCells, idx, row_mk, List.getElem?_cons_zero, List.getElem?_cons_succ, Option.bind_some, Option.map_some, Blk.row, fillK_mix, flat_mix, deep_mix, cond_true]; done) | (simp [toArgs, toArg, toCell, toCells, idx, row_mk, Blk.row, fillK_mix, Nat.beq_refl]; done)) (by first | exact .inl ⟨rfl, by simp [Blk.kindIs, fillK_fd]⟩ | exact .inr (by simp [V.cold])) ?_
      refine k _ ?_; clear k K
      simp only [zY, zW, set_some, Nat.reduceEqDiff, reduceIte, V.ren, V.renL, rho, Nat.reduceAdd]
      -- 17 := unOp Go.UnOp.not 4 t16
      refine v_op ?_; intro K k
      simp only [zE, aStepM, optable, set_some, Nat.reduceEqDiff, reduceIte, Nat.reduceLT, implies_true, forall_const, reduceCtorEq, V.ofValue, V.ofScalar, V.un, V.gd, aExec, aop, aUn, Try.underlying4, getD_map hx]
      repeat (refine And.intro (by first | omega | (intros; omega) | (intros; simp_all; done) | (intros; simp_all; omega)) ?_)
      refine k _ ?_; clear k K
      refine k17 _ ?_
      refine n16 _ _ (weak_keep [0, 1, 7, 8, 9, 17] _) ?_
      simp only [keep_mk, keepE_nil, keepE_cons, look_cons, look_nil, Nat.reduceEqDiff, reduceIte]
      refine v_cond _ rfl ?_ ?_  -- COND 1
      · intro hc1
        try simp only [zC, reduceCtorEq] at hc1
        refine v_seq ?_; intro Q19 n19 e19 r19  -- SEQ 8
        refine v_region ?_; intro K20 k20
        -- 4 := assign c<false>
        refine v_op ?_; intro K k
        simp only [zE, zS, aStepM, optable, set_some, Nat.reduceEqDiff, reduceIte, Nat.reduceLT, implies_true, forall_const, reduceCtorEq, V.ofValue, V.ofScalar, V.un, V.gd, aExec, aop, Nat.reduceAdd, getD_map hx]
        repeat (refine And.intro (by first | omega | (intros; omega) | (intros; simp_all; done) | (intros; simp_all; omega)) ?_)
        refine k _ ?_; clear k K
        refine k20 _ ?_
        refine n19 _ _ (weak_keep [4] _) ?_
        simp only [keep_mk, keepE_nil, keepE_cons, look_cons, look_nil, Nat.reduceEqDiff, reduceIte]
        refine v_ret ?_
        refine r13 _ ?_
        refine r12 _ ?_
        refine r7 _ ?_
        refine r6 _ ?_
        refine r3 _ ?_
        refine r0 _ ?_
        simp only [resK, pickRV, get_mk, look_cons, look_nil, Nat.reduceEqDiff, reduceIte, List.map_cons, List.map_nil]
        exact ret_pure rfl (by rw [rosterB, hR, hstep, hc1]; simp) (.inl rfl)
      · intro hc1
        try simp only [zC, reduceCtorEq] at hc1
        refine v_skip ?_
        refine n13 _ ?_
        refine n12 _ _ (weak_keep [0, 1, 7, 8, 9] _) ?_
        simp only [keep_mk, keepE_nil, keepE_cons, look_cons, look_nil, Nat.reduceEqDiff, reduceIte]
        refine v_region ?_; intro K21 k21
        -- 18 := binOp Go.BinOp.add 3 t9 c<1:i64> 3
        refine v_op ?_; intro K k
        simp only [zE, aStepM, optable, set_some, Nat.reduceEqDiff, reduceIte, Nat.reduceLT, implies_true, forall_const, reduceCtorEq, V.ofValue, V.ofScalar, V.un, V.gd, aExec, aop, aBin, Try.underlying3, getD_map hx]
        try simp (disch := omega) only [wrap64]
        repeat (refine And.intro (by first | omega | (intros; omega) | (intros; simp_all; done) | (intros; simp_all; omega)) ?_)
        refine k _ ?_; clear k K
        -- 9 := move t18
        refine v_op ?_; intro K k
        simp only [zE, aStepM, optable, set_some, Nat.reduceEqDiff, reduceIte, Nat.reduceLT, implies_true, forall_const, reduceCtorEq, V.ofValue, V.ofScalar, V.un, V.gd, aExec, aop, getD_map hx]
        repeat (refine And.intro (by first | omega | (intros; omega) | (intros; simp_all; done) | (intros; simp_all; omega)) ?_)
        refine k _ ?_; clear k K
        refine k21 _ ?_
        refine n7 _ (i + 1) ?_ ?_ ?_
        · refine weak_of [0, 1, 7, 8, 9] ?_
          simp only [keep_mk, keepE_nil, keepE_cons, look_cons, look_nil, Nat.reduceEqDiff, reduceIte]
          rfl
        · exact ⟨by omega, by rw [hR, hstep, hc1]; simp⟩
        · show _ < _; omega
    · intro hc0
      try simp only [zC, reduceCtorEq] at hc0
      refine v_exit ?_
      refine e10 _ _ ?_
      refine e7 _ _ ?_
      refine x6 _ ?_
      refine n3 _ _ (weak_keep [0, 1] _) ?_
      simp only [keep_mk, keepE_nil, keepE_cons, look_cons, look_nil, Nat.reduceEqDiff, reduceIte]
      refine v_seq ?_; intro Q22 n22 e22 r22  -- SEQ 9
      refine v_region ?_; intro K23 k23
      -- 19 := move t1
      refine v_op ?_; intro K k
      simp only [zE, aStepM, optable, set_some, Nat.reduceEqDiff, reduceIte, Nat.reduceLT, implies_true, forall_const, reduceCtorEq, V.ofValue, V.ofScalar, V.un, V.gd, aExec, aop]
      repeat (refine And.intro (by first | omega | (intros; omega) | (intros; simp_all; done) | (intros; simp_all; omega)) ?_)
      refine k _ ?_; clear k K
      -- 20 := call v f56 t19 | 3
      refine v_op ?_; intro K k
      simp only [zE, zM, aStepM, optable, set_some, Nat.reduceEqDiff, reduceIte, Nat.reduceLT, implies_true, forall_const, reduceCtorEq, V.ofValue, V.ofScalar, V.un, V.gd, aExec, lentIds, lendOf, Try.underlying3, Ty.c3, Ty.a3, Ty.b3, Ty.s3, Try.underlying4, Ty.c4, Ty.a4, Ty.b4, Ty.s4]
      repeat (refine And.intro (by first | rfl | (intros; simp_all; done)) ?_)
      refine aCall_new (duPeople_con _) (by first | rfl | (simp only [toArgs, toArg, toCell, toCells, idx, row_mk, List.getElem?_cons_zero, List.getElem?_cons_succ, Option.bind_some, Option.map_some, Blk.row, fillK_mix, flat_mix, deep_mix, cond_true]; done) | (simp [toArgs, toArg, toCell, toCells, idx, row_mk, Blk.row, fillK_mix, Nat.beq_refl]; done)) (by first | exact .inl ⟨rfl, by simp [Blk.kindIs, fillK_fd]⟩ | exact .inr (by simp [V.cold])) ?_
      refine k _ ?_; clear k K
      simp only [zY, zW, set_some, Nat.reduceEqDiff, reduceIte, V.ren, V.renL, rho, Nat.reduceAdd]
      -- 21 := move t20
      refine v_op ?_; intro K k
      simp only [zE, aStepM, optable, set_some, Nat.reduceEqDiff, reduceIte, Nat.reduceLT, implies_true, forall_const, reduceCtorEq, V.ofValue, V.ofScalar, V.un, V.gd, aExec, aop]
      repeat (refine And.intro (by first | omega | (intros; omega) | (intros; simp_all; done) | (intros; simp_all; omega)) ?_)
      refine k _ ?_; clear k K
      -- 22 := move t0
      first
      | refine v_pass 22 2 true rfl (show 22 < 26 by decide) rfl ?_ ?_
        · first | rfl | (simp only [zV, guardV, Nat.reduceEqDiff, reduceIte]; done)
        simp only [zW, set_some, Nat.reduceEqDiff, reduceIte]
      | skip
        -- 22 := move t0
        refine v_op ?_; intro K k
        simp only [zE, zG, aStepM, optable, set_some, Nat.reduceEqDiff, reduceIte, Nat.reduceLT, implies_true, forall_const, reduceCtorEq, V.ofValue, V.ofScalar, V.un, V.gd, guardV, V.wrap, aExec, aop]
        repeat (refine And.intro (by first | omega | (intros; omega) | (intros; simp_all; done) | (intros; simp_all; omega)) ?_)
        refine k _ ?_; clear k K
      -- 23 := call b Go.Builtin.len t22 | 28
      first
      | refine v_pass 23 2 true rfl (show 23 < 26 by decide) rfl ?_ ?_
        · first | rfl | (simp only [zV, guardV, Nat.reduceEqDiff, reduceIte]; done)
        simp only [zW, set_some, Nat.reduceEqDiff, reduceIte]
      | skip
        -- 23 := call b Go.Builtin.len t22 | 28
        refine v_op ?_; intro K k
        simp only [zE, zL, zN, aStepM, optable, set_some, Nat.reduceEqDiff, reduceIte, Nat.reduceLT, implies_true, forall_const, reduceCtorEq, V.ofValue, V.ofScalar, V.un, V.gd, guardV, V.wrap, aExec, aop, List.length_map, aLen, lenOK, row_mk, Blk.row, List.size_toArray, List.getD_eq_getElem?_getD, Array.getD_eq_getD_getElem?, Option.getD_some, Nat.reduceAdd, Nat.reduceLeDiff, Nat.reduceMul, Try.underlying3, Ty.c3, Ty.a3, Ty.b3, Ty.s3, Try.underlying28, Ty.c28, Ty.a28, Ty.b28, Ty.s28, Try.underlying33, Ty.c33, Ty.a33, Ty.b33, Ty.s33]
        repeat (refine And.intro (by first | omega | (intros; omega) | (intros; simp_all; done) | (intros; simp_all; omega)) ?_)
        refine k _ ?_; clear k K
      -- 24 := binOp Go.BinOp.leq 3 t23 c<21:i64> 3
      first
      | refine v_pass 24 2 true rfl (show 24 < 26 by decide) rfl ?_ ?_
        · first | rfl | (simp only [zV, guardV, Nat.reduceEqDiff, reduceIte]; done)
        simp only [zW, set_some, Nat.reduceEqDiff, reduceIte]
      | skip
        -- 24 := binOp Go.BinOp.leq 3 t23 c<21:i64> 3
        refine v_op ?_; intro K k
        simp only [zE, zG, aStepM, optable, set_some, Nat.reduceEqDiff, reduceIte, Nat.reduceLT, implies_true, forall_const, reduceCtorEq, V.ofValue, V.ofScalar, V.un, V.gd, guardV, V.wrap, aExec, aop, aBin, Try.underlying3]
        repeat (refine And.intro (by first | omega | (intros; omega) | (intros; simp_all; done) | (intros; simp_all; omega)) ?_)
        refine k _ ?_; clear k K
      -- 25 := pick t21 t24 c<false>
      refine v_op ?_; intro K k
      simp only [zE, zP, aStepM, optable, set_some, Nat.reduceEqDiff, reduceIte, Nat.reduceLT, implies_true, forall_const, reduceCtorEq, V.ofValue, V.ofScalar, V.un, V.gd, aExec, aop, pickV]
      repeat (refine And.intro (by first | omega | (intros; omega) | (intros; simp_all; done) | (intros; simp_all; omega)) ?_)
      refine k _ ?_; clear k K
      -- 4 := assign t25
      refine v_op ?_; intro K k
      simp only [zE, zS, aStepM, optable, set_some, Nat.reduceEqDiff, reduceIte, Nat.reduceLT, implies_true, forall_const, reduceCtorEq, V.ofValue, V.ofScalar, V.un, V.gd, aExec, aop, Nat.reduceAdd]
      repeat (refine And.intro (by first | omega | (intros; omega) | (intros; simp_all; done) | (intros; simp_all; omega)) ?_)
      refine k _ ?_; clear k K
      refine k23 _ ?_
      refine n22 _ _ (weak_keep [4] _) ?_
      simp only [keep_mk, keepE_nil, keepE_cons, look_cons, look_nil, Nat.reduceEqDiff, reduceIte]
      refine v_ret ?_
      refine r0 _ ?_
      simp only [resK, pickRV, get_mk, look_cons, look_nil, Nat.reduceEqDiff, reduceIte, List.map_cons, List.map_nil]
      exact ret_pure rfl (by rw [List.drop_of_length_le (by omega), List.all_nil] at hR; simp only [rosterB, hR]; simp [Bool.and_comm, Bool.and_left_comm, Bool.and_assoc]) (.inl rfl)
-- loop.example/g01020/impl.isRoster
set_option maxHeartbeats 1000000 in
theorem isRoster_con (d : List (List Int)) (n : Int) (hd : d.length ≤ 1048576) (hds : ∀ l ∈ d, l.length ≤ 1048576) : Con Try.prog 40 [.sl (d.map fun l => V.sl (l.map (V.int .i64))), .int .i64 n] [] (.bool (rosterB d n)) [] := by
  refine v_con [.tmp 4] [] Try.func40 rfl rfl rfl (by simp [Try.ntmps40]) ?_
  intro Q0 n0 r0
  simp only [Try.ntmps40, envFrom, Nat.reduceAdd]
  refine v_seq ?_; intro Q1 n1 e1 r1  -- SEQ 0
  refine v_region ?_; intro K2 k2
  -- 4 := assign c<false>
  refine v_op ?_; intro K k
  simp only [zE, zS, aStepM, optable, set_some, Nat.reduceEqDiff, reduceIte, Nat.reduceLT, implies_true, forall_const, reduceCtorEq, V.ofValue, V.ofScalar, V.un, V.gd, aExec, aop, Nat.reduceAdd]
  repeat (refine And.intro (by first | omega | (intros; omega) | (intros; simp_all; done) | (intros; simp_all; omega)) ?_)
  refine k _ ?_; clear k K
  refine k2 _ ?_
  refine n1 _ _ (weak_keep [0, 1] _) ?_
  simp only [keep_mk, keepE_nil, keepE_cons, look_cons, look_nil, Nat.reduceEqDiff, reduceIte]
  refine v_seq ?_; intro Q3 n3 e3 r3  -- SEQ 1
  refine v_seq ?_; intro Q4 n4 e4 r4  -- SEQ 2
  refine v_region ?_; intro K5 k5
  -- 9 := move t0
  refine v_op ?_; intro K k
  simp only [zE, aStepM, optable, set_some, Nat.reduceEqDiff, reduceIte, Nat.reduceLT, implies_true, forall_const, reduceCtorEq, V.ofValue, V.ofScalar, V.un, V.gd, aExec, aop]
  repeat (refine And.intro (by first | omega | (intros; omega) | (intros; simp_all; done) | (intros; simp_all; omega)) ?_)
  refine k _ ?_; clear k K
  -- 10 := call b Go.Builtin.len t9 | 28
  refine v_op ?_; intro K k
  simp only [zE, zL, zN, aStepM, optable, set_some, Nat.reduceEqDiff, reduceIte, Nat.reduceLT, implies_true, forall_const, reduceCtorEq, V.ofValue, V.ofScalar, V.un, V.gd, aExec, aop, List.length_map, aLen, lenOK, row_mk, Blk.row, List.size_toArray, List.getD_eq_getElem?_getD, Array.getD_eq_getD_getElem?, Option.getD_some, Nat.reduceAdd, Nat.reduceLeDiff, Nat.reduceMul, Try.underlying3, Ty.c3, Ty.a3, Ty.b3, Ty.s3, Try.underlying28, Ty.c28, Ty.a28, Ty.b28, Ty.s28, Try.underlying33, Ty.c33, Ty.a33, Ty.b33, Ty.s33]
  repeat (refine And.intro (by first | omega | (intros; omega) | (intros; simp_all; done) | (intros; simp_all; omega)) ?_)
  refine k _ ?_; clear k K
  -- 11 := move c<0:i64>
  refine v_op ?_; intro K k
  simp only [zE, aStepM, optable, set_some, Nat.reduceEqDiff, reduceIte, Nat.reduceLT, implies_true, forall_const, reduceCtorEq, V.ofValue, V.ofScalar, V.un, V.gd, aExec, aop]
  repeat (refine And.intro (by first | omega | (intros; omega) | (intros; simp_all; done) | (intros; simp_all; omega)) ?_)
  refine k _ ?_; clear k K
  refine k5 _ ?_
  refine n4 _ _ (weak_keep [0, 1, 9, 10, 11] _) ?_
  simp only [keep_mk, keepE_nil, keepE_cons, look_cons, look_nil, Nat.reduceEqDiff, reduceIte]
  refine v_block ?_; intro Q6 n6 x6 e6 r6
  refine v_loop (fun i => ⟨[(0, .sl (d.map fun l => V.sl (l.map (V.int .i64)))), (1, .int .i64 n), (9, .sl (d.map fun l => V.sl (l.map (V.int .i64)))), (10, .int .i64 d.length), (11, .int .i64 (Nat.cast i))], [], false, 49, 0⟩) (fun i => i ≤ d.length ∧ d.all (fun l => risingAt 0 (IntKind.i64.wrap (n - 1)) l 0) = (d.drop i).all (fun l => risingAt 0 (IntKind.i64.wrap (n - 1)) l 0)) (fun i => d.length - i) 0 ?_ ?_ ?_
  · refine weak_of [0, 1, 9, 10, 11] ?_
    simp only [keep_mk, keepE_nil, keepE_cons, look_cons, look_nil, Nat.reduceEqDiff, reduceIte]
    rfl
  · exact ⟨Nat.zero_le _, by simp⟩
  · rintro i hok7 Q7 n7 e7 r7
    obtain ⟨hi1, hR⟩ := hok7
    refine v_seq ?_; intro Q8 n8 e8 r8  -- SEQ 3
    refine v_region ?_; intro K9 k9
    -- 12 := binOp Go.BinOp.lss 3 t11 t10 3
    refine v_op ?_; intro K k
    simp only [zE, aStepM, optable, set_some, Nat.reduceEqDiff, reduceIte, Nat.reduceLT, implies_true, forall_const, reduceCtorEq, V.ofValue, V.ofScalar, V.un, V.gd, aExec, aop, aBin, Try.underlying3]
    repeat (refine And.intro (by first | omega | (intros; omega) | (intros; simp_all; done) | (intros; simp_all; omega)) ?_)
    refine k _ ?_; clear k K
    refine k9 _ ?_
    refine n8 _ _ (weak_keep [0, 1, 9, 10, 11, 12] _) ?_
    simp only [keep_mk, keepE_nil, keepE_cons, look_cons, look_nil, Nat.reduceEqDiff, reduceIte]
    refine v_seq ?_; intro Q10 n10 e10 r10  -- SEQ 4
    refine v_cond _ rfl ?_ ?_  -- COND 0
    · intro hc0
      try simp only [zC, reduceCtorEq] at hc0
      have hlt : i < d.length := by omega
      obtain ⟨x, hx⟩ : ∃ x, d[i]? = some x := ⟨d[i], List.getElem?_eq_getElem hlt⟩
      have hlx : x.length ≤ 1048576 := hds x (List.mem_of_getElem? hx)
      have hstep := all_drop (f := (fun l => risingAt 0 (IntKind.i64.wrap (n - 1)) l 0)) hx
      refine v_skip ?_
      refine n10 _ _ (weak_keep [0, 1, 9, 10, 11] _) ?_
      simp only [keep_mk, keepE_nil, keepE_cons, look_cons, look_nil, Nat.reduceEqDiff, reduceIte]
      refine v_seq ?_; intro Q12 n12 e12 r12  -- SEQ 5
      refine v_block ?_; intro Q13 n13 x13 e13 r13
      refine v_seq ?_; intro Q14 n14 e14 r14  -- SEQ 6
      refine v_region ?_; intro K15 k15
      -- 13 := indexAddr 28 t9 t11
      refine v_op ?_; intro K k
      simp only [zE, zL, zN, aStepM, optable, set_some, Nat.reduceEqDiff, reduceIte, Nat.reduceLT, implies_true, forall_const, reduceCtorEq, V.ofValue, V.ofScalar, V.un, V.gd, aExec, aop, aIndexAddr, row_mk, Blk.row, Go.Vm.V.cells, List.forall_mem_map, List.length_map, Int.toNat_natCast, Int.reduceToNat, TypeDesc.slice.injEq, Nat.reduceAdd, Nat.reduceLeDiff, Nat.reduceMul, Try.underlying28, Ty.c28, Ty.a28, Try.underlying33, Ty.c33, Ty.a33, getD_map hx]
      repeat (refine And.intro (by first | omega | (intros; omega) | (intros; simp_all; done) | (intros; simp_all; omega)) ?_)
      refine k _ ?_; clear k K
      -- 14 := load 33 t13
      refine v_op ?_; intro K k
      simp only [zE, zL, zO, zN, aStepM, optable, set_some, Nat.reduceEqDiff, reduceIte, Nat.reduceLT, implies_true, forall_const, reduceCtorEq, V.ofValue, V.ofScalar, V.un, V.gd, aExec, aop, aLoad, row_mk, Blk.row, PartOK, Go.Vm.part, V.cells, V.noSl, V.noRef, Nat.reduceAdd, Nat.reduceLeDiff, Nat.reduceMul, Try.underlying3, Ty.c3, Ty.a3, Try.underlying33, Ty.c33, Ty.a33, getD_map hx]
      repeat (refine And.intro (by first | omega | (intros; omega) | (intros; simp_all; done) | (intros; simp_all; omega)) ?_)
      refine k _ ?_; clear k K
      -- 6 := assign t14
      refine v_op ?_; intro K k
      simp only [zE, zS, aStepM, optable, set_some, Nat.reduceEqDiff, reduceIte, Nat.reduceLT, implies_true, forall_const, reduceCtorEq, V.ofValue, V.ofScalar, V.un, V.gd, aExec, aop, Nat.reduceAdd, getD_map hx]
      repeat (refine And.intro (by first | omega | (intros; omega) | (intros; simp_all; done) | (intros; simp_all; omega)) ?_)
      refine k _ ?_; clear k K
      refine k15 _ ?_
      refine n14 _ _ (weak_keep [0, 1, 6, 9, 10, 11] _) ?_
      simp only [keep_mk, keepE_nil, keepE_cons, look_cons, look_nil, Nat.reduceEqDiff, reduceIte]
      refine v_seq ?_; intro Q16 n16 e16 r16  -- SEQ 7
      refine v_region ?_; intro K17 k17
      -- 15 := move t6
      refine v_op ?_; intro K k
      simp only [zE, aStepM, optable, set_some, Nat.reduceEqDiff, reduceIte, Nat.reduceLT, implies_true, forall_const, reduceCtorEq, V.ofValue, V.ofScalar, V.un, V.gd, aExec, aop, getD_map hx]
      repeat (refine And.intro (by first | omega | (intros; omega) | (intros; simp_all; done) | (intros; simp_all; omega)) ?_)
      refine k _ ?_; clear k K
      -- 16 := call b Go.Builtin.len t15 | 33
      refine v_op ?_; intro K k
      simp only [zE, zL, zN, aStepM, optable, set_some, Nat.reduceEqDiff, reduceIte, Nat.reduceLT, implies_true, forall_const, reduceCtorEq, V.ofValue, V.ofScalar, V.un, V.gd, aExec, aop, List.length_map, aLen, lenOK, row_mk, Blk.row, List.size_toArray, List.getD_eq_getElem?_getD, Array.getD_eq_getD_getElem?, Option.getD_some, Nat.reduceAdd, Nat.reduceLeDiff, Nat.reduceMul, Try.underlying3, Ty.c3, Ty.a3, Ty.b3, Ty.s3, Try.underlying33, Ty.c33, Ty.a33, Ty.b33, Ty.s33, getD_map hx]
      repeat (refine And.intro (by first | omega | (intros; omega) | (intros; simp_all; done) | (intros; simp_all; omega)) ?_)
      refine k _ ?_; clear k K
      -- 17 := move c<0:i64>
      refine v_op ?_; intro K k
      simp only [zE, aStepM, optable, set_some, Nat.reduceEqDiff, reduceIte, Nat.reduceLT, implies_true, forall_const, reduceCtorEq, V.ofValue, V.ofScalar, V.un, V.gd, aExec, aop, getD_map hx]
      repeat (refine And.intro (by first | omega | (intros; omega) | (intros; simp_all; done) | (intros; simp_all; omega)) ?_)
      refine k _ ?_; clear k K
      refine k17 _ ?_
      refine n16 _ _ (weak_keep [0, 1, 6, 9, 10, 11, 15, 16, 17] _) ?_
      simp only [keep_mk, keepE_nil, keepE_cons, look_cons, look_nil, Nat.reduceEqDiff, reduceIte]
      refine v_block ?_; intro Q18 n18 x18 e18 r18
      refine v_loop (fun j => ⟨[(0, .sl (d.map fun l => V.sl (l.map (V.int .i64)))), (1, .int .i64 n), (6, .sl (x.map (V.int .i64))), (9, .sl (d.map fun l => V.sl (l.map (V.int .i64)))), (10, .int .i64 d.length), (11, .int .i64 (Nat.cast i)), (15, .sl (x.map (V.int .i64))), (16, .int .i64 x.length), (17, .int .i64 (Nat.cast j))], [], false, 49, 0⟩) (fun j => j ≤ x.length ∧ risingAt 0 (IntKind.i64.wrap (n - 1)) x j = risingAt 0 (IntKind.i64.wrap (n - 1)) x 0) (fun j => x.length - j) 0 ?_ ?_ ?_
      · refine weak_of [0, 1, 6, 9, 10, 11, 15, 16, 17] ?_
        simp only [keep_mk, keepE_nil, keepE_cons, look_cons, look_nil, Nat.reduceEqDiff, reduceIte]
        rfl
      · exact ⟨Nat.zero_le _, rfl⟩
      · rintro j hok19 Q19 n19 e19 r19
        obtain ⟨hj1, hR2⟩ := hok19
        refine v_seq ?_; intro Q20 n20 e20 r20  -- SEQ 8
        refine v_region ?_; intro K21 k21
        -- 18 := binOp Go.BinOp.lss 3 t17 t16 3
        refine v_op ?_; intro K k
        simp only [zE, aStepM, optable, set_some, Nat.reduceEqDiff, reduceIte, Nat.reduceLT, implies_true, forall_const, reduceCtorEq, V.ofValue, V.ofScalar, V.un, V.gd, aExec, aop, aBin, Try.underlying3, getD_map hx]
        repeat (refine And.intro (by first | omega | (intros; omega) | (intros; simp_all; done) | (intros; simp_all; omega)) ?_)
        refine k _ ?_; clear k K
        refine k21 _ ?_
        refine n20 _ _ (weak_keep [0, 1, 6, 9, 10, 11, 15, 16, 17, 18] _) ?_
        simp only [keep_mk, keepE_nil, keepE_cons, look_cons, look_nil, Nat.reduceEqDiff, reduceIte]
        refine v_seq ?_; intro Q22 n22 e22 r22  -- SEQ 9
        refine v_cond _ rfl ?_ ?_  -- COND 1
        · intro hc1
          try simp only [zC, reduceCtorEq] at hc1
          have hltj : j < x.length := by omega
          obtain ⟨y, hy⟩ : ∃ y, x[j]? = some y := ⟨x[j], List.getElem?_eq_getElem hltj⟩
          rcases Nat.eq_zero_or_pos j with h0 | h0
          · skip
            have hj0 : ¬ ((0 : Int) < (j : Int)) := by omega
            have hst : risingAt 0 (IntKind.i64.wrap (n - 1)) x j = (inR y 0 (IntKind.i64.wrap (n - 1)) && risingAt 0 (IntKind.i64.wrap (n - 1)) x (j + 1)) := by subst h0; exact risingAt_zero hy
            refine v_skip ?_
            refine n22 _ _ (weak_keep [0, 1, 6, 9, 10, 11, 15, 16, 17] _) ?_
            simp only [keep_mk, keepE_nil, keepE_cons, look_cons, look_nil, Nat.reduceEqDiff, reduceIte]
            refine v_seq ?_; intro Q24 n24 e24 r24  -- SEQ 10
            refine v_block ?_; intro Q25 n25 x25 e25 r25
            refine v_seq ?_; intro Q26 n26 e26 r26  -- SEQ 11
            refine v_region ?_; intro K27 k27
            -- 19 := move t17
            refine v_op ?_; intro K k
            simp only [zE, aStepM, optable, set_some, Nat.reduceEqDiff, reduceIte, Nat.reduceLT, implies_true, forall_const, reduceCtorEq, V.ofValue, V.ofScalar, V.un, V.gd, aExec, aop, getD_map hx, getD_map hy, hj0, decide_false, Bool.and_false]
            repeat (refine And.intro (by first | omega | (intros; omega) | (intros; simp_all; done) | (intros; simp_all; omega)) ?_)
            refine k _ ?_; clear k K
            -- 20 := indexAddr 33 t15 t17
            refine v_op ?_; intro K k
            simp only [zE, zL, zN, aStepM, optable, set_some, Nat.reduceEqDiff, reduceIte, Nat.reduceLT, implies_true, forall_const, reduceCtorEq, V.ofValue, V.ofScalar, V.un, V.gd, aExec, aop, aIndexAddr, row_mk, Blk.row, Go.Vm.V.cells, List.forall_mem_map, List.length_map, Int.toNat_natCast, Int.reduceToNat, TypeDesc.slice.injEq, Nat.reduceAdd, Nat.reduceLeDiff, Nat.reduceMul, Try.underlying3, Ty.c3, Ty.a3, Try.underlying33, Ty.c33, Ty.a33, getD_map hx, getD_map hy, hj0, decide_false, Bool.and_false]
            repeat (refine And.intro (by first | omega | (intros; omega) | (intros; simp_all; done) | (intros; simp_all; omega)) ?_)
            refine k _ ?_; clear k K
            -- 21 := load 3 t20
            refine v_op ?_; intro K k
            simp only [zE, zL, zO, zN, aStepM, optable, set_some, Nat.reduceEqDiff, reduceIte, Nat.reduceLT, implies_true, forall_const, reduceCtorEq, V.ofValue, V.ofScalar, V.un, V.gd, aExec, aop, aLoad, row_mk, Blk.row, PartOK, Go.Vm.part, V.cells, V.noSl, V.noRef, Nat.reduceAdd, Nat.reduceLeDiff, Nat.reduceMul, Try.underlying3, Ty.c3, Ty.a3, getD_map hx, getD_map hy, hj0]
            repeat (refine And.intro (by first | omega | (intros; omega) | (intros; simp_all; done) | (intros; simp_all; omega)) ?_)
            refine k _ ?_; clear k K
            -- 7 := assign t19
            refine v_op ?_; intro K k
            simp only [zE, zS, aStepM, optable, set_some, Nat.reduceEqDiff, reduceIte, Nat.reduceLT, implies_true, forall_const, reduceCtorEq, V.ofValue, V.ofScalar, V.un, V.gd, aExec, aop, Nat.reduceAdd, getD_map hx, getD_map hy, hj0, decide_false, Bool.and_false]
            repeat (refine And.intro (by first | omega | (intros; omega) | (intros; simp_all; done) | (intros; simp_all; omega)) ?_)
            refine k _ ?_; clear k K
            -- 8 := assign t21
            refine v_op ?_; intro K k
            simp only [zE, zS, aStepM, optable, set_some, Nat.reduceEqDiff, reduceIte, Nat.reduceLT, implies_true, forall_const, reduceCtorEq, V.ofValue, V.ofScalar, V.un, V.gd, aExec, aop, Nat.reduceAdd, getD_map hx, getD_map hy, hj0, decide_false, Bool.and_false]
            repeat (refine And.intro (by first | omega | (intros; omega) | (intros; simp_all; done) | (intros; simp_all; omega)) ?_)
            refine k _ ?_; clear k K
            refine k27 _ ?_
            refine n26 _ _ (weak_keep [0, 1, 6, 7, 8, 9, 10, 11, 15, 16, 17] _) ?_
            simp only [keep_mk, keepE_nil, keepE_cons, look_cons, look_nil, Nat.reduceEqDiff, reduceIte]
            refine v_seq ?_; intro Q28 n28 e28 r28  -- SEQ 12
            refine v_region ?_; intro K29 k29
            -- 22 := move t8
            refine v_op ?_; intro K k
            simp only [zE, aStepM, optable, set_some, Nat.reduceEqDiff, reduceIte, Nat.reduceLT, implies_true, forall_const, reduceCtorEq, V.ofValue, V.ofScalar, V.un, V.gd, aExec, aop, getD_map hx, getD_map hy, hj0, decide_false, Bool.and_false]
            repeat (refine And.intro (by first | omega | (intros; omega) | (intros; simp_all; done) | (intros; simp_all; omega)) ?_)
            refine k _ ?_; clear k K
            -- 23 := move t1
            refine v_op ?_; intro K k
            simp only [zE, aStepM, optable, set_some, Nat.reduceEqDiff, reduceIte, Nat.reduceLT, implies_true, forall_const, reduceCtorEq, V.ofValue, V.ofScalar, V.un, V.gd, aExec, aop, getD_map hx, getD_map hy, hj0, decide_false, Bool.and_false]
            repeat (refine And.intro (by first | omega | (intros; omega) | (intros; simp_all; done) | (intros; simp_all; omega)) ?_)
            refine k _ ?_; clear k K
            -- 24 := binOp Go.BinOp.sub 3 t23 c<1:i64> 3
            refine v_op ?_; intro K k
            simp only [zE, aStepM, optable, set_some, Nat.reduceEqDiff, reduceIte, Nat.reduceLT, implies_true, forall_const, reduceCtorEq, V.ofValue, V.ofScalar, V.un, V.gd, aExec, aop, aBin, Try.underlying3, getD_map hx, getD_map hy, hj0, decide_false, Bool.and_false]
            try simp (disch := omega) only [wrap64]
            repeat (refine And.intro (by first | omega | (intros; omega) | (intros; simp_all; done) | (intros; simp_all; omega)) ?_)
            refine k _ ?_; clear k K
            -- 25 := call v f58 t22 c<0:i64> t24 | 3 3 3
            refine v_op ?_; intro K k
            simp only [zE, zM, aStepM, optable, set_some, Nat.reduceEqDiff, reduceIte, Nat.reduceLT, implies_true, forall_const, reduceCtorEq, V.ofValue, V.ofScalar, V.un, V.gd, aExec, lentIds, lendOf, Try.underlying3, Ty.c3, Ty.a3, Ty.b3, Ty.s3, Try.underlying4, Ty.c4, Ty.a4, Ty.b4, Ty.s4]
            repeat (refine And.intro (by first | rfl | (intros; simp_all; done)) ?_)
            refine aCall_new (inside_con _ _ _) (by first | rfl | (simp only [toArgs, toArg, toCell, toCells, idx, row_mk, List.getElem?_cons_zero, List.getElem?_cons_succ, Option.bind_some, Option.map_some, Blk.row, fillK_mix, flat_mix, deep_mix, cond_true]; done) | (simp [toArgs, toArg, toCell, toCells, idx, row_mk, Blk.row, fillK_mix, Nat.beq_refl]; done)) (by first | exact .inl ⟨rfl, by simp [Blk.kindIs, fillK_fd]⟩ | exact .inr (by simp [V.cold])) ?_
            refine k _ ?_; clear k K
            simp only [zY, zW, set_some, Nat.reduceEqDiff, reduceIte, V.ren, V.renL, rho, Nat.reduceAdd]
            -- 26 := unOp Go.UnOp.not 4 t25
            refine v_op ?_; intro K k
            simp only [zE, aStepM, optable, set_some, Nat.reduceEqDiff, reduceIte, Nat.reduceLT, implies_true, forall_const, reduceCtorEq, V.ofValue, V.ofScalar, V.un, V.gd, aExec, aop, aUn, Try.underlying4, getD_map hx, getD_map hy, hj0, decide_false, Bool.and_false]
            repeat (refine And.intro (by first | omega | (intros; omega) | (intros; simp_all; done) | (intros; simp_all; omega)) ?_)
            refine k _ ?_; clear k K
            -- 27 := move t26
            refine v_op ?_; intro K k
            simp only [zE, aStepM, optable, set_some, Nat.reduceEqDiff, reduceIte, Nat.reduceLT, implies_true, forall_const, reduceCtorEq, V.ofValue, V.ofScalar, V.un, V.gd, aExec, aop, getD_map hx, getD_map hy, hj0, decide_false, Bool.and_false]
            repeat (refine And.intro (by first | omega | (intros; omega) | (intros; simp_all; done) | (intros; simp_all; omega)) ?_)
            refine k _ ?_; clear k K
            -- 28 := move t7
            first
            | refine v_pass 28 5 false rfl (show 28 < 49 by decide) rfl ?_ ?_
              · first | rfl | (simp only [zV, guardV, Nat.reduceEqDiff, reduceIte]; done)
              simp only [zW, set_some, Nat.reduceEqDiff, reduceIte]
            | skip
              -- 28 := move t7
              refine v_op ?_; intro K k
              simp only [zE, zG, aStepM, optable, set_some, Nat.reduceEqDiff, reduceIte, Nat.reduceLT, implies_true, forall_const, reduceCtorEq, V.ofValue, V.ofScalar, V.un, V.gd, guardV, V.wrap, aExec, aop, getD_map hx, getD_map hy, hj0, decide_false, Bool.and_false]
              repeat (refine And.intro (by first | omega | (intros; omega) | (intros; simp_all; done) | (intros; simp_all; omega)) ?_)
              refine k _ ?_; clear k K
            -- 29 := binOp Go.BinOp.gtr 3 t28 c<0:i64> 3
            first
            | refine v_pass 29 5 false rfl (show 29 < 49 by decide) rfl ?_ ?_
              · first | rfl | (simp only [zV, guardV, Nat.reduceEqDiff, reduceIte]; done)
              simp only [zW, set_some, Nat.reduceEqDiff, reduceIte]
            | skip
              -- 29 := binOp Go.BinOp.gtr 3 t28 c<0:i64> 3
              refine v_op ?_; intro K k
              simp only [zE, zG, aStepM, optable, set_some, Nat.reduceEqDiff, reduceIte, Nat.reduceLT, implies_true, forall_const, reduceCtorEq, V.ofValue, V.ofScalar, V.un, V.gd, guardV, V.wrap, aExec, aop, aBin, Try.underlying3, getD_map hx, getD_map hy, hj0, decide_false, Bool.and_false]
              repeat (refine And.intro (by first | omega | (intros; omega) | (intros; simp_all; done) | (intros; simp_all; omega)) ?_)
              refine k _ ?_; clear k K
            -- 30 := move t29
            first
            | refine v_pass 30 5 false rfl (show 30 < 49 by decide) rfl ?_ ?_
              · first | rfl | (simp only [zV, guardV, Nat.reduceEqDiff, reduceIte]; done)
              simp only [zW, set_some, Nat.reduceEqDiff, reduceIte]
            | skip
              -- 30 := move t29
              refine v_op ?_; intro K k
              simp only [zE, zG, aStepM, optable, set_some, Nat.reduceEqDiff, reduceIte, Nat.reduceLT, implies_true, forall_const, reduceCtorEq, V.ofValue, V.ofScalar, V.un, V.gd, guardV, V.wrap, aExec, aop, getD_map hx, getD_map hy, hj0, decide_false, Bool.and_false]
              repeat (refine And.intro (by first | omega | (intros; omega) | (intros; simp_all; done) | (intros; simp_all; omega)) ?_)
              refine k _ ?_; clear k K
            -- 31 := move t6
            first
            | refine v_pass 31 8 true rfl (show 31 < 49 by decide) rfl ?_ ?_
              · first | rfl | (simp only [zV, guardV, Nat.reduceEqDiff, reduceIte]; done)
              simp only [zW, set_some, Nat.reduceEqDiff, reduceIte]
            | skip
              -- 31 := move t6
              refine v_op ?_; intro K k
              simp only [zE, zG, aStepM, optable, set_some, Nat.reduceEqDiff, reduceIte, Nat.reduceLT, implies_true, forall_const, reduceCtorEq, V.ofValue, V.ofScalar, V.un, V.gd, guardV, V.wrap, aExec, aop, getD_map hx, getD_map hy, hj0, decide_false, Bool.and_false]
              repeat (refine And.intro (by first | omega | (intros; omega) | (intros; simp_all; done) | (intros; simp_all; omega)) ?_)
              refine k _ ?_; clear k K
            -- 32 := move t7
            first
            | refine v_pass 32 8 true rfl (show 32 < 49 by decide) rfl ?_ ?_
              · first | rfl | (simp only [zV, guardV, Nat.reduceEqDiff, reduceIte]; done)
              simp only [zW, set_some, Nat.reduceEqDiff, reduceIte]
            | skip
              -- 32 := move t7
              refine v_op ?_; intro K k
              simp only [zE, zG, aStepM, optable, set_some, Nat.reduceEqDiff, reduceIte, Nat.reduceLT, implies_true, forall_const, reduceCtorEq, V.ofValue, V.ofScalar, V.un, V.gd, guardV, V.wrap, aExec, aop, getD_map hx, getD_map hy, hj0, decide_false, Bool.and_false]
              repeat (refine And.intro (by first | omega | (intros; omega) | (intros; simp_all; done) | (intros; simp_all; omega)) ?_)
              refine k _ ?_; clear k K
            -- 33 := binOp Go.BinOp.sub 3 t32 c<1:i64> 3
            first
            | refine v_pass 33 8 true rfl (show 33 < 49 by decide) rfl ?_ ?_
              · first | rfl | (simp only [zV, guardV, Nat.reduceEqDiff, reduceIte]; done)
              simp only [zW, set_some, Nat.reduceEqDiff, reduceIte]
            | skip
              -- 33 := binOp Go.BinOp.sub 3 t32 c<1:i64> 3
              refine v_op ?_; intro K k
              simp only [zE, zG, aStepM, optable, set_some, Nat.reduceEqDiff, reduceIte, Nat.reduceLT, implies_true, forall_const, reduceCtorEq, V.ofValue, V.ofScalar, V.un, V.gd, guardV, V.wrap, aExec, aop, aBin, Try.underlying3, getD_map hx, getD_map hy, hj0, decide_false, Bool.and_false]
              try simp (disch := omega) only [wrap64]
              repeat (refine And.intro (by first | omega | (intros; omega) | (intros; simp_all; done) | (intros; simp_all; omega)) ?_)
              refine k _ ?_; clear k K
            -- 34 := indexAddr 33 t31 t33
            first
            | refine v_pass 34 8 true rfl (show 34 < 49 by decide) rfl ?_ ?_
              · first | rfl | (simp only [zV, guardV, Nat.reduceEqDiff, reduceIte]; done)
              simp only [zW, set_some, Nat.reduceEqDiff, reduceIte]
            | skip
              -- 34 := indexAddr 33 t31 t33
              refine v_op ?_; intro K k
              simp only [zE, zL, zN, aStepM, optable, set_some, Nat.reduceEqDiff, reduceIte, Nat.reduceLT, implies_true, forall_const, reduceCtorEq, V.ofValue, V.ofScalar, V.un, V.gd, guardV, V.wrap, aExec, aop, aIndexAddr, row_mk, Blk.row, Go.Vm.V.cells, List.forall_mem_map, List.length_map, Int.toNat_natCast, Int.reduceToNat, TypeDesc.slice.injEq, Nat.reduceAdd, Nat.reduceLeDiff, Nat.reduceMul, Try.underlying3, Ty.c3, Ty.a3, Try.underlying33, Ty.c33, Ty.a33, getD_map hx, getD_map hy, hj0, decide_false, Bool.and_false]
              repeat (refine And.intro (by first | omega | (intros; omega) | (intros; simp_all; done) | (intros; simp_all; omega)) ?_)
              refine k _ ?_; clear k K
            -- 35 := load 3 t34
            first
            | refine v_pass 35 8 true rfl (show 35 < 49 by decide) rfl ?_ ?_
              · first | rfl | (simp only [zV, guardV, Nat.reduceEqDiff, reduceIte]; done)
              simp only [zW, set_some, Nat.reduceEqDiff, reduceIte]
            | skip
              -- 35 := load 3 t34
              refine v_op ?_; intro K k
              simp only [zE, zL, zO, zN, aStepM, optable, set_some, Nat.reduceEqDiff, reduceIte, Nat.reduceLT, implies_true, forall_const, reduceCtorEq, V.ofValue, V.ofScalar, V.un, V.gd, guardV, V.wrap, aExec, aop, aLoad, row_mk, Blk.row, PartOK, Go.Vm.part, V.cells, V.noSl, V.noRef, Nat.reduceAdd, Nat.reduceLeDiff, Nat.reduceMul, Try.underlying3, Ty.c3, Ty.a3, getD_map hx, getD_map hy, hj0]
              repeat (refine And.intro (by first | omega | (intros; omega) | (intros; simp_all; done) | (intros; simp_all; omega)) ?_)
              refine k _ ?_; clear k K
            -- 36 := move t8
            first
            | refine v_pass 36 8 true rfl (show 36 < 49 by decide) rfl ?_ ?_
              · first | rfl | (simp only [zV, guardV, Nat.reduceEqDiff, reduceIte]; done)
              simp only [zW, set_some, Nat.reduceEqDiff, reduceIte]
            | skip
              -- 36 := move t8
              refine v_op ?_; intro K k
              simp only [zE, zG, aStepM, optable, set_some, Nat.reduceEqDiff, reduceIte, Nat.reduceLT, implies_true, forall_const, reduceCtorEq, V.ofValue, V.ofScalar, V.un, V.gd, guardV, V.wrap, aExec, aop, getD_map hx, getD_map hy, hj0, decide_false, Bool.and_false]
              repeat (refine And.intro (by first | omega | (intros; omega) | (intros; simp_all; done) | (intros; simp_all; omega)) ?_)
              refine k _ ?_; clear k K
            -- 37 := binOp Go.BinOp.geq 3 t35 t36 3
            first
            | refine v_pass 37 8 true rfl (show 37 < 49 by decide) rfl ?_ ?_
              · first | rfl | (simp only [zV, guardV, Nat.reduceEqDiff, reduceIte]; done)
              simp only [zW, set_some, Nat.reduceEqDiff, reduceIte]
            | skip
              -- 37 := binOp Go.BinOp.geq 3 t35 t36 3
              refine v_op ?_; intro K k
              simp only [zE, zG, aStepM, optable, set_some, Nat.reduceEqDiff, reduceIte, Nat.reduceLT, implies_true, forall_const, reduceCtorEq, V.ofValue, V.ofScalar, V.un, V.gd, guardV, V.wrap, aExec, aop, aBin, Try.underlying3, getD_map hx, getD_map hy, hj0, decide_false, Bool.and_false]
              repeat (refine And.intro (by first | omega | (intros; omega) | (intros; simp_all; done) | (intros; simp_all; omega)) ?_)
              refine k _ ?_; clear k K
            -- 38 := pick t30 t37 c<false>
            first
            | refine v_pass 38 5 false rfl (show 38 < 49 by decide) rfl ?_ ?_
              · first | rfl | (simp only [zV, guardV, Nat.reduceEqDiff, reduceIte]; done)
              simp only [zW, set_some, Nat.reduceEqDiff, reduceIte]
            | skip
              -- 38 := pick t30 t37 c<false>
              refine v_op ?_; intro K k
              simp only [zE, zP, zG, aStepM, optable, set_some, Nat.reduceEqDiff, reduceIte, Nat.reduceLT, implies_true, forall_const, reduceCtorEq, V.ofValue, V.ofScalar, V.un, V.gd, guardV, V.wrap, aExec, aop, pickV, getD_map hx, getD_map hy, hj0, decide_false, Bool.and_false]
              repeat (refine And.intro (by first | omega | (intros; omega) | (intros; simp_all; done) | (intros; simp_all; omega)) ?_)
              refine k _ ?_; clear k K
            -- 39 := pick t27 c<true> t38
            refine v_op ?_; intro K k
            simp only [zE, zP, aStepM, optable, set_some, Nat.reduceEqDiff, reduceIte, Nat.reduceLT, implies_true, forall_const, reduceCtorEq, V.ofValue, V.ofScalar, V.un, V.gd, aExec, aop, pickV, getD_map hx, getD_map hy, hj0, decide_false, Bool.and_false]
            repeat (refine And.intro (by first | omega | (intros; omega) | (intros; simp_all; done) | (intros; simp_all; omega)) ?_)
            refine k _ ?_; clear k K
            refine k29 _ ?_
            refine n28 _ _ (weak_keep [0, 1, 6, 9, 10, 11, 15, 16, 17, 39] _) ?_
            simp only [keep_mk, keepE_nil, keepE_cons, look_cons, look_nil, Nat.reduceEqDiff, reduceIte]
            refine v_cond _ rfl ?_ ?_  -- COND 2
            · intro hc2
              try simp only [zC, reduceCtorEq] at hc2
              refine v_seq ?_; intro Q31 n31 e31 r31  -- SEQ 13
              refine v_region ?_; intro K32 k32
              -- 4 := assign c<false>
              refine v_op ?_; intro K k
              simp only [zE, zS, aStepM, optable, set_some, Nat.reduceEqDiff, reduceIte, Nat.reduceLT, implies_true, forall_const, reduceCtorEq, V.ofValue, V.ofScalar, V.un, V.gd, aExec, aop, Nat.reduceAdd, getD_map hx, getD_map hy, hj0, decide_false, Bool.and_false]
              repeat (refine And.intro (by first | omega | (intros; omega) | (intros; simp_all; done) | (intros; simp_all; omega)) ?_)
              refine k _ ?_; clear k K
              refine k32 _ ?_
              refine n31 _ _ (weak_keep [4] _) ?_
              simp only [keep_mk, keepE_nil, keepE_cons, look_cons, look_nil, Nat.reduceEqDiff, reduceIte]
              refine v_ret ?_
              refine r25 _ ?_
              refine r24 _ ?_
              refine r19 _ ?_
              refine r18 _ ?_
              refine r13 _ ?_
              refine r12 _ ?_
              refine r7 _ ?_
              refine r6 _ ?_
              refine r3 _ ?_
              refine r0 _ ?_
              simp only [resK, pickRV, get_mk, look_cons, look_nil, Nat.reduceEqDiff, reduceIte, List.map_cons, List.map_nil]
              exact ret_pure rfl (by rw [rosterB, hR, hstep, ← hR2, hst]; simp [inR]; intros; omega) (.inl rfl)
            · intro hc2
              try simp only [zC, reduceCtorEq] at hc2
              refine v_skip ?_
              refine n25 _ ?_
              refine n24 _ _ (weak_keep [0, 1, 6, 9, 10, 11, 15, 16, 17] _) ?_
              simp only [keep_mk, keepE_nil, keepE_cons, look_cons, look_nil, Nat.reduceEqDiff, reduceIte]
              refine v_region ?_; intro K33 k33
              -- 40 := binOp Go.BinOp.add 3 t17 c<1:i64> 3
              refine v_op ?_; intro K k
              simp only [zE, aStepM, optable, set_some, Nat.reduceEqDiff, reduceIte, Nat.reduceLT, implies_true, forall_const, reduceCtorEq, V.ofValue, V.ofScalar, V.un, V.gd, aExec, aop, aBin, Try.underlying3, getD_map hx, getD_map hy, hj0, decide_false, Bool.and_false]
              try simp (disch := omega) only [wrap64]
              repeat (refine And.intro (by first | omega | (intros; omega) | (intros; simp_all; done) | (intros; simp_all; omega)) ?_)
              refine k _ ?_; clear k K
              -- 17 := move t40
              refine v_op ?_; intro K k
              simp only [zE, aStepM, optable, set_some, Nat.reduceEqDiff, reduceIte, Nat.reduceLT, implies_true, forall_const, reduceCtorEq, V.ofValue, V.ofScalar, V.un, V.gd, aExec, aop, getD_map hx, getD_map hy, hj0, decide_false, Bool.and_false]
              repeat (refine And.intro (by first | omega | (intros; omega) | (intros; simp_all; done) | (intros; simp_all; omega)) ?_)
              refine k _ ?_; clear k K
              refine k33 _ ?_
              refine n19 _ (j + 1) ?_ ?_ ?_
              · refine weak_of [0, 1, 6, 9, 10, 11, 15, 16, 17] ?_
                simp only [keep_mk, keepE_nil, keepE_cons, look_cons, look_nil, Nat.reduceEqDiff, reduceIte]
                rfl
              · exact ⟨by omega, by rw [← hR2, hst]; simp [inR]; intros; omega⟩
              · show _ < _; omega
          · skip
            obtain ⟨z, hz⟩ : ∃ z, x[j - 1]? = some z := ⟨x[j - 1], List.getElem?_eq_getElem (by omega)⟩
            have hj0 : (0 : Int) < j := by omega
            have hk : ((j : Int) - 1).toNat = j - 1 := by omega
            have hst := risingAt_succ (lo := 0) (hi := IntKind.i64.wrap (n - 1)) h0 hz hy
            refine v_skip ?_
            refine n22 _ _ (weak_keep [0, 1, 6, 9, 10, 11, 15, 16, 17] _) ?_
            simp only [keep_mk, keepE_nil, keepE_cons, look_cons, look_nil, Nat.reduceEqDiff, reduceIte]
            refine v_seq ?_; intro Q34 n34 e34 r34  -- SEQ 14
            refine v_block ?_; intro Q35 n35 x35 e35 r35
            refine v_seq ?_; intro Q36 n36 e36 r36  -- SEQ 15
            refine v_region ?_; intro K37 k37
            -- 19 := move t17
            refine v_op ?_; intro K k
            simp only [zE, aStepM, optable, set_some, Nat.reduceEqDiff, reduceIte, Nat.reduceLT, implies_true, forall_const, reduceCtorEq, V.ofValue, V.ofScalar, V.un, V.gd, aExec, aop, getD_map hx, getD_map hy, hj0, hk, getD_map hz, decide_true, Bool.and_true]
            repeat (refine And.intro (by first | omega | (intros; omega) | (intros; simp_all; done) | (intros; simp_all; omega)) ?_)
            refine k _ ?_; clear k K
            -- 20 := indexAddr 33 t15 t17
            refine v_op ?_; intro K k
            simp only [zE, zL, zN, aStepM, optable, set_some, Nat.reduceEqDiff, reduceIte, Nat.reduceLT, implies_true, forall_const, reduceCtorEq, V.ofValue, V.ofScalar, V.un, V.gd, aExec, aop, aIndexAddr, row_mk, Blk.row, Go.Vm.V.cells, List.forall_mem_map, List.length_map, Int.toNat_natCast, Int.reduceToNat, TypeDesc.slice.injEq, Nat.reduceAdd, Nat.reduceLeDiff, Nat.reduceMul, Try.underlying3, Ty.c3, Ty.a3, Try.underlying33, Ty.c33, Ty.a33, getD_map hx, getD_map hy, hj0, hk, getD_map hz, decide_true, Bool.and_true]
            repeat (refine And.intro (by first | omega | (intros; omega) | (intros; simp_all; done) | (intros; simp_all; omega)) ?_)
            refine k _ ?_; clear k K
            -- 21 := load 3 t20
            refine v_op ?_; intro K k
            simp only [zE, zL, zO, zN, aStepM, optable, set_some, Nat.reduceEqDiff, reduceIte, Nat.reduceLT, implies_true, forall_const, reduceCtorEq, V.ofValue, V.ofScalar, V.un, V.gd, aExec, aop, aLoad, row_mk, Blk.row, PartOK, Go.Vm.part, V.cells, V.noSl, V.noRef, Nat.reduceAdd, Nat.reduceLeDiff, Nat.reduceMul, Try.underlying3, Ty.c3, Ty.a3, getD_map hx, getD_map hy, hj0, hk, getD_map hz]
            repeat (refine And.intro (by first | omega | (intros; omega) | (intros; simp_all; done) | (intros; simp_all; omega)) ?_)
            refine k _ ?_; clear k K
            -- 7 := assign t19
            refine v_op ?_; intro K k
            simp only [zE, zS, aStepM, optable, set_some, Nat.reduceEqDiff, reduceIte, Nat.reduceLT, implies_true, forall_const, reduceCtorEq, V.ofValue, V.ofScalar, V.un, V.gd, aExec, aop, Nat.reduceAdd, getD_map hx, getD_map hy, hj0, hk, getD_map hz, decide_true, Bool.and_true]
            repeat (refine And.intro (by first | omega | (intros; omega) | (intros; simp_all; done) | (intros; simp_all; omega)) ?_)
            refine k _ ?_; clear k K
            -- 8 := assign t21
            refine v_op ?_; intro K k
            simp only [zE, zS, aStepM, optable, set_some, Nat.reduceEqDiff, reduceIte, Nat.reduceLT, implies_true, forall_const, reduceCtorEq, V.ofValue, V.ofScalar, V.un, V.gd, aExec, aop, Nat.reduceAdd, getD_map hx, getD_map hy, hj0, hk, getD_map hz, decide_true, Bool.and_true]
            repeat (refine And.intro (by first | omega | (intros; omega) | (intros; simp_all; done) | (intros; simp_all; omega)) ?_)
            refine k _ ?_; clear k K
            refine k37 _ ?_
            refine n36 _ _ (weak_keep [0, 1, 6, 7, 8, 9, 10, 11, 15, 16, 17] _) ?_
            simp only [keep_mk, keepE_nil, keepE_cons, look_cons, look_nil, Nat.reduceEqDiff, reduceIte]
            refine v_seq ?_; intro Q38 n38 e38 r38  -- SEQ 16
            refine v_region ?_; intro K39 k39
            -- 22 := move t8
            refine v_op ?_; intro K k
            simp only [zE, aStepM, optable, set_some, Nat.reduceEqDiff, reduceIte, Nat.reduceLT, implies_true, forall_const, reduceCtorEq, V.ofValue, V.ofScalar, V.un, V.gd, aExec, aop, getD_map hx, getD_map hy, hj0, hk, getD_map hz, decide_true, Bool.and_true]
            repeat (refine And.intro (by first | omega | (intros; omega) | (intros; simp_all; done) | (intros; simp_all; omega)) ?_)
            refine k _ ?_; clear k K
            -- 23 := move t1
            refine v_op ?_; intro K k
            simp only [zE, aStepM, optable, set_some, Nat.reduceEqDiff, reduceIte, Nat.reduceLT, implies_true, forall_const, reduceCtorEq, V.ofValue, V.ofScalar, V.un, V.gd, aExec, aop, getD_map hx, getD_map hy, hj0, hk, getD_map hz, decide_true, Bool.and_true]
            repeat (refine And.intro (by first | omega | (intros; omega) | (intros; simp_all; done) | (intros; simp_all; omega)) ?_)
            refine k _ ?_; clear k K
            -- 24 := binOp Go.BinOp.sub 3 t23 c<1:i64> 3
            refine v_op ?_; intro K k
            simp only [zE, aStepM, optable, set_some, Nat.reduceEqDiff, reduceIte, Nat.reduceLT, implies_true, forall_const, reduceCtorEq, V.ofValue, V.ofScalar, V.un, V.gd, aExec, aop, aBin, Try.underlying3, getD_map hx, getD_map hy, hj0, hk, getD_map hz, decide_true, Bool.and_true]
            try simp (disch := omega) only [wrap64]
            repeat (refine And.intro (by first | omega | (intros; omega) | (intros; simp_all; done) | (intros; simp_all; omega)) ?_)
            refine k _ ?_; clear k K
            -- 25 := call v f58 t22 c<0:i64> t24 | 3 3 3
            refine v_op ?_; intro K k
            simp only [zE, zM, aStepM, optable, set_some, Nat.reduceEqDiff, reduceIte, Nat.reduceLT, implies_true, forall_const, reduceCtorEq, V.ofValue, V.ofScalar, V.un, V.gd, aExec, lentIds, lendOf, Try.underlying3, Ty.c3, Ty.a3, Ty.b3, Ty.s3, Try.underlying4, Ty.c4, Ty.a4, Ty.b4, Ty.s4]
            repeat (refine And.intro (by first | rfl | (intros; simp_all; done)) ?_)
            refine aCall_new (inside_con _ _ _) (by first | rfl | (simp only [toArgs, toArg, toCell, toCells, idx, row_mk, List.getElem?_cons_zero, List.getElem?_cons_succ, Option.bind_some, Option.map_some, Blk.row, fillK_mix, flat_mix, deep_mix, cond_true]; done) | (simp [toArgs, toArg, toCell, toCells, idx, row_mk, Blk.row, fillK_mix, Nat.beq_refl]; done)) (by first | exact .inl ⟨rfl, by simp [Blk.kindIs, fillK_fd]⟩ | exact .inr (by simp [V.cold])) ?_
            refine k _ ?_; clear k K
            simp only [zY, zW, set_some, Nat.reduceEqDiff, reduceIte, V.ren, V.renL, rho, Nat.reduceAdd]
            -- 26 := unOp Go.UnOp.not 4 t25
            refine v_op ?_; intro K k
            simp only [zE, aStepM, optable, set_some, Nat.reduceEqDiff, reduceIte, Nat.reduceLT, implies_true, forall_const, reduceCtorEq, V.ofValue, V.ofScalar, V.un, V.gd, aExec, aop, aUn, Try.underlying4, getD_map hx, getD_map hy, hj0, hk, getD_map hz, decide_true, Bool.and_true]
            repeat (refine And.intro (by first | omega | (intros; omega) | (intros; simp_all; done) | (intros; simp_all; omega)) ?_)
            refine k _ ?_; clear k K
            -- 27 := move t26
            refine v_op ?_; intro K k
            simp only [zE, aStepM, optable, set_some, Nat.reduceEqDiff, reduceIte, Nat.reduceLT, implies_true, forall_const, reduceCtorEq, V.ofValue, V.ofScalar, V.un, V.gd, aExec, aop, getD_map hx, getD_map hy, hj0, hk, getD_map hz, decide_true, Bool.and_true]
            repeat (refine And.intro (by first | omega | (intros; omega) | (intros; simp_all; done) | (intros; simp_all; omega)) ?_)
            refine k _ ?_; clear k K
            -- 28 := move t7
            first
            | refine v_pass 28 5 false rfl (show 28 < 49 by decide) rfl ?_ ?_
              · first | rfl | (simp only [zV, guardV, Nat.reduceEqDiff, reduceIte]; done)
              simp only [zW, set_some, Nat.reduceEqDiff, reduceIte]
            | skip
              -- 28 := move t7
              refine v_op ?_; intro K k
              simp only [zE, zG, aStepM, optable, set_some, Nat.reduceEqDiff, reduceIte, Nat.reduceLT, implies_true, forall_const, reduceCtorEq, V.ofValue, V.ofScalar, V.un, V.gd, guardV, V.wrap, aExec, aop, getD_map hx, getD_map hy, hj0, hk, getD_map hz, decide_true, Bool.and_true]
              repeat (refine And.intro (by first | omega | (intros; omega) | (intros; simp_all; done) | (intros; simp_all; omega)) ?_)
              refine k _ ?_; clear k K
            -- 29 := binOp Go.BinOp.gtr 3 t28 c<0:i64> 3
            first
            | refine v_pass 29 5 false rfl (show 29 < 49 by decide) rfl ?_ ?_
              · first | rfl | (simp only [zV, guardV, Nat.reduceEqDiff, reduceIte]; done)
              simp only [zW, set_some, Nat.reduceEqDiff, reduceIte]
            | skip
              -- 29 := binOp Go.BinOp.gtr 3 t28 c<0:i64> 3
              refine v_op ?_; intro K k
              simp only [zE, zG, aStepM, optable, set_some, Nat.reduceEqDiff, reduceIte, Nat.reduceLT, implies_true, forall_const, reduceCtorEq, V.ofValue, V.ofScalar, V.un, V.gd, guardV, V.wrap, aExec, aop, aBin, Try.underlying3, getD_map hx, getD_map hy, hj0, hk, getD_map hz, decide_true, Bool.and_true]
              repeat (refine And.intro (by first | omega | (intros; omega) | (intros; simp_all; done) | (intros; simp_all; omega)) ?_)
              refine k _ ?_; clear k K
            -- 30 := move t29
            first
            | refine v_pass 30 5 false rfl (show 30 < 49 by decide) rfl ?_ ?_
              · first | rfl | (simp only [zV, guardV, Nat.reduceEqDiff, reduceIte]; done)
              simp only [zW, set_some, Nat.reduceEqDiff, reduceIte]
            | skip
              -- 30 := move t29
              refine v_op ?_; intro K k
              simp only [zE, zG, aStepM, optable, set_some, Nat.reduceEqDiff, reduceIte, Nat.reduceLT, implies_true, forall_const, reduceCtorEq, V.ofValue, V.ofScalar, V.un, V.gd, guardV, V.wrap, aExec, aop, getD_map hx, getD_map hy, hj0, hk, getD_map hz, decide_true, Bool.and_true]
              repeat (refine And.intro (by first | omega | (intros; omega) | (intros; simp_all; done) | (intros; simp_all; omega)) ?_)
              refine k _ ?_; clear k K
            -- 31 := move t6
            first
            | refine v_pass 31 8 true rfl (show 31 < 49 by decide) rfl ?_ ?_
              · first | rfl | (simp only [zV, guardV, Nat.reduceEqDiff, reduceIte]; done)
              simp only [zW, set_some, Nat.reduceEqDiff, reduceIte]
            | skip
              -- 31 := move t6
              refine v_op ?_; intro K k
              simp only [zE, zG, aStepM, optable, set_some, Nat.reduceEqDiff, reduceIte, Nat.reduceLT, implies_true, forall_const, reduceCtorEq, V.ofValue, V.ofScalar, V.un, V.gd, guardV, V.wrap, aExec, aop, getD_map hx, getD_map hy, hj0, hk, getD_map hz, decide_true, Bool.and_true]
              repeat (refine And.intro (by first | omega | (intros; omega) | (intros; simp_all; done) | (intros; simp_all; omega)) ?_)
              refine k _ ?_; clear k K
            -- 32 := move t7
            first
            | refine v_pass 32 8 true rfl (show 32 < 49 by decide) rfl ?_ ?_
              · first | rfl | (simp only [zV, guardV, Nat.reduceEqDiff, reduceIte]; done)
              simp only [zW, set_some, Nat.reduceEqDiff, reduceIte]
            | skip
              -- 32 := move t7
              refine v_op ?_; intro K k
              simp only [zE, zG, aStepM, optable, set_some, Nat.reduceEqDiff, reduceIte, Nat.reduceLT, implies_true, forall_const, reduceCtorEq, V.ofValue, V.ofScalar, V.un, V.gd, guardV, V.wrap, aExec, aop, getD_map hx, getD_map hy, hj0, hk, getD_map hz, decide_true, Bool.and_true]
              repeat (refine And.intro (by first | omega | (intros; omega) | (intros; simp_all; done) | (intros; simp_all; omega)) ?_)
              refine k _ ?_; clear k K
            -- 33 := binOp Go.BinOp.sub 3 t32 c<1:i64> 3
            first
            | refine v_pass 33 8 true rfl (show 33 < 49 by decide) rfl ?_ ?_
              · first | rfl | (simp only [zV, guardV, Nat.reduceEqDiff, reduceIte]; done)
              simp only [zW, set_some, Nat.reduceEqDiff, reduceIte]
            | skip
              -- 33 := binOp Go.BinOp.sub 3 t32 c<1:i64> 3
              refine v_op ?_; intro K k
              simp only [zE, zG, aStepM, optable, set_some, Nat.reduceEqDiff, reduceIte, Nat.reduceLT, implies_true, forall_const, reduceCtorEq, V.ofValue, V.ofScalar, V.un, V.gd, guardV, V.wrap, aExec, aop, aBin, Try.underlying3, getD_map hx, getD_map hy, hj0, hk, getD_map hz, decide_true, Bool.and_true]
              try simp (disch := omega) only [wrap64]
              repeat (refine And.intro (by first | omega | (intros; omega) | (intros; simp_all; done) | (intros; simp_all; omega)) ?_)
              refine k _ ?_; clear k K
            -- 34 := indexAddr 33 t31 t33
            first
            | refine v_pass 34 8 true rfl (show 34 < 49 by decide) rfl ?_ ?_
              · first | rfl | (simp only [zV, guardV, Nat.reduceEqDiff, reduceIte]; done)
              simp only [zW, set_some, Nat.reduceEqDiff, reduceIte]
            | skip
              -- 34 := indexAddr 33 t31 t33
              refine v_op ?_; intro K k
              simp only [zE, zL, zN, aStepM, optable, set_some, Nat.reduceEqDiff, reduceIte, Nat.reduceLT, implies_true, forall_const, reduceCtorEq, V.ofValue, V.ofScalar, V.un, V.gd, guardV, V.wrap, aExec, aop, aIndexAddr, row_mk, Blk.row, Go.Vm.V.cells, List.forall_mem_map, List.length_map, Int.toNat_natCast, Int.reduceToNat, TypeDesc.slice.injEq, Nat.reduceAdd, Nat.reduceLeDiff, Nat.reduceMul, Try.underlying3, Ty.c3, Ty.a3, Try.underlying33, Ty.c33, Ty.a33, getD_map hx, getD_map hy, hj0, hk, getD_map hz, decide_true, Bool.and_true]
              repeat (refine And.intro (by first | omega | (intros; omega) | (intros; simp_all; done) | (intros; simp_all; omega)) ?_)
              refine k _ ?_; clear k K
            -- 35 := load 3 t34
            first
            | refine v_pass 35 8 true rfl (show 35 < 49 by decide) rfl ?_ ?_
              · first | rfl | (simp only [zV, guardV, Nat.reduceEqDiff, reduceIte]; done)
              simp only [zW, set_some, Nat.reduceEqDiff, reduceIte]
            | skip
              -- 35 := load 3 t34
              refine v_op ?_; intro K k
              simp only [zE, zL, zO, zN, aStepM, optable, set_some, Nat.reduceEqDiff, reduceIte, Nat.reduceLT, implies_true, forall_const, reduceCtorEq, V.ofValue, V.ofScalar, V.un, V.gd, guardV, V.wrap, aExec, aop, aLoad, row_mk, Blk.row, PartOK, Go.Vm.part, V.cells, V.noSl, V.noRef, Nat.reduceAdd, Nat.reduceLeDiff, Nat.reduceMul, Try.underlying3, Ty.c3, Ty.a3, getD_map hx, getD_map hy, hj0, hk, getD_map hz]
              repeat (refine And.intro (by first | omega | (intros; omega) | (intros; simp_all; done) | (intros; simp_all; omega)) ?_)
              refine k _ ?_; clear k K
            -- 36 := move t8
            first
            | refine v_pass 36 8 true rfl (show 36 < 49 by decide) rfl ?_ ?_
              · first | rfl | (simp only [zV, guardV, Nat.reduceEqDiff, reduceIte]; done)
              simp only [zW, set_some, Nat.reduceEqDiff, reduceIte]
            | skip
              -- 36 := move t8
              refine v_op ?_; intro K k
              simp only [zE, zG, aStepM, optable, set_some, Nat.reduceEqDiff, reduceIte, Nat.reduceLT, implies_true, forall_const, reduceCtorEq, V.ofValue, V.ofScalar, V.un, V.gd, guardV, V.wrap, aExec, aop, getD_map hx, getD_map hy, hj0, hk, getD_map hz, decide_true, Bool.and_true]
              repeat (refine And.intro (by first | omega | (intros; omega) | (intros; simp_all; done) | (intros; simp_all; omega)) ?_)
              refine k _ ?_; clear k K
            -- 37 := binOp Go.BinOp.geq 3 t35 t36 3
            first
            | refine v_pass 37 8 true rfl (show 37 < 49 by decide) rfl ?_ ?_
              · first | rfl | (simp only [zV, guardV, Nat.reduceEqDiff, reduceIte]; done)
              simp only [zW, set_some, Nat.reduceEqDiff, reduceIte]
            | skip
              -- 37 := binOp Go.BinOp.geq 3 t35 t36 3
              refine v_op ?_; intro K k
              simp only [zE, zG, aStepM, optable, set_some, Nat.reduceEqDiff, reduceIte, Nat.reduceLT, implies_true, forall_const, reduceCtorEq, V.ofValue, V.ofScalar, V.un, V.gd, guardV, V.wrap, aExec, aop, aBin, Try.underlying3, getD_map hx, getD_map hy, hj0, hk, getD_map hz, decide_true, Bool.and_true]
              repeat (refine And.intro (by first | omega | (intros; omega) | (intros; simp_all; done) | (intros; simp_all; omega)) ?_)
              refine k _ ?_; clear k K
            -- 38 := pick t30 t37 c<false>
            first
            | refine v_pass 38 5 false rfl (show 38 < 49 by decide) rfl ?_ ?_
              · first | rfl | (simp only [zV, guardV, Nat.reduceEqDiff, reduceIte]; done)
              simp only [zW, set_some, Nat.reduceEqDiff, reduceIte]
            | skip
              -- 38 := pick t30 t37 c<false>
              refine v_op ?_; intro K k
              simp only [zE, zP, zG, aStepM, optable, set_some, Nat.reduceEqDiff, reduceIte, Nat.reduceLT, implies_true, forall_const, reduceCtorEq, V.ofValue, V.ofScalar, V.un, V.gd, guardV, V.wrap, aExec, aop, pickV, getD_map hx, getD_map hy, hj0, hk, getD_map hz, decide_true, Bool.and_true]
              repeat (refine And.intro (by first | omega | (intros; omega) | (intros; simp_all; done) | (intros; simp_all; omega)) ?_)
              refine k _ ?_; clear k K
            -- 39 := pick t27 c<true> t38
            refine v_op ?_; intro K k
            simp only [zE, zP, aStepM, optable, set_some, Nat.reduceEqDiff, reduceIte, Nat.reduceLT, implies_true, forall_const, reduceCtorEq, V.ofValue, V.ofScalar, V.un, V.gd, aExec, aop, pickV, getD_map hx, getD_map hy, hj0, hk, getD_map hz, decide_true, Bool.and_true]
            repeat (refine And.intro (by first | omega | (intros; omega) | (intros; simp_all; done) | (intros; simp_all; omega)) ?_)
            refine k _ ?_; clear k K
            refine k39 _ ?_
            refine n38 _ _ (weak_keep [0, 1, 6, 9, 10, 11, 15, 16, 17, 39] _) ?_
            simp only [keep_mk, keepE_nil, keepE_cons, look_cons, look_nil, Nat.reduceEqDiff, reduceIte]
            refine v_cond _ rfl ?_ ?_  -- COND 2
            · intro hc2
              try simp only [zC, reduceCtorEq] at hc2
              refine v_seq ?_; intro Q41 n41 e41 r41  -- SEQ 17
              refine v_region ?_; intro K42 k42
              -- 4 := assign c<false>
              refine v_op ?_; intro K k
              simp only [zE, zS, aStepM, optable, set_some, Nat.reduceEqDiff, reduceIte, Nat.reduceLT, implies_true, forall_const, reduceCtorEq, V.ofValue, V.ofScalar, V.un, V.gd, aExec, aop, Nat.reduceAdd, getD_map hx, getD_map hy, hj0, hk, getD_map hz, decide_true, Bool.and_true]
              repeat (refine And.intro (by first | omega | (intros; omega) | (intros; simp_all; done) | (intros; simp_all; omega)) ?_)
              refine k _ ?_; clear k K
              refine k42 _ ?_
              refine n41 _ _ (weak_keep [4] _) ?_
              simp only [keep_mk, keepE_nil, keepE_cons, look_cons, look_nil, Nat.reduceEqDiff, reduceIte]
              refine v_ret ?_
              refine r35 _ ?_
              refine r34 _ ?_
              refine r19 _ ?_
              refine r18 _ ?_
              refine r13 _ ?_
              refine r12 _ ?_
              refine r7 _ ?_
              refine r6 _ ?_
              refine r3 _ ?_
              refine r0 _ ?_
              simp only [resK, pickRV, get_mk, look_cons, look_nil, Nat.reduceEqDiff, reduceIte, List.map_cons, List.map_nil]
              exact ret_pure rfl (by rw [rosterB, hR, hstep, ← hR2, hst]; simp [inR]; intros; omega) (.inl rfl)
            · intro hc2
              try simp only [zC, reduceCtorEq] at hc2
              refine v_skip ?_
              refine n35 _ ?_
              refine n34 _ _ (weak_keep [0, 1, 6, 9, 10, 11, 15, 16, 17] _) ?_
              simp only [keep_mk, keepE_nil, keepE_cons, look_cons, look_nil, Nat.reduceEqDiff, reduceIte]
              refine v_region ?_; intro K43 k43
              -- 40 := binOp Go.BinOp.add 3 t17 c<1:i64> 3
              refine v_op ?_; intro K k
              simp only [zE, aStepM, optable, set_some, Nat.reduceEqDiff, reduceIte, Nat.reduceLT, implies_true, forall_const, reduceCtorEq, V.ofValue, V.ofScalar, V.un, V.gd, aExec, aop, aBin, Try.underlying3, getD_map hx, getD_map hy, hj0, hk, getD_map hz, decide_true, Bool.and_true]
              try simp (disch := omega) only [wrap64]
              repeat (refine And.intro (by first | omega | (intros; omega) | (intros; simp_all; done) | (intros; simp_all; omega)) ?_)
              refine k _ ?_; clear k K
              -- 17 := move t40
              refine v_op ?_; intro K k
              simp only [zE, aStepM, optable, set_some, Nat.reduceEqDiff, reduceIte, Nat.reduceLT, implies_true, forall_const, reduceCtorEq, V.ofValue, V.ofScalar, V.un, V.gd, aExec, aop, getD_map hx, getD_map hy, hj0, hk, getD_map hz, decide_true, Bool.and_true]
              repeat (refine And.intro (by first | omega | (intros; omega) | (intros; simp_all; done) | (intros; simp_all; omega)) ?_)
              refine k _ ?_; clear k K
              refine k43 _ ?_
              refine n19 _ (j + 1) ?_ ?_ ?_
              · refine weak_of [0, 1, 6, 9, 10, 11, 15, 16, 17] ?_
                simp only [keep_mk, keepE_nil, keepE_cons, look_cons, look_nil, Nat.reduceEqDiff, reduceIte]
                rfl
              · exact ⟨by omega, by rw [← hR2, hst]; simp [inR]; intros; omega⟩
              · show _ < _; omega
        · intro hc1
          try simp only [zC, reduceCtorEq] at hc1
          refine v_exit ?_
          refine e22 _ _ ?_
          refine e19 _ _ ?_
          refine x18 _ ?_
          refine n13 _ ?_
          refine n12 _ _ (weak_keep [0, 1, 9, 10, 11] _) ?_
          simp only [keep_mk, keepE_nil, keepE_cons, look_cons, look_nil, Nat.reduceEqDiff, reduceIte]
          refine v_region ?_; intro K44 k44
          -- 41 := binOp Go.BinOp.add 3 t11 c<1:i64> 3
          refine v_op ?_; intro K k
          simp only [zE, aStepM, optable, set_some, Nat.reduceEqDiff, reduceIte, Nat.reduceLT, implies_true, forall_const, reduceCtorEq, V.ofValue, V.ofScalar, V.un, V.gd, aExec, aop, aBin, Try.underlying3, getD_map hx]
          try simp (disch := omega) only [wrap64]
          repeat (refine And.intro (by first | omega | (intros; omega) | (intros; simp_all; done) | (intros; simp_all; omega)) ?_)
          refine k _ ?_; clear k K
          -- 11 := move t41
          refine v_op ?_; intro K k
          simp only [zE, aStepM, optable, set_some, Nat.reduceEqDiff, reduceIte, Nat.reduceLT, implies_true, forall_const, reduceCtorEq, V.ofValue, V.ofScalar, V.un, V.gd, aExec, aop, getD_map hx]
          repeat (refine And.intro (by first | omega | (intros; omega) | (intros; simp_all; done) | (intros; simp_all; omega)) ?_)
          refine k _ ?_; clear k K
          refine k44 _ ?_
          refine n7 _ (i + 1) ?_ ?_ ?_
          · refine weak_of [0, 1, 9, 10, 11] ?_
            simp only [keep_mk, keepE_nil, keepE_cons, look_cons, look_nil, Nat.reduceEqDiff, reduceIte]
            rfl
          · exact ⟨by omega, by rw [hR, hstep, ← hR2, risingAt_end (by omega)]; simp⟩
          · show _ < _; omega
    · intro hc0
      try simp only [zC, reduceCtorEq] at hc0
      refine v_exit ?_
      refine e10 _ _ ?_
      refine e7 _ _ ?_
      refine x6 _ ?_
      refine n3 _ _ (weak_keep [0, 1] _) ?_
      simp only [keep_mk, keepE_nil, keepE_cons, look_cons, look_nil, Nat.reduceEqDiff, reduceIte]
      refine v_seq ?_; intro Q45 n45 e45 r45  -- SEQ 18
      refine v_region ?_; intro K46 k46
      -- 42 := move t0
      refine v_op ?_; intro K k
      simp only [zE, aStepM, optable, set_some, Nat.reduceEqDiff, reduceIte, Nat.reduceLT, implies_true, forall_const, reduceCtorEq, V.ofValue, V.ofScalar, V.un, V.gd, aExec, aop]
      repeat (refine And.intro (by first | omega | (intros; omega) | (intros; simp_all; done) | (intros; simp_all; omega)) ?_)
      refine k _ ?_; clear k K
      -- 43 := call b Go.Builtin.len t42 | 28
      refine v_op ?_; intro K k
      simp only [zE, zL, zN, aStepM, optable, set_some, Nat.reduceEqDiff, reduceIte, Nat.reduceLT, implies_true, forall_const, reduceCtorEq, V.ofValue, V.ofScalar, V.un, V.gd, aExec, aop, List.length_map, aLen, lenOK, row_mk, Blk.row, List.size_toArray, List.getD_eq_getElem?_getD, Array.getD_eq_getD_getElem?, Option.getD_some, Nat.reduceAdd, Nat.reduceLeDiff, Nat.reduceMul, Try.underlying3, Ty.c3, Ty.a3, Ty.b3, Ty.s3, Try.underlying28, Ty.c28, Ty.a28, Ty.b28, Ty.s28, Try.underlying33, Ty.c33, Ty.a33, Ty.b33, Ty.s33]
      repeat (refine And.intro (by first | omega | (intros; omega) | (intros; simp_all; done) | (intros; simp_all; omega)) ?_)
      refine k _ ?_; clear k K
      -- 44 := binOp Go.BinOp.leq 3 t43 c<21:i64> 3
      refine v_op ?_; intro K k
      simp only [zE, aStepM, optable, set_some, Nat.reduceEqDiff, reduceIte, Nat.reduceLT, implies_true, forall_const, reduceCtorEq, V.ofValue, V.ofScalar, V.un, V.gd, aExec, aop, aBin, Try.underlying3]
      repeat (refine And.intro (by first | omega | (intros; omega) | (intros; simp_all; done) | (intros; simp_all; omega)) ?_)
      refine k _ ?_; clear k K
      -- 45 := move t44
      refine v_op ?_; intro K k
      simp only [zE, aStepM, optable, set_some, Nat.reduceEqDiff, reduceIte, Nat.reduceLT, implies_true, forall_const, reduceCtorEq, V.ofValue, V.ofScalar, V.un, V.gd, aExec, aop]
      repeat (refine And.intro (by first | omega | (intros; omega) | (intros; simp_all; done) | (intros; simp_all; omega)) ?_)
      refine k _ ?_; clear k K
      -- 46 := move t1
      first
      | refine v_pass 46 3 true rfl (show 46 < 49 by decide) rfl ?_ ?_
        · first | rfl | (simp only [zV, guardV, Nat.reduceEqDiff, reduceIte]; done)
        simp only [zW, set_some, Nat.reduceEqDiff, reduceIte]
      | skip
        -- 46 := move t1
        refine v_op ?_; intro K k
        simp only [zE, zG, aStepM, optable, set_some, Nat.reduceEqDiff, reduceIte, Nat.reduceLT, implies_true, forall_const, reduceCtorEq, V.ofValue, V.ofScalar, V.un, V.gd, guardV, V.wrap, aExec, aop]
        repeat (refine And.intro (by first | omega | (intros; omega) | (intros; simp_all; done) | (intros; simp_all; omega)) ?_)
        refine k _ ?_; clear k K
      -- 47 := call v f58 t46 c<1:i64> c<9:i64> | 3 3 3
      first
      | refine v_pass 47 3 true rfl (show 47 < 49 by decide) rfl ?_ ?_
        · first | rfl | (simp only [zV, guardV, Nat.reduceEqDiff, reduceIte]; done)
        simp only [zW, set_some, Nat.reduceEqDiff, reduceIte]
      | skip
        -- 47 := call v f58 t46 c<1:i64> c<9:i64> | 3 3 3
        refine v_op ?_; intro K k
        simp only [zE, zG, aStepM, optable, set_some, Nat.reduceEqDiff, reduceIte, Nat.reduceLT, implies_true, forall_const, reduceCtorEq, V.ofValue, V.ofScalar, V.un, V.gd, guardV, Try.underlying3, Ty.c3, Ty.a3, Ty.b3, Ty.s3, Try.underlying4, Ty.c4, Ty.a4, Ty.b4, Ty.s4]
        simp only [zM, zW, aExec, lentIds, lendOf, set_some, Nat.reduceEqDiff, reduceIte, V.ofValue, V.ofScalar, V.un, V.gd, and_true, true_and, implies_true, and_self, decide_eq_true_eq]
        first | refine Exists.imp (fun r h => h) (aCall_guardT (inside_con _ _ _) (by first | rfl | (simp only [toArgs, toArg, toCell, toCells, idx, row_mk, List.getElem?_cons_zero, List.getElem?_cons_succ, Option.bind_some, Option.map_some, Blk.row, fillK_mix, flat_mix, deep_mix, cond_true]; done) | (simp [toArgs, toArg, toCell, toCells, idx, row_mk, Blk.row, fillK_mix, Nat.beq_refl]; done)) rfl rfl ?_) | refine Exists.imp (fun r h => h) (aCall_guard (by first | (intros; trivial) | (intros; simp_all; done)) (fun hg => inside_con _ _ _) (by first | rfl | (simp only [toArgs, toArg, toCell, toCells, idx, row_mk, List.getElem?_cons_zero, List.getElem?_cons_succ, Option.bind_some, Option.map_some, Blk.row, fillK_mix, flat_mix, deep_mix, cond_true]; done) | (simp [toArgs, toArg, toCell, toCells, idx, row_mk, Blk.row, fillK_mix, Nat.beq_refl]; done)) rfl rfl ?_)
        refine k _ ?_
        clear k K
      -- 48 := pick t45 t47 c<false>
      refine v_op ?_; intro K k
      simp only [zE, zP, aStepM, optable, set_some, Nat.reduceEqDiff, reduceIte, Nat.reduceLT, implies_true, forall_const, reduceCtorEq, V.ofValue, V.ofScalar, V.un, V.gd, aExec, aop, pickV]
      repeat (refine And.intro (by first | omega | (intros; omega) | (intros; simp_all; done) | (intros; simp_all; omega)) ?_)
      refine k _ ?_; clear k K
      -- 4 := assign t48
      refine v_op ?_; intro K k
      simp only [zE, zS, aStepM, optable, set_some, Nat.reduceEqDiff, reduceIte, Nat.reduceLT, implies_true, forall_const, reduceCtorEq, V.ofValue, V.ofScalar, V.un, V.gd, aExec, aop, Nat.reduceAdd]
      repeat (refine And.intro (by first | omega | (intros; omega) | (intros; simp_all; done) | (intros; simp_all; omega)) ?_)
      refine k _ ?_; clear k K
      refine k46 _ ?_
      refine n45 _ _ (weak_keep [4] _) ?_
      simp only [keep_mk, keepE_nil, keepE_cons, look_cons, look_nil, Nat.reduceEqDiff, reduceIte]
      refine v_ret ?_
      refine r0 _ ?_
      simp only [resK, pickRV, get_mk, look_cons, look_nil, Nat.reduceEqDiff, reduceIte, List.map_cons, List.map_nil]
      exact ret_pure rfl (by rw [List.drop_of_length_le (by omega), List.all_nil] at hR; simp only [rosterB, hR]; simp [Bool.and_comm, Bool.and_left_comm, Bool.and_assoc]) (.inl rfl)
end Go.Proofs.Ythehbhfjapinnaa
