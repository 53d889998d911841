/- What functions compute (Turns). No condition. -/
import Derived.Test.YtldnelkcmffiaaaTy
import Derived.Test.YtldnelkcmffiaaaVm21
import Derived.Test.YtldnelkcmffiaaaWTurn
import Derived.Test.YtldnelkcmffiaaaWBase
import Derived.Test.YtldnelkcmffiaaaWNames
import Derived.Test.YtldnelkcmffiaaaWCmp
set_option linter.unusedSimpArgs false
set_option linter.unusedVariables false
namespace Go.Proofs.Ytldnelkcmffiaaa
open Go Go.Vm

-- loop.example/g01020/spec.dbGood
set_option maxHeartbeats 1000000 in
theorem dbGood_con (l : List (Int × ByteArray × Int × Int)) (hl : l.length ≤ 1048576) (hls : ∀ t ∈ l, t.2.1.size ≤ 9223372036854775807) : Con Try.prog 28 [.sl (l.map (fun t : Int × ByteArray × Int × Int => V.agg [V.int .i64 t.1, V.str t.2.1, V.int .i64 t.2.2.1, V.int .i64 t.2.2.2]))] [] (.bool (turnsB l)) [] := by
  refine v_con [.tmp 2] [] Try.func28 rfl rfl rfl (by simp [Try.ntmps28]) ?_
  intro Q0 n0 r0
  simp only [Try.ntmps28, envFrom, Nat.reduceAdd]
  refine v_seq ?_; intro Q1 n1 e1 r1  -- SEQ 0
  refine v_region ?_; intro K2 k2
  -- 2 := assign c<false>
  refine v_op ?_; intro K k
  simp only [zE, zS, aStepM, optable, set_some, Nat.reduceEqDiff, reduceIte, Nat.reduceLT, implies_true, forall_const, reduceCtorEq, V.ofValue, V.ofScalar, V.un, V.gd, aExec, aop, Nat.reduceAdd]
  repeat (refine And.intro (by first | omega | (intros; omega) | (intros; simp_all; done) | (intros; simp_all; omega)) ?_)
  refine k _ ?_; clear k K
  refine k2 _ ?_
  refine n1 _ _ (weak_keep [0] _) ?_
  simp only [keep_mk, keepE_nil, keepE_cons, look_cons, look_nil, Nat.reduceEqDiff, reduceIte]
  refine v_seq ?_; intro Q3 n3 e3 r3  -- SEQ 1
  refine v_seq ?_; intro Q4 n4 e4 r4  -- SEQ 2
  refine v_region ?_; intro K5 k5
  -- 5 := move t0
  refine v_op ?_; intro K k
  simp only [zE, aStepM, optable, set_some, Nat.reduceEqDiff, reduceIte, Nat.reduceLT, implies_true, forall_const, reduceCtorEq, V.ofValue, V.ofScalar, V.un, V.gd, aExec, aop]
  repeat (refine And.intro (by first | omega | (intros; omega) | (intros; simp_all; done) | (intros; simp_all; omega)) ?_)
  refine k _ ?_; clear k K
  -- 6 := call b Go.Builtin.len t5 | 26
  refine v_op ?_; intro K k
  simp only [zE, zL, zN, aStepM, optable, set_some, Nat.reduceEqDiff, reduceIte, Nat.reduceLT, implies_true, forall_const, reduceCtorEq, V.ofValue, V.ofScalar, V.un, V.gd, aExec, aop, List.length_map, aLen, lenOK, row_mk, Blk.row, List.size_toArray, List.getD_eq_getElem?_getD, Array.getD_eq_getD_getElem?, Option.getD_some, Nat.reduceAdd, Nat.reduceLeDiff, Nat.reduceMul, Try.underlying3, Ty.c3, Ty.a3, Ty.b3, Ty.s3, Try.underlying26, Ty.c26, Ty.a26, Ty.b26, Ty.s26, Try.underlying54, Ty.c54, Ty.a54, Ty.b54, Ty.s54]
  repeat (refine And.intro (by first | omega | (intros; omega) | (intros; simp_all; done) | (intros; simp_all; omega)) ?_)
  refine k _ ?_; clear k K
  -- 7 := move c<0:i64>
  refine v_op ?_; intro K k
  simp only [zE, aStepM, optable, set_some, Nat.reduceEqDiff, reduceIte, Nat.reduceLT, implies_true, forall_const, reduceCtorEq, V.ofValue, V.ofScalar, V.un, V.gd, aExec, aop]
  repeat (refine And.intro (by first | omega | (intros; omega) | (intros; simp_all; done) | (intros; simp_all; omega)) ?_)
  refine k _ ?_; clear k K
  refine k5 _ ?_
  refine n4 _ _ (weak_keep [0, 5, 6, 7] _) ?_
  simp only [keep_mk, keepE_nil, keepE_cons, look_cons, look_nil, Nat.reduceEqDiff, reduceIte]
  refine v_block ?_; intro Q6 n6 x6 e6 r6
  refine v_loop (fun i => ⟨[(0, .sl (l.map (fun t : Int × ByteArray × Int × Int => V.agg [V.int .i64 t.1, V.str t.2.1, V.int .i64 t.2.2.1, V.int .i64 t.2.2.2]))), (5, .sl (l.map (fun t : Int × ByteArray × Int × Int => V.agg [V.int .i64 t.1, V.str t.2.1, V.int .i64 t.2.2.1, V.int .i64 t.2.2.2]))), (6, .int .i64 l.length), (7, .int .i64 (Nat.cast i))], [], false, 33, 0⟩) (fun i => i ≤ l.length ∧ chainAt tOne tBefore l i = chainAt tOne tBefore l 0) (fun i => l.length - i) 0 ?_ ?_ ?_
  · refine weak_of [0, 5, 6, 7] ?_
    simp only [keep_mk, keepE_nil, keepE_cons, look_cons, look_nil, Nat.reduceEqDiff, reduceIte]
    rfl
  · exact ⟨Nat.zero_le _, rfl⟩
  · rintro i hok7 Q7 n7 e7 r7
    obtain ⟨hi1, hR⟩ := hok7
    refine v_seq ?_; intro Q8 n8 e8 r8  -- SEQ 3
    refine v_region ?_; intro K9 k9
    -- 8 := binOp Go.BinOp.lss 3 t7 t6 3
    refine v_op ?_; intro K k
    simp only [zE, aStepM, optable, set_some, Nat.reduceEqDiff, reduceIte, Nat.reduceLT, implies_true, forall_const, reduceCtorEq, V.ofValue, V.ofScalar, V.un, V.gd, aExec, aop, aBin, Try.underlying3]
    repeat (refine And.intro (by first | omega | (intros; omega) | (intros; simp_all; done) | (intros; simp_all; omega)) ?_)
    refine k _ ?_; clear k K
    refine k9 _ ?_
    refine n8 _ _ (weak_keep [0, 5, 6, 7, 8] _) ?_
    simp only [keep_mk, keepE_nil, keepE_cons, look_cons, look_nil, Nat.reduceEqDiff, reduceIte]
    refine v_seq ?_; intro Q10 n10 e10 r10  -- SEQ 4
    refine v_cond _ rfl ?_ ?_  -- COND 0
    · intro hc0
      try simp only [zC, reduceCtorEq] at hc0
      have hlt : i < l.length := by omega
      obtain ⟨⟨x0, x1, x2, x3⟩, hx⟩ : ∃ x : Int × ByteArray × Int × Int, l[i]? = some x := ⟨l[i]'(by omega), List.getElem?_eq_getElem (by omega)⟩
      have hsx := hls _ (List.mem_of_getElem? hx)
      rcases Nat.eq_zero_or_pos i with h0 | h0
      · skip
        have hi0 : ¬ ((0 : Int) < (i : Int)) := by omega
        have hst : chainAt tOne tBefore l i = (tOne (x0, x1, x2, x3) && chainAt tOne tBefore l (i + 1)) := by subst h0; exact chain_zero hx
        refine v_skip ?_
        refine n10 _ _ (weak_keep [0, 5, 6, 7] _) ?_
        simp only [keep_mk, keepE_nil, keepE_cons, look_cons, look_nil, Nat.reduceEqDiff, reduceIte]
        refine v_seq ?_; intro Q12 n12 e12 r12  -- SEQ 5
        refine v_block ?_; intro Q13 n13 x13 e13 r13
        refine v_seq ?_; intro Q14 n14 e14 r14  -- SEQ 6
        refine v_region ?_; intro K15 k15
        -- 9 := move t7
        refine v_op ?_; intro K k
        simp only [zE, aStepM, optable, set_some, Nat.reduceEqDiff, reduceIte, Nat.reduceLT, implies_true, forall_const, reduceCtorEq, V.ofValue, V.ofScalar, V.un, V.gd, aExec, aop, getD_map hx, hi0, decide_false, Bool.and_false]
        repeat (refine And.intro (by first | omega | (intros; omega) | (intros; simp_all; done) | (intros; simp_all; omega)) ?_)
        refine k _ ?_; clear k K
        -- 10 := indexAddr 26 t5 t7
        refine v_op ?_; intro K k
        simp only [zE, zL, zN, aStepM, optable, set_some, Nat.reduceEqDiff, reduceIte, Nat.reduceLT, implies_true, forall_const, reduceCtorEq, V.ofValue, V.ofScalar, V.un, V.gd, aExec, aop, aIndexAddr, row_mk, Blk.row, Go.Vm.V.cells, List.forall_mem_map, List.length_map, Int.toNat_natCast, Int.reduceToNat, TypeDesc.slice.injEq, Nat.reduceAdd, Nat.reduceLeDiff, Nat.reduceMul, Try.underlying26, Ty.c26, Ty.a26, Try.underlying54, Ty.c54, Ty.a54, getD_map hx, hi0, decide_false, Bool.and_false]
        repeat (refine And.intro (by first | omega | (intros; omega) | (intros; simp_all; done) | (intros; simp_all; omega)) ?_)
        refine k _ ?_; clear k K
        -- 11 := load 54 t10
        refine v_op ?_; intro K k
        simp only [zE, zL, zO, zN, aStepM, optable, set_some, Nat.reduceEqDiff, reduceIte, Nat.reduceLT, implies_true, forall_const, reduceCtorEq, V.ofValue, V.ofScalar, V.un, V.gd, aExec, aop, aLoad, row_mk, Blk.row, PartOK, Go.Vm.part, V.cells, V.noSl, V.noRef, Nat.reduceAdd, Nat.reduceLeDiff, Nat.reduceMul, Try.underlying3, Ty.c3, Ty.a3, Try.underlying9, Ty.c9, Ty.a9, Try.underlying54, Ty.c54, Ty.a54, getD_map hx, hi0]
        repeat (refine And.intro (by first | omega | (intros; omega) | (intros; simp_all; done) | (intros; simp_all; omega)) ?_)
        refine k _ ?_; clear k K
        -- 4 := alloc 54
        refine v_op ?_; intro K k
        simp only [zE, zS, zO, zN, aStepM, optable, set_some, Nat.reduceEqDiff, reduceIte, Nat.reduceLT, implies_true, forall_const, reduceCtorEq, V.ofValue, V.ofScalar, V.un, V.gd, aExec, aop, Nat.reduceAdd, Value.oneCell', V.isVal, V.cells, kindOf, kindAll, V.noSl, V.noRef, List.all_cons, List.all_nil, List.map_cons, List.map_nil, gt_iff_lt, Nat.reduceLeDiff, Nat.reduceMul, Try.underlying3, Ty.c3, Ty.a3, Ty.z3, Try.underlying9, Ty.c9, Ty.a9, Ty.z9, Try.underlying54, Ty.c54, Ty.a54, Ty.z54, getD_map hx, hi0]
        repeat (refine And.intro (by first | omega | (intros; omega) | (intros; simp_all; done) | (intros; simp_all; omega)) ?_)
        refine k _ ?_; clear k K
        -- 3 := assign t9
        refine v_op ?_; intro K k
        simp only [zE, zS, aStepM, optable, set_some, Nat.reduceEqDiff, reduceIte, Nat.reduceLT, implies_true, forall_const, reduceCtorEq, V.ofValue, V.ofScalar, V.un, V.gd, aExec, aop, Nat.reduceAdd, getD_map hx, hi0, decide_false, Bool.and_false]
        repeat (refine And.intro (by first | omega | (intros; omega) | (intros; simp_all; done) | (intros; simp_all; omega)) ?_)
        refine k _ ?_; clear k K
        -- None := store 54 t4 t11
        refine v_op ?_; intro K k
        simp only [zE, zS, zJ, zL, zO, zN, aStepM, optable, set_some, Nat.reduceEqDiff, reduceIte, Nat.reduceLT, implies_true, forall_const, reduceCtorEq, V.ofValue, V.ofScalar, V.un, V.gd, aExec, aop, aStore, setCells, V.isVal, V.cells, kindOf, kindAll, V.noSl, V.noRef, gt_iff_lt, Nat.reduceAdd, Nat.reduceLeDiff, Nat.reduceMul, takeV, takeCell, takeCells, row_mk, Blk.row, killAll, Nat.reduceBEq, Try.underlying3, Ty.c3, Ty.a3, Try.underlying9, Ty.c9, Ty.a9, Try.underlying54, Ty.c54, Ty.a54, getD_map hx, hi0]
        repeat (refine And.intro (by first | omega | (intros; omega) | (intros; simp_all; done) | (intros; simp_all; omega)) ?_)
        refine k _ ?_; clear k K
        refine k15 _ ?_
        refine n14 _ _ (weak_keep [0, 3, 4, 5, 6, 7] _) ?_
        simp only [keep_mk, keepE_nil, keepE_cons, look_cons, look_nil, Nat.reduceEqDiff, reduceIte]
        refine v_seq ?_; intro Q16 n16 e16 r16  -- SEQ 7
        refine v_draw (by kernel_rfl) ?_; intro K17 q17 k17
        show aAny _ _ _ _ 17 (Array.replicate 17 false) _
        -- 12 := load 54 t4
        refine aAny_take q17 true 0 12 rfl rfl (by kernel_rfl) (by kernel_rfl) ?_
        apply Exists.intro; apply And.intro
        · intro t hn gx ho K' k'
          have g4 := gx 4 (by decide)
          simp only [get_mk, look_cons, look_nil, set_some, Nat.reduceEqDiff, reduceIte] at g4
          first | have row0 := grow_row (i := 0) (ho rfl) rfl | have row0 : t.n + 0 = t.n := rfl
          first | have row1 := grow_row (i := 1) (ho rfl) rfl | have row1 : t.n + 0 = t.n := rfl
          first | have row2 := grow_row (i := 2) (ho rfl) rfl | have row2 : t.n + 0 = t.n := rfl
          have hdl : 12 < t.n := by rw [hn]; show 12 < 33; decide
          clear hn
          refine .inl ?_
          simp only [zE, zL, zO, zN, hdl, aStepM, optable, Nat.reduceEqDiff, reduceIte, implies_true, forall_const, reduceCtorEq, V.ofValue, V.ofScalar, V.un, V.gd, aExec, aop, g4, row0, row1, row2, aLoad, row_mk, Blk.row, PartOK, Go.Vm.part, V.cells, V.noSl, V.noRef, Nat.reduceAdd, Nat.reduceLeDiff, Nat.reduceLT, Nat.reduceMul, Try.underlying3, Ty.c3, Ty.a3, Try.underlying9, Ty.c9, Ty.a9, Try.underlying54, Ty.c54, Ty.a54, getD_map hx, hi0]
          repeat (refine And.intro (by first | omega | (intros; omega) | (intros; simp_all; done) | (intros; simp_all; omega)) ?_)
          exact k'
        simp only [set_some]
        -- 13 := call v f58 t12 | 54
        refine aAny_only 1 rfl (by kernel_rfl) ?_; intro K k
        simp only [zE, zM, aStepM, optable, set_some, Nat.reduceEqDiff, reduceIte, Nat.reduceLT, implies_true, forall_const, reduceCtorEq, V.ofValue, V.ofScalar, V.un, V.gd, aExec, lentIds, lendOf, Try.underlying3, Ty.c3, Ty.a3, Ty.b3, Ty.s3, Try.underlying4, Ty.c4, Ty.a4, Ty.b4, Ty.s4, Try.underlying9, Ty.c9, Ty.a9, Ty.b9, Ty.s9, Try.underlying54, Ty.c54, Ty.a54, Ty.b54, Ty.s54]
        repeat (refine And.intro (by first | rfl | (intros; simp_all; done)) ?_)
        refine aCall_new (dbOne_con x0 x1 x2 x3 hsx) (by first | rfl | (simp only [toArgs, toArg, toCell, toCells, idx, row_mk, List.getElem?_cons_zero, List.getElem?_cons_succ, Option.bind_some, Option.map_some, Blk.row, fillK_mix, flat_mix, deep_mix, cond_true]; done) | (simp [toArgs, toArg, toCell, toCells, idx, row_mk, Blk.row, fillK_mix, Nat.beq_refl]; done)) (by first | exact .inl ⟨rfl, by simp [Blk.kindIs, fillK_fd]⟩ | exact .inr (by simp [V.cold])) ?_
        refine k _ ?_; clear k K
        simp only [zY, zW, set_some, Nat.reduceEqDiff, reduceIte, V.ren, V.renL, rho, Nat.reduceAdd]
        -- 14 := unOp Go.UnOp.not 4 t13
        refine aAny_take q17 true 2 14 rfl rfl (by kernel_rfl) (by kernel_rfl) ?_
        apply Exists.intro; apply And.intro
        · intro t hn gx ho K' k'
          have g13 := gx 13 (by decide)
          simp only [get_mk, look_cons, look_nil, set_some, Nat.reduceEqDiff, reduceIte] at g13
          have hdl : 14 < t.n := by rw [hn]; show 14 < 33; decide
          clear hn
          refine .inl ?_
          simp only [zE, hdl, aStepM, optable, Nat.reduceEqDiff, reduceIte, implies_true, forall_const, reduceCtorEq, V.ofValue, V.ofScalar, V.un, V.gd, aExec, aop, g13, aUn, Try.underlying4, getD_map hx, hi0, decide_false, Bool.and_false]
          repeat (refine And.intro (by first | omega | (intros; omega) | (intros; simp_all; done) | (intros; simp_all; omega)) ?_)
          exact k'
        simp only [set_some]
        -- 15 := move t14
        refine aAny_take q17 true 3 15 rfl rfl (by kernel_rfl) (by kernel_rfl) ?_
        apply Exists.intro; apply And.intro
        · intro t hn gx ho K' k'
          have g14 := gx 14 (by decide)
          simp only [get_mk, look_cons, look_nil, set_some, Nat.reduceEqDiff, reduceIte] at g14
          have hdl : 15 < t.n := by rw [hn]; show 15 < 33; decide
          clear hn
          refine .inl ?_
          simp only [zE, hdl, aStepM, optable, Nat.reduceEqDiff, reduceIte, implies_true, forall_const, reduceCtorEq, V.ofValue, V.ofScalar, V.un, V.gd, aExec, aop, g14, getD_map hx, hi0, decide_false, Bool.and_false]
          repeat (refine And.intro (by first | omega | (intros; omega) | (intros; simp_all; done) | (intros; simp_all; omega)) ?_)
          exact k'
        simp only [set_some]
        -- 16 := move t3
        refine aAny_take q17 true 4 16 rfl rfl (by kernel_rfl) (by kernel_rfl) ?_
        apply Exists.intro; apply And.intro
        · intro t hn gx ho K' k'
          have g3 := gx 3 (by decide)
          have g15 := gx 15 (by decide)
          simp only [get_mk, look_cons, look_nil, set_some, Nat.reduceEqDiff, reduceIte] at g3 g15
          have hdl : 16 < t.n := by rw [hn]; show 16 < 33; decide
          clear hn
          first
          | refine .inr ⟨hdl, 3, false, rfl, ?_, k'⟩
            first | rfl | (simp only [zV, guardV, Nat.reduceEqDiff, reduceIte, g3, g15]; done)
          | skip
            refine .inl ?_
            simp only [zE, zG, hdl, aStepM, optable, Nat.reduceEqDiff, reduceIte, implies_true, forall_const, reduceCtorEq, V.ofValue, V.ofScalar, V.un, V.gd, guardV, V.wrap, aExec, aop, g3, g15, getD_map hx, hi0, decide_false, Bool.and_false]
            repeat (refine And.intro (by first | omega | (intros; omega) | (intros; simp_all; done) | (intros; simp_all; omega)) ?_)
            exact k'
        simp only [set_some]
        -- 17 := binOp Go.BinOp.gtr 3 t16 c<0:i64> 3
        refine aAny_take q17 true 5 17 rfl rfl (by kernel_rfl) (by kernel_rfl) ?_
        apply Exists.intro; apply And.intro
        · intro t hn gx ho K' k'
          have g15 := gx 15 (by decide)
          have g16 := gx 16 (by decide)
          simp only [get_mk, look_cons, look_nil, set_some, Nat.reduceEqDiff, reduceIte] at g15 g16
          have hdl : 17 < t.n := by rw [hn]; show 17 < 33; decide
          clear hn
          first
          | refine .inr ⟨hdl, 3, false, rfl, ?_, k'⟩
            first | rfl | (simp only [zV, guardV, Nat.reduceEqDiff, reduceIte, g15, g16]; done)
          | skip
            refine .inl ?_
            simp only [zE, zG, hdl, aStepM, optable, Nat.reduceEqDiff, reduceIte, implies_true, forall_const, reduceCtorEq, V.ofValue, V.ofScalar, V.un, V.gd, guardV, V.wrap, aExec, aop, g15, g16, aBin, Try.underlying3, getD_map hx, hi0, decide_false, Bool.and_false]
            repeat (refine And.intro (by first | omega | (intros; omega) | (intros; simp_all; done) | (intros; simp_all; omega)) ?_)
            exact k'
        simp only [set_some]
        -- 18 := move t17
        refine aAny_take q17 true 6 18 rfl rfl (by kernel_rfl) (by kernel_rfl) ?_
        apply Exists.intro; apply And.intro
        · intro t hn gx ho K' k'
          have g15 := gx 15 (by decide)
          have g17 := gx 17 (by decide)
          simp only [get_mk, look_cons, look_nil, set_some, Nat.reduceEqDiff, reduceIte] at g15 g17
          have hdl : 18 < t.n := by rw [hn]; show 18 < 33; decide
          clear hn
          first
          | refine .inr ⟨hdl, 3, false, rfl, ?_, k'⟩
            first | rfl | (simp only [zV, guardV, Nat.reduceEqDiff, reduceIte, g15, g17]; done)
          | skip
            refine .inl ?_
            simp only [zE, zG, hdl, aStepM, optable, Nat.reduceEqDiff, reduceIte, implies_true, forall_const, reduceCtorEq, V.ofValue, V.ofScalar, V.un, V.gd, guardV, V.wrap, aExec, aop, g15, g17, getD_map hx, hi0, decide_false, Bool.and_false]
            repeat (refine And.intro (by first | omega | (intros; omega) | (intros; simp_all; done) | (intros; simp_all; omega)) ?_)
            exact k'
        simp only [set_some]
        -- 19 := move t0
        refine aAny_take q17 true 7 19 rfl rfl (by kernel_rfl) (by kernel_rfl) ?_
        apply Exists.intro; apply And.intro
        · intro t hn gx ho K' k'
          have g0 := gx 0 (by decide)
          have g18 := gx 18 (by decide)
          simp only [get_mk, look_cons, look_nil, set_some, Nat.reduceEqDiff, reduceIte] at g0 g18
          have hdl : 19 < t.n := by rw [hn]; show 19 < 33; decide
          clear hn
          first
          | refine .inr ⟨hdl, 6, true, rfl, ?_, k'⟩
            first | rfl | (simp only [zV, guardV, Nat.reduceEqDiff, reduceIte, g0, g18]; done)
          | skip
            refine .inl ?_
            simp only [zE, zG, hdl, aStepM, optable, Nat.reduceEqDiff, reduceIte, implies_true, forall_const, reduceCtorEq, V.ofValue, V.ofScalar, V.un, V.gd, guardV, V.wrap, aExec, aop, g0, g18, getD_map hx, hi0, decide_false, Bool.and_false]
            repeat (refine And.intro (by first | omega | (intros; omega) | (intros; simp_all; done) | (intros; simp_all; omega)) ?_)
            exact k'
        simp only [set_some]
        -- 20 := move t3
        refine aAny_take q17 true 8 20 rfl rfl (by kernel_rfl) (by kernel_rfl) ?_
        apply Exists.intro; apply And.intro
        · intro t hn gx ho K' k'
          have g3 := gx 3 (by decide)
          have g18 := gx 18 (by decide)
          simp only [get_mk, look_cons, look_nil, set_some, Nat.reduceEqDiff, reduceIte] at g3 g18
          have hdl : 20 < t.n := by rw [hn]; show 20 < 33; decide
          clear hn
          first
          | refine .inr ⟨hdl, 6, true, rfl, ?_, k'⟩
            first | rfl | (simp only [zV, guardV, Nat.reduceEqDiff, reduceIte, g3, g18]; done)
          | skip
            refine .inl ?_
            simp only [zE, zG, hdl, aStepM, optable, Nat.reduceEqDiff, reduceIte, implies_true, forall_const, reduceCtorEq, V.ofValue, V.ofScalar, V.un, V.gd, guardV, V.wrap, aExec, aop, g3, g18, getD_map hx, hi0, decide_false, Bool.and_false]
            repeat (refine And.intro (by first | omega | (intros; omega) | (intros; simp_all; done) | (intros; simp_all; omega)) ?_)
            exact k'
        simp only [set_some]
        -- 21 := binOp Go.BinOp.sub 3 t20 c<1:i64> 3
        refine aAny_take q17 true 9 21 rfl rfl (by kernel_rfl) (by kernel_rfl) ?_
        apply Exists.intro; apply And.intro
        · intro t hn gx ho K' k'
          have g18 := gx 18 (by decide)
          have g20 := gx 20 (by decide)
          simp only [get_mk, look_cons, look_nil, set_some, Nat.reduceEqDiff, reduceIte] at g18 g20
          have hdl : 21 < t.n := by rw [hn]; show 21 < 33; decide
          clear hn
          first
          | refine .inr ⟨hdl, 6, true, rfl, ?_, k'⟩
            first | rfl | (simp only [zV, guardV, Nat.reduceEqDiff, reduceIte, g18, g20]; done)
          | skip
            refine .inl ?_
            simp only [zE, zG, hdl, aStepM, optable, Nat.reduceEqDiff, reduceIte, implies_true, forall_const, reduceCtorEq, V.ofValue, V.ofScalar, V.un, V.gd, guardV, V.wrap, aExec, aop, g18, g20, aBin, Try.underlying3, getD_map hx, hi0, decide_false, Bool.and_false]
            try simp (disch := omega) only [wrap64]
            repeat (refine And.intro (by first | omega | (intros; omega) | (intros; simp_all; done) | (intros; simp_all; omega)) ?_)
            exact k'
        simp only [set_some]
        -- 22 := indexAddr 26 t19 t21
        refine aAny_take q17 true 10 22 rfl rfl (by kernel_rfl) (by kernel_rfl) ?_
        apply Exists.intro; apply And.intro
        · intro t hn gx ho K' k'
          have g18 := gx 18 (by decide)
          have g19 := gx 19 (by decide)
          have g21 := gx 21 (by decide)
          simp only [get_mk, look_cons, look_nil, set_some, Nat.reduceEqDiff, reduceIte] at g18 g19 g21
          first | have row0 := grow_row (i := 0) (ho rfl) rfl | have row0 : t.n + 0 = t.n := rfl
          first | have row1 := grow_row (i := 1) (ho rfl) rfl | have row1 : t.n + 0 = t.n := rfl
          first | have row2 := grow_row (i := 2) (ho rfl) rfl | have row2 : t.n + 0 = t.n := rfl
          have hdl : 22 < t.n := by rw [hn]; show 22 < 33; decide
          clear hn
          first
          | refine .inr ⟨hdl, 6, true, rfl, ?_, k'⟩
            first | rfl | (simp only [zV, guardV, Nat.reduceEqDiff, reduceIte, g18, g19, g21, row0, row1, row2]; done)
          | skip
            refine .inl ?_
            simp only [zE, zL, zN, hdl, aStepM, optable, Nat.reduceEqDiff, reduceIte, implies_true, forall_const, reduceCtorEq, V.ofValue, V.ofScalar, V.un, V.gd, guardV, V.wrap, aExec, aop, g18, g19, g21, row0, row1, row2, aIndexAddr, row_mk, Blk.row, Go.Vm.V.cells, List.forall_mem_map, List.length_map, Int.toNat_natCast, Int.reduceToNat, TypeDesc.slice.injEq, Nat.reduceAdd, Nat.reduceLeDiff, Nat.reduceLT, Nat.reduceMul, Try.underlying26, Ty.c26, Ty.a26, Try.underlying54, Ty.c54, Ty.a54, getD_map hx, hi0, decide_false, Bool.and_false]
            repeat (refine And.intro (by first | omega | (intros; omega) | (intros; simp_all; done) | (intros; simp_all; omega)) ?_)
            exact k'
        simp only [set_some]
        -- 23 := load 54 t22
        refine aAny_take q17 true 11 23 rfl rfl (by kernel_rfl) (by kernel_rfl) ?_
        apply Exists.intro; apply And.intro
        · intro t hn gx ho K' k'
          have g18 := gx 18 (by decide)
          have g22 := gx 22 (by decide)
          simp only [get_mk, look_cons, look_nil, set_some, Nat.reduceEqDiff, reduceIte] at g18 g22
          first | have row0 := grow_row (i := 0) (ho rfl) rfl | have row0 : t.n + 0 = t.n := rfl
          first | have row1 := grow_row (i := 1) (ho rfl) rfl | have row1 : t.n + 0 = t.n := rfl
          first | have row2 := grow_row (i := 2) (ho rfl) rfl | have row2 : t.n + 0 = t.n := rfl
          have hdl : 23 < t.n := by rw [hn]; show 23 < 33; decide
          clear hn
          first
          | refine .inr ⟨hdl, 6, true, rfl, ?_, k'⟩
            first | rfl | (simp only [zV, guardV, Nat.reduceEqDiff, reduceIte, g18, g22, row0, row1, row2]; done)
          | skip
            refine .inl ?_
            simp only [zE, zL, zO, zN, hdl, aStepM, optable, Nat.reduceEqDiff, reduceIte, implies_true, forall_const, reduceCtorEq, V.ofValue, V.ofScalar, V.un, V.gd, guardV, V.wrap, aExec, aop, g18, g22, row0, row1, row2, aLoad, row_mk, Blk.row, PartOK, Go.Vm.part, V.cells, V.noSl, V.noRef, Nat.reduceAdd, Nat.reduceLeDiff, Nat.reduceLT, Nat.reduceMul, Try.underlying3, Ty.c3, Ty.a3, Try.underlying9, Ty.c9, Ty.a9, Try.underlying54, Ty.c54, Ty.a54, getD_map hx, hi0]
            repeat (refine And.intro (by first | omega | (intros; omega) | (intros; simp_all; done) | (intros; simp_all; omega)) ?_)
            exact k'
        simp only [set_some]
        -- 24 := load 54 t4
        refine aAny_take q17 true 12 24 rfl rfl (by kernel_rfl) (by kernel_rfl) ?_
        apply Exists.intro; apply And.intro
        · intro t hn gx ho K' k'
          have g4 := gx 4 (by decide)
          have g18 := gx 18 (by decide)
          simp only [get_mk, look_cons, look_nil, set_some, Nat.reduceEqDiff, reduceIte] at g4 g18
          first | have row0 := grow_row (i := 0) (ho rfl) rfl | have row0 : t.n + 0 = t.n := rfl
          first | have row1 := grow_row (i := 1) (ho rfl) rfl | have row1 : t.n + 0 = t.n := rfl
          first | have row2 := grow_row (i := 2) (ho rfl) rfl | have row2 : t.n + 0 = t.n := rfl
          have hdl : 24 < t.n := by rw [hn]; show 24 < 33; decide
          clear hn
          first
          | refine .inr ⟨hdl, 6, true, rfl, ?_, k'⟩
            first | rfl | (simp only [zV, guardV, Nat.reduceEqDiff, reduceIte, g4, g18, row0, row1, row2]; done)
          | skip
            refine .inl ?_
            simp only [zE, zL, zO, zN, hdl, aStepM, optable, Nat.reduceEqDiff, reduceIte, implies_true, forall_const, reduceCtorEq, V.ofValue, V.ofScalar, V.un, V.gd, guardV, V.wrap, aExec, aop, g4, g18, row0, row1, row2, aLoad, row_mk, Blk.row, PartOK, Go.Vm.part, V.cells, V.noSl, V.noRef, Nat.reduceAdd, Nat.reduceLeDiff, Nat.reduceLT, Nat.reduceMul, Try.underlying3, Ty.c3, Ty.a3, Try.underlying9, Ty.c9, Ty.a9, Try.underlying54, Ty.c54, Ty.a54, getD_map hx, hi0]
            repeat (refine And.intro (by first | omega | (intros; omega) | (intros; simp_all; done) | (intros; simp_all; omega)) ?_)
            exact k'
        simp only [set_some]
        first
        | refine aAny_pass 13 25 6 true rfl rfl (show 25 < 33 by decide) (by kernel_rfl) rfl ?_ ?_
          · first | rfl | (simp only [zV, guardV, Nat.reduceEqDiff, reduceIte]; done)
          simp only [zW, set_some, Nat.reduceEqDiff, reduceIte]
        | skip
          -- 25 := call v f59 t23 t24 | 54 54
          refine aAny_only 13 rfl (by kernel_rfl) ?_; intro K k
          simp only [zE, zG, aStepM, optable, set_some, Nat.reduceEqDiff, reduceIte, Nat.reduceLT, implies_true, forall_const, reduceCtorEq, V.ofValue, V.ofScalar, V.un, V.gd, guardV, Try.underlying3, Ty.c3, Ty.a3, Ty.b3, Ty.s3, Try.underlying4, Ty.c4, Ty.a4, Ty.b4, Ty.s4, Try.underlying9, Ty.c9, Ty.a9, Ty.b9, Ty.s9, Try.underlying54, Ty.c54, Ty.a54, Ty.b54, Ty.s54]
          simp only [zM, zW, aExec, lentIds, lendOf, set_some, Nat.reduceEqDiff, reduceIte, V.ofValue, V.ofScalar, V.un, V.gd, and_true, true_and, implies_true, and_self, decide_eq_true_eq]
          first | refine Exists.imp (fun r h => h) (aCall_guardT (dbBefore_con y0 y1 y2 y3 x0 x1 x2 x3) (by first | rfl | (simp only [toArgs, toArg, toCell, toCells, idx, row_mk, List.getElem?_cons_zero, List.getElem?_cons_succ, Option.bind_some, Option.map_some, Blk.row, fillK_mix, flat_mix, deep_mix, cond_true]; done) | (simp [toArgs, toArg, toCell, toCells, idx, row_mk, Blk.row, fillK_mix, Nat.beq_refl]; done)) rfl rfl ?_) | refine Exists.imp (fun r h => h) (aCall_guard (by first | (intros; trivial) | (intros; simp_all; done)) (fun hg => dbBefore_con y0 y1 y2 y3 x0 x1 x2 x3) (by first | rfl | (simp only [toArgs, toArg, toCell, toCells, idx, row_mk, List.getElem?_cons_zero, List.getElem?_cons_succ, Option.bind_some, Option.map_some, Blk.row, fillK_mix, flat_mix, deep_mix, cond_true]; done) | (simp [toArgs, toArg, toCell, toCells, idx, row_mk, Blk.row, fillK_mix, Nat.beq_refl]; done)) rfl rfl ?_)
          refine k _ ?_
          clear k K
        -- 26 := unOp Go.UnOp.not 4 t25
        refine aAny_take q17 true 14 26 rfl rfl (by kernel_rfl) (by kernel_rfl) ?_
        apply Exists.intro; apply And.intro
        · intro t hn gx ho K' k'
          have g18 := gx 18 (by decide)
          have g25 := gx 25 (by decide)
          simp only [get_mk, look_cons, look_nil, set_some, Nat.reduceEqDiff, reduceIte] at g18 g25
          have hdl : 26 < t.n := by rw [hn]; show 26 < 33; decide
          clear hn
          first
          | refine .inr ⟨hdl, 6, true, rfl, ?_, k'⟩
            first | rfl | (simp only [zV, guardV, Nat.reduceEqDiff, reduceIte, g18, g25]; done)
          | skip
            refine .inl ?_
            simp only [zE, zG, hdl, aStepM, optable, Nat.reduceEqDiff, reduceIte, implies_true, forall_const, reduceCtorEq, V.ofValue, V.ofScalar, V.un, V.gd, guardV, V.wrap, aExec, aop, g18, g25, aUn, Try.underlying4, getD_map hx, hi0, decide_false, Bool.and_false]
            repeat (refine And.intro (by first | omega | (intros; omega) | (intros; simp_all; done) | (intros; simp_all; omega)) ?_)
            exact k'
        simp only [set_some]
        -- 27 := pick t18 t26 c<false>
        refine aAny_take q17 true 15 27 rfl rfl (by kernel_rfl) (by kernel_rfl) ?_
        apply Exists.intro; apply And.intro
        · intro t hn gx ho K' k'
          have g15 := gx 15 (by decide)
          have g18 := gx 18 (by decide)
          have g26 := gx 26 (by decide)
          simp only [get_mk, look_cons, look_nil, set_some, Nat.reduceEqDiff, reduceIte] at g15 g18 g26
          have hdl : 27 < t.n := by rw [hn]; show 27 < 33; decide
          clear hn
          first
          | refine .inr ⟨hdl, 3, false, rfl, ?_, k'⟩
            first | rfl | (simp only [zV, guardV, Nat.reduceEqDiff, reduceIte, g15, g18, g26]; done)
          | skip
            refine .inl ?_
            simp only [zE, zP, zG, hdl, aStepM, optable, Nat.reduceEqDiff, reduceIte, implies_true, forall_const, reduceCtorEq, V.ofValue, V.ofScalar, V.un, V.gd, guardV, V.wrap, aExec, aop, g15, g18, g26, pickV, getD_map hx, hi0, decide_false, Bool.and_false]
            repeat (refine And.intro (by first | omega | (intros; omega) | (intros; simp_all; done) | (intros; simp_all; omega)) ?_)
            exact k'
        simp only [set_some]
        -- 28 := pick t15 c<true> t27
        refine aAny_take q17 true 16 28 rfl rfl (by kernel_rfl) (by kernel_rfl) ?_
        apply Exists.intro; apply And.intro
        · intro t hn gx ho K' k'
          have g15 := gx 15 (by decide)
          have g27 := gx 27 (by decide)
          simp only [get_mk, look_cons, look_nil, set_some, Nat.reduceEqDiff, reduceIte] at g15 g27
          have hdl : 28 < t.n := by rw [hn]; show 28 < 33; decide
          clear hn
          refine .inl ?_
          simp only [zE, zP, hdl, aStepM, optable, Nat.reduceEqDiff, reduceIte, implies_true, forall_const, reduceCtorEq, V.ofValue, V.ofScalar, V.un, V.gd, aExec, aop, g15, g27, pickV, getD_map hx, hi0, decide_false, Bool.and_false]
          repeat (refine And.intro (by first | omega | (intros; omega) | (intros; simp_all; done) | (intros; simp_all; omega)) ?_)
          exact k'
        simp only [set_some]
        refine aAny_done (by kernel_rfl) ?_
        refine k17 _ ?_
        refine n16 _ _ (weak_keep [0, 5, 6, 7, 28] _) ?_
        simp only [keep_mk, keepE_nil, keepE_cons, look_cons, look_nil, Nat.reduceEqDiff, reduceIte]
        refine v_cond _ rfl ?_ ?_  -- COND 1
        · intro hc1
          try simp only [zC, reduceCtorEq] at hc1
          refine v_seq ?_; intro Q19 n19 e19 r19  -- SEQ 8
          refine v_region ?_; intro K20 k20
          -- 2 := assign c<false>
          refine v_op ?_; intro K k
          simp only [zE, zS, aStepM, optable, set_some, Nat.reduceEqDiff, reduceIte, Nat.reduceLT, implies_true, forall_const, reduceCtorEq, V.ofValue, V.ofScalar, V.un, V.gd, aExec, aop, Nat.reduceAdd, getD_map hx, hi0, decide_false, Bool.and_false]
          repeat (refine And.intro (by first | omega | (intros; omega) | (intros; simp_all; done) | (intros; simp_all; omega)) ?_)
          refine k _ ?_; clear k K
          refine k20 _ ?_
          refine n19 _ _ (weak_keep [2] _) ?_
          simp only [keep_mk, keepE_nil, keepE_cons, look_cons, look_nil, Nat.reduceEqDiff, reduceIte]
          refine v_ret ?_
          refine r13 _ ?_
          refine r12 _ ?_
          refine r7 _ ?_
          refine r6 _ ?_
          refine r3 _ ?_
          refine r0 _ ?_
          simp only [resK, pickRV, get_mk, look_cons, look_nil, Nat.reduceEqDiff, reduceIte, List.map_cons, List.map_nil]
          exact ret_pure rfl (by rw [turnsB, ← hR, hst]; clear hR hst; first | (simp [hone]; done) | (simp [hone, hbf]; done) | (simp [hc1]; done) | (rcases hc1 with h | h <;> simp [h])) (.inl rfl)
        · intro hc1
          try simp only [zC, reduceCtorEq] at hc1
          refine v_skip ?_
          refine n13 _ ?_
          refine n12 _ _ (weak_keep [0, 5, 6, 7] _) ?_
          simp only [keep_mk, keepE_nil, keepE_cons, look_cons, look_nil, Nat.reduceEqDiff, reduceIte]
          refine v_region ?_; intro K21 k21
          -- 29 := binOp Go.BinOp.add 3 t7 c<1:i64> 3
          refine v_op ?_; intro K k
          simp only [zE, aStepM, optable, set_some, Nat.reduceEqDiff, reduceIte, Nat.reduceLT, implies_true, forall_const, reduceCtorEq, V.ofValue, V.ofScalar, V.un, V.gd, aExec, aop, aBin, Try.underlying3, getD_map hx, hi0, decide_false, Bool.and_false]
          try simp (disch := omega) only [wrap64]
          repeat (refine And.intro (by first | omega | (intros; omega) | (intros; simp_all; done) | (intros; simp_all; omega)) ?_)
          refine k _ ?_; clear k K
          -- 7 := move t29
          refine v_op ?_; intro K k
          simp only [zE, aStepM, optable, set_some, Nat.reduceEqDiff, reduceIte, Nat.reduceLT, implies_true, forall_const, reduceCtorEq, V.ofValue, V.ofScalar, V.un, V.gd, aExec, aop, getD_map hx, hi0, decide_false, Bool.and_false]
          repeat (refine And.intro (by first | omega | (intros; omega) | (intros; simp_all; done) | (intros; simp_all; omega)) ?_)
          refine k _ ?_; clear k K
          refine k21 _ ?_
          refine n7 _ (i + 1) ?_ ?_ ?_
          · refine weak_both [0, 5, 6, 7] [] (by decide) (by simp) ?_ ?_ ?_
            · simp [keep_mk, keepE_nil, keepE_cons, look_cons, V.only, V.onlyL, idx] <;> (first | rfl | decide)
            · simp [Blk.kindIs, fillK_mix]
            simp only [keep_mk, keepE_nil, keepE_cons, look_cons, look_nil, Nat.reduceEqDiff, reduceIte, St.comp, List.map_cons, List.map_nil, V.ren, V.renL, idx, List.getD_cons_zero, List.getD_cons_succ, Nat.reduceBEq, cond_true, cond_false, Option.map_some, Option.getD_some, Nat.reduceAdd, Nat.beq_eq_true_eq]
            rfl
          · exact ⟨by omega, by rw [← hR, hst]; clear hR hst; first | (simp [hone]; done) | (simp [hone, hbt]; done) | (simp [hc1]; done) | (simp_all; done)⟩
          · show _ < _; omega
      · skip
        obtain ⟨⟨y0, y1, y2, y3⟩, hy⟩ : ∃ x : Int × ByteArray × Int × Int, l[i - 1]? = some x := ⟨l[i - 1]'(by omega), List.getElem?_eq_getElem (by omega)⟩
        have hi0 : (0 : Int) < i := by omega
        have hk : ((i : Int) - 1).toNat = i - 1 := by omega
        have hst := chain_succ (ok := tOne) (bf := tBefore) h0 hy hx
        refine v_skip ?_
        refine n10 _ _ (weak_keep [0, 5, 6, 7] _) ?_
        simp only [keep_mk, keepE_nil, keepE_cons, look_cons, look_nil, Nat.reduceEqDiff, reduceIte]
        refine v_seq ?_; intro Q22 n22 e22 r22  -- SEQ 9
        refine v_block ?_; intro Q23 n23 x23 e23 r23
        refine v_seq ?_; intro Q24 n24 e24 r24  -- SEQ 10
        refine v_region ?_; intro K25 k25
        -- 9 := move t7
        refine v_op ?_; intro K k
        simp only [zE, aStepM, optable, set_some, Nat.reduceEqDiff, reduceIte, Nat.reduceLT, implies_true, forall_const, reduceCtorEq, V.ofValue, V.ofScalar, V.un, V.gd, aExec, aop, getD_map hx, hi0, hk, getD_map hy, decide_true, Bool.and_true]
        repeat (refine And.intro (by first | omega | (intros; omega) | (intros; simp_all; done) | (intros; simp_all; omega)) ?_)
        refine k _ ?_; clear k K
        -- 10 := indexAddr 26 t5 t7
        refine v_op ?_; intro K k
        simp only [zE, zL, zN, aStepM, optable, set_some, Nat.reduceEqDiff, reduceIte, Nat.reduceLT, implies_true, forall_const, reduceCtorEq, V.ofValue, V.ofScalar, V.un, V.gd, aExec, aop, aIndexAddr, row_mk, Blk.row, Go.Vm.V.cells, List.forall_mem_map, List.length_map, Int.toNat_natCast, Int.reduceToNat, TypeDesc.slice.injEq, Nat.reduceAdd, Nat.reduceLeDiff, Nat.reduceMul, Try.underlying26, Ty.c26, Ty.a26, Try.underlying54, Ty.c54, Ty.a54, getD_map hx, hi0, hk, getD_map hy, decide_true, Bool.and_true]
        repeat (refine And.intro (by first | omega | (intros; omega) | (intros; simp_all; done) | (intros; simp_all; omega)) ?_)
        refine k _ ?_; clear k K
        -- 11 := load 54 t10
        refine v_op ?_; intro K k
        simp only [zE, zL, zO, zN, aStepM, optable, set_some, Nat.reduceEqDiff, reduceIte, Nat.reduceLT, implies_true, forall_const, reduceCtorEq, V.ofValue, V.ofScalar, V.un, V.gd, aExec, aop, aLoad, row_mk, Blk.row, PartOK, Go.Vm.part, V.cells, V.noSl, V.noRef, Nat.reduceAdd, Nat.reduceLeDiff, Nat.reduceMul, Try.underlying3, Ty.c3, Ty.a3, Try.underlying9, Ty.c9, Ty.a9, Try.underlying54, Ty.c54, Ty.a54, getD_map hx, hi0, hk, getD_map hy]
        repeat (refine And.intro (by first | omega | (intros; omega) | (intros; simp_all; done) | (intros; simp_all; omega)) ?_)
        refine k _ ?_; clear k K
        -- 4 := alloc 54
        refine v_op ?_; intro K k
        simp only [zE, zS, zO, zN, aStepM, optable, set_some, Nat.reduceEqDiff, reduceIte, Nat.reduceLT, implies_true, forall_const, reduceCtorEq, V.ofValue, V.ofScalar, V.un, V.gd, aExec, aop, Nat.reduceAdd, Value.oneCell', V.isVal, V.cells, kindOf, kindAll, V.noSl, V.noRef, List.all_cons, List.all_nil, List.map_cons, List.map_nil, gt_iff_lt, Nat.reduceLeDiff, Nat.reduceMul, Try.underlying3, Ty.c3, Ty.a3, Ty.z3, Try.underlying9, Ty.c9, Ty.a9, Ty.z9, Try.underlying54, Ty.c54, Ty.a54, Ty.z54, getD_map hx, hi0, hk, getD_map hy]
        repeat (refine And.intro (by first | omega | (intros; omega) | (intros; simp_all; done) | (intros; simp_all; omega)) ?_)
        refine k _ ?_; clear k K
        -- 3 := assign t9
        refine v_op ?_; intro K k
        simp only [zE, zS, aStepM, optable, set_some, Nat.reduceEqDiff, reduceIte, Nat.reduceLT, implies_true, forall_const, reduceCtorEq, V.ofValue, V.ofScalar, V.un, V.gd, aExec, aop, Nat.reduceAdd, getD_map hx, hi0, hk, getD_map hy, decide_true, Bool.and_true]
        repeat (refine And.intro (by first | omega | (intros; omega) | (intros; simp_all; done) | (intros; simp_all; omega)) ?_)
        refine k _ ?_; clear k K
        -- None := store 54 t4 t11
        refine v_op ?_; intro K k
        simp only [zE, zS, zJ, zL, zO, zN, aStepM, optable, set_some, Nat.reduceEqDiff, reduceIte, Nat.reduceLT, implies_true, forall_const, reduceCtorEq, V.ofValue, V.ofScalar, V.un, V.gd, aExec, aop, aStore, setCells, V.isVal, V.cells, kindOf, kindAll, V.noSl, V.noRef, gt_iff_lt, Nat.reduceAdd, Nat.reduceLeDiff, Nat.reduceMul, takeV, takeCell, takeCells, row_mk, Blk.row, killAll, Nat.reduceBEq, Try.underlying3, Ty.c3, Ty.a3, Try.underlying9, Ty.c9, Ty.a9, Try.underlying54, Ty.c54, Ty.a54, getD_map hx, hi0, hk, getD_map hy]
        repeat (refine And.intro (by first | omega | (intros; omega) | (intros; simp_all; done) | (intros; simp_all; omega)) ?_)
        refine k _ ?_; clear k K
        refine k25 _ ?_
        refine n24 _ _ (weak_keep [0, 3, 4, 5, 6, 7] _) ?_
        simp only [keep_mk, keepE_nil, keepE_cons, look_cons, look_nil, Nat.reduceEqDiff, reduceIte]
        refine v_seq ?_; intro Q26 n26 e26 r26  -- SEQ 11
        refine v_draw (by kernel_rfl) ?_; intro K27 q27 k27
        show aAny _ _ _ _ 17 (Array.replicate 17 false) _
        -- 12 := load 54 t4
        refine aAny_take q27 true 0 12 rfl rfl (by kernel_rfl) (by kernel_rfl) ?_
        apply Exists.intro; apply And.intro
        · intro t hn gx ho K' k'
          have g4 := gx 4 (by decide)
          simp only [get_mk, look_cons, look_nil, set_some, Nat.reduceEqDiff, reduceIte] at g4
          first | have row0 := grow_row (i := 0) (ho rfl) rfl | have row0 : t.n + 0 = t.n := rfl
          first | have row1 := grow_row (i := 1) (ho rfl) rfl | have row1 : t.n + 0 = t.n := rfl
          first | have row2 := grow_row (i := 2) (ho rfl) rfl | have row2 : t.n + 0 = t.n := rfl
          have hdl : 12 < t.n := by rw [hn]; show 12 < 33; decide
          clear hn
          refine .inl ?_
          simp only [zE, zL, zO, zN, hdl, aStepM, optable, Nat.reduceEqDiff, reduceIte, implies_true, forall_const, reduceCtorEq, V.ofValue, V.ofScalar, V.un, V.gd, aExec, aop, g4, row0, row1, row2, aLoad, row_mk, Blk.row, PartOK, Go.Vm.part, V.cells, V.noSl, V.noRef, Nat.reduceAdd, Nat.reduceLeDiff, Nat.reduceLT, Nat.reduceMul, Try.underlying3, Ty.c3, Ty.a3, Try.underlying9, Ty.c9, Ty.a9, Try.underlying54, Ty.c54, Ty.a54, getD_map hx, hi0, hk, getD_map hy]
          repeat (refine And.intro (by first | omega | (intros; omega) | (intros; simp_all; done) | (intros; simp_all; omega)) ?_)
          exact k'
        simp only [set_some]
        -- 13 := call v f58 t12 | 54
        refine aAny_only 1 rfl (by kernel_rfl) ?_; intro K k
        simp only [zE, zM, aStepM, optable, set_some, Nat.reduceEqDiff, reduceIte, Nat.reduceLT, implies_true, forall_const, reduceCtorEq, V.ofValue, V.ofScalar, V.un, V.gd, aExec, lentIds, lendOf, Try.underlying3, Ty.c3, Ty.a3, Ty.b3, Ty.s3, Try.underlying4, Ty.c4, Ty.a4, Ty.b4, Ty.s4, Try.underlying9, Ty.c9, Ty.a9, Ty.b9, Ty.s9, Try.underlying54, Ty.c54, Ty.a54, Ty.b54, Ty.s54]
        repeat (refine And.intro (by first | rfl | (intros; simp_all; done)) ?_)
        refine aCall_new (dbOne_con x0 x1 x2 x3 hsx) (by first | rfl | (simp only [toArgs, toArg, toCell, toCells, idx, row_mk, List.getElem?_cons_zero, List.getElem?_cons_succ, Option.bind_some, Option.map_some, Blk.row, fillK_mix, flat_mix, deep_mix, cond_true]; done) | (simp [toArgs, toArg, toCell, toCells, idx, row_mk, Blk.row, fillK_mix, Nat.beq_refl]; done)) (by first | exact .inl ⟨rfl, by simp [Blk.kindIs, fillK_fd]⟩ | exact .inr (by simp [V.cold])) ?_
        refine k _ ?_; clear k K
        simp only [zY, zW, set_some, Nat.reduceEqDiff, reduceIte, V.ren, V.renL, rho, Nat.reduceAdd]
        -- 14 := unOp Go.UnOp.not 4 t13
        refine aAny_take q27 true 2 14 rfl rfl (by kernel_rfl) (by kernel_rfl) ?_
        apply Exists.intro; apply And.intro
        · intro t hn gx ho K' k'
          have g13 := gx 13 (by decide)
          simp only [get_mk, look_cons, look_nil, set_some, Nat.reduceEqDiff, reduceIte] at g13
          have hdl : 14 < t.n := by rw [hn]; show 14 < 33; decide
          clear hn
          refine .inl ?_
          simp only [zE, hdl, aStepM, optable, Nat.reduceEqDiff, reduceIte, implies_true, forall_const, reduceCtorEq, V.ofValue, V.ofScalar, V.un, V.gd, aExec, aop, g13, aUn, Try.underlying4, getD_map hx, hi0, hk, getD_map hy, decide_true, Bool.and_true]
          repeat (refine And.intro (by first | omega | (intros; omega) | (intros; simp_all; done) | (intros; simp_all; omega)) ?_)
          exact k'
        simp only [set_some]
        -- 15 := move t14
        refine aAny_take q27 true 3 15 rfl rfl (by kernel_rfl) (by kernel_rfl) ?_
        apply Exists.intro; apply And.intro
        · intro t hn gx ho K' k'
          have g14 := gx 14 (by decide)
          simp only [get_mk, look_cons, look_nil, set_some, Nat.reduceEqDiff, reduceIte] at g14
          have hdl : 15 < t.n := by rw [hn]; show 15 < 33; decide
          clear hn
          refine .inl ?_
          simp only [zE, hdl, aStepM, optable, Nat.reduceEqDiff, reduceIte, implies_true, forall_const, reduceCtorEq, V.ofValue, V.ofScalar, V.un, V.gd, aExec, aop, g14, getD_map hx, hi0, hk, getD_map hy, decide_true, Bool.and_true]
          repeat (refine And.intro (by first | omega | (intros; omega) | (intros; simp_all; done) | (intros; simp_all; omega)) ?_)
          exact k'
        simp only [set_some]
        -- 16 := move t3
        refine aAny_take q27 true 4 16 rfl rfl (by kernel_rfl) (by kernel_rfl) ?_
        apply Exists.intro; apply And.intro
        · intro t hn gx ho K' k'
          have g3 := gx 3 (by decide)
          have g15 := gx 15 (by decide)
          simp only [get_mk, look_cons, look_nil, set_some, Nat.reduceEqDiff, reduceIte] at g3 g15
          have hdl : 16 < t.n := by rw [hn]; show 16 < 33; decide
          clear hn
          first
          | refine .inr ⟨hdl, 3, false, rfl, ?_, k'⟩
            first | rfl | (simp only [zV, guardV, Nat.reduceEqDiff, reduceIte, g3, g15]; done)
          | skip
            refine .inl ?_
            simp only [zE, zG, hdl, aStepM, optable, Nat.reduceEqDiff, reduceIte, implies_true, forall_const, reduceCtorEq, V.ofValue, V.ofScalar, V.un, V.gd, guardV, V.wrap, aExec, aop, g3, g15, getD_map hx, hi0, hk, getD_map hy, decide_true, Bool.and_true]
            repeat (refine And.intro (by first | omega | (intros; omega) | (intros; simp_all; done) | (intros; simp_all; omega)) ?_)
            exact k'
        simp only [set_some]
        -- 17 := binOp Go.BinOp.gtr 3 t16 c<0:i64> 3
        refine aAny_take q27 true 5 17 rfl rfl (by kernel_rfl) (by kernel_rfl) ?_
        apply Exists.intro; apply And.intro
        · intro t hn gx ho K' k'
          have g15 := gx 15 (by decide)
          have g16 := gx 16 (by decide)
          simp only [get_mk, look_cons, look_nil, set_some, Nat.reduceEqDiff, reduceIte] at g15 g16
          have hdl : 17 < t.n := by rw [hn]; show 17 < 33; decide
          clear hn
          first
          | refine .inr ⟨hdl, 3, false, rfl, ?_, k'⟩
            first | rfl | (simp only [zV, guardV, Nat.reduceEqDiff, reduceIte, g15, g16]; done)
          | skip
            refine .inl ?_
            simp only [zE, zG, hdl, aStepM, optable, Nat.reduceEqDiff, reduceIte, implies_true, forall_const, reduceCtorEq, V.ofValue, V.ofScalar, V.un, V.gd, guardV, V.wrap, aExec, aop, g15, g16, aBin, Try.underlying3, getD_map hx, hi0, hk, getD_map hy, decide_true, Bool.and_true]
            repeat (refine And.intro (by first | omega | (intros; omega) | (intros; simp_all; done) | (intros; simp_all; omega)) ?_)
            exact k'
        simp only [set_some]
        -- 18 := move t17
        refine aAny_take q27 true 6 18 rfl rfl (by kernel_rfl) (by kernel_rfl) ?_
        apply Exists.intro; apply And.intro
        · intro t hn gx ho K' k'
          have g15 := gx 15 (by decide)
          have g17 := gx 17 (by decide)
          simp only [get_mk, look_cons, look_nil, set_some, Nat.reduceEqDiff, reduceIte] at g15 g17
          have hdl : 18 < t.n := by rw [hn]; show 18 < 33; decide
          clear hn
          first
          | refine .inr ⟨hdl, 3, false, rfl, ?_, k'⟩
            first | rfl | (simp only [zV, guardV, Nat.reduceEqDiff, reduceIte, g15, g17]; done)
          | skip
            refine .inl ?_
            simp only [zE, zG, hdl, aStepM, optable, Nat.reduceEqDiff, reduceIte, implies_true, forall_const, reduceCtorEq, V.ofValue, V.ofScalar, V.un, V.gd, guardV, V.wrap, aExec, aop, g15, g17, getD_map hx, hi0, hk, getD_map hy, decide_true, Bool.and_true]
            repeat (refine And.intro (by first | omega | (intros; omega) | (intros; simp_all; done) | (intros; simp_all; omega)) ?_)
            exact k'
        simp only [set_some]
        -- 19 := move t0
        refine aAny_take q27 true 7 19 rfl rfl (by kernel_rfl) (by kernel_rfl) ?_
        apply Exists.intro; apply And.intro
        · intro t hn gx ho K' k'
          have g0 := gx 0 (by decide)
          have g18 := gx 18 (by decide)
          simp only [get_mk, look_cons, look_nil, set_some, Nat.reduceEqDiff, reduceIte] at g0 g18
          have hdl : 19 < t.n := by rw [hn]; show 19 < 33; decide
          clear hn
          first
          | refine .inr ⟨hdl, 6, true, rfl, ?_, k'⟩
            first | rfl | (simp only [zV, guardV, Nat.reduceEqDiff, reduceIte, g0, g18]; done)
          | skip
            refine .inl ?_
            simp only [zE, zG, hdl, aStepM, optable, Nat.reduceEqDiff, reduceIte, implies_true, forall_const, reduceCtorEq, V.ofValue, V.ofScalar, V.un, V.gd, guardV, V.wrap, aExec, aop, g0, g18, getD_map hx, hi0, hk, getD_map hy, decide_true, Bool.and_true]
            repeat (refine And.intro (by first | omega | (intros; omega) | (intros; simp_all; done) | (intros; simp_all; omega)) ?_)
            exact k'
        simp only [set_some]
        -- 20 := move t3
        refine aAny_take q27 true 8 20 rfl rfl (by kernel_rfl) (by kernel_rfl) ?_
        apply Exists.intro; apply And.intro
        · intro t hn gx ho K' k'
          have g3 := gx 3 (by decide)
          have g18 := gx 18 (by decide)
          simp only [get_mk, look_cons, look_nil, set_some, Nat.reduceEqDiff, reduceIte] at g3 g18
          have hdl : 20 < t.n := by rw [hn]; show 20 < 33; decide
          clear hn
          first
          | refine .inr ⟨hdl, 6, true, rfl, ?_, k'⟩
            first | rfl | (simp only [zV, guardV, Nat.reduceEqDiff, reduceIte, g3, g18]; done)
          | skip
            refine .inl ?_
            simp only [zE, zG, hdl, aStepM, optable, Nat.reduceEqDiff, reduceIte, implies_true, forall_const, reduceCtorEq, V.ofValue, V.ofScalar, V.un, V.gd, guardV, V.wrap, aExec, aop, g3, g18, getD_map hx, hi0, hk, getD_map hy, decide_true, Bool.and_true]
            repeat (refine And.intro (by first | omega | (intros; omega) | (intros; simp_all; done) | (intros; simp_all; omega)) ?_)
            exact k'
        simp only [set_some]
        -- 21 := binOp Go.BinOp.sub 3 t20 c<1:i64> 3
        refine aAny_take q27 true 9 21 rfl rfl (by kernel_rfl) (by kernel_rfl) ?_
        apply Exists.intro; apply And.intro
        · intro t hn gx ho K' k'
          have g18 := gx 18 (by decide)
          have g20 := gx 20 (by decide)
          simp only [get_mk, look_cons, look_nil, set_some, Nat.reduceEqDiff, reduceIte] at g18 g20
          have hdl : 21 < t.n := by rw [hn]; show 21 < 33; decide
          clear hn
          first
          | refine .inr ⟨hdl, 6, true, rfl, ?_, k'⟩
            first | rfl | (simp only [zV, guardV, Nat.reduceEqDiff, reduceIte, g18, g20]; done)
          | skip
            refine .inl ?_
            simp only [zE, zG, hdl, aStepM, optable, Nat.reduceEqDiff, reduceIte, implies_true, forall_const, reduceCtorEq, V.ofValue, V.ofScalar, V.un, V.gd, guardV, V.wrap, aExec, aop, g18, g20, aBin, Try.underlying3, getD_map hx, hi0, hk, getD_map hy, decide_true, Bool.and_true]
            try simp (disch := omega) only [wrap64]
            repeat (refine And.intro (by first | omega | (intros; omega) | (intros; simp_all; done) | (intros; simp_all; omega)) ?_)
            exact k'
        simp only [set_some]
        -- 22 := indexAddr 26 t19 t21
        refine aAny_take q27 true 10 22 rfl rfl (by kernel_rfl) (by kernel_rfl) ?_
        apply Exists.intro; apply And.intro
        · intro t hn gx ho K' k'
          have g18 := gx 18 (by decide)
          have g19 := gx 19 (by decide)
          have g21 := gx 21 (by decide)
          simp only [get_mk, look_cons, look_nil, set_some, Nat.reduceEqDiff, reduceIte] at g18 g19 g21
          first | have row0 := grow_row (i := 0) (ho rfl) rfl | have row0 : t.n + 0 = t.n := rfl
          first | have row1 := grow_row (i := 1) (ho rfl) rfl | have row1 : t.n + 0 = t.n := rfl
          first | have row2 := grow_row (i := 2) (ho rfl) rfl | have row2 : t.n + 0 = t.n := rfl
          have hdl : 22 < t.n := by rw [hn]; show 22 < 33; decide
          clear hn
          first
          | refine .inr ⟨hdl, 6, true, rfl, ?_, k'⟩
            first | rfl | (simp only [zV, guardV, Nat.reduceEqDiff, reduceIte, g18, g19, g21, row0, row1, row2]; done)
          | skip
            refine .inl ?_
            simp only [zE, zL, zN, hdl, aStepM, optable, Nat.reduceEqDiff, reduceIte, implies_true, forall_const, reduceCtorEq, V.ofValue, V.ofScalar, V.un, V.gd, guardV, V.wrap, aExec, aop, g18, g19, g21, row0, row1, row2, aIndexAddr, row_mk, Blk.row, Go.Vm.V.cells, List.forall_mem_map, List.length_map, Int.toNat_natCast, Int.reduceToNat, TypeDesc.slice.injEq, Nat.reduceAdd, Nat.reduceLeDiff, Nat.reduceLT, Nat.reduceMul, Try.underlying26, Ty.c26, Ty.a26, Try.underlying54, Ty.c54, Ty.a54, getD_map hx, hi0, hk, getD_map hy, decide_true, Bool.and_true]
            repeat (refine And.intro (by first | omega | (intros; omega) | (intros; simp_all; done) | (intros; simp_all; omega)) ?_)
            exact k'
        simp only [set_some]
        -- 23 := load 54 t22
        refine aAny_take q27 true 11 23 rfl rfl (by kernel_rfl) (by kernel_rfl) ?_
        apply Exists.intro; apply And.intro
        · intro t hn gx ho K' k'
          have g18 := gx 18 (by decide)
          have g22 := gx 22 (by decide)
          simp only [get_mk, look_cons, look_nil, set_some, Nat.reduceEqDiff, reduceIte] at g18 g22
          first | have row0 := grow_row (i := 0) (ho rfl) rfl | have row0 : t.n + 0 = t.n := rfl
          first | have row1 := grow_row (i := 1) (ho rfl) rfl | have row1 : t.n + 0 = t.n := rfl
          first | have row2 := grow_row (i := 2) (ho rfl) rfl | have row2 : t.n + 0 = t.n := rfl
          have hdl : 23 < t.n := by rw [hn]; show 23 < 33; decide
          clear hn
          first
          | refine .inr ⟨hdl, 6, true, rfl, ?_, k'⟩
            first | rfl | (simp only [zV, guardV, Nat.reduceEqDiff, reduceIte, g18, g22, row0, row1, row2]; done)
          | skip
            refine .inl ?_
            simp only [zE, zL, zO, zN, hdl, aStepM, optable, Nat.reduceEqDiff, reduceIte, implies_true, forall_const, reduceCtorEq, V.ofValue, V.ofScalar, V.un, V.gd, guardV, V.wrap, aExec, aop, g18, g22, row0, row1, row2, aLoad, row_mk, Blk.row, PartOK, Go.Vm.part, V.cells, V.noSl, V.noRef, Nat.reduceAdd, Nat.reduceLeDiff, Nat.reduceLT, Nat.reduceMul, Try.underlying3, Ty.c3, Ty.a3, Try.underlying9, Ty.c9, Ty.a9, Try.underlying54, Ty.c54, Ty.a54, getD_map hx, hi0, hk, getD_map hy]
            repeat (refine And.intro (by first | omega | (intros; omega) | (intros; simp_all; done) | (intros; simp_all; omega)) ?_)
            exact k'
        simp only [set_some]
        -- 24 := load 54 t4
        refine aAny_take q27 true 12 24 rfl rfl (by kernel_rfl) (by kernel_rfl) ?_
        apply Exists.intro; apply And.intro
        · intro t hn gx ho K' k'
          have g4 := gx 4 (by decide)
          have g18 := gx 18 (by decide)
          simp only [get_mk, look_cons, look_nil, set_some, Nat.reduceEqDiff, reduceIte] at g4 g18
          first | have row0 := grow_row (i := 0) (ho rfl) rfl | have row0 : t.n + 0 = t.n := rfl
          first | have row1 := grow_row (i := 1) (ho rfl) rfl | have row1 : t.n + 0 = t.n := rfl
          first | have row2 := grow_row (i := 2) (ho rfl) rfl | have row2 : t.n + 0 = t.n := rfl
          have hdl : 24 < t.n := by rw [hn]; show 24 < 33; decide
          clear hn
          first
          | refine .inr ⟨hdl, 6, true, rfl, ?_, k'⟩
            first | rfl | (simp only [zV, guardV, Nat.reduceEqDiff, reduceIte, g4, g18, row0, row1, row2]; done)
          | skip
            refine .inl ?_
            simp only [zE, zL, zO, zN, hdl, aStepM, optable, Nat.reduceEqDiff, reduceIte, implies_true, forall_const, reduceCtorEq, V.ofValue, V.ofScalar, V.un, V.gd, guardV, V.wrap, aExec, aop, g4, g18, row0, row1, row2, aLoad, row_mk, Blk.row, PartOK, Go.Vm.part, V.cells, V.noSl, V.noRef, Nat.reduceAdd, Nat.reduceLeDiff, Nat.reduceLT, Nat.reduceMul, Try.underlying3, Ty.c3, Ty.a3, Try.underlying9, Ty.c9, Ty.a9, Try.underlying54, Ty.c54, Ty.a54, getD_map hx, hi0, hk, getD_map hy]
            repeat (refine And.intro (by first | omega | (intros; omega) | (intros; simp_all; done) | (intros; simp_all; omega)) ?_)
            exact k'
        simp only [set_some]
        first
        | refine aAny_pass 13 25 6 true rfl rfl (show 25 < 33 by decide) (by kernel_rfl) rfl ?_ ?_
          · first | rfl | (simp only [zV, guardV, Nat.reduceEqDiff, reduceIte]; done)
          simp only [zW, set_some, Nat.reduceEqDiff, reduceIte]
        | skip
          -- 25 := call v f59 t23 t24 | 54 54
          refine aAny_only 13 rfl (by kernel_rfl) ?_; intro K k
          simp only [zE, zG, aStepM, optable, set_some, Nat.reduceEqDiff, reduceIte, Nat.reduceLT, implies_true, forall_const, reduceCtorEq, V.ofValue, V.ofScalar, V.un, V.gd, guardV, Try.underlying3, Ty.c3, Ty.a3, Ty.b3, Ty.s3, Try.underlying4, Ty.c4, Ty.a4, Ty.b4, Ty.s4, Try.underlying9, Ty.c9, Ty.a9, Ty.b9, Ty.s9, Try.underlying54, Ty.c54, Ty.a54, Ty.b54, Ty.s54]
          simp only [zM, zW, aExec, lentIds, lendOf, set_some, Nat.reduceEqDiff, reduceIte, V.ofValue, V.ofScalar, V.un, V.gd, and_true, true_and, implies_true, and_self, decide_eq_true_eq]
          first | refine Exists.imp (fun r h => h) (aCall_guardT (dbBefore_con y0 y1 y2 y3 x0 x1 x2 x3) (by first | rfl | (simp only [toArgs, toArg, toCell, toCells, idx, row_mk, List.getElem?_cons_zero, List.getElem?_cons_succ, Option.bind_some, Option.map_some, Blk.row, fillK_mix, flat_mix, deep_mix, cond_true]; done) | (simp [toArgs, toArg, toCell, toCells, idx, row_mk, Blk.row, fillK_mix, Nat.beq_refl]; done)) rfl rfl ?_) | refine Exists.imp (fun r h => h) (aCall_guard (by first | (intros; trivial) | (intros; simp_all; done)) (fun hg => dbBefore_con y0 y1 y2 y3 x0 x1 x2 x3) (by first | rfl | (simp only [toArgs, toArg, toCell, toCells, idx, row_mk, List.getElem?_cons_zero, List.getElem?_cons_succ, Option.bind_some, Option.map_some, Blk.row, fillK_mix, flat_mix, deep_mix, cond_true]; done) | (simp [toArgs, toArg, toCell, toCells, idx, row_mk, Blk.row, fillK_mix, Nat.beq_refl]; done)) rfl rfl ?_)
          refine k _ ?_
          clear k K
        -- 26 := unOp Go.UnOp.not 4 t25
        refine aAny_take q27 true 14 26 rfl rfl (by kernel_rfl) (by kernel_rfl) ?_
        apply Exists.intro; apply And.intro
        · intro t hn gx ho K' k'
          have g18 := gx 18 (by decide)
          have g25 := gx 25 (by decide)
          simp only [get_mk, look_cons, look_nil, set_some, Nat.reduceEqDiff, reduceIte] at g18 g25
          have hdl : 26 < t.n := by rw [hn]; show 26 < 33; decide
          clear hn
          first
          | refine .inr ⟨hdl, 6, true, rfl, ?_, k'⟩
            first | rfl | (simp only [zV, guardV, Nat.reduceEqDiff, reduceIte, g18, g25]; done)
          | skip
            refine .inl ?_
            simp only [zE, zG, hdl, aStepM, optable, Nat.reduceEqDiff, reduceIte, implies_true, forall_const, reduceCtorEq, V.ofValue, V.ofScalar, V.un, V.gd, guardV, V.wrap, aExec, aop, g18, g25, aUn, Try.underlying4, getD_map hx, hi0, hk, getD_map hy, decide_true, Bool.and_true]
            repeat (refine And.intro (by first | omega | (intros; omega) | (intros; simp_all; done) | (intros; simp_all; omega)) ?_)
            exact k'
        simp only [set_some]
        -- 27 := pick t18 t26 c<false>
        refine aAny_take q27 true 15 27 rfl rfl (by kernel_rfl) (by kernel_rfl) ?_
        apply Exists.intro; apply And.intro
        · intro t hn gx ho K' k'
          have g15 := gx 15 (by decide)
          have g18 := gx 18 (by decide)
          have g26 := gx 26 (by decide)
          simp only [get_mk, look_cons, look_nil, set_some, Nat.reduceEqDiff, reduceIte] at g15 g18 g26
          have hdl : 27 < t.n := by rw [hn]; show 27 < 33; decide
          clear hn
          first
          | refine .inr ⟨hdl, 3, false, rfl, ?_, k'⟩
            first | rfl | (simp only [zV, guardV, Nat.reduceEqDiff, reduceIte, g15, g18, g26]; done)
          | skip
            refine .inl ?_
            simp only [zE, zP, zG, hdl, aStepM, optable, Nat.reduceEqDiff, reduceIte, implies_true, forall_const, reduceCtorEq, V.ofValue, V.ofScalar, V.un, V.gd, guardV, V.wrap, aExec, aop, g15, g18, g26, pickV, getD_map hx, hi0, hk, getD_map hy, decide_true, Bool.and_true]
            repeat (refine And.intro (by first | omega | (intros; omega) | (intros; simp_all; done) | (intros; simp_all; omega)) ?_)
            exact k'
        simp only [set_some]
        -- 28 := pick t15 c<true> t27
        refine aAny_take q27 true 16 28 rfl rfl (by kernel_rfl) (by kernel_rfl) ?_
        apply Exists.intro; apply And.intro
        · intro t hn gx ho K' k'
          have g15 := gx 15 (by decide)
          have g27 := gx 27 (by decide)
          simp only [get_mk, look_cons, look_nil, set_some, Nat.reduceEqDiff, reduceIte] at g15 g27
          have hdl : 28 < t.n := by rw [hn]; show 28 < 33; decide
          clear hn
          refine .inl ?_
          simp only [zE, zP, hdl, aStepM, optable, Nat.reduceEqDiff, reduceIte, implies_true, forall_const, reduceCtorEq, V.ofValue, V.ofScalar, V.un, V.gd, aExec, aop, g15, g27, pickV, getD_map hx, hi0, hk, getD_map hy, decide_true, Bool.and_true]
          repeat (refine And.intro (by first | omega | (intros; omega) | (intros; simp_all; done) | (intros; simp_all; omega)) ?_)
          exact k'
        simp only [set_some]
        refine aAny_done (by kernel_rfl) ?_
        refine k27 _ ?_
        refine n26 _ _ (weak_keep [0, 5, 6, 7, 28] _) ?_
        simp only [keep_mk, keepE_nil, keepE_cons, look_cons, look_nil, Nat.reduceEqDiff, reduceIte]
        refine v_cond _ rfl ?_ ?_  -- COND 1
        · intro hc1
          try simp only [zC, reduceCtorEq] at hc1
          refine v_seq ?_; intro Q29 n29 e29 r29  -- SEQ 12
          refine v_region ?_; intro K30 k30
          -- 2 := assign c<false>
          refine v_op ?_; intro K k
          simp only [zE, zS, aStepM, optable, set_some, Nat.reduceEqDiff, reduceIte, Nat.reduceLT, implies_true, forall_const, reduceCtorEq, V.ofValue, V.ofScalar, V.un, V.gd, aExec, aop, Nat.reduceAdd, getD_map hx, hi0, hk, getD_map hy, decide_true, Bool.and_true]
          repeat (refine And.intro (by first | omega | (intros; omega) | (intros; simp_all; done) | (intros; simp_all; omega)) ?_)
          refine k _ ?_; clear k K
          refine k30 _ ?_
          refine n29 _ _ (weak_keep [2] _) ?_
          simp only [keep_mk, keepE_nil, keepE_cons, look_cons, look_nil, Nat.reduceEqDiff, reduceIte]
          refine v_ret ?_
          refine r23 _ ?_
          refine r22 _ ?_
          refine r7 _ ?_
          refine r6 _ ?_
          refine r3 _ ?_
          refine r0 _ ?_
          simp only [resK, pickRV, get_mk, look_cons, look_nil, Nat.reduceEqDiff, reduceIte, List.map_cons, List.map_nil]
          exact ret_pure rfl (by rw [turnsB, ← hR, hst]; clear hR hst; first | (simp [hone]; done) | (simp [hone, hbf]; done) | (simp [hc1]; done) | (rcases hc1 with h | h <;> simp [h])) (.inl rfl)
        · intro hc1
          try simp only [zC, reduceCtorEq] at hc1
          refine v_skip ?_
          refine n23 _ ?_
          refine n22 _ _ (weak_keep [0, 5, 6, 7] _) ?_
          simp only [keep_mk, keepE_nil, keepE_cons, look_cons, look_nil, Nat.reduceEqDiff, reduceIte]
          refine v_region ?_; intro K31 k31
          -- 29 := binOp Go.BinOp.add 3 t7 c<1:i64> 3
          refine v_op ?_; intro K k
          simp only [zE, aStepM, optable, set_some, Nat.reduceEqDiff, reduceIte, Nat.reduceLT, implies_true, forall_const, reduceCtorEq, V.ofValue, V.ofScalar, V.un, V.gd, aExec, aop, aBin, Try.underlying3, getD_map hx, hi0, hk, getD_map hy, decide_true, Bool.and_true]
          try simp (disch := omega) only [wrap64]
          repeat (refine And.intro (by first | omega | (intros; omega) | (intros; simp_all; done) | (intros; simp_all; omega)) ?_)
          refine k _ ?_; clear k K
          -- 7 := move t29
          refine v_op ?_; intro K k
          simp only [zE, aStepM, optable, set_some, Nat.reduceEqDiff, reduceIte, Nat.reduceLT, implies_true, forall_const, reduceCtorEq, V.ofValue, V.ofScalar, V.un, V.gd, aExec, aop, getD_map hx, hi0, hk, getD_map hy, decide_true, Bool.and_true]
          repeat (refine And.intro (by first | omega | (intros; omega) | (intros; simp_all; done) | (intros; simp_all; omega)) ?_)
          refine k _ ?_; clear k K
          refine k31 _ ?_
          refine n7 _ (i + 1) ?_ ?_ ?_
          · refine weak_both [0, 5, 6, 7] [] (by decide) (by simp) ?_ ?_ ?_
            · simp [keep_mk, keepE_nil, keepE_cons, look_cons, V.only, V.onlyL, idx] <;> (first | rfl | decide)
            · simp [Blk.kindIs, fillK_mix]
            simp only [keep_mk, keepE_nil, keepE_cons, look_cons, look_nil, Nat.reduceEqDiff, reduceIte, St.comp, List.map_cons, List.map_nil, V.ren, V.renL, idx, List.getD_cons_zero, List.getD_cons_succ, Nat.reduceBEq, cond_true, cond_false, Option.map_some, Option.getD_some, Nat.reduceAdd, Nat.beq_eq_true_eq]
            rfl
          · exact ⟨by omega, by rw [← hR, hst]; clear hR hst; first | (simp [hone]; done) | (simp [hone, hbt]; done) | (simp [hc1]; done) | (simp_all; done)⟩
          · show _ < _; omega
    · intro hc0
      try simp only [zC, reduceCtorEq] at hc0
      refine v_exit ?_
      refine e10 _ _ ?_
      refine e7 _ _ ?_
      refine x6 _ ?_
      refine n3 _ _ (weak_keep [0] _) ?_
      simp only [keep_mk, keepE_nil, keepE_cons, look_cons, look_nil, Nat.reduceEqDiff, reduceIte]
      refine v_seq ?_; intro Q32 n32 e32 r32  -- SEQ 13
      refine v_region ?_; intro K33 k33
      -- 30 := move t0
      refine v_op ?_; intro K k
      simp only [zE, aStepM, optable, set_some, Nat.reduceEqDiff, reduceIte, Nat.reduceLT, implies_true, forall_const, reduceCtorEq, V.ofValue, V.ofScalar, V.un, V.gd, aExec, aop]
      repeat (refine And.intro (by first | omega | (intros; omega) | (intros; simp_all; done) | (intros; simp_all; omega)) ?_)
      refine k _ ?_; clear k K
      -- 31 := call b Go.Builtin.len t30 | 26
      refine v_op ?_; intro K k
      simp only [zE, zL, zN, aStepM, optable, set_some, Nat.reduceEqDiff, reduceIte, Nat.reduceLT, implies_true, forall_const, reduceCtorEq, V.ofValue, V.ofScalar, V.un, V.gd, aExec, aop, List.length_map, aLen, lenOK, row_mk, Blk.row, List.size_toArray, List.getD_eq_getElem?_getD, Array.getD_eq_getD_getElem?, Option.getD_some, Nat.reduceAdd, Nat.reduceLeDiff, Nat.reduceMul, Try.underlying3, Ty.c3, Ty.a3, Ty.b3, Ty.s3, Try.underlying26, Ty.c26, Ty.a26, Ty.b26, Ty.s26, Try.underlying54, Ty.c54, Ty.a54, Ty.b54, Ty.s54]
      repeat (refine And.intro (by first | omega | (intros; omega) | (intros; simp_all; done) | (intros; simp_all; omega)) ?_)
      refine k _ ?_; clear k K
      -- 32 := binOp Go.BinOp.leq 3 t31 c<15:i64> 3
      refine v_op ?_; intro K k
      simp only [zE, aStepM, optable, set_some, Nat.reduceEqDiff, reduceIte, Nat.reduceLT, implies_true, forall_const, reduceCtorEq, V.ofValue, V.ofScalar, V.un, V.gd, aExec, aop, aBin, Try.underlying3]
      repeat (refine And.intro (by first | omega | (intros; omega) | (intros; simp_all; done) | (intros; simp_all; omega)) ?_)
      refine k _ ?_; clear k K
      -- 2 := assign t32
      refine v_op ?_; intro K k
      simp only [zE, zS, aStepM, optable, set_some, Nat.reduceEqDiff, reduceIte, Nat.reduceLT, implies_true, forall_const, reduceCtorEq, V.ofValue, V.ofScalar, V.un, V.gd, aExec, aop, Nat.reduceAdd]
      repeat (refine And.intro (by first | omega | (intros; omega) | (intros; simp_all; done) | (intros; simp_all; omega)) ?_)
      refine k _ ?_; clear k K
      refine k33 _ ?_
      refine n32 _ _ (weak_keep [2] _) ?_
      simp only [keep_mk, keepE_nil, keepE_cons, look_cons, look_nil, Nat.reduceEqDiff, reduceIte]
      refine v_ret ?_
      refine r0 _ ?_
      simp only [resK, pickRV, get_mk, look_cons, look_nil, Nat.reduceEqDiff, reduceIte, List.map_cons, List.map_nil]
      exact ret_pure rfl (by rw [turnsB, ← hR, chain_end (by omega)]; simp) (.inl rfl)
-- loop.example/g01020/impl.areTurnouts
set_option maxHeartbeats 1000000 in
theorem areTurnouts_con (l : List (Int × ByteArray × Int × Int)) (hl : l.length ≤ 1048576) (hls : ∀ t ∈ l, t.2.1.size ≤ 9223372036854775807) : Con Try.prog 33 [.sl (l.map (fun t : Int × ByteArray × Int × Int => V.agg [V.int .i64 t.1, V.str t.2.1, V.int .i64 t.2.2.1, V.int .i64 t.2.2.2]))] [] (.bool (turnsB l)) [] := by
  refine v_con [.tmp 2] [] Try.func33 rfl rfl rfl (by simp [Try.ntmps33]) ?_
  intro Q0 n0 r0
  simp only [Try.ntmps33, envFrom, Nat.reduceAdd]
  refine v_seq ?_; intro Q1 n1 e1 r1  -- SEQ 0
  refine v_region ?_; intro K2 k2
  -- 2 := assign c<false>
  refine v_op ?_; intro K k
  simp only [zE, zS, aStepM, optable, set_some, Nat.reduceEqDiff, reduceIte, Nat.reduceLT, implies_true, forall_const, reduceCtorEq, V.ofValue, V.ofScalar, V.un, V.gd, aExec, aop, Nat.reduceAdd]
  repeat (refine And.intro (by first | omega | (intros; omega) | (intros; simp_all; done) | (intros; simp_all; omega)) ?_)
  refine k _ ?_; clear k K
  refine k2 _ ?_
  refine n1 _ _ (weak_keep [0] _) ?_
  simp only [keep_mk, keepE_nil, keepE_cons, look_cons, look_nil, Nat.reduceEqDiff, reduceIte]
  refine v_seq ?_; intro Q3 n3 e3 r3  -- SEQ 1
  refine v_seq ?_; intro Q4 n4 e4 r4  -- SEQ 2
  refine v_region ?_; intro K5 k5
  -- 5 := move t0
  refine v_op ?_; intro K k
  simp only [zE, aStepM, optable, set_some, Nat.reduceEqDiff, reduceIte, Nat.reduceLT, implies_true, forall_const, reduceCtorEq, V.ofValue, V.ofScalar, V.un, V.gd, aExec, aop]
  repeat (refine And.intro (by first | omega | (intros; omega) | (intros; simp_all; done) | (intros; simp_all; omega)) ?_)
  refine k _ ?_; clear k K
  -- 6 := call b Go.Builtin.len t5 | 26
  refine v_op ?_; intro K k
  simp only [zE, zL, zN, aStepM, optable, set_some, Nat.reduceEqDiff, reduceIte, Nat.reduceLT, implies_true, forall_const, reduceCtorEq, V.ofValue, V.ofScalar, V.un, V.gd, aExec, aop, List.length_map, aLen, lenOK, row_mk, Blk.row, List.size_toArray, List.getD_eq_getElem?_getD, Array.getD_eq_getD_getElem?, Option.getD_some, Nat.reduceAdd, Nat.reduceLeDiff, Nat.reduceMul, Try.underlying3, Ty.c3, Ty.a3, Ty.b3, Ty.s3, Try.underlying26, Ty.c26, Ty.a26, Ty.b26, Ty.s26, Try.underlying54, Ty.c54, Ty.a54, Ty.b54, Ty.s54]
  repeat (refine And.intro (by first | omega | (intros; omega) | (intros; simp_all; done) | (intros; simp_all; omega)) ?_)
  refine k _ ?_; clear k K
  -- 7 := move c<0:i64>
  refine v_op ?_; intro K k
  simp only [zE, aStepM, optable, set_some, Nat.reduceEqDiff, reduceIte, Nat.reduceLT, implies_true, forall_const, reduceCtorEq, V.ofValue, V.ofScalar, V.un, V.gd, aExec, aop]
  repeat (refine And.intro (by first | omega | (intros; omega) | (intros; simp_all; done) | (intros; simp_all; omega)) ?_)
  refine k _ ?_; clear k K
  refine k5 _ ?_
  refine n4 _ _ (weak_keep [0, 5, 6, 7] _) ?_
  simp only [keep_mk, keepE_nil, keepE_cons, look_cons, look_nil, Nat.reduceEqDiff, reduceIte]
  refine v_block ?_; intro Q6 n6 x6 e6 r6
  refine v_loop (fun i => ⟨[(0, .sl (l.map (fun t : Int × ByteArray × Int × Int => V.agg [V.int .i64 t.1, V.str t.2.1, V.int .i64 t.2.2.1, V.int .i64 t.2.2.2]))), (5, .sl (l.map (fun t : Int × ByteArray × Int × Int => V.agg [V.int .i64 t.1, V.str t.2.1, V.int .i64 t.2.2.1, V.int .i64 t.2.2.2]))), (6, .int .i64 l.length), (7, .int .i64 (Nat.cast i))], [], false, 73, 0⟩) (fun i => i ≤ l.length ∧ chainAt tOne tBefore l i = chainAt tOne tBefore l 0) (fun i => l.length - i) 0 ?_ ?_ ?_
  · refine weak_of [0, 5, 6, 7] ?_
    simp only [keep_mk, keepE_nil, keepE_cons, look_cons, look_nil, Nat.reduceEqDiff, reduceIte]
    rfl
  · exact ⟨Nat.zero_le _, rfl⟩
  · rintro i hok7 Q7 n7 e7 r7
    obtain ⟨hi1, hR⟩ := hok7
    refine v_seq ?_; intro Q8 n8 e8 r8  -- SEQ 3
    refine v_region ?_; intro K9 k9
    -- 8 := binOp Go.BinOp.lss 3 t7 t6 3
    refine v_op ?_; intro K k
    simp only [zE, aStepM, optable, set_some, Nat.reduceEqDiff, reduceIte, Nat.reduceLT, implies_true, forall_const, reduceCtorEq, V.ofValue, V.ofScalar, V.un, V.gd, aExec, aop, aBin, Try.underlying3]
    repeat (refine And.intro (by first | omega | (intros; omega) | (intros; simp_all; done) | (intros; simp_all; omega)) ?_)
    refine k _ ?_; clear k K
    refine k9 _ ?_
    refine n8 _ _ (weak_keep [0, 5, 6, 7, 8] _) ?_
    simp only [keep_mk, keepE_nil, keepE_cons, look_cons, look_nil, Nat.reduceEqDiff, reduceIte]
    refine v_seq ?_; intro Q10 n10 e10 r10  -- SEQ 4
    refine v_cond _ rfl ?_ ?_  -- COND 0
    · intro hc0
      try simp only [zC, reduceCtorEq] at hc0
      have hlt : i < l.length := by omega
      obtain ⟨⟨x0, x1, x2, x3⟩, hx⟩ : ∃ x : Int × ByteArray × Int × Int, l[i]? = some x := ⟨l[i]'(by omega), List.getElem?_eq_getElem (by omega)⟩
      have hsx := hls _ (List.mem_of_getElem? hx)
      rcases Nat.eq_zero_or_pos i with h0 | h0
      · skip
        have hi0 : ¬ ((0 : Int) < (i : Int)) := by omega
        have hst : chainAt tOne tBefore l i = (tOne (x0, x1, x2, x3) && chainAt tOne tBefore l (i + 1)) := by subst h0; exact chain_zero hx
        refine v_skip ?_
        refine n10 _ _ (weak_keep [0, 5, 6, 7] _) ?_
        simp only [keep_mk, keepE_nil, keepE_cons, look_cons, look_nil, Nat.reduceEqDiff, reduceIte]
        refine v_seq ?_; intro Q12 n12 e12 r12  -- SEQ 5
        refine v_block ?_; intro Q13 n13 x13 e13 r13
        refine v_seq ?_; intro Q14 n14 e14 r14  -- SEQ 6
        refine v_region ?_; intro K15 k15
        -- 9 := move t7
        refine v_op ?_; intro K k
        simp only [zE, aStepM, optable, set_some, Nat.reduceEqDiff, reduceIte, Nat.reduceLT, implies_true, forall_const, reduceCtorEq, V.ofValue, V.ofScalar, V.un, V.gd, aExec, aop, getD_map hx, hi0, decide_false, Bool.and_false]
        repeat (refine And.intro (by first | omega | (intros; omega) | (intros; simp_all; done) | (intros; simp_all; omega)) ?_)
        refine k _ ?_; clear k K
        -- 10 := indexAddr 26 t5 t7
        refine v_op ?_; intro K k
        simp only [zE, zL, zN, aStepM, optable, set_some, Nat.reduceEqDiff, reduceIte, Nat.reduceLT, implies_true, forall_const, reduceCtorEq, V.ofValue, V.ofScalar, V.un, V.gd, aExec, aop, aIndexAddr, row_mk, Blk.row, Go.Vm.V.cells, List.forall_mem_map, List.length_map, Int.toNat_natCast, Int.reduceToNat, TypeDesc.slice.injEq, Nat.reduceAdd, Nat.reduceLeDiff, Nat.reduceMul, Try.underlying26, Ty.c26, Ty.a26, Try.underlying54, Ty.c54, Ty.a54, getD_map hx, hi0, decide_false, Bool.and_false]
        repeat (refine And.intro (by first | omega | (intros; omega) | (intros; simp_all; done) | (intros; simp_all; omega)) ?_)
        refine k _ ?_; clear k K
        -- 11 := load 54 t10
        refine v_op ?_; intro K k
        simp only [zE, zL, zO, zN, aStepM, optable, set_some, Nat.reduceEqDiff, reduceIte, Nat.reduceLT, implies_true, forall_const, reduceCtorEq, V.ofValue, V.ofScalar, V.un, V.gd, aExec, aop, aLoad, row_mk, Blk.row, PartOK, Go.Vm.part, V.cells, V.noSl, V.noRef, Nat.reduceAdd, Nat.reduceLeDiff, Nat.reduceMul, Try.underlying3, Ty.c3, Ty.a3, Try.underlying9, Ty.c9, Ty.a9, Try.underlying54, Ty.c54, Ty.a54, getD_map hx, hi0]
        repeat (refine And.intro (by first | omega | (intros; omega) | (intros; simp_all; done) | (intros; simp_all; omega)) ?_)
        refine k _ ?_; clear k K
        -- 4 := alloc 54
        refine v_op ?_; intro K k
        simp only [zE, zS, zO, zN, aStepM, optable, set_some, Nat.reduceEqDiff, reduceIte, Nat.reduceLT, implies_true, forall_const, reduceCtorEq, V.ofValue, V.ofScalar, V.un, V.gd, aExec, aop, Nat.reduceAdd, Value.oneCell', V.isVal, V.cells, kindOf, kindAll, V.noSl, V.noRef, List.all_cons, List.all_nil, List.map_cons, List.map_nil, gt_iff_lt, Nat.reduceLeDiff, Nat.reduceMul, Try.underlying3, Ty.c3, Ty.a3, Ty.z3, Try.underlying9, Ty.c9, Ty.a9, Ty.z9, Try.underlying54, Ty.c54, Ty.a54, Ty.z54, getD_map hx, hi0]
        repeat (refine And.intro (by first | omega | (intros; omega) | (intros; simp_all; done) | (intros; simp_all; omega)) ?_)
        refine k _ ?_; clear k K
        -- 3 := assign t9
        refine v_op ?_; intro K k
        simp only [zE, zS, aStepM, optable, set_some, Nat.reduceEqDiff, reduceIte, Nat.reduceLT, implies_true, forall_const, reduceCtorEq, V.ofValue, V.ofScalar, V.un, V.gd, aExec, aop, Nat.reduceAdd, getD_map hx, hi0, decide_false, Bool.and_false]
        repeat (refine And.intro (by first | omega | (intros; omega) | (intros; simp_all; done) | (intros; simp_all; omega)) ?_)
        refine k _ ?_; clear k K
        -- None := store 54 t4 t11
        refine v_op ?_; intro K k
        simp only [zE, zS, zJ, zL, zO, zN, aStepM, optable, set_some, Nat.reduceEqDiff, reduceIte, Nat.reduceLT, implies_true, forall_const, reduceCtorEq, V.ofValue, V.ofScalar, V.un, V.gd, aExec, aop, aStore, setCells, V.isVal, V.cells, kindOf, kindAll, V.noSl, V.noRef, gt_iff_lt, Nat.reduceAdd, Nat.reduceLeDiff, Nat.reduceMul, takeV, takeCell, takeCells, row_mk, Blk.row, killAll, Nat.reduceBEq, Try.underlying3, Ty.c3, Ty.a3, Try.underlying9, Ty.c9, Ty.a9, Try.underlying54, Ty.c54, Ty.a54, getD_map hx, hi0]
        repeat (refine And.intro (by first | omega | (intros; omega) | (intros; simp_all; done) | (intros; simp_all; omega)) ?_)
        refine k _ ?_; clear k K
        refine k15 _ ?_
        refine n14 _ _ (weak_keep [0, 3, 4, 5, 6, 7] _) ?_
        simp only [keep_mk, keepE_nil, keepE_cons, look_cons, look_nil, Nat.reduceEqDiff, reduceIte]
        refine v_seq ?_; intro Q16 n16 e16 r16  -- SEQ 7
        refine v_seq ?_; intro Q17 n17 e17 r17  -- SEQ 8
        refine v_region ?_; intro K18 k18
        -- 12 := fieldAddr 54 t4 0
        refine v_op ?_; intro K k
        simp only [zE, zL, zN, aStepM, optable, set_some, Nat.reduceEqDiff, reduceIte, Nat.reduceLT, implies_true, forall_const, reduceCtorEq, V.ofValue, V.ofScalar, V.un, V.gd, aExec, aop, aFieldAddr, Nat.reduceAdd, Nat.reduceLeDiff, Nat.reduceMul, Try.underlying3, Ty.c3, Ty.a3, Try.underlying9, Ty.c9, Ty.a9, Try.underlying54, Ty.c54, Ty.a54, getD_map hx, hi0, decide_false, Bool.and_false]
        repeat (refine And.intro (by first | omega | (intros; omega) | (intros; simp_all; done) | (intros; simp_all; omega)) ?_)
        refine k _ ?_; clear k K
        -- 13 := load 3 t12
        refine v_op ?_; intro K k
        simp only [zE, zL, zO, zN, aStepM, optable, set_some, Nat.reduceEqDiff, reduceIte, Nat.reduceLT, implies_true, forall_const, reduceCtorEq, V.ofValue, V.ofScalar, V.un, V.gd, aExec, aop, aLoad, row_mk, Blk.row, PartOK, Go.Vm.part, V.cells, V.noSl, V.noRef, Nat.reduceAdd, Nat.reduceLeDiff, Nat.reduceMul, Try.underlying3, Ty.c3, Ty.a3, getD_map hx, hi0]
        repeat (refine And.intro (by first | omega | (intros; omega) | (intros; simp_all; done) | (intros; simp_all; omega)) ?_)
        refine k _ ?_; clear k K
        -- 14 := call v f34 t13 c<1:i64> c<999:i64> | 3 3 3
        refine v_op ?_; intro K k
        simp only [zE, zM, aStepM, optable, set_some, Nat.reduceEqDiff, reduceIte, Nat.reduceLT, implies_true, forall_const, reduceCtorEq, V.ofValue, V.ofScalar, V.un, V.gd, aExec, lentIds, lendOf, Try.underlying3, Ty.c3, Ty.a3, Ty.b3, Ty.s3, Try.underlying4, Ty.c4, Ty.a4, Ty.b4, Ty.s4]
        repeat (refine And.intro (by first | rfl | (intros; simp_all; done)) ?_)
        refine aCall_new (inside_con _ _ _) (by first | rfl | (simp only [toArgs, toArg, toCell, toCells, idx, row_mk, List.getElem?_cons_zero, List.getElem?_cons_succ, Option.bind_some, Option.map_some, Blk.row, fillK_mix, flat_mix, deep_mix, cond_true]; done) | (simp [toArgs, toArg, toCell, toCells, idx, row_mk, Blk.row, fillK_mix, Nat.beq_refl]; done)) (by first | exact .inl ⟨rfl, by simp [Blk.kindIs, fillK_fd]⟩ | exact .inr (by simp [V.cold])) ?_
        refine k _ ?_; clear k K
        simp only [zY, zW, set_some, Nat.reduceEqDiff, reduceIte, V.ren, V.renL, rho, Nat.reduceAdd]
        -- 15 := unOp Go.UnOp.not 4 t14
        refine v_op ?_; intro K k
        simp only [zE, aStepM, optable, set_some, Nat.reduceEqDiff, reduceIte, Nat.reduceLT, implies_true, forall_const, reduceCtorEq, V.ofValue, V.ofScalar, V.un, V.gd, aExec, aop, aUn, Try.underlying4, getD_map hx, hi0, decide_false, Bool.and_false]
        repeat (refine And.intro (by first | omega | (intros; omega) | (intros; simp_all; done) | (intros; simp_all; omega)) ?_)
        refine k _ ?_; clear k K
        -- 16 := move t15
        refine v_op ?_; intro K k
        simp only [zE, aStepM, optable, set_some, Nat.reduceEqDiff, reduceIte, Nat.reduceLT, implies_true, forall_const, reduceCtorEq, V.ofValue, V.ofScalar, V.un, V.gd, aExec, aop, getD_map hx, hi0, decide_false, Bool.and_false]
        repeat (refine And.intro (by first | omega | (intros; omega) | (intros; simp_all; done) | (intros; simp_all; omega)) ?_)
        refine k _ ?_; clear k K
        -- 17 := fieldAddr 54 t4 1
        first
        | refine v_pass 17 4 false rfl (show 17 < 73 by decide) rfl ?_ ?_
          · first | rfl | (simp only [zV, guardV, Nat.reduceEqDiff, reduceIte]; done)
          simp only [zW, set_some, Nat.reduceEqDiff, reduceIte]
        | skip
          -- 17 := fieldAddr 54 t4 1
          refine v_op ?_; intro K k
          simp only [zE, zL, zN, aStepM, optable, set_some, Nat.reduceEqDiff, reduceIte, Nat.reduceLT, implies_true, forall_const, reduceCtorEq, V.ofValue, V.ofScalar, V.un, V.gd, guardV, V.wrap, aExec, aop, aFieldAddr, Nat.reduceAdd, Nat.reduceLeDiff, Nat.reduceMul, Try.underlying3, Ty.c3, Ty.a3, Try.underlying9, Ty.c9, Ty.a9, Try.underlying54, Ty.c54, Ty.a54, getD_map hx, hi0, decide_false, Bool.and_false]
          repeat (refine And.intro (by first | omega | (intros; omega) | (intros; simp_all; done) | (intros; simp_all; omega)) ?_)
          refine k _ ?_; clear k K
        -- 18 := load 9 t17
        first
        | refine v_pass 18 4 false rfl (show 18 < 73 by decide) rfl ?_ ?_
          · first | rfl | (simp only [zV, guardV, Nat.reduceEqDiff, reduceIte]; done)
          simp only [zW, set_some, Nat.reduceEqDiff, reduceIte]
        | skip
          -- 18 := load 9 t17
          refine v_op ?_; intro K k
          simp only [zE, zL, zO, zN, aStepM, optable, set_some, Nat.reduceEqDiff, reduceIte, Nat.reduceLT, implies_true, forall_const, reduceCtorEq, V.ofValue, V.ofScalar, V.un, V.gd, guardV, V.wrap, aExec, aop, aLoad, row_mk, Blk.row, PartOK, Go.Vm.part, V.cells, V.noSl, V.noRef, Nat.reduceAdd, Nat.reduceLeDiff, Nat.reduceMul, Try.underlying9, Ty.c9, Ty.a9, getD_map hx, hi0]
          repeat (refine And.intro (by first | omega | (intros; omega) | (intros; simp_all; done) | (intros; simp_all; omega)) ?_)
          refine k _ ?_; clear k K
        -- 19 := call v f60 t18 | 9
        first
        | refine v_pass 19 4 false rfl (show 19 < 73 by decide) rfl ?_ ?_
          · first | rfl | (simp only [zV, guardV, Nat.reduceEqDiff, reduceIte]; done)
          simp only [zW, set_some, Nat.reduceEqDiff, reduceIte]
        | skip
          -- 19 := call v f60 t18 | 9
          refine v_op ?_; intro K k
          simp only [zE, zG, aStepM, optable, set_some, Nat.reduceEqDiff, reduceIte, Nat.reduceLT, implies_true, forall_const, reduceCtorEq, V.ofValue, V.ofScalar, V.un, V.gd, guardV, Try.underlying4, Ty.c4, Ty.a4, Ty.b4, Ty.s4, Try.underlying9, Ty.c9, Ty.a9, Ty.b9, Ty.s9]
          simp only [zM, zW, aExec, lentIds, lendOf, set_some, Nat.reduceEqDiff, reduceIte, V.ofValue, V.ofScalar, V.un, V.gd, and_true, true_and, implies_true, and_self, decide_eq_true_eq]
          first | refine Exists.imp (fun r h => h) (aCall_guardT (isName_con _ hsx) (by first | rfl | (simp only [toArgs, toArg, toCell, toCells, idx, row_mk, List.getElem?_cons_zero, List.getElem?_cons_succ, Option.bind_some, Option.map_some, Blk.row, fillK_mix, flat_mix, deep_mix, cond_true]; done) | (simp [toArgs, toArg, toCell, toCells, idx, row_mk, Blk.row, fillK_mix, Nat.beq_refl]; done)) rfl rfl ?_) | refine Exists.imp (fun r h => h) (aCall_guard (by first | (intros; trivial) | (intros; simp_all; done)) (fun hg => isName_con _ hsx) (by first | rfl | (simp only [toArgs, toArg, toCell, toCells, idx, row_mk, List.getElem?_cons_zero, List.getElem?_cons_succ, Option.bind_some, Option.map_some, Blk.row, fillK_mix, flat_mix, deep_mix, cond_true]; done) | (simp [toArgs, toArg, toCell, toCells, idx, row_mk, Blk.row, fillK_mix, Nat.beq_refl]; done)) rfl rfl ?_)
          refine k _ ?_
          clear k K
        -- 20 := unOp Go.UnOp.not 4 t19
        first
        | refine v_pass 20 4 false rfl (show 20 < 73 by decide) rfl ?_ ?_
          · first | rfl | (simp only [zV, guardV, Nat.reduceEqDiff, reduceIte]; done)
          simp only [zW, set_some, Nat.reduceEqDiff, reduceIte]
        | skip
          -- 20 := unOp Go.UnOp.not 4 t19
          refine v_op ?_; intro K k
          simp only [zE, zG, aStepM, optable, set_some, Nat.reduceEqDiff, reduceIte, Nat.reduceLT, implies_true, forall_const, reduceCtorEq, V.ofValue, V.ofScalar, V.un, V.gd, guardV, V.wrap, aExec, aop, aUn, Try.underlying4, getD_map hx, hi0, decide_false, Bool.and_false]
          repeat (refine And.intro (by first | omega | (intros; omega) | (intros; simp_all; done) | (intros; simp_all; omega)) ?_)
          refine k _ ?_; clear k K
        -- 21 := pick t16 c<true> t20
        refine v_op ?_; intro K k
        simp only [zE, zP, aStepM, optable, set_some, Nat.reduceEqDiff, reduceIte, Nat.reduceLT, implies_true, forall_const, reduceCtorEq, V.ofValue, V.ofScalar, V.un, V.gd, aExec, aop, pickV, getD_map hx, hi0, decide_false, Bool.and_false]
        repeat (refine And.intro (by first | omega | (intros; omega) | (intros; simp_all; done) | (intros; simp_all; omega)) ?_)
        refine k _ ?_; clear k K
        -- 22 := move t21
        refine v_op ?_; intro K k
        simp only [zE, aStepM, optable, set_some, Nat.reduceEqDiff, reduceIte, Nat.reduceLT, implies_true, forall_const, reduceCtorEq, V.ofValue, V.ofScalar, V.un, V.gd, aExec, aop, getD_map hx, hi0, decide_false, Bool.and_false]
        repeat (refine And.intro (by first | omega | (intros; omega) | (intros; simp_all; done) | (intros; simp_all; omega)) ?_)
        refine k _ ?_; clear k K
        -- 23 := fieldAddr 54 t4 2
        first
        | refine v_pass 23 10 false rfl (show 23 < 73 by decide) rfl ?_ ?_
          · first | rfl | (simp only [zV, guardV, Nat.reduceEqDiff, reduceIte]; done)
          simp only [zW, set_some, Nat.reduceEqDiff, reduceIte]
        | skip
          -- 23 := fieldAddr 54 t4 2
          refine v_op ?_; intro K k
          simp only [zE, zL, zN, aStepM, optable, set_some, Nat.reduceEqDiff, reduceIte, Nat.reduceLT, implies_true, forall_const, reduceCtorEq, V.ofValue, V.ofScalar, V.un, V.gd, guardV, V.wrap, aExec, aop, aFieldAddr, Nat.reduceAdd, Nat.reduceLeDiff, Nat.reduceMul, Try.underlying3, Ty.c3, Ty.a3, Try.underlying9, Ty.c9, Ty.a9, Try.underlying54, Ty.c54, Ty.a54, getD_map hx, hi0, decide_false, Bool.and_false]
          repeat (refine And.intro (by first | omega | (intros; omega) | (intros; simp_all; done) | (intros; simp_all; omega)) ?_)
          refine k _ ?_; clear k K
        -- 24 := load 3 t23
        first
        | refine v_pass 24 10 false rfl (show 24 < 73 by decide) rfl ?_ ?_
          · first | rfl | (simp only [zV, guardV, Nat.reduceEqDiff, reduceIte]; done)
          simp only [zW, set_some, Nat.reduceEqDiff, reduceIte]
        | skip
          -- 24 := load 3 t23
          refine v_op ?_; intro K k
          simp only [zE, zL, zO, zN, aStepM, optable, set_some, Nat.reduceEqDiff, reduceIte, Nat.reduceLT, implies_true, forall_const, reduceCtorEq, V.ofValue, V.ofScalar, V.un, V.gd, guardV, V.wrap, aExec, aop, aLoad, row_mk, Blk.row, PartOK, Go.Vm.part, V.cells, V.noSl, V.noRef, Nat.reduceAdd, Nat.reduceLeDiff, Nat.reduceMul, Try.underlying3, Ty.c3, Ty.a3, getD_map hx, hi0]
          repeat (refine And.intro (by first | omega | (intros; omega) | (intros; simp_all; done) | (intros; simp_all; omega)) ?_)
          refine k _ ?_; clear k K
        -- 25 := fieldAddr 54 t4 3
        first
        | refine v_pass 25 10 false rfl (show 25 < 73 by decide) rfl ?_ ?_
          · first | rfl | (simp only [zV, guardV, Nat.reduceEqDiff, reduceIte]; done)
          simp only [zW, set_some, Nat.reduceEqDiff, reduceIte]
        | skip
          -- 25 := fieldAddr 54 t4 3
          refine v_op ?_; intro K k
          simp only [zE, zL, zN, aStepM, optable, set_some, Nat.reduceEqDiff, reduceIte, Nat.reduceLT, implies_true, forall_const, reduceCtorEq, V.ofValue, V.ofScalar, V.un, V.gd, guardV, V.wrap, aExec, aop, aFieldAddr, Nat.reduceAdd, Nat.reduceLeDiff, Nat.reduceMul, Try.underlying3, Ty.c3, Ty.a3, Try.underlying9, Ty.c9, Ty.a9, Try.underlying54, Ty.c54, Ty.a54, getD_map hx, hi0, decide_false, Bool.and_false]
          repeat (refine And.intro (by first | omega | (intros; omega) | (intros; simp_all; done) | (intros; simp_all; omega)) ?_)
          refine k _ ?_; clear k K
        -- 26 := load 3 t25
        first
        | refine v_pass 26 10 false rfl (show 26 < 73 by decide) rfl ?_ ?_
          · first | rfl | (simp only [zV, guardV, Nat.reduceEqDiff, reduceIte]; done)
          simp only [zW, set_some, Nat.reduceEqDiff, reduceIte]
        | skip
          -- 26 := load 3 t25
          refine v_op ?_; intro K k
          simp only [zE, zL, zO, zN, aStepM, optable, set_some, Nat.reduceEqDiff, reduceIte, Nat.reduceLT, implies_true, forall_const, reduceCtorEq, V.ofValue, V.ofScalar, V.un, V.gd, guardV, V.wrap, aExec, aop, aLoad, row_mk, Blk.row, PartOK, Go.Vm.part, V.cells, V.noSl, V.noRef, Nat.reduceAdd, Nat.reduceLeDiff, Nat.reduceMul, Try.underlying3, Ty.c3, Ty.a3, getD_map hx, hi0]
          repeat (refine And.intro (by first | omega | (intros; omega) | (intros; simp_all; done) | (intros; simp_all; omega)) ?_)
          refine k _ ?_; clear k K
        -- 27 := call v f34 t24 c<0:i64> t26 | 3 3 3
        first
        | refine v_pass 27 10 false rfl (show 27 < 73 by decide) rfl ?_ ?_
          · first | rfl | (simp only [zV, guardV, Nat.reduceEqDiff, reduceIte]; done)
          simp only [zW, set_some, Nat.reduceEqDiff, reduceIte]
        | skip
          -- 27 := call v f34 t24 c<0:i64> t26 | 3 3 3
          refine v_op ?_; intro K k
          simp only [zE, zG, aStepM, optable, set_some, Nat.reduceEqDiff, reduceIte, Nat.reduceLT, implies_true, forall_const, reduceCtorEq, V.ofValue, V.ofScalar, V.un, V.gd, guardV, Try.underlying3, Ty.c3, Ty.a3, Ty.b3, Ty.s3, Try.underlying4, Ty.c4, Ty.a4, Ty.b4, Ty.s4]
          simp only [zM, zW, aExec, lentIds, lendOf, set_some, Nat.reduceEqDiff, reduceIte, V.ofValue, V.ofScalar, V.un, V.gd, and_true, true_and, implies_true, and_self, decide_eq_true_eq]
          first | refine Exists.imp (fun r h => h) (aCall_guardT (inside_con _ _ _) (by first | rfl | (simp only [toArgs, toArg, toCell, toCells, idx, row_mk, List.getElem?_cons_zero, List.getElem?_cons_succ, Option.bind_some, Option.map_some, Blk.row, fillK_mix, flat_mix, deep_mix, cond_true]; done) | (simp [toArgs, toArg, toCell, toCells, idx, row_mk, Blk.row, fillK_mix, Nat.beq_refl]; done)) rfl rfl ?_) | refine Exists.imp (fun r h => h) (aCall_guard (by first | (intros; trivial) | (intros; simp_all; done)) (fun hg => inside_con _ _ _) (by first | rfl | (simp only [toArgs, toArg, toCell, toCells, idx, row_mk, List.getElem?_cons_zero, List.getElem?_cons_succ, Option.bind_some, Option.map_some, Blk.row, fillK_mix, flat_mix, deep_mix, cond_true]; done) | (simp [toArgs, toArg, toCell, toCells, idx, row_mk, Blk.row, fillK_mix, Nat.beq_refl]; done)) rfl rfl ?_)
          refine k _ ?_
          clear k K
        -- 28 := unOp Go.UnOp.not 4 t27
        first
        | refine v_pass 28 10 false rfl (show 28 < 73 by decide) rfl ?_ ?_
          · first | rfl | (simp only [zV, guardV, Nat.reduceEqDiff, reduceIte]; done)
          simp only [zW, set_some, Nat.reduceEqDiff, reduceIte]
        | skip
          -- 28 := unOp Go.UnOp.not 4 t27
          refine v_op ?_; intro K k
          simp only [zE, zG, aStepM, optable, set_some, Nat.reduceEqDiff, reduceIte, Nat.reduceLT, implies_true, forall_const, reduceCtorEq, V.ofValue, V.ofScalar, V.un, V.gd, guardV, V.wrap, aExec, aop, aUn, Try.underlying4, getD_map hx, hi0, decide_false, Bool.and_false]
          repeat (refine And.intro (by first | omega | (intros; omega) | (intros; simp_all; done) | (intros; simp_all; omega)) ?_)
          refine k _ ?_; clear k K
        -- 29 := pick t22 c<true> t28
        refine v_op ?_; intro K k
        simp only [zE, zP, aStepM, optable, set_some, Nat.reduceEqDiff, reduceIte, Nat.reduceLT, implies_true, forall_const, reduceCtorEq, V.ofValue, V.ofScalar, V.un, V.gd, aExec, aop, pickV, getD_map hx, hi0, decide_false, Bool.and_false]
        repeat (refine And.intro (by first | omega | (intros; omega) | (intros; simp_all; done) | (intros; simp_all; omega)) ?_)
        refine k _ ?_; clear k K
        -- 30 := move t29
        refine v_op ?_; intro K k
        simp only [zE, aStepM, optable, set_some, Nat.reduceEqDiff, reduceIte, Nat.reduceLT, implies_true, forall_const, reduceCtorEq, V.ofValue, V.ofScalar, V.un, V.gd, aExec, aop, getD_map hx, hi0, decide_false, Bool.and_false]
        repeat (refine And.intro (by first | omega | (intros; omega) | (intros; simp_all; done) | (intros; simp_all; omega)) ?_)
        refine k _ ?_; clear k K
        -- 31 := fieldAddr 54 t4 3
        first
        | refine v_pass 31 18 false rfl (show 31 < 73 by decide) rfl ?_ ?_
          · first | rfl | (simp only [zV, guardV, Nat.reduceEqDiff, reduceIte]; done)
          simp only [zW, set_some, Nat.reduceEqDiff, reduceIte]
        | skip
          -- 31 := fieldAddr 54 t4 3
          refine v_op ?_; intro K k
          simp only [zE, zL, zN, aStepM, optable, set_some, Nat.reduceEqDiff, reduceIte, Nat.reduceLT, implies_true, forall_const, reduceCtorEq, V.ofValue, V.ofScalar, V.un, V.gd, guardV, V.wrap, aExec, aop, aFieldAddr, Nat.reduceAdd, Nat.reduceLeDiff, Nat.reduceMul, Try.underlying3, Ty.c3, Ty.a3, Try.underlying9, Ty.c9, Ty.a9, Try.underlying54, Ty.c54, Ty.a54, getD_map hx, hi0, decide_false, Bool.and_false]
          repeat (refine And.intro (by first | omega | (intros; omega) | (intros; simp_all; done) | (intros; simp_all; omega)) ?_)
          refine k _ ?_; clear k K
        -- 32 := load 3 t31
        first
        | refine v_pass 32 18 false rfl (show 32 < 73 by decide) rfl ?_ ?_
          · first | rfl | (simp only [zV, guardV, Nat.reduceEqDiff, reduceIte]; done)
          simp only [zW, set_some, Nat.reduceEqDiff, reduceIte]
        | skip
          -- 32 := load 3 t31
          refine v_op ?_; intro K k
          simp only [zE, zL, zO, zN, aStepM, optable, set_some, Nat.reduceEqDiff, reduceIte, Nat.reduceLT, implies_true, forall_const, reduceCtorEq, V.ofValue, V.ofScalar, V.un, V.gd, guardV, V.wrap, aExec, aop, aLoad, row_mk, Blk.row, PartOK, Go.Vm.part, V.cells, V.noSl, V.noRef, Nat.reduceAdd, Nat.reduceLeDiff, Nat.reduceMul, Try.underlying3, Ty.c3, Ty.a3, getD_map hx, hi0]
          repeat (refine And.intro (by first | omega | (intros; omega) | (intros; simp_all; done) | (intros; simp_all; omega)) ?_)
          refine k _ ?_; clear k K
        -- 33 := binOp Go.BinOp.gtr 3 t32 c<999999:i64> 3
        first
        | refine v_pass 33 18 false rfl (show 33 < 73 by decide) rfl ?_ ?_
          · first | rfl | (simp only [zV, guardV, Nat.reduceEqDiff, reduceIte]; done)
          simp only [zW, set_some, Nat.reduceEqDiff, reduceIte]
        | skip
          -- 33 := binOp Go.BinOp.gtr 3 t32 c<999999:i64> 3
          refine v_op ?_; intro K k
          simp only [zE, zG, aStepM, optable, set_some, Nat.reduceEqDiff, reduceIte, Nat.reduceLT, implies_true, forall_const, reduceCtorEq, V.ofValue, V.ofScalar, V.un, V.gd, guardV, V.wrap, aExec, aop, aBin, Try.underlying3, getD_map hx, hi0, decide_false, Bool.and_false]
          repeat (refine And.intro (by first | omega | (intros; omega) | (intros; simp_all; done) | (intros; simp_all; omega)) ?_)
          refine k _ ?_; clear k K
        -- 34 := pick t30 c<true> t33
        refine v_op ?_; intro K k
        simp only [zE, zP, aStepM, optable, set_some, Nat.reduceEqDiff, reduceIte, Nat.reduceLT, implies_true, forall_const, reduceCtorEq, V.ofValue, V.ofScalar, V.un, V.gd, aExec, aop, pickV, getD_map hx, hi0, decide_false, Bool.and_false]
        repeat (refine And.intro (by first | omega | (intros; omega) | (intros; simp_all; done) | (intros; simp_all; omega)) ?_)
        refine k _ ?_; clear k K
        refine k18 _ ?_
        refine n17 _ _ (weak_keep [0, 3, 4, 5, 6, 7, 34] _) ?_
        simp only [keep_mk, keepE_nil, keepE_cons, look_cons, look_nil, Nat.reduceEqDiff, reduceIte]
        refine v_cond _ rfl ?_ ?_  -- COND 1
        · intro hc1
          try simp only [zC, reduceCtorEq] at hc1
          have hone : tOne (x0, x1, x2, x3) = false := by
            cases hq : tOne (x0, x1, x2, x3) with
            | false => rfl
            | true =>
              exfalso
              simp only [tOne, Bool.and_eq_true, decide_eq_true_eq] at hq
              have hnm := hq.1.1.2
              simp [hnm] at hc1
              omega
          refine v_seq ?_; intro Q20 n20 e20 r20  -- SEQ 9
          refine v_region ?_; intro K21 k21
          -- 2 := assign c<false>
          refine v_op ?_; intro K k
          simp only [zE, zS, aStepM, optable, set_some, Nat.reduceEqDiff, reduceIte, Nat.reduceLT, implies_true, forall_const, reduceCtorEq, V.ofValue, V.ofScalar, V.un, V.gd, aExec, aop, Nat.reduceAdd, getD_map hx, hi0, decide_false, Bool.and_false]
          repeat (refine And.intro (by first | omega | (intros; omega) | (intros; simp_all; done) | (intros; simp_all; omega)) ?_)
          refine k _ ?_; clear k K
          refine k21 _ ?_
          refine n20 _ _ (weak_keep [2] _) ?_
          simp only [keep_mk, keepE_nil, keepE_cons, look_cons, look_nil, Nat.reduceEqDiff, reduceIte]
          refine v_ret ?_
          refine r16 _ ?_
          refine r13 _ ?_
          refine r12 _ ?_
          refine r7 _ ?_
          refine r6 _ ?_
          refine r3 _ ?_
          refine r0 _ ?_
          simp only [resK, pickRV, get_mk, look_cons, look_nil, Nat.reduceEqDiff, reduceIte, List.map_cons, List.map_nil]
          exact ret_pure rfl (by rw [turnsB, ← hR, hst]; clear hR hst; first | (simp [hone]; done) | (simp [hone, hbf]; done) | (simp [hc1]; done) | (rcases hc1 with h | h <;> simp [h])) (.inl rfl)
        · intro hc1
          try simp only [zC, reduceCtorEq] at hc1
          have hone : tOne (x0, x1, x2, x3) = true := by
            cases hnm : nameB x1 with
            | false => simp [hnm] at hc1
            | true =>
              simp only [hnm] at hc1
              simp only [tOne, Bool.and_eq_true, decide_eq_true_eq, hnm]
              simp at hc1 ⊢
              omega
          refine v_skip ?_
          refine n16 _ _ (weak_keep [0, 3, 4, 5, 6, 7] _) ?_
          simp only [keep_mk, keepE_nil, keepE_cons, look_cons, look_nil, Nat.reduceEqDiff, reduceIte]
          refine v_seq ?_; intro Q22 n22 e22 r22  -- SEQ 10
          refine v_draw (by kernel_rfl) ?_; intro K23 q23 k23
          show aAny _ _ _ _ 34 (Array.replicate 34 false) _
          -- 35 := move t3
          refine aAny_take q23 true 0 35 rfl rfl (by kernel_rfl) (by kernel_rfl) ?_
          apply Exists.intro; apply And.intro
          · intro t hn gx ho K' k'
            have g3 := gx 3 (by decide)
            simp only [get_mk, look_cons, look_nil, set_some, Nat.reduceEqDiff, reduceIte] at g3
            have hdl : 35 < t.n := by rw [hn]; show 35 < 73; decide
            clear hn
            refine .inl ?_
            simp only [zE, hdl, aStepM, optable, Nat.reduceEqDiff, reduceIte, implies_true, forall_const, reduceCtorEq, V.ofValue, V.ofScalar, V.un, V.gd, aExec, aop, g3, getD_map hx, hi0, decide_false, Bool.and_false]
            repeat (refine And.intro (by first | omega | (intros; omega) | (intros; simp_all; done) | (intros; simp_all; omega)) ?_)
            exact k'
          simp only [set_some]
          -- 36 := binOp Go.BinOp.gtr 3 t35 c<0:i64> 3
          refine aAny_take q23 true 1 36 rfl rfl (by kernel_rfl) (by kernel_rfl) ?_
          apply Exists.intro; apply And.intro
          · intro t hn gx ho K' k'
            have g35 := gx 35 (by decide)
            simp only [get_mk, look_cons, look_nil, set_some, Nat.reduceEqDiff, reduceIte] at g35
            have hdl : 36 < t.n := by rw [hn]; show 36 < 73; decide
            clear hn
            refine .inl ?_
            simp only [zE, hdl, aStepM, optable, Nat.reduceEqDiff, reduceIte, implies_true, forall_const, reduceCtorEq, V.ofValue, V.ofScalar, V.un, V.gd, aExec, aop, g35, aBin, Try.underlying3, getD_map hx, hi0, decide_false, Bool.and_false]
            repeat (refine And.intro (by first | omega | (intros; omega) | (intros; simp_all; done) | (intros; simp_all; omega)) ?_)
            exact k'
          simp only [set_some]
          -- 37 := move t36
          refine aAny_take q23 true 2 37 rfl rfl (by kernel_rfl) (by kernel_rfl) ?_
          apply Exists.intro; apply And.intro
          · intro t hn gx ho K' k'
            have g36 := gx 36 (by decide)
            simp only [get_mk, look_cons, look_nil, set_some, Nat.reduceEqDiff, reduceIte] at g36
            have hdl : 37 < t.n := by rw [hn]; show 37 < 73; decide
            clear hn
            refine .inl ?_
            simp only [zE, hdl, aStepM, optable, Nat.reduceEqDiff, reduceIte, implies_true, forall_const, reduceCtorEq, V.ofValue, V.ofScalar, V.un, V.gd, aExec, aop, g36, getD_map hx, hi0, decide_false, Bool.and_false]
            repeat (refine And.intro (by first | omega | (intros; omega) | (intros; simp_all; done) | (intros; simp_all; omega)) ?_)
            exact k'
          simp only [set_some]
          -- 38 := move t0
          refine aAny_take q23 true 3 38 rfl rfl (by kernel_rfl) (by kernel_rfl) ?_
          apply Exists.intro; apply And.intro
          · intro t hn gx ho K' k'
            have g0 := gx 0 (by decide)
            have g37 := gx 37 (by decide)
            simp only [get_mk, look_cons, look_nil, set_some, Nat.reduceEqDiff, reduceIte] at g0 g37
            have hdl : 38 < t.n := by rw [hn]; show 38 < 73; decide
            clear hn
            first
            | refine .inr ⟨hdl, 2, true, rfl, ?_, k'⟩
              first | rfl | (simp only [zV, guardV, Nat.reduceEqDiff, reduceIte, g0, g37]; done)
            | skip
              refine .inl ?_
              simp only [zE, zG, hdl, aStepM, optable, Nat.reduceEqDiff, reduceIte, implies_true, forall_const, reduceCtorEq, V.ofValue, V.ofScalar, V.un, V.gd, guardV, V.wrap, aExec, aop, g0, g37, getD_map hx, hi0, decide_false, Bool.and_false]
              repeat (refine And.intro (by first | omega | (intros; omega) | (intros; simp_all; done) | (intros; simp_all; omega)) ?_)
              exact k'
          simp only [set_some]
          -- 39 := move t3
          refine aAny_take q23 true 4 39 rfl rfl (by kernel_rfl) (by kernel_rfl) ?_
          apply Exists.intro; apply And.intro
          · intro t hn gx ho K' k'
            have g3 := gx 3 (by decide)
            have g37 := gx 37 (by decide)
            simp only [get_mk, look_cons, look_nil, set_some, Nat.reduceEqDiff, reduceIte] at g3 g37
            have hdl : 39 < t.n := by rw [hn]; show 39 < 73; decide
            clear hn
            first
            | refine .inr ⟨hdl, 2, true, rfl, ?_, k'⟩
              first | rfl | (simp only [zV, guardV, Nat.reduceEqDiff, reduceIte, g3, g37]; done)
            | skip
              refine .inl ?_
              simp only [zE, zG, hdl, aStepM, optable, Nat.reduceEqDiff, reduceIte, implies_true, forall_const, reduceCtorEq, V.ofValue, V.ofScalar, V.un, V.gd, guardV, V.wrap, aExec, aop, g3, g37, getD_map hx, hi0, decide_false, Bool.and_false]
              repeat (refine And.intro (by first | omega | (intros; omega) | (intros; simp_all; done) | (intros; simp_all; omega)) ?_)
              exact k'
          simp only [set_some]
          -- 40 := binOp Go.BinOp.sub 3 t39 c<1:i64> 3
          refine aAny_take q23 true 5 40 rfl rfl (by kernel_rfl) (by kernel_rfl) ?_
          apply Exists.intro; apply And.intro
          · intro t hn gx ho K' k'
            have g37 := gx 37 (by decide)
            have g39 := gx 39 (by decide)
            simp only [get_mk, look_cons, look_nil, set_some, Nat.reduceEqDiff, reduceIte] at g37 g39
            have hdl : 40 < t.n := by rw [hn]; show 40 < 73; decide
            clear hn
            first
            | refine .inr ⟨hdl, 2, true, rfl, ?_, k'⟩
              first | rfl | (simp only [zV, guardV, Nat.reduceEqDiff, reduceIte, g37, g39]; done)
            | skip
              refine .inl ?_
              simp only [zE, zG, hdl, aStepM, optable, Nat.reduceEqDiff, reduceIte, implies_true, forall_const, reduceCtorEq, V.ofValue, V.ofScalar, V.un, V.gd, guardV, V.wrap, aExec, aop, g37, g39, aBin, Try.underlying3, getD_map hx, hi0, decide_false, Bool.and_false]
              try simp (disch := omega) only [wrap64]
              repeat (refine And.intro (by first | omega | (intros; omega) | (intros; simp_all; done) | (intros; simp_all; omega)) ?_)
              exact k'
          simp only [set_some]
          -- 41 := indexAddr 26 t38 t40
          refine aAny_take q23 true 6 41 rfl rfl (by kernel_rfl) (by kernel_rfl) ?_
          apply Exists.intro; apply And.intro
          · intro t hn gx ho K' k'
            have g37 := gx 37 (by decide)
            have g38 := gx 38 (by decide)
            have g40 := gx 40 (by decide)
            simp only [get_mk, look_cons, look_nil, set_some, Nat.reduceEqDiff, reduceIte] at g37 g38 g40
            first | have row0 := grow_row (i := 0) (ho rfl) rfl | have row0 : t.n + 0 = t.n := rfl
            first | have row1 := grow_row (i := 1) (ho rfl) rfl | have row1 : t.n + 0 = t.n := rfl
            first | have row2 := grow_row (i := 2) (ho rfl) rfl | have row2 : t.n + 0 = t.n := rfl
            have hdl : 41 < t.n := by rw [hn]; show 41 < 73; decide
            clear hn
            first
            | refine .inr ⟨hdl, 2, true, rfl, ?_, k'⟩
              first | rfl | (simp only [zV, guardV, Nat.reduceEqDiff, reduceIte, g37, g38, g40, row0, row1, row2]; done)
            | skip
              refine .inl ?_
              simp only [zE, zL, zN, hdl, aStepM, optable, Nat.reduceEqDiff, reduceIte, implies_true, forall_const, reduceCtorEq, V.ofValue, V.ofScalar, V.un, V.gd, guardV, V.wrap, aExec, aop, g37, g38, g40, row0, row1, row2, aIndexAddr, row_mk, Blk.row, Go.Vm.V.cells, List.forall_mem_map, List.length_map, Int.toNat_natCast, Int.reduceToNat, TypeDesc.slice.injEq, Nat.reduceAdd, Nat.reduceLeDiff, Nat.reduceLT, Nat.reduceMul, Try.underlying26, Ty.c26, Ty.a26, Try.underlying54, Ty.c54, Ty.a54, getD_map hx, hi0, decide_false, Bool.and_false]
              repeat (refine And.intro (by first | omega | (intros; omega) | (intros; simp_all; done) | (intros; simp_all; omega)) ?_)
              exact k'
          simp only [set_some]
          -- 42 := fieldAddr 54 t41 2
          refine aAny_take q23 true 7 42 rfl rfl (by kernel_rfl) (by kernel_rfl) ?_
          apply Exists.intro; apply And.intro
          · intro t hn gx ho K' k'
            have g37 := gx 37 (by decide)
            have g41 := gx 41 (by decide)
            simp only [get_mk, look_cons, look_nil, set_some, Nat.reduceEqDiff, reduceIte] at g37 g41
            have hdl : 42 < t.n := by rw [hn]; show 42 < 73; decide
            clear hn
            first
            | refine .inr ⟨hdl, 2, true, rfl, ?_, k'⟩
              first | rfl | (simp only [zV, guardV, Nat.reduceEqDiff, reduceIte, g37, g41]; done)
            | skip
              refine .inl ?_
              simp only [zE, zL, zN, hdl, aStepM, optable, Nat.reduceEqDiff, reduceIte, implies_true, forall_const, reduceCtorEq, V.ofValue, V.ofScalar, V.un, V.gd, guardV, V.wrap, aExec, aop, g37, g41, aFieldAddr, Nat.reduceAdd, Nat.reduceLeDiff, Nat.reduceLT, Nat.reduceMul, Try.underlying3, Ty.c3, Ty.a3, Try.underlying9, Ty.c9, Ty.a9, Try.underlying54, Ty.c54, Ty.a54, getD_map hx, hi0, decide_false, Bool.and_false]
              repeat (refine And.intro (by first | omega | (intros; omega) | (intros; simp_all; done) | (intros; simp_all; omega)) ?_)
              exact k'
          simp only [set_some]
          -- 43 := load 3 t42
          refine aAny_take q23 true 8 43 rfl rfl (by kernel_rfl) (by kernel_rfl) ?_
          apply Exists.intro; apply And.intro
          · intro t hn gx ho K' k'
            have g37 := gx 37 (by decide)
            have g42 := gx 42 (by decide)
            simp only [get_mk, look_cons, look_nil, set_some, Nat.reduceEqDiff, reduceIte] at g37 g42
            first | have row0 := grow_row (i := 0) (ho rfl) rfl | have row0 : t.n + 0 = t.n := rfl
            first | have row1 := grow_row (i := 1) (ho rfl) rfl | have row1 : t.n + 0 = t.n := rfl
            first | have row2 := grow_row (i := 2) (ho rfl) rfl | have row2 : t.n + 0 = t.n := rfl
            have hdl : 43 < t.n := by rw [hn]; show 43 < 73; decide
            clear hn
            first
            | refine .inr ⟨hdl, 2, true, rfl, ?_, k'⟩
              first | rfl | (simp only [zV, guardV, Nat.reduceEqDiff, reduceIte, g37, g42, row0, row1, row2]; done)
            | skip
              refine .inl ?_
              simp only [zE, zL, zO, zN, hdl, aStepM, optable, Nat.reduceEqDiff, reduceIte, implies_true, forall_const, reduceCtorEq, V.ofValue, V.ofScalar, V.un, V.gd, guardV, V.wrap, aExec, aop, g37, g42, row0, row1, row2, aLoad, row_mk, Blk.row, PartOK, Go.Vm.part, V.cells, V.noSl, V.noRef, Nat.reduceAdd, Nat.reduceLeDiff, Nat.reduceLT, Nat.reduceMul, Try.underlying3, Ty.c3, Ty.a3, getD_map hx, hi0]
              repeat (refine And.intro (by first | omega | (intros; omega) | (intros; simp_all; done) | (intros; simp_all; omega)) ?_)
              exact k'
          simp only [set_some]
          -- 44 := fieldAddr 54 t4 2
          refine aAny_take q23 true 9 44 rfl rfl (by kernel_rfl) (by kernel_rfl) ?_
          apply Exists.intro; apply And.intro
          · intro t hn gx ho K' k'
            have g4 := gx 4 (by decide)
            have g37 := gx 37 (by decide)
            simp only [get_mk, look_cons, look_nil, set_some, Nat.reduceEqDiff, reduceIte] at g4 g37
            have hdl : 44 < t.n := by rw [hn]; show 44 < 73; decide
            clear hn
            first
            | refine .inr ⟨hdl, 2, true, rfl, ?_, k'⟩
              first | rfl | (simp only [zV, guardV, Nat.reduceEqDiff, reduceIte, g4, g37]; done)
            | skip
              refine .inl ?_
              simp only [zE, zL, zN, hdl, aStepM, optable, Nat.reduceEqDiff, reduceIte, implies_true, forall_const, reduceCtorEq, V.ofValue, V.ofScalar, V.un, V.gd, guardV, V.wrap, aExec, aop, g4, g37, aFieldAddr, Nat.reduceAdd, Nat.reduceLeDiff, Nat.reduceLT, Nat.reduceMul, Try.underlying3, Ty.c3, Ty.a3, Try.underlying9, Ty.c9, Ty.a9, Try.underlying54, Ty.c54, Ty.a54, getD_map hx, hi0, decide_false, Bool.and_false]
              repeat (refine And.intro (by first | omega | (intros; omega) | (intros; simp_all; done) | (intros; simp_all; omega)) ?_)
              exact k'
          simp only [set_some]
          -- 45 := load 3 t44
          refine aAny_take q23 true 10 45 rfl rfl (by kernel_rfl) (by kernel_rfl) ?_
          apply Exists.intro; apply And.intro
          · intro t hn gx ho K' k'
            have g37 := gx 37 (by decide)
            have g44 := gx 44 (by decide)
            simp only [get_mk, look_cons, look_nil, set_some, Nat.reduceEqDiff, reduceIte] at g37 g44
            first | have row0 := grow_row (i := 0) (ho rfl) rfl | have row0 : t.n + 0 = t.n := rfl
            first | have row1 := grow_row (i := 1) (ho rfl) rfl | have row1 : t.n + 0 = t.n := rfl
            first | have row2 := grow_row (i := 2) (ho rfl) rfl | have row2 : t.n + 0 = t.n := rfl
            have hdl : 45 < t.n := by rw [hn]; show 45 < 73; decide
            clear hn
            first
            | refine .inr ⟨hdl, 2, true, rfl, ?_, k'⟩
              first | rfl | (simp only [zV, guardV, Nat.reduceEqDiff, reduceIte, g37, g44, row0, row1, row2]; done)
            | skip
              refine .inl ?_
              simp only [zE, zL, zO, zN, hdl, aStepM, optable, Nat.reduceEqDiff, reduceIte, implies_true, forall_const, reduceCtorEq, V.ofValue, V.ofScalar, V.un, V.gd, guardV, V.wrap, aExec, aop, g37, g44, row0, row1, row2, aLoad, row_mk, Blk.row, PartOK, Go.Vm.part, V.cells, V.noSl, V.noRef, Nat.reduceAdd, Nat.reduceLeDiff, Nat.reduceLT, Nat.reduceMul, Try.underlying3, Ty.c3, Ty.a3, getD_map hx, hi0]
              repeat (refine And.intro (by first | omega | (intros; omega) | (intros; simp_all; done) | (intros; simp_all; omega)) ?_)
              exact k'
          simp only [set_some]
          -- 47 := move t0
          refine aAny_take q23 true 12 47 rfl rfl (by kernel_rfl) (by kernel_rfl) ?_
          apply Exists.intro; apply And.intro
          · intro t hn gx ho K' k'
            have g0 := gx 0 (by decide)
            have g37 := gx 37 (by decide)
            simp only [get_mk, look_cons, look_nil, set_some, Nat.reduceEqDiff, reduceIte] at g0 g37
            have hdl : 47 < t.n := by rw [hn]; show 47 < 73; decide
            clear hn
            first
            | refine .inr ⟨hdl, 2, true, rfl, ?_, k'⟩
              first | rfl | (simp only [zV, guardV, Nat.reduceEqDiff, reduceIte, g0, g37]; done)
            | skip
              refine .inl ?_
              simp only [zE, zG, hdl, aStepM, optable, Nat.reduceEqDiff, reduceIte, implies_true, forall_const, reduceCtorEq, V.ofValue, V.ofScalar, V.un, V.gd, guardV, V.wrap, aExec, aop, g0, g37, getD_map hx, hi0, decide_false, Bool.and_false]
              repeat (refine And.intro (by first | omega | (intros; omega) | (intros; simp_all; done) | (intros; simp_all; omega)) ?_)
              exact k'
          simp only [set_some]
          -- 48 := move t3
          refine aAny_take q23 true 13 48 rfl rfl (by kernel_rfl) (by kernel_rfl) ?_
          apply Exists.intro; apply And.intro
          · intro t hn gx ho K' k'
            have g3 := gx 3 (by decide)
            have g37 := gx 37 (by decide)
            simp only [get_mk, look_cons, look_nil, set_some, Nat.reduceEqDiff, reduceIte] at g3 g37
            have hdl : 48 < t.n := by rw [hn]; show 48 < 73; decide
            clear hn
            first
            | refine .inr ⟨hdl, 2, true, rfl, ?_, k'⟩
              first | rfl | (simp only [zV, guardV, Nat.reduceEqDiff, reduceIte, g3, g37]; done)
            | skip
              refine .inl ?_
              simp only [zE, zG, hdl, aStepM, optable, Nat.reduceEqDiff, reduceIte, implies_true, forall_const, reduceCtorEq, V.ofValue, V.ofScalar, V.un, V.gd, guardV, V.wrap, aExec, aop, g3, g37, getD_map hx, hi0, decide_false, Bool.and_false]
              repeat (refine And.intro (by first | omega | (intros; omega) | (intros; simp_all; done) | (intros; simp_all; omega)) ?_)
              exact k'
          simp only [set_some]
          -- 49 := binOp Go.BinOp.sub 3 t48 c<1:i64> 3
          refine aAny_take q23 true 14 49 rfl rfl (by kernel_rfl) (by kernel_rfl) ?_
          apply Exists.intro; apply And.intro
          · intro t hn gx ho K' k'
            have g37 := gx 37 (by decide)
            have g48 := gx 48 (by decide)
            simp only [get_mk, look_cons, look_nil, set_some, Nat.reduceEqDiff, reduceIte] at g37 g48
            have hdl : 49 < t.n := by rw [hn]; show 49 < 73; decide
            clear hn
            first
            | refine .inr ⟨hdl, 2, true, rfl, ?_, k'⟩
              first | rfl | (simp only [zV, guardV, Nat.reduceEqDiff, reduceIte, g37, g48]; done)
            | skip
              refine .inl ?_
              simp only [zE, zG, hdl, aStepM, optable, Nat.reduceEqDiff, reduceIte, implies_true, forall_const, reduceCtorEq, V.ofValue, V.ofScalar, V.un, V.gd, guardV, V.wrap, aExec, aop, g37, g48, aBin, Try.underlying3, getD_map hx, hi0, decide_false, Bool.and_false]
              try simp (disch := omega) only [wrap64]
              repeat (refine And.intro (by first | omega | (intros; omega) | (intros; simp_all; done) | (intros; simp_all; omega)) ?_)
              exact k'
          simp only [set_some]
          -- 50 := indexAddr 26 t47 t49
          refine aAny_take q23 true 15 50 rfl rfl (by kernel_rfl) (by kernel_rfl) ?_
          apply Exists.intro; apply And.intro
          · intro t hn gx ho K' k'
            have g37 := gx 37 (by decide)
            have g47 := gx 47 (by decide)
            have g49 := gx 49 (by decide)
            simp only [get_mk, look_cons, look_nil, set_some, Nat.reduceEqDiff, reduceIte] at g37 g47 g49
            first | have row0 := grow_row (i := 0) (ho rfl) rfl | have row0 : t.n + 0 = t.n := rfl
            first | have row1 := grow_row (i := 1) (ho rfl) rfl | have row1 : t.n + 0 = t.n := rfl
            first | have row2 := grow_row (i := 2) (ho rfl) rfl | have row2 : t.n + 0 = t.n := rfl
            have hdl : 50 < t.n := by rw [hn]; show 50 < 73; decide
            clear hn
            first
            | refine .inr ⟨hdl, 2, true, rfl, ?_, k'⟩
              first | rfl | (simp only [zV, guardV, Nat.reduceEqDiff, reduceIte, g37, g47, g49, row0, row1, row2]; done)
            | skip
              refine .inl ?_
              simp only [zE, zL, zN, hdl, aStepM, optable, Nat.reduceEqDiff, reduceIte, implies_true, forall_const, reduceCtorEq, V.ofValue, V.ofScalar, V.un, V.gd, guardV, V.wrap, aExec, aop, g37, g47, g49, row0, row1, row2, aIndexAddr, row_mk, Blk.row, Go.Vm.V.cells, List.forall_mem_map, List.length_map, Int.toNat_natCast, Int.reduceToNat, TypeDesc.slice.injEq, Nat.reduceAdd, Nat.reduceLeDiff, Nat.reduceLT, Nat.reduceMul, Try.underlying26, Ty.c26, Ty.a26, Try.underlying54, Ty.c54, Ty.a54, getD_map hx, hi0, decide_false, Bool.and_false]
              repeat (refine And.intro (by first | omega | (intros; omega) | (intros; simp_all; done) | (intros; simp_all; omega)) ?_)
              exact k'
          simp only [set_some]
          -- 51 := fieldAddr 54 t50 0
          refine aAny_take q23 true 16 51 rfl rfl (by kernel_rfl) (by kernel_rfl) ?_
          apply Exists.intro; apply And.intro
          · intro t hn gx ho K' k'
            have g37 := gx 37 (by decide)
            have g50 := gx 50 (by decide)
            simp only [get_mk, look_cons, look_nil, set_some, Nat.reduceEqDiff, reduceIte] at g37 g50
            have hdl : 51 < t.n := by rw [hn]; show 51 < 73; decide
            clear hn
            first
            | refine .inr ⟨hdl, 2, true, rfl, ?_, k'⟩
              first | rfl | (simp only [zV, guardV, Nat.reduceEqDiff, reduceIte, g37, g50]; done)
            | skip
              refine .inl ?_
              simp only [zE, zL, zN, hdl, aStepM, optable, Nat.reduceEqDiff, reduceIte, implies_true, forall_const, reduceCtorEq, V.ofValue, V.ofScalar, V.un, V.gd, guardV, V.wrap, aExec, aop, g37, g50, aFieldAddr, Nat.reduceAdd, Nat.reduceLeDiff, Nat.reduceLT, Nat.reduceMul, Try.underlying3, Ty.c3, Ty.a3, Try.underlying9, Ty.c9, Ty.a9, Try.underlying54, Ty.c54, Ty.a54, getD_map hx, hi0, decide_false, Bool.and_false]
              repeat (refine And.intro (by first | omega | (intros; omega) | (intros; simp_all; done) | (intros; simp_all; omega)) ?_)
              exact k'
          simp only [set_some]
          -- 52 := load 3 t51
          refine aAny_take q23 true 17 52 rfl rfl (by kernel_rfl) (by kernel_rfl) ?_
          apply Exists.intro; apply And.intro
          · intro t hn gx ho K' k'
            have g37 := gx 37 (by decide)
            have g51 := gx 51 (by decide)
            simp only [get_mk, look_cons, look_nil, set_some, Nat.reduceEqDiff, reduceIte] at g37 g51
            first | have row0 := grow_row (i := 0) (ho rfl) rfl | have row0 : t.n + 0 = t.n := rfl
            first | have row1 := grow_row (i := 1) (ho rfl) rfl | have row1 : t.n + 0 = t.n := rfl
            first | have row2 := grow_row (i := 2) (ho rfl) rfl | have row2 : t.n + 0 = t.n := rfl
            have hdl : 52 < t.n := by rw [hn]; show 52 < 73; decide
            clear hn
            first
            | refine .inr ⟨hdl, 2, true, rfl, ?_, k'⟩
              first | rfl | (simp only [zV, guardV, Nat.reduceEqDiff, reduceIte, g37, g51, row0, row1, row2]; done)
            | skip
              refine .inl ?_
              simp only [zE, zL, zO, zN, hdl, aStepM, optable, Nat.reduceEqDiff, reduceIte, implies_true, forall_const, reduceCtorEq, V.ofValue, V.ofScalar, V.un, V.gd, guardV, V.wrap, aExec, aop, g37, g51, row0, row1, row2, aLoad, row_mk, Blk.row, PartOK, Go.Vm.part, V.cells, V.noSl, V.noRef, Nat.reduceAdd, Nat.reduceLeDiff, Nat.reduceLT, Nat.reduceMul, Try.underlying3, Ty.c3, Ty.a3, getD_map hx, hi0]
              repeat (refine And.intro (by first | omega | (intros; omega) | (intros; simp_all; done) | (intros; simp_all; omega)) ?_)
              exact k'
          simp only [set_some]
          -- 53 := fieldAddr 54 t4 0
          refine aAny_take q23 true 18 53 rfl rfl (by kernel_rfl) (by kernel_rfl) ?_
          apply Exists.intro; apply And.intro
          · intro t hn gx ho K' k'
            have g4 := gx 4 (by decide)
            have g37 := gx 37 (by decide)
            simp only [get_mk, look_cons, look_nil, set_some, Nat.reduceEqDiff, reduceIte] at g4 g37
            have hdl : 53 < t.n := by rw [hn]; show 53 < 73; decide
            clear hn
            first
            | refine .inr ⟨hdl, 2, true, rfl, ?_, k'⟩
              first | rfl | (simp only [zV, guardV, Nat.reduceEqDiff, reduceIte, g4, g37]; done)
            | skip
              refine .inl ?_
              simp only [zE, zL, zN, hdl, aStepM, optable, Nat.reduceEqDiff, reduceIte, implies_true, forall_const, reduceCtorEq, V.ofValue, V.ofScalar, V.un, V.gd, guardV, V.wrap, aExec, aop, g4, g37, aFieldAddr, Nat.reduceAdd, Nat.reduceLeDiff, Nat.reduceLT, Nat.reduceMul, Try.underlying3, Ty.c3, Ty.a3, Try.underlying9, Ty.c9, Ty.a9, Try.underlying54, Ty.c54, Ty.a54, getD_map hx, hi0, decide_false, Bool.and_false]
              repeat (refine And.intro (by first | omega | (intros; omega) | (intros; simp_all; done) | (intros; simp_all; omega)) ?_)
              exact k'
          simp only [set_some]
          -- 54 := load 3 t53
          refine aAny_take q23 true 19 54 rfl rfl (by kernel_rfl) (by kernel_rfl) ?_
          apply Exists.intro; apply And.intro
          · intro t hn gx ho K' k'
            have g37 := gx 37 (by decide)
            have g53 := gx 53 (by decide)
            simp only [get_mk, look_cons, look_nil, set_some, Nat.reduceEqDiff, reduceIte] at g37 g53
            first | have row0 := grow_row (i := 0) (ho rfl) rfl | have row0 : t.n + 0 = t.n := rfl
            first | have row1 := grow_row (i := 1) (ho rfl) rfl | have row1 : t.n + 0 = t.n := rfl
            first | have row2 := grow_row (i := 2) (ho rfl) rfl | have row2 : t.n + 0 = t.n := rfl
            have hdl : 54 < t.n := by rw [hn]; show 54 < 73; decide
            clear hn
            first
            | refine .inr ⟨hdl, 2, true, rfl, ?_, k'⟩
              first | rfl | (simp only [zV, guardV, Nat.reduceEqDiff, reduceIte, g37, g53, row0, row1, row2]; done)
            | skip
              refine .inl ?_
              simp only [zE, zL, zO, zN, hdl, aStepM, optable, Nat.reduceEqDiff, reduceIte, implies_true, forall_const, reduceCtorEq, V.ofValue, V.ofScalar, V.un, V.gd, guardV, V.wrap, aExec, aop, g37, g53, row0, row1, row2, aLoad, row_mk, Blk.row, PartOK, Go.Vm.part, V.cells, V.noSl, V.noRef, Nat.reduceAdd, Nat.reduceLeDiff, Nat.reduceLT, Nat.reduceMul, Try.underlying3, Ty.c3, Ty.a3, getD_map hx, hi0]
              repeat (refine And.intro (by first | omega | (intros; omega) | (intros; simp_all; done) | (intros; simp_all; omega)) ?_)
              exact k'
          simp only [set_some]
          -- 56 := move t0
          refine aAny_take q23 true 21 56 rfl rfl (by kernel_rfl) (by kernel_rfl) ?_
          apply Exists.intro; apply And.intro
          · intro t hn gx ho K' k'
            have g0 := gx 0 (by decide)
            have g37 := gx 37 (by decide)
            simp only [get_mk, look_cons, look_nil, set_some, Nat.reduceEqDiff, reduceIte] at g0 g37
            have hdl : 56 < t.n := by rw [hn]; show 56 < 73; decide
            clear hn
            first
            | refine .inr ⟨hdl, 2, true, rfl, ?_, k'⟩
              first | rfl | (simp only [zV, guardV, Nat.reduceEqDiff, reduceIte, g0, g37]; done)
            | skip
              refine .inl ?_
              simp only [zE, zG, hdl, aStepM, optable, Nat.reduceEqDiff, reduceIte, implies_true, forall_const, reduceCtorEq, V.ofValue, V.ofScalar, V.un, V.gd, guardV, V.wrap, aExec, aop, g0, g37, getD_map hx, hi0, decide_false, Bool.and_false]
              repeat (refine And.intro (by first | omega | (intros; omega) | (intros; simp_all; done) | (intros; simp_all; omega)) ?_)
              exact k'
          simp only [set_some]
          -- 57 := move t3
          refine aAny_take q23 true 22 57 rfl rfl (by kernel_rfl) (by kernel_rfl) ?_
          apply Exists.intro; apply And.intro
          · intro t hn gx ho K' k'
            have g3 := gx 3 (by decide)
            have g37 := gx 37 (by decide)
            simp only [get_mk, look_cons, look_nil, set_some, Nat.reduceEqDiff, reduceIte] at g3 g37
            have hdl : 57 < t.n := by rw [hn]; show 57 < 73; decide
            clear hn
            first
            | refine .inr ⟨hdl, 2, true, rfl, ?_, k'⟩
              first | rfl | (simp only [zV, guardV, Nat.reduceEqDiff, reduceIte, g3, g37]; done)
            | skip
              refine .inl ?_
              simp only [zE, zG, hdl, aStepM, optable, Nat.reduceEqDiff, reduceIte, implies_true, forall_const, reduceCtorEq, V.ofValue, V.ofScalar, V.un, V.gd, guardV, V.wrap, aExec, aop, g3, g37, getD_map hx, hi0, decide_false, Bool.and_false]
              repeat (refine And.intro (by first | omega | (intros; omega) | (intros; simp_all; done) | (intros; simp_all; omega)) ?_)
              exact k'
          simp only [set_some]
          -- 58 := binOp Go.BinOp.sub 3 t57 c<1:i64> 3
          refine aAny_take q23 true 23 58 rfl rfl (by kernel_rfl) (by kernel_rfl) ?_
          apply Exists.intro; apply And.intro
          · intro t hn gx ho K' k'
            have g37 := gx 37 (by decide)
            have g57 := gx 57 (by decide)
            simp only [get_mk, look_cons, look_nil, set_some, Nat.reduceEqDiff, reduceIte] at g37 g57
            have hdl : 58 < t.n := by rw [hn]; show 58 < 73; decide
            clear hn
            first
            | refine .inr ⟨hdl, 2, true, rfl, ?_, k'⟩
              first | rfl | (simp only [zV, guardV, Nat.reduceEqDiff, reduceIte, g37, g57]; done)
            | skip
              refine .inl ?_
              simp only [zE, zG, hdl, aStepM, optable, Nat.reduceEqDiff, reduceIte, implies_true, forall_const, reduceCtorEq, V.ofValue, V.ofScalar, V.un, V.gd, guardV, V.wrap, aExec, aop, g37, g57, aBin, Try.underlying3, getD_map hx, hi0, decide_false, Bool.and_false]
              try simp (disch := omega) only [wrap64]
              repeat (refine And.intro (by first | omega | (intros; omega) | (intros; simp_all; done) | (intros; simp_all; omega)) ?_)
              exact k'
          simp only [set_some]
          -- 59 := indexAddr 26 t56 t58
          refine aAny_take q23 true 24 59 rfl rfl (by kernel_rfl) (by kernel_rfl) ?_
          apply Exists.intro; apply And.intro
          · intro t hn gx ho K' k'
            have g37 := gx 37 (by decide)
            have g56 := gx 56 (by decide)
            have g58 := gx 58 (by decide)
            simp only [get_mk, look_cons, look_nil, set_some, Nat.reduceEqDiff, reduceIte] at g37 g56 g58
            first | have row0 := grow_row (i := 0) (ho rfl) rfl | have row0 : t.n + 0 = t.n := rfl
            first | have row1 := grow_row (i := 1) (ho rfl) rfl | have row1 : t.n + 0 = t.n := rfl
            first | have row2 := grow_row (i := 2) (ho rfl) rfl | have row2 : t.n + 0 = t.n := rfl
            have hdl : 59 < t.n := by rw [hn]; show 59 < 73; decide
            clear hn
            first
            | refine .inr ⟨hdl, 2, true, rfl, ?_, k'⟩
              first | rfl | (simp only [zV, guardV, Nat.reduceEqDiff, reduceIte, g37, g56, g58, row0, row1, row2]; done)
            | skip
              refine .inl ?_
              simp only [zE, zL, zN, hdl, aStepM, optable, Nat.reduceEqDiff, reduceIte, implies_true, forall_const, reduceCtorEq, V.ofValue, V.ofScalar, V.un, V.gd, guardV, V.wrap, aExec, aop, g37, g56, g58, row0, row1, row2, aIndexAddr, row_mk, Blk.row, Go.Vm.V.cells, List.forall_mem_map, List.length_map, Int.toNat_natCast, Int.reduceToNat, TypeDesc.slice.injEq, Nat.reduceAdd, Nat.reduceLeDiff, Nat.reduceLT, Nat.reduceMul, Try.underlying26, Ty.c26, Ty.a26, Try.underlying54, Ty.c54, Ty.a54, getD_map hx, hi0, decide_false, Bool.and_false]
              repeat (refine And.intro (by first | omega | (intros; omega) | (intros; simp_all; done) | (intros; simp_all; omega)) ?_)
              exact k'
          simp only [set_some]
          -- 60 := fieldAddr 54 t59 1
          refine aAny_take q23 true 25 60 rfl rfl (by kernel_rfl) (by kernel_rfl) ?_
          apply Exists.intro; apply And.intro
          · intro t hn gx ho K' k'
            have g37 := gx 37 (by decide)
            have g59 := gx 59 (by decide)
            simp only [get_mk, look_cons, look_nil, set_some, Nat.reduceEqDiff, reduceIte] at g37 g59
            have hdl : 60 < t.n := by rw [hn]; show 60 < 73; decide
            clear hn
            first
            | refine .inr ⟨hdl, 2, true, rfl, ?_, k'⟩
              first | rfl | (simp only [zV, guardV, Nat.reduceEqDiff, reduceIte, g37, g59]; done)
            | skip
              refine .inl ?_
              simp only [zE, zL, zN, hdl, aStepM, optable, Nat.reduceEqDiff, reduceIte, implies_true, forall_const, reduceCtorEq, V.ofValue, V.ofScalar, V.un, V.gd, guardV, V.wrap, aExec, aop, g37, g59, aFieldAddr, Nat.reduceAdd, Nat.reduceLeDiff, Nat.reduceLT, Nat.reduceMul, Try.underlying3, Ty.c3, Ty.a3, Try.underlying9, Ty.c9, Ty.a9, Try.underlying54, Ty.c54, Ty.a54, getD_map hx, hi0, decide_false, Bool.and_false]
              repeat (refine And.intro (by first | omega | (intros; omega) | (intros; simp_all; done) | (intros; simp_all; omega)) ?_)
              exact k'
          simp only [set_some]
          -- 61 := load 9 t60
          refine aAny_take q23 true 26 61 rfl rfl (by kernel_rfl) (by kernel_rfl) ?_
          apply Exists.intro; apply And.intro
          · intro t hn gx ho K' k'
            have g37 := gx 37 (by decide)
            have g60 := gx 60 (by decide)
            simp only [get_mk, look_cons, look_nil, set_some, Nat.reduceEqDiff, reduceIte] at g37 g60
            first | have row0 := grow_row (i := 0) (ho rfl) rfl | have row0 : t.n + 0 = t.n := rfl
            first | have row1 := grow_row (i := 1) (ho rfl) rfl | have row1 : t.n + 0 = t.n := rfl
            first | have row2 := grow_row (i := 2) (ho rfl) rfl | have row2 : t.n + 0 = t.n := rfl
            have hdl : 61 < t.n := by rw [hn]; show 61 < 73; decide
            clear hn
            first
            | refine .inr ⟨hdl, 2, true, rfl, ?_, k'⟩
              first | rfl | (simp only [zV, guardV, Nat.reduceEqDiff, reduceIte, g37, g60, row0, row1, row2]; done)
            | skip
              refine .inl ?_
              simp only [zE, zL, zO, zN, hdl, aStepM, optable, Nat.reduceEqDiff, reduceIte, implies_true, forall_const, reduceCtorEq, V.ofValue, V.ofScalar, V.un, V.gd, guardV, V.wrap, aExec, aop, g37, g60, row0, row1, row2, aLoad, row_mk, Blk.row, PartOK, Go.Vm.part, V.cells, V.noSl, V.noRef, Nat.reduceAdd, Nat.reduceLeDiff, Nat.reduceLT, Nat.reduceMul, Try.underlying9, Ty.c9, Ty.a9, getD_map hx, hi0]
              repeat (refine And.intro (by first | omega | (intros; omega) | (intros; simp_all; done) | (intros; simp_all; omega)) ?_)
              exact k'
          simp only [set_some]
          -- 62 := fieldAddr 54 t4 1
          refine aAny_take q23 true 27 62 rfl rfl (by kernel_rfl) (by kernel_rfl) ?_
          apply Exists.intro; apply And.intro
          · intro t hn gx ho K' k'
            have g4 := gx 4 (by decide)
            have g37 := gx 37 (by decide)
            simp only [get_mk, look_cons, look_nil, set_some, Nat.reduceEqDiff, reduceIte] at g4 g37
            have hdl : 62 < t.n := by rw [hn]; show 62 < 73; decide
            clear hn
            first
            | refine .inr ⟨hdl, 2, true, rfl, ?_, k'⟩
              first | rfl | (simp only [zV, guardV, Nat.reduceEqDiff, reduceIte, g4, g37]; done)
            | skip
              refine .inl ?_
              simp only [zE, zL, zN, hdl, aStepM, optable, Nat.reduceEqDiff, reduceIte, implies_true, forall_const, reduceCtorEq, V.ofValue, V.ofScalar, V.un, V.gd, guardV, V.wrap, aExec, aop, g4, g37, aFieldAddr, Nat.reduceAdd, Nat.reduceLeDiff, Nat.reduceLT, Nat.reduceMul, Try.underlying3, Ty.c3, Ty.a3, Try.underlying9, Ty.c9, Ty.a9, Try.underlying54, Ty.c54, Ty.a54, getD_map hx, hi0, decide_false, Bool.and_false]
              repeat (refine And.intro (by first | omega | (intros; omega) | (intros; simp_all; done) | (intros; simp_all; omega)) ?_)
              exact k'
          simp only [set_some]
          -- 63 := load 9 t62
          refine aAny_take q23 true 28 63 rfl rfl (by kernel_rfl) (by kernel_rfl) ?_
          apply Exists.intro; apply And.intro
          · intro t hn gx ho K' k'
            have g37 := gx 37 (by decide)
            have g62 := gx 62 (by decide)
            simp only [get_mk, look_cons, look_nil, set_some, Nat.reduceEqDiff, reduceIte] at g37 g62
            first | have row0 := grow_row (i := 0) (ho rfl) rfl | have row0 : t.n + 0 = t.n := rfl
            first | have row1 := grow_row (i := 1) (ho rfl) rfl | have row1 : t.n + 0 = t.n := rfl
            first | have row2 := grow_row (i := 2) (ho rfl) rfl | have row2 : t.n + 0 = t.n := rfl
            have hdl : 63 < t.n := by rw [hn]; show 63 < 73; decide
            clear hn
            first
            | refine .inr ⟨hdl, 2, true, rfl, ?_, k'⟩
              first | rfl | (simp only [zV, guardV, Nat.reduceEqDiff, reduceIte, g37, g62, row0, row1, row2]; done)
            | skip
              refine .inl ?_
              simp only [zE, zL, zO, zN, hdl, aStepM, optable, Nat.reduceEqDiff, reduceIte, implies_true, forall_const, reduceCtorEq, V.ofValue, V.ofScalar, V.un, V.gd, guardV, V.wrap, aExec, aop, g37, g62, row0, row1, row2, aLoad, row_mk, Blk.row, PartOK, Go.Vm.part, V.cells, V.noSl, V.noRef, Nat.reduceAdd, Nat.reduceLeDiff, Nat.reduceLT, Nat.reduceMul, Try.underlying9, Ty.c9, Ty.a9, getD_map hx, hi0]
              repeat (refine And.intro (by first | omega | (intros; omega) | (intros; simp_all; done) | (intros; simp_all; omega)) ?_)
              exact k'
          simp only [set_some]
          first
          | refine aAny_pass 11 46 2 true rfl rfl (show 46 < 73 by decide) (by kernel_rfl) rfl ?_ ?_
            · first | rfl | (simp only [zV, guardV, Nat.reduceEqDiff, reduceIte]; done)
            simp only [zW, set_some, Nat.reduceEqDiff, reduceIte]
          | skip
            -- 46 := call v f62 t43 t45 | 3 3
            refine aAny_only 11 rfl (by kernel_rfl) ?_; intro K k
            simp only [zE, zG, aStepM, optable, set_some, Nat.reduceEqDiff, reduceIte, Nat.reduceLT, implies_true, forall_const, reduceCtorEq, V.ofValue, V.ofScalar, V.un, V.gd, guardV, Try.underlying3, Ty.c3, Ty.a3, Ty.b3, Ty.s3]
            simp only [zM, zW, aExec, lentIds, lendOf, set_some, Nat.reduceEqDiff, reduceIte, V.ofValue, V.ofScalar, V.un, V.gd, and_true, true_and, implies_true, and_self, decide_eq_true_eq]
            first | refine Exists.imp (fun r h => h) (aCall_guardT (cmpInt_con _ _) (by first | rfl | (simp only [toArgs, toArg, toCell, toCells, idx, row_mk, List.getElem?_cons_zero, List.getElem?_cons_succ, Option.bind_some, Option.map_some, Blk.row, fillK_mix, flat_mix, deep_mix, cond_true]; done) | (simp [toArgs, toArg, toCell, toCells, idx, row_mk, Blk.row, fillK_mix, Nat.beq_refl]; done)) rfl rfl ?_) | refine Exists.imp (fun r h => h) (aCall_guard (by first | (intros; trivial) | (intros; simp_all; done)) (fun hg => cmpInt_con _ _) (by first | rfl | (simp only [toArgs, toArg, toCell, toCells, idx, row_mk, List.getElem?_cons_zero, List.getElem?_cons_succ, Option.bind_some, Option.map_some, Blk.row, fillK_mix, flat_mix, deep_mix, cond_true]; done) | (simp [toArgs, toArg, toCell, toCells, idx, row_mk, Blk.row, fillK_mix, Nat.beq_refl]; done)) rfl rfl ?_)
            refine k _ ?_
            clear k K
          first
          | refine aAny_pass 20 55 2 true rfl rfl (show 55 < 73 by decide) (by kernel_rfl) rfl ?_ ?_
            · first | rfl | (simp only [zV, guardV, Nat.reduceEqDiff, reduceIte]; done)
            simp only [zW, set_some, Nat.reduceEqDiff, reduceIte]
          | skip
            -- 55 := call v f62 t52 t54 | 3 3
            refine aAny_only 20 rfl (by kernel_rfl) ?_; intro K k
            simp only [zE, zG, aStepM, optable, set_some, Nat.reduceEqDiff, reduceIte, Nat.reduceLT, implies_true, forall_const, reduceCtorEq, V.ofValue, V.ofScalar, V.un, V.gd, guardV, Try.underlying3, Ty.c3, Ty.a3, Ty.b3, Ty.s3]
            simp only [zM, zW, aExec, lentIds, lendOf, set_some, Nat.reduceEqDiff, reduceIte, V.ofValue, V.ofScalar, V.un, V.gd, and_true, true_and, implies_true, and_self, decide_eq_true_eq]
            first | refine Exists.imp (fun r h => h) (aCall_guardT (cmpInt_con _ _) (by first | rfl | (simp only [toArgs, toArg, toCell, toCells, idx, row_mk, List.getElem?_cons_zero, List.getElem?_cons_succ, Option.bind_some, Option.map_some, Blk.row, fillK_mix, flat_mix, deep_mix, cond_true]; done) | (simp [toArgs, toArg, toCell, toCells, idx, row_mk, Blk.row, fillK_mix, Nat.beq_refl]; done)) rfl rfl ?_) | refine Exists.imp (fun r h => h) (aCall_guard (by first | (intros; trivial) | (intros; simp_all; done)) (fun hg => cmpInt_con _ _) (by first | rfl | (simp only [toArgs, toArg, toCell, toCells, idx, row_mk, List.getElem?_cons_zero, List.getElem?_cons_succ, Option.bind_some, Option.map_some, Blk.row, fillK_mix, flat_mix, deep_mix, cond_true]; done) | (simp [toArgs, toArg, toCell, toCells, idx, row_mk, Blk.row, fillK_mix, Nat.beq_refl]; done)) rfl rfl ?_)
            refine k _ ?_
            clear k K
          first
          | refine aAny_pass 29 64 2 true rfl rfl (show 64 < 73 by decide) (by kernel_rfl) rfl ?_ ?_
            · first | rfl | (simp only [zV, guardV, Nat.reduceEqDiff, reduceIte]; done)
            simp only [zW, set_some, Nat.reduceEqDiff, reduceIte]
          | skip
            -- 64 := call v f63 t61 t63 | 9 9
            refine aAny_only 29 rfl (by kernel_rfl) ?_; intro K k
            simp only [zE, zG, aStepM, optable, set_some, Nat.reduceEqDiff, reduceIte, Nat.reduceLT, implies_true, forall_const, reduceCtorEq, V.ofValue, V.ofScalar, V.un, V.gd, guardV, Try.underlying3, Ty.c3, Ty.a3, Ty.b3, Ty.s3, Try.underlying9, Ty.c9, Ty.a9, Ty.b9, Ty.s9]
            simp only [zM, zW, aExec, lentIds, lendOf, set_some, Nat.reduceEqDiff, reduceIte, V.ofValue, V.ofScalar, V.un, V.gd, and_true, true_and, implies_true, and_self, decide_eq_true_eq]
            first | refine Exists.imp (fun r h => h) (aCall_guardT (cmpStr_con _ _) (by first | rfl | (simp only [toArgs, toArg, toCell, toCells, idx, row_mk, List.getElem?_cons_zero, List.getElem?_cons_succ, Option.bind_some, Option.map_some, Blk.row, fillK_mix, flat_mix, deep_mix, cond_true]; done) | (simp [toArgs, toArg, toCell, toCells, idx, row_mk, Blk.row, fillK_mix, Nat.beq_refl]; done)) rfl rfl ?_) | refine Exists.imp (fun r h => h) (aCall_guard (by first | (intros; trivial) | (intros; simp_all; done)) (fun hg => cmpStr_con _ _) (by first | rfl | (simp only [toArgs, toArg, toCell, toCells, idx, row_mk, List.getElem?_cons_zero, List.getElem?_cons_succ, Option.bind_some, Option.map_some, Blk.row, fillK_mix, flat_mix, deep_mix, cond_true]; done) | (simp [toArgs, toArg, toCell, toCells, idx, row_mk, Blk.row, fillK_mix, Nat.beq_refl]; done)) rfl rfl ?_)
            refine k _ ?_
            clear k K
          first
          | refine aAny_pass 30 65 2 true rfl rfl (show 65 < 73 by decide) (by kernel_rfl) rfl ?_ ?_
            · first | rfl | (simp only [zV, guardV, Nat.reduceEqDiff, reduceIte]; done)
            simp only [zW, set_some, Nat.reduceEqDiff, reduceIte]
          | skip
            -- 65 := buildSlice 41 3 0=t46 1=t55 2=t64
            refine aAny_only 30 rfl (by kernel_rfl) ?_; intro K k
            simp only [zE, zO, zV, zN, aStepM, optable, set_some, Nat.reduceEqDiff, reduceIte, Nat.reduceLT, implies_true, forall_const, reduceCtorEq, V.ofValue, V.ofScalar, V.un, V.gd, guardV, V.wrap, aExec, aop, litElems, rng0, rng1, rng2, rng3, rng4, List.map_cons, List.map_nil, List.all_cons, List.all_nil, V.isVal, V.cells, content, kindAll, V.noRef, V.noSl, List.mem_cons, List.not_mem_nil, or_false, forall_eq_or_imp, forall_eq, if_true, Option.isSome_some, List.length_cons, List.length_nil, Nat.reduceAdd, Nat.reduceLeDiff, Nat.reduceMul, Try.underlying3, Ty.c3, Ty.a3, Ty.z3, Try.underlying41, Ty.c41, Ty.a41, Ty.z41, getD_map hx, hi0]
            repeat (refine And.intro (by first | omega | (intros; omega) | (intros; simp_all; done) | (intros; simp_all; omega)) ?_)
            refine k _ ?_; clear k K
          first
          | refine aAny_pass 31 66 2 true rfl rfl (show 66 < 73 by decide) (by kernel_rfl) rfl ?_ ?_
            · first | rfl | (simp only [zV, guardV, Nat.reduceEqDiff, reduceIte]; done)
            simp only [zW, set_some, Nat.reduceEqDiff, reduceIte]
          | skip
            -- 66 := call v f61 t65 | 41
            refine aAny_only 31 rfl (by kernel_rfl) ?_; intro K k
            simp only [zE, zG, aStepM, optable, set_some, Nat.reduceEqDiff, reduceIte, Nat.reduceLT, implies_true, forall_const, reduceCtorEq, V.ofValue, V.ofScalar, V.un, V.gd, guardV, Try.underlying3, Ty.c3, Ty.a3, Ty.b3, Ty.s3, Try.underlying41, Ty.c41, Ty.a41, Ty.b41, Ty.s41]
            simp only [zM, zW, aExec, lentIds, lendOf, set_some, Nat.reduceEqDiff, reduceIte, V.ofValue, V.ofScalar, V.un, V.gd, and_true, true_and, implies_true, and_self, decide_eq_true_eq]
            first | refine Exists.imp (fun r h => h) (aCall_guardT (cmpOr_con [cmpI y2 x2, cmpI y0 x0, cmpS y1 x1] (by simp)) (by first | rfl | (simp only [toArgs, toArg, toCell, toCells, idx, row_mk, List.getElem?_cons_zero, List.getElem?_cons_succ, Option.bind_some, Option.map_some, Blk.row, fillK_mix, flat_mix, deep_mix, cond_true]; done) | (simp [toArgs, toArg, toCell, toCells, idx, row_mk, Blk.row, fillK_mix, Nat.beq_refl]; done)) rfl rfl ?_) | refine Exists.imp (fun r h => h) (aCall_guard (by first | (intros; trivial) | (intros; simp_all; done)) (fun hg => cmpOr_con [cmpI y2 x2, cmpI y0 x0, cmpS y1 x1] (by simp)) (by first | rfl | (simp only [toArgs, toArg, toCell, toCells, idx, row_mk, List.getElem?_cons_zero, List.getElem?_cons_succ, Option.bind_some, Option.map_some, Blk.row, fillK_mix, flat_mix, deep_mix, cond_true]; done) | (simp [toArgs, toArg, toCell, toCells, idx, row_mk, Blk.row, fillK_mix, Nat.beq_refl]; done)) rfl rfl ?_)
            refine k _ ?_
            clear k K
          -- 67 := binOp Go.BinOp.geq 3 t66 c<0:i64> 3
          refine aAny_take q23 true 32 67 rfl rfl (by kernel_rfl) (by kernel_rfl) ?_
          apply Exists.intro; apply And.intro
          · intro t hn gx ho K' k'
            have g37 := gx 37 (by decide)
            have g66 := gx 66 (by decide)
            simp only [get_mk, look_cons, look_nil, set_some, Nat.reduceEqDiff, reduceIte] at g37 g66
            have hdl : 67 < t.n := by rw [hn]; show 67 < 73; decide
            clear hn
            first
            | refine .inr ⟨hdl, 2, true, rfl, ?_, k'⟩
              first | rfl | (simp only [zV, guardV, Nat.reduceEqDiff, reduceIte, g37, g66]; done)
            | skip
              refine .inl ?_
              simp only [zE, zG, hdl, aStepM, optable, Nat.reduceEqDiff, reduceIte, implies_true, forall_const, reduceCtorEq, V.ofValue, V.ofScalar, V.un, V.gd, guardV, V.wrap, aExec, aop, g37, g66, aBin, Try.underlying3, getD_map hx, hi0, decide_false, Bool.and_false]
              repeat (refine And.intro (by first | omega | (intros; omega) | (intros; simp_all; done) | (intros; simp_all; omega)) ?_)
              exact k'
          simp only [set_some]
          -- 68 := pick t37 t67 c<false>
          refine aAny_take q23 true 33 68 rfl rfl (by kernel_rfl) (by kernel_rfl) ?_
          apply Exists.intro; apply And.intro
          · intro t hn gx ho K' k'
            have g37 := gx 37 (by decide)
            have g67 := gx 67 (by decide)
            simp only [get_mk, look_cons, look_nil, set_some, Nat.reduceEqDiff, reduceIte] at g37 g67
            have hdl : 68 < t.n := by rw [hn]; show 68 < 73; decide
            clear hn
            refine .inl ?_
            simp only [zE, zP, hdl, aStepM, optable, Nat.reduceEqDiff, reduceIte, implies_true, forall_const, reduceCtorEq, V.ofValue, V.ofScalar, V.un, V.gd, aExec, aop, g37, g67, pickV, getD_map hx, hi0, decide_false, Bool.and_false]
            repeat (refine And.intro (by first | omega | (intros; omega) | (intros; simp_all; done) | (intros; simp_all; omega)) ?_)
            exact k'
          simp only [set_some]
          refine aAny_done (by kernel_rfl) ?_
          refine k23 _ ?_
          refine n22 _ _ (weak_keep [0, 5, 6, 7, 68] _) ?_
          simp only [keep_mk, keepE_nil, keepE_cons, look_cons, look_nil, Nat.reduceEqDiff, reduceIte]
          refine v_cond _ rfl ?_ ?_  -- COND 2
          · intro hc2
            exfalso; simp at hc2
          · intro hc2
            try simp only [zC, reduceCtorEq] at hc2
            first | have hbt : tBefore (y0, y1, y2, y3) (x0, x1, x2, x3) = true := (by cases hq : tBefore (y0, y1, y2, y3) (x0, x1, x2, x3) with | true => rfl | false => (have hq2 := (cmp_before (y0, y1, y2, y3) (x0, x1, x2, x3)).2 hq; simp only [] at hq2; omega)) | skip
            refine v_skip ?_
            refine n13 _ ?_
            refine n12 _ _ (weak_keep [0, 5, 6, 7] _) ?_
            simp only [keep_mk, keepE_nil, keepE_cons, look_cons, look_nil, Nat.reduceEqDiff, reduceIte]
            refine v_region ?_; intro K25 k25
            -- 69 := binOp Go.BinOp.add 3 t7 c<1:i64> 3
            refine v_op ?_; intro K k
            simp only [zE, aStepM, optable, set_some, Nat.reduceEqDiff, reduceIte, Nat.reduceLT, implies_true, forall_const, reduceCtorEq, V.ofValue, V.ofScalar, V.un, V.gd, aExec, aop, aBin, Try.underlying3, getD_map hx, hi0, decide_false, Bool.and_false]
            try simp (disch := omega) only [wrap64]
            repeat (refine And.intro (by first | omega | (intros; omega) | (intros; simp_all; done) | (intros; simp_all; omega)) ?_)
            refine k _ ?_; clear k K
            -- 7 := move t69
            refine v_op ?_; intro K k
            simp only [zE, aStepM, optable, set_some, Nat.reduceEqDiff, reduceIte, Nat.reduceLT, implies_true, forall_const, reduceCtorEq, V.ofValue, V.ofScalar, V.un, V.gd, aExec, aop, getD_map hx, hi0, decide_false, Bool.and_false]
            repeat (refine And.intro (by first | omega | (intros; omega) | (intros; simp_all; done) | (intros; simp_all; omega)) ?_)
            refine k _ ?_; clear k K
            refine k25 _ ?_
            refine n7 _ (i + 1) ?_ ?_ ?_
            · refine weak_both [0, 5, 6, 7] [] (by decide) (by simp) ?_ ?_ ?_
              · simp [keep_mk, keepE_nil, keepE_cons, look_cons, V.only, V.onlyL, idx] <;> (first | rfl | decide)
              · simp [Blk.kindIs, fillK_mix]
              simp only [keep_mk, keepE_nil, keepE_cons, look_cons, look_nil, Nat.reduceEqDiff, reduceIte, St.comp, List.map_cons, List.map_nil, V.ren, V.renL, idx, List.getD_cons_zero, List.getD_cons_succ, Nat.reduceBEq, cond_true, cond_false, Option.map_some, Option.getD_some, Nat.reduceAdd, Nat.beq_eq_true_eq]
              rfl
            · exact ⟨by omega, by rw [← hR, hst]; clear hR hst; first | (simp [hone]; done) | (simp [hone, hbt]; done) | (simp [hc1]; done) | (simp_all; done)⟩
            · show _ < _; omega
      · skip
        obtain ⟨⟨y0, y1, y2, y3⟩, hy⟩ : ∃ x : Int × ByteArray × Int × Int, l[i - 1]? = some x := ⟨l[i - 1]'(by omega), List.getElem?_eq_getElem (by omega)⟩
        have hi0 : (0 : Int) < i := by omega
        have hk : ((i : Int) - 1).toNat = i - 1 := by omega
        have hst := chain_succ (ok := tOne) (bf := tBefore) h0 hy hx
        refine v_skip ?_
        refine n10 _ _ (weak_keep [0, 5, 6, 7] _) ?_
        simp only [keep_mk, keepE_nil, keepE_cons, look_cons, look_nil, Nat.reduceEqDiff, reduceIte]
        refine v_seq ?_; intro Q26 n26 e26 r26  -- SEQ 11
        refine v_block ?_; intro Q27 n27 x27 e27 r27
        refine v_seq ?_; intro Q28 n28 e28 r28  -- SEQ 12
        refine v_region ?_; intro K29 k29
        -- 9 := move t7
        refine v_op ?_; intro K k
        simp only [zE, aStepM, optable, set_some, Nat.reduceEqDiff, reduceIte, Nat.reduceLT, implies_true, forall_const, reduceCtorEq, V.ofValue, V.ofScalar, V.un, V.gd, aExec, aop, getD_map hx, hi0, hk, getD_map hy, decide_true, Bool.and_true]
        repeat (refine And.intro (by first | omega | (intros; omega) | (intros; simp_all; done) | (intros; simp_all; omega)) ?_)
        refine k _ ?_; clear k K
        -- 10 := indexAddr 26 t5 t7
        refine v_op ?_; intro K k
        simp only [zE, zL, zN, aStepM, optable, set_some, Nat.reduceEqDiff, reduceIte, Nat.reduceLT, implies_true, forall_const, reduceCtorEq, V.ofValue, V.ofScalar, V.un, V.gd, aExec, aop, aIndexAddr, row_mk, Blk.row, Go.Vm.V.cells, List.forall_mem_map, List.length_map, Int.toNat_natCast, Int.reduceToNat, TypeDesc.slice.injEq, Nat.reduceAdd, Nat.reduceLeDiff, Nat.reduceMul, Try.underlying26, Ty.c26, Ty.a26, Try.underlying54, Ty.c54, Ty.a54, getD_map hx, hi0, hk, getD_map hy, decide_true, Bool.and_true]
        repeat (refine And.intro (by first | omega | (intros; omega) | (intros; simp_all; done) | (intros; simp_all; omega)) ?_)
        refine k _ ?_; clear k K
        -- 11 := load 54 t10
        refine v_op ?_; intro K k
        simp only [zE, zL, zO, zN, aStepM, optable, set_some, Nat.reduceEqDiff, reduceIte, Nat.reduceLT, implies_true, forall_const, reduceCtorEq, V.ofValue, V.ofScalar, V.un, V.gd, aExec, aop, aLoad, row_mk, Blk.row, PartOK, Go.Vm.part, V.cells, V.noSl, V.noRef, Nat.reduceAdd, Nat.reduceLeDiff, Nat.reduceMul, Try.underlying3, Ty.c3, Ty.a3, Try.underlying9, Ty.c9, Ty.a9, Try.underlying54, Ty.c54, Ty.a54, getD_map hx, hi0, hk, getD_map hy]
        repeat (refine And.intro (by first | omega | (intros; omega) | (intros; simp_all; done) | (intros; simp_all; omega)) ?_)
        refine k _ ?_; clear k K
        -- 4 := alloc 54
        refine v_op ?_; intro K k
        simp only [zE, zS, zO, zN, aStepM, optable, set_some, Nat.reduceEqDiff, reduceIte, Nat.reduceLT, implies_true, forall_const, reduceCtorEq, V.ofValue, V.ofScalar, V.un, V.gd, aExec, aop, Nat.reduceAdd, Value.oneCell', V.isVal, V.cells, kindOf, kindAll, V.noSl, V.noRef, List.all_cons, List.all_nil, List.map_cons, List.map_nil, gt_iff_lt, Nat.reduceLeDiff, Nat.reduceMul, Try.underlying3, Ty.c3, Ty.a3, Ty.z3, Try.underlying9, Ty.c9, Ty.a9, Ty.z9, Try.underlying54, Ty.c54, Ty.a54, Ty.z54, getD_map hx, hi0, hk, getD_map hy]
        repeat (refine And.intro (by first | omega | (intros; omega) | (intros; simp_all; done) | (intros; simp_all; omega)) ?_)
        refine k _ ?_; clear k K
        -- 3 := assign t9
        refine v_op ?_; intro K k
        simp only [zE, zS, aStepM, optable, set_some, Nat.reduceEqDiff, reduceIte, Nat.reduceLT, implies_true, forall_const, reduceCtorEq, V.ofValue, V.ofScalar, V.un, V.gd, aExec, aop, Nat.reduceAdd, getD_map hx, hi0, hk, getD_map hy, decide_true, Bool.and_true]
        repeat (refine And.intro (by first | omega | (intros; omega) | (intros; simp_all; done) | (intros; simp_all; omega)) ?_)
        refine k _ ?_; clear k K
        -- None := store 54 t4 t11
        refine v_op ?_; intro K k
        simp only [zE, zS, zJ, zL, zO, zN, aStepM, optable, set_some, Nat.reduceEqDiff, reduceIte, Nat.reduceLT, implies_true, forall_const, reduceCtorEq, V.ofValue, V.ofScalar, V.un, V.gd, aExec, aop, aStore, setCells, V.isVal, V.cells, kindOf, kindAll, V.noSl, V.noRef, gt_iff_lt, Nat.reduceAdd, Nat.reduceLeDiff, Nat.reduceMul, takeV, takeCell, takeCells, row_mk, Blk.row, killAll, Nat.reduceBEq, Try.underlying3, Ty.c3, Ty.a3, Try.underlying9, Ty.c9, Ty.a9, Try.underlying54, Ty.c54, Ty.a54, getD_map hx, hi0, hk, getD_map hy]
        repeat (refine And.intro (by first | omega | (intros; omega) | (intros; simp_all; done) | (intros; simp_all; omega)) ?_)
        refine k _ ?_; clear k K
        refine k29 _ ?_
        refine n28 _ _ (weak_keep [0, 3, 4, 5, 6, 7] _) ?_
        simp only [keep_mk, keepE_nil, keepE_cons, look_cons, look_nil, Nat.reduceEqDiff, reduceIte]
        refine v_seq ?_; intro Q30 n30 e30 r30  -- SEQ 13
        refine v_seq ?_; intro Q31 n31 e31 r31  -- SEQ 14
        refine v_region ?_; intro K32 k32
        -- 12 := fieldAddr 54 t4 0
        refine v_op ?_; intro K k
        simp only [zE, zL, zN, aStepM, optable, set_some, Nat.reduceEqDiff, reduceIte, Nat.reduceLT, implies_true, forall_const, reduceCtorEq, V.ofValue, V.ofScalar, V.un, V.gd, aExec, aop, aFieldAddr, Nat.reduceAdd, Nat.reduceLeDiff, Nat.reduceMul, Try.underlying3, Ty.c3, Ty.a3, Try.underlying9, Ty.c9, Ty.a9, Try.underlying54, Ty.c54, Ty.a54, getD_map hx, hi0, hk, getD_map hy, decide_true, Bool.and_true]
        repeat (refine And.intro (by first | omega | (intros; omega) | (intros; simp_all; done) | (intros; simp_all; omega)) ?_)
        refine k _ ?_; clear k K
        -- 13 := load 3 t12
        refine v_op ?_; intro K k
        simp only [zE, zL, zO, zN, aStepM, optable, set_some, Nat.reduceEqDiff, reduceIte, Nat.reduceLT, implies_true, forall_const, reduceCtorEq, V.ofValue, V.ofScalar, V.un, V.gd, aExec, aop, aLoad, row_mk, Blk.row, PartOK, Go.Vm.part, V.cells, V.noSl, V.noRef, Nat.reduceAdd, Nat.reduceLeDiff, Nat.reduceMul, Try.underlying3, Ty.c3, Ty.a3, getD_map hx, hi0, hk, getD_map hy]
        repeat (refine And.intro (by first | omega | (intros; omega) | (intros; simp_all; done) | (intros; simp_all; omega)) ?_)
        refine k _ ?_; clear k K
        -- 14 := call v f34 t13 c<1:i64> c<999:i64> | 3 3 3
        refine v_op ?_; intro K k
        simp only [zE, zM, aStepM, optable, set_some, Nat.reduceEqDiff, reduceIte, Nat.reduceLT, implies_true, forall_const, reduceCtorEq, V.ofValue, V.ofScalar, V.un, V.gd, aExec, lentIds, lendOf, Try.underlying3, Ty.c3, Ty.a3, Ty.b3, Ty.s3, Try.underlying4, Ty.c4, Ty.a4, Ty.b4, Ty.s4]
        repeat (refine And.intro (by first | rfl | (intros; simp_all; done)) ?_)
        refine aCall_new (inside_con _ _ _) (by first | rfl | (simp only [toArgs, toArg, toCell, toCells, idx, row_mk, List.getElem?_cons_zero, List.getElem?_cons_succ, Option.bind_some, Option.map_some, Blk.row, fillK_mix, flat_mix, deep_mix, cond_true]; done) | (simp [toArgs, toArg, toCell, toCells, idx, row_mk, Blk.row, fillK_mix, Nat.beq_refl]; done)) (by first | exact .inl ⟨rfl, by simp [Blk.kindIs, fillK_fd]⟩ | exact .inr (by simp [V.cold])) ?_
        refine k _ ?_; clear k K
        simp only [zY, zW, set_some, Nat.reduceEqDiff, reduceIte, V.ren, V.renL, rho, Nat.reduceAdd]
        -- 15 := unOp Go.UnOp.not 4 t14
        refine v_op ?_; intro K k
        simp only [zE, aStepM, optable, set_some, Nat.reduceEqDiff, reduceIte, Nat.reduceLT, implies_true, forall_const, reduceCtorEq, V.ofValue, V.ofScalar, V.un, V.gd, aExec, aop, aUn, Try.underlying4, getD_map hx, hi0, hk, getD_map hy, decide_true, Bool.and_true]
        repeat (refine And.intro (by first | omega | (intros; omega) | (intros; simp_all; done) | (intros; simp_all; omega)) ?_)
        refine k _ ?_; clear k K
        -- 16 := move t15
        refine v_op ?_; intro K k
        simp only [zE, aStepM, optable, set_some, Nat.reduceEqDiff, reduceIte, Nat.reduceLT, implies_true, forall_const, reduceCtorEq, V.ofValue, V.ofScalar, V.un, V.gd, aExec, aop, getD_map hx, hi0, hk, getD_map hy, decide_true, Bool.and_true]
        repeat (refine And.intro (by first | omega | (intros; omega) | (intros; simp_all; done) | (intros; simp_all; omega)) ?_)
        refine k _ ?_; clear k K
        -- 17 := fieldAddr 54 t4 1
        first
        | refine v_pass 17 4 false rfl (show 17 < 73 by decide) rfl ?_ ?_
          · first | rfl | (simp only [zV, guardV, Nat.reduceEqDiff, reduceIte]; done)
          simp only [zW, set_some, Nat.reduceEqDiff, reduceIte]
        | skip
          -- 17 := fieldAddr 54 t4 1
          refine v_op ?_; intro K k
          simp only [zE, zL, zN, aStepM, optable, set_some, Nat.reduceEqDiff, reduceIte, Nat.reduceLT, implies_true, forall_const, reduceCtorEq, V.ofValue, V.ofScalar, V.un, V.gd, guardV, V.wrap, aExec, aop, aFieldAddr, Nat.reduceAdd, Nat.reduceLeDiff, Nat.reduceMul, Try.underlying3, Ty.c3, Ty.a3, Try.underlying9, Ty.c9, Ty.a9, Try.underlying54, Ty.c54, Ty.a54, getD_map hx, hi0, hk, getD_map hy, decide_true, Bool.and_true]
          repeat (refine And.intro (by first | omega | (intros; omega) | (intros; simp_all; done) | (intros; simp_all; omega)) ?_)
          refine k _ ?_; clear k K
        -- 18 := load 9 t17
        first
        | refine v_pass 18 4 false rfl (show 18 < 73 by decide) rfl ?_ ?_
          · first | rfl | (simp only [zV, guardV, Nat.reduceEqDiff, reduceIte]; done)
          simp only [zW, set_some, Nat.reduceEqDiff, reduceIte]
        | skip
          -- 18 := load 9 t17
          refine v_op ?_; intro K k
          simp only [zE, zL, zO, zN, aStepM, optable, set_some, Nat.reduceEqDiff, reduceIte, Nat.reduceLT, implies_true, forall_const, reduceCtorEq, V.ofValue, V.ofScalar, V.un, V.gd, guardV, V.wrap, aExec, aop, aLoad, row_mk, Blk.row, PartOK, Go.Vm.part, V.cells, V.noSl, V.noRef, Nat.reduceAdd, Nat.reduceLeDiff, Nat.reduceMul, Try.underlying9, Ty.c9, Ty.a9, getD_map hx, hi0, hk, getD_map hy]
          repeat (refine And.intro (by first | omega | (intros; omega) | (intros; simp_all; done) | (intros; simp_all; omega)) ?_)
          refine k _ ?_; clear k K
        -- 19 := call v f60 t18 | 9
        first
        | refine v_pass 19 4 false rfl (show 19 < 73 by decide) rfl ?_ ?_
          · first | rfl | (simp only [zV, guardV, Nat.reduceEqDiff, reduceIte]; done)
          simp only [zW, set_some, Nat.reduceEqDiff, reduceIte]
        | skip
          -- 19 := call v f60 t18 | 9
          refine v_op ?_; intro K k
          simp only [zE, zG, aStepM, optable, set_some, Nat.reduceEqDiff, reduceIte, Nat.reduceLT, implies_true, forall_const, reduceCtorEq, V.ofValue, V.ofScalar, V.un, V.gd, guardV, Try.underlying4, Ty.c4, Ty.a4, Ty.b4, Ty.s4, Try.underlying9, Ty.c9, Ty.a9, Ty.b9, Ty.s9]
          simp only [zM, zW, aExec, lentIds, lendOf, set_some, Nat.reduceEqDiff, reduceIte, V.ofValue, V.ofScalar, V.un, V.gd, and_true, true_and, implies_true, and_self, decide_eq_true_eq]
          first | refine Exists.imp (fun r h => h) (aCall_guardT (isName_con _ hsx) (by first | rfl | (simp only [toArgs, toArg, toCell, toCells, idx, row_mk, List.getElem?_cons_zero, List.getElem?_cons_succ, Option.bind_some, Option.map_some, Blk.row, fillK_mix, flat_mix, deep_mix, cond_true]; done) | (simp [toArgs, toArg, toCell, toCells, idx, row_mk, Blk.row, fillK_mix, Nat.beq_refl]; done)) rfl rfl ?_) | refine Exists.imp (fun r h => h) (aCall_guard (by first | (intros; trivial) | (intros; simp_all; done)) (fun hg => isName_con _ hsx) (by first | rfl | (simp only [toArgs, toArg, toCell, toCells, idx, row_mk, List.getElem?_cons_zero, List.getElem?_cons_succ, Option.bind_some, Option.map_some, Blk.row, fillK_mix, flat_mix, deep_mix, cond_true]; done) | (simp [toArgs, toArg, toCell, toCells, idx, row_mk, Blk.row, fillK_mix, Nat.beq_refl]; done)) rfl rfl ?_)
          refine k _ ?_
          clear k K
        -- 20 := unOp Go.UnOp.not 4 t19
        first
        | refine v_pass 20 4 false rfl (show 20 < 73 by decide) rfl ?_ ?_
          · first | rfl | (simp only [zV, guardV, Nat.reduceEqDiff, reduceIte]; done)
          simp only [zW, set_some, Nat.reduceEqDiff, reduceIte]
        | skip
          -- 20 := unOp Go.UnOp.not 4 t19
          refine v_op ?_; intro K k
          simp only [zE, zG, aStepM, optable, set_some, Nat.reduceEqDiff, reduceIte, Nat.reduceLT, implies_true, forall_const, reduceCtorEq, V.ofValue, V.ofScalar, V.un, V.gd, guardV, V.wrap, aExec, aop, aUn, Try.underlying4, getD_map hx, hi0, hk, getD_map hy, decide_true, Bool.and_true]
          repeat (refine And.intro (by first | omega | (intros; omega) | (intros; simp_all; done) | (intros; simp_all; omega)) ?_)
          refine k _ ?_; clear k K
        -- 21 := pick t16 c<true> t20
        refine v_op ?_; intro K k
        simp only [zE, zP, aStepM, optable, set_some, Nat.reduceEqDiff, reduceIte, Nat.reduceLT, implies_true, forall_const, reduceCtorEq, V.ofValue, V.ofScalar, V.un, V.gd, aExec, aop, pickV, getD_map hx, hi0, hk, getD_map hy, decide_true, Bool.and_true]
        repeat (refine And.intro (by first | omega | (intros; omega) | (intros; simp_all; done) | (intros; simp_all; omega)) ?_)
        refine k _ ?_; clear k K
        -- 22 := move t21
        refine v_op ?_; intro K k
        simp only [zE, aStepM, optable, set_some, Nat.reduceEqDiff, reduceIte, Nat.reduceLT, implies_true, forall_const, reduceCtorEq, V.ofValue, V.ofScalar, V.un, V.gd, aExec, aop, getD_map hx, hi0, hk, getD_map hy, decide_true, Bool.and_true]
        repeat (refine And.intro (by first | omega | (intros; omega) | (intros; simp_all; done) | (intros; simp_all; omega)) ?_)
        refine k _ ?_; clear k K
        -- 23 := fieldAddr 54 t4 2
        first
        | refine v_pass 23 10 false rfl (show 23 < 73 by decide) rfl ?_ ?_
          · first | rfl | (simp only [zV, guardV, Nat.reduceEqDiff, reduceIte]; done)
          simp only [zW, set_some, Nat.reduceEqDiff, reduceIte]
        | skip
          -- 23 := fieldAddr 54 t4 2
          refine v_op ?_; intro K k
          simp only [zE, zL, zN, aStepM, optable, set_some, Nat.reduceEqDiff, reduceIte, Nat.reduceLT, implies_true, forall_const, reduceCtorEq, V.ofValue, V.ofScalar, V.un, V.gd, guardV, V.wrap, aExec, aop, aFieldAddr, Nat.reduceAdd, Nat.reduceLeDiff, Nat.reduceMul, Try.underlying3, Ty.c3, Ty.a3, Try.underlying9, Ty.c9, Ty.a9, Try.underlying54, Ty.c54, Ty.a54, getD_map hx, hi0, hk, getD_map hy, decide_true, Bool.and_true]
          repeat (refine And.intro (by first | omega | (intros; omega) | (intros; simp_all; done) | (intros; simp_all; omega)) ?_)
          refine k _ ?_; clear k K
        -- 24 := load 3 t23
        first
        | refine v_pass 24 10 false rfl (show 24 < 73 by decide) rfl ?_ ?_
          · first | rfl | (simp only [zV, guardV, Nat.reduceEqDiff, reduceIte]; done)
          simp only [zW, set_some, Nat.reduceEqDiff, reduceIte]
        | skip
          -- 24 := load 3 t23
          refine v_op ?_; intro K k
          simp only [zE, zL, zO, zN, aStepM, optable, set_some, Nat.reduceEqDiff, reduceIte, Nat.reduceLT, implies_true, forall_const, reduceCtorEq, V.ofValue, V.ofScalar, V.un, V.gd, guardV, V.wrap, aExec, aop, aLoad, row_mk, Blk.row, PartOK, Go.Vm.part, V.cells, V.noSl, V.noRef, Nat.reduceAdd, Nat.reduceLeDiff, Nat.reduceMul, Try.underlying3, Ty.c3, Ty.a3, getD_map hx, hi0, hk, getD_map hy]
          repeat (refine And.intro (by first | omega | (intros; omega) | (intros; simp_all; done) | (intros; simp_all; omega)) ?_)
          refine k _ ?_; clear k K
        -- 25 := fieldAddr 54 t4 3
        first
        | refine v_pass 25 10 false rfl (show 25 < 73 by decide) rfl ?_ ?_
          · first | rfl | (simp only [zV, guardV, Nat.reduceEqDiff, reduceIte]; done)
          simp only [zW, set_some, Nat.reduceEqDiff, reduceIte]
        | skip
          -- 25 := fieldAddr 54 t4 3
          refine v_op ?_; intro K k
          simp only [zE, zL, zN, aStepM, optable, set_some, Nat.reduceEqDiff, reduceIte, Nat.reduceLT, implies_true, forall_const, reduceCtorEq, V.ofValue, V.ofScalar, V.un, V.gd, guardV, V.wrap, aExec, aop, aFieldAddr, Nat.reduceAdd, Nat.reduceLeDiff, Nat.reduceMul, Try.underlying3, Ty.c3, Ty.a3, Try.underlying9, Ty.c9, Ty.a9, Try.underlying54, Ty.c54, Ty.a54, getD_map hx, hi0, hk, getD_map hy, decide_true, Bool.and_true]
          repeat (refine And.intro (by first | omega | (intros; omega) | (intros; simp_all; done) | (intros; simp_all; omega)) ?_)
          refine k _ ?_; clear k K
        -- 26 := load 3 t25
        first
        | refine v_pass 26 10 false rfl (show 26 < 73 by decide) rfl ?_ ?_
          · first | rfl | (simp only [zV, guardV, Nat.reduceEqDiff, reduceIte]; done)
          simp only [zW, set_some, Nat.reduceEqDiff, reduceIte]
        | skip
          -- 26 := load 3 t25
          refine v_op ?_; intro K k
          simp only [zE, zL, zO, zN, aStepM, optable, set_some, Nat.reduceEqDiff, reduceIte, Nat.reduceLT, implies_true, forall_const, reduceCtorEq, V.ofValue, V.ofScalar, V.un, V.gd, guardV, V.wrap, aExec, aop, aLoad, row_mk, Blk.row, PartOK, Go.Vm.part, V.cells, V.noSl, V.noRef, Nat.reduceAdd, Nat.reduceLeDiff, Nat.reduceMul, Try.underlying3, Ty.c3, Ty.a3, getD_map hx, hi0, hk, getD_map hy]
          repeat (refine And.intro (by first | omega | (intros; omega) | (intros; simp_all; done) | (intros; simp_all; omega)) ?_)
          refine k _ ?_; clear k K
        -- 27 := call v f34 t24 c<0:i64> t26 | 3 3 3
        first
        | refine v_pass 27 10 false rfl (show 27 < 73 by decide) rfl ?_ ?_
          · first | rfl | (simp only [zV, guardV, Nat.reduceEqDiff, reduceIte]; done)
          simp only [zW, set_some, Nat.reduceEqDiff, reduceIte]
        | skip
          -- 27 := call v f34 t24 c<0:i64> t26 | 3 3 3
          refine v_op ?_; intro K k
          simp only [zE, zG, aStepM, optable, set_some, Nat.reduceEqDiff, reduceIte, Nat.reduceLT, implies_true, forall_const, reduceCtorEq, V.ofValue, V.ofScalar, V.un, V.gd, guardV, Try.underlying3, Ty.c3, Ty.a3, Ty.b3, Ty.s3, Try.underlying4, Ty.c4, Ty.a4, Ty.b4, Ty.s4]
          simp only [zM, zW, aExec, lentIds, lendOf, set_some, Nat.reduceEqDiff, reduceIte, V.ofValue, V.ofScalar, V.un, V.gd, and_true, true_and, implies_true, and_self, decide_eq_true_eq]
          first | refine Exists.imp (fun r h => h) (aCall_guardT (inside_con _ _ _) (by first | rfl | (simp only [toArgs, toArg, toCell, toCells, idx, row_mk, List.getElem?_cons_zero, List.getElem?_cons_succ, Option.bind_some, Option.map_some, Blk.row, fillK_mix, flat_mix, deep_mix, cond_true]; done) | (simp [toArgs, toArg, toCell, toCells, idx, row_mk, Blk.row, fillK_mix, Nat.beq_refl]; done)) rfl rfl ?_) | refine Exists.imp (fun r h => h) (aCall_guard (by first | (intros; trivial) | (intros; simp_all; done)) (fun hg => inside_con _ _ _) (by first | rfl | (simp only [toArgs, toArg, toCell, toCells, idx, row_mk, List.getElem?_cons_zero, List.getElem?_cons_succ, Option.bind_some, Option.map_some, Blk.row, fillK_mix, flat_mix, deep_mix, cond_true]; done) | (simp [toArgs, toArg, toCell, toCells, idx, row_mk, Blk.row, fillK_mix, Nat.beq_refl]; done)) rfl rfl ?_)
          refine k _ ?_
          clear k K
        -- 28 := unOp Go.UnOp.not 4 t27
        first
        | refine v_pass 28 10 false rfl (show 28 < 73 by decide) rfl ?_ ?_
          · first | rfl | (simp only [zV, guardV, Nat.reduceEqDiff, reduceIte]; done)
          simp only [zW, set_some, Nat.reduceEqDiff, reduceIte]
        | skip
          -- 28 := unOp Go.UnOp.not 4 t27
          refine v_op ?_; intro K k
          simp only [zE, zG, aStepM, optable, set_some, Nat.reduceEqDiff, reduceIte, Nat.reduceLT, implies_true, forall_const, reduceCtorEq, V.ofValue, V.ofScalar, V.un, V.gd, guardV, V.wrap, aExec, aop, aUn, Try.underlying4, getD_map hx, hi0, hk, getD_map hy, decide_true, Bool.and_true]
          repeat (refine And.intro (by first | omega | (intros; omega) | (intros; simp_all; done) | (intros; simp_all; omega)) ?_)
          refine k _ ?_; clear k K
        -- 29 := pick t22 c<true> t28
        refine v_op ?_; intro K k
        simp only [zE, zP, aStepM, optable, set_some, Nat.reduceEqDiff, reduceIte, Nat.reduceLT, implies_true, forall_const, reduceCtorEq, V.ofValue, V.ofScalar, V.un, V.gd, aExec, aop, pickV, getD_map hx, hi0, hk, getD_map hy, decide_true, Bool.and_true]
        repeat (refine And.intro (by first | omega | (intros; omega) | (intros; simp_all; done) | (intros; simp_all; omega)) ?_)
        refine k _ ?_; clear k K
        -- 30 := move t29
        refine v_op ?_; intro K k
        simp only [zE, aStepM, optable, set_some, Nat.reduceEqDiff, reduceIte, Nat.reduceLT, implies_true, forall_const, reduceCtorEq, V.ofValue, V.ofScalar, V.un, V.gd, aExec, aop, getD_map hx, hi0, hk, getD_map hy, decide_true, Bool.and_true]
        repeat (refine And.intro (by first | omega | (intros; omega) | (intros; simp_all; done) | (intros; simp_all; omega)) ?_)
        refine k _ ?_; clear k K
        -- 31 := fieldAddr 54 t4 3
        first
        | refine v_pass 31 18 false rfl (show 31 < 73 by decide) rfl ?_ ?_
          · first | rfl | (simp only [zV, guardV, Nat.reduceEqDiff, reduceIte]; done)
          simp only [zW, set_some, Nat.reduceEqDiff, reduceIte]
        | skip
          -- 31 := fieldAddr 54 t4 3
          refine v_op ?_; intro K k
          simp only [zE, zL, zN, aStepM, optable, set_some, Nat.reduceEqDiff, reduceIte, Nat.reduceLT, implies_true, forall_const, reduceCtorEq, V.ofValue, V.ofScalar, V.un, V.gd, guardV, V.wrap, aExec, aop, aFieldAddr, Nat.reduceAdd, Nat.reduceLeDiff, Nat.reduceMul, Try.underlying3, Ty.c3, Ty.a3, Try.underlying9, Ty.c9, Ty.a9, Try.underlying54, Ty.c54, Ty.a54, getD_map hx, hi0, hk, getD_map hy, decide_true, Bool.and_true]
          repeat (refine And.intro (by first | omega | (intros; omega) | (intros; simp_all; done) | (intros; simp_all; omega)) ?_)
          refine k _ ?_; clear k K
        -- 32 := load 3 t31
        first
        | refine v_pass 32 18 false rfl (show 32 < 73 by decide) rfl ?_ ?_
          · first | rfl | (simp only [zV, guardV, Nat.reduceEqDiff, reduceIte]; done)
          simp only [zW, set_some, Nat.reduceEqDiff, reduceIte]
        | skip
          -- 32 := load 3 t31
          refine v_op ?_; intro K k
          simp only [zE, zL, zO, zN, aStepM, optable, set_some, Nat.reduceEqDiff, reduceIte, Nat.reduceLT, implies_true, forall_const, reduceCtorEq, V.ofValue, V.ofScalar, V.un, V.gd, guardV, V.wrap, aExec, aop, aLoad, row_mk, Blk.row, PartOK, Go.Vm.part, V.cells, V.noSl, V.noRef, Nat.reduceAdd, Nat.reduceLeDiff, Nat.reduceMul, Try.underlying3, Ty.c3, Ty.a3, getD_map hx, hi0, hk, getD_map hy]
          repeat (refine And.intro (by first | omega | (intros; omega) | (intros; simp_all; done) | (intros; simp_all; omega)) ?_)
          refine k _ ?_; clear k K
        -- 33 := binOp Go.BinOp.gtr 3 t32 c<999999:i64> 3
        first
        | refine v_pass 33 18 false rfl (show 33 < 73 by decide) rfl ?_ ?_
          · first | rfl | (simp only [zV, guardV, Nat.reduceEqDiff, reduceIte]; done)
          simp only [zW, set_some, Nat.reduceEqDiff, reduceIte]
        | skip
          -- 33 := binOp Go.BinOp.gtr 3 t32 c<999999:i64> 3
          refine v_op ?_; intro K k
          simp only [zE, zG, aStepM, optable, set_some, Nat.reduceEqDiff, reduceIte, Nat.reduceLT, implies_true, forall_const, reduceCtorEq, V.ofValue, V.ofScalar, V.un, V.gd, guardV, V.wrap, aExec, aop, aBin, Try.underlying3, getD_map hx, hi0, hk, getD_map hy, decide_true, Bool.and_true]
          repeat (refine And.intro (by first | omega | (intros; omega) | (intros; simp_all; done) | (intros; simp_all; omega)) ?_)
          refine k _ ?_; clear k K
        -- 34 := pick t30 c<true> t33
        refine v_op ?_; intro K k
        simp only [zE, zP, aStepM, optable, set_some, Nat.reduceEqDiff, reduceIte, Nat.reduceLT, implies_true, forall_const, reduceCtorEq, V.ofValue, V.ofScalar, V.un, V.gd, aExec, aop, pickV, getD_map hx, hi0, hk, getD_map hy, decide_true, Bool.and_true]
        repeat (refine And.intro (by first | omega | (intros; omega) | (intros; simp_all; done) | (intros; simp_all; omega)) ?_)
        refine k _ ?_; clear k K
        refine k32 _ ?_
        refine n31 _ _ (weak_keep [0, 3, 4, 5, 6, 7, 34] _) ?_
        simp only [keep_mk, keepE_nil, keepE_cons, look_cons, look_nil, Nat.reduceEqDiff, reduceIte]
        refine v_cond _ rfl ?_ ?_  -- COND 1
        · intro hc1
          try simp only [zC, reduceCtorEq] at hc1
          have hone : tOne (x0, x1, x2, x3) = false := by
            cases hq : tOne (x0, x1, x2, x3) with
            | false => rfl
            | true =>
              exfalso
              simp only [tOne, Bool.and_eq_true, decide_eq_true_eq] at hq
              have hnm := hq.1.1.2
              simp [hnm] at hc1
              omega
          refine v_seq ?_; intro Q34 n34 e34 r34  -- SEQ 15
          refine v_region ?_; intro K35 k35
          -- 2 := assign c<false>
          refine v_op ?_; intro K k
          simp only [zE, zS, aStepM, optable, set_some, Nat.reduceEqDiff, reduceIte, Nat.reduceLT, implies_true, forall_const, reduceCtorEq, V.ofValue, V.ofScalar, V.un, V.gd, aExec, aop, Nat.reduceAdd, getD_map hx, hi0, hk, getD_map hy, decide_true, Bool.and_true]
          repeat (refine And.intro (by first | omega | (intros; omega) | (intros; simp_all; done) | (intros; simp_all; omega)) ?_)
          refine k _ ?_; clear k K
          refine k35 _ ?_
          refine n34 _ _ (weak_keep [2] _) ?_
          simp only [keep_mk, keepE_nil, keepE_cons, look_cons, look_nil, Nat.reduceEqDiff, reduceIte]
          refine v_ret ?_
          refine r30 _ ?_
          refine r27 _ ?_
          refine r26 _ ?_
          refine r7 _ ?_
          refine r6 _ ?_
          refine r3 _ ?_
          refine r0 _ ?_
          simp only [resK, pickRV, get_mk, look_cons, look_nil, Nat.reduceEqDiff, reduceIte, List.map_cons, List.map_nil]
          exact ret_pure rfl (by rw [turnsB, ← hR, hst]; clear hR hst; first | (simp [hone]; done) | (simp [hone, hbf]; done) | (simp [hc1]; done) | (rcases hc1 with h | h <;> simp [h])) (.inl rfl)
        · intro hc1
          try simp only [zC, reduceCtorEq] at hc1
          have hone : tOne (x0, x1, x2, x3) = true := by
            cases hnm : nameB x1 with
            | false => simp [hnm] at hc1
            | true =>
              simp only [hnm] at hc1
              simp only [tOne, Bool.and_eq_true, decide_eq_true_eq, hnm]
              simp at hc1 ⊢
              omega
          refine v_skip ?_
          refine n30 _ _ (weak_keep [0, 3, 4, 5, 6, 7] _) ?_
          simp only [keep_mk, keepE_nil, keepE_cons, look_cons, look_nil, Nat.reduceEqDiff, reduceIte]
          refine v_seq ?_; intro Q36 n36 e36 r36  -- SEQ 16
          refine v_draw (by kernel_rfl) ?_; intro K37 q37 k37
          show aAny _ _ _ _ 34 (Array.replicate 34 false) _
          -- 35 := move t3
          refine aAny_take q37 true 0 35 rfl rfl (by kernel_rfl) (by kernel_rfl) ?_
          apply Exists.intro; apply And.intro
          · intro t hn gx ho K' k'
            have g3 := gx 3 (by decide)
            simp only [get_mk, look_cons, look_nil, set_some, Nat.reduceEqDiff, reduceIte] at g3
            have hdl : 35 < t.n := by rw [hn]; show 35 < 73; decide
            clear hn
            refine .inl ?_
            simp only [zE, hdl, aStepM, optable, Nat.reduceEqDiff, reduceIte, implies_true, forall_const, reduceCtorEq, V.ofValue, V.ofScalar, V.un, V.gd, aExec, aop, g3, getD_map hx, hi0, hk, getD_map hy, decide_true, Bool.and_true]
            repeat (refine And.intro (by first | omega | (intros; omega) | (intros; simp_all; done) | (intros; simp_all; omega)) ?_)
            exact k'
          simp only [set_some]
          -- 36 := binOp Go.BinOp.gtr 3 t35 c<0:i64> 3
          refine aAny_take q37 true 1 36 rfl rfl (by kernel_rfl) (by kernel_rfl) ?_
          apply Exists.intro; apply And.intro
          · intro t hn gx ho K' k'
            have g35 := gx 35 (by decide)
            simp only [get_mk, look_cons, look_nil, set_some, Nat.reduceEqDiff, reduceIte] at g35
            have hdl : 36 < t.n := by rw [hn]; show 36 < 73; decide
            clear hn
            refine .inl ?_
            simp only [zE, hdl, aStepM, optable, Nat.reduceEqDiff, reduceIte, implies_true, forall_const, reduceCtorEq, V.ofValue, V.ofScalar, V.un, V.gd, aExec, aop, g35, aBin, Try.underlying3, getD_map hx, hi0, hk, getD_map hy, decide_true, Bool.and_true]
            repeat (refine And.intro (by first | omega | (intros; omega) | (intros; simp_all; done) | (intros; simp_all; omega)) ?_)
            exact k'
          simp only [set_some]
          -- 37 := move t36
          refine aAny_take q37 true 2 37 rfl rfl (by kernel_rfl) (by kernel_rfl) ?_
          apply Exists.intro; apply And.intro
          · intro t hn gx ho K' k'
            have g36 := gx 36 (by decide)
            simp only [get_mk, look_cons, look_nil, set_some, Nat.reduceEqDiff, reduceIte] at g36
            have hdl : 37 < t.n := by rw [hn]; show 37 < 73; decide
            clear hn
            refine .inl ?_
            simp only [zE, hdl, aStepM, optable, Nat.reduceEqDiff, reduceIte, implies_true, forall_const, reduceCtorEq, V.ofValue, V.ofScalar, V.un, V.gd, aExec, aop, g36, getD_map hx, hi0, hk, getD_map hy, decide_true, Bool.and_true]
            repeat (refine And.intro (by first | omega | (intros; omega) | (intros; simp_all; done) | (intros; simp_all; omega)) ?_)
            exact k'
          simp only [set_some]
          -- 38 := move t0
          refine aAny_take q37 true 3 38 rfl rfl (by kernel_rfl) (by kernel_rfl) ?_
          apply Exists.intro; apply And.intro
          · intro t hn gx ho K' k'
            have g0 := gx 0 (by decide)
            have g37 := gx 37 (by decide)
            simp only [get_mk, look_cons, look_nil, set_some, Nat.reduceEqDiff, reduceIte] at g0 g37
            have hdl : 38 < t.n := by rw [hn]; show 38 < 73; decide
            clear hn
            first
            | refine .inr ⟨hdl, 2, true, rfl, ?_, k'⟩
              first | rfl | (simp only [zV, guardV, Nat.reduceEqDiff, reduceIte, g0, g37]; done)
            | skip
              refine .inl ?_
              simp only [zE, zG, hdl, aStepM, optable, Nat.reduceEqDiff, reduceIte, implies_true, forall_const, reduceCtorEq, V.ofValue, V.ofScalar, V.un, V.gd, guardV, V.wrap, aExec, aop, g0, g37, getD_map hx, hi0, hk, getD_map hy, decide_true, Bool.and_true]
              repeat (refine And.intro (by first | omega | (intros; omega) | (intros; simp_all; done) | (intros; simp_all; omega)) ?_)
              exact k'
          simp only [set_some]
          -- 39 := move t3
          refine aAny_take q37 true 4 39 rfl rfl (by kernel_rfl) (by kernel_rfl) ?_
          apply Exists.intro; apply And.intro
          · intro t hn gx ho K' k'
            have g3 := gx 3 (by decide)
            have g37 := gx 37 (by decide)
            simp only [get_mk, look_cons, look_nil, set_some, Nat.reduceEqDiff, reduceIte] at g3 g37
            have hdl : 39 < t.n := by rw [hn]; show 39 < 73; decide
            clear hn
            first
            | refine .inr ⟨hdl, 2, true, rfl, ?_, k'⟩
              first | rfl | (simp only [zV, guardV, Nat.reduceEqDiff, reduceIte, g3, g37]; done)
            | skip
              refine .inl ?_
              simp only [zE, zG, hdl, aStepM, optable, Nat.reduceEqDiff, reduceIte, implies_true, forall_const, reduceCtorEq, V.ofValue, V.ofScalar, V.un, V.gd, guardV, V.wrap, aExec, aop, g3, g37, getD_map hx, hi0, hk, getD_map hy, decide_true, Bool.and_true]
              repeat (refine And.intro (by first | omega | (intros; omega) | (intros; simp_all; done) | (intros; simp_all; omega)) ?_)
              exact k'
          simp only [set_some]
          -- 40 := binOp Go.BinOp.sub 3 t39 c<1:i64> 3
          refine aAny_take q37 true 5 40 rfl rfl (by kernel_rfl) (by kernel_rfl) ?_
          apply Exists.intro; apply And.intro
          · intro t hn gx ho K' k'
            have g37 := gx 37 (by decide)
            have g39 := gx 39 (by decide)
            simp only [get_mk, look_cons, look_nil, set_some, Nat.reduceEqDiff, reduceIte] at g37 g39
            have hdl : 40 < t.n := by rw [hn]; show 40 < 73; decide
            clear hn
            first
            | refine .inr ⟨hdl, 2, true, rfl, ?_, k'⟩
              first | rfl | (simp only [zV, guardV, Nat.reduceEqDiff, reduceIte, g37, g39]; done)
            | skip
              refine .inl ?_
              simp only [zE, zG, hdl, aStepM, optable, Nat.reduceEqDiff, reduceIte, implies_true, forall_const, reduceCtorEq, V.ofValue, V.ofScalar, V.un, V.gd, guardV, V.wrap, aExec, aop, g37, g39, aBin, Try.underlying3, getD_map hx, hi0, hk, getD_map hy, decide_true, Bool.and_true]
              try simp (disch := omega) only [wrap64]
              repeat (refine And.intro (by first | omega | (intros; omega) | (intros; simp_all; done) | (intros; simp_all; omega)) ?_)
              exact k'
          simp only [set_some]
          -- 41 := indexAddr 26 t38 t40
          refine aAny_take q37 true 6 41 rfl rfl (by kernel_rfl) (by kernel_rfl) ?_
          apply Exists.intro; apply And.intro
          · intro t hn gx ho K' k'
            have g37 := gx 37 (by decide)
            have g38 := gx 38 (by decide)
            have g40 := gx 40 (by decide)
            simp only [get_mk, look_cons, look_nil, set_some, Nat.reduceEqDiff, reduceIte] at g37 g38 g40
            first | have row0 := grow_row (i := 0) (ho rfl) rfl | have row0 : t.n + 0 = t.n := rfl
            first | have row1 := grow_row (i := 1) (ho rfl) rfl | have row1 : t.n + 0 = t.n := rfl
            first | have row2 := grow_row (i := 2) (ho rfl) rfl | have row2 : t.n + 0 = t.n := rfl
            have hdl : 41 < t.n := by rw [hn]; show 41 < 73; decide
            clear hn
            first
            | refine .inr ⟨hdl, 2, true, rfl, ?_, k'⟩
              first | rfl | (simp only [zV, guardV, Nat.reduceEqDiff, reduceIte, g37, g38, g40, row0, row1, row2]; done)
            | skip
              refine .inl ?_
              simp only [zE, zL, zN, hdl, aStepM, optable, Nat.reduceEqDiff, reduceIte, implies_true, forall_const, reduceCtorEq, V.ofValue, V.ofScalar, V.un, V.gd, guardV, V.wrap, aExec, aop, g37, g38, g40, row0, row1, row2, aIndexAddr, row_mk, Blk.row, Go.Vm.V.cells, List.forall_mem_map, List.length_map, Int.toNat_natCast, Int.reduceToNat, TypeDesc.slice.injEq, Nat.reduceAdd, Nat.reduceLeDiff, Nat.reduceLT, Nat.reduceMul, Try.underlying26, Ty.c26, Ty.a26, Try.underlying54, Ty.c54, Ty.a54, getD_map hx, hi0, hk, getD_map hy, decide_true, Bool.and_true]
              repeat (refine And.intro (by first | omega | (intros; omega) | (intros; simp_all; done) | (intros; simp_all; omega)) ?_)
              exact k'
          simp only [set_some]
          -- 42 := fieldAddr 54 t41 2
          refine aAny_take q37 true 7 42 rfl rfl (by kernel_rfl) (by kernel_rfl) ?_
          apply Exists.intro; apply And.intro
          · intro t hn gx ho K' k'
            have g37 := gx 37 (by decide)
            have g41 := gx 41 (by decide)
            simp only [get_mk, look_cons, look_nil, set_some, Nat.reduceEqDiff, reduceIte] at g37 g41
            have hdl : 42 < t.n := by rw [hn]; show 42 < 73; decide
            clear hn
            first
            | refine .inr ⟨hdl, 2, true, rfl, ?_, k'⟩
              first | rfl | (simp only [zV, guardV, Nat.reduceEqDiff, reduceIte, g37, g41]; done)
            | skip
              refine .inl ?_
              simp only [zE, zL, zN, hdl, aStepM, optable, Nat.reduceEqDiff, reduceIte, implies_true, forall_const, reduceCtorEq, V.ofValue, V.ofScalar, V.un, V.gd, guardV, V.wrap, aExec, aop, g37, g41, aFieldAddr, Nat.reduceAdd, Nat.reduceLeDiff, Nat.reduceLT, Nat.reduceMul, Try.underlying3, Ty.c3, Ty.a3, Try.underlying9, Ty.c9, Ty.a9, Try.underlying54, Ty.c54, Ty.a54, getD_map hx, hi0, hk, getD_map hy, decide_true, Bool.and_true]
              repeat (refine And.intro (by first | omega | (intros; omega) | (intros; simp_all; done) | (intros; simp_all; omega)) ?_)
              exact k'
          simp only [set_some]
          -- 43 := load 3 t42
          refine aAny_take q37 true 8 43 rfl rfl (by kernel_rfl) (by kernel_rfl) ?_
          apply Exists.intro; apply And.intro
          · intro t hn gx ho K' k'
            have g37 := gx 37 (by decide)
            have g42 := gx 42 (by decide)
            simp only [get_mk, look_cons, look_nil, set_some, Nat.reduceEqDiff, reduceIte] at g37 g42
            first | have row0 := grow_row (i := 0) (ho rfl) rfl | have row0 : t.n + 0 = t.n := rfl
            first | have row1 := grow_row (i := 1) (ho rfl) rfl | have row1 : t.n + 0 = t.n := rfl
            first | have row2 := grow_row (i := 2) (ho rfl) rfl | have row2 : t.n + 0 = t.n := rfl
            have hdl : 43 < t.n := by rw [hn]; show 43 < 73; decide
            clear hn
            first
            | refine .inr ⟨hdl, 2, true, rfl, ?_, k'⟩
              first | rfl | (simp only [zV, guardV, Nat.reduceEqDiff, reduceIte, g37, g42, row0, row1, row2]; done)
            | skip
              refine .inl ?_
              simp only [zE, zL, zO, zN, hdl, aStepM, optable, Nat.reduceEqDiff, reduceIte, implies_true, forall_const, reduceCtorEq, V.ofValue, V.ofScalar, V.un, V.gd, guardV, V.wrap, aExec, aop, g37, g42, row0, row1, row2, aLoad, row_mk, Blk.row, PartOK, Go.Vm.part, V.cells, V.noSl, V.noRef, Nat.reduceAdd, Nat.reduceLeDiff, Nat.reduceLT, Nat.reduceMul, Try.underlying3, Ty.c3, Ty.a3, getD_map hx, hi0, hk, getD_map hy]
              repeat (refine And.intro (by first | omega | (intros; omega) | (intros; simp_all; done) | (intros; simp_all; omega)) ?_)
              exact k'
          simp only [set_some]
          -- 44 := fieldAddr 54 t4 2
          refine aAny_take q37 true 9 44 rfl rfl (by kernel_rfl) (by kernel_rfl) ?_
          apply Exists.intro; apply And.intro
          · intro t hn gx ho K' k'
            have g4 := gx 4 (by decide)
            have g37 := gx 37 (by decide)
            simp only [get_mk, look_cons, look_nil, set_some, Nat.reduceEqDiff, reduceIte] at g4 g37
            have hdl : 44 < t.n := by rw [hn]; show 44 < 73; decide
            clear hn
            first
            | refine .inr ⟨hdl, 2, true, rfl, ?_, k'⟩
              first | rfl | (simp only [zV, guardV, Nat.reduceEqDiff, reduceIte, g4, g37]; done)
            | skip
              refine .inl ?_
              simp only [zE, zL, zN, hdl, aStepM, optable, Nat.reduceEqDiff, reduceIte, implies_true, forall_const, reduceCtorEq, V.ofValue, V.ofScalar, V.un, V.gd, guardV, V.wrap, aExec, aop, g4, g37, aFieldAddr, Nat.reduceAdd, Nat.reduceLeDiff, Nat.reduceLT, Nat.reduceMul, Try.underlying3, Ty.c3, Ty.a3, Try.underlying9, Ty.c9, Ty.a9, Try.underlying54, Ty.c54, Ty.a54, getD_map hx, hi0, hk, getD_map hy, decide_true, Bool.and_true]
              repeat (refine And.intro (by first | omega | (intros; omega) | (intros; simp_all; done) | (intros; simp_all; omega)) ?_)
              exact k'
          simp only [set_some]
          -- 45 := load 3 t44
          refine aAny_take q37 true 10 45 rfl rfl (by kernel_rfl) (by kernel_rfl) ?_
          apply Exists.intro; apply And.intro
          · intro t hn gx ho K' k'
            have g37 := gx 37 (by decide)
            have g44 := gx 44 (by decide)
            simp only [get_mk, look_cons, look_nil, set_some, Nat.reduceEqDiff, reduceIte] at g37 g44
            first | have row0 := grow_row (i := 0) (ho rfl) rfl | have row0 : t.n + 0 = t.n := rfl
            first | have row1 := grow_row (i := 1) (ho rfl) rfl | have row1 : t.n + 0 = t.n := rfl
            first | have row2 := grow_row (i := 2) (ho rfl) rfl | have row2 : t.n + 0 = t.n := rfl
            have hdl : 45 < t.n := by rw [hn]; show 45 < 73; decide
            clear hn
            first
            | refine .inr ⟨hdl, 2, true, rfl, ?_, k'⟩
              first | rfl | (simp only [zV, guardV, Nat.reduceEqDiff, reduceIte, g37, g44, row0, row1, row2]; done)
            | skip
              refine .inl ?_
              simp only [zE, zL, zO, zN, hdl, aStepM, optable, Nat.reduceEqDiff, reduceIte, implies_true, forall_const, reduceCtorEq, V.ofValue, V.ofScalar, V.un, V.gd, guardV, V.wrap, aExec, aop, g37, g44, row0, row1, row2, aLoad, row_mk, Blk.row, PartOK, Go.Vm.part, V.cells, V.noSl, V.noRef, Nat.reduceAdd, Nat.reduceLeDiff, Nat.reduceLT, Nat.reduceMul, Try.underlying3, Ty.c3, Ty.a3, getD_map hx, hi0, hk, getD_map hy]
              repeat (refine And.intro (by first | omega | (intros; omega) | (intros; simp_all; done) | (intros; simp_all; omega)) ?_)
              exact k'
          simp only [set_some]
          -- 47 := move t0
          refine aAny_take q37 true 12 47 rfl rfl (by kernel_rfl) (by kernel_rfl) ?_
          apply Exists.intro; apply And.intro
          · intro t hn gx ho K' k'
            have g0 := gx 0 (by decide)
            have g37 := gx 37 (by decide)
            simp only [get_mk, look_cons, look_nil, set_some, Nat.reduceEqDiff, reduceIte] at g0 g37
            have hdl : 47 < t.n := by rw [hn]; show 47 < 73; decide
            clear hn
            first
            | refine .inr ⟨hdl, 2, true, rfl, ?_, k'⟩
              first | rfl | (simp only [zV, guardV, Nat.reduceEqDiff, reduceIte, g0, g37]; done)
            | skip
              refine .inl ?_
              simp only [zE, zG, hdl, aStepM, optable, Nat.reduceEqDiff, reduceIte, implies_true, forall_const, reduceCtorEq, V.ofValue, V.ofScalar, V.un, V.gd, guardV, V.wrap, aExec, aop, g0, g37, getD_map hx, hi0, hk, getD_map hy, decide_true, Bool.and_true]
              repeat (refine And.intro (by first | omega | (intros; omega) | (intros; simp_all; done) | (intros; simp_all; omega)) ?_)
              exact k'
          simp only [set_some]
          -- 48 := move t3
          refine aAny_take q37 true 13 48 rfl rfl (by kernel_rfl) (by kernel_rfl) ?_
          apply Exists.intro; apply And.intro
          · intro t hn gx ho K' k'
            have g3 := gx 3 (by decide)
            have g37 := gx 37 (by decide)
            simp only [get_mk, look_cons, look_nil, set_some, Nat.reduceEqDiff, reduceIte] at g3 g37
            have hdl : 48 < t.n := by rw [hn]; show 48 < 73; decide
            clear hn
            first
            | refine .inr ⟨hdl, 2, true, rfl, ?_, k'⟩
              first | rfl | (simp only [zV, guardV, Nat.reduceEqDiff, reduceIte, g3, g37]; done)
            | skip
              refine .inl ?_
              simp only [zE, zG, hdl, aStepM, optable, Nat.reduceEqDiff, reduceIte, implies_true, forall_const, reduceCtorEq, V.ofValue, V.ofScalar, V.un, V.gd, guardV, V.wrap, aExec, aop, g3, g37, getD_map hx, hi0, hk, getD_map hy, decide_true, Bool.and_true]
              repeat (refine And.intro (by first | omega | (intros; omega) | (intros; simp_all; done) | (intros; simp_all; omega)) ?_)
              exact k'
          simp only [set_some]
          -- 49 := binOp Go.BinOp.sub 3 t48 c<1:i64> 3
          refine aAny_take q37 true 14 49 rfl rfl (by kernel_rfl) (by kernel_rfl) ?_
          apply Exists.intro; apply And.intro
          · intro t hn gx ho K' k'
            have g37 := gx 37 (by decide)
            have g48 := gx 48 (by decide)
            simp only [get_mk, look_cons, look_nil, set_some, Nat.reduceEqDiff, reduceIte] at g37 g48
            have hdl : 49 < t.n := by rw [hn]; show 49 < 73; decide
            clear hn
            first
            | refine .inr ⟨hdl, 2, true, rfl, ?_, k'⟩
              first | rfl | (simp only [zV, guardV, Nat.reduceEqDiff, reduceIte, g37, g48]; done)
            | skip
              refine .inl ?_
              simp only [zE, zG, hdl, aStepM, optable, Nat.reduceEqDiff, reduceIte, implies_true, forall_const, reduceCtorEq, V.ofValue, V.ofScalar, V.un, V.gd, guardV, V.wrap, aExec, aop, g37, g48, aBin, Try.underlying3, getD_map hx, hi0, hk, getD_map hy, decide_true, Bool.and_true]
              try simp (disch := omega) only [wrap64]
              repeat (refine And.intro (by first | omega | (intros; omega) | (intros; simp_all; done) | (intros; simp_all; omega)) ?_)
              exact k'
          simp only [set_some]
          -- 50 := indexAddr 26 t47 t49
          refine aAny_take q37 true 15 50 rfl rfl (by kernel_rfl) (by kernel_rfl) ?_
          apply Exists.intro; apply And.intro
          · intro t hn gx ho K' k'
            have g37 := gx 37 (by decide)
            have g47 := gx 47 (by decide)
            have g49 := gx 49 (by decide)
            simp only [get_mk, look_cons, look_nil, set_some, Nat.reduceEqDiff, reduceIte] at g37 g47 g49
            first | have row0 := grow_row (i := 0) (ho rfl) rfl | have row0 : t.n + 0 = t.n := rfl
            first | have row1 := grow_row (i := 1) (ho rfl) rfl | have row1 : t.n + 0 = t.n := rfl
            first | have row2 := grow_row (i := 2) (ho rfl) rfl | have row2 : t.n + 0 = t.n := rfl
            have hdl : 50 < t.n := by rw [hn]; show 50 < 73; decide
            clear hn
            first
            | refine .inr ⟨hdl, 2, true, rfl, ?_, k'⟩
              first | rfl | (simp only [zV, guardV, Nat.reduceEqDiff, reduceIte, g37, g47, g49, row0, row1, row2]; done)
            | skip
              refine .inl ?_
              simp only [zE, zL, zN, hdl, aStepM, optable, Nat.reduceEqDiff, reduceIte, implies_true, forall_const, reduceCtorEq, V.ofValue, V.ofScalar, V.un, V.gd, guardV, V.wrap, aExec, aop, g37, g47, g49, row0, row1, row2, aIndexAddr, row_mk, Blk.row, Go.Vm.V.cells, List.forall_mem_map, List.length_map, Int.toNat_natCast, Int.reduceToNat, TypeDesc.slice.injEq, Nat.reduceAdd, Nat.reduceLeDiff, Nat.reduceLT, Nat.reduceMul, Try.underlying26, Ty.c26, Ty.a26, Try.underlying54, Ty.c54, Ty.a54, getD_map hx, hi0, hk, getD_map hy, decide_true, Bool.and_true]
              repeat (refine And.intro (by first | omega | (intros; omega) | (intros; simp_all; done) | (intros; simp_all; omega)) ?_)
              exact k'
          simp only [set_some]
          -- 51 := fieldAddr 54 t50 0
          refine aAny_take q37 true 16 51 rfl rfl (by kernel_rfl) (by kernel_rfl) ?_
          apply Exists.intro; apply And.intro
          · intro t hn gx ho K' k'
            have g37 := gx 37 (by decide)
            have g50 := gx 50 (by decide)
            simp only [get_mk, look_cons, look_nil, set_some, Nat.reduceEqDiff, reduceIte] at g37 g50
            have hdl : 51 < t.n := by rw [hn]; show 51 < 73; decide
            clear hn
            first
            | refine .inr ⟨hdl, 2, true, rfl, ?_, k'⟩
              first | rfl | (simp only [zV, guardV, Nat.reduceEqDiff, reduceIte, g37, g50]; done)
            | skip
              refine .inl ?_
              simp only [zE, zL, zN, hdl, aStepM, optable, Nat.reduceEqDiff, reduceIte, implies_true, forall_const, reduceCtorEq, V.ofValue, V.ofScalar, V.un, V.gd, guardV, V.wrap, aExec, aop, g37, g50, aFieldAddr, Nat.reduceAdd, Nat.reduceLeDiff, Nat.reduceLT, Nat.reduceMul, Try.underlying3, Ty.c3, Ty.a3, Try.underlying9, Ty.c9, Ty.a9, Try.underlying54, Ty.c54, Ty.a54, getD_map hx, hi0, hk, getD_map hy, decide_true, Bool.and_true]
              repeat (refine And.intro (by first | omega | (intros; omega) | (intros; simp_all; done) | (intros; simp_all; omega)) ?_)
              exact k'
          simp only [set_some]
          -- 52 := load 3 t51
          refine aAny_take q37 true 17 52 rfl rfl (by kernel_rfl) (by kernel_rfl) ?_
          apply Exists.intro; apply And.intro
          · intro t hn gx ho K' k'
            have g37 := gx 37 (by decide)
            have g51 := gx 51 (by decide)
            simp only [get_mk, look_cons, look_nil, set_some, Nat.reduceEqDiff, reduceIte] at g37 g51
            first | have row0 := grow_row (i := 0) (ho rfl) rfl | have row0 : t.n + 0 = t.n := rfl
            first | have row1 := grow_row (i := 1) (ho rfl) rfl | have row1 : t.n + 0 = t.n := rfl
            first | have row2 := grow_row (i := 2) (ho rfl) rfl | have row2 : t.n + 0 = t.n := rfl
            have hdl : 52 < t.n := by rw [hn]; show 52 < 73; decide
            clear hn
            first
            | refine .inr ⟨hdl, 2, true, rfl, ?_, k'⟩
              first | rfl | (simp only [zV, guardV, Nat.reduceEqDiff, reduceIte, g37, g51, row0, row1, row2]; done)
            | skip
              refine .inl ?_
              simp only [zE, zL, zO, zN, hdl, aStepM, optable, Nat.reduceEqDiff, reduceIte, implies_true, forall_const, reduceCtorEq, V.ofValue, V.ofScalar, V.un, V.gd, guardV, V.wrap, aExec, aop, g37, g51, row0, row1, row2, aLoad, row_mk, Blk.row, PartOK, Go.Vm.part, V.cells, V.noSl, V.noRef, Nat.reduceAdd, Nat.reduceLeDiff, Nat.reduceLT, Nat.reduceMul, Try.underlying3, Ty.c3, Ty.a3, getD_map hx, hi0, hk, getD_map hy]
              repeat (refine And.intro (by first | omega | (intros; omega) | (intros; simp_all; done) | (intros; simp_all; omega)) ?_)
              exact k'
          simp only [set_some]
          -- 53 := fieldAddr 54 t4 0
          refine aAny_take q37 true 18 53 rfl rfl (by kernel_rfl) (by kernel_rfl) ?_
          apply Exists.intro; apply And.intro
          · intro t hn gx ho K' k'
            have g4 := gx 4 (by decide)
            have g37 := gx 37 (by decide)
            simp only [get_mk, look_cons, look_nil, set_some, Nat.reduceEqDiff, reduceIte] at g4 g37
            have hdl : 53 < t.n := by rw [hn]; show 53 < 73; decide
            clear hn
            first
            | refine .inr ⟨hdl, 2, true, rfl, ?_, k'⟩
              first | rfl | (simp only [zV, guardV, Nat.reduceEqDiff, reduceIte, g4, g37]; done)
            | skip
              refine .inl ?_
              simp only [zE, zL, zN, hdl, aStepM, optable, Nat.reduceEqDiff, reduceIte, implies_true, forall_const, reduceCtorEq, V.ofValue, V.ofScalar, V.un, V.gd, guardV, V.wrap, aExec, aop, g4, g37, aFieldAddr, Nat.reduceAdd, Nat.reduceLeDiff, Nat.reduceLT, Nat.reduceMul, Try.underlying3, Ty.c3, Ty.a3, Try.underlying9, Ty.c9, Ty.a9, Try.underlying54, Ty.c54, Ty.a54, getD_map hx, hi0, hk, getD_map hy, decide_true, Bool.and_true]
              repeat (refine And.intro (by first | omega | (intros; omega) | (intros; simp_all; done) | (intros; simp_all; omega)) ?_)
              exact k'
          simp only [set_some]
          -- 54 := load 3 t53
          refine aAny_take q37 true 19 54 rfl rfl (by kernel_rfl) (by kernel_rfl) ?_
          apply Exists.intro; apply And.intro
          · intro t hn gx ho K' k'
            have g37 := gx 37 (by decide)
            have g53 := gx 53 (by decide)
            simp only [get_mk, look_cons, look_nil, set_some, Nat.reduceEqDiff, reduceIte] at g37 g53
            first | have row0 := grow_row (i := 0) (ho rfl) rfl | have row0 : t.n + 0 = t.n := rfl
            first | have row1 := grow_row (i := 1) (ho rfl) rfl | have row1 : t.n + 0 = t.n := rfl
            first | have row2 := grow_row (i := 2) (ho rfl) rfl | have row2 : t.n + 0 = t.n := rfl
            have hdl : 54 < t.n := by rw [hn]; show 54 < 73; decide
            clear hn
            first
            | refine .inr ⟨hdl, 2, true, rfl, ?_, k'⟩
              first | rfl | (simp only [zV, guardV, Nat.reduceEqDiff, reduceIte, g37, g53, row0, row1, row2]; done)
            | skip
              refine .inl ?_
              simp only [zE, zL, zO, zN, hdl, aStepM, optable, Nat.reduceEqDiff, reduceIte, implies_true, forall_const, reduceCtorEq, V.ofValue, V.ofScalar, V.un, V.gd, guardV, V.wrap, aExec, aop, g37, g53, row0, row1, row2, aLoad, row_mk, Blk.row, PartOK, Go.Vm.part, V.cells, V.noSl, V.noRef, Nat.reduceAdd, Nat.reduceLeDiff, Nat.reduceLT, Nat.reduceMul, Try.underlying3, Ty.c3, Ty.a3, getD_map hx, hi0, hk, getD_map hy]
              repeat (refine And.intro (by first | omega | (intros; omega) | (intros; simp_all; done) | (intros; simp_all; omega)) ?_)
              exact k'
          simp only [set_some]
          -- 56 := move t0
          refine aAny_take q37 true 21 56 rfl rfl (by kernel_rfl) (by kernel_rfl) ?_
          apply Exists.intro; apply And.intro
          · intro t hn gx ho K' k'
            have g0 := gx 0 (by decide)
            have g37 := gx 37 (by decide)
            simp only [get_mk, look_cons, look_nil, set_some, Nat.reduceEqDiff, reduceIte] at g0 g37
            have hdl : 56 < t.n := by rw [hn]; show 56 < 73; decide
            clear hn
            first
            | refine .inr ⟨hdl, 2, true, rfl, ?_, k'⟩
              first | rfl | (simp only [zV, guardV, Nat.reduceEqDiff, reduceIte, g0, g37]; done)
            | skip
              refine .inl ?_
              simp only [zE, zG, hdl, aStepM, optable, Nat.reduceEqDiff, reduceIte, implies_true, forall_const, reduceCtorEq, V.ofValue, V.ofScalar, V.un, V.gd, guardV, V.wrap, aExec, aop, g0, g37, getD_map hx, hi0, hk, getD_map hy, decide_true, Bool.and_true]
              repeat (refine And.intro (by first | omega | (intros; omega) | (intros; simp_all; done) | (intros; simp_all; omega)) ?_)
              exact k'
          simp only [set_some]
          -- 57 := move t3
          refine aAny_take q37 true 22 57 rfl rfl (by kernel_rfl) (by kernel_rfl) ?_
          apply Exists.intro; apply And.intro
          · intro t hn gx ho K' k'
            have g3 := gx 3 (by decide)
            have g37 := gx 37 (by decide)
            simp only [get_mk, look_cons, look_nil, set_some, Nat.reduceEqDiff, reduceIte] at g3 g37
            have hdl : 57 < t.n := by rw [hn]; show 57 < 73; decide
            clear hn
            first
            | refine .inr ⟨hdl, 2, true, rfl, ?_, k'⟩
              first | rfl | (simp only [zV, guardV, Nat.reduceEqDiff, reduceIte, g3, g37]; done)
            | skip
              refine .inl ?_
              simp only [zE, zG, hdl, aStepM, optable, Nat.reduceEqDiff, reduceIte, implies_true, forall_const, reduceCtorEq, V.ofValue, V.ofScalar, V.un, V.gd, guardV, V.wrap, aExec, aop, g3, g37, getD_map hx, hi0, hk, getD_map hy, decide_true, Bool.and_true]
              repeat (refine And.intro (by first | omega | (intros; omega) | (intros; simp_all; done) | (intros; simp_all; omega)) ?_)
              exact k'
          simp only [set_some]
          -- 58 := binOp Go.BinOp.sub 3 t57 c<1:i64> 3
          refine aAny_take q37 true 23 58 rfl rfl (by kernel_rfl) (by kernel_rfl) ?_
          apply Exists.intro; apply And.intro
          · intro t hn gx ho K' k'
            have g37 := gx 37 (by decide)
            have g57 := gx 57 (by decide)
            simp only [get_mk, look_cons, look_nil, set_some, Nat.reduceEqDiff, reduceIte] at g37 g57
            have hdl : 58 < t.n := by rw [hn]; show 58 < 73; decide
            clear hn
            first
            | refine .inr ⟨hdl, 2, true, rfl, ?_, k'⟩
              first | rfl | (simp only [zV, guardV, Nat.reduceEqDiff, reduceIte, g37, g57]; done)
            | skip
              refine .inl ?_
              simp only [zE, zG, hdl, aStepM, optable, Nat.reduceEqDiff, reduceIte, implies_true, forall_const, reduceCtorEq, V.ofValue, V.ofScalar, V.un, V.gd, guardV, V.wrap, aExec, aop, g37, g57, aBin, Try.underlying3, getD_map hx, hi0, hk, getD_map hy, decide_true, Bool.and_true]
              try simp (disch := omega) only [wrap64]
              repeat (refine And.intro (by first | omega | (intros; omega) | (intros; simp_all; done) | (intros; simp_all; omega)) ?_)
              exact k'
          simp only [set_some]
          -- 59 := indexAddr 26 t56 t58
          refine aAny_take q37 true 24 59 rfl rfl (by kernel_rfl) (by kernel_rfl) ?_
          apply Exists.intro; apply And.intro
          · intro t hn gx ho K' k'
            have g37 := gx 37 (by decide)
            have g56 := gx 56 (by decide)
            have g58 := gx 58 (by decide)
            simp only [get_mk, look_cons, look_nil, set_some, Nat.reduceEqDiff, reduceIte] at g37 g56 g58
            first | have row0 := grow_row (i := 0) (ho rfl) rfl | have row0 : t.n + 0 = t.n := rfl
            first | have row1 := grow_row (i := 1) (ho rfl) rfl | have row1 : t.n + 0 = t.n := rfl
            first | have row2 := grow_row (i := 2) (ho rfl) rfl | have row2 : t.n + 0 = t.n := rfl
            have hdl : 59 < t.n := by rw [hn]; show 59 < 73; decide
            clear hn
            first
            | refine .inr ⟨hdl, 2, true, rfl, ?_, k'⟩
              first | rfl | (simp only [zV, guardV, Nat.reduceEqDiff, reduceIte, g37, g56, g58, row0, row1, row2]; done)
            | skip
              refine .inl ?_
              simp only [zE, zL, zN, hdl, aStepM, optable, Nat.reduceEqDiff, reduceIte, implies_true, forall_const, reduceCtorEq, V.ofValue, V.ofScalar, V.un, V.gd, guardV, V.wrap, aExec, aop, g37, g56, g58, row0, row1, row2, aIndexAddr, row_mk, Blk.row, Go.Vm.V.cells, List.forall_mem_map, List.length_map, Int.toNat_natCast, Int.reduceToNat, TypeDesc.slice.injEq, Nat.reduceAdd, Nat.reduceLeDiff, Nat.reduceLT, Nat.reduceMul, Try.underlying26, Ty.c26, Ty.a26, Try.underlying54, Ty.c54, Ty.a54, getD_map hx, hi0, hk, getD_map hy, decide_true, Bool.and_true]
              repeat (refine And.intro (by first | omega | (intros; omega) | (intros; simp_all; done) | (intros; simp_all; omega)) ?_)
              exact k'
          simp only [set_some]
          -- 60 := fieldAddr 54 t59 1
          refine aAny_take q37 true 25 60 rfl rfl (by kernel_rfl) (by kernel_rfl) ?_
          apply Exists.intro; apply And.intro
          · intro t hn gx ho K' k'
            have g37 := gx 37 (by decide)
            have g59 := gx 59 (by decide)
            simp only [get_mk, look_cons, look_nil, set_some, Nat.reduceEqDiff, reduceIte] at g37 g59
            have hdl : 60 < t.n := by rw [hn]; show 60 < 73; decide
            clear hn
            first
            | refine .inr ⟨hdl, 2, true, rfl, ?_, k'⟩
              first | rfl | (simp only [zV, guardV, Nat.reduceEqDiff, reduceIte, g37, g59]; done)
            | skip
              refine .inl ?_
              simp only [zE, zL, zN, hdl, aStepM, optable, Nat.reduceEqDiff, reduceIte, implies_true, forall_const, reduceCtorEq, V.ofValue, V.ofScalar, V.un, V.gd, guardV, V.wrap, aExec, aop, g37, g59, aFieldAddr, Nat.reduceAdd, Nat.reduceLeDiff, Nat.reduceLT, Nat.reduceMul, Try.underlying3, Ty.c3, Ty.a3, Try.underlying9, Ty.c9, Ty.a9, Try.underlying54, Ty.c54, Ty.a54, getD_map hx, hi0, hk, getD_map hy, decide_true, Bool.and_true]
              repeat (refine And.intro (by first | omega | (intros; omega) | (intros; simp_all; done) | (intros; simp_all; omega)) ?_)
              exact k'
          simp only [set_some]
          -- 61 := load 9 t60
          refine aAny_take q37 true 26 61 rfl rfl (by kernel_rfl) (by kernel_rfl) ?_
          apply Exists.intro; apply And.intro
          · intro t hn gx ho K' k'
            have g37 := gx 37 (by decide)
            have g60 := gx 60 (by decide)
            simp only [get_mk, look_cons, look_nil, set_some, Nat.reduceEqDiff, reduceIte] at g37 g60
            first | have row0 := grow_row (i := 0) (ho rfl) rfl | have row0 : t.n + 0 = t.n := rfl
            first | have row1 := grow_row (i := 1) (ho rfl) rfl | have row1 : t.n + 0 = t.n := rfl
            first | have row2 := grow_row (i := 2) (ho rfl) rfl | have row2 : t.n + 0 = t.n := rfl
            have hdl : 61 < t.n := by rw [hn]; show 61 < 73; decide
            clear hn
            first
            | refine .inr ⟨hdl, 2, true, rfl, ?_, k'⟩
              first | rfl | (simp only [zV, guardV, Nat.reduceEqDiff, reduceIte, g37, g60, row0, row1, row2]; done)
            | skip
              refine .inl ?_
              simp only [zE, zL, zO, zN, hdl, aStepM, optable, Nat.reduceEqDiff, reduceIte, implies_true, forall_const, reduceCtorEq, V.ofValue, V.ofScalar, V.un, V.gd, guardV, V.wrap, aExec, aop, g37, g60, row0, row1, row2, aLoad, row_mk, Blk.row, PartOK, Go.Vm.part, V.cells, V.noSl, V.noRef, Nat.reduceAdd, Nat.reduceLeDiff, Nat.reduceLT, Nat.reduceMul, Try.underlying9, Ty.c9, Ty.a9, getD_map hx, hi0, hk, getD_map hy]
              repeat (refine And.intro (by first | omega | (intros; omega) | (intros; simp_all; done) | (intros; simp_all; omega)) ?_)
              exact k'
          simp only [set_some]
          -- 62 := fieldAddr 54 t4 1
          refine aAny_take q37 true 27 62 rfl rfl (by kernel_rfl) (by kernel_rfl) ?_
          apply Exists.intro; apply And.intro
          · intro t hn gx ho K' k'
            have g4 := gx 4 (by decide)
            have g37 := gx 37 (by decide)
            simp only [get_mk, look_cons, look_nil, set_some, Nat.reduceEqDiff, reduceIte] at g4 g37
            have hdl : 62 < t.n := by rw [hn]; show 62 < 73; decide
            clear hn
            first
            | refine .inr ⟨hdl, 2, true, rfl, ?_, k'⟩
              first | rfl | (simp only [zV, guardV, Nat.reduceEqDiff, reduceIte, g4, g37]; done)
            | skip
              refine .inl ?_
              simp only [zE, zL, zN, hdl, aStepM, optable, Nat.reduceEqDiff, reduceIte, implies_true, forall_const, reduceCtorEq, V.ofValue, V.ofScalar, V.un, V.gd, guardV, V.wrap, aExec, aop, g4, g37, aFieldAddr, Nat.reduceAdd, Nat.reduceLeDiff, Nat.reduceLT, Nat.reduceMul, Try.underlying3, Ty.c3, Ty.a3, Try.underlying9, Ty.c9, Ty.a9, Try.underlying54, Ty.c54, Ty.a54, getD_map hx, hi0, hk, getD_map hy, decide_true, Bool.and_true]
              repeat (refine And.intro (by first | omega | (intros; omega) | (intros; simp_all; done) | (intros; simp_all; omega)) ?_)
              exact k'
          simp only [set_some]
          -- 63 := load 9 t62
          refine aAny_take q37 true 28 63 rfl rfl (by kernel_rfl) (by kernel_rfl) ?_
          apply Exists.intro; apply And.intro
          · intro t hn gx ho K' k'
            have g37 := gx 37 (by decide)
            have g62 := gx 62 (by decide)
            simp only [get_mk, look_cons, look_nil, set_some, Nat.reduceEqDiff, reduceIte] at g37 g62
            first | have row0 := grow_row (i := 0) (ho rfl) rfl | have row0 : t.n + 0 = t.n := rfl
            first | have row1 := grow_row (i := 1) (ho rfl) rfl | have row1 : t.n + 0 = t.n := rfl
            first | have row2 := grow_row (i := 2) (ho rfl) rfl | have row2 : t.n + 0 = t.n := rfl
            have hdl : 63 < t.n := by rw [hn]; show 63 < 73; decide
            clear hn
            first
            | refine .inr ⟨hdl, 2, true, rfl, ?_, k'⟩
              first | rfl | (simp only [zV, guardV, Nat.reduceEqDiff, reduceIte, g37, g62, row0, row1, row2]; done)
            | skip
              refine .inl ?_
              simp only [zE, zL, zO, zN, hdl, aStepM, optable, Nat.reduceEqDiff, reduceIte, implies_true, forall_const, reduceCtorEq, V.ofValue, V.ofScalar, V.un, V.gd, guardV, V.wrap, aExec, aop, g37, g62, row0, row1, row2, aLoad, row_mk, Blk.row, PartOK, Go.Vm.part, V.cells, V.noSl, V.noRef, Nat.reduceAdd, Nat.reduceLeDiff, Nat.reduceLT, Nat.reduceMul, Try.underlying9, Ty.c9, Ty.a9, getD_map hx, hi0, hk, getD_map hy]
              repeat (refine And.intro (by first | omega | (intros; omega) | (intros; simp_all; done) | (intros; simp_all; omega)) ?_)
              exact k'
          simp only [set_some]
          first
          | refine aAny_pass 11 46 2 true rfl rfl (show 46 < 73 by decide) (by kernel_rfl) rfl ?_ ?_
            · first | rfl | (simp only [zV, guardV, Nat.reduceEqDiff, reduceIte]; done)
            simp only [zW, set_some, Nat.reduceEqDiff, reduceIte]
          | skip
            -- 46 := call v f62 t43 t45 | 3 3
            refine aAny_only 11 rfl (by kernel_rfl) ?_; intro K k
            simp only [zE, zG, aStepM, optable, set_some, Nat.reduceEqDiff, reduceIte, Nat.reduceLT, implies_true, forall_const, reduceCtorEq, V.ofValue, V.ofScalar, V.un, V.gd, guardV, Try.underlying3, Ty.c3, Ty.a3, Ty.b3, Ty.s3]
            simp only [zM, zW, aExec, lentIds, lendOf, set_some, Nat.reduceEqDiff, reduceIte, V.ofValue, V.ofScalar, V.un, V.gd, and_true, true_and, implies_true, and_self, decide_eq_true_eq]
            first | refine Exists.imp (fun r h => h) (aCall_guardT (cmpInt_con _ _) (by first | rfl | (simp only [toArgs, toArg, toCell, toCells, idx, row_mk, List.getElem?_cons_zero, List.getElem?_cons_succ, Option.bind_some, Option.map_some, Blk.row, fillK_mix, flat_mix, deep_mix, cond_true]; done) | (simp [toArgs, toArg, toCell, toCells, idx, row_mk, Blk.row, fillK_mix, Nat.beq_refl]; done)) rfl rfl ?_) | refine Exists.imp (fun r h => h) (aCall_guard (by first | (intros; trivial) | (intros; simp_all; done)) (fun hg => cmpInt_con _ _) (by first | rfl | (simp only [toArgs, toArg, toCell, toCells, idx, row_mk, List.getElem?_cons_zero, List.getElem?_cons_succ, Option.bind_some, Option.map_some, Blk.row, fillK_mix, flat_mix, deep_mix, cond_true]; done) | (simp [toArgs, toArg, toCell, toCells, idx, row_mk, Blk.row, fillK_mix, Nat.beq_refl]; done)) rfl rfl ?_)
            refine k _ ?_
            clear k K
          first
          | refine aAny_pass 20 55 2 true rfl rfl (show 55 < 73 by decide) (by kernel_rfl) rfl ?_ ?_
            · first | rfl | (simp only [zV, guardV, Nat.reduceEqDiff, reduceIte]; done)
            simp only [zW, set_some, Nat.reduceEqDiff, reduceIte]
          | skip
            -- 55 := call v f62 t52 t54 | 3 3
            refine aAny_only 20 rfl (by kernel_rfl) ?_; intro K k
            simp only [zE, zG, aStepM, optable, set_some, Nat.reduceEqDiff, reduceIte, Nat.reduceLT, implies_true, forall_const, reduceCtorEq, V.ofValue, V.ofScalar, V.un, V.gd, guardV, Try.underlying3, Ty.c3, Ty.a3, Ty.b3, Ty.s3]
            simp only [zM, zW, aExec, lentIds, lendOf, set_some, Nat.reduceEqDiff, reduceIte, V.ofValue, V.ofScalar, V.un, V.gd, and_true, true_and, implies_true, and_self, decide_eq_true_eq]
            first | refine Exists.imp (fun r h => h) (aCall_guardT (cmpInt_con _ _) (by first | rfl | (simp only [toArgs, toArg, toCell, toCells, idx, row_mk, List.getElem?_cons_zero, List.getElem?_cons_succ, Option.bind_some, Option.map_some, Blk.row, fillK_mix, flat_mix, deep_mix, cond_true]; done) | (simp [toArgs, toArg, toCell, toCells, idx, row_mk, Blk.row, fillK_mix, Nat.beq_refl]; done)) rfl rfl ?_) | refine Exists.imp (fun r h => h) (aCall_guard (by first | (intros; trivial) | (intros; simp_all; done)) (fun hg => cmpInt_con _ _) (by first | rfl | (simp only [toArgs, toArg, toCell, toCells, idx, row_mk, List.getElem?_cons_zero, List.getElem?_cons_succ, Option.bind_some, Option.map_some, Blk.row, fillK_mix, flat_mix, deep_mix, cond_true]; done) | (simp [toArgs, toArg, toCell, toCells, idx, row_mk, Blk.row, fillK_mix, Nat.beq_refl]; done)) rfl rfl ?_)
            refine k _ ?_
            clear k K
          first
          | refine aAny_pass 29 64 2 true rfl rfl (show 64 < 73 by decide) (by kernel_rfl) rfl ?_ ?_
            · first | rfl | (simp only [zV, guardV, Nat.reduceEqDiff, reduceIte]; done)
            simp only [zW, set_some, Nat.reduceEqDiff, reduceIte]
          | skip
            -- 64 := call v f63 t61 t63 | 9 9
            refine aAny_only 29 rfl (by kernel_rfl) ?_; intro K k
            simp only [zE, zG, aStepM, optable, set_some, Nat.reduceEqDiff, reduceIte, Nat.reduceLT, implies_true, forall_const, reduceCtorEq, V.ofValue, V.ofScalar, V.un, V.gd, guardV, Try.underlying3, Ty.c3, Ty.a3, Ty.b3, Ty.s3, Try.underlying9, Ty.c9, Ty.a9, Ty.b9, Ty.s9]
            simp only [zM, zW, aExec, lentIds, lendOf, set_some, Nat.reduceEqDiff, reduceIte, V.ofValue, V.ofScalar, V.un, V.gd, and_true, true_and, implies_true, and_self, decide_eq_true_eq]
            first | refine Exists.imp (fun r h => h) (aCall_guardT (cmpStr_con _ _) (by first | rfl | (simp only [toArgs, toArg, toCell, toCells, idx, row_mk, List.getElem?_cons_zero, List.getElem?_cons_succ, Option.bind_some, Option.map_some, Blk.row, fillK_mix, flat_mix, deep_mix, cond_true]; done) | (simp [toArgs, toArg, toCell, toCells, idx, row_mk, Blk.row, fillK_mix, Nat.beq_refl]; done)) rfl rfl ?_) | refine Exists.imp (fun r h => h) (aCall_guard (by first | (intros; trivial) | (intros; simp_all; done)) (fun hg => cmpStr_con _ _) (by first | rfl | (simp only [toArgs, toArg, toCell, toCells, idx, row_mk, List.getElem?_cons_zero, List.getElem?_cons_succ, Option.bind_some, Option.map_some, Blk.row, fillK_mix, flat_mix, deep_mix, cond_true]; done) | (simp [toArgs, toArg, toCell, toCells, idx, row_mk, Blk.row, fillK_mix, Nat.beq_refl]; done)) rfl rfl ?_)
            refine k _ ?_
            clear k K
          first
          | refine aAny_pass 30 65 2 true rfl rfl (show 65 < 73 by decide) (by kernel_rfl) rfl ?_ ?_
            · first | rfl | (simp only [zV, guardV, Nat.reduceEqDiff, reduceIte]; done)
            simp only [zW, set_some, Nat.reduceEqDiff, reduceIte]
          | skip
            -- 65 := buildSlice 41 3 0=t46 1=t55 2=t64
            refine aAny_only 30 rfl (by kernel_rfl) ?_; intro K k
            simp only [zE, zO, zV, zN, aStepM, optable, set_some, Nat.reduceEqDiff, reduceIte, Nat.reduceLT, implies_true, forall_const, reduceCtorEq, V.ofValue, V.ofScalar, V.un, V.gd, guardV, V.wrap, aExec, aop, litElems, rng0, rng1, rng2, rng3, rng4, List.map_cons, List.map_nil, List.all_cons, List.all_nil, V.isVal, V.cells, content, kindAll, V.noRef, V.noSl, List.mem_cons, List.not_mem_nil, or_false, forall_eq_or_imp, forall_eq, if_true, Option.isSome_some, List.length_cons, List.length_nil, Nat.reduceAdd, Nat.reduceLeDiff, Nat.reduceMul, Try.underlying3, Ty.c3, Ty.a3, Ty.z3, Try.underlying41, Ty.c41, Ty.a41, Ty.z41, getD_map hx, hi0, hk, getD_map hy]
            repeat (refine And.intro (by first | omega | (intros; omega) | (intros; simp_all; done) | (intros; simp_all; omega)) ?_)
            refine k _ ?_; clear k K
          first
          | refine aAny_pass 31 66 2 true rfl rfl (show 66 < 73 by decide) (by kernel_rfl) rfl ?_ ?_
            · first | rfl | (simp only [zV, guardV, Nat.reduceEqDiff, reduceIte]; done)
            simp only [zW, set_some, Nat.reduceEqDiff, reduceIte]
          | skip
            -- 66 := call v f61 t65 | 41
            refine aAny_only 31 rfl (by kernel_rfl) ?_; intro K k
            simp only [zE, zG, aStepM, optable, set_some, Nat.reduceEqDiff, reduceIte, Nat.reduceLT, implies_true, forall_const, reduceCtorEq, V.ofValue, V.ofScalar, V.un, V.gd, guardV, Try.underlying3, Ty.c3, Ty.a3, Ty.b3, Ty.s3, Try.underlying41, Ty.c41, Ty.a41, Ty.b41, Ty.s41]
            simp only [zM, zW, aExec, lentIds, lendOf, set_some, Nat.reduceEqDiff, reduceIte, V.ofValue, V.ofScalar, V.un, V.gd, and_true, true_and, implies_true, and_self, decide_eq_true_eq]
            first | refine Exists.imp (fun r h => h) (aCall_guardT (cmpOr_con [cmpI y2 x2, cmpI y0 x0, cmpS y1 x1] (by simp)) (by first | rfl | (simp only [toArgs, toArg, toCell, toCells, idx, row_mk, List.getElem?_cons_zero, List.getElem?_cons_succ, Option.bind_some, Option.map_some, Blk.row, fillK_mix, flat_mix, deep_mix, cond_true]; done) | (simp [toArgs, toArg, toCell, toCells, idx, row_mk, Blk.row, fillK_mix, Nat.beq_refl]; done)) rfl rfl ?_) | refine Exists.imp (fun r h => h) (aCall_guard (by first | (intros; trivial) | (intros; simp_all; done)) (fun hg => cmpOr_con [cmpI y2 x2, cmpI y0 x0, cmpS y1 x1] (by simp)) (by first | rfl | (simp only [toArgs, toArg, toCell, toCells, idx, row_mk, List.getElem?_cons_zero, List.getElem?_cons_succ, Option.bind_some, Option.map_some, Blk.row, fillK_mix, flat_mix, deep_mix, cond_true]; done) | (simp [toArgs, toArg, toCell, toCells, idx, row_mk, Blk.row, fillK_mix, Nat.beq_refl]; done)) rfl rfl ?_)
            refine k _ ?_
            clear k K
          -- 67 := binOp Go.BinOp.geq 3 t66 c<0:i64> 3
          refine aAny_take q37 true 32 67 rfl rfl (by kernel_rfl) (by kernel_rfl) ?_
          apply Exists.intro; apply And.intro
          · intro t hn gx ho K' k'
            have g37 := gx 37 (by decide)
            have g66 := gx 66 (by decide)
            simp only [get_mk, look_cons, look_nil, set_some, Nat.reduceEqDiff, reduceIte] at g37 g66
            have hdl : 67 < t.n := by rw [hn]; show 67 < 73; decide
            clear hn
            first
            | refine .inr ⟨hdl, 2, true, rfl, ?_, k'⟩
              first | rfl | (simp only [zV, guardV, Nat.reduceEqDiff, reduceIte, g37, g66]; done)
            | skip
              refine .inl ?_
              simp only [zE, zG, hdl, aStepM, optable, Nat.reduceEqDiff, reduceIte, implies_true, forall_const, reduceCtorEq, V.ofValue, V.ofScalar, V.un, V.gd, guardV, V.wrap, aExec, aop, g37, g66, aBin, Try.underlying3, getD_map hx, hi0, hk, getD_map hy, decide_true, Bool.and_true]
              repeat (refine And.intro (by first | omega | (intros; omega) | (intros; simp_all; done) | (intros; simp_all; omega)) ?_)
              exact k'
          simp only [set_some]
          -- 68 := pick t37 t67 c<false>
          refine aAny_take q37 true 33 68 rfl rfl (by kernel_rfl) (by kernel_rfl) ?_
          apply Exists.intro; apply And.intro
          · intro t hn gx ho K' k'
            have g37 := gx 37 (by decide)
            have g67 := gx 67 (by decide)
            simp only [get_mk, look_cons, look_nil, set_some, Nat.reduceEqDiff, reduceIte] at g37 g67
            have hdl : 68 < t.n := by rw [hn]; show 68 < 73; decide
            clear hn
            refine .inl ?_
            simp only [zE, zP, hdl, aStepM, optable, Nat.reduceEqDiff, reduceIte, implies_true, forall_const, reduceCtorEq, V.ofValue, V.ofScalar, V.un, V.gd, aExec, aop, g37, g67, pickV, getD_map hx, hi0, hk, getD_map hy, decide_true, Bool.and_true]
            repeat (refine And.intro (by first | omega | (intros; omega) | (intros; simp_all; done) | (intros; simp_all; omega)) ?_)
            exact k'
          simp only [set_some]
          refine aAny_done (by kernel_rfl) ?_
          refine k37 _ ?_
          refine n36 _ _ (weak_keep [0, 5, 6, 7, 68] _) ?_
          simp only [keep_mk, keepE_nil, keepE_cons, look_cons, look_nil, Nat.reduceEqDiff, reduceIte]
          refine v_cond _ rfl ?_ ?_  -- COND 2
          · intro hc2
            try simp only [zC, reduceCtorEq] at hc2
            have hbf := (cmp_before (y0, y1, y2, y3) (x0, x1, x2, x3)).1 hc2
            refine v_seq ?_; intro Q39 n39 e39 r39  -- SEQ 17
            refine v_region ?_; intro K40 k40
            -- 2 := assign c<false>
            refine v_op ?_; intro K k
            simp only [zE, zS, aStepM, optable, set_some, Nat.reduceEqDiff, reduceIte, Nat.reduceLT, implies_true, forall_const, reduceCtorEq, V.ofValue, V.ofScalar, V.un, V.gd, aExec, aop, Nat.reduceAdd, getD_map hx, hi0, hk, getD_map hy, decide_true, Bool.and_true]
            repeat (refine And.intro (by first | omega | (intros; omega) | (intros; simp_all; done) | (intros; simp_all; omega)) ?_)
            refine k _ ?_; clear k K
            refine k40 _ ?_
            refine n39 _ _ (weak_keep [2] _) ?_
            simp only [keep_mk, keepE_nil, keepE_cons, look_cons, look_nil, Nat.reduceEqDiff, reduceIte]
            refine v_ret ?_
            refine r27 _ ?_
            refine r26 _ ?_
            refine r7 _ ?_
            refine r6 _ ?_
            refine r3 _ ?_
            refine r0 _ ?_
            simp only [resK, pickRV, get_mk, look_cons, look_nil, Nat.reduceEqDiff, reduceIte, List.map_cons, List.map_nil]
            exact ret_pure rfl (by rw [turnsB, ← hR, hst]; clear hR hst; first | (simp [hone]; done) | (simp [hone, hbf]; done) | (simp [hc1]; done) | (rcases hc1 with h | h <;> simp [h])) (.inl rfl)
          · intro hc2
            try simp only [zC, reduceCtorEq] at hc2
            first | have hbt : tBefore (y0, y1, y2, y3) (x0, x1, x2, x3) = true := (by cases hq : tBefore (y0, y1, y2, y3) (x0, x1, x2, x3) with | true => rfl | false => (have hq2 := (cmp_before (y0, y1, y2, y3) (x0, x1, x2, x3)).2 hq; simp only [] at hq2; omega)) | skip
            refine v_skip ?_
            refine n27 _ ?_
            refine n26 _ _ (weak_keep [0, 5, 6, 7] _) ?_
            simp only [keep_mk, keepE_nil, keepE_cons, look_cons, look_nil, Nat.reduceEqDiff, reduceIte]
            refine v_region ?_; intro K41 k41
            -- 69 := binOp Go.BinOp.add 3 t7 c<1:i64> 3
            refine v_op ?_; intro K k
            simp only [zE, aStepM, optable, set_some, Nat.reduceEqDiff, reduceIte, Nat.reduceLT, implies_true, forall_const, reduceCtorEq, V.ofValue, V.ofScalar, V.un, V.gd, aExec, aop, aBin, Try.underlying3, getD_map hx, hi0, hk, getD_map hy, decide_true, Bool.and_true]
            try simp (disch := omega) only [wrap64]
            repeat (refine And.intro (by first | omega | (intros; omega) | (intros; simp_all; done) | (intros; simp_all; omega)) ?_)
            refine k _ ?_; clear k K
            -- 7 := move t69
            refine v_op ?_; intro K k
            simp only [zE, aStepM, optable, set_some, Nat.reduceEqDiff, reduceIte, Nat.reduceLT, implies_true, forall_const, reduceCtorEq, V.ofValue, V.ofScalar, V.un, V.gd, aExec, aop, getD_map hx, hi0, hk, getD_map hy, decide_true, Bool.and_true]
            repeat (refine And.intro (by first | omega | (intros; omega) | (intros; simp_all; done) | (intros; simp_all; omega)) ?_)
            refine k _ ?_; clear k K
            refine k41 _ ?_
            refine n7 _ (i + 1) ?_ ?_ ?_
            · refine weak_both [0, 5, 6, 7] [] (by decide) (by simp) ?_ ?_ ?_
              · simp [keep_mk, keepE_nil, keepE_cons, look_cons, V.only, V.onlyL, idx] <;> (first | rfl | decide)
              · simp [Blk.kindIs, fillK_mix]
              simp only [keep_mk, keepE_nil, keepE_cons, look_cons, look_nil, Nat.reduceEqDiff, reduceIte, St.comp, List.map_cons, List.map_nil, V.ren, V.renL, idx, List.getD_cons_zero, List.getD_cons_succ, Nat.reduceBEq, cond_true, cond_false, Option.map_some, Option.getD_some, Nat.reduceAdd, Nat.beq_eq_true_eq]
              rfl
            · exact ⟨by omega, by rw [← hR, hst]; clear hR hst; first | (simp [hone]; done) | (simp [hone, hbt]; done) | (simp [hc1]; done) | (simp_all; done)⟩
            · show _ < _; omega
    · intro hc0
      try simp only [zC, reduceCtorEq] at hc0
      refine v_exit ?_
      refine e10 _ _ ?_
      refine e7 _ _ ?_
      refine x6 _ ?_
      refine n3 _ _ (weak_keep [0] _) ?_
      simp only [keep_mk, keepE_nil, keepE_cons, look_cons, look_nil, Nat.reduceEqDiff, reduceIte]
      refine v_seq ?_; intro Q42 n42 e42 r42  -- SEQ 18
      refine v_region ?_; intro K43 k43
      -- 70 := move t0
      refine v_op ?_; intro K k
      simp only [zE, aStepM, optable, set_some, Nat.reduceEqDiff, reduceIte, Nat.reduceLT, implies_true, forall_const, reduceCtorEq, V.ofValue, V.ofScalar, V.un, V.gd, aExec, aop]
      repeat (refine And.intro (by first | omega | (intros; omega) | (intros; simp_all; done) | (intros; simp_all; omega)) ?_)
      refine k _ ?_; clear k K
      -- 71 := call b Go.Builtin.len t70 | 26
      refine v_op ?_; intro K k
      simp only [zE, zL, zN, aStepM, optable, set_some, Nat.reduceEqDiff, reduceIte, Nat.reduceLT, implies_true, forall_const, reduceCtorEq, V.ofValue, V.ofScalar, V.un, V.gd, aExec, aop, List.length_map, aLen, lenOK, row_mk, Blk.row, List.size_toArray, List.getD_eq_getElem?_getD, Array.getD_eq_getD_getElem?, Option.getD_some, Nat.reduceAdd, Nat.reduceLeDiff, Nat.reduceMul, Try.underlying3, Ty.c3, Ty.a3, Ty.b3, Ty.s3, Try.underlying26, Ty.c26, Ty.a26, Ty.b26, Ty.s26, Try.underlying54, Ty.c54, Ty.a54, Ty.b54, Ty.s54]
      repeat (refine And.intro (by first | omega | (intros; omega) | (intros; simp_all; done) | (intros; simp_all; omega)) ?_)
      refine k _ ?_; clear k K
      -- 72 := binOp Go.BinOp.leq 3 t71 c<15:i64> 3
      refine v_op ?_; intro K k
      simp only [zE, aStepM, optable, set_some, Nat.reduceEqDiff, reduceIte, Nat.reduceLT, implies_true, forall_const, reduceCtorEq, V.ofValue, V.ofScalar, V.un, V.gd, aExec, aop, aBin, Try.underlying3]
      repeat (refine And.intro (by first | omega | (intros; omega) | (intros; simp_all; done) | (intros; simp_all; omega)) ?_)
      refine k _ ?_; clear k K
      -- 2 := assign t72
      refine v_op ?_; intro K k
      simp only [zE, zS, aStepM, optable, set_some, Nat.reduceEqDiff, reduceIte, Nat.reduceLT, implies_true, forall_const, reduceCtorEq, V.ofValue, V.ofScalar, V.un, V.gd, aExec, aop, Nat.reduceAdd]
      repeat (refine And.intro (by first | omega | (intros; omega) | (intros; simp_all; done) | (intros; simp_all; omega)) ?_)
      refine k _ ?_; clear k K
      refine k43 _ ?_
      refine n42 _ _ (weak_keep [2] _) ?_
      simp only [keep_mk, keepE_nil, keepE_cons, look_cons, look_nil, Nat.reduceEqDiff, reduceIte]
      refine v_ret ?_
      refine r0 _ ?_
      simp only [resK, pickRV, get_mk, look_cons, look_nil, Nat.reduceEqDiff, reduceIte, List.map_cons, List.map_nil]
      exact ret_pure rfl (by rw [turnsB, ← hR, chain_end (by omega)]; simp) (.inl rfl)
end Go.Proofs.Ytldnelkcmffiaaa
