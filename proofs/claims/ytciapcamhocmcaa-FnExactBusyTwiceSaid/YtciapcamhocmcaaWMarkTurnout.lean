/- What functions compute (MarkTurnout). No condition. -/
import Derived.Test.YtciapcamhocmcaaTy
import Derived.Test.YtciapcamhocmcaaVm21
import Derived.Test.YtciapcamhocmcaaWMarkG
import Derived.Test.YtciapcamhocmcaaWMarkText
import Derived.Test.YtciapcamhocmcaaWBase
set_option linter.unusedSimpArgs false
set_option linter.unusedVariables false
namespace Go.Proofs.Ytciapcamhocmcaa
open Go Go.Vm

def markTurnout (kk : Int) (n : Nat) : List (Int × ByteArray × Int × Int) := markG (fun j : Nat => ((kk + 4 * (j : Int)), markT (kk + 4 * (j : Int) + 1), (kk + 4 * (j : Int) + 1 + 1), (kk + 4 * (j : Int) + 1 + 1 + 1))) n

-- loop.example/g01020/laws.markTurnoutS
set_option maxHeartbeats 1000000 in
theorem markTurnoutS_con (l : List (Int × ByteArray × Int × Int)) (kk : Int) (hl : l.length ≤ 1048576) (hk : 0 ≤ kk ∧ kk ≤ 1000000000000) : Con Try.prog 35 [.ref 0, .int .i64 kk] [.arr (l.map (fun t : Int × ByteArray × Int × Int => V.agg [V.int .i64 t.1, V.str t.2.1, V.int .i64 t.2.2.1, V.int .i64 t.2.2.2])) .flat] (.int .i64 (kk + 4 * l.length)) [.arr ((markTurnout kk l.length).map (fun t : Int × ByteArray × Int × Int => V.agg [V.int .i64 t.1, V.str t.2.1, V.int .i64 t.2.2.1, V.int .i64 t.2.2.2])) .flat] := by
  refine v_con [.tmp 4] [] Try.func35 rfl rfl rfl (by simp [Try.ntmps35]) ?_
  intro Q0 n0 r0
  simp only [Try.ntmps35, envFrom, Nat.reduceAdd]
  refine v_seq ?_; intro Q1 n1 e1 r1  -- SEQ 0
  refine v_region ?_; intro K2 k2
  -- 4 := assign c<0:i64>
  refine v_op ?_; intro K k
  simp only [zE, zS, aStepM, optable, set_some, Nat.reduceEqDiff, reduceIte, Nat.reduceLT, implies_true, forall_const, reduceCtorEq, V.ofValue, V.ofScalar, V.un, V.gd, aExec, aop, Nat.reduceAdd]
  repeat (refine And.intro (by first | omega | (intros; omega) | (intros; simp_all; done) | (intros; simp_all; omega)) ?_)
  refine k _ ?_; clear k K
  refine k2 _ ?_
  refine n1 _ _ (weak_keep [0, 1] _) ?_
  simp only [keep_mk, keepE_nil, keepE_cons, look_cons, look_nil, Nat.reduceEqDiff, reduceIte]
  refine v_seq ?_; intro Q3 n3 e3 r3  -- SEQ 1
  refine v_seq ?_; intro Q4 n4 e4 r4  -- SEQ 2
  refine v_region ?_; intro K5 k5
  -- 5 := assign c<0:i64>
  refine v_op ?_; intro K k
  simp only [zE, zS, aStepM, optable, set_some, Nat.reduceEqDiff, reduceIte, Nat.reduceLT, implies_true, forall_const, reduceCtorEq, V.ofValue, V.ofScalar, V.un, V.gd, aExec, aop, Nat.reduceAdd]
  repeat (refine And.intro (by first | omega | (intros; omega) | (intros; simp_all; done) | (intros; simp_all; omega)) ?_)
  refine k _ ?_; clear k K
  refine k5 _ ?_
  refine n4 _ _ (weak_keep [0, 1, 5] _) ?_
  simp only [keep_mk, keepE_nil, keepE_cons, look_cons, look_nil, Nat.reduceEqDiff, reduceIte]
  refine v_block ?_; intro Q6 n6 x6 e6 r6
  refine v_loop (fun i => ⟨[(0, .ref 0), (1, .int .i64 (kk + 4 * (Nat.cast i))), (5, .int .i64 (Nat.cast i))], [.arr ((markG (fun j : Nat => ((kk + 4 * (j : Int)), markT (kk + 4 * (j : Int) + 1), (kk + 4 * (j : Int) + 1 + 1), (kk + 4 * (j : Int) + 1 + 1 + 1))) i ++ l.drop i).map (fun t : Int × ByteArray × Int × Int => V.agg [V.int .i64 t.1, V.str t.2.1, V.int .i64 t.2.2.1, V.int .i64 t.2.2.2])) .flat], false, 42, 0⟩) (fun i => i ≤ l.length) (fun i => l.length - i) 0 ?_ ?_ ?_
  · refine weak_both [0, 1, 5] [0] (by decide) (by simp) ?_ ?_ ?_
    · simp [keep_mk, keepE_nil, keepE_cons, look_cons, V.only, V.onlyL, idx] <;> (first | rfl | decide)
    · simp [Blk.kindIs, fillK_mix]
    simp only [keep_mk, keepE_nil, keepE_cons, look_cons, look_nil, Nat.reduceEqDiff, reduceIte, St.comp, List.map_cons, List.map_nil, V.ren, V.renL, idx, List.getD_cons_zero, List.getD_cons_succ, Nat.reduceBEq, cond_true, cond_false, Option.map_some, Option.getD_some, Nat.reduceAdd, Nat.beq_eq_true_eq]
    simp [markG]
  · exact Nat.zero_le _
  · rintro i hok7 Q7 n7 e7 r7
    have hi1 : i ≤ l.length := hok7
    refine v_seq ?_; intro Q8 n8 e8 r8  -- SEQ 3
    refine v_seq ?_; intro Q9 n9 e9 r9  -- SEQ 4
    refine v_region ?_; intro K10 k10
    -- 6 := move t5
    refine v_op ?_; intro K k
    simp only [zE, aStepM, optable, set_some, Nat.reduceEqDiff, reduceIte, Nat.reduceLT, implies_true, forall_const, reduceCtorEq, V.ofValue, V.ofScalar, V.un, V.gd, aExec, aop]
    repeat (refine And.intro (by first | omega | (intros; omega) | (intros; simp_all; done) | (intros; simp_all; omega)) ?_)
    refine k _ ?_; clear k K
    -- 7 := move t0
    refine v_op ?_; intro K k
    simp only [zE, aStepM, optable, set_some, Nat.reduceEqDiff, reduceIte, Nat.reduceLT, implies_true, forall_const, reduceCtorEq, V.ofValue, V.ofScalar, V.un, V.gd, aExec, aop]
    repeat (refine And.intro (by first | omega | (intros; omega) | (intros; simp_all; done) | (intros; simp_all; omega)) ?_)
    refine k _ ?_; clear k K
    -- 8 := call b Go.Builtin.len t7 | 26
    refine v_op ?_; intro K k
    simp only [zE, zL, zN, aStepM, optable, set_some, Nat.reduceEqDiff, reduceIte, Nat.reduceLT, implies_true, forall_const, reduceCtorEq, V.ofValue, V.ofScalar, V.un, V.gd, aExec, aop, List.length_map, aLen, lenOK, row_mk, Blk.row, List.size_toArray, List.getD_eq_getElem?_getD, Array.getD_eq_getD_getElem?, Option.getD_some, Nat.reduceAdd, Nat.reduceLeDiff, Nat.reduceMul, Try.underlying3, Ty.c3, Ty.a3, Ty.b3, Ty.s3, Try.underlying26, Ty.c26, Ty.a26, Ty.b26, Ty.s26, Try.underlying95, Ty.c95, Ty.a95, Ty.b95, Ty.s95]
    repeat (refine And.intro (by first | omega | (intros; omega) | (intros; simp_all; done) | (intros; simp_all; omega)) ?_)
    refine k _ ?_; clear k K
    -- 9 := binOp Go.BinOp.lss 3 t6 t8 3
    refine v_op ?_; intro K k
    simp only [zE, aStepM, optable, set_some, Nat.reduceEqDiff, reduceIte, Nat.reduceLT, implies_true, forall_const, reduceCtorEq, V.ofValue, V.ofScalar, V.un, V.gd, aExec, aop, aBin, Try.underlying3]
    repeat (refine And.intro (by first | omega | (intros; omega) | (intros; simp_all; done) | (intros; simp_all; omega)) ?_)
    refine k _ ?_; clear k K
    refine k10 _ ?_
    refine n9 _ _ (weak_keep [0, 1, 5, 9] _) ?_
    simp only [keep_mk, keepE_nil, keepE_cons, look_cons, look_nil, Nat.reduceEqDiff, reduceIte]
    refine v_cond _ rfl ?_ ?_  -- COND 0
    · intro hc0
      try simp only [zC, reduceCtorEq] at hc0
      have hml := markG_all (g := (fun j : Nat => ((kk + 4 * (j : Int)), markT (kk + 4 * (j : Int) + 1), (kk + 4 * (j : Int) + 1 + 1), (kk + 4 * (j : Int) + 1 + 1 + 1)))) hi1
      rw [hml] at hc0
      have hlt : i < l.length := by omega
      obtain ⟨⟨x0, x1, x2, x3⟩, hx⟩ : ∃ x : Int × ByteArray × Int × Int, l[i]? = some x := ⟨l[i]'(by omega), List.getElem?_eq_getElem (by omega)⟩
      have hmg := markG_get (g := (fun j : Nat => ((kk + 4 * (j : Int)), markT (kk + 4 * (j : Int) + 1), (kk + 4 * (j : Int) + 1 + 1), (kk + 4 * (j : Int) + 1 + 1 + 1)))) hx
      have hms : ((markG (fun j : Nat => ((kk + 4 * (j : Int)), markT (kk + 4 * (j : Int) + 1), (kk + 4 * (j : Int) + 1 + 1), (kk + 4 * (j : Int) + 1 + 1 + 1))) i ++ l.drop i).map (fun t : Int × ByteArray × Int × Int => V.agg [V.int .i64 t.1, V.str t.2.1, V.int .i64 t.2.2.1, V.int .i64 t.2.2.2])).set i (.agg [V.int .i64 (kk + 4 * (i : Int)), V.str (markT (kk + 4 * (i : Int) + 1)), V.int .i64 (kk + 4 * (i : Int) + 1 + 1), V.int .i64 (kk + 4 * (i : Int) + 1 + 1 + 1)]) = (markG (fun j : Nat => ((kk + 4 * (j : Int)), markT (kk + 4 * (j : Int) + 1), (kk + 4 * (j : Int) + 1 + 1), (kk + 4 * (j : Int) + 1 + 1 + 1))) (i + 1) ++ l.drop (i + 1)).map (fun t : Int × ByteArray × Int × Int => V.agg [V.int .i64 t.1, V.str t.2.1, V.int .i64 t.2.2.1, V.int .i64 t.2.2.2]) := by
        have h := set_map (f := (fun t : Int × ByteArray × Int × Int => V.agg [V.int .i64 t.1, V.str t.2.1, V.int .i64 t.2.2.1, V.int .i64 t.2.2.2])) (l := (markG (fun j : Nat => ((kk + 4 * (j : Int)), markT (kk + 4 * (j : Int) + 1), (kk + 4 * (j : Int) + 1 + 1), (kk + 4 * (j : Int) + 1 + 1 + 1))) i ++ l.drop i)) (i := i) (x := (fun j : Nat => ((kk + 4 * (j : Int)), markT (kk + 4 * (j : Int) + 1), (kk + 4 * (j : Int) + 1 + 1), (kk + 4 * (j : Int) + 1 + 1 + 1))) i)
        rw [markG_step hx] at h
        exact h
      refine v_skip ?_
      refine n8 _ _ (weak_keep [0, 1, 5] _) ?_
      simp only [keep_mk, keepE_nil, keepE_cons, look_cons, look_nil, Nat.reduceEqDiff, reduceIte]
      refine v_seq ?_; intro Q12 n12 e12 r12  -- SEQ 5
      refine v_block ?_; intro Q13 n13 x13 e13 r13
      refine v_seq ?_; intro Q14 n14 e14 r14  -- SEQ 6
      refine v_region ?_; intro K15 k15
      -- 12 := move t0
      refine v_op ?_; intro K k
      simp only [zE, aStepM, optable, set_some, Nat.reduceEqDiff, reduceIte, Nat.reduceLT, implies_true, forall_const, reduceCtorEq, V.ofValue, V.ofScalar, V.un, V.gd, aExec, aop, getD_map hmg, hml, getD_set, hlt, List.length_set, List.set_set, hms]
      repeat (refine And.intro (by first | omega | (intros; omega) | (intros; simp_all; done) | (intros; simp_all; omega)) ?_)
      refine k _ ?_; clear k K
      -- 13 := move t5
      refine v_op ?_; intro K k
      simp only [zE, aStepM, optable, set_some, Nat.reduceEqDiff, reduceIte, Nat.reduceLT, implies_true, forall_const, reduceCtorEq, V.ofValue, V.ofScalar, V.un, V.gd, aExec, aop, getD_map hmg, hml, getD_set, hlt, List.length_set, List.set_set, hms]
      repeat (refine And.intro (by first | omega | (intros; omega) | (intros; simp_all; done) | (intros; simp_all; omega)) ?_)
      refine k _ ?_; clear k K
      -- 14 := move t1
      refine v_op ?_; intro K k
      simp only [zE, aStepM, optable, set_some, Nat.reduceEqDiff, reduceIte, Nat.reduceLT, implies_true, forall_const, reduceCtorEq, V.ofValue, V.ofScalar, V.un, V.gd, aExec, aop, getD_map hmg, hml, getD_set, hlt, List.length_set, List.set_set, hms]
      repeat (refine And.intro (by first | omega | (intros; omega) | (intros; simp_all; done) | (intros; simp_all; omega)) ?_)
      refine k _ ?_; clear k K
      -- 15 := indexAddr 26 t12 t13
      refine v_op ?_; intro K k
      simp only [zE, zL, zN, aStepM, optable, set_some, Nat.reduceEqDiff, reduceIte, Nat.reduceLT, implies_true, forall_const, reduceCtorEq, V.ofValue, V.ofScalar, V.un, V.gd, aExec, aop, aIndexAddr, row_mk, Blk.row, Go.Vm.V.cells, List.forall_mem_map, List.length_map, Int.toNat_natCast, Int.reduceToNat, TypeDesc.slice.injEq, Nat.reduceAdd, Nat.reduceLeDiff, Nat.reduceMul, Try.underlying26, Ty.c26, Ty.a26, Try.underlying95, Ty.c95, Ty.a95, getD_map hmg, hml, getD_set, hlt, List.length_set, List.set_set, hms]
      repeat (refine And.intro (by first | omega | (exact set_all (fun x hx => by obtain ⟨t, _, rfl⟩ := List.mem_map.1 hx; rfl) rfl) | (intros; omega) | (intros; simp_all; done)) ?_)
      refine k _ ?_; clear k K
      -- 16 := fieldAddr 95 t15 0
      refine v_op ?_; intro K k
      simp only [zE, zL, zN, aStepM, optable, set_some, Nat.reduceEqDiff, reduceIte, Nat.reduceLT, implies_true, forall_const, reduceCtorEq, V.ofValue, V.ofScalar, V.un, V.gd, aExec, aop, aFieldAddr, Nat.reduceAdd, Nat.reduceLeDiff, Nat.reduceMul, Try.underlying3, Ty.c3, Ty.a3, Try.underlying9, Ty.c9, Ty.a9, Try.underlying95, Ty.c95, Ty.a95, getD_map hmg, hml, getD_set, hlt, List.length_set, List.set_set, hms]
      repeat (refine And.intro (by first | omega | (exact set_all (fun x hx => by obtain ⟨t, _, rfl⟩ := List.mem_map.1 hx; rfl) rfl) | (intros; omega) | (intros; simp_all; done)) ?_)
      refine k _ ?_; clear k K
      -- None := store 3 t16 t14
      refine v_op ?_; intro K k
      simp only [zE, zS, zJ, zL, zO, zN, aStepM, optable, set_some, Nat.reduceEqDiff, reduceIte, Nat.reduceLT, implies_true, forall_const, reduceCtorEq, V.ofValue, V.ofScalar, V.un, V.gd, aExec, aop, aStore, setCells, V.isVal, V.cells, kindOf, kindAll, V.noSl, V.noRef, gt_iff_lt, Nat.reduceAdd, Nat.reduceLeDiff, Nat.reduceMul, takeV, takeCell, takeCells, row_mk, Blk.row, killAll, Nat.reduceBEq, Try.underlying3, Ty.c3, Ty.a3, getD_map hmg, hml, getD_set, hlt, List.length_set, List.set_set, hms]
      repeat (refine And.intro (by first | omega | (exact set_all (fun x hx => by obtain ⟨t, _, rfl⟩ := List.mem_map.1 hx; rfl) rfl) | (intros; omega) | (intros; simp_all; done)) ?_)
      refine k _ ?_; clear k K
      refine k15 _ ?_
      refine n14 _ _ (weak_keep [0, 1, 5] _) ?_
      simp only [keep_mk, keepE_nil, keepE_cons, look_cons, look_nil, Nat.reduceEqDiff, reduceIte]
      refine v_seq ?_; intro Q16 n16 e16 r16  -- SEQ 7
      refine v_region ?_; intro K17 k17
      -- 17 := move t1
      refine v_op ?_; intro K k
      simp only [zE, aStepM, optable, set_some, Nat.reduceEqDiff, reduceIte, Nat.reduceLT, implies_true, forall_const, reduceCtorEq, V.ofValue, V.ofScalar, V.un, V.gd, aExec, aop, getD_map hmg, hml, getD_set, hlt, List.length_set, List.set_set, hms]
      repeat (refine And.intro (by first | omega | (intros; omega) | (intros; simp_all; done) | (intros; simp_all; omega)) ?_)
      refine k _ ?_; clear k K
      -- 18 := binOp Go.BinOp.add 3 t17 c<1:i64> 3
      refine v_op ?_; intro K k
      simp only [zE, aStepM, optable, set_some, Nat.reduceEqDiff, reduceIte, Nat.reduceLT, implies_true, forall_const, reduceCtorEq, V.ofValue, V.ofScalar, V.un, V.gd, aExec, aop, aBin, Try.underlying3, getD_map hmg, hml, getD_set, hlt, List.length_set, List.set_set, hms]
      try simp (disch := omega) only [wrap64]
      repeat (refine And.intro (by first | omega | (intros; omega) | (intros; simp_all; done) | (intros; simp_all; omega)) ?_)
      refine k _ ?_; clear k K
      -- 1 := assign t18
      refine v_op ?_; intro K k
      simp only [zE, zS, aStepM, optable, set_some, Nat.reduceEqDiff, reduceIte, Nat.reduceLT, implies_true, forall_const, reduceCtorEq, V.ofValue, V.ofScalar, V.un, V.gd, aExec, aop, Nat.reduceAdd, getD_map hmg, hml, getD_set, hlt, List.length_set, List.set_set, hms]
      repeat (refine And.intro (by first | omega | (intros; omega) | (intros; simp_all; done) | (intros; simp_all; omega)) ?_)
      refine k _ ?_; clear k K
      refine k17 _ ?_
      refine n16 _ _ (weak_keep [0, 1, 5] _) ?_
      simp only [keep_mk, keepE_nil, keepE_cons, look_cons, look_nil, Nat.reduceEqDiff, reduceIte]
      refine v_seq ?_; intro Q18 n18 e18 r18  -- SEQ 8
      refine v_region ?_; intro K19 k19
      -- 19 := move t0
      refine v_op ?_; intro K k
      simp only [zE, aStepM, optable, set_some, Nat.reduceEqDiff, reduceIte, Nat.reduceLT, implies_true, forall_const, reduceCtorEq, V.ofValue, V.ofScalar, V.un, V.gd, aExec, aop, getD_map hmg, hml, getD_set, hlt, List.length_set, List.set_set, hms]
      repeat (refine And.intro (by first | omega | (intros; omega) | (intros; simp_all; done) | (intros; simp_all; omega)) ?_)
      refine k _ ?_; clear k K
      -- 20 := move t5
      refine v_op ?_; intro K k
      simp only [zE, aStepM, optable, set_some, Nat.reduceEqDiff, reduceIte, Nat.reduceLT, implies_true, forall_const, reduceCtorEq, V.ofValue, V.ofScalar, V.un, V.gd, aExec, aop, getD_map hmg, hml, getD_set, hlt, List.length_set, List.set_set, hms]
      repeat (refine And.intro (by first | omega | (intros; omega) | (intros; simp_all; done) | (intros; simp_all; omega)) ?_)
      refine k _ ?_; clear k K
      -- 21 := move t1
      refine v_op ?_; intro K k
      simp only [zE, aStepM, optable, set_some, Nat.reduceEqDiff, reduceIte, Nat.reduceLT, implies_true, forall_const, reduceCtorEq, V.ofValue, V.ofScalar, V.un, V.gd, aExec, aop, getD_map hmg, hml, getD_set, hlt, List.length_set, List.set_set, hms]
      repeat (refine And.intro (by first | omega | (intros; omega) | (intros; simp_all; done) | (intros; simp_all; omega)) ?_)
      refine k _ ?_; clear k K
      -- 22 := call v f89 t21 | 3
      refine v_op ?_; intro K k
      simp only [zE, zM, aStepM, optable, set_some, Nat.reduceEqDiff, reduceIte, Nat.reduceLT, implies_true, forall_const, reduceCtorEq, V.ofValue, V.ofScalar, V.un, V.gd, aExec, lentIds, lendOf, Try.underlying3, Ty.c3, Ty.a3, Ty.b3, Ty.s3, Try.underlying9, Ty.c9, Ty.a9, Ty.b9, Ty.s9]
      repeat (refine And.intro (by first | rfl | (intros; simp_all; done)) ?_)
      refine aCall_new (markText_con (kk + 4 * (i : Int) + 1) (by omega)) (by first | rfl | (simp only [toArgs, toArg, toCell, toCells, idx, row_mk, List.getElem?_cons_zero, List.getElem?_cons_succ, Option.bind_some, Option.map_some, Blk.row, fillK_mix, cond_true]; done) | (simp [toArgs, toArg, toCell, toCells, idx, row_mk, Blk.row, fillK_mix, Nat.beq_refl]; done)) (by first | exact .inl ⟨rfl, by simp [Blk.kindIs, fillK_fd]⟩ | exact .inr (by simp [V.cold])) ?_
      refine k _ ?_; clear k K
      simp only [zY, zW, set_some, Nat.reduceEqDiff, reduceIte, V.ren, V.renL, rho, Nat.reduceAdd]
      -- 23 := indexAddr 26 t19 t20
      refine v_op ?_; intro K k
      simp only [zE, zL, zN, aStepM, optable, set_some, Nat.reduceEqDiff, reduceIte, Nat.reduceLT, implies_true, forall_const, reduceCtorEq, V.ofValue, V.ofScalar, V.un, V.gd, aExec, aop, aIndexAddr, row_mk, Blk.row, Go.Vm.V.cells, List.forall_mem_map, List.length_map, Int.toNat_natCast, Int.reduceToNat, TypeDesc.slice.injEq, Nat.reduceAdd, Nat.reduceLeDiff, Nat.reduceMul, Try.underlying26, Ty.c26, Ty.a26, Try.underlying95, Ty.c95, Ty.a95, getD_map hmg, hml, getD_set, hlt, List.length_set, List.set_set, hms]
      repeat (refine And.intro (by first | omega | (exact set_all (fun x hx => by obtain ⟨t, _, rfl⟩ := List.mem_map.1 hx; rfl) rfl) | (intros; omega) | (intros; simp_all; done)) ?_)
      refine k _ ?_; clear k K
      -- 24 := fieldAddr 95 t23 1
      refine v_op ?_; intro K k
      simp only [zE, zL, zN, aStepM, optable, set_some, Nat.reduceEqDiff, reduceIte, Nat.reduceLT, implies_true, forall_const, reduceCtorEq, V.ofValue, V.ofScalar, V.un, V.gd, aExec, aop, aFieldAddr, Nat.reduceAdd, Nat.reduceLeDiff, Nat.reduceMul, Try.underlying3, Ty.c3, Ty.a3, Try.underlying9, Ty.c9, Ty.a9, Try.underlying95, Ty.c95, Ty.a95, getD_map hmg, hml, getD_set, hlt, List.length_set, List.set_set, hms]
      repeat (refine And.intro (by first | omega | (exact set_all (fun x hx => by obtain ⟨t, _, rfl⟩ := List.mem_map.1 hx; rfl) rfl) | (intros; omega) | (intros; simp_all; done)) ?_)
      refine k _ ?_; clear k K
      -- None := store 9 t24 t22
      refine v_op ?_; intro K k
      simp only [zE, zS, zJ, zL, zO, zN, aStepM, optable, set_some, Nat.reduceEqDiff, reduceIte, Nat.reduceLT, implies_true, forall_const, reduceCtorEq, V.ofValue, V.ofScalar, V.un, V.gd, aExec, aop, aStore, setCells, V.isVal, V.cells, kindOf, kindAll, V.noSl, V.noRef, gt_iff_lt, Nat.reduceAdd, Nat.reduceLeDiff, Nat.reduceMul, takeV, takeCell, takeCells, row_mk, Blk.row, killAll, Nat.reduceBEq, Try.underlying9, Ty.c9, Ty.a9, getD_map hmg, hml, getD_set, hlt, List.length_set, List.set_set, hms]
      repeat (refine And.intro (by first | omega | (exact set_all (fun x hx => by obtain ⟨t, _, rfl⟩ := List.mem_map.1 hx; rfl) rfl) | (intros; omega) | (intros; simp_all; done)) ?_)
      refine k _ ?_; clear k K
      refine k19 _ ?_
      refine n18 _ _ (weak_keep [0, 1, 5] _) ?_
      simp only [keep_mk, keepE_nil, keepE_cons, look_cons, look_nil, Nat.reduceEqDiff, reduceIte]
      refine v_seq ?_; intro Q20 n20 e20 r20  -- SEQ 9
      refine v_region ?_; intro K21 k21
      -- 25 := move t1
      refine v_op ?_; intro K k
      simp only [zE, aStepM, optable, set_some, Nat.reduceEqDiff, reduceIte, Nat.reduceLT, implies_true, forall_const, reduceCtorEq, V.ofValue, V.ofScalar, V.un, V.gd, aExec, aop, getD_map hmg, hml, getD_set, hlt, List.length_set, List.set_set, hms]
      repeat (refine And.intro (by first | omega | (intros; omega) | (intros; simp_all; done) | (intros; simp_all; omega)) ?_)
      refine k _ ?_; clear k K
      -- 26 := binOp Go.BinOp.add 3 t25 c<1:i64> 3
      refine v_op ?_; intro K k
      simp only [zE, aStepM, optable, set_some, Nat.reduceEqDiff, reduceIte, Nat.reduceLT, implies_true, forall_const, reduceCtorEq, V.ofValue, V.ofScalar, V.un, V.gd, aExec, aop, aBin, Try.underlying3, getD_map hmg, hml, getD_set, hlt, List.length_set, List.set_set, hms]
      try simp (disch := omega) only [wrap64]
      repeat (refine And.intro (by first | omega | (intros; omega) | (intros; simp_all; done) | (intros; simp_all; omega)) ?_)
      refine k _ ?_; clear k K
      -- 1 := assign t26
      refine v_op ?_; intro K k
      simp only [zE, zS, aStepM, optable, set_some, Nat.reduceEqDiff, reduceIte, Nat.reduceLT, implies_true, forall_const, reduceCtorEq, V.ofValue, V.ofScalar, V.un, V.gd, aExec, aop, Nat.reduceAdd, getD_map hmg, hml, getD_set, hlt, List.length_set, List.set_set, hms]
      repeat (refine And.intro (by first | omega | (intros; omega) | (intros; simp_all; done) | (intros; simp_all; omega)) ?_)
      refine k _ ?_; clear k K
      refine k21 _ ?_
      refine n20 _ _ (weak_keep [0, 1, 5] _) ?_
      simp only [keep_mk, keepE_nil, keepE_cons, look_cons, look_nil, Nat.reduceEqDiff, reduceIte]
      refine v_seq ?_; intro Q22 n22 e22 r22  -- SEQ 10
      refine v_region ?_; intro K23 k23
      -- 27 := move t0
      refine v_op ?_; intro K k
      simp only [zE, aStepM, optable, set_some, Nat.reduceEqDiff, reduceIte, Nat.reduceLT, implies_true, forall_const, reduceCtorEq, V.ofValue, V.ofScalar, V.un, V.gd, aExec, aop, getD_map hmg, hml, getD_set, hlt, List.length_set, List.set_set, hms]
      repeat (refine And.intro (by first | omega | (intros; omega) | (intros; simp_all; done) | (intros; simp_all; omega)) ?_)
      refine k _ ?_; clear k K
      -- 28 := move t5
      refine v_op ?_; intro K k
      simp only [zE, aStepM, optable, set_some, Nat.reduceEqDiff, reduceIte, Nat.reduceLT, implies_true, forall_const, reduceCtorEq, V.ofValue, V.ofScalar, V.un, V.gd, aExec, aop, getD_map hmg, hml, getD_set, hlt, List.length_set, List.set_set, hms]
      repeat (refine And.intro (by first | omega | (intros; omega) | (intros; simp_all; done) | (intros; simp_all; omega)) ?_)
      refine k _ ?_; clear k K
      -- 29 := move t1
      refine v_op ?_; intro K k
      simp only [zE, aStepM, optable, set_some, Nat.reduceEqDiff, reduceIte, Nat.reduceLT, implies_true, forall_const, reduceCtorEq, V.ofValue, V.ofScalar, V.un, V.gd, aExec, aop, getD_map hmg, hml, getD_set, hlt, List.length_set, List.set_set, hms]
      repeat (refine And.intro (by first | omega | (intros; omega) | (intros; simp_all; done) | (intros; simp_all; omega)) ?_)
      refine k _ ?_; clear k K
      -- 30 := indexAddr 26 t27 t28
      refine v_op ?_; intro K k
      simp only [zE, zL, zN, aStepM, optable, set_some, Nat.reduceEqDiff, reduceIte, Nat.reduceLT, implies_true, forall_const, reduceCtorEq, V.ofValue, V.ofScalar, V.un, V.gd, aExec, aop, aIndexAddr, row_mk, Blk.row, Go.Vm.V.cells, List.forall_mem_map, List.length_map, Int.toNat_natCast, Int.reduceToNat, TypeDesc.slice.injEq, Nat.reduceAdd, Nat.reduceLeDiff, Nat.reduceMul, Try.underlying26, Ty.c26, Ty.a26, Try.underlying95, Ty.c95, Ty.a95, getD_map hmg, hml, getD_set, hlt, List.length_set, List.set_set, hms]
      repeat (refine And.intro (by first | omega | (exact set_all (fun x hx => by obtain ⟨t, _, rfl⟩ := List.mem_map.1 hx; rfl) rfl) | (intros; omega) | (intros; simp_all; done)) ?_)
      refine k _ ?_; clear k K
      -- 31 := fieldAddr 95 t30 2
      refine v_op ?_; intro K k
      simp only [zE, zL, zN, aStepM, optable, set_some, Nat.reduceEqDiff, reduceIte, Nat.reduceLT, implies_true, forall_const, reduceCtorEq, V.ofValue, V.ofScalar, V.un, V.gd, aExec, aop, aFieldAddr, Nat.reduceAdd, Nat.reduceLeDiff, Nat.reduceMul, Try.underlying3, Ty.c3, Ty.a3, Try.underlying9, Ty.c9, Ty.a9, Try.underlying95, Ty.c95, Ty.a95, getD_map hmg, hml, getD_set, hlt, List.length_set, List.set_set, hms]
      repeat (refine And.intro (by first | omega | (exact set_all (fun x hx => by obtain ⟨t, _, rfl⟩ := List.mem_map.1 hx; rfl) rfl) | (intros; omega) | (intros; simp_all; done)) ?_)
      refine k _ ?_; clear k K
      -- None := store 3 t31 t29
      refine v_op ?_; intro K k
      simp only [zE, zS, zJ, zL, zO, zN, aStepM, optable, set_some, Nat.reduceEqDiff, reduceIte, Nat.reduceLT, implies_true, forall_const, reduceCtorEq, V.ofValue, V.ofScalar, V.un, V.gd, aExec, aop, aStore, setCells, V.isVal, V.cells, kindOf, kindAll, V.noSl, V.noRef, gt_iff_lt, Nat.reduceAdd, Nat.reduceLeDiff, Nat.reduceMul, takeV, takeCell, takeCells, row_mk, Blk.row, killAll, Nat.reduceBEq, Try.underlying3, Ty.c3, Ty.a3, getD_map hmg, hml, getD_set, hlt, List.length_set, List.set_set, hms]
      repeat (refine And.intro (by first | omega | (exact set_all (fun x hx => by obtain ⟨t, _, rfl⟩ := List.mem_map.1 hx; rfl) rfl) | (intros; omega) | (intros; simp_all; done)) ?_)
      refine k _ ?_; clear k K
      refine k23 _ ?_
      refine n22 _ _ (weak_keep [0, 1, 5] _) ?_
      simp only [keep_mk, keepE_nil, keepE_cons, look_cons, look_nil, Nat.reduceEqDiff, reduceIte]
      refine v_seq ?_; intro Q24 n24 e24 r24  -- SEQ 11
      refine v_region ?_; intro K25 k25
      -- 32 := move t1
      refine v_op ?_; intro K k
      simp only [zE, aStepM, optable, set_some, Nat.reduceEqDiff, reduceIte, Nat.reduceLT, implies_true, forall_const, reduceCtorEq, V.ofValue, V.ofScalar, V.un, V.gd, aExec, aop, getD_map hmg, hml, getD_set, hlt, List.length_set, List.set_set, hms]
      repeat (refine And.intro (by first | omega | (intros; omega) | (intros; simp_all; done) | (intros; simp_all; omega)) ?_)
      refine k _ ?_; clear k K
      -- 33 := binOp Go.BinOp.add 3 t32 c<1:i64> 3
      refine v_op ?_; intro K k
      simp only [zE, aStepM, optable, set_some, Nat.reduceEqDiff, reduceIte, Nat.reduceLT, implies_true, forall_const, reduceCtorEq, V.ofValue, V.ofScalar, V.un, V.gd, aExec, aop, aBin, Try.underlying3, getD_map hmg, hml, getD_set, hlt, List.length_set, List.set_set, hms]
      try simp (disch := omega) only [wrap64]
      repeat (refine And.intro (by first | omega | (intros; omega) | (intros; simp_all; done) | (intros; simp_all; omega)) ?_)
      refine k _ ?_; clear k K
      -- 1 := assign t33
      refine v_op ?_; intro K k
      simp only [zE, zS, aStepM, optable, set_some, Nat.reduceEqDiff, reduceIte, Nat.reduceLT, implies_true, forall_const, reduceCtorEq, V.ofValue, V.ofScalar, V.un, V.gd, aExec, aop, Nat.reduceAdd, getD_map hmg, hml, getD_set, hlt, List.length_set, List.set_set, hms]
      repeat (refine And.intro (by first | omega | (intros; omega) | (intros; simp_all; done) | (intros; simp_all; omega)) ?_)
      refine k _ ?_; clear k K
      refine k25 _ ?_
      refine n24 _ _ (weak_keep [0, 1, 5] _) ?_
      simp only [keep_mk, keepE_nil, keepE_cons, look_cons, look_nil, Nat.reduceEqDiff, reduceIte]
      refine v_seq ?_; intro Q26 n26 e26 r26  -- SEQ 12
      refine v_region ?_; intro K27 k27
      -- 34 := move t0
      refine v_op ?_; intro K k
      simp only [zE, aStepM, optable, set_some, Nat.reduceEqDiff, reduceIte, Nat.reduceLT, implies_true, forall_const, reduceCtorEq, V.ofValue, V.ofScalar, V.un, V.gd, aExec, aop, getD_map hmg, hml, getD_set, hlt, List.length_set, List.set_set, hms]
      repeat (refine And.intro (by first | omega | (intros; omega) | (intros; simp_all; done) | (intros; simp_all; omega)) ?_)
      refine k _ ?_; clear k K
      -- 35 := move t5
      refine v_op ?_; intro K k
      simp only [zE, aStepM, optable, set_some, Nat.reduceEqDiff, reduceIte, Nat.reduceLT, implies_true, forall_const, reduceCtorEq, V.ofValue, V.ofScalar, V.un, V.gd, aExec, aop, getD_map hmg, hml, getD_set, hlt, List.length_set, List.set_set, hms]
      repeat (refine And.intro (by first | omega | (intros; omega) | (intros; simp_all; done) | (intros; simp_all; omega)) ?_)
      refine k _ ?_; clear k K
      -- 36 := move t1
      refine v_op ?_; intro K k
      simp only [zE, aStepM, optable, set_some, Nat.reduceEqDiff, reduceIte, Nat.reduceLT, implies_true, forall_const, reduceCtorEq, V.ofValue, V.ofScalar, V.un, V.gd, aExec, aop, getD_map hmg, hml, getD_set, hlt, List.length_set, List.set_set, hms]
      repeat (refine And.intro (by first | omega | (intros; omega) | (intros; simp_all; done) | (intros; simp_all; omega)) ?_)
      refine k _ ?_; clear k K
      -- 37 := indexAddr 26 t34 t35
      refine v_op ?_; intro K k
      simp only [zE, zL, zN, aStepM, optable, set_some, Nat.reduceEqDiff, reduceIte, Nat.reduceLT, implies_true, forall_const, reduceCtorEq, V.ofValue, V.ofScalar, V.un, V.gd, aExec, aop, aIndexAddr, row_mk, Blk.row, Go.Vm.V.cells, List.forall_mem_map, List.length_map, Int.toNat_natCast, Int.reduceToNat, TypeDesc.slice.injEq, Nat.reduceAdd, Nat.reduceLeDiff, Nat.reduceMul, Try.underlying26, Ty.c26, Ty.a26, Try.underlying95, Ty.c95, Ty.a95, getD_map hmg, hml, getD_set, hlt, List.length_set, List.set_set, hms]
      repeat (refine And.intro (by first | omega | (exact set_all (fun x hx => by obtain ⟨t, _, rfl⟩ := List.mem_map.1 hx; rfl) rfl) | (intros; omega) | (intros; simp_all; done)) ?_)
      refine k _ ?_; clear k K
      -- 38 := fieldAddr 95 t37 3
      refine v_op ?_; intro K k
      simp only [zE, zL, zN, aStepM, optable, set_some, Nat.reduceEqDiff, reduceIte, Nat.reduceLT, implies_true, forall_const, reduceCtorEq, V.ofValue, V.ofScalar, V.un, V.gd, aExec, aop, aFieldAddr, Nat.reduceAdd, Nat.reduceLeDiff, Nat.reduceMul, Try.underlying3, Ty.c3, Ty.a3, Try.underlying9, Ty.c9, Ty.a9, Try.underlying95, Ty.c95, Ty.a95, getD_map hmg, hml, getD_set, hlt, List.length_set, List.set_set, hms]
      repeat (refine And.intro (by first | omega | (exact set_all (fun x hx => by obtain ⟨t, _, rfl⟩ := List.mem_map.1 hx; rfl) rfl) | (intros; omega) | (intros; simp_all; done)) ?_)
      refine k _ ?_; clear k K
      -- None := store 3 t38 t36
      refine v_op ?_; intro K k
      simp only [zE, zS, zJ, zL, zO, zN, aStepM, optable, set_some, Nat.reduceEqDiff, reduceIte, Nat.reduceLT, implies_true, forall_const, reduceCtorEq, V.ofValue, V.ofScalar, V.un, V.gd, aExec, aop, aStore, setCells, V.isVal, V.cells, kindOf, kindAll, V.noSl, V.noRef, gt_iff_lt, Nat.reduceAdd, Nat.reduceLeDiff, Nat.reduceMul, takeV, takeCell, takeCells, row_mk, Blk.row, killAll, Nat.reduceBEq, Try.underlying3, Ty.c3, Ty.a3, getD_map hmg, hml, getD_set, hlt, List.length_set, List.set_set, hms]
      repeat (refine And.intro (by first | omega | (exact set_all (fun x hx => by obtain ⟨t, _, rfl⟩ := List.mem_map.1 hx; rfl) rfl) | (intros; omega) | (intros; simp_all; done)) ?_)
      refine k _ ?_; clear k K
      refine k27 _ ?_
      refine n26 _ _ (weak_keep [0, 1, 5] _) ?_
      simp only [keep_mk, keepE_nil, keepE_cons, look_cons, look_nil, Nat.reduceEqDiff, reduceIte]
      refine v_region ?_; intro K28 k28
      -- 39 := move t1
      refine v_op ?_; intro K k
      simp only [zE, aStepM, optable, set_some, Nat.reduceEqDiff, reduceIte, Nat.reduceLT, implies_true, forall_const, reduceCtorEq, V.ofValue, V.ofScalar, V.un, V.gd, aExec, aop, getD_map hmg, hml, getD_set, hlt, List.length_set, List.set_set, hms]
      repeat (refine And.intro (by first | omega | (intros; omega) | (intros; simp_all; done) | (intros; simp_all; omega)) ?_)
      refine k _ ?_; clear k K
      -- 40 := binOp Go.BinOp.add 3 t39 c<1:i64> 3
      refine v_op ?_; intro K k
      simp only [zE, aStepM, optable, set_some, Nat.reduceEqDiff, reduceIte, Nat.reduceLT, implies_true, forall_const, reduceCtorEq, V.ofValue, V.ofScalar, V.un, V.gd, aExec, aop, aBin, Try.underlying3, getD_map hmg, hml, getD_set, hlt, List.length_set, List.set_set, hms]
      try simp (disch := omega) only [wrap64]
      repeat (refine And.intro (by first | omega | (intros; omega) | (intros; simp_all; done) | (intros; simp_all; omega)) ?_)
      refine k _ ?_; clear k K
      -- 1 := assign t40
      refine v_op ?_; intro K k
      simp only [zE, zS, aStepM, optable, set_some, Nat.reduceEqDiff, reduceIte, Nat.reduceLT, implies_true, forall_const, reduceCtorEq, V.ofValue, V.ofScalar, V.un, V.gd, aExec, aop, Nat.reduceAdd, getD_map hmg, hml, getD_set, hlt, List.length_set, List.set_set, hms]
      repeat (refine And.intro (by first | omega | (intros; omega) | (intros; simp_all; done) | (intros; simp_all; omega)) ?_)
      refine k _ ?_; clear k K
      refine k28 _ ?_
      refine n13 _ ?_
      refine n12 _ _ (weak_keep [0, 1, 5] _) ?_
      simp only [keep_mk, keepE_nil, keepE_cons, look_cons, look_nil, Nat.reduceEqDiff, reduceIte]
      refine v_region ?_; intro K29 k29
      -- 10 := move t5
      refine v_op ?_; intro K k
      simp only [zE, aStepM, optable, set_some, Nat.reduceEqDiff, reduceIte, Nat.reduceLT, implies_true, forall_const, reduceCtorEq, V.ofValue, V.ofScalar, V.un, V.gd, aExec, aop, getD_map hmg, hml, getD_set, hlt, List.length_set, List.set_set, hms]
      repeat (refine And.intro (by first | omega | (intros; omega) | (intros; simp_all; done) | (intros; simp_all; omega)) ?_)
      refine k _ ?_; clear k K
      -- 11 := binOp Go.BinOp.add 3 t10 c<1:i64> 3
      refine v_op ?_; intro K k
      simp only [zE, aStepM, optable, set_some, Nat.reduceEqDiff, reduceIte, Nat.reduceLT, implies_true, forall_const, reduceCtorEq, V.ofValue, V.ofScalar, V.un, V.gd, aExec, aop, aBin, Try.underlying3, getD_map hmg, hml, getD_set, hlt, List.length_set, List.set_set, hms]
      try simp (disch := omega) only [wrap64]
      repeat (refine And.intro (by first | omega | (intros; omega) | (intros; simp_all; done) | (intros; simp_all; omega)) ?_)
      refine k _ ?_; clear k K
      -- 5 := assign t11
      refine v_op ?_; intro K k
      simp only [zE, zS, aStepM, optable, set_some, Nat.reduceEqDiff, reduceIte, Nat.reduceLT, implies_true, forall_const, reduceCtorEq, V.ofValue, V.ofScalar, V.un, V.gd, aExec, aop, Nat.reduceAdd, getD_map hmg, hml, getD_set, hlt, List.length_set, List.set_set, hms]
      repeat (refine And.intro (by first | omega | (intros; omega) | (intros; simp_all; done) | (intros; simp_all; omega)) ?_)
      refine k _ ?_; clear k K
      refine k29 _ ?_
      refine n7 _ (i + 1) ?_ ?_ ?_
      · refine weak_both [0, 1, 5] [0] (by decide) (by simp) ?_ ?_ ?_
        · simp [keep_mk, keepE_nil, keepE_cons, look_cons, V.only, V.onlyL, idx] <;> (first | rfl | decide)
        · simp [Blk.kindIs, fillK_mix]
        simp only [keep_mk, keepE_nil, keepE_cons, look_cons, look_nil, Nat.reduceEqDiff, reduceIte, St.comp, List.map_cons, List.map_nil, V.ren, V.renL, idx, List.getD_cons_zero, List.getD_cons_succ, Nat.reduceBEq, cond_true, cond_false, Option.map_some, Option.getD_some, Nat.reduceAdd, Nat.beq_eq_true_eq]
        simp only [getD_set, List.length_map, hml, hlt, List.length_set, List.set_set, hms, List.take_succ_cons, List.take_zero, List.drop_succ_cons, List.drop_zero, List.drop_nil, List.cons_append, List.nil_append, List.append_nil]; rw [show (kk + 4 * (i : Int) + 1 + 1 + 1 + 1) = kk + 4 * ((i + 1 : Nat) : Int) by omega]; rfl
      · exact hlt
      · show _ < _; omega
    · intro hc0
      try simp only [zC, reduceCtorEq] at hc0
      rw [markG_all (g := (fun j : Nat => ((kk + 4 * (j : Int)), markT (kk + 4 * (j : Int) + 1), (kk + 4 * (j : Int) + 1 + 1), (kk + 4 * (j : Int) + 1 + 1 + 1)))) hi1] at hc0
      refine v_exit ?_
      refine e8 _ _ ?_
      refine e7 _ _ ?_
      refine x6 _ ?_
      refine n3 _ _ (weak_keep [1] _) ?_
      simp only [keep_mk, keepE_nil, keepE_cons, look_cons, look_nil, Nat.reduceEqDiff, reduceIte]
      refine v_seq ?_; intro Q30 n30 e30 r30  -- SEQ 13
      refine v_region ?_; intro K31 k31
      -- 41 := move t1
      refine v_op ?_; intro K k
      simp only [zE, aStepM, optable, set_some, Nat.reduceEqDiff, reduceIte, Nat.reduceLT, implies_true, forall_const, reduceCtorEq, V.ofValue, V.ofScalar, V.un, V.gd, aExec, aop]
      repeat (refine And.intro (by first | omega | (intros; omega) | (intros; simp_all; done) | (intros; simp_all; omega)) ?_)
      refine k _ ?_; clear k K
      -- 4 := assign t41
      refine v_op ?_; intro K k
      simp only [zE, zS, aStepM, optable, set_some, Nat.reduceEqDiff, reduceIte, Nat.reduceLT, implies_true, forall_const, reduceCtorEq, V.ofValue, V.ofScalar, V.un, V.gd, aExec, aop, Nat.reduceAdd]
      repeat (refine And.intro (by first | omega | (intros; omega) | (intros; simp_all; done) | (intros; simp_all; omega)) ?_)
      refine k _ ?_; clear k K
      refine k31 _ ?_
      refine n30 _ _ (weak_keep [4] _) ?_
      simp only [keep_mk, keepE_nil, keepE_cons, look_cons, look_nil, Nat.reduceEqDiff, reduceIte]
      refine v_ret ?_
      refine r0 _ ?_
      simp only [resK, pickRV, get_mk, look_cons, look_nil, Nat.reduceEqDiff, reduceIte, List.map_cons, List.map_nil]
      have hend : i = l.length := by omega
      subst hend
      exact ret_lent rfl (by simp) rfl (by simp [markTurnout]) (by simp [Blk.kindIs]) (.inl rfl)
end Go.Proofs.Ytciapcamhocmcaa
