/- What functions compute (Times). No condition. -/
import Derived.Test.YtldnelkcmffiaaaTy
import Derived.Test.YtldnelkcmffiaaaVm21
import Derived.Test.YtldnelkcmffiaaaWBase
import Derived.Test.YtldnelkcmffiaaaWTurn
set_option linter.unusedSimpArgs false
set_option linter.unusedVariables false
namespace Go.Proofs.Ytldnelkcmffiaaa
open Go Go.Vm

def tTime (x : (Int × ByteArray × Int × Int)) : Int := IntKind.i64.wrap (x.2.2.2 - x.2.2.1)
def lateFrom (lim : Int) : Nat → List (Int × ByteArray × Int × Int) → List Int
  | _, [] => []
  | i, x :: l => if lim < tTime x then (i : Int) :: lateFrom lim (i + 1) l else lateFrom lim (i + 1) l
theorem late_step {lim : Int} {l : List (Int × ByteArray × Int × Int)} {i : Nat} {x : (Int × ByteArray × Int × Int)} (h : l[i]? = some x) : lateFrom lim i (l.drop i) = if lim < tTime x then (i : Int) :: lateFrom lim (i + 1) (l.drop (i + 1)) else lateFrom lim (i + 1) (l.drop (i + 1)) := by
  rw [getElem_drop_cons h, lateFrom]
theorem late_end {lim : Int} {l : List (Int × ByteArray × Int × Int)} {i k : Nat} (h : l.length ≤ i) : lateFrom lim k (l.drop i) = [] := by
  rw [List.drop_of_length_le h, lateFrom]
theorem late_len (lim : Int) : ∀ (l : List (Int × ByteArray × Int × Int)) (i : Nat), (lateFrom lim i l).length ≤ l.length
  | [], _ => Nat.le_refl _
  | x :: l, i => by
    have := late_len lim l (i + 1)
    rw [lateFrom]
    split <;> simp <;> omega
def cntLe (lim : Int) (l : List Int) : Nat := l.countP fun t => decide (t ≤ lim)
theorem cnt_step {lim : Int} {l : List Int} {i : Nat} {x : Int} (h : l[i]? = some x) : cntLe lim (l.drop i) = cntLe lim (l.drop (i + 1)) + (if x ≤ lim then 1 else 0) := by
  rw [getElem_drop_cons h, cntLe, List.countP_cons]; simp [cntLe]
theorem cnt_end {lim : Int} {l : List Int} {i : Nat} (h : l.length ≤ i) : cntLe lim (l.drop i) = 0 := by
  rw [List.drop_of_length_le h]; rfl
theorem cnt_late (lim : Int) : ∀ (l : List (Int × ByteArray × Int × Int)) (i : Nat), cntLe lim (l.map tTime) + (lateFrom lim i l).length = l.length
  | [], _ => rfl
  | x :: l, i => by
    have := cnt_late lim l (i + 1)
    rw [lateFrom, List.map_cons, cntLe, List.countP_cons]
    by_cases h : tTime x ≤ lim
    · have h2 : ¬ lim < tTime x := by omega
      simp only [h2, if_false, h, decide_true, if_true, List.length_cons]; simp only [cntLe] at this; omega
    · have h2 : lim < tTime x := by omega
      simp only [h2, if_true, h, decide_false, Bool.false_eq_true, if_false, List.length_cons]; simp only [cntLe] at this; omega
def sumW (l : List Int) (a : Int) : Int := l.foldl (fun a t => IntKind.i64.wrap (a + t)) a
theorem sum_step {l : List Int} {i : Nat} {x : Int} (h : l[i]? = some x) (a : Int) : sumW (l.drop i) a = sumW (l.drop (i + 1)) (IntKind.i64.wrap (a + x)) := foldl_drop h a
theorem sum_end {l : List Int} {i : Nat} (h : l.length ≤ i) (a : Int) : sumW (l.drop i) a = a := foldl_end h a
theorem map_at {α β : Type} {f : α → β} {l : List α} {i : Nat} {x : α} (h : l[i]? = some x) : (l.map f)[i]? = some (f x) := by rw [List.getElem?_map, h]; rfl
theorem snoc_map {α : Type} {f : α → V} {l : List α} {x : α} : l.map f ++ [f x] = (l ++ [x]).map f := by rw [List.map_append]; rfl

-- loop.example/g01020/spec.dbTime
set_option maxHeartbeats 1000000 in
theorem dbTime_con (x0 : Int) (x1 : ByteArray) (x2 : Int) (x3 : Int) : Con Try.prog 30 [.agg [V.int .i64 x0, V.str x1, V.int .i64 x2, V.int .i64 x3]] [] (.int .i64 (IntKind.i64.wrap (x3 - x2))) [] := by
  refine v_con [.tmp 2] [] Try.func30 rfl rfl rfl (by simp [Try.ntmps30]) ?_
  intro Q0 n0 r0
  simp only [Try.ntmps30, envFrom, Nat.reduceAdd]
  refine v_seq ?_; intro Q1 n1 e1 r1  -- SEQ 0
  refine v_region ?_; intro K2 k2
  -- 1 := box 54 t0
  refine v_op ?_; intro K k
  simp only [zE, zS, zO, zN, aStepM, optable, set_some, Nat.reduceEqDiff, reduceIte, Nat.reduceLT, implies_true, forall_const, reduceCtorEq, V.ofValue, V.ofScalar, V.un, V.gd, aExec, aop, Nat.reduceAdd, V.isVal, V.cells, kindOf, kindAll, V.noSl, V.noRef, List.all_cons, List.all_nil, List.length_map, gt_iff_lt, Nat.reduceLeDiff, Nat.reduceMul, Try.underlying3, Ty.c3, Ty.a3, Try.underlying9, Ty.c9, Ty.a9, Try.underlying54, Ty.c54, Ty.a54]
  repeat (refine And.intro (by first | omega | (intros; omega) | (intros; simp_all; done) | (intros; simp_all; omega)) ?_)
  refine k _ ?_; clear k K
  -- 2 := assign c<0:i64>
  refine v_op ?_; intro K k
  simp only [zE, zS, aStepM, optable, set_some, Nat.reduceEqDiff, reduceIte, Nat.reduceLT, implies_true, forall_const, reduceCtorEq, V.ofValue, V.ofScalar, V.un, V.gd, aExec, aop, Nat.reduceAdd]
  repeat (refine And.intro (by first | omega | (intros; omega) | (intros; simp_all; done) | (intros; simp_all; omega)) ?_)
  refine k _ ?_; clear k K
  refine k2 _ ?_
  refine n1 _ _ (weak_keep [1] _) ?_
  simp only [keep_mk, keepE_nil, keepE_cons, look_cons, look_nil, Nat.reduceEqDiff, reduceIte]
  refine v_seq ?_; intro Q3 n3 e3 r3  -- SEQ 1
  refine v_region ?_; intro K4 k4
  -- 3 := fieldAddr 54 t1 3
  refine v_op ?_; intro K k
  simp only [zE, zL, zN, aStepM, optable, set_some, Nat.reduceEqDiff, reduceIte, Nat.reduceLT, implies_true, forall_const, reduceCtorEq, V.ofValue, V.ofScalar, V.un, V.gd, aExec, aop, aFieldAddr, Nat.reduceAdd, Nat.reduceLeDiff, Nat.reduceMul, Try.underlying3, Ty.c3, Ty.a3, Try.underlying9, Ty.c9, Ty.a9, Try.underlying54, Ty.c54, Ty.a54]
  repeat (refine And.intro (by first | omega | (intros; omega) | (intros; simp_all; done) | (intros; simp_all; omega)) ?_)
  refine k _ ?_; clear k K
  -- 4 := load 3 t3
  refine v_op ?_; intro K k
  simp only [zE, zL, zO, zN, aStepM, optable, set_some, Nat.reduceEqDiff, reduceIte, Nat.reduceLT, implies_true, forall_const, reduceCtorEq, V.ofValue, V.ofScalar, V.un, V.gd, aExec, aop, aLoad, row_mk, Blk.row, PartOK, Go.Vm.part, V.cells, V.noSl, V.noRef, Nat.reduceAdd, Nat.reduceLeDiff, Nat.reduceMul, Try.underlying3, Ty.c3, Ty.a3]
  repeat (refine And.intro (by first | omega | (intros; omega) | (intros; simp_all; done) | (intros; simp_all; omega)) ?_)
  refine k _ ?_; clear k K
  -- 5 := fieldAddr 54 t1 2
  refine v_op ?_; intro K k
  simp only [zE, zL, zN, aStepM, optable, set_some, Nat.reduceEqDiff, reduceIte, Nat.reduceLT, implies_true, forall_const, reduceCtorEq, V.ofValue, V.ofScalar, V.un, V.gd, aExec, aop, aFieldAddr, Nat.reduceAdd, Nat.reduceLeDiff, Nat.reduceMul, Try.underlying3, Ty.c3, Ty.a3, Try.underlying9, Ty.c9, Ty.a9, Try.underlying54, Ty.c54, Ty.a54]
  repeat (refine And.intro (by first | omega | (intros; omega) | (intros; simp_all; done) | (intros; simp_all; omega)) ?_)
  refine k _ ?_; clear k K
  -- 6 := load 3 t5
  refine v_op ?_; intro K k
  simp only [zE, zL, zO, zN, aStepM, optable, set_some, Nat.reduceEqDiff, reduceIte, Nat.reduceLT, implies_true, forall_const, reduceCtorEq, V.ofValue, V.ofScalar, V.un, V.gd, aExec, aop, aLoad, row_mk, Blk.row, PartOK, Go.Vm.part, V.cells, V.noSl, V.noRef, Nat.reduceAdd, Nat.reduceLeDiff, Nat.reduceMul, Try.underlying3, Ty.c3, Ty.a3]
  repeat (refine And.intro (by first | omega | (intros; omega) | (intros; simp_all; done) | (intros; simp_all; omega)) ?_)
  refine k _ ?_; clear k K
  -- 7 := binOp Go.BinOp.sub 3 t4 t6 3
  refine v_op ?_; intro K k
  simp only [zE, aStepM, optable, set_some, Nat.reduceEqDiff, reduceIte, Nat.reduceLT, implies_true, forall_const, reduceCtorEq, V.ofValue, V.ofScalar, V.un, V.gd, aExec, aop, aBin, Try.underlying3]
  try simp (disch := omega) only [wrap64]
  repeat (refine And.intro (by first | omega | (intros; omega) | (intros; simp_all; done) | (intros; simp_all; omega)) ?_)
  refine k _ ?_; clear k K
  -- 2 := assign t7
  refine v_op ?_; intro K k
  simp only [zE, zS, aStepM, optable, set_some, Nat.reduceEqDiff, reduceIte, Nat.reduceLT, implies_true, forall_const, reduceCtorEq, V.ofValue, V.ofScalar, V.un, V.gd, aExec, aop, Nat.reduceAdd]
  repeat (refine And.intro (by first | omega | (intros; omega) | (intros; simp_all; done) | (intros; simp_all; omega)) ?_)
  refine k _ ?_; clear k K
  refine k4 _ ?_
  refine n3 _ _ (weak_keep [2] _) ?_
  simp only [keep_mk, keepE_nil, keepE_cons, look_cons, look_nil, Nat.reduceEqDiff, reduceIte]
  refine v_ret ?_
  refine r0 _ ?_
  simp only [resK, pickRV, get_mk, look_cons, look_nil, Nat.reduceEqDiff, reduceIte, List.map_cons, List.map_nil]
  exact ret_pure rfl (by first | rfl | simp) (.inl rfl)
-- loop.example/g01020/impl.timesOf
set_option maxHeartbeats 1000000 in
theorem timesOf_con (l : List (Int × ByteArray × Int × Int)) (hl : l.length ≤ 1048576) : Con Try.prog 35 [.sl (l.map (fun t : Int × ByteArray × Int × Int => V.agg [V.int .i64 t.1, V.str t.2.1, V.int .i64 t.2.2.1, V.int .i64 t.2.2.2]))] [] (.ref 0) [.arr ((l.map tTime).map (V.int .i64)) .flat] := by
  refine v_con [.tmp 2] [] Try.func35 rfl rfl rfl (by simp [Try.ntmps35]) ?_
  intro Q0 n0 r0
  simp only [Try.ntmps35, envFrom, Nat.reduceAdd]
  refine v_seq ?_; intro Q1 n1 e1 r1  -- SEQ 0
  refine v_region ?_; intro K2 k2
  -- 2 := assign c<nilslice0/0>
  refine v_op ?_; intro K k
  simp only [zE, zS, aStepM, optable, set_some, Nat.reduceEqDiff, reduceIte, Nat.reduceLT, implies_true, forall_const, reduceCtorEq, V.ofValue, V.ofScalar, V.un, V.gd, aExec, aop, Nat.reduceAdd]
  repeat (refine And.intro (by first | omega | (intros; omega) | (intros; simp_all; done) | (intros; simp_all; omega)) ?_)
  refine k _ ?_; clear k K
  refine k2 _ ?_
  refine n1 _ _ (weak_keep [0] _) ?_
  simp only [keep_mk, keepE_nil, keepE_cons, look_cons, look_nil, Nat.reduceEqDiff, reduceIte]
  refine v_seq ?_; intro Q3 n3 e3 r3  -- SEQ 1
  refine v_region ?_; intro K4 k4
  -- 3 := assign c<nilslice0/0>
  refine v_op ?_; intro K k
  simp only [zE, zS, aStepM, optable, set_some, Nat.reduceEqDiff, reduceIte, Nat.reduceLT, implies_true, forall_const, reduceCtorEq, V.ofValue, V.ofScalar, V.un, V.gd, aExec, aop, Nat.reduceAdd]
  repeat (refine And.intro (by first | omega | (intros; omega) | (intros; simp_all; done) | (intros; simp_all; omega)) ?_)
  refine k _ ?_; clear k K
  refine k4 _ ?_
  refine n3 _ _ (weak_keep [0, 3] _) ?_
  simp only [keep_mk, keepE_nil, keepE_cons, look_cons, look_nil, Nat.reduceEqDiff, reduceIte]
  refine v_seq ?_; intro Q5 n5 e5 r5  -- SEQ 2
  refine v_seq ?_; intro Q6 n6 e6 r6  -- SEQ 3
  refine v_region ?_; intro K7 k7
  -- 6 := move t0
  refine v_op ?_; intro K k
  simp only [zE, aStepM, optable, set_some, Nat.reduceEqDiff, reduceIte, Nat.reduceLT, implies_true, forall_const, reduceCtorEq, V.ofValue, V.ofScalar, V.un, V.gd, aExec, aop]
  repeat (refine And.intro (by first | omega | (intros; omega) | (intros; simp_all; done) | (intros; simp_all; omega)) ?_)
  refine k _ ?_; clear k K
  -- 7 := call b Go.Builtin.len t6 | 26
  refine v_op ?_; intro K k
  simp only [zE, zL, zN, aStepM, optable, set_some, Nat.reduceEqDiff, reduceIte, Nat.reduceLT, implies_true, forall_const, reduceCtorEq, V.ofValue, V.ofScalar, V.un, V.gd, aExec, aop, List.length_map, aLen, lenOK, row_mk, Blk.row, List.size_toArray, List.getD_eq_getElem?_getD, Array.getD_eq_getD_getElem?, Option.getD_some, Nat.reduceAdd, Nat.reduceLeDiff, Nat.reduceMul, Try.underlying3, Ty.c3, Ty.a3, Ty.b3, Ty.s3, Try.underlying26, Ty.c26, Ty.a26, Ty.b26, Ty.s26, Try.underlying54, Ty.c54, Ty.a54, Ty.b54, Ty.s54]
  repeat (refine And.intro (by first | omega | (intros; omega) | (intros; simp_all; done) | (intros; simp_all; omega)) ?_)
  refine k _ ?_; clear k K
  -- 8 := move c<0:i64>
  refine v_op ?_; intro K k
  simp only [zE, aStepM, optable, set_some, Nat.reduceEqDiff, reduceIte, Nat.reduceLT, implies_true, forall_const, reduceCtorEq, V.ofValue, V.ofScalar, V.un, V.gd, aExec, aop]
  repeat (refine And.intro (by first | omega | (intros; omega) | (intros; simp_all; done) | (intros; simp_all; omega)) ?_)
  refine k _ ?_; clear k K
  refine k7 _ ?_
  refine n6 _ _ (weak_keep [3, 6, 7, 8] _) ?_
  simp only [keep_mk, keepE_nil, keepE_cons, look_cons, look_nil, Nat.reduceEqDiff, reduceIte]
  refine v_block ?_; intro Q8 n8 x8 e8 r8
  refine v_loop (fun p => ⟨[(3, .ref 0), (6, .sl (l.map (fun t : Int × ByteArray × Int × Int => V.agg [V.int .i64 t.1, V.str t.2.1, V.int .i64 t.2.2.1, V.int .i64 t.2.2.2]))), (7, .int .i64 l.length), (8, .int .i64 (Nat.cast p.1))], [.arr (p.2.map (V.int .i64)) .flat], false, 22, 0⟩) (fun p => p.1 ≤ l.length ∧ p.2 = (l.take p.1).map tTime) (fun p => l.length - p.1) ((0, []) : Nat × List Int) ?_ ?_ ?_
  · refine weak_both [3, 6, 7, 8] [1] (by decide) (by simp) ?_ ?_ ?_
    · simp [keep_mk, keepE_nil, keepE_cons, look_cons, V.only, V.onlyL, idx] <;> (first | rfl | decide)
    · simp [Blk.kindIs, fillK_mix]
    simp only [keep_mk, keepE_nil, keepE_cons, look_cons, look_nil, Nat.reduceEqDiff, reduceIte, St.comp, List.map_cons, List.map_nil, V.ren, V.renL, idx, List.getD_cons_zero, List.getD_cons_succ, Nat.reduceBEq, cond_true, cond_false, Option.map_some, Option.getD_some, Nat.reduceAdd, Nat.beq_eq_true_eq]
    rfl
  · exact ⟨Nat.zero_le _, rfl⟩
  · rintro ⟨i, acc⟩ hok9 Q9 n9 e9 r9
    obtain ⟨hi1, hR⟩ := hok9
    simp only [] at hi1 hR ⊢
    have hal : acc.length ≤ 1048576 := by rw [hR, List.length_map, List.length_take]; omega
    refine v_seq ?_; intro Q10 n10 e10 r10  -- SEQ 4
    refine v_region ?_; intro K11 k11
    -- 9 := binOp Go.BinOp.lss 3 t8 t7 3
    refine v_op ?_; intro K k
    simp only [zE, aStepM, optable, set_some, Nat.reduceEqDiff, reduceIte, Nat.reduceLT, implies_true, forall_const, reduceCtorEq, V.ofValue, V.ofScalar, V.un, V.gd, aExec, aop, aBin, Try.underlying3]
    repeat (refine And.intro (by first | omega | (intros; omega) | (intros; simp_all; done) | (intros; simp_all; omega)) ?_)
    refine k _ ?_; clear k K
    refine k11 _ ?_
    refine n10 _ _ (weak_keep [3, 6, 7, 8, 9] _) ?_
    simp only [keep_mk, keepE_nil, keepE_cons, look_cons, look_nil, Nat.reduceEqDiff, reduceIte]
    refine v_seq ?_; intro Q12 n12 e12 r12  -- SEQ 5
    refine v_cond _ rfl ?_ ?_  -- COND 0
    · intro hc0
      try simp only [zC, reduceCtorEq] at hc0
      have hlt : i < l.length := by omega
      obtain ⟨⟨x0, x1, x2, x3⟩, hx⟩ : ∃ x : Int × ByteArray × Int × Int, l[i]? = some x := ⟨l[i]'(by omega), List.getElem?_eq_getElem (by omega)⟩
      refine v_skip ?_
      refine n12 _ _ (weak_keep [3, 6, 7, 8] _) ?_
      simp only [keep_mk, keepE_nil, keepE_cons, look_cons, look_nil, Nat.reduceEqDiff, reduceIte]
      refine v_seq ?_; intro Q14 n14 e14 r14  -- SEQ 6
      refine v_block ?_; intro Q15 n15 x15 e15 r15
      refine v_seq ?_; intro Q16 n16 e16 r16  -- SEQ 7
      refine v_region ?_; intro K17 k17
      -- 10 := indexAddr 26 t6 t8
      refine v_op ?_; intro K k
      simp only [zE, zL, zN, aStepM, optable, set_some, Nat.reduceEqDiff, reduceIte, Nat.reduceLT, implies_true, forall_const, reduceCtorEq, V.ofValue, V.ofScalar, V.un, V.gd, aExec, aop, aIndexAddr, row_mk, Blk.row, Go.Vm.V.cells, List.forall_mem_map, List.length_map, Int.toNat_natCast, Int.reduceToNat, TypeDesc.slice.injEq, Nat.reduceAdd, Nat.reduceLeDiff, Nat.reduceMul, Try.underlying26, Ty.c26, Ty.a26, Try.underlying54, Ty.c54, Ty.a54, getD_map hx]
      repeat (refine And.intro (by first | omega | (intros; omega) | (intros; simp_all; done) | (intros; simp_all; omega)) ?_)
      refine k _ ?_; clear k K
      -- 11 := load 54 t10
      refine v_op ?_; intro K k
      simp only [zE, zL, zO, zN, aStepM, optable, set_some, Nat.reduceEqDiff, reduceIte, Nat.reduceLT, implies_true, forall_const, reduceCtorEq, V.ofValue, V.ofScalar, V.un, V.gd, aExec, aop, aLoad, row_mk, Blk.row, PartOK, Go.Vm.part, V.cells, V.noSl, V.noRef, Nat.reduceAdd, Nat.reduceLeDiff, Nat.reduceMul, Try.underlying3, Ty.c3, Ty.a3, Try.underlying9, Ty.c9, Ty.a9, Try.underlying54, Ty.c54, Ty.a54, getD_map hx]
      repeat (refine And.intro (by first | omega | (intros; omega) | (intros; simp_all; done) | (intros; simp_all; omega)) ?_)
      refine k _ ?_; clear k K
      -- 5 := alloc 54
      refine v_op ?_; intro K k
      simp only [zE, zS, zO, zN, aStepM, optable, set_some, Nat.reduceEqDiff, reduceIte, Nat.reduceLT, implies_true, forall_const, reduceCtorEq, V.ofValue, V.ofScalar, V.un, V.gd, aExec, aop, Nat.reduceAdd, Value.oneCell', V.isVal, V.cells, kindOf, kindAll, V.noSl, V.noRef, List.all_cons, List.all_nil, List.map_cons, List.map_nil, gt_iff_lt, Nat.reduceLeDiff, Nat.reduceMul, Try.underlying3, Ty.c3, Ty.a3, Ty.z3, Try.underlying9, Ty.c9, Ty.a9, Ty.z9, Try.underlying54, Ty.c54, Ty.a54, Ty.z54, getD_map hx]
      repeat (refine And.intro (by first | omega | (intros; omega) | (intros; simp_all; done) | (intros; simp_all; omega)) ?_)
      refine k _ ?_; clear k K
      -- None := store 54 t5 t11
      refine v_op ?_; intro K k
      simp only [zE, zS, zJ, zL, zO, zN, aStepM, optable, set_some, Nat.reduceEqDiff, reduceIte, Nat.reduceLT, implies_true, forall_const, reduceCtorEq, V.ofValue, V.ofScalar, V.un, V.gd, aExec, aop, aStore, setCells, V.isVal, V.cells, kindOf, kindAll, V.noSl, V.noRef, gt_iff_lt, Nat.reduceAdd, Nat.reduceLeDiff, Nat.reduceMul, takeV, takeCell, takeCells, row_mk, Blk.row, killAll, Nat.reduceBEq, Try.underlying3, Ty.c3, Ty.a3, Try.underlying9, Ty.c9, Ty.a9, Try.underlying54, Ty.c54, Ty.a54, getD_map hx]
      repeat (refine And.intro (by first | omega | (intros; omega) | (intros; simp_all; done) | (intros; simp_all; omega)) ?_)
      refine k _ ?_; clear k K
      refine k17 _ ?_
      refine n16 _ _ (weak_keep [3, 5, 6, 7, 8] _) ?_
      simp only [keep_mk, keepE_nil, keepE_cons, look_cons, look_nil, Nat.reduceEqDiff, reduceIte]
      refine v_region ?_; intro K18 k18
      -- 12 := move t3
      refine v_op ?_; intro K k
      simp only [zE, aStepM, optable, set_some, Nat.reduceEqDiff, reduceIte, Nat.reduceLT, implies_true, forall_const, reduceCtorEq, V.ofValue, V.ofScalar, V.un, V.gd, aExec, aop, getD_map hx]
      repeat (refine And.intro (by first | omega | (intros; omega) | (intros; simp_all; done) | (intros; simp_all; omega)) ?_)
      refine k _ ?_; clear k K
      -- 13 := fieldAddr 54 t5 3
      refine v_op ?_; intro K k
      simp only [zE, zL, zN, aStepM, optable, set_some, Nat.reduceEqDiff, reduceIte, Nat.reduceLT, implies_true, forall_const, reduceCtorEq, V.ofValue, V.ofScalar, V.un, V.gd, aExec, aop, aFieldAddr, Nat.reduceAdd, Nat.reduceLeDiff, Nat.reduceMul, Try.underlying3, Ty.c3, Ty.a3, Try.underlying9, Ty.c9, Ty.a9, Try.underlying54, Ty.c54, Ty.a54, getD_map hx]
      repeat (refine And.intro (by first | omega | (intros; omega) | (intros; simp_all; done) | (intros; simp_all; omega)) ?_)
      refine k _ ?_; clear k K
      -- 14 := load 3 t13
      refine v_op ?_; intro K k
      simp only [zE, zL, zO, zN, aStepM, optable, set_some, Nat.reduceEqDiff, reduceIte, Nat.reduceLT, implies_true, forall_const, reduceCtorEq, V.ofValue, V.ofScalar, V.un, V.gd, aExec, aop, aLoad, row_mk, Blk.row, PartOK, Go.Vm.part, V.cells, V.noSl, V.noRef, Nat.reduceAdd, Nat.reduceLeDiff, Nat.reduceMul, Try.underlying3, Ty.c3, Ty.a3, getD_map hx]
      repeat (refine And.intro (by first | omega | (intros; omega) | (intros; simp_all; done) | (intros; simp_all; omega)) ?_)
      refine k _ ?_; clear k K
      -- 15 := fieldAddr 54 t5 2
      refine v_op ?_; intro K k
      simp only [zE, zL, zN, aStepM, optable, set_some, Nat.reduceEqDiff, reduceIte, Nat.reduceLT, implies_true, forall_const, reduceCtorEq, V.ofValue, V.ofScalar, V.un, V.gd, aExec, aop, aFieldAddr, Nat.reduceAdd, Nat.reduceLeDiff, Nat.reduceMul, Try.underlying3, Ty.c3, Ty.a3, Try.underlying9, Ty.c9, Ty.a9, Try.underlying54, Ty.c54, Ty.a54, getD_map hx]
      repeat (refine And.intro (by first | omega | (intros; omega) | (intros; simp_all; done) | (intros; simp_all; omega)) ?_)
      refine k _ ?_; clear k K
      -- 16 := load 3 t15
      refine v_op ?_; intro K k
      simp only [zE, zL, zO, zN, aStepM, optable, set_some, Nat.reduceEqDiff, reduceIte, Nat.reduceLT, implies_true, forall_const, reduceCtorEq, V.ofValue, V.ofScalar, V.un, V.gd, aExec, aop, aLoad, row_mk, Blk.row, PartOK, Go.Vm.part, V.cells, V.noSl, V.noRef, Nat.reduceAdd, Nat.reduceLeDiff, Nat.reduceMul, Try.underlying3, Ty.c3, Ty.a3, getD_map hx]
      repeat (refine And.intro (by first | omega | (intros; omega) | (intros; simp_all; done) | (intros; simp_all; omega)) ?_)
      refine k _ ?_; clear k K
      -- 17 := binOp Go.BinOp.sub 3 t14 t16 3
      refine v_op ?_; intro K k
      simp only [zE, aStepM, optable, set_some, Nat.reduceEqDiff, reduceIte, Nat.reduceLT, implies_true, forall_const, reduceCtorEq, V.ofValue, V.ofScalar, V.un, V.gd, aExec, aop, aBin, Try.underlying3, getD_map hx]
      try simp (disch := omega) only [wrap64]
      repeat (refine And.intro (by first | omega | (intros; omega) | (intros; simp_all; done) | (intros; simp_all; omega)) ?_)
      refine k _ ?_; clear k K
      -- 18 := buildSlice 41 1 0=t17
      refine v_op ?_; intro K k
      simp only [zE, zO, zN, aStepM, optable, set_some, Nat.reduceEqDiff, reduceIte, Nat.reduceLT, implies_true, forall_const, reduceCtorEq, V.ofValue, V.ofScalar, V.un, V.gd, aExec, aop, litElems, rng0, rng1, rng2, rng3, rng4, List.map_cons, List.map_nil, List.all_cons, List.all_nil, V.isVal, V.cells, content, kindAll, V.noRef, V.noSl, List.mem_cons, List.not_mem_nil, or_false, forall_eq_or_imp, forall_eq, if_true, Option.isSome_some, List.length_cons, List.length_nil, Nat.reduceAdd, Nat.reduceLeDiff, Nat.reduceMul, Try.underlying3, Ty.c3, Ty.a3, Ty.z3, Try.underlying41, Ty.c41, Ty.a41, Ty.z41, getD_map hx]
      repeat (refine And.intro (by first | omega | (intros; omega) | (intros; simp_all; done) | (intros; simp_all; omega)) ?_)
      refine k _ ?_; clear k K
      -- 19 := call b Go.Builtin.append t12 t18 | 41 41
      refine v_op ?_; intro K k
      simp only [zE, zL, zO, zN, aStepM, optable, set_some, Nat.reduceEqDiff, reduceIte, Nat.reduceLT, implies_true, forall_const, reduceCtorEq, V.ofValue, V.ofScalar, V.un, V.gd, aExec, aop, beq_self_eq_true, List.nodup_cons, List.mem_singleton, forall_eq', List.size_toArray, List.getD_eq_getElem?_getD, Array.getD_eq_getD_getElem?, Option.getD_some, aAppend, destOf, srcOf, takeElems, takeV, takeCell, takeCells, row_mk, Blk.row, killAll, V.isSub, V.noSl, Value.cells, Option.toList, List.forall_mem_map, List.length_map, List.all_cons, List.all_nil, List.isEmpty_nil, List.isEmpty_cons, List.not_mem_nil, List.nodup_nil, join_ff, join_ft, join_fv, join_d, join_s, fillK_join0, fillK_join, List.mem_cons, or_false, forall_eq_or_imp, forall_eq, List.set_cons_zero, List.set_cons_succ, List.length_append, Go.Vm.V.cells, Nat.reduceAdd, Nat.reduceLeDiff, Nat.reduceMul, Try.underlying3, Ty.c3, Ty.a3, Ty.z3, Ty.b3, Ty.s3, Try.underlying41, Ty.c41, Ty.a41, Ty.z41, Ty.b41, Ty.s41, getD_map hx]
      repeat (refine And.intro (by first | omega | (intros; omega) | (intros; simp_all; done) | (intros; simp_all; omega)) ?_)
      refine k _ ?_; clear k K
      -- 3 := assign t19
      refine v_op ?_; intro K k
      simp only [zE, zS, aStepM, optable, set_some, Nat.reduceEqDiff, reduceIte, Nat.reduceLT, implies_true, forall_const, reduceCtorEq, V.ofValue, V.ofScalar, V.un, V.gd, aExec, aop, Nat.reduceAdd, getD_map hx]
      repeat (refine And.intro (by first | omega | (intros; omega) | (intros; simp_all; done) | (intros; simp_all; omega)) ?_)
      refine k _ ?_; clear k K
      refine k18 _ ?_
      refine n15 _ ?_
      refine n14 _ _ (weak_keep [3, 6, 7, 8] _) ?_
      simp only [keep_mk, keepE_nil, keepE_cons, look_cons, look_nil, Nat.reduceEqDiff, reduceIte]
      refine v_region ?_; intro K19 k19
      -- 20 := binOp Go.BinOp.add 3 t8 c<1:i64> 3
      refine v_op ?_; intro K k
      simp only [zE, aStepM, optable, set_some, Nat.reduceEqDiff, reduceIte, Nat.reduceLT, implies_true, forall_const, reduceCtorEq, V.ofValue, V.ofScalar, V.un, V.gd, aExec, aop, aBin, Try.underlying3, getD_map hx]
      try simp (disch := omega) only [wrap64]
      repeat (refine And.intro (by first | omega | (intros; omega) | (intros; simp_all; done) | (intros; simp_all; omega)) ?_)
      refine k _ ?_; clear k K
      -- 8 := move t20
      refine v_op ?_; intro K k
      simp only [zE, aStepM, optable, set_some, Nat.reduceEqDiff, reduceIte, Nat.reduceLT, implies_true, forall_const, reduceCtorEq, V.ofValue, V.ofScalar, V.un, V.gd, aExec, aop, getD_map hx]
      repeat (refine And.intro (by first | omega | (intros; omega) | (intros; simp_all; done) | (intros; simp_all; omega)) ?_)
      refine k _ ?_; clear k K
      refine k19 _ ?_
      refine n9 _ (i + 1, acc ++ [tTime (x0, x1, x2, x3)]) ?_ ?_ ?_
      · refine weak_both [3, 6, 7, 8] [3] (by decide) (by simp) ?_ ?_ ?_
        · simp [keep_mk, keepE_nil, keepE_cons, look_cons, V.only, V.onlyL, idx] <;> (first | rfl | decide)
        · simp [Blk.kindIs, fillK_mix]
        simp only [keep_mk, keepE_nil, keepE_cons, look_cons, look_nil, Nat.reduceEqDiff, reduceIte, St.comp, List.map_cons, List.map_nil, V.ren, V.renL, idx, List.getD_cons_zero, List.getD_cons_succ, Nat.reduceBEq, cond_true, cond_false, Option.map_some, Option.getD_some, Nat.reduceAdd, Nat.beq_eq_true_eq]
        rw [snoc_map (f := V.int .i64)]; rfl
      · exact ⟨hlt, by show acc ++ _ = _; rw [hR, List.take_add_one, hx]; simp⟩
      · show _ < _; show l.length - (i + 1) < l.length - i; omega
    · intro hc0
      try simp only [zC, reduceCtorEq] at hc0
      refine v_exit ?_
      refine e12 _ _ ?_
      refine e9 _ _ ?_
      refine x8 _ ?_
      refine n5 _ _ (weak_keep [3] _) ?_
      simp only [keep_mk, keepE_nil, keepE_cons, look_cons, look_nil, Nat.reduceEqDiff, reduceIte]
      refine v_seq ?_; intro Q20 n20 e20 r20  -- SEQ 8
      refine v_region ?_; intro K21 k21
      -- 21 := move t3
      refine v_op ?_; intro K k
      simp only [zE, aStepM, optable, set_some, Nat.reduceEqDiff, reduceIte, Nat.reduceLT, implies_true, forall_const, reduceCtorEq, V.ofValue, V.ofScalar, V.un, V.gd, aExec, aop]
      repeat (refine And.intro (by first | omega | (intros; omega) | (intros; simp_all; done) | (intros; simp_all; omega)) ?_)
      refine k _ ?_; clear k K
      -- 2 := assign t21
      refine v_op ?_; intro K k
      simp only [zE, zS, aStepM, optable, set_some, Nat.reduceEqDiff, reduceIte, Nat.reduceLT, implies_true, forall_const, reduceCtorEq, V.ofValue, V.ofScalar, V.un, V.gd, aExec, aop, Nat.reduceAdd]
      repeat (refine And.intro (by first | omega | (intros; omega) | (intros; simp_all; done) | (intros; simp_all; omega)) ?_)
      refine k _ ?_; clear k K
      refine k21 _ ?_
      refine n20 _ _ (weak_keep [2] _) ?_
      simp only [keep_mk, keepE_nil, keepE_cons, look_cons, look_nil, Nat.reduceEqDiff, reduceIte]
      refine v_ret ?_
      refine r0 _ ?_
      simp only [resK, pickRV, get_mk, look_cons, look_nil, Nat.reduceEqDiff, reduceIte, List.map_cons, List.map_nil]
      have hend : acc = l.map tTime := by rw [hR, List.take_of_length_le (by omega)]
      rw [← hend]
      exact ret_ref rfl (.inl rfl)
-- loop.example/g01020/spec.dbLate
set_option maxHeartbeats 1000000 in
theorem dbLate_con (l : List (Int × ByteArray × Int × Int)) (lim : Int) (hl : l.length ≤ 1048576) : Con Try.prog 31 [.sl (l.map (fun t : Int × ByteArray × Int × Int => V.agg [V.int .i64 t.1, V.str t.2.1, V.int .i64 t.2.2.1, V.int .i64 t.2.2.2])), .int .i64 lim] [] (.ref 0) [.arr ((lateFrom lim 0 l).map (V.int .i64)) .flat] := by
  refine v_con [.tmp 4] [] Try.func31 rfl rfl rfl (by simp [Try.ntmps31]) ?_
  intro Q0 n0 r0
  simp only [Try.ntmps31, envFrom, Nat.reduceAdd]
  refine v_seq ?_; intro Q1 n1 e1 r1  -- SEQ 0
  refine v_region ?_; intro K2 k2
  -- 4 := assign c<nilslice0/0>
  refine v_op ?_; intro K k
  simp only [zE, zS, aStepM, optable, set_some, Nat.reduceEqDiff, reduceIte, Nat.reduceLT, implies_true, forall_const, reduceCtorEq, V.ofValue, V.ofScalar, V.un, V.gd, aExec, aop, Nat.reduceAdd]
  repeat (refine And.intro (by first | omega | (intros; omega) | (intros; simp_all; done) | (intros; simp_all; omega)) ?_)
  refine k _ ?_; clear k K
  refine k2 _ ?_
  refine n1 _ _ (weak_keep [0, 1] _) ?_
  simp only [keep_mk, keepE_nil, keepE_cons, look_cons, look_nil, Nat.reduceEqDiff, reduceIte]
  refine v_seq ?_; intro Q3 n3 e3 r3  -- SEQ 1
  refine v_region ?_; intro K4 k4
  -- 5 := assign c<nilslice0/0>
  refine v_op ?_; intro K k
  simp only [zE, zS, aStepM, optable, set_some, Nat.reduceEqDiff, reduceIte, Nat.reduceLT, implies_true, forall_const, reduceCtorEq, V.ofValue, V.ofScalar, V.un, V.gd, aExec, aop, Nat.reduceAdd]
  repeat (refine And.intro (by first | omega | (intros; omega) | (intros; simp_all; done) | (intros; simp_all; omega)) ?_)
  refine k _ ?_; clear k K
  refine k4 _ ?_
  refine n3 _ _ (weak_keep [0, 1, 5] _) ?_
  simp only [keep_mk, keepE_nil, keepE_cons, look_cons, look_nil, Nat.reduceEqDiff, reduceIte]
  refine v_seq ?_; intro Q5 n5 e5 r5  -- SEQ 2
  refine v_seq ?_; intro Q6 n6 e6 r6  -- SEQ 3
  refine v_region ?_; intro K7 k7
  -- 8 := move t0
  refine v_op ?_; intro K k
  simp only [zE, aStepM, optable, set_some, Nat.reduceEqDiff, reduceIte, Nat.reduceLT, implies_true, forall_const, reduceCtorEq, V.ofValue, V.ofScalar, V.un, V.gd, aExec, aop]
  repeat (refine And.intro (by first | omega | (intros; omega) | (intros; simp_all; done) | (intros; simp_all; omega)) ?_)
  refine k _ ?_; clear k K
  -- 9 := call b Go.Builtin.len t8 | 26
  refine v_op ?_; intro K k
  simp only [zE, zL, zN, aStepM, optable, set_some, Nat.reduceEqDiff, reduceIte, Nat.reduceLT, implies_true, forall_const, reduceCtorEq, V.ofValue, V.ofScalar, V.un, V.gd, aExec, aop, List.length_map, aLen, lenOK, row_mk, Blk.row, List.size_toArray, List.getD_eq_getElem?_getD, Array.getD_eq_getD_getElem?, Option.getD_some, Nat.reduceAdd, Nat.reduceLeDiff, Nat.reduceMul, Try.underlying3, Ty.c3, Ty.a3, Ty.b3, Ty.s3, Try.underlying26, Ty.c26, Ty.a26, Ty.b26, Ty.s26, Try.underlying54, Ty.c54, Ty.a54, Ty.b54, Ty.s54]
  repeat (refine And.intro (by first | omega | (intros; omega) | (intros; simp_all; done) | (intros; simp_all; omega)) ?_)
  refine k _ ?_; clear k K
  -- 10 := move c<0:i64>
  refine v_op ?_; intro K k
  simp only [zE, aStepM, optable, set_some, Nat.reduceEqDiff, reduceIte, Nat.reduceLT, implies_true, forall_const, reduceCtorEq, V.ofValue, V.ofScalar, V.un, V.gd, aExec, aop]
  repeat (refine And.intro (by first | omega | (intros; omega) | (intros; simp_all; done) | (intros; simp_all; omega)) ?_)
  refine k _ ?_; clear k K
  refine k7 _ ?_
  refine n6 _ _ (weak_keep [1, 5, 8, 9, 10] _) ?_
  simp only [keep_mk, keepE_nil, keepE_cons, look_cons, look_nil, Nat.reduceEqDiff, reduceIte]
  refine v_block ?_; intro Q8 n8 x8 e8 r8
  refine v_loop (fun p => ⟨[(1, .int .i64 lim), (5, .ref 0), (8, .sl (l.map (fun t : Int × ByteArray × Int × Int => V.agg [V.int .i64 t.1, V.str t.2.1, V.int .i64 t.2.2.1, V.int .i64 t.2.2.2]))), (9, .int .i64 l.length), (10, .int .i64 (Nat.cast p.1))], [.arr (p.2.map (V.int .i64)) .flat], false, 25, 0⟩) (fun p => p.1 ≤ l.length ∧ p.2.length ≤ p.1 ∧ p.2 ++ lateFrom lim p.1 (l.drop p.1) = lateFrom lim 0 l) (fun p => l.length - p.1) ((0, []) : Nat × List Int) ?_ ?_ ?_
  · refine weak_both [1, 5, 8, 9, 10] [1] (by decide) (by simp) ?_ ?_ ?_
    · simp [keep_mk, keepE_nil, keepE_cons, look_cons, V.only, V.onlyL, idx] <;> (first | rfl | decide)
    · simp [Blk.kindIs, fillK_mix]
    simp only [keep_mk, keepE_nil, keepE_cons, look_cons, look_nil, Nat.reduceEqDiff, reduceIte, St.comp, List.map_cons, List.map_nil, V.ren, V.renL, idx, List.getD_cons_zero, List.getD_cons_succ, Nat.reduceBEq, cond_true, cond_false, Option.map_some, Option.getD_some, Nat.reduceAdd, Nat.beq_eq_true_eq]
    rfl
  · exact ⟨Nat.zero_le _, Nat.le_refl _, rfl⟩
  · rintro ⟨i, acc⟩ hok9 Q9 n9 e9 r9
    obtain ⟨hi1, hal, hR⟩ := hok9
    simp only [] at hi1 hal hR ⊢
    refine v_seq ?_; intro Q10 n10 e10 r10  -- SEQ 4
    refine v_region ?_; intro K11 k11
    -- 11 := binOp Go.BinOp.lss 3 t10 t9 3
    refine v_op ?_; intro K k
    simp only [zE, aStepM, optable, set_some, Nat.reduceEqDiff, reduceIte, Nat.reduceLT, implies_true, forall_const, reduceCtorEq, V.ofValue, V.ofScalar, V.un, V.gd, aExec, aop, aBin, Try.underlying3]
    repeat (refine And.intro (by first | omega | (intros; omega) | (intros; simp_all; done) | (intros; simp_all; omega)) ?_)
    refine k _ ?_; clear k K
    refine k11 _ ?_
    refine n10 _ _ (weak_keep [1, 5, 8, 9, 10, 11] _) ?_
    simp only [keep_mk, keepE_nil, keepE_cons, look_cons, look_nil, Nat.reduceEqDiff, reduceIte]
    refine v_seq ?_; intro Q12 n12 e12 r12  -- SEQ 5
    refine v_cond _ rfl ?_ ?_  -- COND 0
    · intro hc0
      try simp only [zC, reduceCtorEq] at hc0
      have hlt : i < l.length := by omega
      obtain ⟨⟨x0, x1, x2, x3⟩, hx⟩ : ∃ x : Int × ByteArray × Int × Int, l[i]? = some x := ⟨l[i]'(by omega), List.getElem?_eq_getElem (by omega)⟩
      have hst := late_step (lim := lim) hx
      refine v_skip ?_
      refine n12 _ _ (weak_keep [1, 5, 8, 9, 10] _) ?_
      simp only [keep_mk, keepE_nil, keepE_cons, look_cons, look_nil, Nat.reduceEqDiff, reduceIte]
      refine v_seq ?_; intro Q14 n14 e14 r14  -- SEQ 6
      refine v_block ?_; intro Q15 n15 x15 e15 r15
      refine v_seq ?_; intro Q16 n16 e16 r16  -- SEQ 7
      refine v_region ?_; intro K17 k17
      -- 12 := move t10
      refine v_op ?_; intro K k
      simp only [zE, aStepM, optable, set_some, Nat.reduceEqDiff, reduceIte, Nat.reduceLT, implies_true, forall_const, reduceCtorEq, V.ofValue, V.ofScalar, V.un, V.gd, aExec, aop, getD_map hx]
      repeat (refine And.intro (by first | omega | (intros; omega) | (intros; simp_all; done) | (intros; simp_all; omega)) ?_)
      refine k _ ?_; clear k K
      -- 13 := indexAddr 26 t8 t10
      refine v_op ?_; intro K k
      simp only [zE, zL, zN, aStepM, optable, set_some, Nat.reduceEqDiff, reduceIte, Nat.reduceLT, implies_true, forall_const, reduceCtorEq, V.ofValue, V.ofScalar, V.un, V.gd, aExec, aop, aIndexAddr, row_mk, Blk.row, Go.Vm.V.cells, List.forall_mem_map, List.length_map, Int.toNat_natCast, Int.reduceToNat, TypeDesc.slice.injEq, Nat.reduceAdd, Nat.reduceLeDiff, Nat.reduceMul, Try.underlying26, Ty.c26, Ty.a26, Try.underlying54, Ty.c54, Ty.a54, getD_map hx]
      repeat (refine And.intro (by first | omega | (intros; omega) | (intros; simp_all; done) | (intros; simp_all; omega)) ?_)
      refine k _ ?_; clear k K
      -- 14 := load 54 t13
      refine v_op ?_; intro K k
      simp only [zE, zL, zO, zN, aStepM, optable, set_some, Nat.reduceEqDiff, reduceIte, Nat.reduceLT, implies_true, forall_const, reduceCtorEq, V.ofValue, V.ofScalar, V.un, V.gd, aExec, aop, aLoad, row_mk, Blk.row, PartOK, Go.Vm.part, V.cells, V.noSl, V.noRef, Nat.reduceAdd, Nat.reduceLeDiff, Nat.reduceMul, Try.underlying3, Ty.c3, Ty.a3, Try.underlying9, Ty.c9, Ty.a9, Try.underlying54, Ty.c54, Ty.a54, getD_map hx]
      repeat (refine And.intro (by first | omega | (intros; omega) | (intros; simp_all; done) | (intros; simp_all; omega)) ?_)
      refine k _ ?_; clear k K
      -- 7 := alloc 54
      refine v_op ?_; intro K k
      simp only [zE, zS, zO, zN, aStepM, optable, set_some, Nat.reduceEqDiff, reduceIte, Nat.reduceLT, implies_true, forall_const, reduceCtorEq, V.ofValue, V.ofScalar, V.un, V.gd, aExec, aop, Nat.reduceAdd, Value.oneCell', V.isVal, V.cells, kindOf, kindAll, V.noSl, V.noRef, List.all_cons, List.all_nil, List.map_cons, List.map_nil, gt_iff_lt, Nat.reduceLeDiff, Nat.reduceMul, Try.underlying3, Ty.c3, Ty.a3, Ty.z3, Try.underlying9, Ty.c9, Ty.a9, Ty.z9, Try.underlying54, Ty.c54, Ty.a54, Ty.z54, getD_map hx]
      repeat (refine And.intro (by first | omega | (intros; omega) | (intros; simp_all; done) | (intros; simp_all; omega)) ?_)
      refine k _ ?_; clear k K
      -- 6 := assign t12
      refine v_op ?_; intro K k
      simp only [zE, zS, aStepM, optable, set_some, Nat.reduceEqDiff, reduceIte, Nat.reduceLT, implies_true, forall_const, reduceCtorEq, V.ofValue, V.ofScalar, V.un, V.gd, aExec, aop, Nat.reduceAdd, getD_map hx]
      repeat (refine And.intro (by first | omega | (intros; omega) | (intros; simp_all; done) | (intros; simp_all; omega)) ?_)
      refine k _ ?_; clear k K
      -- None := store 54 t7 t14
      refine v_op ?_; intro K k
      simp only [zE, zS, zJ, zL, zO, zN, aStepM, optable, set_some, Nat.reduceEqDiff, reduceIte, Nat.reduceLT, implies_true, forall_const, reduceCtorEq, V.ofValue, V.ofScalar, V.un, V.gd, aExec, aop, aStore, setCells, V.isVal, V.cells, kindOf, kindAll, V.noSl, V.noRef, gt_iff_lt, Nat.reduceAdd, Nat.reduceLeDiff, Nat.reduceMul, takeV, takeCell, takeCells, row_mk, Blk.row, killAll, Nat.reduceBEq, Try.underlying3, Ty.c3, Ty.a3, Try.underlying9, Ty.c9, Ty.a9, Try.underlying54, Ty.c54, Ty.a54, getD_map hx]
      repeat (refine And.intro (by first | omega | (intros; omega) | (intros; simp_all; done) | (intros; simp_all; omega)) ?_)
      refine k _ ?_; clear k K
      refine k17 _ ?_
      refine n16 _ _ (weak_keep [1, 5, 6, 7, 8, 9, 10] _) ?_
      simp only [keep_mk, keepE_nil, keepE_cons, look_cons, look_nil, Nat.reduceEqDiff, reduceIte]
      refine v_seq ?_; intro Q18 n18 e18 r18  -- SEQ 8
      refine v_region ?_; intro K19 k19
      -- 15 := load 54 t7
      refine v_op ?_; intro K k
      simp only [zE, zL, zO, zN, aStepM, optable, set_some, Nat.reduceEqDiff, reduceIte, Nat.reduceLT, implies_true, forall_const, reduceCtorEq, V.ofValue, V.ofScalar, V.un, V.gd, aExec, aop, aLoad, row_mk, Blk.row, PartOK, Go.Vm.part, V.cells, V.noSl, V.noRef, Nat.reduceAdd, Nat.reduceLeDiff, Nat.reduceMul, Try.underlying3, Ty.c3, Ty.a3, Try.underlying9, Ty.c9, Ty.a9, Try.underlying54, Ty.c54, Ty.a54, getD_map hx]
      repeat (refine And.intro (by first | omega | (intros; omega) | (intros; simp_all; done) | (intros; simp_all; omega)) ?_)
      refine k _ ?_; clear k K
      -- 16 := call v f30 t15 | 54
      refine v_op ?_; intro K k
      simp only [zE, zM, aStepM, optable, set_some, Nat.reduceEqDiff, reduceIte, Nat.reduceLT, implies_true, forall_const, reduceCtorEq, V.ofValue, V.ofScalar, V.un, V.gd, aExec, lentIds, lendOf, Try.underlying3, Ty.c3, Ty.a3, Ty.b3, Ty.s3, Try.underlying9, Ty.c9, Ty.a9, Ty.b9, Ty.s9, Try.underlying54, Ty.c54, Ty.a54, Ty.b54, Ty.s54]
      repeat (refine And.intro (by first | rfl | (intros; simp_all; done)) ?_)
      refine aCall_new (dbTime_con x0 x1 x2 x3) (by first | rfl | (simp only [toArgs, toArg, toCell, toCells, idx, row_mk, List.getElem?_cons_zero, List.getElem?_cons_succ, Option.bind_some, Option.map_some, Blk.row, fillK_mix, flat_mix, deep_mix, cond_true]; done) | (simp [toArgs, toArg, toCell, toCells, idx, row_mk, Blk.row, fillK_mix, Nat.beq_refl]; done)) (by first | exact .inl ⟨rfl, by simp [Blk.kindIs, fillK_fd]⟩ | exact .inr (by simp [V.cold])) ?_
      refine k _ ?_; clear k K
      simp only [zY, zW, set_some, Nat.reduceEqDiff, reduceIte, V.ren, V.renL, rho, Nat.reduceAdd]
      -- 17 := move t1
      refine v_op ?_; intro K k
      simp only [zE, aStepM, optable, set_some, Nat.reduceEqDiff, reduceIte, Nat.reduceLT, implies_true, forall_const, reduceCtorEq, V.ofValue, V.ofScalar, V.un, V.gd, aExec, aop, getD_map hx]
      repeat (refine And.intro (by first | omega | (intros; omega) | (intros; simp_all; done) | (intros; simp_all; omega)) ?_)
      refine k _ ?_; clear k K
      -- 18 := binOp Go.BinOp.gtr 3 t16 t17 3
      refine v_op ?_; intro K k
      simp only [zE, aStepM, optable, set_some, Nat.reduceEqDiff, reduceIte, Nat.reduceLT, implies_true, forall_const, reduceCtorEq, V.ofValue, V.ofScalar, V.un, V.gd, aExec, aop, aBin, Try.underlying3, getD_map hx]
      repeat (refine And.intro (by first | omega | (intros; omega) | (intros; simp_all; done) | (intros; simp_all; omega)) ?_)
      refine k _ ?_; clear k K
      refine k19 _ ?_
      refine n18 _ _ (weak_keep [1, 5, 6, 8, 9, 10, 18] _) ?_
      simp only [keep_mk, keepE_nil, keepE_cons, look_cons, look_nil, Nat.reduceEqDiff, reduceIte]
      refine v_cond _ rfl ?_ ?_  -- COND 1
      · intro hc1
        try simp only [zC, reduceCtorEq] at hc1
        refine v_region ?_; intro K21 k21
        -- 19 := move t5
        refine v_op ?_; intro K k
        simp only [zE, aStepM, optable, set_some, Nat.reduceEqDiff, reduceIte, Nat.reduceLT, implies_true, forall_const, reduceCtorEq, V.ofValue, V.ofScalar, V.un, V.gd, aExec, aop, getD_map hx]
        repeat (refine And.intro (by first | omega | (intros; omega) | (intros; simp_all; done) | (intros; simp_all; omega)) ?_)
        refine k _ ?_; clear k K
        -- 20 := move t6
        refine v_op ?_; intro K k
        simp only [zE, aStepM, optable, set_some, Nat.reduceEqDiff, reduceIte, Nat.reduceLT, implies_true, forall_const, reduceCtorEq, V.ofValue, V.ofScalar, V.un, V.gd, aExec, aop, getD_map hx]
        repeat (refine And.intro (by first | omega | (intros; omega) | (intros; simp_all; done) | (intros; simp_all; omega)) ?_)
        refine k _ ?_; clear k K
        -- 21 := buildSlice 41 1 0=t20
        refine v_op ?_; intro K k
        simp only [zE, zO, zN, aStepM, optable, set_some, Nat.reduceEqDiff, reduceIte, Nat.reduceLT, implies_true, forall_const, reduceCtorEq, V.ofValue, V.ofScalar, V.un, V.gd, aExec, aop, litElems, rng0, rng1, rng2, rng3, rng4, List.map_cons, List.map_nil, List.all_cons, List.all_nil, V.isVal, V.cells, content, kindAll, V.noRef, V.noSl, List.mem_cons, List.not_mem_nil, or_false, forall_eq_or_imp, forall_eq, if_true, Option.isSome_some, List.length_cons, List.length_nil, Nat.reduceAdd, Nat.reduceLeDiff, Nat.reduceMul, Try.underlying3, Ty.c3, Ty.a3, Ty.z3, Try.underlying41, Ty.c41, Ty.a41, Ty.z41, getD_map hx]
        repeat (refine And.intro (by first | omega | (intros; omega) | (intros; simp_all; done) | (intros; simp_all; omega)) ?_)
        refine k _ ?_; clear k K
        -- 22 := call b Go.Builtin.append t19 t21 | 41 41
        refine v_op ?_; intro K k
        simp only [zE, zL, zO, zN, aStepM, optable, set_some, Nat.reduceEqDiff, reduceIte, Nat.reduceLT, implies_true, forall_const, reduceCtorEq, V.ofValue, V.ofScalar, V.un, V.gd, aExec, aop, beq_self_eq_true, List.nodup_cons, List.mem_singleton, forall_eq', List.size_toArray, List.getD_eq_getElem?_getD, Array.getD_eq_getD_getElem?, Option.getD_some, aAppend, destOf, srcOf, takeElems, takeV, takeCell, takeCells, row_mk, Blk.row, killAll, V.isSub, V.noSl, Value.cells, Option.toList, List.forall_mem_map, List.length_map, List.all_cons, List.all_nil, List.isEmpty_nil, List.isEmpty_cons, List.not_mem_nil, List.nodup_nil, join_ff, join_ft, join_fv, join_d, join_s, fillK_join0, fillK_join, List.mem_cons, or_false, forall_eq_or_imp, forall_eq, List.set_cons_zero, List.set_cons_succ, List.length_append, Go.Vm.V.cells, Nat.reduceAdd, Nat.reduceLeDiff, Nat.reduceMul, Try.underlying3, Ty.c3, Ty.a3, Ty.z3, Ty.b3, Ty.s3, Try.underlying41, Ty.c41, Ty.a41, Ty.z41, Ty.b41, Ty.s41, getD_map hx]
        repeat (refine And.intro (by first | omega | (intros; omega) | (intros; simp_all; done) | (intros; simp_all; omega)) ?_)
        refine k _ ?_; clear k K
        -- 5 := assign t22
        refine v_op ?_; intro K k
        simp only [zE, zS, aStepM, optable, set_some, Nat.reduceEqDiff, reduceIte, Nat.reduceLT, implies_true, forall_const, reduceCtorEq, V.ofValue, V.ofScalar, V.un, V.gd, aExec, aop, Nat.reduceAdd, getD_map hx]
        repeat (refine And.intro (by first | omega | (intros; omega) | (intros; simp_all; done) | (intros; simp_all; omega)) ?_)
        refine k _ ?_; clear k K
        refine k21 _ ?_
        refine n15 _ ?_
        refine n14 _ _ (weak_keep [1, 5, 8, 9, 10] _) ?_
        simp only [keep_mk, keepE_nil, keepE_cons, look_cons, look_nil, Nat.reduceEqDiff, reduceIte]
        refine v_region ?_; intro K22 k22
        -- 23 := binOp Go.BinOp.add 3 t10 c<1:i64> 3
        refine v_op ?_; intro K k
        simp only [zE, aStepM, optable, set_some, Nat.reduceEqDiff, reduceIte, Nat.reduceLT, implies_true, forall_const, reduceCtorEq, V.ofValue, V.ofScalar, V.un, V.gd, aExec, aop, aBin, Try.underlying3, getD_map hx]
        try simp (disch := omega) only [wrap64]
        repeat (refine And.intro (by first | omega | (intros; omega) | (intros; simp_all; done) | (intros; simp_all; omega)) ?_)
        refine k _ ?_; clear k K
        -- 10 := move t23
        refine v_op ?_; intro K k
        simp only [zE, aStepM, optable, set_some, Nat.reduceEqDiff, reduceIte, Nat.reduceLT, implies_true, forall_const, reduceCtorEq, V.ofValue, V.ofScalar, V.un, V.gd, aExec, aop, getD_map hx]
        repeat (refine And.intro (by first | omega | (intros; omega) | (intros; simp_all; done) | (intros; simp_all; omega)) ?_)
        refine k _ ?_; clear k K
        refine k22 _ ?_
        refine n9 _ (i + 1, acc ++ [(i : Int)]) ?_ ?_ ?_
        · refine weak_both [1, 5, 8, 9, 10] [3] (by decide) (by simp) ?_ ?_ ?_
          · simp [keep_mk, keepE_nil, keepE_cons, look_cons, V.only, V.onlyL, idx] <;> (first | rfl | decide)
          · simp [Blk.kindIs, fillK_mix]
          simp only [keep_mk, keepE_nil, keepE_cons, look_cons, look_nil, Nat.reduceEqDiff, reduceIte, St.comp, List.map_cons, List.map_nil, V.ren, V.renL, idx, List.getD_cons_zero, List.getD_cons_succ, Nat.reduceBEq, cond_true, cond_false, Option.map_some, Option.getD_some, Nat.reduceAdd, Nat.beq_eq_true_eq]
          rw [snoc_map (f := V.int .i64)]; rfl
        · exact ⟨hlt, by show (acc ++ _).length ≤ i + 1; simp; omega, by show (acc ++ _) ++ lateFrom lim (i + 1) (l.drop (i + 1)) = _; rw [← hR, hst, if_pos (show lim < tTime (x0, x1, x2, x3) from hc1)]; simp⟩
        · show _ < _; show l.length - (i + 1) < l.length - i; omega
      · intro hc1
        try simp only [zC, reduceCtorEq] at hc1
        refine v_skip ?_
        refine n15 _ ?_
        refine n14 _ _ (weak_keep [1, 5, 8, 9, 10] _) ?_
        simp only [keep_mk, keepE_nil, keepE_cons, look_cons, look_nil, Nat.reduceEqDiff, reduceIte]
        refine v_region ?_; intro K23 k23
        -- 23 := binOp Go.BinOp.add 3 t10 c<1:i64> 3
        refine v_op ?_; intro K k
        simp only [zE, aStepM, optable, set_some, Nat.reduceEqDiff, reduceIte, Nat.reduceLT, implies_true, forall_const, reduceCtorEq, V.ofValue, V.ofScalar, V.un, V.gd, aExec, aop, aBin, Try.underlying3, getD_map hx]
        try simp (disch := omega) only [wrap64]
        repeat (refine And.intro (by first | omega | (intros; omega) | (intros; simp_all; done) | (intros; simp_all; omega)) ?_)
        refine k _ ?_; clear k K
        -- 10 := move t23
        refine v_op ?_; intro K k
        simp only [zE, aStepM, optable, set_some, Nat.reduceEqDiff, reduceIte, Nat.reduceLT, implies_true, forall_const, reduceCtorEq, V.ofValue, V.ofScalar, V.un, V.gd, aExec, aop, getD_map hx]
        repeat (refine And.intro (by first | omega | (intros; omega) | (intros; simp_all; done) | (intros; simp_all; omega)) ?_)
        refine k _ ?_; clear k K
        refine k23 _ ?_
        refine n9 _ (i + 1, acc) ?_ ?_ ?_
        · refine weak_both [1, 5, 8, 9, 10] [0] (by decide) (by simp) ?_ ?_ ?_
          · simp [keep_mk, keepE_nil, keepE_cons, look_cons, V.only, V.onlyL, idx] <;> (first | rfl | decide)
          · simp [Blk.kindIs, fillK_mix]
          simp only [keep_mk, keepE_nil, keepE_cons, look_cons, look_nil, Nat.reduceEqDiff, reduceIte, St.comp, List.map_cons, List.map_nil, V.ren, V.renL, idx, List.getD_cons_zero, List.getD_cons_succ, Nat.reduceBEq, cond_true, cond_false, Option.map_some, Option.getD_some, Nat.reduceAdd, Nat.beq_eq_true_eq]
          rfl
        · exact ⟨hlt, by show acc.length ≤ i + 1; omega, by show acc ++ lateFrom lim (i + 1) (l.drop (i + 1)) = _; rw [← hR, hst, if_neg (show ¬ lim < tTime (x0, x1, x2, x3) from Int.not_lt.2 hc1)]⟩
        · show _ < _; show l.length - (i + 1) < l.length - i; omega
    · intro hc0
      try simp only [zC, reduceCtorEq] at hc0
      refine v_exit ?_
      refine e12 _ _ ?_
      refine e9 _ _ ?_
      refine x8 _ ?_
      refine n5 _ _ (weak_keep [5] _) ?_
      simp only [keep_mk, keepE_nil, keepE_cons, look_cons, look_nil, Nat.reduceEqDiff, reduceIte]
      refine v_seq ?_; intro Q24 n24 e24 r24  -- SEQ 9
      refine v_region ?_; intro K25 k25
      -- 24 := move t5
      refine v_op ?_; intro K k
      simp only [zE, aStepM, optable, set_some, Nat.reduceEqDiff, reduceIte, Nat.reduceLT, implies_true, forall_const, reduceCtorEq, V.ofValue, V.ofScalar, V.un, V.gd, aExec, aop]
      repeat (refine And.intro (by first | omega | (intros; omega) | (intros; simp_all; done) | (intros; simp_all; omega)) ?_)
      refine k _ ?_; clear k K
      -- 4 := assign t24
      refine v_op ?_; intro K k
      simp only [zE, zS, aStepM, optable, set_some, Nat.reduceEqDiff, reduceIte, Nat.reduceLT, implies_true, forall_const, reduceCtorEq, V.ofValue, V.ofScalar, V.un, V.gd, aExec, aop, Nat.reduceAdd]
      repeat (refine And.intro (by first | omega | (intros; omega) | (intros; simp_all; done) | (intros; simp_all; omega)) ?_)
      refine k _ ?_; clear k K
      refine k25 _ ?_
      refine n24 _ _ (weak_keep [4] _) ?_
      simp only [keep_mk, keepE_nil, keepE_cons, look_cons, look_nil, Nat.reduceEqDiff, reduceIte]
      refine v_ret ?_
      refine r0 _ ?_
      simp only [resK, pickRV, get_mk, look_cons, look_nil, Nat.reduceEqDiff, reduceIte, List.map_cons, List.map_nil]
      have hend : acc = lateFrom lim 0 l := by rw [← hR, late_end (by omega), List.append_nil]
      rw [← hend]
      exact ret_ref rfl (.inl rfl)
end Go.Proofs.Ytldnelkcmffiaaa
