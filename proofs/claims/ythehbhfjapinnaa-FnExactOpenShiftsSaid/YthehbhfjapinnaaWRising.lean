/- What functions compute (Rising). No condition. -/
import Derived.Test.YthehbhfjapinnaaTy
import Derived.Test.YthehbhfjapinnaaVm21
import Derived.Test.YthehbhfjapinnaaWBase
set_option linter.unusedSimpArgs false
set_option linter.unusedVariables false
namespace Go.Proofs.Ythehbhfjapinnaa
open Go Go.Vm

def inR (n lo hi : Int) : Bool := decide (lo ≤ n) && decide (n ≤ hi)
def risingFrom (lo hi : Int) : Option Int → List Int → Bool
  | _, [] => true
  | none, x :: xs => inR x lo hi && risingFrom lo hi (some x) xs
  | some p, x :: xs => inR x lo hi && decide (p < x) && risingFrom lo hi (some x) xs
def risingAt (lo hi : Int) (l : List Int) (i : Nat) : Bool := risingFrom lo hi (if i = 0 then none else l[i - 1]?) (l.drop i)
theorem risingAt_zero {lo hi : Int} {l : List Int} {x : Int} (h : l[0]? = some x) : risingAt lo hi l 0 = (inR x lo hi && risingAt lo hi l 1) := by
  simp only [risingAt, getElem_drop_cons h, if_true, risingFrom]
  simp [h]
theorem risingAt_succ {lo hi : Int} {l : List Int} {x y : Int} {i : Nat} (h0 : 0 < i) (hy : l[i - 1]? = some y) (h : l[i]? = some x) : risingAt lo hi l i = (inR x lo hi && decide (y < x) && risingAt lo hi l (i + 1)) := by
  simp only [risingAt, getElem_drop_cons h, hy, show ¬ i = 0 by omega, if_false, risingFrom]
  simp [h]
theorem risingAt_end {lo hi : Int} {l : List Int} {i : Nat} (h : l.length ≤ i) : risingAt lo hi l i = true := by
  simp only [risingAt, List.drop_of_length_le h]
  split <;> rfl
theorem rising_in {lo hi : Int} : ∀ {l : List Int} {p : Option Int}, risingFrom lo hi p l = true → ∀ x ∈ l, lo ≤ x ∧ x ≤ hi
  | [], _, _, x, hx => by cases hx
  | y :: l, p, h, x, hx => by
    have h2 : inR y lo hi = true ∧ risingFrom lo hi (some y) l = true := by
      cases p <;> simp [risingFrom] at h <;> simp [h]
    rcases List.mem_cons.1 hx with rfl | h3
    · simpa [inR] using h2.1
    · exact rising_in h2.2 x h3

-- loop.example/g01020/spec.l1Rising
set_option maxHeartbeats 1000000 in
theorem l1Rising_con (l : List Int) (lo hi : Int) (hl : l.length ≤ 1048576) : Con Try.prog 59 [.sl (l.map (V.int .i64)), .int .i64 lo, .int .i64 hi] [] (.bool (risingAt lo hi l 0)) [] := by
  refine v_con [.tmp 6] [] Try.func59 rfl rfl rfl (by simp [Try.ntmps59]) ?_
  intro Q0 n0 r0
  simp only [Try.ntmps59, envFrom, Nat.reduceAdd]
  refine v_seq ?_; intro Q1 n1 e1 r1  -- SEQ 0
  refine v_region ?_; intro K2 k2
  -- 6 := assign c<false>
  refine v_op ?_; intro K k
  simp only [zE, zS, aStepM, optable, set_some, Nat.reduceEqDiff, reduceIte, Nat.reduceLT, implies_true, forall_const, reduceCtorEq, V.ofValue, V.ofScalar, V.un, V.gd, aExec, aop, Nat.reduceAdd]
  repeat (refine And.intro (by first | omega | (intros; omega) | (intros; simp_all; done) | (intros; simp_all; omega)) ?_)
  refine k _ ?_; clear k K
  refine k2 _ ?_
  refine n1 _ _ (weak_keep [0, 1, 2] _) ?_
  simp only [keep_mk, keepE_nil, keepE_cons, look_cons, look_nil, Nat.reduceEqDiff, reduceIte]
  refine v_seq ?_; intro Q3 n3 e3 r3  -- SEQ 1
  refine v_seq ?_; intro Q4 n4 e4 r4  -- SEQ 2
  refine v_region ?_; intro K5 k5
  -- 9 := move t0
  refine v_op ?_; intro K k
  simp only [zE, aStepM, optable, set_some, Nat.reduceEqDiff, reduceIte, Nat.reduceLT, implies_true, forall_const, reduceCtorEq, V.ofValue, V.ofScalar, V.un, V.gd, aExec, aop]
  repeat (refine And.intro (by first | omega | (intros; omega) | (intros; simp_all; done) | (intros; simp_all; omega)) ?_)
  refine k _ ?_; clear k K
  -- 10 := call b Go.Builtin.len t9 | 33
  refine v_op ?_; intro K k
  simp only [zE, zL, zN, aStepM, optable, set_some, Nat.reduceEqDiff, reduceIte, Nat.reduceLT, implies_true, forall_const, reduceCtorEq, V.ofValue, V.ofScalar, V.un, V.gd, aExec, aop, List.length_map, aLen, lenOK, row_mk, Blk.row, List.size_toArray, List.getD_eq_getElem?_getD, Array.getD_eq_getD_getElem?, Option.getD_some, Nat.reduceAdd, Nat.reduceLeDiff, Nat.reduceMul, Try.underlying3, Ty.c3, Ty.a3, Ty.b3, Ty.s3, Try.underlying33, Ty.c33, Ty.a33, Ty.b33, Ty.s33]
  repeat (refine And.intro (by first | omega | (intros; omega) | (intros; simp_all; done) | (intros; simp_all; omega)) ?_)
  refine k _ ?_; clear k K
  -- 11 := move c<0:i64>
  refine v_op ?_; intro K k
  simp only [zE, aStepM, optable, set_some, Nat.reduceEqDiff, reduceIte, Nat.reduceLT, implies_true, forall_const, reduceCtorEq, V.ofValue, V.ofScalar, V.un, V.gd, aExec, aop]
  repeat (refine And.intro (by first | omega | (intros; omega) | (intros; simp_all; done) | (intros; simp_all; omega)) ?_)
  refine k _ ?_; clear k K
  refine k5 _ ?_
  refine n4 _ _ (weak_keep [0, 1, 2, 9, 10, 11] _) ?_
  simp only [keep_mk, keepE_nil, keepE_cons, look_cons, look_nil, Nat.reduceEqDiff, reduceIte]
  refine v_block ?_; intro Q6 n6 x6 e6 r6
  refine v_loop (fun i => ⟨[(0, .sl (l.map (V.int .i64))), (1, .int .i64 lo), (2, .int .i64 hi), (9, .sl (l.map (V.int .i64))), (10, .int .i64 l.length), (11, .int .i64 (Nat.cast i))], [], false, 35, 0⟩) (fun i => i ≤ l.length ∧ risingAt lo hi l i = risingAt lo hi l 0) (fun i => l.length - i) 0 ?_ ?_ ?_
  · refine weak_of [0, 1, 2, 9, 10, 11] ?_
    simp only [keep_mk, keepE_nil, keepE_cons, look_cons, look_nil, Nat.reduceEqDiff, reduceIte]
    rfl
  · exact ⟨Nat.zero_le _, rfl⟩
  · rintro i hok7 Q7 n7 e7 r7
    obtain ⟨hi1, hR⟩ := hok7
    refine v_seq ?_; intro Q8 n8 e8 r8  -- SEQ 3
    refine v_region ?_; intro K9 k9
    -- 12 := binOp Go.BinOp.lss 3 t11 t10 3
    refine v_op ?_; intro K k
    simp only [zE, aStepM, optable, set_some, Nat.reduceEqDiff, reduceIte, Nat.reduceLT, implies_true, forall_const, reduceCtorEq, V.ofValue, V.ofScalar, V.un, V.gd, aExec, aop, aBin, Try.underlying3]
    repeat (refine And.intro (by first | omega | (intros; omega) | (intros; simp_all; done) | (intros; simp_all; omega)) ?_)
    refine k _ ?_; clear k K
    refine k9 _ ?_
    refine n8 _ _ (weak_keep [0, 1, 2, 9, 10, 11, 12] _) ?_
    simp only [keep_mk, keepE_nil, keepE_cons, look_cons, look_nil, Nat.reduceEqDiff, reduceIte]
    refine v_seq ?_; intro Q10 n10 e10 r10  -- SEQ 4
    refine v_cond _ rfl ?_ ?_  -- COND 0
    · intro hc0
      try simp only [zC, reduceCtorEq] at hc0
      have hlt : i < l.length := by omega
      obtain ⟨x, hx⟩ : ∃ x, l[i]? = some x := ⟨l[i], List.getElem?_eq_getElem hlt⟩
      rcases Nat.eq_zero_or_pos i with h0 | h0
      · skip
        have hi0 : ¬ ((0 : Int) < (i : Int)) := by omega
        have hstep : risingAt lo hi l i = (inR x lo hi && risingAt lo hi l (i + 1)) := by subst h0; exact risingAt_zero hx
        refine v_skip ?_
        refine n10 _ _ (weak_keep [0, 1, 2, 9, 10, 11] _) ?_
        simp only [keep_mk, keepE_nil, keepE_cons, look_cons, look_nil, Nat.reduceEqDiff, reduceIte]
        refine v_seq ?_; intro Q12 n12 e12 r12  -- SEQ 5
        refine v_block ?_; intro Q13 n13 x13 e13 r13
        refine v_seq ?_; intro Q14 n14 e14 r14  -- SEQ 6
        refine v_region ?_; intro K15 k15
        -- 13 := move t11
        refine v_op ?_; intro K k
        simp only [zE, aStepM, optable, set_some, Nat.reduceEqDiff, reduceIte, Nat.reduceLT, implies_true, forall_const, reduceCtorEq, V.ofValue, V.ofScalar, V.un, V.gd, aExec, aop, getD_map hx, hi0, decide_false, Bool.and_false]
        repeat (refine And.intro (by first | omega | (intros; omega) | (intros; simp_all; done) | (intros; simp_all; omega)) ?_)
        refine k _ ?_; clear k K
        -- 14 := indexAddr 33 t9 t11
        refine v_op ?_; intro K k
        simp only [zE, zL, zN, aStepM, optable, set_some, Nat.reduceEqDiff, reduceIte, Nat.reduceLT, implies_true, forall_const, reduceCtorEq, V.ofValue, V.ofScalar, V.un, V.gd, aExec, aop, aIndexAddr, row_mk, Blk.row, Go.Vm.V.cells, List.forall_mem_map, List.length_map, Int.toNat_natCast, Int.reduceToNat, TypeDesc.slice.injEq, Nat.reduceAdd, Nat.reduceLeDiff, Nat.reduceMul, Try.underlying3, Ty.c3, Ty.a3, Try.underlying33, Ty.c33, Ty.a33, getD_map hx, hi0, decide_false, Bool.and_false]
        repeat (refine And.intro (by first | omega | (intros; omega) | (intros; simp_all; done) | (intros; simp_all; omega)) ?_)
        refine k _ ?_; clear k K
        -- 15 := load 3 t14
        refine v_op ?_; intro K k
        simp only [zE, zL, zO, zN, aStepM, optable, set_some, Nat.reduceEqDiff, reduceIte, Nat.reduceLT, implies_true, forall_const, reduceCtorEq, V.ofValue, V.ofScalar, V.un, V.gd, aExec, aop, aLoad, row_mk, Blk.row, PartOK, Go.Vm.part, V.cells, V.noSl, V.noRef, Nat.reduceAdd, Nat.reduceLeDiff, Nat.reduceMul, Try.underlying3, Ty.c3, Ty.a3, getD_map hx, hi0]
        repeat (refine And.intro (by first | omega | (intros; omega) | (intros; simp_all; done) | (intros; simp_all; omega)) ?_)
        refine k _ ?_; clear k K
        -- 7 := assign t13
        refine v_op ?_; intro K k
        simp only [zE, zS, aStepM, optable, set_some, Nat.reduceEqDiff, reduceIte, Nat.reduceLT, implies_true, forall_const, reduceCtorEq, V.ofValue, V.ofScalar, V.un, V.gd, aExec, aop, Nat.reduceAdd, getD_map hx, hi0, decide_false, Bool.and_false]
        repeat (refine And.intro (by first | omega | (intros; omega) | (intros; simp_all; done) | (intros; simp_all; omega)) ?_)
        refine k _ ?_; clear k K
        -- 8 := assign t15
        refine v_op ?_; intro K k
        simp only [zE, zS, aStepM, optable, set_some, Nat.reduceEqDiff, reduceIte, Nat.reduceLT, implies_true, forall_const, reduceCtorEq, V.ofValue, V.ofScalar, V.un, V.gd, aExec, aop, Nat.reduceAdd, getD_map hx, hi0, decide_false, Bool.and_false]
        repeat (refine And.intro (by first | omega | (intros; omega) | (intros; simp_all; done) | (intros; simp_all; omega)) ?_)
        refine k _ ?_; clear k K
        refine k15 _ ?_
        refine n14 _ _ (weak_keep [0, 1, 2, 7, 8, 9, 10, 11] _) ?_
        simp only [keep_mk, keepE_nil, keepE_cons, look_cons, look_nil, Nat.reduceEqDiff, reduceIte]
        refine v_seq ?_; intro Q16 n16 e16 r16  -- SEQ 7
        refine v_region ?_; intro K17 k17
        -- 16 := move t8
        refine v_op ?_; intro K k
        simp only [zE, aStepM, optable, set_some, Nat.reduceEqDiff, reduceIte, Nat.reduceLT, implies_true, forall_const, reduceCtorEq, V.ofValue, V.ofScalar, V.un, V.gd, aExec, aop, getD_map hx, hi0, decide_false, Bool.and_false]
        repeat (refine And.intro (by first | omega | (intros; omega) | (intros; simp_all; done) | (intros; simp_all; omega)) ?_)
        refine k _ ?_; clear k K
        -- 17 := move t1
        refine v_op ?_; intro K k
        simp only [zE, aStepM, optable, set_some, Nat.reduceEqDiff, reduceIte, Nat.reduceLT, implies_true, forall_const, reduceCtorEq, V.ofValue, V.ofScalar, V.un, V.gd, aExec, aop, getD_map hx, hi0, decide_false, Bool.and_false]
        repeat (refine And.intro (by first | omega | (intros; omega) | (intros; simp_all; done) | (intros; simp_all; omega)) ?_)
        refine k _ ?_; clear k K
        -- 18 := move t2
        refine v_op ?_; intro K k
        simp only [zE, aStepM, optable, set_some, Nat.reduceEqDiff, reduceIte, Nat.reduceLT, implies_true, forall_const, reduceCtorEq, V.ofValue, V.ofScalar, V.un, V.gd, aExec, aop, getD_map hx, hi0, decide_false, Bool.and_false]
        repeat (refine And.intro (by first | omega | (intros; omega) | (intros; simp_all; done) | (intros; simp_all; omega)) ?_)
        refine k _ ?_; clear k K
        -- 19 := call v f57 t16 t17 t18 | 3 3 3
        refine v_op ?_; intro K k
        simp only [zE, zM, aStepM, optable, set_some, Nat.reduceEqDiff, reduceIte, Nat.reduceLT, implies_true, forall_const, reduceCtorEq, V.ofValue, V.ofScalar, V.un, V.gd, aExec, lentIds, lendOf, Try.underlying3, Ty.c3, Ty.a3, Ty.b3, Ty.s3, Try.underlying4, Ty.c4, Ty.a4, Ty.b4, Ty.s4]
        repeat (refine And.intro (by first | rfl | (intros; simp_all; done)) ?_)
        refine aCall_new (l1In_con _ _ _) (by first | rfl | (simp only [toArgs, toArg, toCell, toCells, idx, row_mk, List.getElem?_cons_zero, List.getElem?_cons_succ, Option.bind_some, Option.map_some, Blk.row, fillK_mix, flat_mix, deep_mix, cond_true]; done) | (simp [toArgs, toArg, toCell, toCells, idx, row_mk, Blk.row, fillK_mix, Nat.beq_refl]; done)) (by first | exact .inl ⟨rfl, by simp [Blk.kindIs, fillK_fd]⟩ | exact .inr (by simp [V.cold])) ?_
        refine k _ ?_; clear k K
        simp only [zY, zW, set_some, Nat.reduceEqDiff, reduceIte, V.ren, V.renL, rho, Nat.reduceAdd]
        -- 20 := unOp Go.UnOp.not 4 t19
        refine v_op ?_; intro K k
        simp only [zE, aStepM, optable, set_some, Nat.reduceEqDiff, reduceIte, Nat.reduceLT, implies_true, forall_const, reduceCtorEq, V.ofValue, V.ofScalar, V.un, V.gd, aExec, aop, aUn, Try.underlying4, getD_map hx, hi0, decide_false, Bool.and_false]
        repeat (refine And.intro (by first | omega | (intros; omega) | (intros; simp_all; done) | (intros; simp_all; omega)) ?_)
        refine k _ ?_; clear k K
        -- 21 := move t20
        refine v_op ?_; intro K k
        simp only [zE, aStepM, optable, set_some, Nat.reduceEqDiff, reduceIte, Nat.reduceLT, implies_true, forall_const, reduceCtorEq, V.ofValue, V.ofScalar, V.un, V.gd, aExec, aop, getD_map hx, hi0, decide_false, Bool.and_false]
        repeat (refine And.intro (by first | omega | (intros; omega) | (intros; simp_all; done) | (intros; simp_all; omega)) ?_)
        refine k _ ?_; clear k K
        -- 22 := move t7
        first
        | refine v_pass 22 5 false rfl (show 22 < 35 by decide) rfl ?_ ?_
          · first | rfl | (simp only [zV, guardV, Nat.reduceEqDiff, reduceIte]; done)
          simp only [zW, set_some, Nat.reduceEqDiff, reduceIte]
        | skip
          -- 22 := move t7
          refine v_op ?_; intro K k
          simp only [zE, zG, aStepM, optable, set_some, Nat.reduceEqDiff, reduceIte, Nat.reduceLT, implies_true, forall_const, reduceCtorEq, V.ofValue, V.ofScalar, V.un, V.gd, guardV, V.wrap, aExec, aop, getD_map hx, hi0, decide_false, Bool.and_false]
          repeat (refine And.intro (by first | omega | (intros; omega) | (intros; simp_all; done) | (intros; simp_all; omega)) ?_)
          refine k _ ?_; clear k K
        -- 23 := binOp Go.BinOp.gtr 3 t22 c<0:i64> 3
        first
        | refine v_pass 23 5 false rfl (show 23 < 35 by decide) rfl ?_ ?_
          · first | rfl | (simp only [zV, guardV, Nat.reduceEqDiff, reduceIte]; done)
          simp only [zW, set_some, Nat.reduceEqDiff, reduceIte]
        | skip
          -- 23 := binOp Go.BinOp.gtr 3 t22 c<0:i64> 3
          refine v_op ?_; intro K k
          simp only [zE, zG, aStepM, optable, set_some, Nat.reduceEqDiff, reduceIte, Nat.reduceLT, implies_true, forall_const, reduceCtorEq, V.ofValue, V.ofScalar, V.un, V.gd, guardV, V.wrap, aExec, aop, aBin, Try.underlying3, getD_map hx, hi0, decide_false, Bool.and_false]
          repeat (refine And.intro (by first | omega | (intros; omega) | (intros; simp_all; done) | (intros; simp_all; omega)) ?_)
          refine k _ ?_; clear k K
        -- 24 := move t23
        first
        | refine v_pass 24 5 false rfl (show 24 < 35 by decide) rfl ?_ ?_
          · first | rfl | (simp only [zV, guardV, Nat.reduceEqDiff, reduceIte]; done)
          simp only [zW, set_some, Nat.reduceEqDiff, reduceIte]
        | skip
          -- 24 := move t23
          refine v_op ?_; intro K k
          simp only [zE, zG, aStepM, optable, set_some, Nat.reduceEqDiff, reduceIte, Nat.reduceLT, implies_true, forall_const, reduceCtorEq, V.ofValue, V.ofScalar, V.un, V.gd, guardV, V.wrap, aExec, aop, getD_map hx, hi0, decide_false, Bool.and_false]
          repeat (refine And.intro (by first | omega | (intros; omega) | (intros; simp_all; done) | (intros; simp_all; omega)) ?_)
          refine k _ ?_; clear k K
        -- 25 := move t0
        first
        | refine v_pass 25 8 true rfl (show 25 < 35 by decide) rfl ?_ ?_
          · first | rfl | (simp only [zV, guardV, Nat.reduceEqDiff, reduceIte]; done)
          simp only [zW, set_some, Nat.reduceEqDiff, reduceIte]
        | skip
          -- 25 := move t0
          refine v_op ?_; intro K k
          simp only [zE, zG, aStepM, optable, set_some, Nat.reduceEqDiff, reduceIte, Nat.reduceLT, implies_true, forall_const, reduceCtorEq, V.ofValue, V.ofScalar, V.un, V.gd, guardV, V.wrap, aExec, aop, getD_map hx, hi0, decide_false, Bool.and_false]
          repeat (refine And.intro (by first | omega | (intros; omega) | (intros; simp_all; done) | (intros; simp_all; omega)) ?_)
          refine k _ ?_; clear k K
        -- 26 := move t7
        first
        | refine v_pass 26 8 true rfl (show 26 < 35 by decide) rfl ?_ ?_
          · first | rfl | (simp only [zV, guardV, Nat.reduceEqDiff, reduceIte]; done)
          simp only [zW, set_some, Nat.reduceEqDiff, reduceIte]
        | skip
          -- 26 := move t7
          refine v_op ?_; intro K k
          simp only [zE, zG, aStepM, optable, set_some, Nat.reduceEqDiff, reduceIte, Nat.reduceLT, implies_true, forall_const, reduceCtorEq, V.ofValue, V.ofScalar, V.un, V.gd, guardV, V.wrap, aExec, aop, getD_map hx, hi0, decide_false, Bool.and_false]
          repeat (refine And.intro (by first | omega | (intros; omega) | (intros; simp_all; done) | (intros; simp_all; omega)) ?_)
          refine k _ ?_; clear k K
        -- 27 := binOp Go.BinOp.sub 3 t26 c<1:i64> 3
        first
        | refine v_pass 27 8 true rfl (show 27 < 35 by decide) rfl ?_ ?_
          · first | rfl | (simp only [zV, guardV, Nat.reduceEqDiff, reduceIte]; done)
          simp only [zW, set_some, Nat.reduceEqDiff, reduceIte]
        | skip
          -- 27 := binOp Go.BinOp.sub 3 t26 c<1:i64> 3
          refine v_op ?_; intro K k
          simp only [zE, zG, aStepM, optable, set_some, Nat.reduceEqDiff, reduceIte, Nat.reduceLT, implies_true, forall_const, reduceCtorEq, V.ofValue, V.ofScalar, V.un, V.gd, guardV, V.wrap, aExec, aop, aBin, Try.underlying3, getD_map hx, hi0, decide_false, Bool.and_false]
          try simp (disch := omega) only [wrap64]
          repeat (refine And.intro (by first | omega | (intros; omega) | (intros; simp_all; done) | (intros; simp_all; omega)) ?_)
          refine k _ ?_; clear k K
        -- 28 := indexAddr 33 t25 t27
        first
        | refine v_pass 28 8 true rfl (show 28 < 35 by decide) rfl ?_ ?_
          · first | rfl | (simp only [zV, guardV, Nat.reduceEqDiff, reduceIte]; done)
          simp only [zW, set_some, Nat.reduceEqDiff, reduceIte]
        | skip
          -- 28 := indexAddr 33 t25 t27
          refine v_op ?_; intro K k
          simp only [zE, zL, zN, aStepM, optable, set_some, Nat.reduceEqDiff, reduceIte, Nat.reduceLT, implies_true, forall_const, reduceCtorEq, V.ofValue, V.ofScalar, V.un, V.gd, guardV, V.wrap, aExec, aop, aIndexAddr, row_mk, Blk.row, Go.Vm.V.cells, List.forall_mem_map, List.length_map, Int.toNat_natCast, Int.reduceToNat, TypeDesc.slice.injEq, Nat.reduceAdd, Nat.reduceLeDiff, Nat.reduceMul, Try.underlying3, Ty.c3, Ty.a3, Try.underlying33, Ty.c33, Ty.a33, getD_map hx, hi0, decide_false, Bool.and_false]
          repeat (refine And.intro (by first | omega | (intros; omega) | (intros; simp_all; done) | (intros; simp_all; omega)) ?_)
          refine k _ ?_; clear k K
        -- 29 := load 3 t28
        first
        | refine v_pass 29 8 true rfl (show 29 < 35 by decide) rfl ?_ ?_
          · first | rfl | (simp only [zV, guardV, Nat.reduceEqDiff, reduceIte]; done)
          simp only [zW, set_some, Nat.reduceEqDiff, reduceIte]
        | skip
          -- 29 := load 3 t28
          refine v_op ?_; intro K k
          simp only [zE, zL, zO, zN, aStepM, optable, set_some, Nat.reduceEqDiff, reduceIte, Nat.reduceLT, implies_true, forall_const, reduceCtorEq, V.ofValue, V.ofScalar, V.un, V.gd, guardV, V.wrap, aExec, aop, aLoad, row_mk, Blk.row, PartOK, Go.Vm.part, V.cells, V.noSl, V.noRef, Nat.reduceAdd, Nat.reduceLeDiff, Nat.reduceMul, Try.underlying3, Ty.c3, Ty.a3, getD_map hx, hi0]
          repeat (refine And.intro (by first | omega | (intros; omega) | (intros; simp_all; done) | (intros; simp_all; omega)) ?_)
          refine k _ ?_; clear k K
        -- 30 := move t8
        first
        | refine v_pass 30 8 true rfl (show 30 < 35 by decide) rfl ?_ ?_
          · first | rfl | (simp only [zV, guardV, Nat.reduceEqDiff, reduceIte]; done)
          simp only [zW, set_some, Nat.reduceEqDiff, reduceIte]
        | skip
          -- 30 := move t8
          refine v_op ?_; intro K k
          simp only [zE, zG, aStepM, optable, set_some, Nat.reduceEqDiff, reduceIte, Nat.reduceLT, implies_true, forall_const, reduceCtorEq, V.ofValue, V.ofScalar, V.un, V.gd, guardV, V.wrap, aExec, aop, getD_map hx, hi0, decide_false, Bool.and_false]
          repeat (refine And.intro (by first | omega | (intros; omega) | (intros; simp_all; done) | (intros; simp_all; omega)) ?_)
          refine k _ ?_; clear k K
        -- 31 := binOp Go.BinOp.geq 3 t29 t30 3
        first
        | refine v_pass 31 8 true rfl (show 31 < 35 by decide) rfl ?_ ?_
          · first | rfl | (simp only [zV, guardV, Nat.reduceEqDiff, reduceIte]; done)
          simp only [zW, set_some, Nat.reduceEqDiff, reduceIte]
        | skip
          -- 31 := binOp Go.BinOp.geq 3 t29 t30 3
          refine v_op ?_; intro K k
          simp only [zE, zG, aStepM, optable, set_some, Nat.reduceEqDiff, reduceIte, Nat.reduceLT, implies_true, forall_const, reduceCtorEq, V.ofValue, V.ofScalar, V.un, V.gd, guardV, V.wrap, aExec, aop, aBin, Try.underlying3, getD_map hx, hi0, decide_false, Bool.and_false]
          repeat (refine And.intro (by first | omega | (intros; omega) | (intros; simp_all; done) | (intros; simp_all; omega)) ?_)
          refine k _ ?_; clear k K
        -- 32 := pick t24 t31 c<false>
        first
        | refine v_pass 32 5 false rfl (show 32 < 35 by decide) rfl ?_ ?_
          · first | rfl | (simp only [zV, guardV, Nat.reduceEqDiff, reduceIte]; done)
          simp only [zW, set_some, Nat.reduceEqDiff, reduceIte]
        | skip
          -- 32 := pick t24 t31 c<false>
          refine v_op ?_; intro K k
          simp only [zE, zP, zG, aStepM, optable, set_some, Nat.reduceEqDiff, reduceIte, Nat.reduceLT, implies_true, forall_const, reduceCtorEq, V.ofValue, V.ofScalar, V.un, V.gd, guardV, V.wrap, aExec, aop, pickV, getD_map hx, hi0, decide_false, Bool.and_false]
          repeat (refine And.intro (by first | omega | (intros; omega) | (intros; simp_all; done) | (intros; simp_all; omega)) ?_)
          refine k _ ?_; clear k K
        -- 33 := pick t21 c<true> t32
        refine v_op ?_; intro K k
        simp only [zE, zP, aStepM, optable, set_some, Nat.reduceEqDiff, reduceIte, Nat.reduceLT, implies_true, forall_const, reduceCtorEq, V.ofValue, V.ofScalar, V.un, V.gd, aExec, aop, pickV, getD_map hx, hi0, decide_false, Bool.and_false]
        repeat (refine And.intro (by first | omega | (intros; omega) | (intros; simp_all; done) | (intros; simp_all; omega)) ?_)
        refine k _ ?_; clear k K
        refine k17 _ ?_
        refine n16 _ _ (weak_keep [0, 1, 2, 9, 10, 11, 33] _) ?_
        simp only [keep_mk, keepE_nil, keepE_cons, look_cons, look_nil, Nat.reduceEqDiff, reduceIte]
        refine v_cond _ rfl ?_ ?_  -- COND 1
        · intro hc1
          try simp only [zC, reduceCtorEq] at hc1
          refine v_seq ?_; intro Q19 n19 e19 r19  -- SEQ 8
          refine v_region ?_; intro K20 k20
          -- 6 := assign c<false>
          refine v_op ?_; intro K k
          simp only [zE, zS, aStepM, optable, set_some, Nat.reduceEqDiff, reduceIte, Nat.reduceLT, implies_true, forall_const, reduceCtorEq, V.ofValue, V.ofScalar, V.un, V.gd, aExec, aop, Nat.reduceAdd, getD_map hx, hi0, decide_false, Bool.and_false]
          repeat (refine And.intro (by first | omega | (intros; omega) | (intros; simp_all; done) | (intros; simp_all; omega)) ?_)
          refine k _ ?_; clear k K
          refine k20 _ ?_
          refine n19 _ _ (weak_keep [6] _) ?_
          simp only [keep_mk, keepE_nil, keepE_cons, look_cons, look_nil, Nat.reduceEqDiff, reduceIte]
          refine v_ret ?_
          refine r13 _ ?_
          refine r12 _ ?_
          refine r7 _ ?_
          refine r6 _ ?_
          refine r3 _ ?_
          refine r0 _ ?_
          simp only [resK, pickRV, get_mk, look_cons, look_nil, Nat.reduceEqDiff, reduceIte, List.map_cons, List.map_nil]
          exact ret_pure rfl (by rw [← hR, hstep]; congr 1; simp [inR]; intros; omega) (.inl rfl)
        · intro hc1
          try simp only [zC, reduceCtorEq] at hc1
          refine v_skip ?_
          refine n13 _ ?_
          refine n12 _ _ (weak_keep [0, 1, 2, 9, 10, 11] _) ?_
          simp only [keep_mk, keepE_nil, keepE_cons, look_cons, look_nil, Nat.reduceEqDiff, reduceIte]
          refine v_region ?_; intro K21 k21
          -- 34 := binOp Go.BinOp.add 3 t11 c<1:i64> 3
          refine v_op ?_; intro K k
          simp only [zE, aStepM, optable, set_some, Nat.reduceEqDiff, reduceIte, Nat.reduceLT, implies_true, forall_const, reduceCtorEq, V.ofValue, V.ofScalar, V.un, V.gd, aExec, aop, aBin, Try.underlying3, getD_map hx, hi0, decide_false, Bool.and_false]
          try simp (disch := omega) only [wrap64]
          repeat (refine And.intro (by first | omega | (intros; omega) | (intros; simp_all; done) | (intros; simp_all; omega)) ?_)
          refine k _ ?_; clear k K
          -- 11 := move t34
          refine v_op ?_; intro K k
          simp only [zE, aStepM, optable, set_some, Nat.reduceEqDiff, reduceIte, Nat.reduceLT, implies_true, forall_const, reduceCtorEq, V.ofValue, V.ofScalar, V.un, V.gd, aExec, aop, getD_map hx, hi0, decide_false, Bool.and_false]
          repeat (refine And.intro (by first | omega | (intros; omega) | (intros; simp_all; done) | (intros; simp_all; omega)) ?_)
          refine k _ ?_; clear k K
          refine k21 _ ?_
          refine n7 _ (i + 1) ?_ ?_ ?_
          · refine weak_of [0, 1, 2, 9, 10, 11] ?_
            simp only [keep_mk, keepE_nil, keepE_cons, look_cons, look_nil, Nat.reduceEqDiff, reduceIte]
            rfl
          · exact ⟨by omega, by rw [← hR, hstep]; simp [inR]; intros; omega⟩
          · show _ < _; omega
      · skip
        obtain ⟨y, hy⟩ : ∃ y, l[i - 1]? = some y := ⟨l[i - 1], List.getElem?_eq_getElem (by omega)⟩
        have hi0 : (0 : Int) < i := by omega
        have hk : ((i : Int) - 1).toNat = i - 1 := by omega
        have hstep := risingAt_succ (lo := lo) (hi := hi) h0 hy hx
        refine v_skip ?_
        refine n10 _ _ (weak_keep [0, 1, 2, 9, 10, 11] _) ?_
        simp only [keep_mk, keepE_nil, keepE_cons, look_cons, look_nil, Nat.reduceEqDiff, reduceIte]
        refine v_seq ?_; intro Q22 n22 e22 r22  -- SEQ 9
        refine v_block ?_; intro Q23 n23 x23 e23 r23
        refine v_seq ?_; intro Q24 n24 e24 r24  -- SEQ 10
        refine v_region ?_; intro K25 k25
        -- 13 := move t11
        refine v_op ?_; intro K k
        simp only [zE, aStepM, optable, set_some, Nat.reduceEqDiff, reduceIte, Nat.reduceLT, implies_true, forall_const, reduceCtorEq, V.ofValue, V.ofScalar, V.un, V.gd, aExec, aop, getD_map hx, hi0, hk, getD_map hy, decide_true, Bool.and_true]
        repeat (refine And.intro (by first | omega | (intros; omega) | (intros; simp_all; done) | (intros; simp_all; omega)) ?_)
        refine k _ ?_; clear k K
        -- 14 := indexAddr 33 t9 t11
        refine v_op ?_; intro K k
        simp only [zE, zL, zN, aStepM, optable, set_some, Nat.reduceEqDiff, reduceIte, Nat.reduceLT, implies_true, forall_const, reduceCtorEq, V.ofValue, V.ofScalar, V.un, V.gd, aExec, aop, aIndexAddr, row_mk, Blk.row, Go.Vm.V.cells, List.forall_mem_map, List.length_map, Int.toNat_natCast, Int.reduceToNat, TypeDesc.slice.injEq, Nat.reduceAdd, Nat.reduceLeDiff, Nat.reduceMul, Try.underlying3, Ty.c3, Ty.a3, Try.underlying33, Ty.c33, Ty.a33, getD_map hx, hi0, hk, getD_map hy, decide_true, Bool.and_true]
        repeat (refine And.intro (by first | omega | (intros; omega) | (intros; simp_all; done) | (intros; simp_all; omega)) ?_)
        refine k _ ?_; clear k K
        -- 15 := load 3 t14
        refine v_op ?_; intro K k
        simp only [zE, zL, zO, zN, aStepM, optable, set_some, Nat.reduceEqDiff, reduceIte, Nat.reduceLT, implies_true, forall_const, reduceCtorEq, V.ofValue, V.ofScalar, V.un, V.gd, aExec, aop, aLoad, row_mk, Blk.row, PartOK, Go.Vm.part, V.cells, V.noSl, V.noRef, Nat.reduceAdd, Nat.reduceLeDiff, Nat.reduceMul, Try.underlying3, Ty.c3, Ty.a3, getD_map hx, hi0, hk, getD_map hy]
        repeat (refine And.intro (by first | omega | (intros; omega) | (intros; simp_all; done) | (intros; simp_all; omega)) ?_)
        refine k _ ?_; clear k K
        -- 7 := assign t13
        refine v_op ?_; intro K k
        simp only [zE, zS, aStepM, optable, set_some, Nat.reduceEqDiff, reduceIte, Nat.reduceLT, implies_true, forall_const, reduceCtorEq, V.ofValue, V.ofScalar, V.un, V.gd, aExec, aop, Nat.reduceAdd, getD_map hx, hi0, hk, getD_map hy, decide_true, Bool.and_true]
        repeat (refine And.intro (by first | omega | (intros; omega) | (intros; simp_all; done) | (intros; simp_all; omega)) ?_)
        refine k _ ?_; clear k K
        -- 8 := assign t15
        refine v_op ?_; intro K k
        simp only [zE, zS, aStepM, optable, set_some, Nat.reduceEqDiff, reduceIte, Nat.reduceLT, implies_true, forall_const, reduceCtorEq, V.ofValue, V.ofScalar, V.un, V.gd, aExec, aop, Nat.reduceAdd, getD_map hx, hi0, hk, getD_map hy, decide_true, Bool.and_true]
        repeat (refine And.intro (by first | omega | (intros; omega) | (intros; simp_all; done) | (intros; simp_all; omega)) ?_)
        refine k _ ?_; clear k K
        refine k25 _ ?_
        refine n24 _ _ (weak_keep [0, 1, 2, 7, 8, 9, 10, 11] _) ?_
        simp only [keep_mk, keepE_nil, keepE_cons, look_cons, look_nil, Nat.reduceEqDiff, reduceIte]
        refine v_seq ?_; intro Q26 n26 e26 r26  -- SEQ 11
        refine v_region ?_; intro K27 k27
        -- 16 := move t8
        refine v_op ?_; intro K k
        simp only [zE, aStepM, optable, set_some, Nat.reduceEqDiff, reduceIte, Nat.reduceLT, implies_true, forall_const, reduceCtorEq, V.ofValue, V.ofScalar, V.un, V.gd, aExec, aop, getD_map hx, hi0, hk, getD_map hy, decide_true, Bool.and_true]
        repeat (refine And.intro (by first | omega | (intros; omega) | (intros; simp_all; done) | (intros; simp_all; omega)) ?_)
        refine k _ ?_; clear k K
        -- 17 := move t1
        refine v_op ?_; intro K k
        simp only [zE, aStepM, optable, set_some, Nat.reduceEqDiff, reduceIte, Nat.reduceLT, implies_true, forall_const, reduceCtorEq, V.ofValue, V.ofScalar, V.un, V.gd, aExec, aop, getD_map hx, hi0, hk, getD_map hy, decide_true, Bool.and_true]
        repeat (refine And.intro (by first | omega | (intros; omega) | (intros; simp_all; done) | (intros; simp_all; omega)) ?_)
        refine k _ ?_; clear k K
        -- 18 := move t2
        refine v_op ?_; intro K k
        simp only [zE, aStepM, optable, set_some, Nat.reduceEqDiff, reduceIte, Nat.reduceLT, implies_true, forall_const, reduceCtorEq, V.ofValue, V.ofScalar, V.un, V.gd, aExec, aop, getD_map hx, hi0, hk, getD_map hy, decide_true, Bool.and_true]
        repeat (refine And.intro (by first | omega | (intros; omega) | (intros; simp_all; done) | (intros; simp_all; omega)) ?_)
        refine k _ ?_; clear k K
        -- 19 := call v f57 t16 t17 t18 | 3 3 3
        refine v_op ?_; intro K k
        simp only [zE, zM, aStepM, optable, set_some, Nat.reduceEqDiff, reduceIte, Nat.reduceLT, implies_true, forall_const, reduceCtorEq, V.ofValue, V.ofScalar, V.un, V.gd, aExec, lentIds, lendOf, Try.underlying3, Ty.c3, Ty.a3, Ty.b3, Ty.s3, Try.underlying4, Ty.c4, Ty.a4, Ty.b4, Ty.s4]
        repeat (refine And.intro (by first | rfl | (intros; simp_all; done)) ?_)
        refine aCall_new (l1In_con _ _ _) (by first | rfl | (simp only [toArgs, toArg, toCell, toCells, idx, row_mk, List.getElem?_cons_zero, List.getElem?_cons_succ, Option.bind_some, Option.map_some, Blk.row, fillK_mix, flat_mix, deep_mix, cond_true]; done) | (simp [toArgs, toArg, toCell, toCells, idx, row_mk, Blk.row, fillK_mix, Nat.beq_refl]; done)) (by first | exact .inl ⟨rfl, by simp [Blk.kindIs, fillK_fd]⟩ | exact .inr (by simp [V.cold])) ?_
        refine k _ ?_; clear k K
        simp only [zY, zW, set_some, Nat.reduceEqDiff, reduceIte, V.ren, V.renL, rho, Nat.reduceAdd]
        -- 20 := unOp Go.UnOp.not 4 t19
        refine v_op ?_; intro K k
        simp only [zE, aStepM, optable, set_some, Nat.reduceEqDiff, reduceIte, Nat.reduceLT, implies_true, forall_const, reduceCtorEq, V.ofValue, V.ofScalar, V.un, V.gd, aExec, aop, aUn, Try.underlying4, getD_map hx, hi0, hk, getD_map hy, decide_true, Bool.and_true]
        repeat (refine And.intro (by first | omega | (intros; omega) | (intros; simp_all; done) | (intros; simp_all; omega)) ?_)
        refine k _ ?_; clear k K
        -- 21 := move t20
        refine v_op ?_; intro K k
        simp only [zE, aStepM, optable, set_some, Nat.reduceEqDiff, reduceIte, Nat.reduceLT, implies_true, forall_const, reduceCtorEq, V.ofValue, V.ofScalar, V.un, V.gd, aExec, aop, getD_map hx, hi0, hk, getD_map hy, decide_true, Bool.and_true]
        repeat (refine And.intro (by first | omega | (intros; omega) | (intros; simp_all; done) | (intros; simp_all; omega)) ?_)
        refine k _ ?_; clear k K
        -- 22 := move t7
        first
        | refine v_pass 22 5 false rfl (show 22 < 35 by decide) rfl ?_ ?_
          · first | rfl | (simp only [zV, guardV, Nat.reduceEqDiff, reduceIte]; done)
          simp only [zW, set_some, Nat.reduceEqDiff, reduceIte]
        | skip
          -- 22 := move t7
          refine v_op ?_; intro K k
          simp only [zE, zG, aStepM, optable, set_some, Nat.reduceEqDiff, reduceIte, Nat.reduceLT, implies_true, forall_const, reduceCtorEq, V.ofValue, V.ofScalar, V.un, V.gd, guardV, V.wrap, aExec, aop, getD_map hx, hi0, hk, getD_map hy, decide_true, Bool.and_true]
          repeat (refine And.intro (by first | omega | (intros; omega) | (intros; simp_all; done) | (intros; simp_all; omega)) ?_)
          refine k _ ?_; clear k K
        -- 23 := binOp Go.BinOp.gtr 3 t22 c<0:i64> 3
        first
        | refine v_pass 23 5 false rfl (show 23 < 35 by decide) rfl ?_ ?_
          · first | rfl | (simp only [zV, guardV, Nat.reduceEqDiff, reduceIte]; done)
          simp only [zW, set_some, Nat.reduceEqDiff, reduceIte]
        | skip
          -- 23 := binOp Go.BinOp.gtr 3 t22 c<0:i64> 3
          refine v_op ?_; intro K k
          simp only [zE, zG, aStepM, optable, set_some, Nat.reduceEqDiff, reduceIte, Nat.reduceLT, implies_true, forall_const, reduceCtorEq, V.ofValue, V.ofScalar, V.un, V.gd, guardV, V.wrap, aExec, aop, aBin, Try.underlying3, getD_map hx, hi0, hk, getD_map hy, decide_true, Bool.and_true]
          repeat (refine And.intro (by first | omega | (intros; omega) | (intros; simp_all; done) | (intros; simp_all; omega)) ?_)
          refine k _ ?_; clear k K
        -- 24 := move t23
        first
        | refine v_pass 24 5 false rfl (show 24 < 35 by decide) rfl ?_ ?_
          · first | rfl | (simp only [zV, guardV, Nat.reduceEqDiff, reduceIte]; done)
          simp only [zW, set_some, Nat.reduceEqDiff, reduceIte]
        | skip
          -- 24 := move t23
          refine v_op ?_; intro K k
          simp only [zE, zG, aStepM, optable, set_some, Nat.reduceEqDiff, reduceIte, Nat.reduceLT, implies_true, forall_const, reduceCtorEq, V.ofValue, V.ofScalar, V.un, V.gd, guardV, V.wrap, aExec, aop, getD_map hx, hi0, hk, getD_map hy, decide_true, Bool.and_true]
          repeat (refine And.intro (by first | omega | (intros; omega) | (intros; simp_all; done) | (intros; simp_all; omega)) ?_)
          refine k _ ?_; clear k K
        -- 25 := move t0
        first
        | refine v_pass 25 8 true rfl (show 25 < 35 by decide) rfl ?_ ?_
          · first | rfl | (simp only [zV, guardV, Nat.reduceEqDiff, reduceIte]; done)
          simp only [zW, set_some, Nat.reduceEqDiff, reduceIte]
        | skip
          -- 25 := move t0
          refine v_op ?_; intro K k
          simp only [zE, zG, aStepM, optable, set_some, Nat.reduceEqDiff, reduceIte, Nat.reduceLT, implies_true, forall_const, reduceCtorEq, V.ofValue, V.ofScalar, V.un, V.gd, guardV, V.wrap, aExec, aop, getD_map hx, hi0, hk, getD_map hy, decide_true, Bool.and_true]
          repeat (refine And.intro (by first | omega | (intros; omega) | (intros; simp_all; done) | (intros; simp_all; omega)) ?_)
          refine k _ ?_; clear k K
        -- 26 := move t7
        first
        | refine v_pass 26 8 true rfl (show 26 < 35 by decide) rfl ?_ ?_
          · first | rfl | (simp only [zV, guardV, Nat.reduceEqDiff, reduceIte]; done)
          simp only [zW, set_some, Nat.reduceEqDiff, reduceIte]
        | skip
          -- 26 := move t7
          refine v_op ?_; intro K k
          simp only [zE, zG, aStepM, optable, set_some, Nat.reduceEqDiff, reduceIte, Nat.reduceLT, implies_true, forall_const, reduceCtorEq, V.ofValue, V.ofScalar, V.un, V.gd, guardV, V.wrap, aExec, aop, getD_map hx, hi0, hk, getD_map hy, decide_true, Bool.and_true]
          repeat (refine And.intro (by first | omega | (intros; omega) | (intros; simp_all; done) | (intros; simp_all; omega)) ?_)
          refine k _ ?_; clear k K
        -- 27 := binOp Go.BinOp.sub 3 t26 c<1:i64> 3
        first
        | refine v_pass 27 8 true rfl (show 27 < 35 by decide) rfl ?_ ?_
          · first | rfl | (simp only [zV, guardV, Nat.reduceEqDiff, reduceIte]; done)
          simp only [zW, set_some, Nat.reduceEqDiff, reduceIte]
        | skip
          -- 27 := binOp Go.BinOp.sub 3 t26 c<1:i64> 3
          refine v_op ?_; intro K k
          simp only [zE, zG, aStepM, optable, set_some, Nat.reduceEqDiff, reduceIte, Nat.reduceLT, implies_true, forall_const, reduceCtorEq, V.ofValue, V.ofScalar, V.un, V.gd, guardV, V.wrap, aExec, aop, aBin, Try.underlying3, getD_map hx, hi0, hk, getD_map hy, decide_true, Bool.and_true]
          try simp (disch := omega) only [wrap64]
          repeat (refine And.intro (by first | omega | (intros; omega) | (intros; simp_all; done) | (intros; simp_all; omega)) ?_)
          refine k _ ?_; clear k K
        -- 28 := indexAddr 33 t25 t27
        first
        | refine v_pass 28 8 true rfl (show 28 < 35 by decide) rfl ?_ ?_
          · first | rfl | (simp only [zV, guardV, Nat.reduceEqDiff, reduceIte]; done)
          simp only [zW, set_some, Nat.reduceEqDiff, reduceIte]
        | skip
          -- 28 := indexAddr 33 t25 t27
          refine v_op ?_; intro K k
          simp only [zE, zL, zN, aStepM, optable, set_some, Nat.reduceEqDiff, reduceIte, Nat.reduceLT, implies_true, forall_const, reduceCtorEq, V.ofValue, V.ofScalar, V.un, V.gd, guardV, V.wrap, aExec, aop, aIndexAddr, row_mk, Blk.row, Go.Vm.V.cells, List.forall_mem_map, List.length_map, Int.toNat_natCast, Int.reduceToNat, TypeDesc.slice.injEq, Nat.reduceAdd, Nat.reduceLeDiff, Nat.reduceMul, Try.underlying3, Ty.c3, Ty.a3, Try.underlying33, Ty.c33, Ty.a33, getD_map hx, hi0, hk, getD_map hy, decide_true, Bool.and_true]
          repeat (refine And.intro (by first | omega | (intros; omega) | (intros; simp_all; done) | (intros; simp_all; omega)) ?_)
          refine k _ ?_; clear k K
        -- 29 := load 3 t28
        first
        | refine v_pass 29 8 true rfl (show 29 < 35 by decide) rfl ?_ ?_
          · first | rfl | (simp only [zV, guardV, Nat.reduceEqDiff, reduceIte]; done)
          simp only [zW, set_some, Nat.reduceEqDiff, reduceIte]
        | skip
          -- 29 := load 3 t28
          refine v_op ?_; intro K k
          simp only [zE, zL, zO, zN, aStepM, optable, set_some, Nat.reduceEqDiff, reduceIte, Nat.reduceLT, implies_true, forall_const, reduceCtorEq, V.ofValue, V.ofScalar, V.un, V.gd, guardV, V.wrap, aExec, aop, aLoad, row_mk, Blk.row, PartOK, Go.Vm.part, V.cells, V.noSl, V.noRef, Nat.reduceAdd, Nat.reduceLeDiff, Nat.reduceMul, Try.underlying3, Ty.c3, Ty.a3, getD_map hx, hi0, hk, getD_map hy]
          repeat (refine And.intro (by first | omega | (intros; omega) | (intros; simp_all; done) | (intros; simp_all; omega)) ?_)
          refine k _ ?_; clear k K
        -- 30 := move t8
        first
        | refine v_pass 30 8 true rfl (show 30 < 35 by decide) rfl ?_ ?_
          · first | rfl | (simp only [zV, guardV, Nat.reduceEqDiff, reduceIte]; done)
          simp only [zW, set_some, Nat.reduceEqDiff, reduceIte]
        | skip
          -- 30 := move t8
          refine v_op ?_; intro K k
          simp only [zE, zG, aStepM, optable, set_some, Nat.reduceEqDiff, reduceIte, Nat.reduceLT, implies_true, forall_const, reduceCtorEq, V.ofValue, V.ofScalar, V.un, V.gd, guardV, V.wrap, aExec, aop, getD_map hx, hi0, hk, getD_map hy, decide_true, Bool.and_true]
          repeat (refine And.intro (by first | omega | (intros; omega) | (intros; simp_all; done) | (intros; simp_all; omega)) ?_)
          refine k _ ?_; clear k K
        -- 31 := binOp Go.BinOp.geq 3 t29 t30 3
        first
        | refine v_pass 31 8 true rfl (show 31 < 35 by decide) rfl ?_ ?_
          · first | rfl | (simp only [zV, guardV, Nat.reduceEqDiff, reduceIte]; done)
          simp only [zW, set_some, Nat.reduceEqDiff, reduceIte]
        | skip
          -- 31 := binOp Go.BinOp.geq 3 t29 t30 3
          refine v_op ?_; intro K k
          simp only [zE, zG, aStepM, optable, set_some, Nat.reduceEqDiff, reduceIte, Nat.reduceLT, implies_true, forall_const, reduceCtorEq, V.ofValue, V.ofScalar, V.un, V.gd, guardV, V.wrap, aExec, aop, aBin, Try.underlying3, getD_map hx, hi0, hk, getD_map hy, decide_true, Bool.and_true]
          repeat (refine And.intro (by first | omega | (intros; omega) | (intros; simp_all; done) | (intros; simp_all; omega)) ?_)
          refine k _ ?_; clear k K
        -- 32 := pick t24 t31 c<false>
        first
        | refine v_pass 32 5 false rfl (show 32 < 35 by decide) rfl ?_ ?_
          · first | rfl | (simp only [zV, guardV, Nat.reduceEqDiff, reduceIte]; done)
          simp only [zW, set_some, Nat.reduceEqDiff, reduceIte]
        | skip
          -- 32 := pick t24 t31 c<false>
          refine v_op ?_; intro K k
          simp only [zE, zP, zG, aStepM, optable, set_some, Nat.reduceEqDiff, reduceIte, Nat.reduceLT, implies_true, forall_const, reduceCtorEq, V.ofValue, V.ofScalar, V.un, V.gd, guardV, V.wrap, aExec, aop, pickV, getD_map hx, hi0, hk, getD_map hy, decide_true, Bool.and_true]
          repeat (refine And.intro (by first | omega | (intros; omega) | (intros; simp_all; done) | (intros; simp_all; omega)) ?_)
          refine k _ ?_; clear k K
        -- 33 := pick t21 c<true> t32
        refine v_op ?_; intro K k
        simp only [zE, zP, aStepM, optable, set_some, Nat.reduceEqDiff, reduceIte, Nat.reduceLT, implies_true, forall_const, reduceCtorEq, V.ofValue, V.ofScalar, V.un, V.gd, aExec, aop, pickV, getD_map hx, hi0, hk, getD_map hy, decide_true, Bool.and_true]
        repeat (refine And.intro (by first | omega | (intros; omega) | (intros; simp_all; done) | (intros; simp_all; omega)) ?_)
        refine k _ ?_; clear k K
        refine k27 _ ?_
        refine n26 _ _ (weak_keep [0, 1, 2, 9, 10, 11, 33] _) ?_
        simp only [keep_mk, keepE_nil, keepE_cons, look_cons, look_nil, Nat.reduceEqDiff, reduceIte]
        refine v_cond _ rfl ?_ ?_  -- COND 1
        · intro hc1
          try simp only [zC, reduceCtorEq] at hc1
          refine v_seq ?_; intro Q29 n29 e29 r29  -- SEQ 12
          refine v_region ?_; intro K30 k30
          -- 6 := assign c<false>
          refine v_op ?_; intro K k
          simp only [zE, zS, aStepM, optable, set_some, Nat.reduceEqDiff, reduceIte, Nat.reduceLT, implies_true, forall_const, reduceCtorEq, V.ofValue, V.ofScalar, V.un, V.gd, aExec, aop, Nat.reduceAdd, getD_map hx, hi0, hk, getD_map hy, decide_true, Bool.and_true]
          repeat (refine And.intro (by first | omega | (intros; omega) | (intros; simp_all; done) | (intros; simp_all; omega)) ?_)
          refine k _ ?_; clear k K
          refine k30 _ ?_
          refine n29 _ _ (weak_keep [6] _) ?_
          simp only [keep_mk, keepE_nil, keepE_cons, look_cons, look_nil, Nat.reduceEqDiff, reduceIte]
          refine v_ret ?_
          refine r23 _ ?_
          refine r22 _ ?_
          refine r7 _ ?_
          refine r6 _ ?_
          refine r3 _ ?_
          refine r0 _ ?_
          simp only [resK, pickRV, get_mk, look_cons, look_nil, Nat.reduceEqDiff, reduceIte, List.map_cons, List.map_nil]
          exact ret_pure rfl (by rw [← hR, hstep]; congr 1; simp [inR]; intros; omega) (.inl rfl)
        · intro hc1
          try simp only [zC, reduceCtorEq] at hc1
          refine v_skip ?_
          refine n23 _ ?_
          refine n22 _ _ (weak_keep [0, 1, 2, 9, 10, 11] _) ?_
          simp only [keep_mk, keepE_nil, keepE_cons, look_cons, look_nil, Nat.reduceEqDiff, reduceIte]
          refine v_region ?_; intro K31 k31
          -- 34 := binOp Go.BinOp.add 3 t11 c<1:i64> 3
          refine v_op ?_; intro K k
          simp only [zE, aStepM, optable, set_some, Nat.reduceEqDiff, reduceIte, Nat.reduceLT, implies_true, forall_const, reduceCtorEq, V.ofValue, V.ofScalar, V.un, V.gd, aExec, aop, aBin, Try.underlying3, getD_map hx, hi0, hk, getD_map hy, decide_true, Bool.and_true]
          try simp (disch := omega) only [wrap64]
          repeat (refine And.intro (by first | omega | (intros; omega) | (intros; simp_all; done) | (intros; simp_all; omega)) ?_)
          refine k _ ?_; clear k K
          -- 11 := move t34
          refine v_op ?_; intro K k
          simp only [zE, aStepM, optable, set_some, Nat.reduceEqDiff, reduceIte, Nat.reduceLT, implies_true, forall_const, reduceCtorEq, V.ofValue, V.ofScalar, V.un, V.gd, aExec, aop, getD_map hx, hi0, hk, getD_map hy, decide_true, Bool.and_true]
          repeat (refine And.intro (by first | omega | (intros; omega) | (intros; simp_all; done) | (intros; simp_all; omega)) ?_)
          refine k _ ?_; clear k K
          refine k31 _ ?_
          refine n7 _ (i + 1) ?_ ?_ ?_
          · refine weak_of [0, 1, 2, 9, 10, 11] ?_
            simp only [keep_mk, keepE_nil, keepE_cons, look_cons, look_nil, Nat.reduceEqDiff, reduceIte]
            rfl
          · exact ⟨by omega, by rw [← hR, hstep]; simp [inR]; intros; omega⟩
          · show _ < _; omega
    · intro hc0
      try simp only [zC, reduceCtorEq] at hc0
      refine v_exit ?_
      refine e10 _ _ ?_
      refine e7 _ _ ?_
      refine x6 _ ?_
      refine n3 _ _ (weak_keep [] _) ?_
      simp only [keep_mk, keepE_nil, keepE_cons, look_cons, look_nil, Nat.reduceEqDiff, reduceIte]
      refine v_seq ?_; intro Q32 n32 e32 r32  -- SEQ 13
      refine v_region ?_; intro K33 k33
      -- 6 := assign c<true>
      refine v_op ?_; intro K k
      simp only [zE, zS, aStepM, optable, set_some, Nat.reduceEqDiff, reduceIte, Nat.reduceLT, implies_true, forall_const, reduceCtorEq, V.ofValue, V.ofScalar, V.un, V.gd, aExec, aop, Nat.reduceAdd]
      repeat (refine And.intro (by first | omega | (intros; omega) | (intros; simp_all; done) | (intros; simp_all; omega)) ?_)
      refine k _ ?_; clear k K
      refine k33 _ ?_
      refine n32 _ _ (weak_keep [6] _) ?_
      simp only [keep_mk, keepE_nil, keepE_cons, look_cons, look_nil, Nat.reduceEqDiff, reduceIte]
      refine v_ret ?_
      refine r0 _ ?_
      simp only [resK, pickRV, get_mk, look_cons, look_nil, Nat.reduceEqDiff, reduceIte, List.map_cons, List.map_nil]
      exact ret_pure rfl (by rw [← hR, risingAt_end (by omega)]) (.inl rfl)
end Go.Proofs.Ythehbhfjapinnaa
