/- What functions compute (Needs). No condition. -/
import Derived.Test.YthehbhfjapinnaaTy
import Derived.Test.YthehbhfjapinnaaVm21
import Derived.Test.YthehbhfjapinnaaWRising
import Derived.Test.YthehbhfjapinnaaWRoster
import Derived.Test.YthehbhfjapinnaaWShifts
import Derived.Test.YthehbhfjapinnaaWBase
import Derived.Test.YthehbhfjapinnaaWInts
import Derived.Test.YthehbhfjapinnaaWMarkSS
set_option linter.unusedSimpArgs false
set_option linter.unusedVariables false
namespace Go.Proofs.Ythehbhfjapinnaa
open Go Go.Vm

def needB (l : List Int) : Bool := l.all (fun x => inR x 0 9) && decide ((l.length : Int) ≤ 21)
def openFrom (needs : List Int) : Nat → List (List Int) → List Int
  | _, [] => []
  | i, l :: ll => if (l.length : Int) < needs.getD i 0 then (i : Int) :: openFrom needs (i + 1) ll else openFrom needs (i + 1) ll
theorem open_step {needs : List Int} {d : List (List Int)} {i : Nat} {l : List Int} {z : Int} (h : d[i]? = some l) (hz : needs[i]? = some z) : openFrom needs i (d.drop i) = if (l.length : Int) < z then (i : Int) :: openFrom needs (i + 1) (d.drop (i + 1)) else openFrom needs (i + 1) (d.drop (i + 1)) := by
  rw [getElem_drop_cons h, openFrom, List.getD_eq_getElem?_getD, hz]; rfl
theorem snoc_open {l : List Int} {x : Int} : l.map (V.int .i64) ++ [V.int .i64 x] = (l ++ [x]).map (V.int .i64) := by rw [List.map_append]; rfl
theorem open_end {needs : List Int} {d : List (List Int)} {i k : Nat} (h : d.length ≤ i) : openFrom needs k (d.drop i) = [] := by
  rw [List.drop_of_length_le h, openFrom]
theorem open_len (needs : List Int) : ∀ (d : List (List Int)) (i : Nat), (openFrom needs i d).length ≤ d.length
  | [], _ => Nat.le_refl _
  | l :: d, i => by
    have := open_len needs d (i + 1)
    rw [openFrom]
    split <;> simp <;> omega
def openB (d : List (List Int)) (n : Int) (c : List Int) : Bool := rosterB d n && needB c && decide ((c.length : Int) = d.length)
def openR (d : List (List Int)) (n : Int) (c : List Int) : List Int := if openB d n c = true then openFrom c 0 d else []
theorem openR_len (d : List (List Int)) (n : Int) (c : List Int) : (openR d n c).length ≤ d.length := by
  unfold openR
  split
  · exact open_len c d 0
  · simp
def shiftsR (d : List (List Int)) (n : Int) : List Int := if rosterB d n then shiftsOf d n else []
theorem shiftsR_len (d : List (List Int)) (n : Int) : (shiftsR d n).length ≤ 1048576 := by
  unfold shiftsR
  split
  · rename_i h
    have := roster_in h
    rw [shiftsOf_len]; omega
  · simp
theorem szSS_tot : ∀ {ll : List (List Int)} {n : Int}, 0 ≤ szSS n ll → totSS ll ≤ n
  | [], n, h => by rw [szSS] at h; rw [totSS]; exact h
  | x :: ll, n, h => by
    rw [szSS] at h
    split at h
    · omega
    · rename_i hs
      have hx : szS n x = n - x.length := by
        unfold szS at hs ⊢
        split at hs
        · omega
        · rename_i h2; rw [if_neg h2]
      have := szSS_tot h
      rw [totSS]; omega

-- loop.example/g01020/spec.l1All
set_option maxHeartbeats 1000000 in
theorem l1All_con (l : List Int) (lo hi : Int) (hl : l.length ≤ 1048576) : Con Try.prog 60 [.sl (l.map (V.int .i64)), .int .i64 lo, .int .i64 hi] [] (.bool (l.all (fun x => inR x lo hi))) [] := by
  refine v_con [.tmp 6] [] Try.func60 rfl rfl rfl (by simp [Try.ntmps60]) ?_
  intro Q0 n0 r0
  simp only [Try.ntmps60, envFrom, Nat.reduceAdd]
  refine v_seq ?_; intro Q1 n1 e1 r1  -- SEQ 0
  refine v_region ?_; intro K2 k2
  -- 6 := assign c<false>
  refine v_op ?_; intro K k
  simp only [zE, zS, aStepM, optable, set_some, Nat.reduceEqDiff, reduceIte, Nat.reduceLT, implies_true, forall_const, reduceCtorEq, V.ofValue, V.ofScalar, V.un, V.gd, aExec, aop, Nat.reduceAdd]
  repeat (refine And.intro (by first | omega | (intros; omega) | (intros; simp_all; done) | (intros; simp_all; omega)) ?_)
  refine k _ ?_; clear k K
  refine k2 _ ?_
  refine n1 _ _ (weak_keep [0, 1, 2] _) ?_
  simp only [keep_mk, keepE_nil, keepE_cons, look_cons, look_nil, Nat.reduceEqDiff, reduceIte]
  refine v_seq ?_; intro Q3 n3 e3 r3  -- SEQ 1
  refine v_seq ?_; intro Q4 n4 e4 r4  -- SEQ 2
  refine v_region ?_; intro K5 k5
  -- 9 := move t0
  refine v_op ?_; intro K k
  simp only [zE, aStepM, optable, set_some, Nat.reduceEqDiff, reduceIte, Nat.reduceLT, implies_true, forall_const, reduceCtorEq, V.ofValue, V.ofScalar, V.un, V.gd, aExec, aop]
  repeat (refine And.intro (by first | omega | (intros; omega) | (intros; simp_all; done) | (intros; simp_all; omega)) ?_)
  refine k _ ?_; clear k K
  -- 10 := call b Go.Builtin.len t9 | 33
  refine v_op ?_; intro K k
  simp only [zE, zL, zN, aStepM, optable, set_some, Nat.reduceEqDiff, reduceIte, Nat.reduceLT, implies_true, forall_const, reduceCtorEq, V.ofValue, V.ofScalar, V.un, V.gd, aExec, aop, List.length_map, aLen, lenOK, row_mk, Blk.row, List.size_toArray, List.getD_eq_getElem?_getD, Array.getD_eq_getD_getElem?, Option.getD_some, Nat.reduceAdd, Nat.reduceLeDiff, Nat.reduceMul, Try.underlying3, Ty.c3, Ty.a3, Ty.b3, Ty.s3, Try.underlying33, Ty.c33, Ty.a33, Ty.b33, Ty.s33]
  repeat (refine And.intro (by first | omega | (intros; omega) | (intros; simp_all; done) | (intros; simp_all; omega)) ?_)
  refine k _ ?_; clear k K
  -- 11 := move c<0:i64>
  refine v_op ?_; intro K k
  simp only [zE, aStepM, optable, set_some, Nat.reduceEqDiff, reduceIte, Nat.reduceLT, implies_true, forall_const, reduceCtorEq, V.ofValue, V.ofScalar, V.un, V.gd, aExec, aop]
  repeat (refine And.intro (by first | omega | (intros; omega) | (intros; simp_all; done) | (intros; simp_all; omega)) ?_)
  refine k _ ?_; clear k K
  refine k5 _ ?_
  refine n4 _ _ (weak_keep [1, 2, 9, 10, 11] _) ?_
  simp only [keep_mk, keepE_nil, keepE_cons, look_cons, look_nil, Nat.reduceEqDiff, reduceIte]
  refine v_block ?_; intro Q6 n6 x6 e6 r6
  refine v_loop (fun i => ⟨[(1, .int .i64 lo), (2, .int .i64 hi), (9, .sl (l.map (V.int .i64))), (10, .int .i64 l.length), (11, .int .i64 (Nat.cast i))], [], false, 21, 0⟩) (fun i => i ≤ l.length ∧ l.all (fun x => inR x lo hi) = (l.drop i).all (fun x => inR x lo hi)) (fun i => l.length - i) 0 ?_ ?_ ?_
  · refine weak_of [1, 2, 9, 10, 11] ?_
    simp only [keep_mk, keepE_nil, keepE_cons, look_cons, look_nil, Nat.reduceEqDiff, reduceIte]
    rfl
  · exact ⟨Nat.zero_le _, by simp⟩
  · rintro i hok7 Q7 n7 e7 r7
    obtain ⟨hi1, hR⟩ := hok7
    refine v_seq ?_; intro Q8 n8 e8 r8  -- SEQ 3
    refine v_region ?_; intro K9 k9
    -- 12 := binOp Go.BinOp.lss 3 t11 t10 3
    refine v_op ?_; intro K k
    simp only [zE, aStepM, optable, set_some, Nat.reduceEqDiff, reduceIte, Nat.reduceLT, implies_true, forall_const, reduceCtorEq, V.ofValue, V.ofScalar, V.un, V.gd, aExec, aop, aBin, Try.underlying3]
    repeat (refine And.intro (by first | omega | (intros; omega) | (intros; simp_all; done) | (intros; simp_all; omega)) ?_)
    refine k _ ?_; clear k K
    refine k9 _ ?_
    refine n8 _ _ (weak_keep [1, 2, 9, 10, 11, 12] _) ?_
    simp only [keep_mk, keepE_nil, keepE_cons, look_cons, look_nil, Nat.reduceEqDiff, reduceIte]
    refine v_seq ?_; intro Q10 n10 e10 r10  -- SEQ 4
    refine v_cond _ rfl ?_ ?_  -- COND 0
    · intro hc0
      try simp only [zC, reduceCtorEq] at hc0
      have hlt : i < l.length := by omega
      obtain ⟨x, hx⟩ : ∃ x, l[i]? = some x := ⟨l[i], List.getElem?_eq_getElem hlt⟩
      have hst := all_drop (f := (fun x => inR x lo hi)) hx
      refine v_skip ?_
      refine n10 _ _ (weak_keep [1, 2, 9, 10, 11] _) ?_
      simp only [keep_mk, keepE_nil, keepE_cons, look_cons, look_nil, Nat.reduceEqDiff, reduceIte]
      refine v_seq ?_; intro Q12 n12 e12 r12  -- SEQ 5
      refine v_block ?_; intro Q13 n13 x13 e13 r13
      refine v_seq ?_; intro Q14 n14 e14 r14  -- SEQ 6
      refine v_region ?_; intro K15 k15
      -- 13 := indexAddr 33 t9 t11
      refine v_op ?_; intro K k
      simp only [zE, zL, zN, aStepM, optable, set_some, Nat.reduceEqDiff, reduceIte, Nat.reduceLT, implies_true, forall_const, reduceCtorEq, V.ofValue, V.ofScalar, V.un, V.gd, aExec, aop, aIndexAddr, row_mk, Blk.row, Go.Vm.V.cells, List.forall_mem_map, List.length_map, Int.toNat_natCast, Int.reduceToNat, TypeDesc.slice.injEq, Nat.reduceAdd, Nat.reduceLeDiff, Nat.reduceMul, Try.underlying3, Ty.c3, Ty.a3, Try.underlying33, Ty.c33, Ty.a33, getD_map hx]
      repeat (refine And.intro (by first | omega | (intros; omega) | (intros; simp_all; done) | (intros; simp_all; omega)) ?_)
      refine k _ ?_; clear k K
      -- 14 := load 3 t13
      refine v_op ?_; intro K k
      simp only [zE, zL, zO, zN, aStepM, optable, set_some, Nat.reduceEqDiff, reduceIte, Nat.reduceLT, implies_true, forall_const, reduceCtorEq, V.ofValue, V.ofScalar, V.un, V.gd, aExec, aop, aLoad, row_mk, Blk.row, PartOK, Go.Vm.part, V.cells, V.noSl, V.noRef, Nat.reduceAdd, Nat.reduceLeDiff, Nat.reduceMul, Try.underlying3, Ty.c3, Ty.a3, getD_map hx]
      repeat (refine And.intro (by first | omega | (intros; omega) | (intros; simp_all; done) | (intros; simp_all; omega)) ?_)
      refine k _ ?_; clear k K
      -- 8 := assign t14
      refine v_op ?_; intro K k
      simp only [zE, zS, aStepM, optable, set_some, Nat.reduceEqDiff, reduceIte, Nat.reduceLT, implies_true, forall_const, reduceCtorEq, V.ofValue, V.ofScalar, V.un, V.gd, aExec, aop, Nat.reduceAdd, getD_map hx]
      repeat (refine And.intro (by first | omega | (intros; omega) | (intros; simp_all; done) | (intros; simp_all; omega)) ?_)
      refine k _ ?_; clear k K
      refine k15 _ ?_
      refine n14 _ _ (weak_keep [1, 2, 8, 9, 10, 11] _) ?_
      simp only [keep_mk, keepE_nil, keepE_cons, look_cons, look_nil, Nat.reduceEqDiff, reduceIte]
      refine v_seq ?_; intro Q16 n16 e16 r16  -- SEQ 7
      refine v_region ?_; intro K17 k17
      -- 15 := move t8
      refine v_op ?_; intro K k
      simp only [zE, aStepM, optable, set_some, Nat.reduceEqDiff, reduceIte, Nat.reduceLT, implies_true, forall_const, reduceCtorEq, V.ofValue, V.ofScalar, V.un, V.gd, aExec, aop, getD_map hx]
      repeat (refine And.intro (by first | omega | (intros; omega) | (intros; simp_all; done) | (intros; simp_all; omega)) ?_)
      refine k _ ?_; clear k K
      -- 16 := move t1
      refine v_op ?_; intro K k
      simp only [zE, aStepM, optable, set_some, Nat.reduceEqDiff, reduceIte, Nat.reduceLT, implies_true, forall_const, reduceCtorEq, V.ofValue, V.ofScalar, V.un, V.gd, aExec, aop, getD_map hx]
      repeat (refine And.intro (by first | omega | (intros; omega) | (intros; simp_all; done) | (intros; simp_all; omega)) ?_)
      refine k _ ?_; clear k K
      -- 17 := move t2
      refine v_op ?_; intro K k
      simp only [zE, aStepM, optable, set_some, Nat.reduceEqDiff, reduceIte, Nat.reduceLT, implies_true, forall_const, reduceCtorEq, V.ofValue, V.ofScalar, V.un, V.gd, aExec, aop, getD_map hx]
      repeat (refine And.intro (by first | omega | (intros; omega) | (intros; simp_all; done) | (intros; simp_all; omega)) ?_)
      refine k _ ?_; clear k K
      -- 18 := call v f57 t15 t16 t17 | 3 3 3
      refine v_op ?_; intro K k
      simp only [zE, zM, aStepM, optable, set_some, Nat.reduceEqDiff, reduceIte, Nat.reduceLT, implies_true, forall_const, reduceCtorEq, V.ofValue, V.ofScalar, V.un, V.gd, aExec, lentIds, lendOf, Try.underlying3, Ty.c3, Ty.a3, Ty.b3, Ty.s3, Try.underlying4, Ty.c4, Ty.a4, Ty.b4, Ty.s4]
      repeat (refine And.intro (by first | rfl | (intros; simp_all; done)) ?_)
      refine aCall_new (l1In_con _ _ _) (by first | rfl | (simp only [toArgs, toArg, toCell, toCells, idx, row_mk, List.getElem?_cons_zero, List.getElem?_cons_succ, Option.bind_some, Option.map_some, Blk.row, fillK_mix, flat_mix, deep_mix, cond_true]; done) | (simp [toArgs, toArg, toCell, toCells, idx, row_mk, Blk.row, fillK_mix, Nat.beq_refl]; done)) (by first | exact .inl ⟨rfl, by simp [Blk.kindIs, fillK_fd]⟩ | exact .inr (by simp [V.cold])) ?_
      refine k _ ?_; clear k K
      simp only [zY, zW, set_some, Nat.reduceEqDiff, reduceIte, V.ren, V.renL, rho, Nat.reduceAdd]
      -- 19 := unOp Go.UnOp.not 4 t18
      refine v_op ?_; intro K k
      simp only [zE, aStepM, optable, set_some, Nat.reduceEqDiff, reduceIte, Nat.reduceLT, implies_true, forall_const, reduceCtorEq, V.ofValue, V.ofScalar, V.un, V.gd, aExec, aop, aUn, Try.underlying4, getD_map hx]
      repeat (refine And.intro (by first | omega | (intros; omega) | (intros; simp_all; done) | (intros; simp_all; omega)) ?_)
      refine k _ ?_; clear k K
      refine k17 _ ?_
      refine n16 _ _ (weak_keep [1, 2, 9, 10, 11, 19] _) ?_
      simp only [keep_mk, keepE_nil, keepE_cons, look_cons, look_nil, Nat.reduceEqDiff, reduceIte]
      refine v_cond _ rfl ?_ ?_  -- COND 1
      · intro hc1
        try simp only [zC, reduceCtorEq] at hc1
        have hb : inR x lo hi = false := by cases hq : inR x lo hi with | false => rfl | true => (exfalso; simp [inR] at hq; have := hc1 hq.1; omega)
        refine v_seq ?_; intro Q19 n19 e19 r19  -- SEQ 8
        refine v_region ?_; intro K20 k20
        -- 6 := assign c<false>
        refine v_op ?_; intro K k
        simp only [zE, zS, aStepM, optable, set_some, Nat.reduceEqDiff, reduceIte, Nat.reduceLT, implies_true, forall_const, reduceCtorEq, V.ofValue, V.ofScalar, V.un, V.gd, aExec, aop, Nat.reduceAdd, getD_map hx]
        repeat (refine And.intro (by first | omega | (intros; omega) | (intros; simp_all; done) | (intros; simp_all; omega)) ?_)
        refine k _ ?_; clear k K
        refine k20 _ ?_
        refine n19 _ _ (weak_keep [6] _) ?_
        simp only [keep_mk, keepE_nil, keepE_cons, look_cons, look_nil, Nat.reduceEqDiff, reduceIte]
        refine v_ret ?_
        refine r13 _ ?_
        refine r12 _ ?_
        refine r7 _ ?_
        refine r6 _ ?_
        refine r3 _ ?_
        refine r0 _ ?_
        simp only [resK, pickRV, get_mk, look_cons, look_nil, Nat.reduceEqDiff, reduceIte, List.map_cons, List.map_nil]
        exact ret_pure rfl (by rw [hR, hst, hb]; rfl) (.inl rfl)
      · intro hc1
        try simp only [zC, reduceCtorEq] at hc1
        have hb : inR x lo hi = true := by rw [inR, decide_eq_true hc1.1, decide_eq_true hc1.2]; rfl
        refine v_skip ?_
        refine n13 _ ?_
        refine n12 _ _ (weak_keep [1, 2, 9, 10, 11] _) ?_
        simp only [keep_mk, keepE_nil, keepE_cons, look_cons, look_nil, Nat.reduceEqDiff, reduceIte]
        refine v_region ?_; intro K21 k21
        -- 20 := binOp Go.BinOp.add 3 t11 c<1:i64> 3
        refine v_op ?_; intro K k
        simp only [zE, aStepM, optable, set_some, Nat.reduceEqDiff, reduceIte, Nat.reduceLT, implies_true, forall_const, reduceCtorEq, V.ofValue, V.ofScalar, V.un, V.gd, aExec, aop, aBin, Try.underlying3, getD_map hx]
        try simp (disch := omega) only [wrap64]
        repeat (refine And.intro (by first | omega | (intros; omega) | (intros; simp_all; done) | (intros; simp_all; omega)) ?_)
        refine k _ ?_; clear k K
        -- 11 := move t20
        refine v_op ?_; intro K k
        simp only [zE, aStepM, optable, set_some, Nat.reduceEqDiff, reduceIte, Nat.reduceLT, implies_true, forall_const, reduceCtorEq, V.ofValue, V.ofScalar, V.un, V.gd, aExec, aop, getD_map hx]
        repeat (refine And.intro (by first | omega | (intros; omega) | (intros; simp_all; done) | (intros; simp_all; omega)) ?_)
        refine k _ ?_; clear k K
        refine k21 _ ?_
        refine n7 _ (i + 1) ?_ ?_ ?_
        · refine weak_of [1, 2, 9, 10, 11] ?_
          simp only [keep_mk, keepE_nil, keepE_cons, look_cons, look_nil, Nat.reduceEqDiff, reduceIte]
          rfl
        · exact ⟨by omega, by rw [hR, hst, hb]; simp⟩
        · show _ < _; omega
    · intro hc0
      try simp only [zC, reduceCtorEq] at hc0
      refine v_exit ?_
      refine e10 _ _ ?_
      refine e7 _ _ ?_
      refine x6 _ ?_
      refine n3 _ _ (weak_keep [] _) ?_
      simp only [keep_mk, keepE_nil, keepE_cons, look_cons, look_nil, Nat.reduceEqDiff, reduceIte]
      refine v_seq ?_; intro Q22 n22 e22 r22  -- SEQ 9
      refine v_region ?_; intro K23 k23
      -- 6 := assign c<true>
      refine v_op ?_; intro K k
      simp only [zE, zS, aStepM, optable, set_some, Nat.reduceEqDiff, reduceIte, Nat.reduceLT, implies_true, forall_const, reduceCtorEq, V.ofValue, V.ofScalar, V.un, V.gd, aExec, aop, Nat.reduceAdd]
      repeat (refine And.intro (by first | omega | (intros; omega) | (intros; simp_all; done) | (intros; simp_all; omega)) ?_)
      refine k _ ?_; clear k K
      refine k23 _ ?_
      refine n22 _ _ (weak_keep [6] _) ?_
      simp only [keep_mk, keepE_nil, keepE_cons, look_cons, look_nil, Nat.reduceEqDiff, reduceIte]
      refine v_ret ?_
      refine r0 _ ?_
      simp only [resK, pickRV, get_mk, look_cons, look_nil, Nat.reduceEqDiff, reduceIte, List.map_cons, List.map_nil]
      exact ret_pure rfl (by rw [hR, List.drop_of_length_le (by omega)]; rfl) (.inl rfl)
-- loop.example/g01020/spec.duNeeds
set_option maxHeartbeats 1000000 in
theorem duNeeds_con (l : List Int) (hl : l.length ≤ 1048576) : Con Try.prog 43 [.sl (l.map (V.int .i64))] [] (.bool (needB l)) [] := by
  refine v_con [.tmp 2] [] Try.func43 rfl rfl rfl (by simp [Try.ntmps43]) ?_
  intro Q0 n0 r0
  simp only [Try.ntmps43, envFrom, Nat.reduceAdd]
  refine v_seq ?_; intro Q1 n1 e1 r1  -- SEQ 0
  refine v_region ?_; intro K2 k2
  -- 2 := assign c<false>
  refine v_op ?_; intro K k
  simp only [zE, zS, aStepM, optable, set_some, Nat.reduceEqDiff, reduceIte, Nat.reduceLT, implies_true, forall_const, reduceCtorEq, V.ofValue, V.ofScalar, V.un, V.gd, aExec, aop, Nat.reduceAdd]
  repeat (refine And.intro (by first | omega | (intros; omega) | (intros; simp_all; done) | (intros; simp_all; omega)) ?_)
  refine k _ ?_; clear k K
  refine k2 _ ?_
  refine n1 _ _ (weak_keep [0] _) ?_
  simp only [keep_mk, keepE_nil, keepE_cons, look_cons, look_nil, Nat.reduceEqDiff, reduceIte]
  refine v_seq ?_; intro Q3 n3 e3 r3  -- SEQ 1
  refine v_region ?_; intro K4 k4
  -- 3 := move t0
  refine v_op ?_; intro K k
  simp only [zE, aStepM, optable, set_some, Nat.reduceEqDiff, reduceIte, Nat.reduceLT, implies_true, forall_const, reduceCtorEq, V.ofValue, V.ofScalar, V.un, V.gd, aExec, aop]
  repeat (refine And.intro (by first | omega | (intros; omega) | (intros; simp_all; done) | (intros; simp_all; omega)) ?_)
  refine k _ ?_; clear k K
  -- 4 := call b Go.Builtin.len t3 | 33
  refine v_op ?_; intro K k
  simp only [zE, zL, zN, aStepM, optable, set_some, Nat.reduceEqDiff, reduceIte, Nat.reduceLT, implies_true, forall_const, reduceCtorEq, V.ofValue, V.ofScalar, V.un, V.gd, aExec, aop, List.length_map, aLen, lenOK, row_mk, Blk.row, List.size_toArray, List.getD_eq_getElem?_getD, Array.getD_eq_getD_getElem?, Option.getD_some, Nat.reduceAdd, Nat.reduceLeDiff, Nat.reduceMul, Try.underlying3, Ty.c3, Ty.a3, Ty.b3, Ty.s3, Try.underlying33, Ty.c33, Ty.a33, Ty.b33, Ty.s33]
  repeat (refine And.intro (by first | omega | (intros; omega) | (intros; simp_all; done) | (intros; simp_all; omega)) ?_)
  refine k _ ?_; clear k K
  -- 5 := binOp Go.BinOp.leq 3 t4 c<21:i64> 3
  refine v_op ?_; intro K k
  simp only [zE, aStepM, optable, set_some, Nat.reduceEqDiff, reduceIte, Nat.reduceLT, implies_true, forall_const, reduceCtorEq, V.ofValue, V.ofScalar, V.un, V.gd, aExec, aop, aBin, Try.underlying3]
  repeat (refine And.intro (by first | omega | (intros; omega) | (intros; simp_all; done) | (intros; simp_all; omega)) ?_)
  refine k _ ?_; clear k K
  -- 6 := move t5
  refine v_op ?_; intro K k
  simp only [zE, aStepM, optable, set_some, Nat.reduceEqDiff, reduceIte, Nat.reduceLT, implies_true, forall_const, reduceCtorEq, V.ofValue, V.ofScalar, V.un, V.gd, aExec, aop]
  repeat (refine And.intro (by first | omega | (intros; omega) | (intros; simp_all; done) | (intros; simp_all; omega)) ?_)
  refine k _ ?_; clear k K
  -- 7 := move t0
  first
  | refine v_pass 7 3 true rfl (show 7 < 10 by decide) rfl ?_ ?_
    · first | rfl | (simp only [zV, guardV, Nat.reduceEqDiff, reduceIte]; done)
    simp only [zW, set_some, Nat.reduceEqDiff, reduceIte]
  | skip
    -- 7 := move t0
    refine v_op ?_; intro K k
    simp only [zE, zG, aStepM, optable, set_some, Nat.reduceEqDiff, reduceIte, Nat.reduceLT, implies_true, forall_const, reduceCtorEq, V.ofValue, V.ofScalar, V.un, V.gd, guardV, V.wrap, aExec, aop]
    repeat (refine And.intro (by first | omega | (intros; omega) | (intros; simp_all; done) | (intros; simp_all; omega)) ?_)
    refine k _ ?_; clear k K
  -- 8 := call v f60 t7 c<0:i64> c<9:i64> | 33 3 3
  first
  | refine v_pass 8 3 true rfl (show 8 < 10 by decide) rfl ?_ ?_
    · first | rfl | (simp only [zV, guardV, Nat.reduceEqDiff, reduceIte]; done)
    simp only [zW, set_some, Nat.reduceEqDiff, reduceIte]
  | skip
    -- 8 := call v f60 t7 c<0:i64> c<9:i64> | 33 3 3
    refine v_op ?_; intro K k
    simp only [zE, zG, aStepM, optable, set_some, Nat.reduceEqDiff, reduceIte, Nat.reduceLT, implies_true, forall_const, reduceCtorEq, V.ofValue, V.ofScalar, V.un, V.gd, guardV, Try.underlying3, Ty.c3, Ty.a3, Ty.b3, Ty.s3, Try.underlying4, Ty.c4, Ty.a4, Ty.b4, Ty.s4, Try.underlying33, Ty.c33, Ty.a33, Ty.b33, Ty.s33]
    simp only [zM, zW, aExec, lentIds, lendOf, set_some, Nat.reduceEqDiff, reduceIte, V.ofValue, V.ofScalar, V.un, V.gd, and_true, true_and, implies_true, and_self, decide_eq_true_eq]
    first | refine Exists.imp (fun r h => h) (aCall_guardT (l1All_con l 0 9 hl) (by first | rfl | (simp only [toArgs, toArg, toCell, toCells, idx, row_mk, List.getElem?_cons_zero, List.getElem?_cons_succ, Option.bind_some, Option.map_some, Blk.row, fillK_mix, flat_mix, deep_mix, cond_true]; done) | (simp [toArgs, toArg, toCell, toCells, idx, row_mk, Blk.row, fillK_mix, Nat.beq_refl]; done)) rfl rfl ?_) | refine Exists.imp (fun r h => h) (aCall_guard (by first | (intros; trivial) | (intros; simp_all; done)) (fun hg => l1All_con l 0 9 hl) (by first | rfl | (simp only [toArgs, toArg, toCell, toCells, idx, row_mk, List.getElem?_cons_zero, List.getElem?_cons_succ, Option.bind_some, Option.map_some, Blk.row, fillK_mix, flat_mix, deep_mix, cond_true]; done) | (simp [toArgs, toArg, toCell, toCells, idx, row_mk, Blk.row, fillK_mix, Nat.beq_refl]; done)) rfl rfl ?_)
    refine k _ ?_
    clear k K
  -- 9 := pick t6 t8 c<false>
  refine v_op ?_; intro K k
  simp only [zE, zP, aStepM, optable, set_some, Nat.reduceEqDiff, reduceIte, Nat.reduceLT, implies_true, forall_const, reduceCtorEq, V.ofValue, V.ofScalar, V.un, V.gd, aExec, aop, pickV]
  repeat (refine And.intro (by first | omega | (intros; omega) | (intros; simp_all; done) | (intros; simp_all; omega)) ?_)
  refine k _ ?_; clear k K
  -- 2 := assign t9
  refine v_op ?_; intro K k
  simp only [zE, zS, aStepM, optable, set_some, Nat.reduceEqDiff, reduceIte, Nat.reduceLT, implies_true, forall_const, reduceCtorEq, V.ofValue, V.ofScalar, V.un, V.gd, aExec, aop, Nat.reduceAdd]
  repeat (refine And.intro (by first | omega | (intros; omega) | (intros; simp_all; done) | (intros; simp_all; omega)) ?_)
  refine k _ ?_; clear k K
  refine k4 _ ?_
  refine n3 _ _ (weak_keep [2] _) ?_
  simp only [keep_mk, keepE_nil, keepE_cons, look_cons, look_nil, Nat.reduceEqDiff, reduceIte]
  refine v_ret ?_
  refine r0 _ ?_
  simp only [resK, pickRV, get_mk, look_cons, look_nil, Nat.reduceEqDiff, reduceIte, List.map_cons, List.map_nil]
  exact ret_pure rfl (by simp [needB, Bool.and_comm]) (.inl rfl)
-- loop.example/g01020/impl.areNeeds
set_option maxHeartbeats 1000000 in
theorem areNeeds_con (l : List Int) (hl : l.length ≤ 1048576) : Con Try.prog 44 [.sl (l.map (V.int .i64))] [] (.bool (needB l)) [] := by
  refine v_con [.tmp 2] [] Try.func44 rfl rfl rfl (by simp [Try.ntmps44]) ?_
  intro Q0 n0 r0
  simp only [Try.ntmps44, envFrom, Nat.reduceAdd]
  refine v_seq ?_; intro Q1 n1 e1 r1  -- SEQ 0
  refine v_region ?_; intro K2 k2
  -- 2 := assign c<false>
  refine v_op ?_; intro K k
  simp only [zE, zS, aStepM, optable, set_some, Nat.reduceEqDiff, reduceIte, Nat.reduceLT, implies_true, forall_const, reduceCtorEq, V.ofValue, V.ofScalar, V.un, V.gd, aExec, aop, Nat.reduceAdd]
  repeat (refine And.intro (by first | omega | (intros; omega) | (intros; simp_all; done) | (intros; simp_all; omega)) ?_)
  refine k _ ?_; clear k K
  refine k2 _ ?_
  refine n1 _ _ (weak_keep [0] _) ?_
  simp only [keep_mk, keepE_nil, keepE_cons, look_cons, look_nil, Nat.reduceEqDiff, reduceIte]
  refine v_seq ?_; intro Q3 n3 e3 r3  -- SEQ 1
  refine v_seq ?_; intro Q4 n4 e4 r4  -- SEQ 2
  refine v_region ?_; intro K5 k5
  -- 5 := move t0
  refine v_op ?_; intro K k
  simp only [zE, aStepM, optable, set_some, Nat.reduceEqDiff, reduceIte, Nat.reduceLT, implies_true, forall_const, reduceCtorEq, V.ofValue, V.ofScalar, V.un, V.gd, aExec, aop]
  repeat (refine And.intro (by first | omega | (intros; omega) | (intros; simp_all; done) | (intros; simp_all; omega)) ?_)
  refine k _ ?_; clear k K
  -- 6 := call b Go.Builtin.len t5 | 33
  refine v_op ?_; intro K k
  simp only [zE, zL, zN, aStepM, optable, set_some, Nat.reduceEqDiff, reduceIte, Nat.reduceLT, implies_true, forall_const, reduceCtorEq, V.ofValue, V.ofScalar, V.un, V.gd, aExec, aop, List.length_map, aLen, lenOK, row_mk, Blk.row, List.size_toArray, List.getD_eq_getElem?_getD, Array.getD_eq_getD_getElem?, Option.getD_some, Nat.reduceAdd, Nat.reduceLeDiff, Nat.reduceMul, Try.underlying3, Ty.c3, Ty.a3, Ty.b3, Ty.s3, Try.underlying33, Ty.c33, Ty.a33, Ty.b33, Ty.s33]
  repeat (refine And.intro (by first | omega | (intros; omega) | (intros; simp_all; done) | (intros; simp_all; omega)) ?_)
  refine k _ ?_; clear k K
  -- 7 := move c<0:i64>
  refine v_op ?_; intro K k
  simp only [zE, aStepM, optable, set_some, Nat.reduceEqDiff, reduceIte, Nat.reduceLT, implies_true, forall_const, reduceCtorEq, V.ofValue, V.ofScalar, V.un, V.gd, aExec, aop]
  repeat (refine And.intro (by first | omega | (intros; omega) | (intros; simp_all; done) | (intros; simp_all; omega)) ?_)
  refine k _ ?_; clear k K
  refine k5 _ ?_
  refine n4 _ _ (weak_keep [0, 5, 6, 7] _) ?_
  simp only [keep_mk, keepE_nil, keepE_cons, look_cons, look_nil, Nat.reduceEqDiff, reduceIte]
  refine v_block ?_; intro Q6 n6 x6 e6 r6
  refine v_loop (fun i => ⟨[(0, .sl (l.map (V.int .i64))), (5, .sl (l.map (V.int .i64))), (6, .int .i64 l.length), (7, .int .i64 (Nat.cast i))], [], false, 18, 0⟩) (fun i => i ≤ l.length ∧ l.all (fun x => inR x 0 9) = (l.drop i).all (fun x => inR x 0 9)) (fun i => l.length - i) 0 ?_ ?_ ?_
  · refine weak_of [0, 5, 6, 7] ?_
    simp only [keep_mk, keepE_nil, keepE_cons, look_cons, look_nil, Nat.reduceEqDiff, reduceIte]
    rfl
  · exact ⟨Nat.zero_le _, by simp⟩
  · rintro i hok7 Q7 n7 e7 r7
    obtain ⟨hi1, hR⟩ := hok7
    refine v_seq ?_; intro Q8 n8 e8 r8  -- SEQ 3
    refine v_region ?_; intro K9 k9
    -- 8 := binOp Go.BinOp.lss 3 t7 t6 3
    refine v_op ?_; intro K k
    simp only [zE, aStepM, optable, set_some, Nat.reduceEqDiff, reduceIte, Nat.reduceLT, implies_true, forall_const, reduceCtorEq, V.ofValue, V.ofScalar, V.un, V.gd, aExec, aop, aBin, Try.underlying3]
    repeat (refine And.intro (by first | omega | (intros; omega) | (intros; simp_all; done) | (intros; simp_all; omega)) ?_)
    refine k _ ?_; clear k K
    refine k9 _ ?_
    refine n8 _ _ (weak_keep [0, 5, 6, 7, 8] _) ?_
    simp only [keep_mk, keepE_nil, keepE_cons, look_cons, look_nil, Nat.reduceEqDiff, reduceIte]
    refine v_seq ?_; intro Q10 n10 e10 r10  -- SEQ 4
    refine v_cond _ rfl ?_ ?_  -- COND 0
    · intro hc0
      try simp only [zC, reduceCtorEq] at hc0
      have hlt : i < l.length := by omega
      obtain ⟨x, hx⟩ : ∃ x, l[i]? = some x := ⟨l[i], List.getElem?_eq_getElem hlt⟩
      have hst := all_drop (f := (fun x => inR x 0 9)) hx
      refine v_skip ?_
      refine n10 _ _ (weak_keep [0, 5, 6, 7] _) ?_
      simp only [keep_mk, keepE_nil, keepE_cons, look_cons, look_nil, Nat.reduceEqDiff, reduceIte]
      refine v_seq ?_; intro Q12 n12 e12 r12  -- SEQ 5
      refine v_block ?_; intro Q13 n13 x13 e13 r13
      refine v_seq ?_; intro Q14 n14 e14 r14  -- SEQ 6
      refine v_region ?_; intro K15 k15
      -- 9 := indexAddr 33 t5 t7
      refine v_op ?_; intro K k
      simp only [zE, zL, zN, aStepM, optable, set_some, Nat.reduceEqDiff, reduceIte, Nat.reduceLT, implies_true, forall_const, reduceCtorEq, V.ofValue, V.ofScalar, V.un, V.gd, aExec, aop, aIndexAddr, row_mk, Blk.row, Go.Vm.V.cells, List.forall_mem_map, List.length_map, Int.toNat_natCast, Int.reduceToNat, TypeDesc.slice.injEq, Nat.reduceAdd, Nat.reduceLeDiff, Nat.reduceMul, Try.underlying3, Ty.c3, Ty.a3, Try.underlying33, Ty.c33, Ty.a33, getD_map hx]
      repeat (refine And.intro (by first | omega | (intros; omega) | (intros; simp_all; done) | (intros; simp_all; omega)) ?_)
      refine k _ ?_; clear k K
      -- 10 := load 3 t9
      refine v_op ?_; intro K k
      simp only [zE, zL, zO, zN, aStepM, optable, set_some, Nat.reduceEqDiff, reduceIte, Nat.reduceLT, implies_true, forall_const, reduceCtorEq, V.ofValue, V.ofScalar, V.un, V.gd, aExec, aop, aLoad, row_mk, Blk.row, PartOK, Go.Vm.part, V.cells, V.noSl, V.noRef, Nat.reduceAdd, Nat.reduceLeDiff, Nat.reduceMul, Try.underlying3, Ty.c3, Ty.a3, getD_map hx]
      repeat (refine And.intro (by first | omega | (intros; omega) | (intros; simp_all; done) | (intros; simp_all; omega)) ?_)
      refine k _ ?_; clear k K
      -- 4 := assign t10
      refine v_op ?_; intro K k
      simp only [zE, zS, aStepM, optable, set_some, Nat.reduceEqDiff, reduceIte, Nat.reduceLT, implies_true, forall_const, reduceCtorEq, V.ofValue, V.ofScalar, V.un, V.gd, aExec, aop, Nat.reduceAdd, getD_map hx]
      repeat (refine And.intro (by first | omega | (intros; omega) | (intros; simp_all; done) | (intros; simp_all; omega)) ?_)
      refine k _ ?_; clear k K
      refine k15 _ ?_
      refine n14 _ _ (weak_keep [0, 4, 5, 6, 7] _) ?_
      simp only [keep_mk, keepE_nil, keepE_cons, look_cons, look_nil, Nat.reduceEqDiff, reduceIte]
      refine v_seq ?_; intro Q16 n16 e16 r16  -- SEQ 7
      refine v_region ?_; intro K17 k17
      -- 11 := move t4
      refine v_op ?_; intro K k
      simp only [zE, aStepM, optable, set_some, Nat.reduceEqDiff, reduceIte, Nat.reduceLT, implies_true, forall_const, reduceCtorEq, V.ofValue, V.ofScalar, V.un, V.gd, aExec, aop, getD_map hx]
      repeat (refine And.intro (by first | omega | (intros; omega) | (intros; simp_all; done) | (intros; simp_all; omega)) ?_)
      refine k _ ?_; clear k K
      -- 12 := call v f58 t11 c<0:i64> c<9:i64> | 3 3 3
      refine v_op ?_; intro K k
      simp only [zE, zM, aStepM, optable, set_some, Nat.reduceEqDiff, reduceIte, Nat.reduceLT, implies_true, forall_const, reduceCtorEq, V.ofValue, V.ofScalar, V.un, V.gd, aExec, lentIds, lendOf, Try.underlying3, Ty.c3, Ty.a3, Ty.b3, Ty.s3, Try.underlying4, Ty.c4, Ty.a4, Ty.b4, Ty.s4]
      repeat (refine And.intro (by first | rfl | (intros; simp_all; done)) ?_)
      refine aCall_new (inside_con _ _ _) (by first | rfl | (simp only [toArgs, toArg, toCell, toCells, idx, row_mk, List.getElem?_cons_zero, List.getElem?_cons_succ, Option.bind_some, Option.map_some, Blk.row, fillK_mix, flat_mix, deep_mix, cond_true]; done) | (simp [toArgs, toArg, toCell, toCells, idx, row_mk, Blk.row, fillK_mix, Nat.beq_refl]; done)) (by first | exact .inl ⟨rfl, by simp [Blk.kindIs, fillK_fd]⟩ | exact .inr (by simp [V.cold])) ?_
      refine k _ ?_; clear k K
      simp only [zY, zW, set_some, Nat.reduceEqDiff, reduceIte, V.ren, V.renL, rho, Nat.reduceAdd]
      -- 13 := unOp Go.UnOp.not 4 t12
      refine v_op ?_; intro K k
      simp only [zE, aStepM, optable, set_some, Nat.reduceEqDiff, reduceIte, Nat.reduceLT, implies_true, forall_const, reduceCtorEq, V.ofValue, V.ofScalar, V.un, V.gd, aExec, aop, aUn, Try.underlying4, getD_map hx]
      repeat (refine And.intro (by first | omega | (intros; omega) | (intros; simp_all; done) | (intros; simp_all; omega)) ?_)
      refine k _ ?_; clear k K
      refine k17 _ ?_
      refine n16 _ _ (weak_keep [0, 5, 6, 7, 13] _) ?_
      simp only [keep_mk, keepE_nil, keepE_cons, look_cons, look_nil, Nat.reduceEqDiff, reduceIte]
      refine v_cond _ rfl ?_ ?_  -- COND 1
      · intro hc1
        try simp only [zC, reduceCtorEq] at hc1
        have hb : inR x 0 9 = false := by cases hq : inR x 0 9 with | false => rfl | true => (exfalso; simp [inR] at hq; have := hc1 hq.1; omega)
        refine v_seq ?_; intro Q19 n19 e19 r19  -- SEQ 8
        refine v_region ?_; intro K20 k20
        -- 2 := assign c<false>
        refine v_op ?_; intro K k
        simp only [zE, zS, aStepM, optable, set_some, Nat.reduceEqDiff, reduceIte, Nat.reduceLT, implies_true, forall_const, reduceCtorEq, V.ofValue, V.ofScalar, V.un, V.gd, aExec, aop, Nat.reduceAdd, getD_map hx]
        repeat (refine And.intro (by first | omega | (intros; omega) | (intros; simp_all; done) | (intros; simp_all; omega)) ?_)
        refine k _ ?_; clear k K
        refine k20 _ ?_
        refine n19 _ _ (weak_keep [2] _) ?_
        simp only [keep_mk, keepE_nil, keepE_cons, look_cons, look_nil, Nat.reduceEqDiff, reduceIte]
        refine v_ret ?_
        refine r13 _ ?_
        refine r12 _ ?_
        refine r7 _ ?_
        refine r6 _ ?_
        refine r3 _ ?_
        refine r0 _ ?_
        simp only [resK, pickRV, get_mk, look_cons, look_nil, Nat.reduceEqDiff, reduceIte, List.map_cons, List.map_nil]
        exact ret_pure rfl (by rw [needB, hR, hst, hb]; rfl) (.inl rfl)
      · intro hc1
        try simp only [zC, reduceCtorEq] at hc1
        have hb : inR x 0 9 = true := by rw [inR, decide_eq_true hc1.1, decide_eq_true hc1.2]; rfl
        refine v_skip ?_
        refine n13 _ ?_
        refine n12 _ _ (weak_keep [0, 5, 6, 7] _) ?_
        simp only [keep_mk, keepE_nil, keepE_cons, look_cons, look_nil, Nat.reduceEqDiff, reduceIte]
        refine v_region ?_; intro K21 k21
        -- 14 := binOp Go.BinOp.add 3 t7 c<1:i64> 3
        refine v_op ?_; intro K k
        simp only [zE, aStepM, optable, set_some, Nat.reduceEqDiff, reduceIte, Nat.reduceLT, implies_true, forall_const, reduceCtorEq, V.ofValue, V.ofScalar, V.un, V.gd, aExec, aop, aBin, Try.underlying3, getD_map hx]
        try simp (disch := omega) only [wrap64]
        repeat (refine And.intro (by first | omega | (intros; omega) | (intros; simp_all; done) | (intros; simp_all; omega)) ?_)
        refine k _ ?_; clear k K
        -- 7 := move t14
        refine v_op ?_; intro K k
        simp only [zE, aStepM, optable, set_some, Nat.reduceEqDiff, reduceIte, Nat.reduceLT, implies_true, forall_const, reduceCtorEq, V.ofValue, V.ofScalar, V.un, V.gd, aExec, aop, getD_map hx]
        repeat (refine And.intro (by first | omega | (intros; omega) | (intros; simp_all; done) | (intros; simp_all; omega)) ?_)
        refine k _ ?_; clear k K
        refine k21 _ ?_
        refine n7 _ (i + 1) ?_ ?_ ?_
        · refine weak_of [0, 5, 6, 7] ?_
          simp only [keep_mk, keepE_nil, keepE_cons, look_cons, look_nil, Nat.reduceEqDiff, reduceIte]
          rfl
        · exact ⟨by omega, by rw [hR, hst, hb]; simp⟩
        · show _ < _; omega
    · intro hc0
      try simp only [zC, reduceCtorEq] at hc0
      refine v_exit ?_
      refine e10 _ _ ?_
      refine e7 _ _ ?_
      refine x6 _ ?_
      refine n3 _ _ (weak_keep [0] _) ?_
      simp only [keep_mk, keepE_nil, keepE_cons, look_cons, look_nil, Nat.reduceEqDiff, reduceIte]
      refine v_seq ?_; intro Q22 n22 e22 r22  -- SEQ 9
      refine v_region ?_; intro K23 k23
      -- 15 := move t0
      refine v_op ?_; intro K k
      simp only [zE, aStepM, optable, set_some, Nat.reduceEqDiff, reduceIte, Nat.reduceLT, implies_true, forall_const, reduceCtorEq, V.ofValue, V.ofScalar, V.un, V.gd, aExec, aop]
      repeat (refine And.intro (by first | omega | (intros; omega) | (intros; simp_all; done) | (intros; simp_all; omega)) ?_)
      refine k _ ?_; clear k K
      -- 16 := call b Go.Builtin.len t15 | 33
      refine v_op ?_; intro K k
      simp only [zE, zL, zN, aStepM, optable, set_some, Nat.reduceEqDiff, reduceIte, Nat.reduceLT, implies_true, forall_const, reduceCtorEq, V.ofValue, V.ofScalar, V.un, V.gd, aExec, aop, List.length_map, aLen, lenOK, row_mk, Blk.row, List.size_toArray, List.getD_eq_getElem?_getD, Array.getD_eq_getD_getElem?, Option.getD_some, Nat.reduceAdd, Nat.reduceLeDiff, Nat.reduceMul, Try.underlying3, Ty.c3, Ty.a3, Ty.b3, Ty.s3, Try.underlying33, Ty.c33, Ty.a33, Ty.b33, Ty.s33]
      repeat (refine And.intro (by first | omega | (intros; omega) | (intros; simp_all; done) | (intros; simp_all; omega)) ?_)
      refine k _ ?_; clear k K
      -- 17 := binOp Go.BinOp.leq 3 t16 c<21:i64> 3
      refine v_op ?_; intro K k
      simp only [zE, aStepM, optable, set_some, Nat.reduceEqDiff, reduceIte, Nat.reduceLT, implies_true, forall_const, reduceCtorEq, V.ofValue, V.ofScalar, V.un, V.gd, aExec, aop, aBin, Try.underlying3]
      repeat (refine And.intro (by first | omega | (intros; omega) | (intros; simp_all; done) | (intros; simp_all; omega)) ?_)
      refine k _ ?_; clear k K
      -- 2 := assign t17
      refine v_op ?_; intro K k
      simp only [zE, zS, aStepM, optable, set_some, Nat.reduceEqDiff, reduceIte, Nat.reduceLT, implies_true, forall_const, reduceCtorEq, V.ofValue, V.ofScalar, V.un, V.gd, aExec, aop, Nat.reduceAdd]
      repeat (refine And.intro (by first | omega | (intros; omega) | (intros; simp_all; done) | (intros; simp_all; omega)) ?_)
      refine k _ ?_; clear k K
      refine k23 _ ?_
      refine n22 _ _ (weak_keep [2] _) ?_
      simp only [keep_mk, keepE_nil, keepE_cons, look_cons, look_nil, Nat.reduceEqDiff, reduceIte]
      refine v_ret ?_
      refine r0 _ ?_
      simp only [resK, pickRV, get_mk, look_cons, look_nil, Nat.reduceEqDiff, reduceIte, List.map_cons, List.map_nil]
      exact ret_pure rfl (by rw [needB, hR, List.drop_of_length_le (by omega)]; simp) (.inl rfl)
end Go.Proofs.Ythehbhfjapinnaa
