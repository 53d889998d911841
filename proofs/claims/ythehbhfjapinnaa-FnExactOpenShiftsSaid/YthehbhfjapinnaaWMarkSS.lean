/- What functions compute (MarkSS). No condition. -/
import Derived.Test.YthehbhfjapinnaaTy
import Derived.Test.YthehbhfjapinnaaVm21
import Derived.Test.YthehbhfjapinnaaWMarks
import Derived.Test.YthehbhfjapinnaaWBase
set_option linter.unusedSimpArgs false
set_option linter.unusedVariables false
namespace Go.Proofs.Ythehbhfjapinnaa
open Go Go.Vm

def markSS : Int → List (List Int) → List (List Int)
  | _, [] => []
  | k, l :: ll => markRow k l.length :: markSS (k + l.length) ll
def totSS : List (List Int) → Int
  | [] => 0
  | l :: ll => l.length + totSS ll
theorem totSS_pos : ∀ ll : List (List Int), 0 ≤ totSS ll
  | [] => Int.le_refl _
  | l :: ll => by have := totSS_pos ll; rw [totSS]; omega
theorem markSS_same : ∀ (ll : List (List Int)) (k : Int), (markSS k ll).map List.isEmpty = ll.map List.isEmpty
  | [], _ => rfl
  | l :: ll, k => by
    rw [markSS, List.map_cons, List.map_cons, markSS_same ll]
    congr 1
    cases l <;> simp [markRow, List.range_succ]
theorem markSS_len : ∀ (ll : List (List Int)) (k : Int), (markSS k ll).length = ll.length
  | [], _ => rfl
  | l :: ll, k => by rw [markSS, List.length_cons, List.length_cons, markSS_len ll]
theorem markRow_zero (k : Int) : markRow k 0 = [] := rfl
theorem set_cons_eq {α : Type} {l l' : List α} {i : Nat} {x : α} (hi : i < l.length) : (l.set i x).take (i + 1) ++ l' = l.take i ++ x :: l' := by
  rw [List.take_add_one, List.getElem?_set_self hi, List.take_set_of_le (Nat.le_refl _)]
  simp
theorem same_set {l : List (List Int)} {i : Nat} {x y : List Int} (h : l[i]? = some x) (he : y.isEmpty = x.isEmpty) : (l.set i y).map List.isEmpty = l.map List.isEmpty := by
  obtain ⟨hi, rfl⟩ := List.getElem?_eq_some_iff.1 h
  rw [List.map_set, he]
  apply List.ext_getElem?
  intro j
  by_cases q : i = j
  · subst q; rw [List.getElem?_set_self (by simpa using hi)]; simp [hi]
  · rw [List.getElem?_set_ne q]
theorem totSS_drop {ll : List (List Int)} {i : Nat} {l : List Int} (h : ll[i]? = some l) : totSS (ll.drop i) = l.length + totSS (ll.drop (i + 1)) := by
  rw [getElem_drop_cons h, totSS]
theorem totSS_end {ll : List (List Int)} {i : Nat} (h : ll.length ≤ i) : totSS (ll.drop i) = 0 := by
  rw [List.drop_of_length_le h]; rfl

theorem news_get {f : Int → V} {b : Blk} {ll : List (List Int)} {i : Nat} {l : List Int} (h : ll[i]? = some l) (hne : l.isEmpty = false) : (b :: newsF f ll)[1 + i]? = some (.arr (l.map f) .flat) := by
  rw [Nat.add_comm, List.getElem?_cons_succ, newsF, List.getElem?_map, h]
  simp [rowB, hne]
theorem news_set {f : Int → V} {b : Blk} {ll : List (List Int)} {i : Nat} {l : List Int} (hne : l.isEmpty = false) : (b :: newsF f ll).set (1 + i) (.arr (l.map f) .flat) = b :: newsF f (ll.set i l) := by
  rw [Nat.add_comm, List.set_cons_succ, newsF, newsF, List.map_set]
  simp [rowB, hne]
theorem row_get0 {α : Type} {ll : List (List α)} {i : Nat} {l : List α} (h : ll[i]? = some l) (he : l.isEmpty = true) : (rowsF 1 ll).getD i .any = .sl [] := by
  rw [List.getD_eq_getElem?_getD, rowsF_get ll 1 i l h, rowV, he]; rfl
theorem row_get1 {α : Type} {ll : List (List α)} {i : Nat} {l : List α} (h : ll[i]? = some l) (he : l.isEmpty = false) : (rowsF 1 ll).getD i .any = .ref (1 + i) := by
  rw [List.getD_eq_getElem?_getD, rowsF_get ll 1 i l h, rowV, he]; rfl

-- loop.example/g01020/laws.markIntSS
set_option maxHeartbeats 1000000 in
theorem markIntSS_con (ll : List (List Int)) (kk : Int) (kd : Kd) (hkd : kd = .flat ∨ kd = .deep) (hl : ll.length ≤ 1048576) (hls : ∀ l ∈ ll, l.length ≤ 1048576) (hk : 0 ≤ kk ∧ kk + totSS ll ≤ 1000000000000) : Con Try.prog 21 [.ref 0, .int .i64 kk] [.arr (ll.map (fun l : List Int => V.sl (l.map (V.int .i64)))) kd] (.int .i64 (kk + totSS ll)) [.arr ((markSS kk ll).map (fun l : List Int => V.sl (l.map (V.int .i64)))) .deep] := by
  refine v_con [.tmp 4] [(22, [0])] Try.func21 rfl rfl rfl (by simp [Try.ntmps21]) ?_
  intro Q0 n0 r0
  simp only [Try.ntmps21, envFrom, Nat.reduceAdd]
  refine v_seq ?_; intro Q1 n1 e1 r1  -- SEQ 0
  refine v_region ?_; intro K2 k2
  -- 4 := assign c<0:i64>
  refine v_op ?_; intro K k
  simp only [zE, zS, aStepM, optable, set_some, Nat.reduceEqDiff, reduceIte, Nat.reduceLT, implies_true, forall_const, reduceCtorEq, V.ofValue, V.ofScalar, V.un, V.gd, aExec, aop, Nat.reduceAdd]
  repeat (refine And.intro (by first | omega | (intros; omega) | (intros; simp_all; done) | (intros; simp_all; omega)) ?_)
  refine k _ ?_; clear k K
  refine k2 _ ?_
  refine n1 _ _ (weak_keep [0, 1] _) ?_
  simp only [keep_mk, keepE_nil, keepE_cons, look_cons, look_nil, Nat.reduceEqDiff, reduceIte]
  refine v_seq ?_; intro Q3 n3 e3 r3  -- SEQ 1
  refine v_seq ?_; intro Q4 n4 e4 r4  -- SEQ 2
  refine v_region ?_; intro K5 k5
  -- 5 := assign c<0:i64>
  refine v_op ?_; intro K k
  simp only [zE, zS, aStepM, optable, set_some, Nat.reduceEqDiff, reduceIte, Nat.reduceLT, implies_true, forall_const, reduceCtorEq, V.ofValue, V.ofScalar, V.un, V.gd, aExec, aop, Nat.reduceAdd]
  repeat (refine And.intro (by first | omega | (intros; omega) | (intros; simp_all; done) | (intros; simp_all; omega)) ?_)
  refine k _ ?_; clear k K
  refine k5 _ ?_
  refine n4 _ _ (weak_keep [0, 1, 5] _) ?_
  simp only [keep_mk, keepE_nil, keepE_cons, look_cons, look_nil, Nat.reduceEqDiff, reduceIte]
  refine v_block ?_; intro Q6 n6 x6 e6 r6
  refine v_loop (fun p => ⟨[(0, .ref 0), (1, .int .i64 p.2.1), (5, .int .i64 (Nat.cast p.1))], (.arr (rowsF 1 ll) .mix :: newsF (V.int .i64) p.2.2), false, 19, 0⟩) (fun p => p.1 ≤ ll.length ∧ 0 ≤ p.2.1 ∧ p.2.2.length = ll.length ∧ p.2.1 + totSS (ll.drop p.1) = kk + totSS ll ∧ p.2.2.map List.isEmpty = ll.map List.isEmpty ∧ p.2.2.drop p.1 = ll.drop p.1 ∧ p.2.2.take p.1 ++ markSS p.2.1 (ll.drop p.1) = markSS kk ll) (fun p => ll.length - p.1) ((0, kk, ll) : Nat × Int × List (List Int)) ?_ ?_ ?_
  · refine weak_trans (weak_keep [0, 1, 5] _) ?_
    simp only [keep_mk, keepE_nil, keepE_cons, look_cons, look_nil, Nat.reduceEqDiff, reduceIte]
    exact weak_open (f := V.int .i64) 0 ll kd rfl hkd rfl (fun _ => rfl)
  · exact ⟨Nat.zero_le _, hk.1, rfl, by simp, rfl, rfl, by simp⟩
  · rintro ⟨i, m, cur⟩ hok7 Q7 n7 e7 r7
    obtain ⟨hi1, hm0, hL, hK, hE, hD, hM⟩ := hok7
    simp only [] at hi1 hm0 hL hK hE hD hM ⊢
    refine v_seq ?_; intro Q8 n8 e8 r8  -- SEQ 3
    refine v_seq ?_; intro Q9 n9 e9 r9  -- SEQ 4
    refine v_region ?_; intro K10 k10
    -- 6 := move t5
    refine v_op ?_; intro K k
    simp only [zE, aStepM, optable, set_some, Nat.reduceEqDiff, reduceIte, Nat.reduceLT, implies_true, forall_const, reduceCtorEq, V.ofValue, V.ofScalar, V.un, V.gd, aExec, aop]
    repeat (refine And.intro (by first | omega | (intros; omega) | (intros; simp_all; done) | (intros; simp_all; omega)) ?_)
    refine k _ ?_; clear k K
    -- 7 := move t0
    refine v_op ?_; intro K k
    simp only [zE, aStepM, optable, set_some, Nat.reduceEqDiff, reduceIte, Nat.reduceLT, implies_true, forall_const, reduceCtorEq, V.ofValue, V.ofScalar, V.un, V.gd, aExec, aop]
    repeat (refine And.intro (by first | omega | (intros; omega) | (intros; simp_all; done) | (intros; simp_all; omega)) ?_)
    refine k _ ?_; clear k K
    -- 8 := call b Go.Builtin.len t7 | 28
    refine v_op ?_; intro K k
    simp only [zE, zL, zN, aStepM, optable, set_some, Nat.reduceEqDiff, reduceIte, Nat.reduceLT, implies_true, forall_const, reduceCtorEq, V.ofValue, V.ofScalar, V.un, V.gd, aExec, aop, List.length_map, aLen, lenOK, row_mk, Blk.row, List.size_toArray, List.getD_eq_getElem?_getD, Array.getD_eq_getD_getElem?, Option.getD_some, Nat.reduceAdd, Nat.reduceLeDiff, Nat.reduceMul, Try.underlying3, Ty.c3, Ty.a3, Ty.b3, Ty.s3, Try.underlying28, Ty.c28, Ty.a28, Ty.b28, Ty.s28, Try.underlying33, Ty.c33, Ty.a33, Ty.b33, Ty.s33]
    repeat (refine And.intro (by first | omega | (intros; omega) | (intros; simp_all; done) | (intros; simp_all; omega)) ?_)
    refine k _ ?_; clear k K
    -- 9 := binOp Go.BinOp.lss 3 t6 t8 3
    refine v_op ?_; intro K k
    simp only [zE, aStepM, optable, set_some, Nat.reduceEqDiff, reduceIte, Nat.reduceLT, implies_true, forall_const, reduceCtorEq, V.ofValue, V.ofScalar, V.un, V.gd, aExec, aop, aBin, Try.underlying3]
    repeat (refine And.intro (by first | omega | (intros; omega) | (intros; simp_all; done) | (intros; simp_all; omega)) ?_)
    refine k _ ?_; clear k K
    refine k10 _ ?_
    refine n9 _ _ (weak_keep [0, 1, 5, 9] _) ?_
    simp only [keep_mk, keepE_nil, keepE_cons, look_cons, look_nil, Nat.reduceEqDiff, reduceIte]
    refine v_cond _ rfl ?_ ?_  -- COND 0
    · intro hc0
      try simp only [zC, reduceCtorEq] at hc0
      rw [rowsF_len] at hc0
      have hlt : i < ll.length := by omega
      obtain ⟨l, hx⟩ : ∃ l, ll[i]? = some l := ⟨ll[i], List.getElem?_eq_getElem hlt⟩
      have hll := hls l (List.mem_of_getElem? hx)
      have htd := totSS_drop hx
      have hpos := totSS_pos (ll.drop (i + 1))
      have hcx : cur[i]? = some l := by have h := congrArg (fun z => z[0]?) hD; simpa [List.getElem?_drop, hx] using h
      rcases Bool.eq_false_or_eq_true l.isEmpty with he | he
      · skip
        have hrow := row_get0 hx he
        have hl0 : l = [] := List.isEmpty_iff.1 he
        refine v_skip ?_
        refine n8 _ _ (weak_keep [0, 1, 5] _) ?_
        simp only [keep_mk, keepE_nil, keepE_cons, look_cons, look_nil, Nat.reduceEqDiff, reduceIte]
        refine v_seq ?_; intro Q12 n12 e12 r12  -- SEQ 5
        refine v_block ?_; intro Q13 n13 x13 e13 r13
        refine v_region ?_; intro K14 k14
        -- 12 := move t0
        refine v_op ?_; intro K k
        simp only [zE, aStepM, optable, set_some, Nat.reduceEqDiff, reduceIte, Nat.reduceLT, implies_true, forall_const, reduceCtorEq, V.ofValue, V.ofScalar, V.un, V.gd, aExec, aop, rowsF_len, hrow]
        repeat (refine And.intro (by first | omega | (intros; omega) | (intros; simp_all; done) | (intros; simp_all; omega)) ?_)
        refine k _ ?_; clear k K
        -- 13 := move t5
        refine v_op ?_; intro K k
        simp only [zE, aStepM, optable, set_some, Nat.reduceEqDiff, reduceIte, Nat.reduceLT, implies_true, forall_const, reduceCtorEq, V.ofValue, V.ofScalar, V.un, V.gd, aExec, aop, rowsF_len, hrow]
        repeat (refine And.intro (by first | omega | (intros; omega) | (intros; simp_all; done) | (intros; simp_all; omega)) ?_)
        refine k _ ?_; clear k K
        -- 14 := indexAddr 28 t12 t13
        refine v_op ?_; intro K k
        simp only [zE, zL, zN, aStepM, optable, set_some, Nat.reduceEqDiff, reduceIte, Nat.reduceLT, implies_true, forall_const, reduceCtorEq, V.ofValue, V.ofScalar, V.un, V.gd, aExec, aop, aIndexAddr, row_mk, Blk.row, Go.Vm.V.cells, List.forall_mem_map, List.length_map, Int.toNat_natCast, Int.reduceToNat, TypeDesc.slice.injEq, Nat.reduceAdd, Nat.reduceLeDiff, Nat.reduceMul, Try.underlying28, Ty.c28, Ty.a28, Try.underlying33, Ty.c33, Ty.a33, rowsF_len, hrow]
        repeat (refine And.intro (by first | omega | (exact rowsF_cell1 ll 1) | (intros; omega) | (intros; simp_all; done)) ?_)
        refine k _ ?_; clear k K
        -- 15 := load 33 t14
        refine v_op ?_; intro K k
        simp only [zE, zL, zO, zN, aStepM, optable, set_some, Nat.reduceEqDiff, reduceIte, Nat.reduceLT, implies_true, forall_const, reduceCtorEq, V.ofValue, V.ofScalar, V.un, V.gd, aExec, aop, aLoad, row_mk, Blk.row, PartOK, Go.Vm.part, V.cells, V.noSl, V.noRef, Nat.reduceAdd, Nat.reduceLeDiff, Nat.reduceMul, Try.underlying3, Ty.c3, Ty.a3, Try.underlying33, Ty.c33, Ty.a33, rowsF_len, hrow]
        repeat (refine And.intro (by first | omega | (intros; omega) | (intros; simp_all; done) | (intros; simp_all; omega)) ?_)
        refine k _ ?_; clear k K
        -- 16 := move t1
        refine v_op ?_; intro K k
        simp only [zE, aStepM, optable, set_some, Nat.reduceEqDiff, reduceIte, Nat.reduceLT, implies_true, forall_const, reduceCtorEq, V.ofValue, V.ofScalar, V.un, V.gd, aExec, aop, rowsF_len, hrow]
        repeat (refine And.intro (by first | omega | (intros; omega) | (intros; simp_all; done) | (intros; simp_all; omega)) ?_)
        refine k _ ?_; clear k K
        -- 17 := call v f22 t15 t16 | 33 3
        refine v_op ?_; intro K k
        simp only [zE, zM, aStepM, optable, set_some, Nat.reduceEqDiff, reduceIte, Nat.reduceLT, implies_true, forall_const, reduceCtorEq, V.ofValue, V.ofScalar, V.un, V.gd, aExec, lentIds, lendOf, Try.underlying3, Ty.c3, Ty.a3, Ty.b3, Ty.s3, Try.underlying33, Ty.c33, Ty.a33, Ty.b33, Ty.s33]
        repeat (refine And.intro (by first | rfl | (intros; simp_all; done)) ?_)
        first | refine aCall_lent _ (markIntS_con l m hll (by omega)) (by first | rfl | (simp only [toArgs, toArg, toCell, toCells, idx, row_mk, List.getElem?_cons_zero, List.getElem?_cons_succ, Option.bind_some, Option.map_some, Blk.row, fillK_mix, flat_mix, deep_mix, cond_true]; done) | (simp [toArgs, toArg, toCell, toCells, idx, row_mk, Blk.row, fillK_mix, Nat.beq_refl]; done)) hO ⟨by simp [Blk.kindIs, fillK_mix], by simp⟩ (by first | exact .inl rfl | exact .inr (by simp [Blk.kindIs])) ⟨rfl, by simp [Blk.kindIs, fillK_fd]⟩ ?_ | refine aCall_new (markInt0_con m) (by first | rfl | (simp only [toArgs, toArg, toCell, toCells, idx, row_mk, List.getElem?_cons_zero, List.getElem?_cons_succ, Option.bind_some, Option.map_some, Blk.row, fillK_mix, flat_mix, deep_mix, cond_true]; done) | (simp [toArgs, toArg, toCell, toCells, idx, row_mk, Blk.row, fillK_mix, Nat.beq_refl]; done)) (by first | exact .inl ⟨rfl, by simp [Blk.kindIs, fillK_fd]⟩ | exact .inr (by simp [V.cold])) ?_
        refine k _ ?_; clear k K
        simp only [zY, zW, set_some, Nat.reduceEqDiff, reduceIte, V.ren, V.renL, List.set_cons_zero, List.set_cons_succ, Nat.reduceAdd]
        -- 1 := assign t17
        refine v_op ?_; intro K k
        simp only [zE, zS, aStepM, optable, set_some, Nat.reduceEqDiff, reduceIte, Nat.reduceLT, implies_true, forall_const, reduceCtorEq, V.ofValue, V.ofScalar, V.un, V.gd, aExec, aop, Nat.reduceAdd, rowsF_len, hrow]
        repeat (refine And.intro (by first | omega | (intros; omega) | (intros; simp_all; done) | (intros; simp_all; omega)) ?_)
        refine k _ ?_; clear k K
        refine k14 _ ?_
        refine n13 _ ?_
        refine n12 _ _ (weak_keep [0, 1, 5] _) ?_
        simp only [keep_mk, keepE_nil, keepE_cons, look_cons, look_nil, Nat.reduceEqDiff, reduceIte]
        refine v_region ?_; intro K15 k15
        -- 10 := move t5
        refine v_op ?_; intro K k
        simp only [zE, aStepM, optable, set_some, Nat.reduceEqDiff, reduceIte, Nat.reduceLT, implies_true, forall_const, reduceCtorEq, V.ofValue, V.ofScalar, V.un, V.gd, aExec, aop, rowsF_len, hrow]
        repeat (refine And.intro (by first | omega | (intros; omega) | (intros; simp_all; done) | (intros; simp_all; omega)) ?_)
        refine k _ ?_; clear k K
        -- 11 := binOp Go.BinOp.add 3 t10 c<1:i64> 3
        refine v_op ?_; intro K k
        simp only [zE, aStepM, optable, set_some, Nat.reduceEqDiff, reduceIte, Nat.reduceLT, implies_true, forall_const, reduceCtorEq, V.ofValue, V.ofScalar, V.un, V.gd, aExec, aop, aBin, Try.underlying3, rowsF_len, hrow]
        try simp (disch := omega) only [wrap64]
        repeat (refine And.intro (by first | omega | (intros; omega) | (intros; simp_all; done) | (intros; simp_all; omega)) ?_)
        refine k _ ?_; clear k K
        -- 5 := assign t11
        refine v_op ?_; intro K k
        simp only [zE, zS, aStepM, optable, set_some, Nat.reduceEqDiff, reduceIte, Nat.reduceLT, implies_true, forall_const, reduceCtorEq, V.ofValue, V.ofScalar, V.un, V.gd, aExec, aop, Nat.reduceAdd, rowsF_len, hrow]
        repeat (refine And.intro (by first | omega | (intros; omega) | (intros; simp_all; done) | (intros; simp_all; omega)) ?_)
        refine k _ ?_; clear k K
        refine k15 _ ?_
        refine n7 _ (i + 1, m, cur) ?_ ?_ ?_
        · refine weak_of [0, 1, 5] ?_
          simp only [keep_mk, keepE_nil, keepE_cons, look_cons, look_nil, Nat.reduceEqDiff, reduceIte]
          rfl
        · exact ⟨hlt, hm0, hL, by rw [← hK, htd, hl0]; simp, hE, by have h := congrArg (List.drop 1) hD; simpa [List.drop_drop, Nat.add_comm] using h, by rw [← hM, getElem_drop_cons hx, hl0, markSS]; show cur.take (i + 1) ++ markSS m _ = _; rw [List.take_add_one, hcx, hl0]; simp [markRow_zero]⟩
        · show _ < _; show ll.length - (i + 1) < ll.length - i; omega
      · skip
        have hrow := row_get1 hx he
        have hO := news_get (f := V.int .i64) (b := .arr (rowsF 1 ll) .mix) hcx he
        have hmne : (markRow m l.length).isEmpty = false := by cases l with | nil => cases he | cons x l => simp [markRow, List.range_succ]
        have hset := news_set (f := V.int .i64) (b := .arr (rowsF 1 ll) .mix) (ll := cur) (i := i) hmne
        refine v_skip ?_
        refine n8 _ _ (weak_keep [0, 1, 5] _) ?_
        simp only [keep_mk, keepE_nil, keepE_cons, look_cons, look_nil, Nat.reduceEqDiff, reduceIte]
        refine v_seq ?_; intro Q16 n16 e16 r16  -- SEQ 6
        refine v_block ?_; intro Q17 n17 x17 e17 r17
        refine v_region ?_; intro K18 k18
        -- 12 := move t0
        refine v_op ?_; intro K k
        simp only [zE, aStepM, optable, set_some, Nat.reduceEqDiff, reduceIte, Nat.reduceLT, implies_true, forall_const, reduceCtorEq, V.ofValue, V.ofScalar, V.un, V.gd, aExec, aop, rowsF_len, hrow]
        repeat (refine And.intro (by first | omega | (intros; omega) | (intros; simp_all; done) | (intros; simp_all; omega)) ?_)
        refine k _ ?_; clear k K
        -- 13 := move t5
        refine v_op ?_; intro K k
        simp only [zE, aStepM, optable, set_some, Nat.reduceEqDiff, reduceIte, Nat.reduceLT, implies_true, forall_const, reduceCtorEq, V.ofValue, V.ofScalar, V.un, V.gd, aExec, aop, rowsF_len, hrow]
        repeat (refine And.intro (by first | omega | (intros; omega) | (intros; simp_all; done) | (intros; simp_all; omega)) ?_)
        refine k _ ?_; clear k K
        -- 14 := indexAddr 28 t12 t13
        refine v_op ?_; intro K k
        simp only [zE, zL, zN, aStepM, optable, set_some, Nat.reduceEqDiff, reduceIte, Nat.reduceLT, implies_true, forall_const, reduceCtorEq, V.ofValue, V.ofScalar, V.un, V.gd, aExec, aop, aIndexAddr, row_mk, Blk.row, Go.Vm.V.cells, List.forall_mem_map, List.length_map, Int.toNat_natCast, Int.reduceToNat, TypeDesc.slice.injEq, Nat.reduceAdd, Nat.reduceLeDiff, Nat.reduceMul, Try.underlying28, Ty.c28, Ty.a28, Try.underlying33, Ty.c33, Ty.a33, rowsF_len, hrow]
        repeat (refine And.intro (by first | omega | (exact rowsF_cell1 ll 1) | (intros; omega) | (intros; simp_all; done)) ?_)
        refine k _ ?_; clear k K
        -- 15 := load 33 t14
        refine v_op ?_; intro K k
        simp only [zE, zL, zO, zN, aStepM, optable, set_some, Nat.reduceEqDiff, reduceIte, Nat.reduceLT, implies_true, forall_const, reduceCtorEq, V.ofValue, V.ofScalar, V.un, V.gd, aExec, aop, aLoad, row_mk, Blk.row, PartOK, Go.Vm.part, V.cells, V.noSl, V.noRef, Nat.reduceAdd, Nat.reduceLeDiff, Nat.reduceMul, Try.underlying3, Ty.c3, Ty.a3, Try.underlying33, Ty.c33, Ty.a33, rowsF_len, hrow]
        repeat (refine And.intro (by first | omega | (intros; omega) | (intros; simp_all; done) | (intros; simp_all; omega)) ?_)
        refine k _ ?_; clear k K
        -- 16 := move t1
        refine v_op ?_; intro K k
        simp only [zE, aStepM, optable, set_some, Nat.reduceEqDiff, reduceIte, Nat.reduceLT, implies_true, forall_const, reduceCtorEq, V.ofValue, V.ofScalar, V.un, V.gd, aExec, aop, rowsF_len, hrow]
        repeat (refine And.intro (by first | omega | (intros; omega) | (intros; simp_all; done) | (intros; simp_all; omega)) ?_)
        refine k _ ?_; clear k K
        -- 17 := call v f22 t15 t16 | 33 3
        refine v_op ?_; intro K k
        simp only [zE, zM, aStepM, optable, set_some, Nat.reduceEqDiff, reduceIte, Nat.reduceLT, implies_true, forall_const, reduceCtorEq, V.ofValue, V.ofScalar, V.un, V.gd, aExec, lentIds, lendOf, Try.underlying3, Ty.c3, Ty.a3, Ty.b3, Ty.s3, Try.underlying33, Ty.c33, Ty.a33, Ty.b33, Ty.s33]
        repeat (refine And.intro (by first | rfl | (intros; simp_all; done)) ?_)
        first | refine aCall_lent _ (markIntS_con l m hll (by omega)) (by first | rfl | (simp only [toArgs, toArg, toCell, toCells, idx, row_mk, List.getElem?_cons_zero, List.getElem?_cons_succ, Option.bind_some, Option.map_some, Blk.row, fillK_mix, flat_mix, deep_mix, cond_true]; done) | (simp [toArgs, toArg, toCell, toCells, idx, row_mk, Blk.row, fillK_mix, Nat.beq_refl]; done)) hO ⟨by simp [Blk.kindIs, fillK_mix], by simp⟩ (by first | exact .inl rfl | exact .inr (by simp [Blk.kindIs])) ⟨rfl, by simp [Blk.kindIs, fillK_fd]⟩ ?_ | refine aCall_new (markInt0_con m) (by first | rfl | (simp only [toArgs, toArg, toCell, toCells, idx, row_mk, List.getElem?_cons_zero, List.getElem?_cons_succ, Option.bind_some, Option.map_some, Blk.row, fillK_mix, flat_mix, deep_mix, cond_true]; done) | (simp [toArgs, toArg, toCell, toCells, idx, row_mk, Blk.row, fillK_mix, Nat.beq_refl]; done)) (by first | exact .inl ⟨rfl, by simp [Blk.kindIs, fillK_fd]⟩ | exact .inr (by simp [V.cold])) ?_
        refine k _ ?_; clear k K
        simp only [zY, zW, set_some, Nat.reduceEqDiff, reduceIte, V.ren, V.renL, List.set_cons_zero, List.set_cons_succ, Nat.reduceAdd]
        -- 1 := assign t17
        refine v_op ?_; intro K k
        simp only [zE, zS, aStepM, optable, set_some, Nat.reduceEqDiff, reduceIte, Nat.reduceLT, implies_true, forall_const, reduceCtorEq, V.ofValue, V.ofScalar, V.un, V.gd, aExec, aop, Nat.reduceAdd, rowsF_len, hrow]
        repeat (refine And.intro (by first | omega | (intros; omega) | (intros; simp_all; done) | (intros; simp_all; omega)) ?_)
        refine k _ ?_; clear k K
        refine k18 _ ?_
        refine n17 _ ?_
        refine n16 _ _ (weak_keep [0, 1, 5] _) ?_
        simp only [keep_mk, keepE_nil, keepE_cons, look_cons, look_nil, Nat.reduceEqDiff, reduceIte]
        refine v_region ?_; intro K19 k19
        -- 10 := move t5
        refine v_op ?_; intro K k
        simp only [zE, aStepM, optable, set_some, Nat.reduceEqDiff, reduceIte, Nat.reduceLT, implies_true, forall_const, reduceCtorEq, V.ofValue, V.ofScalar, V.un, V.gd, aExec, aop, rowsF_len, hrow]
        repeat (refine And.intro (by first | omega | (intros; omega) | (intros; simp_all; done) | (intros; simp_all; omega)) ?_)
        refine k _ ?_; clear k K
        -- 11 := binOp Go.BinOp.add 3 t10 c<1:i64> 3
        refine v_op ?_; intro K k
        simp only [zE, aStepM, optable, set_some, Nat.reduceEqDiff, reduceIte, Nat.reduceLT, implies_true, forall_const, reduceCtorEq, V.ofValue, V.ofScalar, V.un, V.gd, aExec, aop, aBin, Try.underlying3, rowsF_len, hrow]
        try simp (disch := omega) only [wrap64]
        repeat (refine And.intro (by first | omega | (intros; omega) | (intros; simp_all; done) | (intros; simp_all; omega)) ?_)
        refine k _ ?_; clear k K
        -- 5 := assign t11
        refine v_op ?_; intro K k
        simp only [zE, zS, aStepM, optable, set_some, Nat.reduceEqDiff, reduceIte, Nat.reduceLT, implies_true, forall_const, reduceCtorEq, V.ofValue, V.ofScalar, V.un, V.gd, aExec, aop, Nat.reduceAdd, rowsF_len, hrow]
        repeat (refine And.intro (by first | omega | (intros; omega) | (intros; simp_all; done) | (intros; simp_all; omega)) ?_)
        refine k _ ?_; clear k K
        refine k19 _ ?_
        refine n7 _ (i + 1, m + l.length, cur.set i (markRow m l.length)) ?_ ?_ ?_
        · refine weak_of [0, 1, 5] ?_
          simp only [keep_mk, keepE_nil, keepE_cons, look_cons, look_nil, Nat.reduceEqDiff, reduceIte]
          first | rfl | (simp only [hset]; rfl)
        · exact ⟨hlt, by show 0 ≤ m + (l.length : Int); omega, by show (cur.set i _).length = _; rw [List.length_set]; exact hL, by show m + (l.length : Int) + totSS (ll.drop (i + 1)) = _; rw [← hK, htd]; omega, by show (cur.set i _).map List.isEmpty = _; rw [same_set hcx (by rw [hmne, he])]; exact hE, by show (cur.set i _).drop (i + 1) = _; rw [List.drop_set_of_lt (by omega)]; have h := congrArg (List.drop 1) hD; simpa [List.drop_drop, Nat.add_comm] using h, by show (cur.set i _).take (i + 1) ++ markSS (m + l.length) _ = _; rw [← hM, getElem_drop_cons hx, markSS, set_cons_eq (by omega)]⟩
        · show _ < _; show ll.length - (i + 1) < ll.length - i; omega
    · intro hc0
      try simp only [zC, reduceCtorEq] at hc0
      rw [rowsF_len] at hc0
      refine v_exit ?_
      refine e8 _ _ ?_
      refine e7 _ _ ?_
      refine x6 _ ?_
      apply n3
      · apply weak_trans (weak_keep [1] _)
        simp only [keep_mk, keepE_nil, keepE_cons, look_cons, look_nil, Nat.reduceEqDiff, reduceIte]
        have hend : i = ll.length := by omega
        rw [show rowsF 1 ll = rowsF 1 cur from rowsF_same _ _ _ hE.symm]
        exact weak_close (A := [.arr (rowsF 1 cur) .mix]) 0 cur rfl rfl
      skip
      refine v_seq ?_; intro Q20 n20 e20 r20  -- SEQ 7
      refine v_region ?_; intro K21 k21
      -- 18 := move t1
      refine v_op ?_; intro K k
      simp only [zE, aStepM, optable, set_some, Nat.reduceEqDiff, reduceIte, Nat.reduceLT, implies_true, forall_const, reduceCtorEq, V.ofValue, V.ofScalar, V.un, V.gd, aExec, aop]
      repeat (refine And.intro (by first | omega | (intros; omega) | (intros; simp_all; done) | (intros; simp_all; omega)) ?_)
      refine k _ ?_; clear k K
      -- 4 := assign t18
      refine v_op ?_; intro K k
      simp only [zE, zS, aStepM, optable, set_some, Nat.reduceEqDiff, reduceIte, Nat.reduceLT, implies_true, forall_const, reduceCtorEq, V.ofValue, V.ofScalar, V.un, V.gd, aExec, aop, Nat.reduceAdd]
      repeat (refine And.intro (by first | omega | (intros; omega) | (intros; simp_all; done) | (intros; simp_all; omega)) ?_)
      refine k _ ?_; clear k K
      refine k21 _ ?_
      refine n20 _ _ (weak_keep [4] _) ?_
      simp only [keep_mk, keepE_nil, keepE_cons, look_cons, look_nil, Nat.reduceEqDiff, reduceIte]
      refine v_ret ?_
      refine r0 _ ?_
      simp only [resK, pickRV, get_mk, look_cons, look_nil, Nat.reduceEqDiff, reduceIte, List.map_cons, List.map_nil]
      have hcur : cur = markSS kk ll := by have h := hM; rw [List.drop_of_length_le (by omega), markSS, List.append_nil, List.take_of_length_le (by rw [hL]; omega)] at h; exact h
      have hmk : m = kk + totSS ll := by rw [← hK, totSS_end (by omega)]; omega
      rw [← hcur, ← hmk]
      exact ret_lent rfl (by simp) rfl rfl (by simp [Blk.kindIs]) (.inl rfl)
end Go.Proofs.Ythehbhfjapinnaa
