/- What functions compute (May). No condition. -/
import Derived.Test.YtciapcamhocmcaaTy
import Derived.Test.YtciapcamhocmcaaVm21
import Derived.Test.YtciapcamhocmcaaWShifts
import Derived.Test.YtciapcamhocmcaaWHas
import Derived.Test.YtciapcamhocmcaaWExtremes
set_option linter.unusedSimpArgs false
set_option linter.unusedVariables false
namespace Go.Proofs.Ytciapcamhocmcaa
open Go Go.Vm

def mayB (d : List (List Int)) (a b c x : Int) : Bool := !((d.drop (d.length - c.toNat)).any fun l => decide (x ∈ l)) && decide ((shiftsOf d a).getD x.toNat 0 < b)
def breachFrom (M : Nat → Int → Bool) : Nat → List (List Int) → Option (Nat × Int)
  | _, [] => none
  | k, l :: ll => match l.find? (fun x => !M k x) with
    | some x => some (k, x)
    | none => breachFrom M (k + 1) ll
theorem breach_step {M : Nat → Int → Bool} {d : List (List Int)} {i : Nat} {l : List Int} (h : d[i]? = some l) : breachFrom M i (d.drop i) = match l.find? (fun x => !M i x) with
    | some x => some (i, x)
    | none => breachFrom M (i + 1) (d.drop (i + 1)) := by
  rw [getElem_drop_cons h, breachFrom]
theorem breach_end {M : Nat → Int → Bool} {d : List (List Int)} {i : Nat} (h : d.length ≤ i) : breachFrom M i (d.drop i) = none := by
  rw [List.drop_of_length_le h, breachFrom]
def breachOf (d : List (List Int)) (a b c : Int) : Option (Nat × Int) := breachFrom (fun k x => mayB (d.take k) a b c x) 0 d
def brI (o : Option (Nat × Int)) : Int := match o with | some p => p.1 | none => 0
def brX (o : Option (Nat × Int)) : Int := match o with | some p => p.2 | none => 0

-- loop.example/g01020/spec.duMay
set_option maxHeartbeats 1000000 in
theorem duMay_con (d : List (List Int)) (a b c x : Int) (hd : d.length ≤ 1048576) (hds : ∀ l ∈ d, l.length ≤ 1048576) (hn1 : 1 ≤ a) (hn9 : a ≤ 9) (hc : 0 ≤ c ∧ c ≤ 5) (hro : ∀ l ∈ d, ∀ y ∈ l, 0 ≤ y ∧ y < a) (hx : 0 ≤ x ∧ x < a) : Con Try.prog 128 [.sl (d.map fun l => V.sl (l.map (V.int .i64))), .agg [.int .i64 a, .int .i64 b, .int .i64 c], .int .i64 x] [] (.bool (mayB d a b c x)) [] := by
  have hlen := shiftsOf_len d a
  obtain ⟨z, hz⟩ : ∃ z, (shiftsOf d a)[x.toNat]? = some z := ⟨(shiftsOf d a)[x.toNat]'(by omega), List.getElem?_eq_getElem (by omega)⟩
  have hzd : (shiftsOf d a).getD x.toNat 0 = z := by rw [List.getD_eq_getElem?_getD, hz]; rfl
  have hk0 : (if (d.length : Int) - c > 0 then (d.length : Int) - c else 0) = ((d.length - c.toNat : Nat) : Int) := by split <;> omega
  refine v_con [.tmp 6] [] Try.func128 rfl rfl rfl (by simp [Try.ntmps128]) ?_
  intro Q0 n0 r0
  simp only [Try.ntmps128, envFrom, Nat.reduceAdd]
  refine v_seq ?_; intro Q1 n1 e1 r1
  refine v_region ?_; intro K2 k2
  -- 4 := box 39 t1
  refine v_op ?_; intro K k
  simp only [zE, zS, zO, zN, aStepM, optable, set_some, Nat.reduceEqDiff, reduceIte, Nat.reduceLT, implies_true, forall_const, reduceCtorEq, V.ofValue, V.ofScalar, V.un, V.gd, aExec, aop, Nat.reduceAdd, V.isVal, V.cells, kindOf, kindAll, V.noSl, V.noRef, List.all_cons, List.all_nil, List.length_map, gt_iff_lt, Nat.reduceLeDiff, Nat.reduceMul, Try.underlying3, Ty.c3, Ty.a3, Try.underlying39, Ty.c39, Ty.a39, getD_map hz, hlen]
  repeat (refine And.intro (by first | omega | (intros; omega) | (intros; simp_all; done) | (intros; simp_all; omega)) ?_)
  refine k _ ?_; clear k K
  -- 6 := assign c<false>
  refine v_op ?_; intro K k
  simp only [zE, zS, aStepM, optable, set_some, Nat.reduceEqDiff, reduceIte, Nat.reduceLT, implies_true, forall_const, reduceCtorEq, V.ofValue, V.ofScalar, V.un, V.gd, aExec, aop, Nat.reduceAdd, getD_map hz, hlen]
  repeat (refine And.intro (by first | omega | (intros; omega) | (intros; simp_all; done) | (intros; simp_all; omega)) ?_)
  refine k _ ?_; clear k K
  refine k2 _ ?_
  refine n1 _ _ (weak_keep [0, 2, 4] _) ?_
  simp only [keep_mk, keepE_nil, keepE_cons, look_cons, look_nil, Nat.reduceEqDiff, reduceIte]
  refine v_seq ?_; intro Q3 n3 e3 r3
  refine v_seq ?_; intro Q4 n4 e4 r4
  refine v_region ?_; intro K5 k5
  -- 8 := move t0
  refine v_op ?_; intro K k
  simp only [zE, aStepM, optable, set_some, Nat.reduceEqDiff, reduceIte, Nat.reduceLT, implies_true, forall_const, reduceCtorEq, V.ofValue, V.ofScalar, V.un, V.gd, aExec, aop, getD_map hz, hlen]
  repeat (refine And.intro (by first | omega | (intros; omega) | (intros; simp_all; done) | (intros; simp_all; omega)) ?_)
  refine k _ ?_; clear k K
  -- 9 := call b Go.Builtin.len t8 | 32
  refine v_op ?_; intro K k
  simp only [zE, zL, zN, aStepM, optable, set_some, Nat.reduceEqDiff, reduceIte, Nat.reduceLT, implies_true, forall_const, reduceCtorEq, V.ofValue, V.ofScalar, V.un, V.gd, aExec, aop, List.length_map, aLen, lenOK, row_mk, Blk.row, List.size_toArray, List.getD_eq_getElem?_getD, Array.getD_eq_getD_getElem?, Option.getD_some, Nat.reduceAdd, Nat.reduceLeDiff, Nat.reduceMul, Try.underlying3, Ty.c3, Ty.a3, Ty.b3, Ty.s3, Try.underlying32, Ty.c32, Ty.a32, Ty.b32, Ty.s32, Try.underlying47, Ty.c47, Ty.a47, Ty.b47, Ty.s47, getD_map hz, hlen]
  repeat (refine And.intro (by first | omega | (intros; omega) | (intros; simp_all; done) | (intros; simp_all; omega)) ?_)
  refine k _ ?_; clear k K
  -- 10 := fieldAddr 39 t4 2
  refine v_op ?_; intro K k
  simp only [zE, zL, zN, aStepM, optable, set_some, Nat.reduceEqDiff, reduceIte, Nat.reduceLT, implies_true, forall_const, reduceCtorEq, V.ofValue, V.ofScalar, V.un, V.gd, aExec, aop, aFieldAddr, Nat.reduceAdd, Nat.reduceLeDiff, Nat.reduceMul, Try.underlying3, Ty.c3, Ty.a3, Try.underlying39, Ty.c39, Ty.a39, getD_map hz, hlen]
  repeat (refine And.intro (by first | omega | (intros; omega) | (intros; simp_all; done) | (intros; simp_all; omega)) ?_)
  refine k _ ?_; clear k K
  -- 11 := load 3 t10
  refine v_op ?_; intro K k
  simp only [zE, zL, zO, zN, aStepM, optable, set_some, Nat.reduceEqDiff, reduceIte, Nat.reduceLT, implies_true, forall_const, reduceCtorEq, V.ofValue, V.ofScalar, V.un, V.gd, aExec, aop, aLoad, row_mk, Blk.row, PartOK, Go.Vm.part, V.cells, V.noSl, V.noRef, Nat.reduceAdd, Nat.reduceLeDiff, Nat.reduceMul, Try.underlying3, Ty.c3, Ty.a3, getD_map hz, hlen]
  repeat (refine And.intro (by first | omega | (intros; omega) | (intros; simp_all; done) | (intros; simp_all; omega)) ?_)
  refine k _ ?_; clear k K
  -- 12 := binOp Go.BinOp.sub 3 t9 t11 3
  refine v_op ?_; intro K k
  simp only [zE, aStepM, optable, set_some, Nat.reduceEqDiff, reduceIte, Nat.reduceLT, implies_true, forall_const, reduceCtorEq, V.ofValue, V.ofScalar, V.un, V.gd, aExec, aop, aBin, Try.underlying3, getD_map hz, hlen]
  try simp (disch := omega) only [wrap64]
  repeat (refine And.intro (by first | omega | (intros; omega) | (intros; simp_all; done) | (intros; simp_all; omega)) ?_)
  refine k _ ?_; clear k K
  -- 13 := call v f141 c<0:i64> t12 | 3 3
  refine v_op ?_; intro K k
  simp only [zE, zM, aStepM, optable, set_some, Nat.reduceEqDiff, reduceIte, Nat.reduceLT, implies_true, forall_const, reduceCtorEq, V.ofValue, V.ofScalar, V.un, V.gd, aExec, lentIds, lendOf, Try.underlying3, Ty.c3, Ty.a3, Ty.b3, Ty.s3]
  repeat (refine And.intro (by first | rfl | (intros; simp_all; done)) ?_)
  refine aCall_new (l1Most_con 0 ((d.length : Int) - c)) (by first | rfl | simp only [toArgs, toArg, toCell, toCells, idx, row_mk, List.getElem?_cons_zero, List.getElem?_cons_succ, Option.bind_some, Option.map_some, Blk.row, fillK_mix, cond_true]) (by first | exact .inl ⟨rfl, by simp [Blk.kindIs, fillK_fd]⟩ | exact .inr (by simp [V.cold])) ?_
  refine k _ ?_; clear k K
  simp only [zY, zW, set_some, Nat.reduceEqDiff, reduceIte, V.ren, V.renL, rho, Nat.reduceAdd]
  -- 7 := assign t13
  refine v_op ?_; intro K k
  simp only [zE, zS, aStepM, optable, set_some, Nat.reduceEqDiff, reduceIte, Nat.reduceLT, implies_true, forall_const, reduceCtorEq, V.ofValue, V.ofScalar, V.un, V.gd, aExec, aop, Nat.reduceAdd, getD_map hz, hlen]
  repeat (refine And.intro (by first | omega | (intros; omega) | (intros; simp_all; done) | (intros; simp_all; omega)) ?_)
  refine k _ ?_; clear k K
  refine k5 _ ?_
  refine n4 _ _ (weak_keep [0, 2, 4, 7] _) ?_
  simp only [keep_mk, keepE_nil, keepE_cons, look_cons, look_nil, Nat.reduceEqDiff, reduceIte]
  refine v_block ?_; intro Q6 n6 x6 e6 r6
  refine v_loop (fun i => ⟨[(0, .sl (d.map fun l => V.sl (l.map (V.int .i64)))), (2, .int .i64 x), (4, .ptr 0 0 0), (7, .int .i64 (Nat.cast i))], [.box (.agg [.int .i64 a, .int .i64 b, .int .i64 c]) .flat], false, 36, 0⟩) (fun i => i ≤ d.length ∧ (d.drop i).any (fun l => decide (x ∈ l)) = (d.drop (d.length - c.toNat)).any (fun l => decide (x ∈ l))) (fun i => d.length - i) (d.length - c.toNat) ?_ ?_ ?_
  · refine weak_both [0, 2, 4, 7] [0] (by decide) (by simp) ?_ ?_ ?_
    · simp [keep_mk, keepE_nil, keepE_cons, look_cons, V.only, V.onlyL, idx]
    · simp [Blk.kindIs, fillK_mix]
    simp only [keep_mk, keepE_nil, keepE_cons, look_cons, look_nil, Nat.reduceEqDiff, reduceIte, St.comp, List.map_cons, List.map_nil, V.ren, V.renL, idx, List.getD_cons_zero, List.getD_cons_succ, Nat.reduceBEq, cond_true, cond_false, Option.map_some, Option.getD_some, Nat.reduceAdd, Nat.beq_eq_true_eq]
    rw [hk0]; rfl
  · exact ⟨Nat.sub_le _ _, rfl⟩
  · rintro i hok7 Q7 n7 e7 r7
    obtain ⟨hi1, hR⟩ := hok7
    refine v_seq ?_; intro Q8 n8 e8 r8
    refine v_seq ?_; intro Q9 n9 e9 r9
    refine v_region ?_; intro K10 k10
    -- 14 := move t7
    refine v_op ?_; intro K k
    simp only [zE, aStepM, optable, set_some, Nat.reduceEqDiff, reduceIte, Nat.reduceLT, implies_true, forall_const, reduceCtorEq, V.ofValue, V.ofScalar, V.un, V.gd, aExec, aop, getD_map hz, hlen]
    repeat (refine And.intro (by first | omega | (intros; omega) | (intros; simp_all; done) | (intros; simp_all; omega)) ?_)
    refine k _ ?_; clear k K
    -- 15 := move t0
    refine v_op ?_; intro K k
    simp only [zE, aStepM, optable, set_some, Nat.reduceEqDiff, reduceIte, Nat.reduceLT, implies_true, forall_const, reduceCtorEq, V.ofValue, V.ofScalar, V.un, V.gd, aExec, aop, getD_map hz, hlen]
    repeat (refine And.intro (by first | omega | (intros; omega) | (intros; simp_all; done) | (intros; simp_all; omega)) ?_)
    refine k _ ?_; clear k K
    -- 16 := call b Go.Builtin.len t15 | 32
    refine v_op ?_; intro K k
    simp only [zE, zL, zN, aStepM, optable, set_some, Nat.reduceEqDiff, reduceIte, Nat.reduceLT, implies_true, forall_const, reduceCtorEq, V.ofValue, V.ofScalar, V.un, V.gd, aExec, aop, List.length_map, aLen, lenOK, row_mk, Blk.row, List.size_toArray, List.getD_eq_getElem?_getD, Array.getD_eq_getD_getElem?, Option.getD_some, Nat.reduceAdd, Nat.reduceLeDiff, Nat.reduceMul, Try.underlying3, Ty.c3, Ty.a3, Ty.b3, Ty.s3, Try.underlying32, Ty.c32, Ty.a32, Ty.b32, Ty.s32, Try.underlying47, Ty.c47, Ty.a47, Ty.b47, Ty.s47, getD_map hz, hlen]
    repeat (refine And.intro (by first | omega | (intros; omega) | (intros; simp_all; done) | (intros; simp_all; omega)) ?_)
    refine k _ ?_; clear k K
    -- 17 := binOp Go.BinOp.lss 3 t14 t16 3
    refine v_op ?_; intro K k
    simp only [zE, aStepM, optable, set_some, Nat.reduceEqDiff, reduceIte, Nat.reduceLT, implies_true, forall_const, reduceCtorEq, V.ofValue, V.ofScalar, V.un, V.gd, aExec, aop, aBin, Try.underlying3, getD_map hz, hlen]
    repeat (refine And.intro (by first | omega | (intros; omega) | (intros; simp_all; done) | (intros; simp_all; omega)) ?_)
    refine k _ ?_; clear k K
    refine k10 _ ?_
    refine n9 _ _ (weak_keep [0, 2, 4, 7, 17] _) ?_
    simp only [keep_mk, keepE_nil, keepE_cons, look_cons, look_nil, Nat.reduceEqDiff, reduceIte]
    refine v_cond _ rfl ?_ ?_  -- COND 0
    · intro hc0
      simp only [zC, reduceCtorEq] at hc0
      have hlt : i < d.length := by omega
      obtain ⟨l, hl⟩ : ∃ l, d[i]? = some l := ⟨d[i], List.getElem?_eq_getElem hlt⟩
      have hlx : l.length ≤ 1048576 := hds l (List.mem_of_getElem? hl)
      have hst := any_drop (f := (fun l => decide (x ∈ l))) hl
      refine v_skip ?_
      refine n8 _ _ (weak_keep [0, 2, 4, 7] _) ?_
      simp only [keep_mk, keepE_nil, keepE_cons, look_cons, look_nil, Nat.reduceEqDiff, reduceIte]
      refine v_seq ?_; intro Q12 n12 e12 r12
      refine v_block ?_; intro Q13 n13 x13 e13 r13
      refine v_seq ?_; intro Q14 n14 e14 r14
      refine v_region ?_; intro K15 k15
      -- 20 := move t0
      refine v_op ?_; intro K k
      simp only [zE, aStepM, optable, set_some, Nat.reduceEqDiff, reduceIte, Nat.reduceLT, implies_true, forall_const, reduceCtorEq, V.ofValue, V.ofScalar, V.un, V.gd, aExec, aop, getD_map hz, hlen, getD_map hl]
      repeat (refine And.intro (by first | omega | (intros; omega) | (intros; simp_all; done) | (intros; simp_all; omega)) ?_)
      refine k _ ?_; clear k K
      -- 21 := move t7
      refine v_op ?_; intro K k
      simp only [zE, aStepM, optable, set_some, Nat.reduceEqDiff, reduceIte, Nat.reduceLT, implies_true, forall_const, reduceCtorEq, V.ofValue, V.ofScalar, V.un, V.gd, aExec, aop, getD_map hz, hlen, getD_map hl]
      repeat (refine And.intro (by first | omega | (intros; omega) | (intros; simp_all; done) | (intros; simp_all; omega)) ?_)
      refine k _ ?_; clear k K
      -- 22 := indexAddr 32 t20 t21
      refine v_op ?_; intro K k
      simp only [zE, zL, zN, aStepM, optable, set_some, Nat.reduceEqDiff, reduceIte, Nat.reduceLT, implies_true, forall_const, reduceCtorEq, V.ofValue, V.ofScalar, V.un, V.gd, aExec, aop, aIndexAddr, row_mk, Blk.row, Go.Vm.V.cells, List.forall_mem_map, List.length_map, Int.toNat_natCast, Int.reduceToNat, TypeDesc.slice.injEq, Nat.reduceAdd, Nat.reduceLeDiff, Nat.reduceMul, Try.underlying32, Ty.c32, Ty.a32, Try.underlying47, Ty.c47, Ty.a47, getD_map hz, hlen, getD_map hl]
      repeat (refine And.intro (by first | omega | (intros; omega) | (intros; simp_all; done) | (intros; simp_all; omega)) ?_)
      refine k _ ?_; clear k K
      -- 23 := load 47 t22
      refine v_op ?_; intro K k
      simp only [zE, zL, zO, zN, aStepM, optable, set_some, Nat.reduceEqDiff, reduceIte, Nat.reduceLT, implies_true, forall_const, reduceCtorEq, V.ofValue, V.ofScalar, V.un, V.gd, aExec, aop, aLoad, row_mk, Blk.row, PartOK, Go.Vm.part, V.cells, V.noSl, V.noRef, Nat.reduceAdd, Nat.reduceLeDiff, Nat.reduceMul, Try.underlying3, Ty.c3, Ty.a3, Try.underlying47, Ty.c47, Ty.a47, getD_map hz, hlen, getD_map hl]
      repeat (refine And.intro (by first | omega | (intros; omega) | (intros; simp_all; done) | (intros; simp_all; omega)) ?_)
      refine k _ ?_; clear k K
      -- 24 := move t2
      refine v_op ?_; intro K k
      simp only [zE, aStepM, optable, set_some, Nat.reduceEqDiff, reduceIte, Nat.reduceLT, implies_true, forall_const, reduceCtorEq, V.ofValue, V.ofScalar, V.un, V.gd, aExec, aop, getD_map hz, hlen, getD_map hl]
      repeat (refine And.intro (by first | omega | (intros; omega) | (intros; simp_all; done) | (intros; simp_all; omega)) ?_)
      refine k _ ?_; clear k K
      -- 25 := call v f155 t23 t24 | 47 3
      refine v_op ?_; intro K k
      simp only [zE, zM, aStepM, optable, set_some, Nat.reduceEqDiff, reduceIte, Nat.reduceLT, implies_true, forall_const, reduceCtorEq, V.ofValue, V.ofScalar, V.un, V.gd, aExec, lentIds, lendOf, Try.underlying3, Ty.c3, Ty.a3, Ty.b3, Ty.s3, Try.underlying4, Ty.c4, Ty.a4, Ty.b4, Ty.s4, Try.underlying47, Ty.c47, Ty.a47, Ty.b47, Ty.s47]
      repeat (refine And.intro (by first | rfl | (intros; simp_all; done)) ?_)
      refine aCall_new (l1Has_con l x hlx) (by first | rfl | simp only [toArgs, toArg, toCell, toCells, idx, row_mk, List.getElem?_cons_zero, List.getElem?_cons_succ, Option.bind_some, Option.map_some, Blk.row, fillK_mix, cond_true]) (by first | exact .inl ⟨rfl, by simp [Blk.kindIs, fillK_fd]⟩ | exact .inr (by simp [V.cold])) ?_
      refine k _ ?_; clear k K
      simp only [zY, zW, set_some, Nat.reduceEqDiff, reduceIte, V.ren, V.renL, rho, Nat.reduceAdd]
      refine k15 _ ?_
      refine n14 _ _ (weak_keep [0, 2, 4, 7, 25] _) ?_
      simp only [keep_mk, keepE_nil, keepE_cons, look_cons, look_nil, Nat.reduceEqDiff, reduceIte]
      refine v_cond _ rfl ?_ ?_  -- COND 1
      · intro hc1
        simp only [zC, reduceCtorEq] at hc1
        refine v_seq ?_; intro Q17 n17 e17 r17
        refine v_region ?_; intro K18 k18
        -- 6 := assign c<false>
        refine v_op ?_; intro K k
        simp only [zE, zS, aStepM, optable, set_some, Nat.reduceEqDiff, reduceIte, Nat.reduceLT, implies_true, forall_const, reduceCtorEq, V.ofValue, V.ofScalar, V.un, V.gd, aExec, aop, Nat.reduceAdd, getD_map hz, hlen, getD_map hl]
        repeat (refine And.intro (by first | omega | (intros; omega) | (intros; simp_all; done) | (intros; simp_all; omega)) ?_)
        refine k _ ?_; clear k K
        refine k18 _ ?_
        refine n17 _ _ (weak_keep [6] _) ?_
        simp only [keep_mk, keepE_nil, keepE_cons, look_cons, look_nil, Nat.reduceEqDiff, reduceIte]
        refine v_ret ?_
        refine r13 _ ?_
        refine r12 _ ?_
        refine r7 _ ?_
        refine r6 _ ?_
        refine r3 _ ?_
        refine r0 _ ?_
        simp only [resK, pickRV, get_mk, look_cons, look_nil, Nat.reduceEqDiff, reduceIte, List.map_cons, List.map_nil]
        exact ret_pure rfl (by rw [mayB, ← hR, hst]; simp [hc1]) (.inl rfl)
      · intro hc1
        simp only [zC, reduceCtorEq] at hc1
        refine v_skip ?_
        refine n13 _ ?_
        refine n12 _ _ (weak_keep [0, 2, 4, 7] _) ?_
        simp only [keep_mk, keepE_nil, keepE_cons, look_cons, look_nil, Nat.reduceEqDiff, reduceIte]
        refine v_region ?_; intro K19 k19
        -- 18 := move t7
        refine v_op ?_; intro K k
        simp only [zE, aStepM, optable, set_some, Nat.reduceEqDiff, reduceIte, Nat.reduceLT, implies_true, forall_const, reduceCtorEq, V.ofValue, V.ofScalar, V.un, V.gd, aExec, aop, getD_map hz, hlen, getD_map hl]
        repeat (refine And.intro (by first | omega | (intros; omega) | (intros; simp_all; done) | (intros; simp_all; omega)) ?_)
        refine k _ ?_; clear k K
        -- 19 := binOp Go.BinOp.add 3 t18 c<1:i64> 3
        refine v_op ?_; intro K k
        simp only [zE, aStepM, optable, set_some, Nat.reduceEqDiff, reduceIte, Nat.reduceLT, implies_true, forall_const, reduceCtorEq, V.ofValue, V.ofScalar, V.un, V.gd, aExec, aop, aBin, Try.underlying3, getD_map hz, hlen, getD_map hl]
        try simp (disch := omega) only [wrap64]
        repeat (refine And.intro (by first | omega | (intros; omega) | (intros; simp_all; done) | (intros; simp_all; omega)) ?_)
        refine k _ ?_; clear k K
        -- 7 := assign t19
        refine v_op ?_; intro K k
        simp only [zE, zS, aStepM, optable, set_some, Nat.reduceEqDiff, reduceIte, Nat.reduceLT, implies_true, forall_const, reduceCtorEq, V.ofValue, V.ofScalar, V.un, V.gd, aExec, aop, Nat.reduceAdd, getD_map hz, hlen, getD_map hl]
        repeat (refine And.intro (by first | omega | (intros; omega) | (intros; simp_all; done) | (intros; simp_all; omega)) ?_)
        refine k _ ?_; clear k K
        refine k19 _ ?_
        refine n7 _ (i + 1) ?_ ?_ ?_
        · refine weak_both [0, 2, 4, 7] [0] (by decide) (by simp) ?_ ?_ ?_
          · simp [keep_mk, keepE_nil, keepE_cons, look_cons, V.only, V.onlyL, idx]
          · simp [Blk.kindIs, fillK_mix]
          simp only [keep_mk, keepE_nil, keepE_cons, look_cons, look_nil, Nat.reduceEqDiff, reduceIte, St.comp, List.map_cons, List.map_nil, V.ren, V.renL, idx, List.getD_cons_zero, List.getD_cons_succ, Nat.reduceBEq, cond_true, cond_false, Option.map_some, Option.getD_some, Nat.reduceAdd, Nat.beq_eq_true_eq]
          rfl
        · exact ⟨by omega, by rw [← hR, hst]; simp [hc1]⟩
        · show _ < _; omega
    · intro hc0
      simp only [zC, reduceCtorEq] at hc0
      refine v_exit ?_
      refine e8 _ _ ?_
      refine e7 _ _ ?_
      refine x6 _ ?_
      refine n3 _ _ (weak_keep [0, 2, 4] _) ?_
      simp only [keep_mk, keepE_nil, keepE_cons, look_cons, look_nil, Nat.reduceEqDiff, reduceIte]
      refine v_seq ?_; intro Q20 n20 e20 r20
      refine v_draw (by kernel_rfl) ?_; intro K21 q21 k21
      show aAny _ _ _ _ 11 (Array.replicate 11 false) _
      -- 26 := move t0
      refine aAny_take q21 true 0 26 rfl rfl (by kernel_rfl) (by kernel_rfl) ?_
      apply Exists.intro; apply And.intro
      · intro t hn gx ho K' k'
        have g0 := gx 0 (by decide)
        simp only [get_mk, look_cons, look_nil, set_some, Nat.reduceEqDiff, reduceIte] at g0
        refine .inl ?_
        have hdl : 26 < t.n := by rw [hn]; show 26 < 36; decide
        clear hn
        simp only [zE, hdl, aStepM, optable, Nat.reduceEqDiff, reduceIte, implies_true, forall_const, reduceCtorEq, V.ofValue, V.ofScalar, V.un, V.gd, aExec, aop, g0, getD_map hz, hlen]
        repeat (refine And.intro (by first | omega | (intros; omega) | (intros; simp_all; done) | (intros; simp_all; omega)) ?_)
        exact k'
      simp only [set_some]
      -- 27 := fieldAddr 39 t4 0
      refine aAny_take q21 true 1 27 rfl rfl (by kernel_rfl) (by kernel_rfl) ?_
      apply Exists.intro; apply And.intro
      · intro t hn gx ho K' k'
        have g4 := gx 4 (by decide)
        simp only [get_mk, look_cons, look_nil, set_some, Nat.reduceEqDiff, reduceIte] at g4
        refine .inl ?_
        have hdl : 27 < t.n := by rw [hn]; show 27 < 36; decide
        clear hn
        simp only [zE, zL, zN, hdl, aStepM, optable, Nat.reduceEqDiff, reduceIte, implies_true, forall_const, reduceCtorEq, V.ofValue, V.ofScalar, V.un, V.gd, aExec, aop, g4, aFieldAddr, Nat.reduceAdd, Nat.reduceLeDiff, Nat.reduceLT, Nat.reduceMul, Try.underlying3, Ty.c3, Ty.a3, Try.underlying39, Ty.c39, Ty.a39, getD_map hz, hlen]
        repeat (refine And.intro (by first | omega | (intros; omega) | (intros; simp_all; done) | (intros; simp_all; omega)) ?_)
        exact k'
      simp only [set_some]
      -- 28 := load 3 t27
      refine aAny_take q21 true 2 28 rfl rfl (by kernel_rfl) (by kernel_rfl) ?_
      apply Exists.intro; apply And.intro
      · intro t hn gx ho K' k'
        have g27 := gx 27 (by decide)
        simp only [get_mk, look_cons, look_nil, set_some, Nat.reduceEqDiff, reduceIte] at g27
        refine .inl ?_
        first | have row0 := grow_row (i := 0) (ho rfl) rfl | have row0 : t.n + 0 = t.n := rfl
        first | have row1 := grow_row (i := 1) (ho rfl) rfl | have row1 : t.n + 0 = t.n := rfl
        first | have row2 := grow_row (i := 2) (ho rfl) rfl | have row2 : t.n + 0 = t.n := rfl
        have hdl : 28 < t.n := by rw [hn]; show 28 < 36; decide
        clear hn
        simp only [zE, zL, zO, zN, hdl, aStepM, optable, Nat.reduceEqDiff, reduceIte, implies_true, forall_const, reduceCtorEq, V.ofValue, V.ofScalar, V.un, V.gd, aExec, aop, g27, row0, row1, row2, aLoad, row_mk, Blk.row, PartOK, Go.Vm.part, V.cells, V.noSl, V.noRef, Nat.reduceAdd, Nat.reduceLeDiff, Nat.reduceLT, Nat.reduceMul, Try.underlying3, Ty.c3, Ty.a3, getD_map hz, hlen]
        repeat (refine And.intro (by first | omega | (intros; omega) | (intros; simp_all; done) | (intros; simp_all; omega)) ?_)
        exact k'
      simp only [set_some]
      -- 30 := move t2
      refine aAny_take q21 true 4 30 rfl rfl (by kernel_rfl) (by kernel_rfl) ?_
      apply Exists.intro; apply And.intro
      · intro t hn gx ho K' k'
        have g2 := gx 2 (by decide)
        simp only [get_mk, look_cons, look_nil, set_some, Nat.reduceEqDiff, reduceIte] at g2
        refine .inl ?_
        have hdl : 30 < t.n := by rw [hn]; show 30 < 36; decide
        clear hn
        simp only [zE, hdl, aStepM, optable, Nat.reduceEqDiff, reduceIte, implies_true, forall_const, reduceCtorEq, V.ofValue, V.ofScalar, V.un, V.gd, aExec, aop, g2, getD_map hz, hlen]
        repeat (refine And.intro (by first | omega | (intros; omega) | (intros; simp_all; done) | (intros; simp_all; omega)) ?_)
        exact k'
      simp only [set_some]
      -- 33 := fieldAddr 39 t4 1
      refine aAny_take q21 true 7 33 rfl rfl (by kernel_rfl) (by kernel_rfl) ?_
      apply Exists.intro; apply And.intro
      · intro t hn gx ho K' k'
        have g4 := gx 4 (by decide)
        simp only [get_mk, look_cons, look_nil, set_some, Nat.reduceEqDiff, reduceIte] at g4
        refine .inl ?_
        have hdl : 33 < t.n := by rw [hn]; show 33 < 36; decide
        clear hn
        simp only [zE, zL, zN, hdl, aStepM, optable, Nat.reduceEqDiff, reduceIte, implies_true, forall_const, reduceCtorEq, V.ofValue, V.ofScalar, V.un, V.gd, aExec, aop, g4, aFieldAddr, Nat.reduceAdd, Nat.reduceLeDiff, Nat.reduceLT, Nat.reduceMul, Try.underlying3, Ty.c3, Ty.a3, Try.underlying39, Ty.c39, Ty.a39, getD_map hz, hlen]
        repeat (refine And.intro (by first | omega | (intros; omega) | (intros; simp_all; done) | (intros; simp_all; omega)) ?_)
        exact k'
      simp only [set_some]
      -- 34 := load 3 t33
      refine aAny_take q21 true 8 34 rfl rfl (by kernel_rfl) (by kernel_rfl) ?_
      apply Exists.intro; apply And.intro
      · intro t hn gx ho K' k'
        have g33 := gx 33 (by decide)
        simp only [get_mk, look_cons, look_nil, set_some, Nat.reduceEqDiff, reduceIte] at g33
        refine .inl ?_
        first | have row0 := grow_row (i := 0) (ho rfl) rfl | have row0 : t.n + 0 = t.n := rfl
        first | have row1 := grow_row (i := 1) (ho rfl) rfl | have row1 : t.n + 0 = t.n := rfl
        first | have row2 := grow_row (i := 2) (ho rfl) rfl | have row2 : t.n + 0 = t.n := rfl
        have hdl : 34 < t.n := by rw [hn]; show 34 < 36; decide
        clear hn
        simp only [zE, zL, zO, zN, hdl, aStepM, optable, Nat.reduceEqDiff, reduceIte, implies_true, forall_const, reduceCtorEq, V.ofValue, V.ofScalar, V.un, V.gd, aExec, aop, g33, row0, row1, row2, aLoad, row_mk, Blk.row, PartOK, Go.Vm.part, V.cells, V.noSl, V.noRef, Nat.reduceAdd, Nat.reduceLeDiff, Nat.reduceLT, Nat.reduceMul, Try.underlying3, Ty.c3, Ty.a3, getD_map hz, hlen]
        repeat (refine And.intro (by first | omega | (intros; omega) | (intros; simp_all; done) | (intros; simp_all; omega)) ?_)
        exact k'
      simp only [set_some]
      -- 29 := call v f162 t26 t28 | 32 3
      refine aAny_only 3 rfl (by kernel_rfl) ?_; intro K k
      simp only [zE, zM, aStepM, optable, set_some, Nat.reduceEqDiff, reduceIte, Nat.reduceLT, implies_true, forall_const, reduceCtorEq, V.ofValue, V.ofScalar, V.un, V.gd, aExec, lentIds, lendOf, Try.underlying3, Ty.c3, Ty.a3, Ty.b3, Ty.s3, Try.underlying32, Ty.c32, Ty.a32, Ty.b32, Ty.s32, Try.underlying47, Ty.c47, Ty.a47, Ty.b47, Ty.s47]
      repeat (refine And.intro (by first | rfl | (intros; simp_all; done)) ?_)
      refine aCall_new (duShifts_con d a hd hds hn1 hn9 hro) (by first | rfl | simp only [toArgs, toArg, toCell, toCells, idx, row_mk, List.getElem?_cons_zero, List.getElem?_cons_succ, Option.bind_some, Option.map_some, Blk.row, fillK_mix, cond_true]) (by first | exact .inl ⟨rfl, by simp [Blk.kindIs, fillK_fd]⟩ | exact .inr (by simp [V.cold])) ?_
      refine k _ ?_; clear k K
      simp only [zY, zW, set_some, Nat.reduceEqDiff, reduceIte, V.ren, V.renL, rho, Nat.reduceAdd]
      -- 31 := indexAddr 47 t29 t30
      refine aAny_take q21 true 5 31 rfl rfl (by kernel_rfl) (by kernel_rfl) ?_
      apply Exists.intro; apply And.intro
      · intro t hn gx ho K' k'
        have g29 := gx 29 (by decide)
        have g30 := gx 30 (by decide)
        simp only [get_mk, look_cons, look_nil, set_some, Nat.reduceEqDiff, reduceIte] at g29 g30
        refine .inl ?_
        first | have row0 := grow_row (i := 0) (ho rfl) rfl | have row0 : t.n + 0 = t.n := rfl
        first | have row1 := grow_row (i := 1) (ho rfl) rfl | have row1 : t.n + 0 = t.n := rfl
        first | have row2 := grow_row (i := 2) (ho rfl) rfl | have row2 : t.n + 0 = t.n := rfl
        have hdl : 31 < t.n := by rw [hn]; show 31 < 36; decide
        clear hn
        simp only [zE, zL, zN, hdl, aStepM, optable, Nat.reduceEqDiff, reduceIte, implies_true, forall_const, reduceCtorEq, V.ofValue, V.ofScalar, V.un, V.gd, aExec, aop, g29, g30, row0, row1, row2, aIndexAddr, row_mk, Blk.row, Go.Vm.V.cells, List.forall_mem_map, List.length_map, Int.toNat_natCast, Int.reduceToNat, TypeDesc.slice.injEq, Nat.reduceAdd, Nat.reduceLeDiff, Nat.reduceLT, Nat.reduceMul, Try.underlying3, Ty.c3, Ty.a3, Try.underlying47, Ty.c47, Ty.a47, getD_map hz, hlen]
        repeat (refine And.intro (by first | omega | (intros; omega) | (intros; simp_all; done) | (intros; simp_all; omega)) ?_)
        exact k'
      simp only [set_some]
      -- 32 := load 3 t31
      refine aAny_take q21 true 6 32 rfl rfl (by kernel_rfl) (by kernel_rfl) ?_
      apply Exists.intro; apply And.intro
      · intro t hn gx ho K' k'
        have g31 := gx 31 (by decide)
        simp only [get_mk, look_cons, look_nil, set_some, Nat.reduceEqDiff, reduceIte] at g31
        refine .inl ?_
        first | have row0 := grow_row (i := 0) (ho rfl) rfl | have row0 : t.n + 0 = t.n := rfl
        first | have row1 := grow_row (i := 1) (ho rfl) rfl | have row1 : t.n + 0 = t.n := rfl
        first | have row2 := grow_row (i := 2) (ho rfl) rfl | have row2 : t.n + 0 = t.n := rfl
        have hdl : 32 < t.n := by rw [hn]; show 32 < 36; decide
        clear hn
        simp only [zE, zL, zO, zN, hdl, aStepM, optable, Nat.reduceEqDiff, reduceIte, implies_true, forall_const, reduceCtorEq, V.ofValue, V.ofScalar, V.un, V.gd, aExec, aop, g31, row0, row1, row2, aLoad, row_mk, Blk.row, PartOK, Go.Vm.part, V.cells, V.noSl, V.noRef, Nat.reduceAdd, Nat.reduceLeDiff, Nat.reduceLT, Nat.reduceMul, Try.underlying3, Ty.c3, Ty.a3, getD_map hz, hlen]
        repeat (refine And.intro (by first | omega | (intros; omega) | (intros; simp_all; done) | (intros; simp_all; omega)) ?_)
        exact k'
      simp only [set_some]
      -- 35 := binOp Go.BinOp.lss 3 t32 t34 3
      refine aAny_take q21 true 9 35 rfl rfl (by kernel_rfl) (by kernel_rfl) ?_
      apply Exists.intro; apply And.intro
      · intro t hn gx ho K' k'
        have g32 := gx 32 (by decide)
        have g34 := gx 34 (by decide)
        simp only [get_mk, look_cons, look_nil, set_some, Nat.reduceEqDiff, reduceIte] at g32 g34
        refine .inl ?_
        have hdl : 35 < t.n := by rw [hn]; show 35 < 36; decide
        clear hn
        simp only [zE, hdl, aStepM, optable, Nat.reduceEqDiff, reduceIte, implies_true, forall_const, reduceCtorEq, V.ofValue, V.ofScalar, V.un, V.gd, aExec, aop, g32, g34, aBin, Try.underlying3, getD_map hz, hlen]
        repeat (refine And.intro (by first | omega | (intros; omega) | (intros; simp_all; done) | (intros; simp_all; omega)) ?_)
        exact k'
      simp only [set_some]
      -- 6 := assign t35
      refine aAny_only 10 rfl (by kernel_rfl) ?_; intro K k
      simp only [zE, zS, aStepM, optable, set_some, Nat.reduceEqDiff, reduceIte, Nat.reduceLT, implies_true, forall_const, reduceCtorEq, V.ofValue, V.ofScalar, V.un, V.gd, aExec, aop, Nat.reduceAdd, getD_map hz, hlen]
      repeat (refine And.intro (by first | omega | (intros; omega) | (intros; simp_all; done) | (intros; simp_all; omega)) ?_)
      refine k _ ?_; clear k K
      refine aAny_done (by kernel_rfl) ?_
      refine k21 _ ?_
      refine n20 _ _ (weak_keep [6] _) ?_
      simp only [keep_mk, keepE_nil, keepE_cons, look_cons, look_nil, Nat.reduceEqDiff, reduceIte]
      refine v_ret ?_
      refine r0 _ ?_
      simp only [resK, pickRV, get_mk, look_cons, look_nil, Nat.reduceEqDiff, reduceIte, List.map_cons, List.map_nil]
      exact ret_pure rfl (by rw [mayB, ← hR, any_end (by omega), hzd]; simp) (.inl rfl)
-- loop.example/g01020/impl.mayWork
set_option maxHeartbeats 1000000 in
theorem mayWork_con (d : List (List Int)) (a b c x : Int) (hd : d.length ≤ 1048576) (hds : ∀ l ∈ d, l.length ≤ 1048576) (hn1 : 1 ≤ a) (hn9 : a ≤ 9) (hc : 0 ≤ c ∧ c ≤ 5) (hro : ∀ l ∈ d, ∀ y ∈ l, 0 ≤ y ∧ y < a) (hx : 0 ≤ x ∧ x < a) : Con Try.prog 129 [.sl (d.map fun l => V.sl (l.map (V.int .i64))), .agg [.int .i64 a, .int .i64 b, .int .i64 c], .int .i64 x] [] (.bool (mayB d a b c x)) [] := by
  have hlen := shiftsOf_len d a
  obtain ⟨z, hz⟩ : ∃ z, (shiftsOf d a)[x.toNat]? = some z := ⟨(shiftsOf d a)[x.toNat]'(by omega), List.getElem?_eq_getElem (by omega)⟩
  have hzd : (shiftsOf d a).getD x.toNat 0 = z := by rw [List.getD_eq_getElem?_getD, hz]; rfl
  have hk0 : (if (d.length : Int) - c > 0 then (d.length : Int) - c else 0) = ((d.length - c.toNat : Nat) : Int) := by split <;> omega
  have hdl : (d.drop (d.length - c.toNat)).length ≤ 1048576 := by rw [List.length_drop]; omega
  refine v_con [.tmp 6] [] Try.func129 rfl rfl rfl (by simp [Try.ntmps129]) ?_
  intro Q0 n0 r0
  simp only [Try.ntmps129, envFrom, Nat.reduceAdd]
  refine v_seq ?_; intro Q1 n1 e1 r1
  refine v_region ?_; intro K2 k2
  -- 4 := box 39 t1
  refine v_op ?_; intro K k
  simp only [zE, zS, zO, zN, aStepM, optable, set_some, Nat.reduceEqDiff, reduceIte, Nat.reduceLT, implies_true, forall_const, reduceCtorEq, V.ofValue, V.ofScalar, V.un, V.gd, aExec, aop, Nat.reduceAdd, V.isVal, V.cells, kindOf, kindAll, V.noSl, V.noRef, List.all_cons, List.all_nil, List.length_map, gt_iff_lt, Nat.reduceLeDiff, Nat.reduceMul, Try.underlying3, Ty.c3, Ty.a3, Try.underlying39, Ty.c39, Ty.a39, getD_map hz, hlen, hk0]
  repeat (refine And.intro (by first | omega | (intros; omega) | (intros; simp_all; done) | (intros; simp_all; omega)) ?_)
  refine k _ ?_; clear k K
  -- 6 := assign c<false>
  refine v_op ?_; intro K k
  simp only [zE, zS, aStepM, optable, set_some, Nat.reduceEqDiff, reduceIte, Nat.reduceLT, implies_true, forall_const, reduceCtorEq, V.ofValue, V.ofScalar, V.un, V.gd, aExec, aop, Nat.reduceAdd, getD_map hz, hlen, hk0]
  repeat (refine And.intro (by first | omega | (intros; omega) | (intros; simp_all; done) | (intros; simp_all; omega)) ?_)
  refine k _ ?_; clear k K
  refine k2 _ ?_
  refine n1 _ _ (weak_keep [0, 2, 4] _) ?_
  simp only [keep_mk, keepE_nil, keepE_cons, look_cons, look_nil, Nat.reduceEqDiff, reduceIte]
  refine v_seq ?_; intro Q3 n3 e3 r3
  refine v_seq ?_; intro Q4 n4 e4 r4
  refine v_region ?_; intro K5 k5
  -- 9 := move t0
  refine v_op ?_; intro K k
  simp only [zE, aStepM, optable, set_some, Nat.reduceEqDiff, reduceIte, Nat.reduceLT, implies_true, forall_const, reduceCtorEq, V.ofValue, V.ofScalar, V.un, V.gd, aExec, aop, getD_map hz, hlen, hk0]
  repeat (refine And.intro (by first | omega | (intros; omega) | (intros; simp_all; done) | (intros; simp_all; omega)) ?_)
  refine k _ ?_; clear k K
  -- 10 := move t0
  refine v_op ?_; intro K k
  simp only [zE, aStepM, optable, set_some, Nat.reduceEqDiff, reduceIte, Nat.reduceLT, implies_true, forall_const, reduceCtorEq, V.ofValue, V.ofScalar, V.un, V.gd, aExec, aop, getD_map hz, hlen, hk0]
  repeat (refine And.intro (by first | omega | (intros; omega) | (intros; simp_all; done) | (intros; simp_all; omega)) ?_)
  refine k _ ?_; clear k K
  -- 11 := call b Go.Builtin.len t10 | 32
  refine v_op ?_; intro K k
  simp only [zE, zL, zN, aStepM, optable, set_some, Nat.reduceEqDiff, reduceIte, Nat.reduceLT, implies_true, forall_const, reduceCtorEq, V.ofValue, V.ofScalar, V.un, V.gd, aExec, aop, List.length_map, aLen, lenOK, row_mk, Blk.row, List.size_toArray, List.getD_eq_getElem?_getD, Array.getD_eq_getD_getElem?, Option.getD_some, Nat.reduceAdd, Nat.reduceLeDiff, Nat.reduceMul, Try.underlying3, Ty.c3, Ty.a3, Ty.b3, Ty.s3, Try.underlying32, Ty.c32, Ty.a32, Ty.b32, Ty.s32, Try.underlying47, Ty.c47, Ty.a47, Ty.b47, Ty.s47, getD_map hz, hlen, hk0]
  repeat (refine And.intro (by first | omega | (intros; omega) | (intros; simp_all; done) | (intros; simp_all; omega)) ?_)
  refine k _ ?_; clear k K
  -- 12 := fieldAddr 39 t4 2
  refine v_op ?_; intro K k
  simp only [zE, zL, zN, aStepM, optable, set_some, Nat.reduceEqDiff, reduceIte, Nat.reduceLT, implies_true, forall_const, reduceCtorEq, V.ofValue, V.ofScalar, V.un, V.gd, aExec, aop, aFieldAddr, Nat.reduceAdd, Nat.reduceLeDiff, Nat.reduceMul, Try.underlying3, Ty.c3, Ty.a3, Try.underlying39, Ty.c39, Ty.a39, getD_map hz, hlen, hk0]
  repeat (refine And.intro (by first | omega | (intros; omega) | (intros; simp_all; done) | (intros; simp_all; omega)) ?_)
  refine k _ ?_; clear k K
  -- 13 := load 3 t12
  refine v_op ?_; intro K k
  simp only [zE, zL, zO, zN, aStepM, optable, set_some, Nat.reduceEqDiff, reduceIte, Nat.reduceLT, implies_true, forall_const, reduceCtorEq, V.ofValue, V.ofScalar, V.un, V.gd, aExec, aop, aLoad, row_mk, Blk.row, PartOK, Go.Vm.part, V.cells, V.noSl, V.noRef, Nat.reduceAdd, Nat.reduceLeDiff, Nat.reduceMul, Try.underlying3, Ty.c3, Ty.a3, getD_map hz, hlen, hk0]
  repeat (refine And.intro (by first | omega | (intros; omega) | (intros; simp_all; done) | (intros; simp_all; omega)) ?_)
  refine k _ ?_; clear k K
  -- 14 := binOp Go.BinOp.sub 3 t11 t13 3
  refine v_op ?_; intro K k
  simp only [zE, aStepM, optable, set_some, Nat.reduceEqDiff, reduceIte, Nat.reduceLT, implies_true, forall_const, reduceCtorEq, V.ofValue, V.ofScalar, V.un, V.gd, aExec, aop, aBin, Try.underlying3, getD_map hz, hlen, hk0]
  try simp (disch := omega) only [wrap64]
  repeat (refine And.intro (by first | omega | (intros; omega) | (intros; simp_all; done) | (intros; simp_all; omega)) ?_)
  refine k _ ?_; clear k K
  -- 15 := call b Go.Builtin.max c<0:i64> t14 | 3 3
  refine v_op ?_; intro K k
  simp only [zE, aStepM, optable, set_some, Nat.reduceEqDiff, reduceIte, Nat.reduceLT, implies_true, forall_const, reduceCtorEq, V.ofValue, V.ofScalar, V.un, V.gd, aExec, aop, aMinMax, List.mem_cons, List.not_mem_nil, or_false, forall_eq_or_imp, forall_eq, List.map_cons, List.map_nil, if_true, if_false, Try.underlying3, Ty.c3, Ty.a3, Ty.b3, Ty.s3, getD_map hz, hlen, hk0]
  repeat (refine And.intro (by first | omega | (intros; omega) | (intros; simp_all; done) | (intros; simp_all; omega)) ?_)
  refine k _ ?_; clear k K
  -- 16 := slice 32 t9 t15 _ _
  refine v_op ?_; intro K k
  simp only [zE, zL, zN, aStepM, optable, set_some, Nat.reduceEqDiff, reduceIte, Nat.reduceLT, implies_true, forall_const, reduceCtorEq, V.ofValue, V.ofScalar, V.un, V.gd, aExec, aop, aSlice, forall_eq', bound, ElemsOK, Option.map_none, Option.isNone_none, row_mk, Blk.row, TypeDesc.slice.injEq, List.forall_mem_map, List.length_map, Go.Vm.V.cells, Int.toNat_natCast, Int.reduceToNat, ← List.map_take, ← List.map_drop, List.take_length, Nat.reduceAdd, Nat.reduceLeDiff, Nat.reduceMul, Try.underlying32, Ty.c32, Ty.a32, Try.underlying47, Ty.c47, Ty.a47, getD_map hz, hlen, hk0]
  repeat (refine And.intro (by first | omega | (intros; omega) | (intros; simp_all; done) | (intros; simp_all; omega)) ?_)
  refine k _ ?_; clear k K
  -- 17 := call b Go.Builtin.len t16 | 32
  refine v_op ?_; intro K k
  simp only [zE, zL, zN, aStepM, optable, set_some, Nat.reduceEqDiff, reduceIte, Nat.reduceLT, implies_true, forall_const, reduceCtorEq, V.ofValue, V.ofScalar, V.un, V.gd, aExec, aop, List.length_map, aLen, lenOK, row_mk, Blk.row, List.size_toArray, List.getD_eq_getElem?_getD, Array.getD_eq_getD_getElem?, Option.getD_some, Nat.reduceAdd, Nat.reduceLeDiff, Nat.reduceMul, Try.underlying3, Ty.c3, Ty.a3, Ty.b3, Ty.s3, Try.underlying32, Ty.c32, Ty.a32, Ty.b32, Ty.s32, Try.underlying47, Ty.c47, Ty.a47, Ty.b47, Ty.s47, getD_map hz, hlen, hk0]
  repeat (refine And.intro (by first | omega | (intros; omega) | (intros; simp_all; done) | (intros; simp_all; omega)) ?_)
  refine k _ ?_; clear k K
  -- 18 := move c<0:i64>
  refine v_op ?_; intro K k
  simp only [zE, aStepM, optable, set_some, Nat.reduceEqDiff, reduceIte, Nat.reduceLT, implies_true, forall_const, reduceCtorEq, V.ofValue, V.ofScalar, V.un, V.gd, aExec, aop, getD_map hz, hlen, hk0]
  repeat (refine And.intro (by first | omega | (intros; omega) | (intros; simp_all; done) | (intros; simp_all; omega)) ?_)
  refine k _ ?_; clear k K
  refine k5 _ ?_
  refine n4 _ _ (weak_keep [0, 2, 4, 16, 17, 18] _) ?_
  simp only [keep_mk, keepE_nil, keepE_cons, look_cons, look_nil, Nat.reduceEqDiff, reduceIte]
  refine v_block ?_; intro Q6 n6 x6 e6 r6
  refine v_loop (fun i => ⟨[(0, .sl (d.map fun l => V.sl (l.map (V.int .i64)))), (2, .int .i64 x), (4, .ptr 0 0 0), (16, .sl ((d.drop (d.length - c.toNat)).map fun l => V.sl (l.map (V.int .i64)))), (17, .int .i64 (d.drop (d.length - c.toNat)).length), (18, .int .i64 (Nat.cast i))], [.box (.agg [.int .i64 a, .int .i64 b, .int .i64 c]) .flat], false, 36, 0⟩) (fun i => i ≤ (d.drop (d.length - c.toNat)).length ∧ ((d.drop (d.length - c.toNat)).drop i).any (fun l => decide (x ∈ l)) = ((d.drop (d.length - c.toNat)).drop 0).any (fun l => decide (x ∈ l))) (fun i => (d.drop (d.length - c.toNat)).length - i) 0 ?_ ?_ ?_
  · refine weak_both [0, 2, 4, 16, 17, 18] [0] (by decide) (by simp) ?_ ?_ ?_
    · simp [keep_mk, keepE_nil, keepE_cons, look_cons, V.only, V.onlyL, idx]
    · simp [Blk.kindIs, fillK_mix]
    simp only [keep_mk, keepE_nil, keepE_cons, look_cons, look_nil, Nat.reduceEqDiff, reduceIte, St.comp, List.map_cons, List.map_nil, V.ren, V.renL, idx, List.getD_cons_zero, List.getD_cons_succ, Nat.reduceBEq, cond_true, cond_false, Option.map_some, Option.getD_some, Nat.reduceAdd, Nat.beq_eq_true_eq]
    rfl
  · exact ⟨Nat.zero_le _, rfl⟩
  · rintro i hok7 Q7 n7 e7 r7
    obtain ⟨hi1, hR⟩ := hok7
    refine v_seq ?_; intro Q8 n8 e8 r8
    refine v_region ?_; intro K9 k9
    -- 19 := binOp Go.BinOp.lss 3 t18 t17 3
    refine v_op ?_; intro K k
    simp only [zE, aStepM, optable, set_some, Nat.reduceEqDiff, reduceIte, Nat.reduceLT, implies_true, forall_const, reduceCtorEq, V.ofValue, V.ofScalar, V.un, V.gd, aExec, aop, aBin, Try.underlying3, getD_map hz, hlen, hk0]
    repeat (refine And.intro (by first | omega | (intros; omega) | (intros; simp_all; done) | (intros; simp_all; omega)) ?_)
    refine k _ ?_; clear k K
    refine k9 _ ?_
    refine n8 _ _ (weak_keep [0, 2, 4, 16, 17, 18, 19] _) ?_
    simp only [keep_mk, keepE_nil, keepE_cons, look_cons, look_nil, Nat.reduceEqDiff, reduceIte]
    refine v_seq ?_; intro Q10 n10 e10 r10
    refine v_cond _ rfl ?_ ?_  -- COND 0
    · intro hc0
      simp only [zC, reduceCtorEq] at hc0
      have hlt : i < (d.drop (d.length - c.toNat)).length := by omega
      obtain ⟨l, hl⟩ : ∃ l, (d.drop (d.length - c.toNat))[i]? = some l := ⟨(d.drop (d.length - c.toNat))[i], List.getElem?_eq_getElem hlt⟩
      have hlx : l.length ≤ 1048576 := hds l (List.mem_of_mem_drop (List.mem_of_getElem? hl))
      have hst := any_drop (f := (fun l => decide (x ∈ l))) hl
      refine v_skip ?_
      refine n10 _ _ (weak_keep [0, 2, 4, 16, 17, 18] _) ?_
      simp only [keep_mk, keepE_nil, keepE_cons, look_cons, look_nil, Nat.reduceEqDiff, reduceIte]
      refine v_seq ?_; intro Q12 n12 e12 r12
      refine v_block ?_; intro Q13 n13 x13 e13 r13
      refine v_seq ?_; intro Q14 n14 e14 r14
      refine v_region ?_; intro K15 k15
      -- 20 := indexAddr 32 t16 t18
      refine v_op ?_; intro K k
      simp only [zE, zL, zN, aStepM, optable, set_some, Nat.reduceEqDiff, reduceIte, Nat.reduceLT, implies_true, forall_const, reduceCtorEq, V.ofValue, V.ofScalar, V.un, V.gd, aExec, aop, aIndexAddr, row_mk, Blk.row, Go.Vm.V.cells, List.forall_mem_map, List.length_map, Int.toNat_natCast, Int.reduceToNat, TypeDesc.slice.injEq, Nat.reduceAdd, Nat.reduceLeDiff, Nat.reduceMul, Try.underlying32, Ty.c32, Ty.a32, Try.underlying47, Ty.c47, Ty.a47, getD_map hz, hlen, hk0, getD_map hl]
      repeat (refine And.intro (by first | omega | (intros; omega) | (intros; simp_all; done) | (intros; simp_all; omega)) ?_)
      refine k _ ?_; clear k K
      -- 21 := load 47 t20
      refine v_op ?_; intro K k
      simp only [zE, zL, zO, zN, aStepM, optable, set_some, Nat.reduceEqDiff, reduceIte, Nat.reduceLT, implies_true, forall_const, reduceCtorEq, V.ofValue, V.ofScalar, V.un, V.gd, aExec, aop, aLoad, row_mk, Blk.row, PartOK, Go.Vm.part, V.cells, V.noSl, V.noRef, Nat.reduceAdd, Nat.reduceLeDiff, Nat.reduceMul, Try.underlying3, Ty.c3, Ty.a3, Try.underlying47, Ty.c47, Ty.a47, getD_map hz, hlen, hk0, getD_map hl]
      repeat (refine And.intro (by first | omega | (intros; omega) | (intros; simp_all; done) | (intros; simp_all; omega)) ?_)
      refine k _ ?_; clear k K
      -- 8 := assign t21
      refine v_op ?_; intro K k
      simp only [zE, zS, aStepM, optable, set_some, Nat.reduceEqDiff, reduceIte, Nat.reduceLT, implies_true, forall_const, reduceCtorEq, V.ofValue, V.ofScalar, V.un, V.gd, aExec, aop, Nat.reduceAdd, getD_map hz, hlen, hk0, getD_map hl]
      repeat (refine And.intro (by first | omega | (intros; omega) | (intros; simp_all; done) | (intros; simp_all; omega)) ?_)
      refine k _ ?_; clear k K
      refine k15 _ ?_
      refine n14 _ _ (weak_keep [0, 2, 4, 8, 16, 17, 18] _) ?_
      simp only [keep_mk, keepE_nil, keepE_cons, look_cons, look_nil, Nat.reduceEqDiff, reduceIte]
      refine v_seq ?_; intro Q16 n16 e16 r16
      refine v_region ?_; intro K17 k17
      -- 22 := move t8
      refine v_op ?_; intro K k
      simp only [zE, aStepM, optable, set_some, Nat.reduceEqDiff, reduceIte, Nat.reduceLT, implies_true, forall_const, reduceCtorEq, V.ofValue, V.ofScalar, V.un, V.gd, aExec, aop, getD_map hz, hlen, hk0, getD_map hl]
      repeat (refine And.intro (by first | omega | (intros; omega) | (intros; simp_all; done) | (intros; simp_all; omega)) ?_)
      refine k _ ?_; clear k K
      -- 23 := move t2
      refine v_op ?_; intro K k
      simp only [zE, aStepM, optable, set_some, Nat.reduceEqDiff, reduceIte, Nat.reduceLT, implies_true, forall_const, reduceCtorEq, V.ofValue, V.ofScalar, V.un, V.gd, aExec, aop, getD_map hz, hlen, hk0, getD_map hl]
      repeat (refine And.intro (by first | omega | (intros; omega) | (intros; simp_all; done) | (intros; simp_all; omega)) ?_)
      refine k _ ?_; clear k K
      -- 24 := call v f157 t22 t23 | 47 3
      refine v_op ?_; intro K k
      simp only [zE, zM, aStepM, optable, set_some, Nat.reduceEqDiff, reduceIte, Nat.reduceLT, implies_true, forall_const, reduceCtorEq, V.ofValue, V.ofScalar, V.un, V.gd, aExec, lentIds, lendOf, Try.underlying3, Ty.c3, Ty.a3, Ty.b3, Ty.s3, Try.underlying4, Ty.c4, Ty.a4, Ty.b4, Ty.s4, Try.underlying47, Ty.c47, Ty.a47, Ty.b47, Ty.s47]
      repeat (refine And.intro (by first | rfl | (intros; simp_all; done)) ?_)
      refine aCall_new (slContains_con l x hlx) (by first | rfl | simp only [toArgs, toArg, toCell, toCells, idx, row_mk, List.getElem?_cons_zero, List.getElem?_cons_succ, Option.bind_some, Option.map_some, Blk.row, fillK_mix, cond_true]) (by first | exact .inl ⟨rfl, by simp [Blk.kindIs, fillK_fd]⟩ | exact .inr (by simp [V.cold])) ?_
      refine k _ ?_; clear k K
      simp only [zY, zW, set_some, Nat.reduceEqDiff, reduceIte, V.ren, V.renL, rho, Nat.reduceAdd]
      refine k17 _ ?_
      refine n16 _ _ (weak_keep [0, 2, 4, 16, 17, 18, 24] _) ?_
      simp only [keep_mk, keepE_nil, keepE_cons, look_cons, look_nil, Nat.reduceEqDiff, reduceIte]
      refine v_cond _ rfl ?_ ?_  -- COND 1
      · intro hc1
        simp only [zC, reduceCtorEq] at hc1
        refine v_seq ?_; intro Q19 n19 e19 r19
        refine v_region ?_; intro K20 k20
        -- 6 := assign c<false>
        refine v_op ?_; intro K k
        simp only [zE, zS, aStepM, optable, set_some, Nat.reduceEqDiff, reduceIte, Nat.reduceLT, implies_true, forall_const, reduceCtorEq, V.ofValue, V.ofScalar, V.un, V.gd, aExec, aop, Nat.reduceAdd, getD_map hz, hlen, hk0, getD_map hl]
        repeat (refine And.intro (by first | omega | (intros; omega) | (intros; simp_all; done) | (intros; simp_all; omega)) ?_)
        refine k _ ?_; clear k K
        refine k20 _ ?_
        refine n19 _ _ (weak_keep [6] _) ?_
        simp only [keep_mk, keepE_nil, keepE_cons, look_cons, look_nil, Nat.reduceEqDiff, reduceIte]
        refine v_ret ?_
        refine r13 _ ?_
        refine r12 _ ?_
        refine r7 _ ?_
        refine r6 _ ?_
        refine r3 _ ?_
        refine r0 _ ?_
        simp only [resK, pickRV, get_mk, look_cons, look_nil, Nat.reduceEqDiff, reduceIte, List.map_cons, List.map_nil]
        exact ret_pure rfl (by rw [mayB, ← List.drop_zero (l := d.drop (d.length - c.toNat)), ← hR, hst]; simp [hc1]) (.inl rfl)
      · intro hc1
        simp only [zC, reduceCtorEq] at hc1
        refine v_skip ?_
        refine n13 _ ?_
        refine n12 _ _ (weak_keep [0, 2, 4, 16, 17, 18] _) ?_
        simp only [keep_mk, keepE_nil, keepE_cons, look_cons, look_nil, Nat.reduceEqDiff, reduceIte]
        refine v_region ?_; intro K21 k21
        -- 25 := binOp Go.BinOp.add 3 t18 c<1:i64> 3
        refine v_op ?_; intro K k
        simp only [zE, aStepM, optable, set_some, Nat.reduceEqDiff, reduceIte, Nat.reduceLT, implies_true, forall_const, reduceCtorEq, V.ofValue, V.ofScalar, V.un, V.gd, aExec, aop, aBin, Try.underlying3, getD_map hz, hlen, hk0, getD_map hl]
        try simp (disch := omega) only [wrap64]
        repeat (refine And.intro (by first | omega | (intros; omega) | (intros; simp_all; done) | (intros; simp_all; omega)) ?_)
        refine k _ ?_; clear k K
        -- 18 := move t25
        refine v_op ?_; intro K k
        simp only [zE, aStepM, optable, set_some, Nat.reduceEqDiff, reduceIte, Nat.reduceLT, implies_true, forall_const, reduceCtorEq, V.ofValue, V.ofScalar, V.un, V.gd, aExec, aop, getD_map hz, hlen, hk0, getD_map hl]
        repeat (refine And.intro (by first | omega | (intros; omega) | (intros; simp_all; done) | (intros; simp_all; omega)) ?_)
        refine k _ ?_; clear k K
        refine k21 _ ?_
        refine n7 _ (i + 1) ?_ ?_ ?_
        · refine weak_both [0, 2, 4, 16, 17, 18] [0] (by decide) (by simp) ?_ ?_ ?_
          · simp [keep_mk, keepE_nil, keepE_cons, look_cons, V.only, V.onlyL, idx]
          · simp [Blk.kindIs, fillK_mix]
          simp only [keep_mk, keepE_nil, keepE_cons, look_cons, look_nil, Nat.reduceEqDiff, reduceIte, St.comp, List.map_cons, List.map_nil, V.ren, V.renL, idx, List.getD_cons_zero, List.getD_cons_succ, Nat.reduceBEq, cond_true, cond_false, Option.map_some, Option.getD_some, Nat.reduceAdd, Nat.beq_eq_true_eq]
          rfl
        · exact ⟨by omega, by rw [← hR, hst]; simp [hc1]⟩
        · show _ < _; omega
    · intro hc0
      simp only [zC, reduceCtorEq] at hc0
      refine v_exit ?_
      refine e10 _ _ ?_
      refine e7 _ _ ?_
      refine x6 _ ?_
      refine n3 _ _ (weak_keep [0, 2, 4] _) ?_
      simp only [keep_mk, keepE_nil, keepE_cons, look_cons, look_nil, Nat.reduceEqDiff, reduceIte]
      refine v_seq ?_; intro Q22 n22 e22 r22
      refine v_draw (by kernel_rfl) ?_; intro K23 q23 k23
      show aAny _ _ _ _ 11 (Array.replicate 11 false) _
      -- 26 := move t0
      refine aAny_take q23 true 0 26 rfl rfl (by kernel_rfl) (by kernel_rfl) ?_
      apply Exists.intro; apply And.intro
      · intro t hn gx ho K' k'
        have g0 := gx 0 (by decide)
        simp only [get_mk, look_cons, look_nil, set_some, Nat.reduceEqDiff, reduceIte] at g0
        refine .inl ?_
        have hdl : 26 < t.n := by rw [hn]; show 26 < 36; decide
        clear hn
        simp only [zE, hdl, aStepM, optable, Nat.reduceEqDiff, reduceIte, implies_true, forall_const, reduceCtorEq, V.ofValue, V.ofScalar, V.un, V.gd, aExec, aop, g0, getD_map hz, hlen, hk0]
        repeat (refine And.intro (by first | omega | (intros; omega) | (intros; simp_all; done) | (intros; simp_all; omega)) ?_)
        exact k'
      simp only [set_some]
      -- 27 := fieldAddr 39 t4 0
      refine aAny_take q23 true 1 27 rfl rfl (by kernel_rfl) (by kernel_rfl) ?_
      apply Exists.intro; apply And.intro
      · intro t hn gx ho K' k'
        have g4 := gx 4 (by decide)
        simp only [get_mk, look_cons, look_nil, set_some, Nat.reduceEqDiff, reduceIte] at g4
        refine .inl ?_
        have hdl : 27 < t.n := by rw [hn]; show 27 < 36; decide
        clear hn
        simp only [zE, zL, zN, hdl, aStepM, optable, Nat.reduceEqDiff, reduceIte, implies_true, forall_const, reduceCtorEq, V.ofValue, V.ofScalar, V.un, V.gd, aExec, aop, g4, aFieldAddr, Nat.reduceAdd, Nat.reduceLeDiff, Nat.reduceLT, Nat.reduceMul, Try.underlying3, Ty.c3, Ty.a3, Try.underlying39, Ty.c39, Ty.a39, getD_map hz, hlen, hk0]
        repeat (refine And.intro (by first | omega | (intros; omega) | (intros; simp_all; done) | (intros; simp_all; omega)) ?_)
        exact k'
      simp only [set_some]
      -- 28 := load 3 t27
      refine aAny_take q23 true 2 28 rfl rfl (by kernel_rfl) (by kernel_rfl) ?_
      apply Exists.intro; apply And.intro
      · intro t hn gx ho K' k'
        have g27 := gx 27 (by decide)
        simp only [get_mk, look_cons, look_nil, set_some, Nat.reduceEqDiff, reduceIte] at g27
        refine .inl ?_
        first | have row0 := grow_row (i := 0) (ho rfl) rfl | have row0 : t.n + 0 = t.n := rfl
        first | have row1 := grow_row (i := 1) (ho rfl) rfl | have row1 : t.n + 0 = t.n := rfl
        first | have row2 := grow_row (i := 2) (ho rfl) rfl | have row2 : t.n + 0 = t.n := rfl
        have hdl : 28 < t.n := by rw [hn]; show 28 < 36; decide
        clear hn
        simp only [zE, zL, zO, zN, hdl, aStepM, optable, Nat.reduceEqDiff, reduceIte, implies_true, forall_const, reduceCtorEq, V.ofValue, V.ofScalar, V.un, V.gd, aExec, aop, g27, row0, row1, row2, aLoad, row_mk, Blk.row, PartOK, Go.Vm.part, V.cells, V.noSl, V.noRef, Nat.reduceAdd, Nat.reduceLeDiff, Nat.reduceLT, Nat.reduceMul, Try.underlying3, Ty.c3, Ty.a3, getD_map hz, hlen, hk0]
        repeat (refine And.intro (by first | omega | (intros; omega) | (intros; simp_all; done) | (intros; simp_all; omega)) ?_)
        exact k'
      simp only [set_some]
      -- 30 := move t2
      refine aAny_take q23 true 4 30 rfl rfl (by kernel_rfl) (by kernel_rfl) ?_
      apply Exists.intro; apply And.intro
      · intro t hn gx ho K' k'
        have g2 := gx 2 (by decide)
        simp only [get_mk, look_cons, look_nil, set_some, Nat.reduceEqDiff, reduceIte] at g2
        refine .inl ?_
        have hdl : 30 < t.n := by rw [hn]; show 30 < 36; decide
        clear hn
        simp only [zE, hdl, aStepM, optable, Nat.reduceEqDiff, reduceIte, implies_true, forall_const, reduceCtorEq, V.ofValue, V.ofScalar, V.un, V.gd, aExec, aop, g2, getD_map hz, hlen, hk0]
        repeat (refine And.intro (by first | omega | (intros; omega) | (intros; simp_all; done) | (intros; simp_all; omega)) ?_)
        exact k'
      simp only [set_some]
      -- 33 := fieldAddr 39 t4 1
      refine aAny_take q23 true 7 33 rfl rfl (by kernel_rfl) (by kernel_rfl) ?_
      apply Exists.intro; apply And.intro
      · intro t hn gx ho K' k'
        have g4 := gx 4 (by decide)
        simp only [get_mk, look_cons, look_nil, set_some, Nat.reduceEqDiff, reduceIte] at g4
        refine .inl ?_
        have hdl : 33 < t.n := by rw [hn]; show 33 < 36; decide
        clear hn
        simp only [zE, zL, zN, hdl, aStepM, optable, Nat.reduceEqDiff, reduceIte, implies_true, forall_const, reduceCtorEq, V.ofValue, V.ofScalar, V.un, V.gd, aExec, aop, g4, aFieldAddr, Nat.reduceAdd, Nat.reduceLeDiff, Nat.reduceLT, Nat.reduceMul, Try.underlying3, Ty.c3, Ty.a3, Try.underlying39, Ty.c39, Ty.a39, getD_map hz, hlen, hk0]
        repeat (refine And.intro (by first | omega | (intros; omega) | (intros; simp_all; done) | (intros; simp_all; omega)) ?_)
        exact k'
      simp only [set_some]
      -- 34 := load 3 t33
      refine aAny_take q23 true 8 34 rfl rfl (by kernel_rfl) (by kernel_rfl) ?_
      apply Exists.intro; apply And.intro
      · intro t hn gx ho K' k'
        have g33 := gx 33 (by decide)
        simp only [get_mk, look_cons, look_nil, set_some, Nat.reduceEqDiff, reduceIte] at g33
        refine .inl ?_
        first | have row0 := grow_row (i := 0) (ho rfl) rfl | have row0 : t.n + 0 = t.n := rfl
        first | have row1 := grow_row (i := 1) (ho rfl) rfl | have row1 : t.n + 0 = t.n := rfl
        first | have row2 := grow_row (i := 2) (ho rfl) rfl | have row2 : t.n + 0 = t.n := rfl
        have hdl : 34 < t.n := by rw [hn]; show 34 < 36; decide
        clear hn
        simp only [zE, zL, zO, zN, hdl, aStepM, optable, Nat.reduceEqDiff, reduceIte, implies_true, forall_const, reduceCtorEq, V.ofValue, V.ofScalar, V.un, V.gd, aExec, aop, g33, row0, row1, row2, aLoad, row_mk, Blk.row, PartOK, Go.Vm.part, V.cells, V.noSl, V.noRef, Nat.reduceAdd, Nat.reduceLeDiff, Nat.reduceLT, Nat.reduceMul, Try.underlying3, Ty.c3, Ty.a3, getD_map hz, hlen, hk0]
        repeat (refine And.intro (by first | omega | (intros; omega) | (intros; simp_all; done) | (intros; simp_all; omega)) ?_)
        exact k'
      simp only [set_some]
      -- 29 := call v f163 t26 t28 | 32 3
      refine aAny_only 3 rfl (by kernel_rfl) ?_; intro K k
      simp only [zE, zM, aStepM, optable, set_some, Nat.reduceEqDiff, reduceIte, Nat.reduceLT, implies_true, forall_const, reduceCtorEq, V.ofValue, V.ofScalar, V.un, V.gd, aExec, lentIds, lendOf, Try.underlying3, Ty.c3, Ty.a3, Ty.b3, Ty.s3, Try.underlying32, Ty.c32, Ty.a32, Ty.b32, Ty.s32, Try.underlying47, Ty.c47, Ty.a47, Ty.b47, Ty.s47]
      repeat (refine And.intro (by first | rfl | (intros; simp_all; done)) ?_)
      refine aCall_new (shiftsOf_con d a hd hds hn1 hn9 hro) (by first | rfl | simp only [toArgs, toArg, toCell, toCells, idx, row_mk, List.getElem?_cons_zero, List.getElem?_cons_succ, Option.bind_some, Option.map_some, Blk.row, fillK_mix, cond_true]) (by first | exact .inl ⟨rfl, by simp [Blk.kindIs, fillK_fd]⟩ | exact .inr (by simp [V.cold])) ?_
      refine k _ ?_; clear k K
      simp only [zY, zW, set_some, Nat.reduceEqDiff, reduceIte, V.ren, V.renL, rho, Nat.reduceAdd]
      -- 31 := indexAddr 47 t29 t30
      refine aAny_take q23 true 5 31 rfl rfl (by kernel_rfl) (by kernel_rfl) ?_
      apply Exists.intro; apply And.intro
      · intro t hn gx ho K' k'
        have g29 := gx 29 (by decide)
        have g30 := gx 30 (by decide)
        simp only [get_mk, look_cons, look_nil, set_some, Nat.reduceEqDiff, reduceIte] at g29 g30
        refine .inl ?_
        first | have row0 := grow_row (i := 0) (ho rfl) rfl | have row0 : t.n + 0 = t.n := rfl
        first | have row1 := grow_row (i := 1) (ho rfl) rfl | have row1 : t.n + 0 = t.n := rfl
        first | have row2 := grow_row (i := 2) (ho rfl) rfl | have row2 : t.n + 0 = t.n := rfl
        have hdl : 31 < t.n := by rw [hn]; show 31 < 36; decide
        clear hn
        simp only [zE, zL, zN, hdl, aStepM, optable, Nat.reduceEqDiff, reduceIte, implies_true, forall_const, reduceCtorEq, V.ofValue, V.ofScalar, V.un, V.gd, aExec, aop, g29, g30, row0, row1, row2, aIndexAddr, row_mk, Blk.row, Go.Vm.V.cells, List.forall_mem_map, List.length_map, Int.toNat_natCast, Int.reduceToNat, TypeDesc.slice.injEq, Nat.reduceAdd, Nat.reduceLeDiff, Nat.reduceLT, Nat.reduceMul, Try.underlying3, Ty.c3, Ty.a3, Try.underlying47, Ty.c47, Ty.a47, getD_map hz, hlen, hk0]
        repeat (refine And.intro (by first | omega | (intros; omega) | (intros; simp_all; done) | (intros; simp_all; omega)) ?_)
        exact k'
      simp only [set_some]
      -- 32 := load 3 t31
      refine aAny_take q23 true 6 32 rfl rfl (by kernel_rfl) (by kernel_rfl) ?_
      apply Exists.intro; apply And.intro
      · intro t hn gx ho K' k'
        have g31 := gx 31 (by decide)
        simp only [get_mk, look_cons, look_nil, set_some, Nat.reduceEqDiff, reduceIte] at g31
        refine .inl ?_
        first | have row0 := grow_row (i := 0) (ho rfl) rfl | have row0 : t.n + 0 = t.n := rfl
        first | have row1 := grow_row (i := 1) (ho rfl) rfl | have row1 : t.n + 0 = t.n := rfl
        first | have row2 := grow_row (i := 2) (ho rfl) rfl | have row2 : t.n + 0 = t.n := rfl
        have hdl : 32 < t.n := by rw [hn]; show 32 < 36; decide
        clear hn
        simp only [zE, zL, zO, zN, hdl, aStepM, optable, Nat.reduceEqDiff, reduceIte, implies_true, forall_const, reduceCtorEq, V.ofValue, V.ofScalar, V.un, V.gd, aExec, aop, g31, row0, row1, row2, aLoad, row_mk, Blk.row, PartOK, Go.Vm.part, V.cells, V.noSl, V.noRef, Nat.reduceAdd, Nat.reduceLeDiff, Nat.reduceLT, Nat.reduceMul, Try.underlying3, Ty.c3, Ty.a3, getD_map hz, hlen, hk0]
        repeat (refine And.intro (by first | omega | (intros; omega) | (intros; simp_all; done) | (intros; simp_all; omega)) ?_)
        exact k'
      simp only [set_some]
      -- 35 := binOp Go.BinOp.lss 3 t32 t34 3
      refine aAny_take q23 true 9 35 rfl rfl (by kernel_rfl) (by kernel_rfl) ?_
      apply Exists.intro; apply And.intro
      · intro t hn gx ho K' k'
        have g32 := gx 32 (by decide)
        have g34 := gx 34 (by decide)
        simp only [get_mk, look_cons, look_nil, set_some, Nat.reduceEqDiff, reduceIte] at g32 g34
        refine .inl ?_
        have hdl : 35 < t.n := by rw [hn]; show 35 < 36; decide
        clear hn
        simp only [zE, hdl, aStepM, optable, Nat.reduceEqDiff, reduceIte, implies_true, forall_const, reduceCtorEq, V.ofValue, V.ofScalar, V.un, V.gd, aExec, aop, g32, g34, aBin, Try.underlying3, getD_map hz, hlen, hk0]
        repeat (refine And.intro (by first | omega | (intros; omega) | (intros; simp_all; done) | (intros; simp_all; omega)) ?_)
        exact k'
      simp only [set_some]
      -- 6 := assign t35
      refine aAny_only 10 rfl (by kernel_rfl) ?_; intro K k
      simp only [zE, zS, aStepM, optable, set_some, Nat.reduceEqDiff, reduceIte, Nat.reduceLT, implies_true, forall_const, reduceCtorEq, V.ofValue, V.ofScalar, V.un, V.gd, aExec, aop, Nat.reduceAdd, getD_map hz, hlen, hk0]
      repeat (refine And.intro (by first | omega | (intros; omega) | (intros; simp_all; done) | (intros; simp_all; omega)) ?_)
      refine k _ ?_; clear k K
      refine aAny_done (by kernel_rfl) ?_
      refine k23 _ ?_
      refine n22 _ _ (weak_keep [6] _) ?_
      simp only [keep_mk, keepE_nil, keepE_cons, look_cons, look_nil, Nat.reduceEqDiff, reduceIte]
      refine v_ret ?_
      refine r0 _ ?_
      simp only [resK, pickRV, get_mk, look_cons, look_nil, Nat.reduceEqDiff, reduceIte, List.map_cons, List.map_nil]
      exact ret_pure rfl (by rw [mayB, ← List.drop_zero (l := d.drop (d.length - c.toNat)), ← hR, any_end (by omega), hzd]; simp) (.inl rfl)
end Go.Proofs.Ytciapcamhocmcaa
