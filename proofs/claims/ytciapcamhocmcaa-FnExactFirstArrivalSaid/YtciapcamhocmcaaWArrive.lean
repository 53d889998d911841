/- What functions compute (Arrive). No condition. -/
import Derived.Test.YtciapcamhocmcaaTy
import Derived.Test.YtciapcamhocmcaaVm21
import Derived.Test.YtciapcamhocmcaaWTurn
import Derived.Test.YtciapcamhocmcaaWBase
import Derived.Test.YtciapcamhocmcaaWTurns
set_option linter.unusedSimpArgs false
set_option linter.unusedVariables false
namespace Go.Proofs.Ytciapcamhocmcaa
open Go Go.Vm

def faStep (inc : Int) (s : Option (ByteArray × Int × Int)) (x : (Int × ByteArray × Int × Int)) : Option (ByteArray × Int × Int) := if x.1 = inc then (match s with
  | none => some (x.2.1, x.2.2.1, x.2.2.2)
  | some q => if x.2.2.2 < q.2.2 then some (x.2.1, q.2.1, x.2.2.2) else some q) else s
theorem fa_skip {inc : Int} {s : Option (ByteArray × Int × Int)} {x : (Int × ByteArray × Int × Int)} (h : ¬ x.1 = inc) : faStep inc s x = s := by unfold faStep; rw [if_neg h]
theorem fa_none {inc : Int} {x : (Int × ByteArray × Int × Int)} (h : x.1 = inc) : faStep inc none x = some (x.2.1, x.2.2.1, x.2.2.2) := by unfold faStep; rw [if_pos h]
theorem fa_lt {inc : Int} {q : ByteArray × Int × Int} {x : (Int × ByteArray × Int × Int)} (h : x.1 = inc) (hl : x.2.2.2 < q.2.2) : faStep inc (some q) x = some (x.2.1, q.2.1, x.2.2.2) := by unfold faStep; rw [if_pos h]; exact if_pos hl
theorem fa_ge {inc : Int} {q : ByteArray × Int × Int} {x : (Int × ByteArray × Int × Int)} (h : x.1 = inc) (hl : ¬ x.2.2.2 < q.2.2) : faStep inc (some q) x = some q := by unfold faStep; rw [if_pos h]; exact if_neg hl
def faOf (inc : Int) (l : List (Int × ByteArray × Int × Int)) : Option (ByteArray × Int × Int) := l.foldl (faStep inc) none
theorem fa_step {inc : Int} {l : List (Int × ByteArray × Int × Int)} {i : Nat} {x : (Int × ByteArray × Int × Int)} (h : l[i]? = some x) : faOf inc (l.take (i + 1)) = faStep inc (faOf inc (l.take i)) x := by
  rw [faOf, List.take_add_one, h, Option.toList_some, List.foldl_append]; rfl
def faI (F : Option (ByteArray × Int × Int)) (n : ByteArray) (c a : Int) : Prop := (F = none ∧ n = .empty) ∨ (F = some (n, c, a) ∧ ¬ n = .empty)
def faK (l : List (Int × ByteArray × Int × Int)) (F : Option (ByteArray × Int × Int)) (b c : Int) : Prop := (F = none ∧ b = -1) ∨ (∃ (k : Nat) (y : (Int × ByteArray × Int × Int)), F = some (y.2.1, c, y.2.2.2) ∧ b = (k : Int) ∧ l[k]? = some y)
def faN (o : Option (ByteArray × Int × Int)) : ByteArray := match o with | some q => q.1 | none => .empty
def faT (o : Option (ByteArray × Int × Int)) : Int := match o with | some q => IntKind.i64.wrap (q.2.2 - q.2.1) | none => 0
def faR (l : List (Int × ByteArray × Int × Int)) (inc : Int) : Option (ByteArray × Int × Int) := if (turnsB l && (decide (1 ≤ inc) && decide (inc ≤ 999))) = true then faOf inc l else none
theorem turn_name {l : List (Int × ByteArray × Int × Int)} (h : turnsB l = true) {x : (Int × ByteArray × Int × Int)} (hx : x ∈ l) : ¬ x.2.1 = .empty := by
  simp only [turnsB, Bool.and_eq_true] at h
  have h2 := chain_ok h.1 x hx
  simp only [tOne, nameB, Bool.and_eq_true, decide_eq_true_eq] at h2
  intro e
  have h3 := h2.1.1.2.2.1
  rw [e] at h3
  exact absurd h3 (by decide)

-- loop.example/g01020/spec.FirstArrival
set_option maxHeartbeats 1000000 in
theorem specFirstArrival_con (l : List (Int × ByteArray × Int × Int)) (inc : Int) (hl : l.length ≤ 1048576) (hls : ∀ t ∈ l, t.2.1.size ≤ 9223372036854775807) : Con Try.prog 28 [.sl (l.map (fun t : Int × ByteArray × Int × Int => V.agg [V.int .i64 t.1, V.str t.2.1, V.int .i64 t.2.2.1, V.int .i64 t.2.2.2])), .int .i64 inc] [] (.tup [.str (faN (faR l inc)), .int .i64 (faT (faR l inc)), .bool (faR l inc).isSome]) [] := by
  refine v_con [.tmp 4, .tmp 5, .tmp 6] [] Try.func28 rfl rfl rfl (by simp [Try.ntmps28]) ?_
  intro Q0 n0 r0
  simp only [Try.ntmps28, envFrom, Nat.reduceAdd]
  refine v_seq ?_; intro Q1 n1 e1 r1
  refine v_region ?_; intro K2 k2
  -- 4 := assign c<str>
  refine v_op ?_; intro K k
  simp only [zE, zS, aStepM, optable, set_some, Nat.reduceEqDiff, reduceIte, Nat.reduceLT, implies_true, forall_const, reduceCtorEq, V.ofValue, V.ofScalar, V.un, V.gd, aExec, aop, Nat.reduceAdd]
  repeat (refine And.intro (by first | omega | (intros; omega) | (intros; simp_all; done) | (intros; simp_all; omega)) ?_)
  refine k _ ?_; clear k K
  -- 5 := assign c<0:i64>
  refine v_op ?_; intro K k
  simp only [zE, zS, aStepM, optable, set_some, Nat.reduceEqDiff, reduceIte, Nat.reduceLT, implies_true, forall_const, reduceCtorEq, V.ofValue, V.ofScalar, V.un, V.gd, aExec, aop, Nat.reduceAdd]
  repeat (refine And.intro (by first | omega | (intros; omega) | (intros; simp_all; done) | (intros; simp_all; omega)) ?_)
  refine k _ ?_; clear k K
  -- 6 := assign c<false>
  refine v_op ?_; intro K k
  simp only [zE, zS, aStepM, optable, set_some, Nat.reduceEqDiff, reduceIte, Nat.reduceLT, implies_true, forall_const, reduceCtorEq, V.ofValue, V.ofScalar, V.un, V.gd, aExec, aop, Nat.reduceAdd]
  repeat (refine And.intro (by first | omega | (intros; omega) | (intros; simp_all; done) | (intros; simp_all; omega)) ?_)
  refine k _ ?_; clear k K
  refine k2 _ ?_
  refine n1 _ _ (weak_keep [0, 1] _) ?_
  simp only [keep_mk, keepE_nil, keepE_cons, look_cons, look_nil, Nat.reduceEqDiff, reduceIte]
  refine v_seq ?_; intro Q3 n3 e3 r3
  refine v_seq ?_; intro Q4 n4 e4 r4
  refine v_region ?_; intro K5 k5
  -- 12 := move t0
  refine v_op ?_; intro K k
  simp only [zE, aStepM, optable, set_some, Nat.reduceEqDiff, reduceIte, Nat.reduceLT, implies_true, forall_const, reduceCtorEq, V.ofValue, V.ofScalar, V.un, V.gd, aExec, aop]
  repeat (refine And.intro (by first | omega | (intros; omega) | (intros; simp_all; done) | (intros; simp_all; omega)) ?_)
  refine k _ ?_; clear k K
  -- 13 := call v f70 t12 | 26
  refine v_op ?_; intro K k
  simp only [zE, zM, aStepM, optable, set_some, Nat.reduceEqDiff, reduceIte, Nat.reduceLT, implies_true, forall_const, reduceCtorEq, V.ofValue, V.ofScalar, V.un, V.gd, aExec, lentIds, lendOf, Try.underlying4, Ty.c4, Ty.a4, Ty.b4, Ty.s4, Try.underlying26, Ty.c26, Ty.a26, Ty.b26, Ty.s26, Try.underlying95, Ty.c95, Ty.a95, Ty.b95, Ty.s95]
  repeat (refine And.intro (by first | rfl | (intros; simp_all; done)) ?_)
  refine aCall_new (dbGood_con l hl hls) (by first | rfl | simp only [toArgs, toArg, toCell, toCells, idx, row_mk, List.getElem?_cons_zero, List.getElem?_cons_succ, Option.bind_some, Option.map_some, Blk.row, fillK_mix, cond_true]) (by first | exact .inl ⟨rfl, by simp [Blk.kindIs, fillK_fd]⟩ | exact .inr (by simp [V.cold])) ?_
  refine k _ ?_; clear k K
  simp only [zY, zW, set_some, Nat.reduceEqDiff, reduceIte, V.ren, V.renL, rho, Nat.reduceAdd]
  -- 14 := unOp Go.UnOp.not 4 t13
  refine v_op ?_; intro K k
  simp only [zE, aStepM, optable, set_some, Nat.reduceEqDiff, reduceIte, Nat.reduceLT, implies_true, forall_const, reduceCtorEq, V.ofValue, V.ofScalar, V.un, V.gd, aExec, aop, aUn, Try.underlying4]
  repeat (refine And.intro (by first | omega | (intros; omega) | (intros; simp_all; done) | (intros; simp_all; omega)) ?_)
  refine k _ ?_; clear k K
  -- 15 := move t14
  refine v_op ?_; intro K k
  simp only [zE, aStepM, optable, set_some, Nat.reduceEqDiff, reduceIte, Nat.reduceLT, implies_true, forall_const, reduceCtorEq, V.ofValue, V.ofScalar, V.un, V.gd, aExec, aop]
  repeat (refine And.intro (by first | omega | (intros; omega) | (intros; simp_all; done) | (intros; simp_all; omega)) ?_)
  refine k _ ?_; clear k K
  -- 16 := move t1
  first
  | refine v_pass 16 3 false rfl (show 16 < 53 by decide) rfl ?_ ?_
    · first | rfl | (simp only [zV, guardV, Nat.reduceEqDiff, reduceIte]; done)
    simp only [zW, set_some, Nat.reduceEqDiff, reduceIte]
  | skip
    -- 16 := move t1
    refine v_op ?_; intro K k
    simp only [zE, zG, aStepM, optable, set_some, Nat.reduceEqDiff, reduceIte, Nat.reduceLT, implies_true, forall_const, reduceCtorEq, V.ofValue, V.ofScalar, V.un, V.gd, guardV, V.wrap, aExec, aop]
    repeat (refine And.intro (by first | omega | (intros; omega) | (intros; simp_all; done) | (intros; simp_all; omega)) ?_)
    refine k _ ?_; clear k K
  -- 17 := call v f87 t16 | 3
  first
  | refine v_pass 17 3 false rfl (show 17 < 53 by decide) rfl ?_ ?_
    · first | rfl | (simp only [zV, guardV, Nat.reduceEqDiff, reduceIte]; done)
    simp only [zW, set_some, Nat.reduceEqDiff, reduceIte]
  | skip
    -- 17 := call v f87 t16 | 3
    refine v_op ?_; intro K k
    simp only [zE, zG, aStepM, optable, set_some, Nat.reduceEqDiff, reduceIte, Nat.reduceLT, implies_true, forall_const, reduceCtorEq, V.ofValue, V.ofScalar, V.un, V.gd, guardV, Try.underlying3, Ty.c3, Ty.a3, Ty.b3, Ty.s3, Try.underlying4, Ty.c4, Ty.a4, Ty.b4, Ty.s4]
    simp only [zM, zW, aExec, lentIds, lendOf, set_some, Nat.reduceEqDiff, reduceIte, V.ofValue, V.ofScalar, V.un, V.gd, and_true, true_and, implies_true, and_self, decide_eq_true_eq]
    first | refine Exists.imp (fun r h => h) (aCall_guardT (dbIncident_con _) rfl rfl rfl ?_) | refine Exists.imp (fun r h => h) (aCall_guard (by first | (intros; trivial) | (intros; simp_all; done)) (fun hg => dbIncident_con _) rfl rfl rfl ?_)
    refine k _ ?_
    clear k K
  -- 18 := unOp Go.UnOp.not 4 t17
  first
  | refine v_pass 18 3 false rfl (show 18 < 53 by decide) rfl ?_ ?_
    · first | rfl | (simp only [zV, guardV, Nat.reduceEqDiff, reduceIte]; done)
    simp only [zW, set_some, Nat.reduceEqDiff, reduceIte]
  | skip
    -- 18 := unOp Go.UnOp.not 4 t17
    refine v_op ?_; intro K k
    simp only [zE, zG, aStepM, optable, set_some, Nat.reduceEqDiff, reduceIte, Nat.reduceLT, implies_true, forall_const, reduceCtorEq, V.ofValue, V.ofScalar, V.un, V.gd, guardV, V.wrap, aExec, aop, aUn, Try.underlying4]
    repeat (refine And.intro (by first | omega | (intros; omega) | (intros; simp_all; done) | (intros; simp_all; omega)) ?_)
    refine k _ ?_; clear k K
  -- 19 := pick t15 c<true> t18
  refine v_op ?_; intro K k
  simp only [zE, zP, aStepM, optable, set_some, Nat.reduceEqDiff, reduceIte, Nat.reduceLT, implies_true, forall_const, reduceCtorEq, V.ofValue, V.ofScalar, V.un, V.gd, aExec, aop, pickV]
  repeat (refine And.intro (by first | omega | (intros; omega) | (intros; simp_all; done) | (intros; simp_all; omega)) ?_)
  refine k _ ?_; clear k K
  refine k5 _ ?_
  refine n4 _ _ (weak_keep [0, 1, 19] _) ?_
  simp only [keep_mk, keepE_nil, keepE_cons, look_cons, look_nil, Nat.reduceEqDiff, reduceIte]
  refine v_cond _ rfl ?_ ?_  -- COND 0
  · intro hc0
    try simp only [zC, reduceCtorEq] at hc0
    refine v_seq ?_; intro Q7 n7 e7 r7
    refine v_region ?_; intro K8 k8
    -- 4 := assign c<str>
    refine v_op ?_; intro K k
    simp only [zE, zS, aStepM, optable, set_some, Nat.reduceEqDiff, reduceIte, Nat.reduceLT, implies_true, forall_const, reduceCtorEq, V.ofValue, V.ofScalar, V.un, V.gd, aExec, aop, Nat.reduceAdd]
    repeat (refine And.intro (by first | omega | (intros; omega) | (intros; simp_all; done) | (intros; simp_all; omega)) ?_)
    refine k _ ?_; clear k K
    -- 5 := assign c<0:i64>
    refine v_op ?_; intro K k
    simp only [zE, zS, aStepM, optable, set_some, Nat.reduceEqDiff, reduceIte, Nat.reduceLT, implies_true, forall_const, reduceCtorEq, V.ofValue, V.ofScalar, V.un, V.gd, aExec, aop, Nat.reduceAdd]
    repeat (refine And.intro (by first | omega | (intros; omega) | (intros; simp_all; done) | (intros; simp_all; omega)) ?_)
    refine k _ ?_; clear k K
    -- 6 := assign c<false>
    refine v_op ?_; intro K k
    simp only [zE, zS, aStepM, optable, set_some, Nat.reduceEqDiff, reduceIte, Nat.reduceLT, implies_true, forall_const, reduceCtorEq, V.ofValue, V.ofScalar, V.un, V.gd, aExec, aop, Nat.reduceAdd]
    repeat (refine And.intro (by first | omega | (intros; omega) | (intros; simp_all; done) | (intros; simp_all; omega)) ?_)
    refine k _ ?_; clear k K
    refine k8 _ ?_
    refine n7 _ _ (weak_keep [4, 5, 6] _) ?_
    simp only [keep_mk, keepE_nil, keepE_cons, look_cons, look_nil, Nat.reduceEqDiff, reduceIte]
    refine v_ret ?_
    refine r3 _ ?_
    refine r0 _ ?_
    simp only [resK, pickRV, get_mk, look_cons, look_nil, Nat.reduceEqDiff, reduceIte, List.map_cons, List.map_nil]
    have hg : (turnsB l && (decide (1 ≤ inc) && decide (inc ≤ 999))) = false := by
      cases hq : (turnsB l && (decide (1 ≤ inc) && decide (inc ≤ 999))) with
      | false => rfl
      | true =>
        exfalso
        simp only [Bool.and_eq_true, decide_eq_true_eq] at hq
        rcases hc0 with h | h
        · rw [hq.1] at h; cases h
        · have := h hq.2.1; omega
    have hfr : faR l inc = none := by rw [faR, hg]; rfl
    rw [hfr]
    exact ret_pure rfl rfl (.inl rfl)
  · intro hc0
    try simp only [zC, reduceCtorEq] at hc0
    have hg : (turnsB l && (decide (1 ≤ inc) && decide (inc ≤ 999))) = true := by rw [hc0.1, decide_eq_true hc0.2.1, decide_eq_true hc0.2.2]; rfl
    have hfr : faR l inc = faOf inc l := by rw [faR, hg]; rfl
    have hturn := hc0.1
    refine v_skip ?_
    refine n3 _ _ (weak_keep [0, 1] _) ?_
    simp only [keep_mk, keepE_nil, keepE_cons, look_cons, look_nil, Nat.reduceEqDiff, reduceIte]
    refine v_seq ?_; intro Q9 n9 e9 r9
    refine v_region ?_; intro K10 k10
    -- 7 := assign c<str>
    refine v_op ?_; intro K k
    simp only [zE, zS, aStepM, optable, set_some, Nat.reduceEqDiff, reduceIte, Nat.reduceLT, implies_true, forall_const, reduceCtorEq, V.ofValue, V.ofScalar, V.un, V.gd, aExec, aop, Nat.reduceAdd]
    repeat (refine And.intro (by first | omega | (intros; omega) | (intros; simp_all; done) | (intros; simp_all; omega)) ?_)
    refine k _ ?_; clear k K
    -- 8 := assign c<0:i64>
    refine v_op ?_; intro K k
    simp only [zE, zS, aStepM, optable, set_some, Nat.reduceEqDiff, reduceIte, Nat.reduceLT, implies_true, forall_const, reduceCtorEq, V.ofValue, V.ofScalar, V.un, V.gd, aExec, aop, Nat.reduceAdd]
    repeat (refine And.intro (by first | omega | (intros; omega) | (intros; simp_all; done) | (intros; simp_all; omega)) ?_)
    refine k _ ?_; clear k K
    -- 9 := assign c<0:i64>
    refine v_op ?_; intro K k
    simp only [zE, zS, aStepM, optable, set_some, Nat.reduceEqDiff, reduceIte, Nat.reduceLT, implies_true, forall_const, reduceCtorEq, V.ofValue, V.ofScalar, V.un, V.gd, aExec, aop, Nat.reduceAdd]
    repeat (refine And.intro (by first | omega | (intros; omega) | (intros; simp_all; done) | (intros; simp_all; omega)) ?_)
    refine k _ ?_; clear k K
    refine k10 _ ?_
    refine n9 _ _ (weak_keep [0, 1, 7, 8, 9] _) ?_
    simp only [keep_mk, keepE_nil, keepE_cons, look_cons, look_nil, Nat.reduceEqDiff, reduceIte]
    refine v_seq ?_; intro Q11 n11 e11 r11
    refine v_seq ?_; intro Q12 n12 e12 r12
    refine v_region ?_; intro K13 k13
    -- 20 := move t0
    refine v_op ?_; intro K k
    simp only [zE, aStepM, optable, set_some, Nat.reduceEqDiff, reduceIte, Nat.reduceLT, implies_true, forall_const, reduceCtorEq, V.ofValue, V.ofScalar, V.un, V.gd, aExec, aop]
    repeat (refine And.intro (by first | omega | (intros; omega) | (intros; simp_all; done) | (intros; simp_all; omega)) ?_)
    refine k _ ?_; clear k K
    -- 21 := call b Go.Builtin.len t20 | 26
    refine v_op ?_; intro K k
    simp only [zE, zL, zN, aStepM, optable, set_some, Nat.reduceEqDiff, reduceIte, Nat.reduceLT, implies_true, forall_const, reduceCtorEq, V.ofValue, V.ofScalar, V.un, V.gd, aExec, aop, List.length_map, aLen, lenOK, row_mk, Blk.row, List.size_toArray, List.getD_eq_getElem?_getD, Array.getD_eq_getD_getElem?, Option.getD_some, Nat.reduceAdd, Nat.reduceLeDiff, Nat.reduceMul, Try.underlying3, Ty.c3, Ty.a3, Ty.b3, Ty.s3, Try.underlying26, Ty.c26, Ty.a26, Ty.b26, Ty.s26, Try.underlying95, Ty.c95, Ty.a95, Ty.b95, Ty.s95]
    repeat (refine And.intro (by first | omega | (intros; omega) | (intros; simp_all; done) | (intros; simp_all; omega)) ?_)
    refine k _ ?_; clear k K
    -- 22 := move c<0:i64>
    refine v_op ?_; intro K k
    simp only [zE, aStepM, optable, set_some, Nat.reduceEqDiff, reduceIte, Nat.reduceLT, implies_true, forall_const, reduceCtorEq, V.ofValue, V.ofScalar, V.un, V.gd, aExec, aop]
    repeat (refine And.intro (by first | omega | (intros; omega) | (intros; simp_all; done) | (intros; simp_all; omega)) ?_)
    refine k _ ?_; clear k K
    refine k13 _ ?_
    refine n12 _ _ (weak_keep [1, 7, 8, 9, 20, 21, 22] _) ?_
    simp only [keep_mk, keepE_nil, keepE_cons, look_cons, look_nil, Nat.reduceEqDiff, reduceIte]
    refine v_block ?_; intro Q14 n14 x14 e14 r14
    refine v_loop (fun p => ⟨[(1, .int .i64 inc), (7, .str p.2.1), (8, .int .i64 p.2.2.1), (9, .int .i64 p.2.2.2), (20, .sl (l.map (fun t : Int × ByteArray × Int × Int => V.agg [V.int .i64 t.1, V.str t.2.1, V.int .i64 t.2.2.1, V.int .i64 t.2.2.2]))), (21, .int .i64 l.length), (22, .int .i64 (Nat.cast p.1))], [], false, 53, 0⟩) (fun p => p.1 ≤ l.length ∧ faI (faOf inc (l.take p.1)) p.2.1 p.2.2.1 p.2.2.2) (fun p => l.length - p.1) ((0, .empty, 0, 0) : Nat × ByteArray × Int × Int) ?_ ?_ ?_
    · refine weak_of [1, 7, 8, 9, 20, 21, 22] ?_
      simp only [keep_mk, keepE_nil, keepE_cons, look_cons, look_nil, Nat.reduceEqDiff, reduceIte]
      rfl
    · exact ⟨Nat.zero_le _, .inl ⟨rfl, rfl⟩⟩
    · rintro ⟨i, n, c, a⟩ hok15 Q15 n15 e15 r15
      obtain ⟨hi1, hR⟩ := hok15
      simp only [] at hi1 hR ⊢
      refine v_seq ?_; intro Q16 n16 e16 r16
      refine v_region ?_; intro K17 k17
      -- 23 := binOp Go.BinOp.lss 3 t22 t21 3
      refine v_op ?_; intro K k
      simp only [zE, aStepM, optable, set_some, Nat.reduceEqDiff, reduceIte, Nat.reduceLT, implies_true, forall_const, reduceCtorEq, V.ofValue, V.ofScalar, V.un, V.gd, aExec, aop, aBin, Try.underlying3]
      repeat (refine And.intro (by first | omega | (intros; omega) | (intros; simp_all; done) | (intros; simp_all; omega)) ?_)
      refine k _ ?_; clear k K
      refine k17 _ ?_
      refine n16 _ _ (weak_keep [1, 7, 8, 9, 20, 21, 22, 23] _) ?_
      simp only [keep_mk, keepE_nil, keepE_cons, look_cons, look_nil, Nat.reduceEqDiff, reduceIte]
      refine v_seq ?_; intro Q18 n18 e18 r18
      refine v_cond _ rfl ?_ ?_  -- COND 1
      · intro hc1
        try simp only [zC, reduceCtorEq] at hc1
        have hlt : i < l.length := by omega
        obtain ⟨⟨x0, x1, x2, x3⟩, hx⟩ : ∃ x : Int × ByteArray × Int × Int, l[i]? = some x := ⟨l[i]'(by omega), List.getElem?_eq_getElem (by omega)⟩
        have hstep := fa_step (inc := inc) hx
        have hne : ¬ x1 = .empty := turn_name hturn (List.mem_of_getElem? hx)
        refine v_skip ?_
        refine n18 _ _ (weak_keep [1, 7, 8, 9, 20, 21, 22] _) ?_
        simp only [keep_mk, keepE_nil, keepE_cons, look_cons, look_nil, Nat.reduceEqDiff, reduceIte]
        refine v_seq ?_; intro Q20 n20 e20 r20
        refine v_block ?_; intro Q21 n21 x21 e21 r21
        refine v_seq ?_; intro Q22 n22 e22 r22
        refine v_region ?_; intro K23 k23
        -- 24 := indexAddr 26 t20 t22
        refine v_op ?_; intro K k
        simp only [zE, zL, zN, aStepM, optable, set_some, Nat.reduceEqDiff, reduceIte, Nat.reduceLT, implies_true, forall_const, reduceCtorEq, V.ofValue, V.ofScalar, V.un, V.gd, aExec, aop, aIndexAddr, row_mk, Blk.row, Go.Vm.V.cells, List.forall_mem_map, List.length_map, Int.toNat_natCast, Int.reduceToNat, TypeDesc.slice.injEq, Nat.reduceAdd, Nat.reduceLeDiff, Nat.reduceMul, Try.underlying26, Ty.c26, Ty.a26, Try.underlying95, Ty.c95, Ty.a95, getD_map hx]
        repeat (refine And.intro (by first | omega | (intros; omega) | (intros; simp_all; done) | (intros; simp_all; omega)) ?_)
        refine k _ ?_; clear k K
        -- 25 := load 95 t24
        refine v_op ?_; intro K k
        simp only [zE, zL, zO, zN, aStepM, optable, set_some, Nat.reduceEqDiff, reduceIte, Nat.reduceLT, implies_true, forall_const, reduceCtorEq, V.ofValue, V.ofScalar, V.un, V.gd, aExec, aop, aLoad, row_mk, Blk.row, PartOK, Go.Vm.part, V.cells, V.noSl, V.noRef, Nat.reduceAdd, Nat.reduceLeDiff, Nat.reduceMul, Try.underlying3, Ty.c3, Ty.a3, Try.underlying9, Ty.c9, Ty.a9, Try.underlying95, Ty.c95, Ty.a95, getD_map hx]
        repeat (refine And.intro (by first | omega | (intros; omega) | (intros; simp_all; done) | (intros; simp_all; omega)) ?_)
        refine k _ ?_; clear k K
        -- 11 := alloc 95
        refine v_op ?_; intro K k
        simp only [zE, zS, zO, zN, aStepM, optable, set_some, Nat.reduceEqDiff, reduceIte, Nat.reduceLT, implies_true, forall_const, reduceCtorEq, V.ofValue, V.ofScalar, V.un, V.gd, aExec, aop, Nat.reduceAdd, Value.oneCell', V.isVal, V.cells, kindOf, kindAll, V.noSl, V.noRef, List.all_cons, List.all_nil, List.map_cons, List.map_nil, gt_iff_lt, Nat.reduceLeDiff, Nat.reduceMul, Try.underlying3, Ty.c3, Ty.a3, Ty.z3, Try.underlying9, Ty.c9, Ty.a9, Ty.z9, Try.underlying95, Ty.c95, Ty.a95, Ty.z95, getD_map hx]
        repeat (refine And.intro (by first | omega | (intros; omega) | (intros; simp_all; done) | (intros; simp_all; omega)) ?_)
        refine k _ ?_; clear k K
        -- None := store 95 t11 t25
        refine v_op ?_; intro K k
        simp only [zE, zS, zJ, zL, zO, zN, aStepM, optable, set_some, Nat.reduceEqDiff, reduceIte, Nat.reduceLT, implies_true, forall_const, reduceCtorEq, V.ofValue, V.ofScalar, V.un, V.gd, aExec, aop, aStore, setCells, V.isVal, V.cells, kindOf, kindAll, V.noSl, V.noRef, gt_iff_lt, Nat.reduceAdd, Nat.reduceLeDiff, Nat.reduceMul, takeV, takeCell, takeCells, row_mk, Blk.row, killAll, Nat.reduceBEq, Try.underlying3, Ty.c3, Ty.a3, Try.underlying9, Ty.c9, Ty.a9, Try.underlying95, Ty.c95, Ty.a95, getD_map hx]
        repeat (refine And.intro (by first | omega | (intros; omega) | (intros; simp_all; done) | (intros; simp_all; omega)) ?_)
        refine k _ ?_; clear k K
        refine k23 _ ?_
        refine n22 _ _ (weak_keep [1, 7, 8, 9, 11, 20, 21, 22] _) ?_
        simp only [keep_mk, keepE_nil, keepE_cons, look_cons, look_nil, Nat.reduceEqDiff, reduceIte]
        refine v_seq ?_; intro Q24 n24 e24 r24
        refine v_seq ?_; intro Q25 n25 e25 r25
        refine v_region ?_; intro K26 k26
        -- 26 := fieldAddr 95 t11 0
        refine v_op ?_; intro K k
        simp only [zE, zL, zN, aStepM, optable, set_some, Nat.reduceEqDiff, reduceIte, Nat.reduceLT, implies_true, forall_const, reduceCtorEq, V.ofValue, V.ofScalar, V.un, V.gd, aExec, aop, aFieldAddr, Nat.reduceAdd, Nat.reduceLeDiff, Nat.reduceMul, Try.underlying3, Ty.c3, Ty.a3, Try.underlying9, Ty.c9, Ty.a9, Try.underlying95, Ty.c95, Ty.a95, getD_map hx]
        repeat (refine And.intro (by first | omega | (intros; omega) | (intros; simp_all; done) | (intros; simp_all; omega)) ?_)
        refine k _ ?_; clear k K
        -- 27 := load 3 t26
        refine v_op ?_; intro K k
        simp only [zE, zL, zO, zN, aStepM, optable, set_some, Nat.reduceEqDiff, reduceIte, Nat.reduceLT, implies_true, forall_const, reduceCtorEq, V.ofValue, V.ofScalar, V.un, V.gd, aExec, aop, aLoad, row_mk, Blk.row, PartOK, Go.Vm.part, V.cells, V.noSl, V.noRef, Nat.reduceAdd, Nat.reduceLeDiff, Nat.reduceMul, Try.underlying3, Ty.c3, Ty.a3, getD_map hx]
        repeat (refine And.intro (by first | omega | (intros; omega) | (intros; simp_all; done) | (intros; simp_all; omega)) ?_)
        refine k _ ?_; clear k K
        -- 28 := move t1
        refine v_op ?_; intro K k
        simp only [zE, aStepM, optable, set_some, Nat.reduceEqDiff, reduceIte, Nat.reduceLT, implies_true, forall_const, reduceCtorEq, V.ofValue, V.ofScalar, V.un, V.gd, aExec, aop, getD_map hx]
        repeat (refine And.intro (by first | omega | (intros; omega) | (intros; simp_all; done) | (intros; simp_all; omega)) ?_)
        refine k _ ?_; clear k K
        -- 29 := binOp Go.BinOp.neq 3 t27 t28 3
        refine v_op ?_; intro K k
        simp only [zE, aStepM, optable, set_some, Nat.reduceEqDiff, reduceIte, Nat.reduceLT, implies_true, forall_const, reduceCtorEq, V.ofValue, V.ofScalar, V.un, V.gd, aExec, aop, aBin, Try.underlying3, getD_map hx]
        repeat (refine And.intro (by first | omega | (intros; omega) | (intros; simp_all; done) | (intros; simp_all; omega)) ?_)
        refine k _ ?_; clear k K
        refine k26 _ ?_
        refine n25 _ _ (weak_keep [1, 7, 8, 9, 11, 20, 21, 22, 29] _) ?_
        simp only [keep_mk, keepE_nil, keepE_cons, look_cons, look_nil, Nat.reduceEqDiff, reduceIte]
        refine v_cond _ rfl ?_ ?_  -- COND 2
        · intro hc2
          try simp only [zC, reduceCtorEq] at hc2
          refine v_exit ?_
          refine e24 _ _ ?_
          refine x21 _ ?_
          refine n20 _ _ (weak_keep [1, 7, 8, 9, 20, 21, 22] _) ?_
          simp only [keep_mk, keepE_nil, keepE_cons, look_cons, look_nil, Nat.reduceEqDiff, reduceIte]
          refine v_region ?_; intro K28 k28
          -- 46 := binOp Go.BinOp.add 3 t22 c<1:i64> 3
          refine v_op ?_; intro K k
          simp only [zE, aStepM, optable, set_some, Nat.reduceEqDiff, reduceIte, Nat.reduceLT, implies_true, forall_const, reduceCtorEq, V.ofValue, V.ofScalar, V.un, V.gd, aExec, aop, aBin, Try.underlying3, getD_map hx]
          try simp (disch := omega) only [wrap64]
          repeat (refine And.intro (by first | omega | (intros; omega) | (intros; simp_all; done) | (intros; simp_all; omega)) ?_)
          refine k _ ?_; clear k K
          -- 22 := move t46
          refine v_op ?_; intro K k
          simp only [zE, aStepM, optable, set_some, Nat.reduceEqDiff, reduceIte, Nat.reduceLT, implies_true, forall_const, reduceCtorEq, V.ofValue, V.ofScalar, V.un, V.gd, aExec, aop, getD_map hx]
          repeat (refine And.intro (by first | omega | (intros; omega) | (intros; simp_all; done) | (intros; simp_all; omega)) ?_)
          refine k _ ?_; clear k K
          refine k28 _ ?_
          refine n15 _ (i + 1, n, c, a) ?_ ?_ ?_
          · refine weak_both [1, 7, 8, 9, 20, 21, 22] [] (by decide) (by simp) ?_ ?_ ?_
            · simp [keep_mk, keepE_nil, keepE_cons, look_cons, V.only, V.onlyL, idx]
            · simp [Blk.kindIs, fillK_mix]
            simp only [keep_mk, keepE_nil, keepE_cons, look_cons, look_nil, Nat.reduceEqDiff, reduceIte, St.comp, List.map_cons, List.map_nil, V.ren, V.renL, idx, List.getD_cons_zero, List.getD_cons_succ, Nat.reduceBEq, cond_true, cond_false, Option.map_some, Option.getD_some, Nat.reduceAdd, Nat.beq_eq_true_eq]
            rfl
          · exact ⟨hlt, by show faI (faOf inc (l.take (i + 1))) n c a; rw [hstep, fa_skip hc2]; exact hR⟩
          · show _ < _; show l.length - (i + 1) < l.length - i; omega
        · intro hc2
          try simp only [zC, reduceCtorEq] at hc2
          refine v_skip ?_
          refine n24 _ _ (weak_keep [1, 7, 8, 9, 11, 20, 21, 22] _) ?_
          simp only [keep_mk, keepE_nil, keepE_cons, look_cons, look_nil, Nat.reduceEqDiff, reduceIte]
          refine v_seq ?_; intro Q29 n29 e29 r29
          refine v_seq ?_; intro Q30 n30 e30 r30
          refine v_region ?_; intro K31 k31
          -- 30 := move t7
          refine v_op ?_; intro K k
          simp only [zE, aStepM, optable, set_some, Nat.reduceEqDiff, reduceIte, Nat.reduceLT, implies_true, forall_const, reduceCtorEq, V.ofValue, V.ofScalar, V.un, V.gd, aExec, aop, getD_map hx]
          repeat (refine And.intro (by first | omega | (intros; omega) | (intros; simp_all; done) | (intros; simp_all; omega)) ?_)
          refine k _ ?_; clear k K
          -- 31 := binOp Go.BinOp.eql 9 t30 c<str> 9
          refine v_op ?_; intro K k
          simp only [zE, aStepM, optable, set_some, Nat.reduceEqDiff, reduceIte, Nat.reduceLT, implies_true, forall_const, reduceCtorEq, V.ofValue, V.ofScalar, V.un, V.gd, aExec, aop, aBin, Try.underlying9, getD_map hx]
          repeat (refine And.intro (by first | omega | (intros; omega) | (intros; simp_all; done) | (intros; simp_all; omega)) ?_)
          refine k _ ?_; clear k K
          refine k31 _ ?_
          refine n30 _ _ (weak_keep [1, 7, 8, 9, 11, 20, 21, 22, 31] _) ?_
          simp only [keep_mk, keepE_nil, keepE_cons, look_cons, look_nil, Nat.reduceEqDiff, reduceIte]
          refine v_cond _ rfl ?_ ?_  -- COND 3
          · intro hc3
            try simp only [zC, reduceCtorEq] at hc3
            refine v_region ?_; intro K33 k33
            -- 32 := fieldAddr 95 t11 2
            refine v_op ?_; intro K k
            simp only [zE, zL, zN, aStepM, optable, set_some, Nat.reduceEqDiff, reduceIte, Nat.reduceLT, implies_true, forall_const, reduceCtorEq, V.ofValue, V.ofScalar, V.un, V.gd, aExec, aop, aFieldAddr, Nat.reduceAdd, Nat.reduceLeDiff, Nat.reduceMul, Try.underlying3, Ty.c3, Ty.a3, Try.underlying9, Ty.c9, Ty.a9, Try.underlying95, Ty.c95, Ty.a95, getD_map hx]
            repeat (refine And.intro (by first | omega | (intros; omega) | (intros; simp_all; done) | (intros; simp_all; omega)) ?_)
            refine k _ ?_; clear k K
            -- 33 := load 3 t32
            refine v_op ?_; intro K k
            simp only [zE, zL, zO, zN, aStepM, optable, set_some, Nat.reduceEqDiff, reduceIte, Nat.reduceLT, implies_true, forall_const, reduceCtorEq, V.ofValue, V.ofScalar, V.un, V.gd, aExec, aop, aLoad, row_mk, Blk.row, PartOK, Go.Vm.part, V.cells, V.noSl, V.noRef, Nat.reduceAdd, Nat.reduceLeDiff, Nat.reduceMul, Try.underlying3, Ty.c3, Ty.a3, getD_map hx]
            repeat (refine And.intro (by first | omega | (intros; omega) | (intros; simp_all; done) | (intros; simp_all; omega)) ?_)
            refine k _ ?_; clear k K
            -- 8 := assign t33
            refine v_op ?_; intro K k
            simp only [zE, zS, aStepM, optable, set_some, Nat.reduceEqDiff, reduceIte, Nat.reduceLT, implies_true, forall_const, reduceCtorEq, V.ofValue, V.ofScalar, V.un, V.gd, aExec, aop, Nat.reduceAdd, getD_map hx]
            repeat (refine And.intro (by first | omega | (intros; omega) | (intros; simp_all; done) | (intros; simp_all; omega)) ?_)
            refine k _ ?_; clear k K
            refine k33 _ ?_
            refine n29 _ _ (weak_keep [1, 7, 8, 9, 11, 20, 21, 22] _) ?_
            simp only [keep_mk, keepE_nil, keepE_cons, look_cons, look_nil, Nat.reduceEqDiff, reduceIte]
            refine v_seq ?_; intro Q34 n34 e34 r34
            refine v_region ?_; intro K35 k35
            -- 34 := move t7
            refine v_op ?_; intro K k
            simp only [zE, aStepM, optable, set_some, Nat.reduceEqDiff, reduceIte, Nat.reduceLT, implies_true, forall_const, reduceCtorEq, V.ofValue, V.ofScalar, V.un, V.gd, aExec, aop, getD_map hx]
            repeat (refine And.intro (by first | omega | (intros; omega) | (intros; simp_all; done) | (intros; simp_all; omega)) ?_)
            refine k _ ?_; clear k K
            -- 35 := binOp Go.BinOp.eql 9 t34 c<str> 9
            refine v_op ?_; intro K k
            simp only [zE, aStepM, optable, set_some, Nat.reduceEqDiff, reduceIte, Nat.reduceLT, implies_true, forall_const, reduceCtorEq, V.ofValue, V.ofScalar, V.un, V.gd, aExec, aop, aBin, Try.underlying9, getD_map hx]
            repeat (refine And.intro (by first | omega | (intros; omega) | (intros; simp_all; done) | (intros; simp_all; omega)) ?_)
            refine k _ ?_; clear k K
            -- 36 := move t35
            refine v_op ?_; intro K k
            simp only [zE, aStepM, optable, set_some, Nat.reduceEqDiff, reduceIte, Nat.reduceLT, implies_true, forall_const, reduceCtorEq, V.ofValue, V.ofScalar, V.un, V.gd, aExec, aop, getD_map hx]
            repeat (refine And.intro (by first | omega | (intros; omega) | (intros; simp_all; done) | (intros; simp_all; omega)) ?_)
            refine k _ ?_; clear k K
            -- 37 := fieldAddr 95 t11 3
            first
            | refine v_pass 37 2 false rfl (show 37 < 53 by decide) rfl ?_ ?_
              · first | rfl | (simp only [zV, guardV, Nat.reduceEqDiff, reduceIte]; done)
              simp only [zW, set_some, Nat.reduceEqDiff, reduceIte]
            | skip
              -- 37 := fieldAddr 95 t11 3
              refine v_op ?_; intro K k
              simp only [zE, zL, zN, aStepM, optable, set_some, Nat.reduceEqDiff, reduceIte, Nat.reduceLT, implies_true, forall_const, reduceCtorEq, V.ofValue, V.ofScalar, V.un, V.gd, guardV, V.wrap, aExec, aop, aFieldAddr, Nat.reduceAdd, Nat.reduceLeDiff, Nat.reduceMul, Try.underlying3, Ty.c3, Ty.a3, Try.underlying9, Ty.c9, Ty.a9, Try.underlying95, Ty.c95, Ty.a95, getD_map hx]
              repeat (refine And.intro (by first | omega | (intros; omega) | (intros; simp_all; done) | (intros; simp_all; omega)) ?_)
              refine k _ ?_; clear k K
            -- 38 := load 3 t37
            first
            | refine v_pass 38 2 false rfl (show 38 < 53 by decide) rfl ?_ ?_
              · first | rfl | (simp only [zV, guardV, Nat.reduceEqDiff, reduceIte]; done)
              simp only [zW, set_some, Nat.reduceEqDiff, reduceIte]
            | skip
              -- 38 := load 3 t37
              refine v_op ?_; intro K k
              simp only [zE, zL, zO, zN, aStepM, optable, set_some, Nat.reduceEqDiff, reduceIte, Nat.reduceLT, implies_true, forall_const, reduceCtorEq, V.ofValue, V.ofScalar, V.un, V.gd, guardV, V.wrap, aExec, aop, aLoad, row_mk, Blk.row, PartOK, Go.Vm.part, V.cells, V.noSl, V.noRef, Nat.reduceAdd, Nat.reduceLeDiff, Nat.reduceMul, Try.underlying3, Ty.c3, Ty.a3, getD_map hx]
              repeat (refine And.intro (by first | omega | (intros; omega) | (intros; simp_all; done) | (intros; simp_all; omega)) ?_)
              refine k _ ?_; clear k K
            -- 39 := move t9
            first
            | refine v_pass 39 2 false rfl (show 39 < 53 by decide) rfl ?_ ?_
              · first | rfl | (simp only [zV, guardV, Nat.reduceEqDiff, reduceIte]; done)
              simp only [zW, set_some, Nat.reduceEqDiff, reduceIte]
            | skip
              -- 39 := move t9
              refine v_op ?_; intro K k
              simp only [zE, zG, aStepM, optable, set_some, Nat.reduceEqDiff, reduceIte, Nat.reduceLT, implies_true, forall_const, reduceCtorEq, V.ofValue, V.ofScalar, V.un, V.gd, guardV, V.wrap, aExec, aop, getD_map hx]
              repeat (refine And.intro (by first | omega | (intros; omega) | (intros; simp_all; done) | (intros; simp_all; omega)) ?_)
              refine k _ ?_; clear k K
            -- 40 := binOp Go.BinOp.lss 3 t38 t39 3
            first
            | refine v_pass 40 2 false rfl (show 40 < 53 by decide) rfl ?_ ?_
              · first | rfl | (simp only [zV, guardV, Nat.reduceEqDiff, reduceIte]; done)
              simp only [zW, set_some, Nat.reduceEqDiff, reduceIte]
            | skip
              -- 40 := binOp Go.BinOp.lss 3 t38 t39 3
              refine v_op ?_; intro K k
              simp only [zE, zG, aStepM, optable, set_some, Nat.reduceEqDiff, reduceIte, Nat.reduceLT, implies_true, forall_const, reduceCtorEq, V.ofValue, V.ofScalar, V.un, V.gd, guardV, V.wrap, aExec, aop, aBin, Try.underlying3, getD_map hx]
              repeat (refine And.intro (by first | omega | (intros; omega) | (intros; simp_all; done) | (intros; simp_all; omega)) ?_)
              refine k _ ?_; clear k K
            -- 41 := pick t36 c<true> t40
            refine v_op ?_; intro K k
            simp only [zE, zP, aStepM, optable, set_some, Nat.reduceEqDiff, reduceIte, Nat.reduceLT, implies_true, forall_const, reduceCtorEq, V.ofValue, V.ofScalar, V.un, V.gd, aExec, aop, pickV, getD_map hx]
            repeat (refine And.intro (by first | omega | (intros; omega) | (intros; simp_all; done) | (intros; simp_all; omega)) ?_)
            refine k _ ?_; clear k K
            refine k35 _ ?_
            refine n34 _ _ (weak_keep [1, 7, 8, 9, 11, 20, 21, 22, 41] _) ?_
            simp only [keep_mk, keepE_nil, keepE_cons, look_cons, look_nil, Nat.reduceEqDiff, reduceIte]
            refine v_cond _ rfl ?_ ?_  -- COND 4
            · intro hc4
              try simp only [zC, reduceCtorEq] at hc4
              refine v_seq ?_; intro Q37 n37 e37 r37
              refine v_region ?_; intro K38 k38
              -- 42 := fieldAddr 95 t11 1
              refine v_op ?_; intro K k
              simp only [zE, zL, zN, aStepM, optable, set_some, Nat.reduceEqDiff, reduceIte, Nat.reduceLT, implies_true, forall_const, reduceCtorEq, V.ofValue, V.ofScalar, V.un, V.gd, aExec, aop, aFieldAddr, Nat.reduceAdd, Nat.reduceLeDiff, Nat.reduceMul, Try.underlying3, Ty.c3, Ty.a3, Try.underlying9, Ty.c9, Ty.a9, Try.underlying95, Ty.c95, Ty.a95, getD_map hx]
              repeat (refine And.intro (by first | omega | (intros; omega) | (intros; simp_all; done) | (intros; simp_all; omega)) ?_)
              refine k _ ?_; clear k K
              -- 43 := load 9 t42
              refine v_op ?_; intro K k
              simp only [zE, zL, zO, zN, aStepM, optable, set_some, Nat.reduceEqDiff, reduceIte, Nat.reduceLT, implies_true, forall_const, reduceCtorEq, V.ofValue, V.ofScalar, V.un, V.gd, aExec, aop, aLoad, row_mk, Blk.row, PartOK, Go.Vm.part, V.cells, V.noSl, V.noRef, Nat.reduceAdd, Nat.reduceLeDiff, Nat.reduceMul, Try.underlying9, Ty.c9, Ty.a9, getD_map hx]
              repeat (refine And.intro (by first | omega | (intros; omega) | (intros; simp_all; done) | (intros; simp_all; omega)) ?_)
              refine k _ ?_; clear k K
              -- 7 := assign t43
              refine v_op ?_; intro K k
              simp only [zE, zS, aStepM, optable, set_some, Nat.reduceEqDiff, reduceIte, Nat.reduceLT, implies_true, forall_const, reduceCtorEq, V.ofValue, V.ofScalar, V.un, V.gd, aExec, aop, Nat.reduceAdd, getD_map hx]
              repeat (refine And.intro (by first | omega | (intros; omega) | (intros; simp_all; done) | (intros; simp_all; omega)) ?_)
              refine k _ ?_; clear k K
              refine k38 _ ?_
              refine n37 _ _ (weak_keep [1, 7, 8, 11, 20, 21, 22] _) ?_
              simp only [keep_mk, keepE_nil, keepE_cons, look_cons, look_nil, Nat.reduceEqDiff, reduceIte]
              refine v_region ?_; intro K39 k39
              -- 44 := fieldAddr 95 t11 3
              refine v_op ?_; intro K k
              simp only [zE, zL, zN, aStepM, optable, set_some, Nat.reduceEqDiff, reduceIte, Nat.reduceLT, implies_true, forall_const, reduceCtorEq, V.ofValue, V.ofScalar, V.un, V.gd, aExec, aop, aFieldAddr, Nat.reduceAdd, Nat.reduceLeDiff, Nat.reduceMul, Try.underlying3, Ty.c3, Ty.a3, Try.underlying9, Ty.c9, Ty.a9, Try.underlying95, Ty.c95, Ty.a95, getD_map hx]
              repeat (refine And.intro (by first | omega | (intros; omega) | (intros; simp_all; done) | (intros; simp_all; omega)) ?_)
              refine k _ ?_; clear k K
              -- 45 := load 3 t44
              refine v_op ?_; intro K k
              simp only [zE, zL, zO, zN, aStepM, optable, set_some, Nat.reduceEqDiff, reduceIte, Nat.reduceLT, implies_true, forall_const, reduceCtorEq, V.ofValue, V.ofScalar, V.un, V.gd, aExec, aop, aLoad, row_mk, Blk.row, PartOK, Go.Vm.part, V.cells, V.noSl, V.noRef, Nat.reduceAdd, Nat.reduceLeDiff, Nat.reduceMul, Try.underlying3, Ty.c3, Ty.a3, getD_map hx]
              repeat (refine And.intro (by first | omega | (intros; omega) | (intros; simp_all; done) | (intros; simp_all; omega)) ?_)
              refine k _ ?_; clear k K
              -- 9 := assign t45
              refine v_op ?_; intro K k
              simp only [zE, zS, aStepM, optable, set_some, Nat.reduceEqDiff, reduceIte, Nat.reduceLT, implies_true, forall_const, reduceCtorEq, V.ofValue, V.ofScalar, V.un, V.gd, aExec, aop, Nat.reduceAdd, getD_map hx]
              repeat (refine And.intro (by first | omega | (intros; omega) | (intros; simp_all; done) | (intros; simp_all; omega)) ?_)
              refine k _ ?_; clear k K
              refine k39 _ ?_
              refine n21 _ ?_
              refine n20 _ _ (weak_keep [1, 7, 8, 9, 20, 21, 22] _) ?_
              simp only [keep_mk, keepE_nil, keepE_cons, look_cons, look_nil, Nat.reduceEqDiff, reduceIte]
              refine v_region ?_; intro K40 k40
              -- 46 := binOp Go.BinOp.add 3 t22 c<1:i64> 3
              refine v_op ?_; intro K k
              simp only [zE, aStepM, optable, set_some, Nat.reduceEqDiff, reduceIte, Nat.reduceLT, implies_true, forall_const, reduceCtorEq, V.ofValue, V.ofScalar, V.un, V.gd, aExec, aop, aBin, Try.underlying3, getD_map hx]
              try simp (disch := omega) only [wrap64]
              repeat (refine And.intro (by first | omega | (intros; omega) | (intros; simp_all; done) | (intros; simp_all; omega)) ?_)
              refine k _ ?_; clear k K
              -- 22 := move t46
              refine v_op ?_; intro K k
              simp only [zE, aStepM, optable, set_some, Nat.reduceEqDiff, reduceIte, Nat.reduceLT, implies_true, forall_const, reduceCtorEq, V.ofValue, V.ofScalar, V.un, V.gd, aExec, aop, getD_map hx]
              repeat (refine And.intro (by first | omega | (intros; omega) | (intros; simp_all; done) | (intros; simp_all; omega)) ?_)
              refine k _ ?_; clear k K
              refine k40 _ ?_
              refine n15 _ (i + 1, x1, x2, x3) ?_ ?_ ?_
              · refine weak_both [1, 7, 8, 9, 20, 21, 22] [] (by decide) (by simp) ?_ ?_ ?_
                · simp [keep_mk, keepE_nil, keepE_cons, look_cons, V.only, V.onlyL, idx]
                · simp [Blk.kindIs, fillK_mix]
                simp only [keep_mk, keepE_nil, keepE_cons, look_cons, look_nil, Nat.reduceEqDiff, reduceIte, St.comp, List.map_cons, List.map_nil, V.ren, V.renL, idx, List.getD_cons_zero, List.getD_cons_succ, Nat.reduceBEq, cond_true, cond_false, Option.map_some, Option.getD_some, Nat.reduceAdd, Nat.beq_eq_true_eq]
                rfl
              · exact ⟨hlt, by show faI (faOf inc (l.take (i + 1))) x1 x2 x3; rw [hstep, (hR.resolve_right (fun h => h.2 hc3)).1]; exact .inr ⟨fa_none hc2, hne⟩⟩
              · show _ < _; show l.length - (i + 1) < l.length - i; omega
            · intro hc4
              exfalso; simp [hc3] at hc4
          · intro hc3
            try simp only [zC, reduceCtorEq] at hc3
            refine v_skip ?_
            refine n29 _ _ (weak_keep [1, 7, 8, 9, 11, 20, 21, 22] _) ?_
            simp only [keep_mk, keepE_nil, keepE_cons, look_cons, look_nil, Nat.reduceEqDiff, reduceIte]
            refine v_seq ?_; intro Q41 n41 e41 r41
            refine v_region ?_; intro K42 k42
            -- 34 := move t7
            refine v_op ?_; intro K k
            simp only [zE, aStepM, optable, set_some, Nat.reduceEqDiff, reduceIte, Nat.reduceLT, implies_true, forall_const, reduceCtorEq, V.ofValue, V.ofScalar, V.un, V.gd, aExec, aop, getD_map hx]
            repeat (refine And.intro (by first | omega | (intros; omega) | (intros; simp_all; done) | (intros; simp_all; omega)) ?_)
            refine k _ ?_; clear k K
            -- 35 := binOp Go.BinOp.eql 9 t34 c<str> 9
            refine v_op ?_; intro K k
            simp only [zE, aStepM, optable, set_some, Nat.reduceEqDiff, reduceIte, Nat.reduceLT, implies_true, forall_const, reduceCtorEq, V.ofValue, V.ofScalar, V.un, V.gd, aExec, aop, aBin, Try.underlying9, getD_map hx]
            repeat (refine And.intro (by first | omega | (intros; omega) | (intros; simp_all; done) | (intros; simp_all; omega)) ?_)
            refine k _ ?_; clear k K
            -- 36 := move t35
            refine v_op ?_; intro K k
            simp only [zE, aStepM, optable, set_some, Nat.reduceEqDiff, reduceIte, Nat.reduceLT, implies_true, forall_const, reduceCtorEq, V.ofValue, V.ofScalar, V.un, V.gd, aExec, aop, getD_map hx]
            repeat (refine And.intro (by first | omega | (intros; omega) | (intros; simp_all; done) | (intros; simp_all; omega)) ?_)
            refine k _ ?_; clear k K
            -- 37 := fieldAddr 95 t11 3
            first
            | refine v_pass 37 2 false rfl (show 37 < 53 by decide) rfl ?_ ?_
              · first | rfl | (simp only [zV, guardV, Nat.reduceEqDiff, reduceIte]; done)
              simp only [zW, set_some, Nat.reduceEqDiff, reduceIte]
            | skip
              -- 37 := fieldAddr 95 t11 3
              refine v_op ?_; intro K k
              simp only [zE, zL, zN, aStepM, optable, set_some, Nat.reduceEqDiff, reduceIte, Nat.reduceLT, implies_true, forall_const, reduceCtorEq, V.ofValue, V.ofScalar, V.un, V.gd, guardV, V.wrap, aExec, aop, aFieldAddr, Nat.reduceAdd, Nat.reduceLeDiff, Nat.reduceMul, Try.underlying3, Ty.c3, Ty.a3, Try.underlying9, Ty.c9, Ty.a9, Try.underlying95, Ty.c95, Ty.a95, getD_map hx]
              repeat (refine And.intro (by first | omega | (intros; omega) | (intros; simp_all; done) | (intros; simp_all; omega)) ?_)
              refine k _ ?_; clear k K
            -- 38 := load 3 t37
            first
            | refine v_pass 38 2 false rfl (show 38 < 53 by decide) rfl ?_ ?_
              · first | rfl | (simp only [zV, guardV, Nat.reduceEqDiff, reduceIte]; done)
              simp only [zW, set_some, Nat.reduceEqDiff, reduceIte]
            | skip
              -- 38 := load 3 t37
              refine v_op ?_; intro K k
              simp only [zE, zL, zO, zN, aStepM, optable, set_some, Nat.reduceEqDiff, reduceIte, Nat.reduceLT, implies_true, forall_const, reduceCtorEq, V.ofValue, V.ofScalar, V.un, V.gd, guardV, V.wrap, aExec, aop, aLoad, row_mk, Blk.row, PartOK, Go.Vm.part, V.cells, V.noSl, V.noRef, Nat.reduceAdd, Nat.reduceLeDiff, Nat.reduceMul, Try.underlying3, Ty.c3, Ty.a3, getD_map hx]
              repeat (refine And.intro (by first | omega | (intros; omega) | (intros; simp_all; done) | (intros; simp_all; omega)) ?_)
              refine k _ ?_; clear k K
            -- 39 := move t9
            first
            | refine v_pass 39 2 false rfl (show 39 < 53 by decide) rfl ?_ ?_
              · first | rfl | (simp only [zV, guardV, Nat.reduceEqDiff, reduceIte]; done)
              simp only [zW, set_some, Nat.reduceEqDiff, reduceIte]
            | skip
              -- 39 := move t9
              refine v_op ?_; intro K k
              simp only [zE, zG, aStepM, optable, set_some, Nat.reduceEqDiff, reduceIte, Nat.reduceLT, implies_true, forall_const, reduceCtorEq, V.ofValue, V.ofScalar, V.un, V.gd, guardV, V.wrap, aExec, aop, getD_map hx]
              repeat (refine And.intro (by first | omega | (intros; omega) | (intros; simp_all; done) | (intros; simp_all; omega)) ?_)
              refine k _ ?_; clear k K
            -- 40 := binOp Go.BinOp.lss 3 t38 t39 3
            first
            | refine v_pass 40 2 false rfl (show 40 < 53 by decide) rfl ?_ ?_
              · first | rfl | (simp only [zV, guardV, Nat.reduceEqDiff, reduceIte]; done)
              simp only [zW, set_some, Nat.reduceEqDiff, reduceIte]
            | skip
              -- 40 := binOp Go.BinOp.lss 3 t38 t39 3
              refine v_op ?_; intro K k
              simp only [zE, zG, aStepM, optable, set_some, Nat.reduceEqDiff, reduceIte, Nat.reduceLT, implies_true, forall_const, reduceCtorEq, V.ofValue, V.ofScalar, V.un, V.gd, guardV, V.wrap, aExec, aop, aBin, Try.underlying3, getD_map hx]
              repeat (refine And.intro (by first | omega | (intros; omega) | (intros; simp_all; done) | (intros; simp_all; omega)) ?_)
              refine k _ ?_; clear k K
            -- 41 := pick t36 c<true> t40
            refine v_op ?_; intro K k
            simp only [zE, zP, aStepM, optable, set_some, Nat.reduceEqDiff, reduceIte, Nat.reduceLT, implies_true, forall_const, reduceCtorEq, V.ofValue, V.ofScalar, V.un, V.gd, aExec, aop, pickV, getD_map hx]
            repeat (refine And.intro (by first | omega | (intros; omega) | (intros; simp_all; done) | (intros; simp_all; omega)) ?_)
            refine k _ ?_; clear k K
            refine k42 _ ?_
            refine n41 _ _ (weak_keep [1, 7, 8, 9, 11, 20, 21, 22, 41] _) ?_
            simp only [keep_mk, keepE_nil, keepE_cons, look_cons, look_nil, Nat.reduceEqDiff, reduceIte]
            refine v_cond _ rfl ?_ ?_  -- COND 5
            · intro hc5
              try simp only [zC, reduceCtorEq] at hc5
              refine v_seq ?_; intro Q44 n44 e44 r44
              refine v_region ?_; intro K45 k45
              -- 42 := fieldAddr 95 t11 1
              refine v_op ?_; intro K k
              simp only [zE, zL, zN, aStepM, optable, set_some, Nat.reduceEqDiff, reduceIte, Nat.reduceLT, implies_true, forall_const, reduceCtorEq, V.ofValue, V.ofScalar, V.un, V.gd, aExec, aop, aFieldAddr, Nat.reduceAdd, Nat.reduceLeDiff, Nat.reduceMul, Try.underlying3, Ty.c3, Ty.a3, Try.underlying9, Ty.c9, Ty.a9, Try.underlying95, Ty.c95, Ty.a95, getD_map hx]
              repeat (refine And.intro (by first | omega | (intros; omega) | (intros; simp_all; done) | (intros; simp_all; omega)) ?_)
              refine k _ ?_; clear k K
              -- 43 := load 9 t42
              refine v_op ?_; intro K k
              simp only [zE, zL, zO, zN, aStepM, optable, set_some, Nat.reduceEqDiff, reduceIte, Nat.reduceLT, implies_true, forall_const, reduceCtorEq, V.ofValue, V.ofScalar, V.un, V.gd, aExec, aop, aLoad, row_mk, Blk.row, PartOK, Go.Vm.part, V.cells, V.noSl, V.noRef, Nat.reduceAdd, Nat.reduceLeDiff, Nat.reduceMul, Try.underlying9, Ty.c9, Ty.a9, getD_map hx]
              repeat (refine And.intro (by first | omega | (intros; omega) | (intros; simp_all; done) | (intros; simp_all; omega)) ?_)
              refine k _ ?_; clear k K
              -- 7 := assign t43
              refine v_op ?_; intro K k
              simp only [zE, zS, aStepM, optable, set_some, Nat.reduceEqDiff, reduceIte, Nat.reduceLT, implies_true, forall_const, reduceCtorEq, V.ofValue, V.ofScalar, V.un, V.gd, aExec, aop, Nat.reduceAdd, getD_map hx]
              repeat (refine And.intro (by first | omega | (intros; omega) | (intros; simp_all; done) | (intros; simp_all; omega)) ?_)
              refine k _ ?_; clear k K
              refine k45 _ ?_
              refine n44 _ _ (weak_keep [1, 7, 8, 11, 20, 21, 22] _) ?_
              simp only [keep_mk, keepE_nil, keepE_cons, look_cons, look_nil, Nat.reduceEqDiff, reduceIte]
              refine v_region ?_; intro K46 k46
              -- 44 := fieldAddr 95 t11 3
              refine v_op ?_; intro K k
              simp only [zE, zL, zN, aStepM, optable, set_some, Nat.reduceEqDiff, reduceIte, Nat.reduceLT, implies_true, forall_const, reduceCtorEq, V.ofValue, V.ofScalar, V.un, V.gd, aExec, aop, aFieldAddr, Nat.reduceAdd, Nat.reduceLeDiff, Nat.reduceMul, Try.underlying3, Ty.c3, Ty.a3, Try.underlying9, Ty.c9, Ty.a9, Try.underlying95, Ty.c95, Ty.a95, getD_map hx]
              repeat (refine And.intro (by first | omega | (intros; omega) | (intros; simp_all; done) | (intros; simp_all; omega)) ?_)
              refine k _ ?_; clear k K
              -- 45 := load 3 t44
              refine v_op ?_; intro K k
              simp only [zE, zL, zO, zN, aStepM, optable, set_some, Nat.reduceEqDiff, reduceIte, Nat.reduceLT, implies_true, forall_const, reduceCtorEq, V.ofValue, V.ofScalar, V.un, V.gd, aExec, aop, aLoad, row_mk, Blk.row, PartOK, Go.Vm.part, V.cells, V.noSl, V.noRef, Nat.reduceAdd, Nat.reduceLeDiff, Nat.reduceMul, Try.underlying3, Ty.c3, Ty.a3, getD_map hx]
              repeat (refine And.intro (by first | omega | (intros; omega) | (intros; simp_all; done) | (intros; simp_all; omega)) ?_)
              refine k _ ?_; clear k K
              -- 9 := assign t45
              refine v_op ?_; intro K k
              simp only [zE, zS, aStepM, optable, set_some, Nat.reduceEqDiff, reduceIte, Nat.reduceLT, implies_true, forall_const, reduceCtorEq, V.ofValue, V.ofScalar, V.un, V.gd, aExec, aop, Nat.reduceAdd, getD_map hx]
              repeat (refine And.intro (by first | omega | (intros; omega) | (intros; simp_all; done) | (intros; simp_all; omega)) ?_)
              refine k _ ?_; clear k K
              refine k46 _ ?_
              refine n21 _ ?_
              refine n20 _ _ (weak_keep [1, 7, 8, 9, 20, 21, 22] _) ?_
              simp only [keep_mk, keepE_nil, keepE_cons, look_cons, look_nil, Nat.reduceEqDiff, reduceIte]
              refine v_region ?_; intro K47 k47
              -- 46 := binOp Go.BinOp.add 3 t22 c<1:i64> 3
              refine v_op ?_; intro K k
              simp only [zE, aStepM, optable, set_some, Nat.reduceEqDiff, reduceIte, Nat.reduceLT, implies_true, forall_const, reduceCtorEq, V.ofValue, V.ofScalar, V.un, V.gd, aExec, aop, aBin, Try.underlying3, getD_map hx]
              try simp (disch := omega) only [wrap64]
              repeat (refine And.intro (by first | omega | (intros; omega) | (intros; simp_all; done) | (intros; simp_all; omega)) ?_)
              refine k _ ?_; clear k K
              -- 22 := move t46
              refine v_op ?_; intro K k
              simp only [zE, aStepM, optable, set_some, Nat.reduceEqDiff, reduceIte, Nat.reduceLT, implies_true, forall_const, reduceCtorEq, V.ofValue, V.ofScalar, V.un, V.gd, aExec, aop, getD_map hx]
              repeat (refine And.intro (by first | omega | (intros; omega) | (intros; simp_all; done) | (intros; simp_all; omega)) ?_)
              refine k _ ?_; clear k K
              refine k47 _ ?_
              refine n15 _ (i + 1, x1, c, x3) ?_ ?_ ?_
              · refine weak_both [1, 7, 8, 9, 20, 21, 22] [] (by decide) (by simp) ?_ ?_ ?_
                · simp [keep_mk, keepE_nil, keepE_cons, look_cons, V.only, V.onlyL, idx]
                · simp [Blk.kindIs, fillK_mix]
                simp only [keep_mk, keepE_nil, keepE_cons, look_cons, look_nil, Nat.reduceEqDiff, reduceIte, St.comp, List.map_cons, List.map_nil, V.ren, V.renL, idx, List.getD_cons_zero, List.getD_cons_succ, Nat.reduceBEq, cond_true, cond_false, Option.map_some, Option.getD_some, Nat.reduceAdd, Nat.beq_eq_true_eq]
                rfl
              · exact ⟨hlt, by show faI (faOf inc (l.take (i + 1))) x1 c x3; rw [hstep, (hR.resolve_left (fun h => hc3 h.2)).1]; exact .inr ⟨fa_lt hc2 (hc5.resolve_left hc3), hne⟩⟩
              · show _ < _; show l.length - (i + 1) < l.length - i; omega
            · intro hc5
              try simp only [zC, reduceCtorEq] at hc5
              refine v_skip ?_
              refine n21 _ ?_
              refine n20 _ _ (weak_keep [1, 7, 8, 9, 20, 21, 22] _) ?_
              simp only [keep_mk, keepE_nil, keepE_cons, look_cons, look_nil, Nat.reduceEqDiff, reduceIte]
              refine v_region ?_; intro K48 k48
              -- 46 := binOp Go.BinOp.add 3 t22 c<1:i64> 3
              refine v_op ?_; intro K k
              simp only [zE, aStepM, optable, set_some, Nat.reduceEqDiff, reduceIte, Nat.reduceLT, implies_true, forall_const, reduceCtorEq, V.ofValue, V.ofScalar, V.un, V.gd, aExec, aop, aBin, Try.underlying3, getD_map hx]
              try simp (disch := omega) only [wrap64]
              repeat (refine And.intro (by first | omega | (intros; omega) | (intros; simp_all; done) | (intros; simp_all; omega)) ?_)
              refine k _ ?_; clear k K
              -- 22 := move t46
              refine v_op ?_; intro K k
              simp only [zE, aStepM, optable, set_some, Nat.reduceEqDiff, reduceIte, Nat.reduceLT, implies_true, forall_const, reduceCtorEq, V.ofValue, V.ofScalar, V.un, V.gd, aExec, aop, getD_map hx]
              repeat (refine And.intro (by first | omega | (intros; omega) | (intros; simp_all; done) | (intros; simp_all; omega)) ?_)
              refine k _ ?_; clear k K
              refine k48 _ ?_
              refine n15 _ (i + 1, n, c, a) ?_ ?_ ?_
              · refine weak_both [1, 7, 8, 9, 20, 21, 22] [] (by decide) (by simp) ?_ ?_ ?_
                · simp [keep_mk, keepE_nil, keepE_cons, look_cons, V.only, V.onlyL, idx]
                · simp [Blk.kindIs, fillK_mix]
                simp only [keep_mk, keepE_nil, keepE_cons, look_cons, look_nil, Nat.reduceEqDiff, reduceIte, St.comp, List.map_cons, List.map_nil, V.ren, V.renL, idx, List.getD_cons_zero, List.getD_cons_succ, Nat.reduceBEq, cond_true, cond_false, Option.map_some, Option.getD_some, Nat.reduceAdd, Nat.beq_eq_true_eq]
                rfl
              · exact ⟨hlt, by show faI (faOf inc (l.take (i + 1))) n c a; rw [hstep, (hR.resolve_left (fun h => hc3 h.2)).1]; exact .inr ⟨fa_ge hc2 (Int.not_lt.2 hc5.2), hc3⟩⟩
              · show _ < _; show l.length - (i + 1) < l.length - i; omega
      · intro hc1
        try simp only [zC, reduceCtorEq] at hc1
        refine v_exit ?_
        refine e18 _ _ ?_
        refine e15 _ _ ?_
        refine x14 _ ?_
        refine n11 _ _ (weak_keep [7, 8, 9] _) ?_
        simp only [keep_mk, keepE_nil, keepE_cons, look_cons, look_nil, Nat.reduceEqDiff, reduceIte]
        refine v_seq ?_; intro Q49 n49 e49 r49
        refine v_seq ?_; intro Q50 n50 e50 r50
        refine v_region ?_; intro K51 k51
        -- 47 := move t7
        refine v_op ?_; intro K k
        simp only [zE, aStepM, optable, set_some, Nat.reduceEqDiff, reduceIte, Nat.reduceLT, implies_true, forall_const, reduceCtorEq, V.ofValue, V.ofScalar, V.un, V.gd, aExec, aop]
        repeat (refine And.intro (by first | omega | (intros; omega) | (intros; simp_all; done) | (intros; simp_all; omega)) ?_)
        refine k _ ?_; clear k K
        -- 48 := binOp Go.BinOp.eql 9 t47 c<str> 9
        refine v_op ?_; intro K k
        simp only [zE, aStepM, optable, set_some, Nat.reduceEqDiff, reduceIte, Nat.reduceLT, implies_true, forall_const, reduceCtorEq, V.ofValue, V.ofScalar, V.un, V.gd, aExec, aop, aBin, Try.underlying9]
        repeat (refine And.intro (by first | omega | (intros; omega) | (intros; simp_all; done) | (intros; simp_all; omega)) ?_)
        refine k _ ?_; clear k K
        refine k51 _ ?_
        refine n50 _ _ (weak_keep [7, 8, 9, 48] _) ?_
        simp only [keep_mk, keepE_nil, keepE_cons, look_cons, look_nil, Nat.reduceEqDiff, reduceIte]
        refine v_cond _ rfl ?_ ?_  -- COND 6
        · intro hc6
          try simp only [zC, reduceCtorEq] at hc6
          refine v_seq ?_; intro Q53 n53 e53 r53
          refine v_region ?_; intro K54 k54
          -- 4 := assign c<str>
          refine v_op ?_; intro K k
          simp only [zE, zS, aStepM, optable, set_some, Nat.reduceEqDiff, reduceIte, Nat.reduceLT, implies_true, forall_const, reduceCtorEq, V.ofValue, V.ofScalar, V.un, V.gd, aExec, aop, Nat.reduceAdd]
          repeat (refine And.intro (by first | omega | (intros; omega) | (intros; simp_all; done) | (intros; simp_all; omega)) ?_)
          refine k _ ?_; clear k K
          -- 5 := assign c<0:i64>
          refine v_op ?_; intro K k
          simp only [zE, zS, aStepM, optable, set_some, Nat.reduceEqDiff, reduceIte, Nat.reduceLT, implies_true, forall_const, reduceCtorEq, V.ofValue, V.ofScalar, V.un, V.gd, aExec, aop, Nat.reduceAdd]
          repeat (refine And.intro (by first | omega | (intros; omega) | (intros; simp_all; done) | (intros; simp_all; omega)) ?_)
          refine k _ ?_; clear k K
          -- 6 := assign c<false>
          refine v_op ?_; intro K k
          simp only [zE, zS, aStepM, optable, set_some, Nat.reduceEqDiff, reduceIte, Nat.reduceLT, implies_true, forall_const, reduceCtorEq, V.ofValue, V.ofScalar, V.un, V.gd, aExec, aop, Nat.reduceAdd]
          repeat (refine And.intro (by first | omega | (intros; omega) | (intros; simp_all; done) | (intros; simp_all; omega)) ?_)
          refine k _ ?_; clear k K
          refine k54 _ ?_
          refine n53 _ _ (weak_keep [4, 5, 6] _) ?_
          simp only [keep_mk, keepE_nil, keepE_cons, look_cons, look_nil, Nat.reduceEqDiff, reduceIte]
          refine v_ret ?_
          refine r49 _ ?_
          refine r0 _ ?_
          simp only [resK, pickRV, get_mk, look_cons, look_nil, Nat.reduceEqDiff, reduceIte, List.map_cons, List.map_nil]
          have hfull : l.take i = l := List.take_of_length_le (by omega)
          rw [hfull] at hR
          have hF : faOf inc l = none := (hR.resolve_right (fun h => h.2 hc6)).1
          rw [hfr, hF]
          exact ret_pure rfl rfl (.inl rfl)
        · intro hc6
          try simp only [zC, reduceCtorEq] at hc6
          refine v_skip ?_
          refine n49 _ _ (weak_keep [7, 8, 9] _) ?_
          simp only [keep_mk, keepE_nil, keepE_cons, look_cons, look_nil, Nat.reduceEqDiff, reduceIte]
          refine v_seq ?_; intro Q55 n55 e55 r55
          refine v_region ?_; intro K56 k56
          -- 49 := move t7
          refine v_op ?_; intro K k
          simp only [zE, aStepM, optable, set_some, Nat.reduceEqDiff, reduceIte, Nat.reduceLT, implies_true, forall_const, reduceCtorEq, V.ofValue, V.ofScalar, V.un, V.gd, aExec, aop]
          repeat (refine And.intro (by first | omega | (intros; omega) | (intros; simp_all; done) | (intros; simp_all; omega)) ?_)
          refine k _ ?_; clear k K
          -- 50 := move t9
          refine v_op ?_; intro K k
          simp only [zE, aStepM, optable, set_some, Nat.reduceEqDiff, reduceIte, Nat.reduceLT, implies_true, forall_const, reduceCtorEq, V.ofValue, V.ofScalar, V.un, V.gd, aExec, aop]
          repeat (refine And.intro (by first | omega | (intros; omega) | (intros; simp_all; done) | (intros; simp_all; omega)) ?_)
          refine k _ ?_; clear k K
          -- 51 := move t8
          refine v_op ?_; intro K k
          simp only [zE, aStepM, optable, set_some, Nat.reduceEqDiff, reduceIte, Nat.reduceLT, implies_true, forall_const, reduceCtorEq, V.ofValue, V.ofScalar, V.un, V.gd, aExec, aop]
          repeat (refine And.intro (by first | omega | (intros; omega) | (intros; simp_all; done) | (intros; simp_all; omega)) ?_)
          refine k _ ?_; clear k K
          -- 52 := binOp Go.BinOp.sub 3 t50 t51 3
          refine v_op ?_; intro K k
          simp only [zE, aStepM, optable, set_some, Nat.reduceEqDiff, reduceIte, Nat.reduceLT, implies_true, forall_const, reduceCtorEq, V.ofValue, V.ofScalar, V.un, V.gd, aExec, aop, aBin, Try.underlying3]
          try simp (disch := omega) only [wrap64]
          repeat (refine And.intro (by first | omega | (intros; omega) | (intros; simp_all; done) | (intros; simp_all; omega)) ?_)
          refine k _ ?_; clear k K
          -- 4 := assign t49
          refine v_op ?_; intro K k
          simp only [zE, zS, aStepM, optable, set_some, Nat.reduceEqDiff, reduceIte, Nat.reduceLT, implies_true, forall_const, reduceCtorEq, V.ofValue, V.ofScalar, V.un, V.gd, aExec, aop, Nat.reduceAdd]
          repeat (refine And.intro (by first | omega | (intros; omega) | (intros; simp_all; done) | (intros; simp_all; omega)) ?_)
          refine k _ ?_; clear k K
          -- 5 := assign t52
          refine v_op ?_; intro K k
          simp only [zE, zS, aStepM, optable, set_some, Nat.reduceEqDiff, reduceIte, Nat.reduceLT, implies_true, forall_const, reduceCtorEq, V.ofValue, V.ofScalar, V.un, V.gd, aExec, aop, Nat.reduceAdd]
          repeat (refine And.intro (by first | omega | (intros; omega) | (intros; simp_all; done) | (intros; simp_all; omega)) ?_)
          refine k _ ?_; clear k K
          -- 6 := assign c<true>
          refine v_op ?_; intro K k
          simp only [zE, zS, aStepM, optable, set_some, Nat.reduceEqDiff, reduceIte, Nat.reduceLT, implies_true, forall_const, reduceCtorEq, V.ofValue, V.ofScalar, V.un, V.gd, aExec, aop, Nat.reduceAdd]
          repeat (refine And.intro (by first | omega | (intros; omega) | (intros; simp_all; done) | (intros; simp_all; omega)) ?_)
          refine k _ ?_; clear k K
          refine k56 _ ?_
          refine n55 _ _ (weak_keep [4, 5, 6] _) ?_
          simp only [keep_mk, keepE_nil, keepE_cons, look_cons, look_nil, Nat.reduceEqDiff, reduceIte]
          refine v_ret ?_
          refine r0 _ ?_
          simp only [resK, pickRV, get_mk, look_cons, look_nil, Nat.reduceEqDiff, reduceIte, List.map_cons, List.map_nil]
          have hfull : l.take i = l := List.take_of_length_le (by omega)
          rw [hfull] at hR
          have hF : faOf inc l = some (n, c, a) := (hR.resolve_left (fun h => hc6 h.2)).1
          rw [hfr, hF]
          exact ret_pure rfl rfl (.inl rfl)
-- loop.example/g01020/impl.FirstArrival
set_option maxHeartbeats 1000000 in
theorem implFirstArrival_con (l : List (Int × ByteArray × Int × Int)) (inc : Int) (hl : l.length ≤ 1048576) (hls : ∀ t ∈ l, t.2.1.size ≤ 9223372036854775807) : Con Try.prog 29 [.sl (l.map (fun t : Int × ByteArray × Int × Int => V.agg [V.int .i64 t.1, V.str t.2.1, V.int .i64 t.2.2.1, V.int .i64 t.2.2.2])), .int .i64 inc] [] (.tup [.str (faN (faR l inc)), .int .i64 (faT (faR l inc)), .bool (faR l inc).isSome]) [] := by
  refine v_con [.tmp 4, .tmp 5, .tmp 6] [] Try.func29 rfl rfl rfl (by simp [Try.ntmps29]) ?_
  intro Q0 n0 r0
  simp only [Try.ntmps29, envFrom, Nat.reduceAdd]
  refine v_seq ?_; intro Q1 n1 e1 r1
  refine v_region ?_; intro K2 k2
  -- 4 := assign c<str>
  refine v_op ?_; intro K k
  simp only [zE, zS, aStepM, optable, set_some, Nat.reduceEqDiff, reduceIte, Nat.reduceLT, implies_true, forall_const, reduceCtorEq, V.ofValue, V.ofScalar, V.un, V.gd, aExec, aop, Nat.reduceAdd]
  repeat (refine And.intro (by first | omega | (intros; omega) | (intros; simp_all; done) | (intros; simp_all; omega)) ?_)
  refine k _ ?_; clear k K
  -- 5 := assign c<0:i64>
  refine v_op ?_; intro K k
  simp only [zE, zS, aStepM, optable, set_some, Nat.reduceEqDiff, reduceIte, Nat.reduceLT, implies_true, forall_const, reduceCtorEq, V.ofValue, V.ofScalar, V.un, V.gd, aExec, aop, Nat.reduceAdd]
  repeat (refine And.intro (by first | omega | (intros; omega) | (intros; simp_all; done) | (intros; simp_all; omega)) ?_)
  refine k _ ?_; clear k K
  -- 6 := assign c<false>
  refine v_op ?_; intro K k
  simp only [zE, zS, aStepM, optable, set_some, Nat.reduceEqDiff, reduceIte, Nat.reduceLT, implies_true, forall_const, reduceCtorEq, V.ofValue, V.ofScalar, V.un, V.gd, aExec, aop, Nat.reduceAdd]
  repeat (refine And.intro (by first | omega | (intros; omega) | (intros; simp_all; done) | (intros; simp_all; omega)) ?_)
  refine k _ ?_; clear k K
  refine k2 _ ?_
  refine n1 _ _ (weak_keep [0, 1] _) ?_
  simp only [keep_mk, keepE_nil, keepE_cons, look_cons, look_nil, Nat.reduceEqDiff, reduceIte]
  refine v_seq ?_; intro Q3 n3 e3 r3
  refine v_seq ?_; intro Q4 n4 e4 r4
  refine v_region ?_; intro K5 k5
  -- 11 := move t0
  refine v_op ?_; intro K k
  simp only [zE, aStepM, optable, set_some, Nat.reduceEqDiff, reduceIte, Nat.reduceLT, implies_true, forall_const, reduceCtorEq, V.ofValue, V.ofScalar, V.un, V.gd, aExec, aop]
  repeat (refine And.intro (by first | omega | (intros; omega) | (intros; simp_all; done) | (intros; simp_all; omega)) ?_)
  refine k _ ?_; clear k K
  -- 12 := call v f73 t11 | 26
  refine v_op ?_; intro K k
  simp only [zE, zM, aStepM, optable, set_some, Nat.reduceEqDiff, reduceIte, Nat.reduceLT, implies_true, forall_const, reduceCtorEq, V.ofValue, V.ofScalar, V.un, V.gd, aExec, lentIds, lendOf, Try.underlying4, Ty.c4, Ty.a4, Ty.b4, Ty.s4, Try.underlying26, Ty.c26, Ty.a26, Ty.b26, Ty.s26, Try.underlying95, Ty.c95, Ty.a95, Ty.b95, Ty.s95]
  repeat (refine And.intro (by first | rfl | (intros; simp_all; done)) ?_)
  refine aCall_new (areTurnouts_con l hl hls) (by first | rfl | simp only [toArgs, toArg, toCell, toCells, idx, row_mk, List.getElem?_cons_zero, List.getElem?_cons_succ, Option.bind_some, Option.map_some, Blk.row, fillK_mix, cond_true]) (by first | exact .inl ⟨rfl, by simp [Blk.kindIs, fillK_fd]⟩ | exact .inr (by simp [V.cold])) ?_
  refine k _ ?_; clear k K
  simp only [zY, zW, set_some, Nat.reduceEqDiff, reduceIte, V.ren, V.renL, rho, Nat.reduceAdd]
  -- 13 := unOp Go.UnOp.not 4 t12
  refine v_op ?_; intro K k
  simp only [zE, aStepM, optable, set_some, Nat.reduceEqDiff, reduceIte, Nat.reduceLT, implies_true, forall_const, reduceCtorEq, V.ofValue, V.ofScalar, V.un, V.gd, aExec, aop, aUn, Try.underlying4]
  repeat (refine And.intro (by first | omega | (intros; omega) | (intros; simp_all; done) | (intros; simp_all; omega)) ?_)
  refine k _ ?_; clear k K
  -- 14 := move t13
  refine v_op ?_; intro K k
  simp only [zE, aStepM, optable, set_some, Nat.reduceEqDiff, reduceIte, Nat.reduceLT, implies_true, forall_const, reduceCtorEq, V.ofValue, V.ofScalar, V.un, V.gd, aExec, aop]
  repeat (refine And.intro (by first | omega | (intros; omega) | (intros; simp_all; done) | (intros; simp_all; omega)) ?_)
  refine k _ ?_; clear k K
  -- 15 := move t1
  first
  | refine v_pass 15 3 false rfl (show 15 < 59 by decide) rfl ?_ ?_
    · first | rfl | (simp only [zV, guardV, Nat.reduceEqDiff, reduceIte]; done)
    simp only [zW, set_some, Nat.reduceEqDiff, reduceIte]
  | skip
    -- 15 := move t1
    refine v_op ?_; intro K k
    simp only [zE, zG, aStepM, optable, set_some, Nat.reduceEqDiff, reduceIte, Nat.reduceLT, implies_true, forall_const, reduceCtorEq, V.ofValue, V.ofScalar, V.un, V.gd, guardV, V.wrap, aExec, aop]
    repeat (refine And.intro (by first | omega | (intros; omega) | (intros; simp_all; done) | (intros; simp_all; omega)) ?_)
    refine k _ ?_; clear k K
  -- 16 := call v f88 t15 c<1:i64> c<999:i64> | 3 3 3
  first
  | refine v_pass 16 3 false rfl (show 16 < 59 by decide) rfl ?_ ?_
    · first | rfl | (simp only [zV, guardV, Nat.reduceEqDiff, reduceIte]; done)
    simp only [zW, set_some, Nat.reduceEqDiff, reduceIte]
  | skip
    -- 16 := call v f88 t15 c<1:i64> c<999:i64> | 3 3 3
    refine v_op ?_; intro K k
    simp only [zE, zG, aStepM, optable, set_some, Nat.reduceEqDiff, reduceIte, Nat.reduceLT, implies_true, forall_const, reduceCtorEq, V.ofValue, V.ofScalar, V.un, V.gd, guardV, Try.underlying3, Ty.c3, Ty.a3, Ty.b3, Ty.s3, Try.underlying4, Ty.c4, Ty.a4, Ty.b4, Ty.s4]
    simp only [zM, zW, aExec, lentIds, lendOf, set_some, Nat.reduceEqDiff, reduceIte, V.ofValue, V.ofScalar, V.un, V.gd, and_true, true_and, implies_true, and_self, decide_eq_true_eq]
    first | refine Exists.imp (fun r h => h) (aCall_guardT (inside_con _ _ _) rfl rfl rfl ?_) | refine Exists.imp (fun r h => h) (aCall_guard (by first | (intros; trivial) | (intros; simp_all; done)) (fun hg => inside_con _ _ _) rfl rfl rfl ?_)
    refine k _ ?_
    clear k K
  -- 17 := unOp Go.UnOp.not 4 t16
  first
  | refine v_pass 17 3 false rfl (show 17 < 59 by decide) rfl ?_ ?_
    · first | rfl | (simp only [zV, guardV, Nat.reduceEqDiff, reduceIte]; done)
    simp only [zW, set_some, Nat.reduceEqDiff, reduceIte]
  | skip
    -- 17 := unOp Go.UnOp.not 4 t16
    refine v_op ?_; intro K k
    simp only [zE, zG, aStepM, optable, set_some, Nat.reduceEqDiff, reduceIte, Nat.reduceLT, implies_true, forall_const, reduceCtorEq, V.ofValue, V.ofScalar, V.un, V.gd, guardV, V.wrap, aExec, aop, aUn, Try.underlying4]
    repeat (refine And.intro (by first | omega | (intros; omega) | (intros; simp_all; done) | (intros; simp_all; omega)) ?_)
    refine k _ ?_; clear k K
  -- 18 := pick t14 c<true> t17
  refine v_op ?_; intro K k
  simp only [zE, zP, aStepM, optable, set_some, Nat.reduceEqDiff, reduceIte, Nat.reduceLT, implies_true, forall_const, reduceCtorEq, V.ofValue, V.ofScalar, V.un, V.gd, aExec, aop, pickV]
  repeat (refine And.intro (by first | omega | (intros; omega) | (intros; simp_all; done) | (intros; simp_all; omega)) ?_)
  refine k _ ?_; clear k K
  refine k5 _ ?_
  refine n4 _ _ (weak_keep [0, 1, 18] _) ?_
  simp only [keep_mk, keepE_nil, keepE_cons, look_cons, look_nil, Nat.reduceEqDiff, reduceIte]
  refine v_cond _ rfl ?_ ?_  -- COND 0
  · intro hc0
    try simp only [zC, reduceCtorEq] at hc0
    refine v_seq ?_; intro Q7 n7 e7 r7
    refine v_region ?_; intro K8 k8
    -- 4 := assign c<str>
    refine v_op ?_; intro K k
    simp only [zE, zS, aStepM, optable, set_some, Nat.reduceEqDiff, reduceIte, Nat.reduceLT, implies_true, forall_const, reduceCtorEq, V.ofValue, V.ofScalar, V.un, V.gd, aExec, aop, Nat.reduceAdd]
    repeat (refine And.intro (by first | omega | (intros; omega) | (intros; simp_all; done) | (intros; simp_all; omega)) ?_)
    refine k _ ?_; clear k K
    -- 5 := assign c<0:i64>
    refine v_op ?_; intro K k
    simp only [zE, zS, aStepM, optable, set_some, Nat.reduceEqDiff, reduceIte, Nat.reduceLT, implies_true, forall_const, reduceCtorEq, V.ofValue, V.ofScalar, V.un, V.gd, aExec, aop, Nat.reduceAdd]
    repeat (refine And.intro (by first | omega | (intros; omega) | (intros; simp_all; done) | (intros; simp_all; omega)) ?_)
    refine k _ ?_; clear k K
    -- 6 := assign c<false>
    refine v_op ?_; intro K k
    simp only [zE, zS, aStepM, optable, set_some, Nat.reduceEqDiff, reduceIte, Nat.reduceLT, implies_true, forall_const, reduceCtorEq, V.ofValue, V.ofScalar, V.un, V.gd, aExec, aop, Nat.reduceAdd]
    repeat (refine And.intro (by first | omega | (intros; omega) | (intros; simp_all; done) | (intros; simp_all; omega)) ?_)
    refine k _ ?_; clear k K
    refine k8 _ ?_
    refine n7 _ _ (weak_keep [4, 5, 6] _) ?_
    simp only [keep_mk, keepE_nil, keepE_cons, look_cons, look_nil, Nat.reduceEqDiff, reduceIte]
    refine v_ret ?_
    refine r3 _ ?_
    refine r0 _ ?_
    simp only [resK, pickRV, get_mk, look_cons, look_nil, Nat.reduceEqDiff, reduceIte, List.map_cons, List.map_nil]
    have hg : (turnsB l && (decide (1 ≤ inc) && decide (inc ≤ 999))) = false := by
      cases hq : (turnsB l && (decide (1 ≤ inc) && decide (inc ≤ 999))) with
      | false => rfl
      | true =>
        exfalso
        simp only [Bool.and_eq_true, decide_eq_true_eq] at hq
        rcases hc0 with h | h
        · rw [hq.1] at h; cases h
        · have := h hq.2.1; omega
    have hfr : faR l inc = none := by rw [faR, hg]; rfl
    rw [hfr]
    exact ret_pure rfl rfl (.inl rfl)
  · intro hc0
    try simp only [zC, reduceCtorEq] at hc0
    have hg : (turnsB l && (decide (1 ≤ inc) && decide (inc ≤ 999))) = true := by rw [hc0.1, decide_eq_true hc0.2.1, decide_eq_true hc0.2.2]; rfl
    have hfr : faR l inc = faOf inc l := by rw [faR, hg]; rfl
    have hturn := hc0.1
    refine v_skip ?_
    refine n3 _ _ (weak_keep [0, 1] _) ?_
    simp only [keep_mk, keepE_nil, keepE_cons, look_cons, look_nil, Nat.reduceEqDiff, reduceIte]
    refine v_seq ?_; intro Q9 n9 e9 r9
    refine v_region ?_; intro K10 k10
    -- 7 := assign c<-1:i64>
    refine v_op ?_; intro K k
    simp only [zE, zS, aStepM, optable, set_some, Nat.reduceEqDiff, reduceIte, Nat.reduceLT, implies_true, forall_const, reduceCtorEq, V.ofValue, V.ofScalar, V.un, V.gd, aExec, aop, Nat.reduceAdd]
    repeat (refine And.intro (by first | omega | (intros; omega) | (intros; simp_all; done) | (intros; simp_all; omega)) ?_)
    refine k _ ?_; clear k K
    -- 8 := assign c<0:i64>
    refine v_op ?_; intro K k
    simp only [zE, zS, aStepM, optable, set_some, Nat.reduceEqDiff, reduceIte, Nat.reduceLT, implies_true, forall_const, reduceCtorEq, V.ofValue, V.ofScalar, V.un, V.gd, aExec, aop, Nat.reduceAdd]
    repeat (refine And.intro (by first | omega | (intros; omega) | (intros; simp_all; done) | (intros; simp_all; omega)) ?_)
    refine k _ ?_; clear k K
    refine k10 _ ?_
    refine n9 _ _ (weak_keep [0, 1, 7, 8] _) ?_
    simp only [keep_mk, keepE_nil, keepE_cons, look_cons, look_nil, Nat.reduceEqDiff, reduceIte]
    refine v_seq ?_; intro Q11 n11 e11 r11
    refine v_seq ?_; intro Q12 n12 e12 r12
    refine v_region ?_; intro K13 k13
    -- 19 := move t0
    refine v_op ?_; intro K k
    simp only [zE, aStepM, optable, set_some, Nat.reduceEqDiff, reduceIte, Nat.reduceLT, implies_true, forall_const, reduceCtorEq, V.ofValue, V.ofScalar, V.un, V.gd, aExec, aop]
    repeat (refine And.intro (by first | omega | (intros; omega) | (intros; simp_all; done) | (intros; simp_all; omega)) ?_)
    refine k _ ?_; clear k K
    -- 20 := call b Go.Builtin.len t19 | 26
    refine v_op ?_; intro K k
    simp only [zE, zL, zN, aStepM, optable, set_some, Nat.reduceEqDiff, reduceIte, Nat.reduceLT, implies_true, forall_const, reduceCtorEq, V.ofValue, V.ofScalar, V.un, V.gd, aExec, aop, List.length_map, aLen, lenOK, row_mk, Blk.row, List.size_toArray, List.getD_eq_getElem?_getD, Array.getD_eq_getD_getElem?, Option.getD_some, Nat.reduceAdd, Nat.reduceLeDiff, Nat.reduceMul, Try.underlying3, Ty.c3, Ty.a3, Ty.b3, Ty.s3, Try.underlying26, Ty.c26, Ty.a26, Ty.b26, Ty.s26, Try.underlying95, Ty.c95, Ty.a95, Ty.b95, Ty.s95]
    repeat (refine And.intro (by first | omega | (intros; omega) | (intros; simp_all; done) | (intros; simp_all; omega)) ?_)
    refine k _ ?_; clear k K
    -- 21 := move c<0:i64>
    refine v_op ?_; intro K k
    simp only [zE, aStepM, optable, set_some, Nat.reduceEqDiff, reduceIte, Nat.reduceLT, implies_true, forall_const, reduceCtorEq, V.ofValue, V.ofScalar, V.un, V.gd, aExec, aop]
    repeat (refine And.intro (by first | omega | (intros; omega) | (intros; simp_all; done) | (intros; simp_all; omega)) ?_)
    refine k _ ?_; clear k K
    refine k13 _ ?_
    refine n12 _ _ (weak_keep [0, 1, 7, 8, 19, 20, 21] _) ?_
    simp only [keep_mk, keepE_nil, keepE_cons, look_cons, look_nil, Nat.reduceEqDiff, reduceIte]
    refine v_block ?_; intro Q14 n14 x14 e14 r14
    refine v_loop (fun p => ⟨[(0, .sl (l.map (fun t : Int × ByteArray × Int × Int => V.agg [V.int .i64 t.1, V.str t.2.1, V.int .i64 t.2.2.1, V.int .i64 t.2.2.2]))), (1, .int .i64 inc), (7, .int .i64 p.2.1), (8, .int .i64 p.2.2), (19, .sl (l.map (fun t : Int × ByteArray × Int × Int => V.agg [V.int .i64 t.1, V.str t.2.1, V.int .i64 t.2.2.1, V.int .i64 t.2.2.2]))), (20, .int .i64 l.length), (21, .int .i64 (Nat.cast p.1))], [], false, 59, 0⟩) (fun p => p.1 ≤ l.length ∧ faK l (faOf inc (l.take p.1)) p.2.1 p.2.2) (fun p => l.length - p.1) ((0, -1, 0) : Nat × Int × Int) ?_ ?_ ?_
    · refine weak_of [0, 1, 7, 8, 19, 20, 21] ?_
      simp only [keep_mk, keepE_nil, keepE_cons, look_cons, look_nil, Nat.reduceEqDiff, reduceIte]
      rfl
    · exact ⟨Nat.zero_le _, .inl ⟨rfl, rfl⟩⟩
    · rintro ⟨i, b, c⟩ hok15 Q15 n15 e15 r15
      obtain ⟨hi1, hR⟩ := hok15
      simp only [] at hi1 hR ⊢
      refine v_seq ?_; intro Q16 n16 e16 r16
      refine v_region ?_; intro K17 k17
      -- 22 := binOp Go.BinOp.lss 3 t21 t20 3
      refine v_op ?_; intro K k
      simp only [zE, aStepM, optable, set_some, Nat.reduceEqDiff, reduceIte, Nat.reduceLT, implies_true, forall_const, reduceCtorEq, V.ofValue, V.ofScalar, V.un, V.gd, aExec, aop, aBin, Try.underlying3]
      repeat (refine And.intro (by first | omega | (intros; omega) | (intros; simp_all; done) | (intros; simp_all; omega)) ?_)
      refine k _ ?_; clear k K
      refine k17 _ ?_
      refine n16 _ _ (weak_keep [0, 1, 7, 8, 19, 20, 21, 22] _) ?_
      simp only [keep_mk, keepE_nil, keepE_cons, look_cons, look_nil, Nat.reduceEqDiff, reduceIte]
      refine v_seq ?_; intro Q18 n18 e18 r18
      refine v_cond _ rfl ?_ ?_  -- COND 1
      · intro hc1
        try simp only [zC, reduceCtorEq] at hc1
        have hlt : i < l.length := by omega
        obtain ⟨⟨x0, x1, x2, x3⟩, hx⟩ : ∃ x : Int × ByteArray × Int × Int, l[i]? = some x := ⟨l[i]'(by omega), List.getElem?_eq_getElem (by omega)⟩
        have hstep := fa_step (inc := inc) hx
        have hne : ¬ x1 = .empty := turn_name hturn (List.mem_of_getElem? hx)
        refine v_skip ?_
        refine n18 _ _ (weak_keep [0, 1, 7, 8, 19, 20, 21] _) ?_
        simp only [keep_mk, keepE_nil, keepE_cons, look_cons, look_nil, Nat.reduceEqDiff, reduceIte]
        refine v_seq ?_; intro Q20 n20 e20 r20
        refine v_block ?_; intro Q21 n21 x21 e21 r21
        refine v_seq ?_; intro Q22 n22 e22 r22
        refine v_region ?_; intro K23 k23
        -- 23 := move t21
        refine v_op ?_; intro K k
        simp only [zE, aStepM, optable, set_some, Nat.reduceEqDiff, reduceIte, Nat.reduceLT, implies_true, forall_const, reduceCtorEq, V.ofValue, V.ofScalar, V.un, V.gd, aExec, aop, getD_map hx]
        repeat (refine And.intro (by first | omega | (intros; omega) | (intros; simp_all; done) | (intros; simp_all; omega)) ?_)
        refine k _ ?_; clear k K
        -- 24 := indexAddr 26 t19 t21
        refine v_op ?_; intro K k
        simp only [zE, zL, zN, aStepM, optable, set_some, Nat.reduceEqDiff, reduceIte, Nat.reduceLT, implies_true, forall_const, reduceCtorEq, V.ofValue, V.ofScalar, V.un, V.gd, aExec, aop, aIndexAddr, row_mk, Blk.row, Go.Vm.V.cells, List.forall_mem_map, List.length_map, Int.toNat_natCast, Int.reduceToNat, TypeDesc.slice.injEq, Nat.reduceAdd, Nat.reduceLeDiff, Nat.reduceMul, Try.underlying26, Ty.c26, Ty.a26, Try.underlying95, Ty.c95, Ty.a95, getD_map hx]
        repeat (refine And.intro (by first | omega | (intros; omega) | (intros; simp_all; done) | (intros; simp_all; omega)) ?_)
        refine k _ ?_; clear k K
        -- 25 := load 95 t24
        refine v_op ?_; intro K k
        simp only [zE, zL, zO, zN, aStepM, optable, set_some, Nat.reduceEqDiff, reduceIte, Nat.reduceLT, implies_true, forall_const, reduceCtorEq, V.ofValue, V.ofScalar, V.un, V.gd, aExec, aop, aLoad, row_mk, Blk.row, PartOK, Go.Vm.part, V.cells, V.noSl, V.noRef, Nat.reduceAdd, Nat.reduceLeDiff, Nat.reduceMul, Try.underlying3, Ty.c3, Ty.a3, Try.underlying9, Ty.c9, Ty.a9, Try.underlying95, Ty.c95, Ty.a95, getD_map hx]
        repeat (refine And.intro (by first | omega | (intros; omega) | (intros; simp_all; done) | (intros; simp_all; omega)) ?_)
        refine k _ ?_; clear k K
        -- 10 := alloc 95
        refine v_op ?_; intro K k
        simp only [zE, zS, zO, zN, aStepM, optable, set_some, Nat.reduceEqDiff, reduceIte, Nat.reduceLT, implies_true, forall_const, reduceCtorEq, V.ofValue, V.ofScalar, V.un, V.gd, aExec, aop, Nat.reduceAdd, Value.oneCell', V.isVal, V.cells, kindOf, kindAll, V.noSl, V.noRef, List.all_cons, List.all_nil, List.map_cons, List.map_nil, gt_iff_lt, Nat.reduceLeDiff, Nat.reduceMul, Try.underlying3, Ty.c3, Ty.a3, Ty.z3, Try.underlying9, Ty.c9, Ty.a9, Ty.z9, Try.underlying95, Ty.c95, Ty.a95, Ty.z95, getD_map hx]
        repeat (refine And.intro (by first | omega | (intros; omega) | (intros; simp_all; done) | (intros; simp_all; omega)) ?_)
        refine k _ ?_; clear k K
        -- 9 := assign t23
        refine v_op ?_; intro K k
        simp only [zE, zS, aStepM, optable, set_some, Nat.reduceEqDiff, reduceIte, Nat.reduceLT, implies_true, forall_const, reduceCtorEq, V.ofValue, V.ofScalar, V.un, V.gd, aExec, aop, Nat.reduceAdd, getD_map hx]
        repeat (refine And.intro (by first | omega | (intros; omega) | (intros; simp_all; done) | (intros; simp_all; omega)) ?_)
        refine k _ ?_; clear k K
        -- None := store 95 t10 t25
        refine v_op ?_; intro K k
        simp only [zE, zS, zJ, zL, zO, zN, aStepM, optable, set_some, Nat.reduceEqDiff, reduceIte, Nat.reduceLT, implies_true, forall_const, reduceCtorEq, V.ofValue, V.ofScalar, V.un, V.gd, aExec, aop, aStore, setCells, V.isVal, V.cells, kindOf, kindAll, V.noSl, V.noRef, gt_iff_lt, Nat.reduceAdd, Nat.reduceLeDiff, Nat.reduceMul, takeV, takeCell, takeCells, row_mk, Blk.row, killAll, Nat.reduceBEq, Try.underlying3, Ty.c3, Ty.a3, Try.underlying9, Ty.c9, Ty.a9, Try.underlying95, Ty.c95, Ty.a95, getD_map hx]
        repeat (refine And.intro (by first | omega | (intros; omega) | (intros; simp_all; done) | (intros; simp_all; omega)) ?_)
        refine k _ ?_; clear k K
        refine k23 _ ?_
        refine n22 _ _ (weak_keep [0, 1, 7, 8, 9, 10, 19, 20, 21] _) ?_
        simp only [keep_mk, keepE_nil, keepE_cons, look_cons, look_nil, Nat.reduceEqDiff, reduceIte]
        refine v_seq ?_; intro Q24 n24 e24 r24
        refine v_seq ?_; intro Q25 n25 e25 r25
        refine v_region ?_; intro K26 k26
        -- 26 := fieldAddr 95 t10 0
        refine v_op ?_; intro K k
        simp only [zE, zL, zN, aStepM, optable, set_some, Nat.reduceEqDiff, reduceIte, Nat.reduceLT, implies_true, forall_const, reduceCtorEq, V.ofValue, V.ofScalar, V.un, V.gd, aExec, aop, aFieldAddr, Nat.reduceAdd, Nat.reduceLeDiff, Nat.reduceMul, Try.underlying3, Ty.c3, Ty.a3, Try.underlying9, Ty.c9, Ty.a9, Try.underlying95, Ty.c95, Ty.a95, getD_map hx]
        repeat (refine And.intro (by first | omega | (intros; omega) | (intros; simp_all; done) | (intros; simp_all; omega)) ?_)
        refine k _ ?_; clear k K
        -- 27 := load 3 t26
        refine v_op ?_; intro K k
        simp only [zE, zL, zO, zN, aStepM, optable, set_some, Nat.reduceEqDiff, reduceIte, Nat.reduceLT, implies_true, forall_const, reduceCtorEq, V.ofValue, V.ofScalar, V.un, V.gd, aExec, aop, aLoad, row_mk, Blk.row, PartOK, Go.Vm.part, V.cells, V.noSl, V.noRef, Nat.reduceAdd, Nat.reduceLeDiff, Nat.reduceMul, Try.underlying3, Ty.c3, Ty.a3, getD_map hx]
        repeat (refine And.intro (by first | omega | (intros; omega) | (intros; simp_all; done) | (intros; simp_all; omega)) ?_)
        refine k _ ?_; clear k K
        -- 28 := move t1
        refine v_op ?_; intro K k
        simp only [zE, aStepM, optable, set_some, Nat.reduceEqDiff, reduceIte, Nat.reduceLT, implies_true, forall_const, reduceCtorEq, V.ofValue, V.ofScalar, V.un, V.gd, aExec, aop, getD_map hx]
        repeat (refine And.intro (by first | omega | (intros; omega) | (intros; simp_all; done) | (intros; simp_all; omega)) ?_)
        refine k _ ?_; clear k K
        -- 29 := binOp Go.BinOp.neq 3 t27 t28 3
        refine v_op ?_; intro K k
        simp only [zE, aStepM, optable, set_some, Nat.reduceEqDiff, reduceIte, Nat.reduceLT, implies_true, forall_const, reduceCtorEq, V.ofValue, V.ofScalar, V.un, V.gd, aExec, aop, aBin, Try.underlying3, getD_map hx]
        repeat (refine And.intro (by first | omega | (intros; omega) | (intros; simp_all; done) | (intros; simp_all; omega)) ?_)
        refine k _ ?_; clear k K
        refine k26 _ ?_
        refine n25 _ _ (weak_keep [0, 1, 7, 8, 9, 10, 19, 20, 21, 29] _) ?_
        simp only [keep_mk, keepE_nil, keepE_cons, look_cons, look_nil, Nat.reduceEqDiff, reduceIte]
        refine v_cond _ rfl ?_ ?_  -- COND 2
        · intro hc2
          try simp only [zC, reduceCtorEq] at hc2
          refine v_exit ?_
          refine e24 _ _ ?_
          refine x21 _ ?_
          refine n20 _ _ (weak_keep [0, 1, 7, 8, 19, 20, 21] _) ?_
          simp only [keep_mk, keepE_nil, keepE_cons, look_cons, look_nil, Nat.reduceEqDiff, reduceIte]
          refine v_region ?_; intro K28 k28
          -- 44 := binOp Go.BinOp.add 3 t21 c<1:i64> 3
          refine v_op ?_; intro K k
          simp only [zE, aStepM, optable, set_some, Nat.reduceEqDiff, reduceIte, Nat.reduceLT, implies_true, forall_const, reduceCtorEq, V.ofValue, V.ofScalar, V.un, V.gd, aExec, aop, aBin, Try.underlying3, getD_map hx]
          try simp (disch := omega) only [wrap64]
          repeat (refine And.intro (by first | omega | (intros; omega) | (intros; simp_all; done) | (intros; simp_all; omega)) ?_)
          refine k _ ?_; clear k K
          -- 21 := move t44
          refine v_op ?_; intro K k
          simp only [zE, aStepM, optable, set_some, Nat.reduceEqDiff, reduceIte, Nat.reduceLT, implies_true, forall_const, reduceCtorEq, V.ofValue, V.ofScalar, V.un, V.gd, aExec, aop, getD_map hx]
          repeat (refine And.intro (by first | omega | (intros; omega) | (intros; simp_all; done) | (intros; simp_all; omega)) ?_)
          refine k _ ?_; clear k K
          refine k28 _ ?_
          refine n15 _ (i + 1, b, c) ?_ ?_ ?_
          · refine weak_both [0, 1, 7, 8, 19, 20, 21] [] (by decide) (by simp) ?_ ?_ ?_
            · simp [keep_mk, keepE_nil, keepE_cons, look_cons, V.only, V.onlyL, idx]
            · simp [Blk.kindIs, fillK_mix]
            simp only [keep_mk, keepE_nil, keepE_cons, look_cons, look_nil, Nat.reduceEqDiff, reduceIte, St.comp, List.map_cons, List.map_nil, V.ren, V.renL, idx, List.getD_cons_zero, List.getD_cons_succ, Nat.reduceBEq, cond_true, cond_false, Option.map_some, Option.getD_some, Nat.reduceAdd, Nat.beq_eq_true_eq]
            rfl
          · exact ⟨hlt, by show faK l (faOf inc (l.take (i + 1))) b c; rw [hstep, fa_skip hc2]; exact hR⟩
          · show _ < _; show l.length - (i + 1) < l.length - i; omega
        · intro hc2
          try simp only [zC, reduceCtorEq] at hc2
          refine v_skip ?_
          refine n24 _ _ (weak_keep [0, 1, 7, 8, 9, 10, 19, 20, 21] _) ?_
          simp only [keep_mk, keepE_nil, keepE_cons, look_cons, look_nil, Nat.reduceEqDiff, reduceIte]
          refine v_seq ?_; intro Q29 n29 e29 r29
          refine v_seq ?_; intro Q30 n30 e30 r30
          refine v_region ?_; intro K31 k31
          -- 30 := move t7
          refine v_op ?_; intro K k
          simp only [zE, aStepM, optable, set_some, Nat.reduceEqDiff, reduceIte, Nat.reduceLT, implies_true, forall_const, reduceCtorEq, V.ofValue, V.ofScalar, V.un, V.gd, aExec, aop, getD_map hx]
          repeat (refine And.intro (by first | omega | (intros; omega) | (intros; simp_all; done) | (intros; simp_all; omega)) ?_)
          refine k _ ?_; clear k K
          -- 31 := binOp Go.BinOp.lss 3 t30 c<0:i64> 3
          refine v_op ?_; intro K k
          simp only [zE, aStepM, optable, set_some, Nat.reduceEqDiff, reduceIte, Nat.reduceLT, implies_true, forall_const, reduceCtorEq, V.ofValue, V.ofScalar, V.un, V.gd, aExec, aop, aBin, Try.underlying3, getD_map hx]
          repeat (refine And.intro (by first | omega | (intros; omega) | (intros; simp_all; done) | (intros; simp_all; omega)) ?_)
          refine k _ ?_; clear k K
          refine k31 _ ?_
          refine n30 _ _ (weak_keep [0, 1, 7, 8, 9, 10, 19, 20, 21, 31] _) ?_
          simp only [keep_mk, keepE_nil, keepE_cons, look_cons, look_nil, Nat.reduceEqDiff, reduceIte]
          refine v_cond _ rfl ?_ ?_  -- COND 3
          · intro hc3
            try simp only [zC, reduceCtorEq] at hc3
            refine v_draw (by kernel_rfl) ?_; intro K33 q33 k33
            show aAny _ _ _ _ 5 (Array.replicate 5 false) _
            -- 32 := move t9
            refine aAny_take q33 true 0 32 rfl rfl (by kernel_rfl) (by kernel_rfl) ?_
            apply Exists.intro; apply And.intro
            · intro t hn gx ho K' k'
              have g9 := gx 9 (by decide)
              simp only [get_mk, look_cons, look_nil, set_some, Nat.reduceEqDiff, reduceIte] at g9
              have hdl : 32 < t.n := by rw [hn]; show 32 < 59; decide
              clear hn
              refine .inl ?_
              simp only [zE, hdl, aStepM, optable, Nat.reduceEqDiff, reduceIte, implies_true, forall_const, reduceCtorEq, V.ofValue, V.ofScalar, V.un, V.gd, aExec, aop, g9, getD_map hx]
              repeat (refine And.intro (by first | omega | (intros; omega) | (intros; simp_all; done) | (intros; simp_all; omega)) ?_)
              exact k'
            simp only [set_some]
            -- 33 := fieldAddr 95 t10 2
            refine aAny_take q33 true 1 33 rfl rfl (by kernel_rfl) (by kernel_rfl) ?_
            apply Exists.intro; apply And.intro
            · intro t hn gx ho K' k'
              have g10 := gx 10 (by decide)
              simp only [get_mk, look_cons, look_nil, set_some, Nat.reduceEqDiff, reduceIte] at g10
              have hdl : 33 < t.n := by rw [hn]; show 33 < 59; decide
              clear hn
              refine .inl ?_
              simp only [zE, zL, zN, hdl, aStepM, optable, Nat.reduceEqDiff, reduceIte, implies_true, forall_const, reduceCtorEq, V.ofValue, V.ofScalar, V.un, V.gd, aExec, aop, g10, aFieldAddr, Nat.reduceAdd, Nat.reduceLeDiff, Nat.reduceLT, Nat.reduceMul, Try.underlying3, Ty.c3, Ty.a3, Try.underlying9, Ty.c9, Ty.a9, Try.underlying95, Ty.c95, Ty.a95, getD_map hx]
              repeat (refine And.intro (by first | omega | (intros; omega) | (intros; simp_all; done) | (intros; simp_all; omega)) ?_)
              exact k'
            simp only [set_some]
            -- 34 := load 3 t33
            refine aAny_take q33 true 2 34 rfl rfl (by kernel_rfl) (by kernel_rfl) ?_
            apply Exists.intro; apply And.intro
            · intro t hn gx ho K' k'
              have g33 := gx 33 (by decide)
              simp only [get_mk, look_cons, look_nil, set_some, Nat.reduceEqDiff, reduceIte] at g33
              first | have row0 := grow_row (i := 0) (ho rfl) rfl | have row0 : t.n + 0 = t.n := rfl
              first | have row1 := grow_row (i := 1) (ho rfl) rfl | have row1 : t.n + 0 = t.n := rfl
              first | have row2 := grow_row (i := 2) (ho rfl) rfl | have row2 : t.n + 0 = t.n := rfl
              have hdl : 34 < t.n := by rw [hn]; show 34 < 59; decide
              clear hn
              refine .inl ?_
              simp only [zE, zL, zO, zN, hdl, aStepM, optable, Nat.reduceEqDiff, reduceIte, implies_true, forall_const, reduceCtorEq, V.ofValue, V.ofScalar, V.un, V.gd, aExec, aop, g33, row0, row1, row2, aLoad, row_mk, Blk.row, PartOK, Go.Vm.part, V.cells, V.noSl, V.noRef, Nat.reduceAdd, Nat.reduceLeDiff, Nat.reduceLT, Nat.reduceMul, Try.underlying3, Ty.c3, Ty.a3, getD_map hx]
              repeat (refine And.intro (by first | omega | (intros; omega) | (intros; simp_all; done) | (intros; simp_all; omega)) ?_)
              exact k'
            simp only [set_some]
            -- 7 := assign t32
            refine aAny_only 3 rfl (by kernel_rfl) ?_; intro K k
            simp only [zE, zS, aStepM, optable, set_some, Nat.reduceEqDiff, reduceIte, Nat.reduceLT, implies_true, forall_const, reduceCtorEq, V.ofValue, V.ofScalar, V.un, V.gd, aExec, aop, Nat.reduceAdd, getD_map hx]
            repeat (refine And.intro (by first | omega | (intros; omega) | (intros; simp_all; done) | (intros; simp_all; omega)) ?_)
            refine k _ ?_; clear k K
            -- 8 := assign t34
            refine aAny_only 4 rfl (by kernel_rfl) ?_; intro K k
            simp only [zE, zS, aStepM, optable, set_some, Nat.reduceEqDiff, reduceIte, Nat.reduceLT, implies_true, forall_const, reduceCtorEq, V.ofValue, V.ofScalar, V.un, V.gd, aExec, aop, Nat.reduceAdd, getD_map hx]
            repeat (refine And.intro (by first | omega | (intros; omega) | (intros; simp_all; done) | (intros; simp_all; omega)) ?_)
            refine k _ ?_; clear k K
            refine aAny_done (by kernel_rfl) ?_
            refine k33 _ ?_
            refine n29 _ _ (weak_keep [0, 1, 7, 8, 9, 10, 19, 20, 21] _) ?_
            simp only [keep_mk, keepE_nil, keepE_cons, look_cons, look_nil, Nat.reduceEqDiff, reduceIte]
            refine v_seq ?_; intro Q34 n34 e34 r34
            refine v_draw (by kernel_rfl) ?_; intro K35 q35 k35
            show aAny _ _ _ _ 8 (Array.replicate 8 false) _
            -- 35 := fieldAddr 95 t10 3
            refine aAny_take q35 true 0 35 rfl rfl (by kernel_rfl) (by kernel_rfl) ?_
            apply Exists.intro; apply And.intro
            · intro t hn gx ho K' k'
              have g10 := gx 10 (by decide)
              simp only [get_mk, look_cons, look_nil, set_some, Nat.reduceEqDiff, reduceIte] at g10
              have hdl : 35 < t.n := by rw [hn]; show 35 < 59; decide
              clear hn
              refine .inl ?_
              simp only [zE, zL, zN, hdl, aStepM, optable, Nat.reduceEqDiff, reduceIte, implies_true, forall_const, reduceCtorEq, V.ofValue, V.ofScalar, V.un, V.gd, aExec, aop, g10, aFieldAddr, Nat.reduceAdd, Nat.reduceLeDiff, Nat.reduceLT, Nat.reduceMul, Try.underlying3, Ty.c3, Ty.a3, Try.underlying9, Ty.c9, Ty.a9, Try.underlying95, Ty.c95, Ty.a95, getD_map hx]
              repeat (refine And.intro (by first | omega | (intros; omega) | (intros; simp_all; done) | (intros; simp_all; omega)) ?_)
              exact k'
            simp only [set_some]
            -- 36 := load 3 t35
            refine aAny_take q35 true 1 36 rfl rfl (by kernel_rfl) (by kernel_rfl) ?_
            apply Exists.intro; apply And.intro
            · intro t hn gx ho K' k'
              have g35 := gx 35 (by decide)
              simp only [get_mk, look_cons, look_nil, set_some, Nat.reduceEqDiff, reduceIte] at g35
              first | have row0 := grow_row (i := 0) (ho rfl) rfl | have row0 : t.n + 0 = t.n := rfl
              first | have row1 := grow_row (i := 1) (ho rfl) rfl | have row1 : t.n + 0 = t.n := rfl
              first | have row2 := grow_row (i := 2) (ho rfl) rfl | have row2 : t.n + 0 = t.n := rfl
              have hdl : 36 < t.n := by rw [hn]; show 36 < 59; decide
              clear hn
              refine .inl ?_
              simp only [zE, zL, zO, zN, hdl, aStepM, optable, Nat.reduceEqDiff, reduceIte, implies_true, forall_const, reduceCtorEq, V.ofValue, V.ofScalar, V.un, V.gd, aExec, aop, g35, row0, row1, row2, aLoad, row_mk, Blk.row, PartOK, Go.Vm.part, V.cells, V.noSl, V.noRef, Nat.reduceAdd, Nat.reduceLeDiff, Nat.reduceLT, Nat.reduceMul, Try.underlying3, Ty.c3, Ty.a3, getD_map hx]
              repeat (refine And.intro (by first | omega | (intros; omega) | (intros; simp_all; done) | (intros; simp_all; omega)) ?_)
              exact k'
            simp only [set_some]
            -- 37 := move t0
            refine aAny_take q35 true 2 37 rfl rfl (by kernel_rfl) (by kernel_rfl) ?_
            apply Exists.intro; apply And.intro
            · intro t hn gx ho K' k'
              have g0 := gx 0 (by decide)
              simp only [get_mk, look_cons, look_nil, set_some, Nat.reduceEqDiff, reduceIte] at g0
              have hdl : 37 < t.n := by rw [hn]; show 37 < 59; decide
              clear hn
              refine .inl ?_
              simp only [zE, hdl, aStepM, optable, Nat.reduceEqDiff, reduceIte, implies_true, forall_const, reduceCtorEq, V.ofValue, V.ofScalar, V.un, V.gd, aExec, aop, g0, getD_map hx]
              repeat (refine And.intro (by first | omega | (intros; omega) | (intros; simp_all; done) | (intros; simp_all; omega)) ?_)
              exact k'
            simp only [set_some]
            -- 38 := move t7
            refine aAny_take q35 true 3 38 rfl rfl (by kernel_rfl) (by kernel_rfl) ?_
            apply Exists.intro; apply And.intro
            · intro t hn gx ho K' k'
              have g7 := gx 7 (by decide)
              simp only [get_mk, look_cons, look_nil, set_some, Nat.reduceEqDiff, reduceIte] at g7
              have hdl : 38 < t.n := by rw [hn]; show 38 < 59; decide
              clear hn
              refine .inl ?_
              simp only [zE, hdl, aStepM, optable, Nat.reduceEqDiff, reduceIte, implies_true, forall_const, reduceCtorEq, V.ofValue, V.ofScalar, V.un, V.gd, aExec, aop, g7, getD_map hx]
              repeat (refine And.intro (by first | omega | (intros; omega) | (intros; simp_all; done) | (intros; simp_all; omega)) ?_)
              exact k'
            simp only [set_some]
            -- 39 := indexAddr 26 t37 t38
            refine aAny_take q35 true 4 39 rfl rfl (by kernel_rfl) (by kernel_rfl) ?_
            apply Exists.intro; apply And.intro
            · intro t hn gx ho K' k'
              have g37 := gx 37 (by decide)
              have g38 := gx 38 (by decide)
              simp only [get_mk, look_cons, look_nil, set_some, Nat.reduceEqDiff, reduceIte] at g37 g38
              first | have row0 := grow_row (i := 0) (ho rfl) rfl | have row0 : t.n + 0 = t.n := rfl
              first | have row1 := grow_row (i := 1) (ho rfl) rfl | have row1 : t.n + 0 = t.n := rfl
              first | have row2 := grow_row (i := 2) (ho rfl) rfl | have row2 : t.n + 0 = t.n := rfl
              have hdl : 39 < t.n := by rw [hn]; show 39 < 59; decide
              clear hn
              refine .inl ?_
              simp only [zE, zL, zN, hdl, aStepM, optable, Nat.reduceEqDiff, reduceIte, implies_true, forall_const, reduceCtorEq, V.ofValue, V.ofScalar, V.un, V.gd, aExec, aop, g37, g38, row0, row1, row2, aIndexAddr, row_mk, Blk.row, Go.Vm.V.cells, List.forall_mem_map, List.length_map, Int.toNat_natCast, Int.reduceToNat, TypeDesc.slice.injEq, Nat.reduceAdd, Nat.reduceLeDiff, Nat.reduceLT, Nat.reduceMul, Try.underlying26, Ty.c26, Ty.a26, Try.underlying95, Ty.c95, Ty.a95, getD_map hx]
              repeat (refine And.intro (by first | omega | (intros; omega) | (intros; simp_all; done) | (intros; simp_all; omega)) ?_)
              exact k'
            simp only [set_some]
            -- 40 := fieldAddr 95 t39 3
            refine aAny_take q35 true 5 40 rfl rfl (by kernel_rfl) (by kernel_rfl) ?_
            apply Exists.intro; apply And.intro
            · intro t hn gx ho K' k'
              have g39 := gx 39 (by decide)
              simp only [get_mk, look_cons, look_nil, set_some, Nat.reduceEqDiff, reduceIte] at g39
              have hdl : 40 < t.n := by rw [hn]; show 40 < 59; decide
              clear hn
              refine .inl ?_
              simp only [zE, zL, zN, hdl, aStepM, optable, Nat.reduceEqDiff, reduceIte, implies_true, forall_const, reduceCtorEq, V.ofValue, V.ofScalar, V.un, V.gd, aExec, aop, g39, aFieldAddr, Nat.reduceAdd, Nat.reduceLeDiff, Nat.reduceLT, Nat.reduceMul, Try.underlying3, Ty.c3, Ty.a3, Try.underlying9, Ty.c9, Ty.a9, Try.underlying95, Ty.c95, Ty.a95, getD_map hx]
              repeat (refine And.intro (by first | omega | (intros; omega) | (intros; simp_all; done) | (intros; simp_all; omega)) ?_)
              exact k'
            simp only [set_some]
            -- 41 := load 3 t40
            refine aAny_take q35 true 6 41 rfl rfl (by kernel_rfl) (by kernel_rfl) ?_
            apply Exists.intro; apply And.intro
            · intro t hn gx ho K' k'
              have g40 := gx 40 (by decide)
              simp only [get_mk, look_cons, look_nil, set_some, Nat.reduceEqDiff, reduceIte] at g40
              first | have row0 := grow_row (i := 0) (ho rfl) rfl | have row0 : t.n + 0 = t.n := rfl
              first | have row1 := grow_row (i := 1) (ho rfl) rfl | have row1 : t.n + 0 = t.n := rfl
              first | have row2 := grow_row (i := 2) (ho rfl) rfl | have row2 : t.n + 0 = t.n := rfl
              have hdl : 41 < t.n := by rw [hn]; show 41 < 59; decide
              clear hn
              refine .inl ?_
              simp only [zE, zL, zO, zN, hdl, aStepM, optable, Nat.reduceEqDiff, reduceIte, implies_true, forall_const, reduceCtorEq, V.ofValue, V.ofScalar, V.un, V.gd, aExec, aop, g40, row0, row1, row2, aLoad, row_mk, Blk.row, PartOK, Go.Vm.part, V.cells, V.noSl, V.noRef, Nat.reduceAdd, Nat.reduceLeDiff, Nat.reduceLT, Nat.reduceMul, Try.underlying3, Ty.c3, Ty.a3, getD_map hx]
              repeat (refine And.intro (by first | omega | (intros; omega) | (intros; simp_all; done) | (intros; simp_all; omega)) ?_)
              exact k'
            simp only [set_some]
            -- 42 := binOp Go.BinOp.lss 3 t36 t41 3
            refine aAny_take q35 true 7 42 rfl rfl (by kernel_rfl) (by kernel_rfl) ?_
            apply Exists.intro; apply And.intro
            · intro t hn gx ho K' k'
              have g36 := gx 36 (by decide)
              have g41 := gx 41 (by decide)
              simp only [get_mk, look_cons, look_nil, set_some, Nat.reduceEqDiff, reduceIte] at g36 g41
              have hdl : 42 < t.n := by rw [hn]; show 42 < 59; decide
              clear hn
              refine .inl ?_
              simp only [zE, hdl, aStepM, optable, Nat.reduceEqDiff, reduceIte, implies_true, forall_const, reduceCtorEq, V.ofValue, V.ofScalar, V.un, V.gd, aExec, aop, g36, g41, aBin, Try.underlying3, getD_map hx]
              repeat (refine And.intro (by first | omega | (intros; omega) | (intros; simp_all; done) | (intros; simp_all; omega)) ?_)
              exact k'
            simp only [set_some]
            refine aAny_done (by kernel_rfl) ?_
            refine k35 _ ?_
            refine n34 _ _ (weak_keep [0, 1, 7, 8, 9, 19, 20, 21, 42] _) ?_
            simp only [keep_mk, keepE_nil, keepE_cons, look_cons, look_nil, Nat.reduceEqDiff, reduceIte]
            refine v_cond _ rfl ?_ ?_  -- COND 4
            · intro hc4
              exfalso; simp at hc4
            · intro hc4
              try simp only [zC, reduceCtorEq] at hc4
              refine v_skip ?_
              refine n21 _ ?_
              refine n20 _ _ (weak_keep [0, 1, 7, 8, 19, 20, 21] _) ?_
              simp only [keep_mk, keepE_nil, keepE_cons, look_cons, look_nil, Nat.reduceEqDiff, reduceIte]
              refine v_region ?_; intro K37 k37
              -- 44 := binOp Go.BinOp.add 3 t21 c<1:i64> 3
              refine v_op ?_; intro K k
              simp only [zE, aStepM, optable, set_some, Nat.reduceEqDiff, reduceIte, Nat.reduceLT, implies_true, forall_const, reduceCtorEq, V.ofValue, V.ofScalar, V.un, V.gd, aExec, aop, aBin, Try.underlying3, getD_map hx]
              try simp (disch := omega) only [wrap64]
              repeat (refine And.intro (by first | omega | (intros; omega) | (intros; simp_all; done) | (intros; simp_all; omega)) ?_)
              refine k _ ?_; clear k K
              -- 21 := move t44
              refine v_op ?_; intro K k
              simp only [zE, aStepM, optable, set_some, Nat.reduceEqDiff, reduceIte, Nat.reduceLT, implies_true, forall_const, reduceCtorEq, V.ofValue, V.ofScalar, V.un, V.gd, aExec, aop, getD_map hx]
              repeat (refine And.intro (by first | omega | (intros; omega) | (intros; simp_all; done) | (intros; simp_all; omega)) ?_)
              refine k _ ?_; clear k K
              refine k37 _ ?_
              refine n15 _ (i + 1, (i : Int), x2) ?_ ?_ ?_
              · refine weak_both [0, 1, 7, 8, 19, 20, 21] [] (by decide) (by simp) ?_ ?_ ?_
                · simp [keep_mk, keepE_nil, keepE_cons, look_cons, V.only, V.onlyL, idx]
                · simp [Blk.kindIs, fillK_mix]
                simp only [keep_mk, keepE_nil, keepE_cons, look_cons, look_nil, Nat.reduceEqDiff, reduceIte, St.comp, List.map_cons, List.map_nil, V.ren, V.renL, idx, List.getD_cons_zero, List.getD_cons_succ, Nat.reduceBEq, cond_true, cond_false, Option.map_some, Option.getD_some, Nat.reduceAdd, Nat.beq_eq_true_eq]
                rfl
              · exact ⟨hlt, by show faK l (faOf inc (l.take (i + 1))) i x2; rw [hstep, (hR.resolve_right (fun h => by obtain ⟨k, y, h1, h2, h3⟩ := h; omega)).1]; exact .inr ⟨i, _, fa_none hc2, rfl, hx⟩⟩
              · show _ < _; show l.length - (i + 1) < l.length - i; omega
          · intro hc3
            try simp only [zC, reduceCtorEq] at hc3
            obtain ⟨k, ⟨y0, y1, y2, y3⟩, hF, hb, hy⟩ := hR.resolve_left (fun h => by have := h.2; omega)
            have hkl : k < l.length := (List.getElem?_eq_some_iff.1 hy).1
            subst hb
            refine v_skip ?_
            refine n29 _ _ (weak_keep [0, 1, 7, 8, 9, 10, 19, 20, 21] _) ?_
            simp only [keep_mk, keepE_nil, keepE_cons, look_cons, look_nil, Nat.reduceEqDiff, reduceIte]
            refine v_seq ?_; intro Q38 n38 e38 r38
            refine v_draw (by kernel_rfl) ?_; intro K39 q39 k39
            show aAny _ _ _ _ 8 (Array.replicate 8 false) _
            -- 35 := fieldAddr 95 t10 3
            refine aAny_take q39 true 0 35 rfl rfl (by kernel_rfl) (by kernel_rfl) ?_
            apply Exists.intro; apply And.intro
            · intro t hn gx ho K' k'
              have g10 := gx 10 (by decide)
              simp only [get_mk, look_cons, look_nil, set_some, Nat.reduceEqDiff, reduceIte] at g10
              have hdl : 35 < t.n := by rw [hn]; show 35 < 59; decide
              clear hn
              refine .inl ?_
              simp only [zE, zL, zN, hdl, aStepM, optable, Nat.reduceEqDiff, reduceIte, implies_true, forall_const, reduceCtorEq, V.ofValue, V.ofScalar, V.un, V.gd, aExec, aop, g10, aFieldAddr, Nat.reduceAdd, Nat.reduceLeDiff, Nat.reduceLT, Nat.reduceMul, Try.underlying3, Ty.c3, Ty.a3, Try.underlying9, Ty.c9, Ty.a9, Try.underlying95, Ty.c95, Ty.a95, getD_map hx, getD_map hy]
              repeat (refine And.intro (by first | omega | (intros; omega) | (intros; simp_all; done) | (intros; simp_all; omega)) ?_)
              exact k'
            simp only [set_some]
            -- 36 := load 3 t35
            refine aAny_take q39 true 1 36 rfl rfl (by kernel_rfl) (by kernel_rfl) ?_
            apply Exists.intro; apply And.intro
            · intro t hn gx ho K' k'
              have g35 := gx 35 (by decide)
              simp only [get_mk, look_cons, look_nil, set_some, Nat.reduceEqDiff, reduceIte] at g35
              first | have row0 := grow_row (i := 0) (ho rfl) rfl | have row0 : t.n + 0 = t.n := rfl
              first | have row1 := grow_row (i := 1) (ho rfl) rfl | have row1 : t.n + 0 = t.n := rfl
              first | have row2 := grow_row (i := 2) (ho rfl) rfl | have row2 : t.n + 0 = t.n := rfl
              have hdl : 36 < t.n := by rw [hn]; show 36 < 59; decide
              clear hn
              refine .inl ?_
              simp only [zE, zL, zO, zN, hdl, aStepM, optable, Nat.reduceEqDiff, reduceIte, implies_true, forall_const, reduceCtorEq, V.ofValue, V.ofScalar, V.un, V.gd, aExec, aop, g35, row0, row1, row2, aLoad, row_mk, Blk.row, PartOK, Go.Vm.part, V.cells, V.noSl, V.noRef, Nat.reduceAdd, Nat.reduceLeDiff, Nat.reduceLT, Nat.reduceMul, Try.underlying3, Ty.c3, Ty.a3, getD_map hx, getD_map hy]
              repeat (refine And.intro (by first | omega | (intros; omega) | (intros; simp_all; done) | (intros; simp_all; omega)) ?_)
              exact k'
            simp only [set_some]
            -- 37 := move t0
            refine aAny_take q39 true 2 37 rfl rfl (by kernel_rfl) (by kernel_rfl) ?_
            apply Exists.intro; apply And.intro
            · intro t hn gx ho K' k'
              have g0 := gx 0 (by decide)
              simp only [get_mk, look_cons, look_nil, set_some, Nat.reduceEqDiff, reduceIte] at g0
              have hdl : 37 < t.n := by rw [hn]; show 37 < 59; decide
              clear hn
              refine .inl ?_
              simp only [zE, hdl, aStepM, optable, Nat.reduceEqDiff, reduceIte, implies_true, forall_const, reduceCtorEq, V.ofValue, V.ofScalar, V.un, V.gd, aExec, aop, g0, getD_map hx, getD_map hy]
              repeat (refine And.intro (by first | omega | (intros; omega) | (intros; simp_all; done) | (intros; simp_all; omega)) ?_)
              exact k'
            simp only [set_some]
            -- 38 := move t7
            refine aAny_take q39 true 3 38 rfl rfl (by kernel_rfl) (by kernel_rfl) ?_
            apply Exists.intro; apply And.intro
            · intro t hn gx ho K' k'
              have g7 := gx 7 (by decide)
              simp only [get_mk, look_cons, look_nil, set_some, Nat.reduceEqDiff, reduceIte] at g7
              have hdl : 38 < t.n := by rw [hn]; show 38 < 59; decide
              clear hn
              refine .inl ?_
              simp only [zE, hdl, aStepM, optable, Nat.reduceEqDiff, reduceIte, implies_true, forall_const, reduceCtorEq, V.ofValue, V.ofScalar, V.un, V.gd, aExec, aop, g7, getD_map hx, getD_map hy]
              repeat (refine And.intro (by first | omega | (intros; omega) | (intros; simp_all; done) | (intros; simp_all; omega)) ?_)
              exact k'
            simp only [set_some]
            -- 39 := indexAddr 26 t37 t38
            refine aAny_take q39 true 4 39 rfl rfl (by kernel_rfl) (by kernel_rfl) ?_
            apply Exists.intro; apply And.intro
            · intro t hn gx ho K' k'
              have g37 := gx 37 (by decide)
              have g38 := gx 38 (by decide)
              simp only [get_mk, look_cons, look_nil, set_some, Nat.reduceEqDiff, reduceIte] at g37 g38
              first | have row0 := grow_row (i := 0) (ho rfl) rfl | have row0 : t.n + 0 = t.n := rfl
              first | have row1 := grow_row (i := 1) (ho rfl) rfl | have row1 : t.n + 0 = t.n := rfl
              first | have row2 := grow_row (i := 2) (ho rfl) rfl | have row2 : t.n + 0 = t.n := rfl
              have hdl : 39 < t.n := by rw [hn]; show 39 < 59; decide
              clear hn
              refine .inl ?_
              simp only [zE, zL, zN, hdl, aStepM, optable, Nat.reduceEqDiff, reduceIte, implies_true, forall_const, reduceCtorEq, V.ofValue, V.ofScalar, V.un, V.gd, aExec, aop, g37, g38, row0, row1, row2, aIndexAddr, row_mk, Blk.row, Go.Vm.V.cells, List.forall_mem_map, List.length_map, Int.toNat_natCast, Int.reduceToNat, TypeDesc.slice.injEq, Nat.reduceAdd, Nat.reduceLeDiff, Nat.reduceLT, Nat.reduceMul, Try.underlying26, Ty.c26, Ty.a26, Try.underlying95, Ty.c95, Ty.a95, getD_map hx, getD_map hy]
              repeat (refine And.intro (by first | omega | (intros; omega) | (intros; simp_all; done) | (intros; simp_all; omega)) ?_)
              exact k'
            simp only [set_some]
            -- 40 := fieldAddr 95 t39 3
            refine aAny_take q39 true 5 40 rfl rfl (by kernel_rfl) (by kernel_rfl) ?_
            apply Exists.intro; apply And.intro
            · intro t hn gx ho K' k'
              have g39 := gx 39 (by decide)
              simp only [get_mk, look_cons, look_nil, set_some, Nat.reduceEqDiff, reduceIte] at g39
              have hdl : 40 < t.n := by rw [hn]; show 40 < 59; decide
              clear hn
              refine .inl ?_
              simp only [zE, zL, zN, hdl, aStepM, optable, Nat.reduceEqDiff, reduceIte, implies_true, forall_const, reduceCtorEq, V.ofValue, V.ofScalar, V.un, V.gd, aExec, aop, g39, aFieldAddr, Nat.reduceAdd, Nat.reduceLeDiff, Nat.reduceLT, Nat.reduceMul, Try.underlying3, Ty.c3, Ty.a3, Try.underlying9, Ty.c9, Ty.a9, Try.underlying95, Ty.c95, Ty.a95, getD_map hx, getD_map hy]
              repeat (refine And.intro (by first | omega | (intros; omega) | (intros; simp_all; done) | (intros; simp_all; omega)) ?_)
              exact k'
            simp only [set_some]
            -- 41 := load 3 t40
            refine aAny_take q39 true 6 41 rfl rfl (by kernel_rfl) (by kernel_rfl) ?_
            apply Exists.intro; apply And.intro
            · intro t hn gx ho K' k'
              have g40 := gx 40 (by decide)
              simp only [get_mk, look_cons, look_nil, set_some, Nat.reduceEqDiff, reduceIte] at g40
              first | have row0 := grow_row (i := 0) (ho rfl) rfl | have row0 : t.n + 0 = t.n := rfl
              first | have row1 := grow_row (i := 1) (ho rfl) rfl | have row1 : t.n + 0 = t.n := rfl
              first | have row2 := grow_row (i := 2) (ho rfl) rfl | have row2 : t.n + 0 = t.n := rfl
              have hdl : 41 < t.n := by rw [hn]; show 41 < 59; decide
              clear hn
              refine .inl ?_
              simp only [zE, zL, zO, zN, hdl, aStepM, optable, Nat.reduceEqDiff, reduceIte, implies_true, forall_const, reduceCtorEq, V.ofValue, V.ofScalar, V.un, V.gd, aExec, aop, g40, row0, row1, row2, aLoad, row_mk, Blk.row, PartOK, Go.Vm.part, V.cells, V.noSl, V.noRef, Nat.reduceAdd, Nat.reduceLeDiff, Nat.reduceLT, Nat.reduceMul, Try.underlying3, Ty.c3, Ty.a3, getD_map hx, getD_map hy]
              repeat (refine And.intro (by first | omega | (intros; omega) | (intros; simp_all; done) | (intros; simp_all; omega)) ?_)
              exact k'
            simp only [set_some]
            -- 42 := binOp Go.BinOp.lss 3 t36 t41 3
            refine aAny_take q39 true 7 42 rfl rfl (by kernel_rfl) (by kernel_rfl) ?_
            apply Exists.intro; apply And.intro
            · intro t hn gx ho K' k'
              have g36 := gx 36 (by decide)
              have g41 := gx 41 (by decide)
              simp only [get_mk, look_cons, look_nil, set_some, Nat.reduceEqDiff, reduceIte] at g36 g41
              have hdl : 42 < t.n := by rw [hn]; show 42 < 59; decide
              clear hn
              refine .inl ?_
              simp only [zE, hdl, aStepM, optable, Nat.reduceEqDiff, reduceIte, implies_true, forall_const, reduceCtorEq, V.ofValue, V.ofScalar, V.un, V.gd, aExec, aop, g36, g41, aBin, Try.underlying3, getD_map hx, getD_map hy]
              repeat (refine And.intro (by first | omega | (intros; omega) | (intros; simp_all; done) | (intros; simp_all; omega)) ?_)
              exact k'
            simp only [set_some]
            refine aAny_done (by kernel_rfl) ?_
            refine k39 _ ?_
            refine n38 _ _ (weak_keep [0, 1, 7, 8, 9, 19, 20, 21, 42] _) ?_
            simp only [keep_mk, keepE_nil, keepE_cons, look_cons, look_nil, Nat.reduceEqDiff, reduceIte]
            refine v_cond _ rfl ?_ ?_  -- COND 5
            · intro hc5
              try simp only [zC, reduceCtorEq] at hc5
              refine v_region ?_; intro K41 k41
              -- 43 := move t9
              refine v_op ?_; intro K k
              simp only [zE, aStepM, optable, set_some, Nat.reduceEqDiff, reduceIte, Nat.reduceLT, implies_true, forall_const, reduceCtorEq, V.ofValue, V.ofScalar, V.un, V.gd, aExec, aop, getD_map hx, getD_map hy]
              repeat (refine And.intro (by first | omega | (intros; omega) | (intros; simp_all; done) | (intros; simp_all; omega)) ?_)
              refine k _ ?_; clear k K
              -- 7 := assign t43
              refine v_op ?_; intro K k
              simp only [zE, zS, aStepM, optable, set_some, Nat.reduceEqDiff, reduceIte, Nat.reduceLT, implies_true, forall_const, reduceCtorEq, V.ofValue, V.ofScalar, V.un, V.gd, aExec, aop, Nat.reduceAdd, getD_map hx, getD_map hy]
              repeat (refine And.intro (by first | omega | (intros; omega) | (intros; simp_all; done) | (intros; simp_all; omega)) ?_)
              refine k _ ?_; clear k K
              refine k41 _ ?_
              refine n21 _ ?_
              refine n20 _ _ (weak_keep [0, 1, 7, 8, 19, 20, 21] _) ?_
              simp only [keep_mk, keepE_nil, keepE_cons, look_cons, look_nil, Nat.reduceEqDiff, reduceIte]
              refine v_region ?_; intro K42 k42
              -- 44 := binOp Go.BinOp.add 3 t21 c<1:i64> 3
              refine v_op ?_; intro K k
              simp only [zE, aStepM, optable, set_some, Nat.reduceEqDiff, reduceIte, Nat.reduceLT, implies_true, forall_const, reduceCtorEq, V.ofValue, V.ofScalar, V.un, V.gd, aExec, aop, aBin, Try.underlying3, getD_map hx, getD_map hy]
              try simp (disch := omega) only [wrap64]
              repeat (refine And.intro (by first | omega | (intros; omega) | (intros; simp_all; done) | (intros; simp_all; omega)) ?_)
              refine k _ ?_; clear k K
              -- 21 := move t44
              refine v_op ?_; intro K k
              simp only [zE, aStepM, optable, set_some, Nat.reduceEqDiff, reduceIte, Nat.reduceLT, implies_true, forall_const, reduceCtorEq, V.ofValue, V.ofScalar, V.un, V.gd, aExec, aop, getD_map hx, getD_map hy]
              repeat (refine And.intro (by first | omega | (intros; omega) | (intros; simp_all; done) | (intros; simp_all; omega)) ?_)
              refine k _ ?_; clear k K
              refine k42 _ ?_
              refine n15 _ (i + 1, (i : Int), c) ?_ ?_ ?_
              · refine weak_both [0, 1, 7, 8, 19, 20, 21] [] (by decide) (by simp) ?_ ?_ ?_
                · simp [keep_mk, keepE_nil, keepE_cons, look_cons, V.only, V.onlyL, idx]
                · simp [Blk.kindIs, fillK_mix]
                simp only [keep_mk, keepE_nil, keepE_cons, look_cons, look_nil, Nat.reduceEqDiff, reduceIte, St.comp, List.map_cons, List.map_nil, V.ren, V.renL, idx, List.getD_cons_zero, List.getD_cons_succ, Nat.reduceBEq, cond_true, cond_false, Option.map_some, Option.getD_some, Nat.reduceAdd, Nat.beq_eq_true_eq]
                rfl
              · exact ⟨hlt, by show faK l (faOf inc (l.take (i + 1))) i c; rw [hstep, hF]; exact .inr ⟨i, _, fa_lt hc2 hc5, rfl, hx⟩⟩
              · show _ < _; show l.length - (i + 1) < l.length - i; omega
            · intro hc5
              try simp only [zC, reduceCtorEq] at hc5
              refine v_skip ?_
              refine n21 _ ?_
              refine n20 _ _ (weak_keep [0, 1, 7, 8, 19, 20, 21] _) ?_
              simp only [keep_mk, keepE_nil, keepE_cons, look_cons, look_nil, Nat.reduceEqDiff, reduceIte]
              refine v_region ?_; intro K43 k43
              -- 44 := binOp Go.BinOp.add 3 t21 c<1:i64> 3
              refine v_op ?_; intro K k
              simp only [zE, aStepM, optable, set_some, Nat.reduceEqDiff, reduceIte, Nat.reduceLT, implies_true, forall_const, reduceCtorEq, V.ofValue, V.ofScalar, V.un, V.gd, aExec, aop, aBin, Try.underlying3, getD_map hx, getD_map hy]
              try simp (disch := omega) only [wrap64]
              repeat (refine And.intro (by first | omega | (intros; omega) | (intros; simp_all; done) | (intros; simp_all; omega)) ?_)
              refine k _ ?_; clear k K
              -- 21 := move t44
              refine v_op ?_; intro K k
              simp only [zE, aStepM, optable, set_some, Nat.reduceEqDiff, reduceIte, Nat.reduceLT, implies_true, forall_const, reduceCtorEq, V.ofValue, V.ofScalar, V.un, V.gd, aExec, aop, getD_map hx, getD_map hy]
              repeat (refine And.intro (by first | omega | (intros; omega) | (intros; simp_all; done) | (intros; simp_all; omega)) ?_)
              refine k _ ?_; clear k K
              refine k43 _ ?_
              refine n15 _ (i + 1, (k : Int), c) ?_ ?_ ?_
              · refine weak_both [0, 1, 7, 8, 19, 20, 21] [] (by decide) (by simp) ?_ ?_ ?_
                · simp [keep_mk, keepE_nil, keepE_cons, look_cons, V.only, V.onlyL, idx]
                · simp [Blk.kindIs, fillK_mix]
                simp only [keep_mk, keepE_nil, keepE_cons, look_cons, look_nil, Nat.reduceEqDiff, reduceIte, St.comp, List.map_cons, List.map_nil, V.ren, V.renL, idx, List.getD_cons_zero, List.getD_cons_succ, Nat.reduceBEq, cond_true, cond_false, Option.map_some, Option.getD_some, Nat.reduceAdd, Nat.beq_eq_true_eq]
                rfl
              · exact ⟨hlt, by show faK l (faOf inc (l.take (i + 1))) k c; rw [hstep, hF]; exact .inr ⟨k, _, fa_ge hc2 (Int.not_lt.2 hc5), rfl, hy⟩⟩
              · show _ < _; show l.length - (i + 1) < l.length - i; omega
      · intro hc1
        try simp only [zC, reduceCtorEq] at hc1
        refine v_exit ?_
        refine e18 _ _ ?_
        refine e15 _ _ ?_
        refine x14 _ ?_
        refine n11 _ _ (weak_keep [0, 7, 8] _) ?_
        simp only [keep_mk, keepE_nil, keepE_cons, look_cons, look_nil, Nat.reduceEqDiff, reduceIte]
        refine v_seq ?_; intro Q44 n44 e44 r44
        refine v_seq ?_; intro Q45 n45 e45 r45
        refine v_region ?_; intro K46 k46
        -- 45 := move t7
        refine v_op ?_; intro K k
        simp only [zE, aStepM, optable, set_some, Nat.reduceEqDiff, reduceIte, Nat.reduceLT, implies_true, forall_const, reduceCtorEq, V.ofValue, V.ofScalar, V.un, V.gd, aExec, aop]
        repeat (refine And.intro (by first | omega | (intros; omega) | (intros; simp_all; done) | (intros; simp_all; omega)) ?_)
        refine k _ ?_; clear k K
        -- 46 := binOp Go.BinOp.lss 3 t45 c<0:i64> 3
        refine v_op ?_; intro K k
        simp only [zE, aStepM, optable, set_some, Nat.reduceEqDiff, reduceIte, Nat.reduceLT, implies_true, forall_const, reduceCtorEq, V.ofValue, V.ofScalar, V.un, V.gd, aExec, aop, aBin, Try.underlying3]
        repeat (refine And.intro (by first | omega | (intros; omega) | (intros; simp_all; done) | (intros; simp_all; omega)) ?_)
        refine k _ ?_; clear k K
        refine k46 _ ?_
        refine n45 _ _ (weak_keep [0, 7, 8, 46] _) ?_
        simp only [keep_mk, keepE_nil, keepE_cons, look_cons, look_nil, Nat.reduceEqDiff, reduceIte]
        refine v_cond _ rfl ?_ ?_  -- COND 6
        · intro hc6
          try simp only [zC, reduceCtorEq] at hc6
          refine v_seq ?_; intro Q48 n48 e48 r48
          refine v_region ?_; intro K49 k49
          -- 4 := assign c<str>
          refine v_op ?_; intro K k
          simp only [zE, zS, aStepM, optable, set_some, Nat.reduceEqDiff, reduceIte, Nat.reduceLT, implies_true, forall_const, reduceCtorEq, V.ofValue, V.ofScalar, V.un, V.gd, aExec, aop, Nat.reduceAdd]
          repeat (refine And.intro (by first | omega | (intros; omega) | (intros; simp_all; done) | (intros; simp_all; omega)) ?_)
          refine k _ ?_; clear k K
          -- 5 := assign c<0:i64>
          refine v_op ?_; intro K k
          simp only [zE, zS, aStepM, optable, set_some, Nat.reduceEqDiff, reduceIte, Nat.reduceLT, implies_true, forall_const, reduceCtorEq, V.ofValue, V.ofScalar, V.un, V.gd, aExec, aop, Nat.reduceAdd]
          repeat (refine And.intro (by first | omega | (intros; omega) | (intros; simp_all; done) | (intros; simp_all; omega)) ?_)
          refine k _ ?_; clear k K
          -- 6 := assign c<false>
          refine v_op ?_; intro K k
          simp only [zE, zS, aStepM, optable, set_some, Nat.reduceEqDiff, reduceIte, Nat.reduceLT, implies_true, forall_const, reduceCtorEq, V.ofValue, V.ofScalar, V.un, V.gd, aExec, aop, Nat.reduceAdd]
          repeat (refine And.intro (by first | omega | (intros; omega) | (intros; simp_all; done) | (intros; simp_all; omega)) ?_)
          refine k _ ?_; clear k K
          refine k49 _ ?_
          refine n48 _ _ (weak_keep [4, 5, 6] _) ?_
          simp only [keep_mk, keepE_nil, keepE_cons, look_cons, look_nil, Nat.reduceEqDiff, reduceIte]
          refine v_ret ?_
          refine r44 _ ?_
          refine r0 _ ?_
          simp only [resK, pickRV, get_mk, look_cons, look_nil, Nat.reduceEqDiff, reduceIte, List.map_cons, List.map_nil]
          have hfull : l.take i = l := List.take_of_length_le (by omega)
          rw [hfull] at hR
          have hF : faOf inc l = none := (hR.resolve_right (fun h => by obtain ⟨k, y, h1, h2, h3⟩ := h; omega)).1
          rw [hfr, hF]
          exact ret_pure rfl rfl (.inl rfl)
        · intro hc6
          try simp only [zC, reduceCtorEq] at hc6
          obtain ⟨k, ⟨y0, y1, y2, y3⟩, hF, hb, hy⟩ := hR.resolve_left (fun h => by have := h.2; omega)
          have hkl : k < l.length := (List.getElem?_eq_some_iff.1 hy).1
          subst hb
          refine v_skip ?_
          refine n44 _ _ (weak_keep [0, 7, 8] _) ?_
          simp only [keep_mk, keepE_nil, keepE_cons, look_cons, look_nil, Nat.reduceEqDiff, reduceIte]
          refine v_seq ?_; intro Q50 n50 e50 r50
          refine v_draw (by kernel_rfl) ?_; intro K51 q51 k51
          show aAny _ _ _ _ 15 (Array.replicate 15 false) _
          -- 47 := move t0
          refine aAny_take q51 true 0 47 rfl rfl (by kernel_rfl) (by kernel_rfl) ?_
          apply Exists.intro; apply And.intro
          · intro t hn gx ho K' k'
            have g0 := gx 0 (by decide)
            simp only [get_mk, look_cons, look_nil, set_some, Nat.reduceEqDiff, reduceIte] at g0
            have hdl : 47 < t.n := by rw [hn]; show 47 < 59; decide
            clear hn
            refine .inl ?_
            simp only [zE, hdl, aStepM, optable, Nat.reduceEqDiff, reduceIte, implies_true, forall_const, reduceCtorEq, V.ofValue, V.ofScalar, V.un, V.gd, aExec, aop, g0, getD_map hy]
            repeat (refine And.intro (by first | omega | (intros; omega) | (intros; simp_all; done) | (intros; simp_all; omega)) ?_)
            exact k'
          simp only [set_some]
          -- 48 := move t7
          refine aAny_take q51 true 1 48 rfl rfl (by kernel_rfl) (by kernel_rfl) ?_
          apply Exists.intro; apply And.intro
          · intro t hn gx ho K' k'
            have g7 := gx 7 (by decide)
            simp only [get_mk, look_cons, look_nil, set_some, Nat.reduceEqDiff, reduceIte] at g7
            have hdl : 48 < t.n := by rw [hn]; show 48 < 59; decide
            clear hn
            refine .inl ?_
            simp only [zE, hdl, aStepM, optable, Nat.reduceEqDiff, reduceIte, implies_true, forall_const, reduceCtorEq, V.ofValue, V.ofScalar, V.un, V.gd, aExec, aop, g7, getD_map hy]
            repeat (refine And.intro (by first | omega | (intros; omega) | (intros; simp_all; done) | (intros; simp_all; omega)) ?_)
            exact k'
          simp only [set_some]
          -- 49 := indexAddr 26 t47 t48
          refine aAny_take q51 true 2 49 rfl rfl (by kernel_rfl) (by kernel_rfl) ?_
          apply Exists.intro; apply And.intro
          · intro t hn gx ho K' k'
            have g47 := gx 47 (by decide)
            have g48 := gx 48 (by decide)
            simp only [get_mk, look_cons, look_nil, set_some, Nat.reduceEqDiff, reduceIte] at g47 g48
            first | have row0 := grow_row (i := 0) (ho rfl) rfl | have row0 : t.n + 0 = t.n := rfl
            first | have row1 := grow_row (i := 1) (ho rfl) rfl | have row1 : t.n + 0 = t.n := rfl
            first | have row2 := grow_row (i := 2) (ho rfl) rfl | have row2 : t.n + 0 = t.n := rfl
            have hdl : 49 < t.n := by rw [hn]; show 49 < 59; decide
            clear hn
            refine .inl ?_
            simp only [zE, zL, zN, hdl, aStepM, optable, Nat.reduceEqDiff, reduceIte, implies_true, forall_const, reduceCtorEq, V.ofValue, V.ofScalar, V.un, V.gd, aExec, aop, g47, g48, row0, row1, row2, aIndexAddr, row_mk, Blk.row, Go.Vm.V.cells, List.forall_mem_map, List.length_map, Int.toNat_natCast, Int.reduceToNat, TypeDesc.slice.injEq, Nat.reduceAdd, Nat.reduceLeDiff, Nat.reduceLT, Nat.reduceMul, Try.underlying26, Ty.c26, Ty.a26, Try.underlying95, Ty.c95, Ty.a95, getD_map hy]
            repeat (refine And.intro (by first | omega | (intros; omega) | (intros; simp_all; done) | (intros; simp_all; omega)) ?_)
            exact k'
          simp only [set_some]
          -- 50 := fieldAddr 95 t49 1
          refine aAny_take q51 true 3 50 rfl rfl (by kernel_rfl) (by kernel_rfl) ?_
          apply Exists.intro; apply And.intro
          · intro t hn gx ho K' k'
            have g49 := gx 49 (by decide)
            simp only [get_mk, look_cons, look_nil, set_some, Nat.reduceEqDiff, reduceIte] at g49
            have hdl : 50 < t.n := by rw [hn]; show 50 < 59; decide
            clear hn
            refine .inl ?_
            simp only [zE, zL, zN, hdl, aStepM, optable, Nat.reduceEqDiff, reduceIte, implies_true, forall_const, reduceCtorEq, V.ofValue, V.ofScalar, V.un, V.gd, aExec, aop, g49, aFieldAddr, Nat.reduceAdd, Nat.reduceLeDiff, Nat.reduceLT, Nat.reduceMul, Try.underlying3, Ty.c3, Ty.a3, Try.underlying9, Ty.c9, Ty.a9, Try.underlying95, Ty.c95, Ty.a95, getD_map hy]
            repeat (refine And.intro (by first | omega | (intros; omega) | (intros; simp_all; done) | (intros; simp_all; omega)) ?_)
            exact k'
          simp only [set_some]
          -- 51 := load 9 t50
          refine aAny_take q51 true 4 51 rfl rfl (by kernel_rfl) (by kernel_rfl) ?_
          apply Exists.intro; apply And.intro
          · intro t hn gx ho K' k'
            have g50 := gx 50 (by decide)
            simp only [get_mk, look_cons, look_nil, set_some, Nat.reduceEqDiff, reduceIte] at g50
            first | have row0 := grow_row (i := 0) (ho rfl) rfl | have row0 : t.n + 0 = t.n := rfl
            first | have row1 := grow_row (i := 1) (ho rfl) rfl | have row1 : t.n + 0 = t.n := rfl
            first | have row2 := grow_row (i := 2) (ho rfl) rfl | have row2 : t.n + 0 = t.n := rfl
            have hdl : 51 < t.n := by rw [hn]; show 51 < 59; decide
            clear hn
            refine .inl ?_
            simp only [zE, zL, zO, zN, hdl, aStepM, optable, Nat.reduceEqDiff, reduceIte, implies_true, forall_const, reduceCtorEq, V.ofValue, V.ofScalar, V.un, V.gd, aExec, aop, g50, row0, row1, row2, aLoad, row_mk, Blk.row, PartOK, Go.Vm.part, V.cells, V.noSl, V.noRef, Nat.reduceAdd, Nat.reduceLeDiff, Nat.reduceLT, Nat.reduceMul, Try.underlying9, Ty.c9, Ty.a9, getD_map hy]
            repeat (refine And.intro (by first | omega | (intros; omega) | (intros; simp_all; done) | (intros; simp_all; omega)) ?_)
            exact k'
          simp only [set_some]
          -- 52 := move t0
          refine aAny_take q51 true 5 52 rfl rfl (by kernel_rfl) (by kernel_rfl) ?_
          apply Exists.intro; apply And.intro
          · intro t hn gx ho K' k'
            have g0 := gx 0 (by decide)
            simp only [get_mk, look_cons, look_nil, set_some, Nat.reduceEqDiff, reduceIte] at g0
            have hdl : 52 < t.n := by rw [hn]; show 52 < 59; decide
            clear hn
            refine .inl ?_
            simp only [zE, hdl, aStepM, optable, Nat.reduceEqDiff, reduceIte, implies_true, forall_const, reduceCtorEq, V.ofValue, V.ofScalar, V.un, V.gd, aExec, aop, g0, getD_map hy]
            repeat (refine And.intro (by first | omega | (intros; omega) | (intros; simp_all; done) | (intros; simp_all; omega)) ?_)
            exact k'
          simp only [set_some]
          -- 53 := move t7
          refine aAny_take q51 true 6 53 rfl rfl (by kernel_rfl) (by kernel_rfl) ?_
          apply Exists.intro; apply And.intro
          · intro t hn gx ho K' k'
            have g7 := gx 7 (by decide)
            simp only [get_mk, look_cons, look_nil, set_some, Nat.reduceEqDiff, reduceIte] at g7
            have hdl : 53 < t.n := by rw [hn]; show 53 < 59; decide
            clear hn
            refine .inl ?_
            simp only [zE, hdl, aStepM, optable, Nat.reduceEqDiff, reduceIte, implies_true, forall_const, reduceCtorEq, V.ofValue, V.ofScalar, V.un, V.gd, aExec, aop, g7, getD_map hy]
            repeat (refine And.intro (by first | omega | (intros; omega) | (intros; simp_all; done) | (intros; simp_all; omega)) ?_)
            exact k'
          simp only [set_some]
          -- 54 := indexAddr 26 t52 t53
          refine aAny_take q51 true 7 54 rfl rfl (by kernel_rfl) (by kernel_rfl) ?_
          apply Exists.intro; apply And.intro
          · intro t hn gx ho K' k'
            have g52 := gx 52 (by decide)
            have g53 := gx 53 (by decide)
            simp only [get_mk, look_cons, look_nil, set_some, Nat.reduceEqDiff, reduceIte] at g52 g53
            first | have row0 := grow_row (i := 0) (ho rfl) rfl | have row0 : t.n + 0 = t.n := rfl
            first | have row1 := grow_row (i := 1) (ho rfl) rfl | have row1 : t.n + 0 = t.n := rfl
            first | have row2 := grow_row (i := 2) (ho rfl) rfl | have row2 : t.n + 0 = t.n := rfl
            have hdl : 54 < t.n := by rw [hn]; show 54 < 59; decide
            clear hn
            refine .inl ?_
            simp only [zE, zL, zN, hdl, aStepM, optable, Nat.reduceEqDiff, reduceIte, implies_true, forall_const, reduceCtorEq, V.ofValue, V.ofScalar, V.un, V.gd, aExec, aop, g52, g53, row0, row1, row2, aIndexAddr, row_mk, Blk.row, Go.Vm.V.cells, List.forall_mem_map, List.length_map, Int.toNat_natCast, Int.reduceToNat, TypeDesc.slice.injEq, Nat.reduceAdd, Nat.reduceLeDiff, Nat.reduceLT, Nat.reduceMul, Try.underlying26, Ty.c26, Ty.a26, Try.underlying95, Ty.c95, Ty.a95, getD_map hy]
            repeat (refine And.intro (by first | omega | (intros; omega) | (intros; simp_all; done) | (intros; simp_all; omega)) ?_)
            exact k'
          simp only [set_some]
          -- 55 := fieldAddr 95 t54 3
          refine aAny_take q51 true 8 55 rfl rfl (by kernel_rfl) (by kernel_rfl) ?_
          apply Exists.intro; apply And.intro
          · intro t hn gx ho K' k'
            have g54 := gx 54 (by decide)
            simp only [get_mk, look_cons, look_nil, set_some, Nat.reduceEqDiff, reduceIte] at g54
            have hdl : 55 < t.n := by rw [hn]; show 55 < 59; decide
            clear hn
            refine .inl ?_
            simp only [zE, zL, zN, hdl, aStepM, optable, Nat.reduceEqDiff, reduceIte, implies_true, forall_const, reduceCtorEq, V.ofValue, V.ofScalar, V.un, V.gd, aExec, aop, g54, aFieldAddr, Nat.reduceAdd, Nat.reduceLeDiff, Nat.reduceLT, Nat.reduceMul, Try.underlying3, Ty.c3, Ty.a3, Try.underlying9, Ty.c9, Ty.a9, Try.underlying95, Ty.c95, Ty.a95, getD_map hy]
            repeat (refine And.intro (by first | omega | (intros; omega) | (intros; simp_all; done) | (intros; simp_all; omega)) ?_)
            exact k'
          simp only [set_some]
          -- 56 := load 3 t55
          refine aAny_take q51 true 9 56 rfl rfl (by kernel_rfl) (by kernel_rfl) ?_
          apply Exists.intro; apply And.intro
          · intro t hn gx ho K' k'
            have g55 := gx 55 (by decide)
            simp only [get_mk, look_cons, look_nil, set_some, Nat.reduceEqDiff, reduceIte] at g55
            first | have row0 := grow_row (i := 0) (ho rfl) rfl | have row0 : t.n + 0 = t.n := rfl
            first | have row1 := grow_row (i := 1) (ho rfl) rfl | have row1 : t.n + 0 = t.n := rfl
            first | have row2 := grow_row (i := 2) (ho rfl) rfl | have row2 : t.n + 0 = t.n := rfl
            have hdl : 56 < t.n := by rw [hn]; show 56 < 59; decide
            clear hn
            refine .inl ?_
            simp only [zE, zL, zO, zN, hdl, aStepM, optable, Nat.reduceEqDiff, reduceIte, implies_true, forall_const, reduceCtorEq, V.ofValue, V.ofScalar, V.un, V.gd, aExec, aop, g55, row0, row1, row2, aLoad, row_mk, Blk.row, PartOK, Go.Vm.part, V.cells, V.noSl, V.noRef, Nat.reduceAdd, Nat.reduceLeDiff, Nat.reduceLT, Nat.reduceMul, Try.underlying3, Ty.c3, Ty.a3, getD_map hy]
            repeat (refine And.intro (by first | omega | (intros; omega) | (intros; simp_all; done) | (intros; simp_all; omega)) ?_)
            exact k'
          simp only [set_some]
          -- 57 := move t8
          refine aAny_take q51 true 10 57 rfl rfl (by kernel_rfl) (by kernel_rfl) ?_
          apply Exists.intro; apply And.intro
          · intro t hn gx ho K' k'
            have g8 := gx 8 (by decide)
            simp only [get_mk, look_cons, look_nil, set_some, Nat.reduceEqDiff, reduceIte] at g8
            have hdl : 57 < t.n := by rw [hn]; show 57 < 59; decide
            clear hn
            refine .inl ?_
            simp only [zE, hdl, aStepM, optable, Nat.reduceEqDiff, reduceIte, implies_true, forall_const, reduceCtorEq, V.ofValue, V.ofScalar, V.un, V.gd, aExec, aop, g8, getD_map hy]
            repeat (refine And.intro (by first | omega | (intros; omega) | (intros; simp_all; done) | (intros; simp_all; omega)) ?_)
            exact k'
          simp only [set_some]
          -- 58 := binOp Go.BinOp.sub 3 t56 t57 3
          refine aAny_take q51 true 11 58 rfl rfl (by kernel_rfl) (by kernel_rfl) ?_
          apply Exists.intro; apply And.intro
          · intro t hn gx ho K' k'
            have g56 := gx 56 (by decide)
            have g57 := gx 57 (by decide)
            simp only [get_mk, look_cons, look_nil, set_some, Nat.reduceEqDiff, reduceIte] at g56 g57
            have hdl : 58 < t.n := by rw [hn]; show 58 < 59; decide
            clear hn
            refine .inl ?_
            simp only [zE, hdl, aStepM, optable, Nat.reduceEqDiff, reduceIte, implies_true, forall_const, reduceCtorEq, V.ofValue, V.ofScalar, V.un, V.gd, aExec, aop, g56, g57, aBin, Try.underlying3, getD_map hy]
            try simp (disch := omega) only [wrap64]
            repeat (refine And.intro (by first | omega | (intros; omega) | (intros; simp_all; done) | (intros; simp_all; omega)) ?_)
            exact k'
          simp only [set_some]
          -- 4 := assign t51
          refine aAny_only 12 rfl (by kernel_rfl) ?_; intro K k
          simp only [zE, zS, aStepM, optable, set_some, Nat.reduceEqDiff, reduceIte, Nat.reduceLT, implies_true, forall_const, reduceCtorEq, V.ofValue, V.ofScalar, V.un, V.gd, aExec, aop, Nat.reduceAdd, getD_map hy]
          repeat (refine And.intro (by first | omega | (intros; omega) | (intros; simp_all; done) | (intros; simp_all; omega)) ?_)
          refine k _ ?_; clear k K
          -- 5 := assign t58
          refine aAny_only 13 rfl (by kernel_rfl) ?_; intro K k
          simp only [zE, zS, aStepM, optable, set_some, Nat.reduceEqDiff, reduceIte, Nat.reduceLT, implies_true, forall_const, reduceCtorEq, V.ofValue, V.ofScalar, V.un, V.gd, aExec, aop, Nat.reduceAdd, getD_map hy]
          repeat (refine And.intro (by first | omega | (intros; omega) | (intros; simp_all; done) | (intros; simp_all; omega)) ?_)
          refine k _ ?_; clear k K
          -- 6 := assign c<true>
          refine aAny_only 14 rfl (by kernel_rfl) ?_; intro K k
          simp only [zE, zS, aStepM, optable, set_some, Nat.reduceEqDiff, reduceIte, Nat.reduceLT, implies_true, forall_const, reduceCtorEq, V.ofValue, V.ofScalar, V.un, V.gd, aExec, aop, Nat.reduceAdd, getD_map hy]
          repeat (refine And.intro (by first | omega | (intros; omega) | (intros; simp_all; done) | (intros; simp_all; omega)) ?_)
          refine k _ ?_; clear k K
          refine aAny_done (by kernel_rfl) ?_
          refine k51 _ ?_
          refine n50 _ _ (weak_keep [4, 5, 6] _) ?_
          simp only [keep_mk, keepE_nil, keepE_cons, look_cons, look_nil, Nat.reduceEqDiff, reduceIte]
          refine v_ret ?_
          refine r0 _ ?_
          simp only [resK, pickRV, get_mk, look_cons, look_nil, Nat.reduceEqDiff, reduceIte, List.map_cons, List.map_nil]
          rw [show l.take i = l from List.take_of_length_le (by omega)] at hF
          rw [hfr, hF]
          exact ret_pure rfl rfl (.inl rfl)
end Go.Proofs.Ytciapcamhocmcaa
