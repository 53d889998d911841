/- What functions compute (Busy). No condition. -/
import Derived.Test.YtciapcamhocmcaaTy
import Derived.Test.YtciapcamhocmcaaVm21
import Derived.Test.YtciapcamhocmcaaWTurn
import Derived.Test.YtciapcamhocmcaaWBase
import Derived.Test.YtciapcamhocmcaaWMarkSS
import Derived.Test.YtciapcamhocmcaaWTurns
set_option linter.unusedSimpArgs false
set_option linter.unusedVariables false
namespace Go.Proofs.Ytciapcamhocmcaa
open Go Go.Vm

def busyB (a b : (Int × ByteArray × Int × Int)) : Bool := decide (a.2.1 = b.2.1) && !decide (a.1 = b.1) && decide (a.2.2.1 ≤ b.2.2.2) && decide (b.2.2.1 ≤ a.2.2.2)
def busyIn (a : (Int × ByteArray × Int × Int)) (i : Nat) : Nat → List (Int × ByteArray × Int × Int) → List (List Int)
  | _, [] => []
  | k, b :: l => if busyB a b = true then [(i : Int), (k : Int)] :: busyIn a i (k + 1) l else busyIn a i (k + 1) l
def busyFrom : Nat → List (Int × ByteArray × Int × Int) → List (List Int)
  | _, [] => []
  | i, a :: l => busyIn a i (i + 1) l ++ busyFrom (i + 1) l
def busyR (l : List (Int × ByteArray × Int × Int)) : List (List Int) := if turnsB l = true then busyFrom 0 l else []
theorem busyIn_step {a : (Int × ByteArray × Int × Int)} {i : Nat} {l : List (Int × ByteArray × Int × Int)} {k : Nat} {b : (Int × ByteArray × Int × Int)} (h : l[k]? = some b) : busyIn a i k (l.drop k) = if busyB a b = true then [(i : Int), (k : Int)] :: busyIn a i (k + 1) (l.drop (k + 1)) else busyIn a i (k + 1) (l.drop (k + 1)) := by
  rw [getElem_drop_cons h, busyIn]
theorem busyIn_end {a : (Int × ByteArray × Int × Int)} {i k n : Nat} {l : List (Int × ByteArray × Int × Int)} (h : l.length ≤ k) : busyIn a i n (l.drop k) = [] := by
  rw [List.drop_of_length_le h, busyIn]
theorem busyFrom_step {l : List (Int × ByteArray × Int × Int)} {i : Nat} {a : (Int × ByteArray × Int × Int)} (h : l[i]? = some a) : busyFrom i (l.drop i) = busyIn a i (i + 1) (l.drop (i + 1)) ++ busyFrom (i + 1) (l.drop (i + 1)) := by
  rw [getElem_drop_cons h, busyFrom]
theorem busyFrom_end {l : List (Int × ByteArray × Int × Int)} {i n : Nat} (h : l.length ≤ i) : busyFrom n (l.drop i) = [] := by
  rw [List.drop_of_length_le h, busyFrom]
theorem busyIn_len (a : (Int × ByteArray × Int × Int)) (i : Nat) : ∀ (l : List (Int × ByteArray × Int × Int)) (k : Nat), (busyIn a i k l).length ≤ l.length
  | [], _ => Nat.le_refl _
  | b :: l, k => by
    have := busyIn_len a i l (k + 1)
    rw [busyIn]
    split <;> simp <;> omega
theorem busyFrom_len : ∀ (l : List (Int × ByteArray × Int × Int)) (i n : Nat), l.length ≤ n → (busyFrom i l).length ≤ l.length * n
  | [], _, _, _ => Nat.zero_le _
  | a :: l, i, n, h => by
    have h1 := busyIn_len a i l (i + 1)
    have h2 := busyFrom_len l (i + 1) n (by simp at h; omega)
    rw [busyFrom, List.length_append, List.length_cons, Nat.add_mul]
    simp at h
    omega
theorem busyIn_two (a : (Int × ByteArray × Int × Int)) (i : Nat) : ∀ (l : List (Int × ByteArray × Int × Int)) (k : Nat), ∀ p ∈ busyIn a i k l, p.length = 2
  | [], _, p, h => by cases h
  | b :: l, k, p, h => by
    rw [busyIn] at h
    split at h
    · rcases List.mem_cons.1 h with e | e
      · rw [e]; rfl
      · exact busyIn_two a i l _ p e
    · exact busyIn_two a i l _ p h
theorem busyFrom_two : ∀ (l : List (Int × ByteArray × Int × Int)) (i : Nat), ∀ p ∈ busyFrom i l, p.length = 2
  | [], _, p, h => by cases h
  | a :: l, i, p, h => by
    rw [busyFrom] at h
    rcases List.mem_append.1 h with e | e
    · exact busyIn_two a i l _ p e
    · exact busyFrom_two l _ p e
theorem turn_len {l : List (Int × ByteArray × Int × Int)} (h : turnsB l = true) : l.length ≤ 15 := by
  simp only [turnsB, Bool.and_eq_true, decide_eq_true_eq] at h
  omega
theorem busyR_len (l : List (Int × ByteArray × Int × Int)) : (busyR l).length ≤ 225 := by
  unfold busyR
  split
  · rename_i h
    have h1 := turn_len h
    have h2 := busyFrom_len l 0 15 h1
    omega
  · simp
theorem busyR_two (l : List (Int × ByteArray × Int × Int)) : ∀ p ∈ busyR l, p.length = 2 := by
  unfold busyR
  split
  · exact busyFrom_two l 0
  · simp
theorem tot_two : ∀ ll : List (List Int), (∀ p ∈ ll, p.length = 2) → totSS ll = 2 * ll.length
  | [], _ => rfl
  | p :: ll, h => by
    rw [totSS, tot_two ll (fun q hq => h q (List.mem_cons_of_mem _ hq)), h p (List.mem_cons_self ..), List.length_cons]; omega
theorem turn_valid {l : List (Int × ByteArray × Int × Int)} (h : turnsB l = true) {x : (Int × ByteArray × Int × Int)} (hx : x ∈ l) : x.2.2.1 ≤ x.2.2.2 := by
  simp only [turnsB, Bool.and_eq_true] at h
  have h2 := chain_ok h.1 x hx
  simp only [tOne, Bool.and_eq_true, decide_eq_true_eq] at h2
  exact h2.2.1
theorem snoc_SS {l : List (List Int)} {a b : Int} : l.map (fun l : List Int => V.sl (l.map (V.int .i64))) ++ [V.sl [V.int .i64 a, V.int .i64 b]] = (l ++ [[a, b]]).map (fun l : List Int => V.sl (l.map (V.int .i64))) := by rw [List.map_append]; rfl
theorem fillK_snoc {α : Type} {l : List α} {x : α} : fillK (l ++ [x]).length = fillK (l.length + 1) := by simp

-- loop.example/g01020/spec.BusyTwice
set_option maxHeartbeats 1000000 in
theorem specBusy_con (l : List (Int × ByteArray × Int × Int)) (hl : l.length ≤ 1048576) (hls : ∀ t ∈ l, t.2.1.size ≤ 9223372036854775807) : Con Try.prog 48 [.sl (l.map (fun t : Int × ByteArray × Int × Int => V.agg [V.int .i64 t.1, V.str t.2.1, V.int .i64 t.2.2.1, V.int .i64 t.2.2.2]))] [] (.tup [.ref 0, .bool (turnsB l)]) [.arr ((busyR l).map (fun l : List Int => V.sl (l.map (V.int .i64)))) (fillK (busyR l).length)] := by
  refine v_con [.tmp 2, .tmp 3] [] Try.func48 rfl rfl rfl (by simp [Try.ntmps48]) ?_
  intro Q0 n0 r0
  simp only [Try.ntmps48, envFrom, Nat.reduceAdd]
  refine v_seq ?_; intro Q1 n1 e1 r1  -- SEQ 0
  refine v_region ?_; intro K2 k2
  -- 2 := assign c<nilslice0/0>
  refine v_op ?_; intro K k
  simp only [zE, zS, aStepM, optable, set_some, Nat.reduceEqDiff, reduceIte, Nat.reduceLT, implies_true, forall_const, reduceCtorEq, V.ofValue, V.ofScalar, V.un, V.gd, aExec, aop, Nat.reduceAdd]
  repeat (refine And.intro (by first | omega | (intros; omega) | (intros; simp_all; done) | (intros; simp_all; omega)) ?_)
  refine k _ ?_; clear k K
  -- 3 := assign c<false>
  refine v_op ?_; intro K k
  simp only [zE, zS, aStepM, optable, set_some, Nat.reduceEqDiff, reduceIte, Nat.reduceLT, implies_true, forall_const, reduceCtorEq, V.ofValue, V.ofScalar, V.un, V.gd, aExec, aop, Nat.reduceAdd]
  repeat (refine And.intro (by first | omega | (intros; omega) | (intros; simp_all; done) | (intros; simp_all; omega)) ?_)
  refine k _ ?_; clear k K
  refine k2 _ ?_
  refine n1 _ _ (weak_keep [0] _) ?_
  simp only [keep_mk, keepE_nil, keepE_cons, look_cons, look_nil, Nat.reduceEqDiff, reduceIte]
  refine v_seq ?_; intro Q3 n3 e3 r3  -- SEQ 1
  refine v_seq ?_; intro Q4 n4 e4 r4  -- SEQ 2
  refine v_region ?_; intro K5 k5
  -- 9 := move t0
  refine v_op ?_; intro K k
  simp only [zE, aStepM, optable, set_some, Nat.reduceEqDiff, reduceIte, Nat.reduceLT, implies_true, forall_const, reduceCtorEq, V.ofValue, V.ofScalar, V.un, V.gd, aExec, aop]
  repeat (refine And.intro (by first | omega | (intros; omega) | (intros; simp_all; done) | (intros; simp_all; omega)) ?_)
  refine k _ ?_; clear k K
  -- 10 := call v f70 t9 | 26
  refine v_op ?_; intro K k
  simp only [zE, zM, aStepM, optable, set_some, Nat.reduceEqDiff, reduceIte, Nat.reduceLT, implies_true, forall_const, reduceCtorEq, V.ofValue, V.ofScalar, V.un, V.gd, aExec, lentIds, lendOf, Try.underlying4, Ty.c4, Ty.a4, Ty.b4, Ty.s4, Try.underlying26, Ty.c26, Ty.a26, Ty.b26, Ty.s26, Try.underlying95, Ty.c95, Ty.a95, Ty.b95, Ty.s95]
  repeat (refine And.intro (by first | rfl | (intros; simp_all; done)) ?_)
  refine aCall_new (dbGood_con l hl hls) (by first | rfl | (simp only [toArgs, toArg, toCell, toCells, idx, row_mk, List.getElem?_cons_zero, List.getElem?_cons_succ, Option.bind_some, Option.map_some, Blk.row, fillK_mix, cond_true]; done) | (simp [toArgs, toArg, toCell, toCells, idx, row_mk, Blk.row, fillK_mix, Nat.beq_refl]; done)) (by first | exact .inl ⟨rfl, by simp [Blk.kindIs, fillK_fd]⟩ | exact .inr (by simp [V.cold])) ?_
  refine k _ ?_; clear k K
  simp only [zY, zW, set_some, Nat.reduceEqDiff, reduceIte, V.ren, V.renL, rho, Nat.reduceAdd]
  -- 11 := unOp Go.UnOp.not 4 t10
  refine v_op ?_; intro K k
  simp only [zE, aStepM, optable, set_some, Nat.reduceEqDiff, reduceIte, Nat.reduceLT, implies_true, forall_const, reduceCtorEq, V.ofValue, V.ofScalar, V.un, V.gd, aExec, aop, aUn, Try.underlying4]
  repeat (refine And.intro (by first | omega | (intros; omega) | (intros; simp_all; done) | (intros; simp_all; omega)) ?_)
  refine k _ ?_; clear k K
  refine k5 _ ?_
  refine n4 _ _ (weak_keep [0, 11] _) ?_
  simp only [keep_mk, keepE_nil, keepE_cons, look_cons, look_nil, Nat.reduceEqDiff, reduceIte]
  refine v_cond _ rfl ?_ ?_  -- COND 0
  · intro hc0
    try simp only [zC, reduceCtorEq] at hc0
    refine v_seq ?_; intro Q7 n7 e7 r7  -- SEQ 3
    refine v_region ?_; intro K8 k8
    -- 2 := assign c<nilslice0/0>
    refine v_op ?_; intro K k
    simp only [zE, zS, aStepM, optable, set_some, Nat.reduceEqDiff, reduceIte, Nat.reduceLT, implies_true, forall_const, reduceCtorEq, V.ofValue, V.ofScalar, V.un, V.gd, aExec, aop, Nat.reduceAdd]
    repeat (refine And.intro (by first | omega | (intros; omega) | (intros; simp_all; done) | (intros; simp_all; omega)) ?_)
    refine k _ ?_; clear k K
    -- 3 := assign c<false>
    refine v_op ?_; intro K k
    simp only [zE, zS, aStepM, optable, set_some, Nat.reduceEqDiff, reduceIte, Nat.reduceLT, implies_true, forall_const, reduceCtorEq, V.ofValue, V.ofScalar, V.un, V.gd, aExec, aop, Nat.reduceAdd]
    repeat (refine And.intro (by first | omega | (intros; omega) | (intros; simp_all; done) | (intros; simp_all; omega)) ?_)
    refine k _ ?_; clear k K
    refine k8 _ ?_
    refine n7 _ _ (weak_keep [2, 3] _) ?_
    simp only [keep_mk, keepE_nil, keepE_cons, look_cons, look_nil, Nat.reduceEqDiff, reduceIte]
    refine v_ret ?_
    refine r3 _ ?_
    refine r0 _ ?_
    simp only [resK, pickRV, get_mk, look_cons, look_nil, Nat.reduceEqDiff, reduceIte, List.map_cons, List.map_nil]
    rw [show busyR l = [] by rw [busyR, hc0]; rfl, hc0]
    exact ret_ref_tup rfl rfl rfl (.inl rfl)
  · intro hc0
    try simp only [zC, reduceCtorEq] at hc0
    have h15 := turn_len hc0
    refine v_skip ?_
    refine n3 _ _ (weak_keep [0] _) ?_
    simp only [keep_mk, keepE_nil, keepE_cons, look_cons, look_nil, Nat.reduceEqDiff, reduceIte]
    refine v_seq ?_; intro Q9 n9 e9 r9  -- SEQ 4
    refine v_region ?_; intro K10 k10
    -- 4 := assign c<nilslice0/0>
    refine v_op ?_; intro K k
    simp only [zE, zS, aStepM, optable, set_some, Nat.reduceEqDiff, reduceIte, Nat.reduceLT, implies_true, forall_const, reduceCtorEq, V.ofValue, V.ofScalar, V.un, V.gd, aExec, aop, Nat.reduceAdd]
    repeat (refine And.intro (by first | omega | (intros; omega) | (intros; simp_all; done) | (intros; simp_all; omega)) ?_)
    refine k _ ?_; clear k K
    refine k10 _ ?_
    refine n9 _ _ (weak_keep [0, 4] _) ?_
    simp only [keep_mk, keepE_nil, keepE_cons, look_cons, look_nil, Nat.reduceEqDiff, reduceIte]
    refine v_seq ?_; intro Q11 n11 e11 r11  -- SEQ 5
    refine v_seq ?_; intro Q12 n12 e12 r12  -- SEQ 6
    refine v_region ?_; intro K13 k13
    -- 12 := move t0
    refine v_op ?_; intro K k
    simp only [zE, aStepM, optable, set_some, Nat.reduceEqDiff, reduceIte, Nat.reduceLT, implies_true, forall_const, reduceCtorEq, V.ofValue, V.ofScalar, V.un, V.gd, aExec, aop]
    repeat (refine And.intro (by first | omega | (intros; omega) | (intros; simp_all; done) | (intros; simp_all; omega)) ?_)
    refine k _ ?_; clear k K
    -- 13 := call b Go.Builtin.len t12 | 26
    refine v_op ?_; intro K k
    simp only [zE, zL, zN, aStepM, optable, set_some, Nat.reduceEqDiff, reduceIte, Nat.reduceLT, implies_true, forall_const, reduceCtorEq, V.ofValue, V.ofScalar, V.un, V.gd, aExec, aop, List.length_map, aLen, lenOK, row_mk, Blk.row, List.size_toArray, List.getD_eq_getElem?_getD, Array.getD_eq_getD_getElem?, Option.getD_some, Nat.reduceAdd, Nat.reduceLeDiff, Nat.reduceMul, Try.underlying3, Ty.c3, Ty.a3, Ty.b3, Ty.s3, Try.underlying26, Ty.c26, Ty.a26, Ty.b26, Ty.s26, Try.underlying95, Ty.c95, Ty.a95, Ty.b95, Ty.s95]
    repeat (refine And.intro (by first | omega | (intros; omega) | (intros; simp_all; done) | (intros; simp_all; omega)) ?_)
    refine k _ ?_; clear k K
    -- 14 := move c<0:i64>
    refine v_op ?_; intro K k
    simp only [zE, aStepM, optable, set_some, Nat.reduceEqDiff, reduceIte, Nat.reduceLT, implies_true, forall_const, reduceCtorEq, V.ofValue, V.ofScalar, V.un, V.gd, aExec, aop]
    repeat (refine And.intro (by first | omega | (intros; omega) | (intros; simp_all; done) | (intros; simp_all; omega)) ?_)
    refine k _ ?_; clear k K
    refine k13 _ ?_
    refine n12 _ _ (weak_keep [0, 4, 12, 13, 14] _) ?_
    simp only [keep_mk, keepE_nil, keepE_cons, look_cons, look_nil, Nat.reduceEqDiff, reduceIte]
    refine v_block ?_; intro Q14 n14 x14 e14 r14
    refine v_loop (fun p => ⟨[(0, .sl (l.map (fun t : Int × ByteArray × Int × Int => V.agg [V.int .i64 t.1, V.str t.2.1, V.int .i64 t.2.2.1, V.int .i64 t.2.2.2]))), (4, .ref 0), (12, .sl (l.map (fun t : Int × ByteArray × Int × Int => V.agg [V.int .i64 t.1, V.str t.2.1, V.int .i64 t.2.2.1, V.int .i64 t.2.2.2]))), (13, .int .i64 l.length), (14, .int .i64 (Nat.cast p.1))], [.arr (p.2.map (fun l : List Int => V.sl (l.map (V.int .i64)))) (fillK p.2.length)], false, 65, 0⟩) (fun p => p.1 ≤ l.length ∧ p.2.length ≤ 15 * p.1 ∧ p.2 ++ busyFrom p.1 (l.drop p.1) = busyFrom 0 l) (fun p => l.length - p.1) ((0, []) : Nat × List (List Int)) ?_ ?_ ?_
    · refine weak_both [0, 4, 12, 13, 14] [1] (by decide) (by simp) ?_ ?_ ?_
      · simp [keep_mk, keepE_nil, keepE_cons, look_cons, V.only, V.onlyL, idx] <;> (first | rfl | decide)
      · simp [Blk.kindIs, fillK_mix]
      simp only [keep_mk, keepE_nil, keepE_cons, look_cons, look_nil, Nat.reduceEqDiff, reduceIte, St.comp, List.map_cons, List.map_nil, V.ren, V.renL, idx, List.getD_cons_zero, List.getD_cons_succ, Nat.reduceBEq, cond_true, cond_false, Option.map_some, Option.getD_some, Nat.reduceAdd, Nat.beq_eq_true_eq]
      rfl
    · exact ⟨Nat.zero_le _, Nat.le_refl _, rfl⟩
    · rintro ⟨i, acc⟩ hok15 Q15 n15 e15 r15
      obtain ⟨hi1, hal, hR⟩ := hok15
      simp only [] at hi1 hal hR ⊢
      refine v_seq ?_; intro Q16 n16 e16 r16  -- SEQ 7
      refine v_region ?_; intro K17 k17
      -- 15 := binOp Go.BinOp.lss 3 t14 t13 3
      refine v_op ?_; intro K k
      simp only [zE, aStepM, optable, set_some, Nat.reduceEqDiff, reduceIte, Nat.reduceLT, implies_true, forall_const, reduceCtorEq, V.ofValue, V.ofScalar, V.un, V.gd, aExec, aop, aBin, Try.underlying3]
      repeat (refine And.intro (by first | omega | (intros; omega) | (intros; simp_all; done) | (intros; simp_all; omega)) ?_)
      refine k _ ?_; clear k K
      refine k17 _ ?_
      refine n16 _ _ (weak_keep [0, 4, 12, 13, 14, 15] _) ?_
      simp only [keep_mk, keepE_nil, keepE_cons, look_cons, look_nil, Nat.reduceEqDiff, reduceIte]
      refine v_seq ?_; intro Q18 n18 e18 r18  -- SEQ 8
      refine v_cond _ rfl ?_ ?_  -- COND 1
      · intro hc1
        try simp only [zC, reduceCtorEq] at hc1
        have hlt : i < l.length := by omega
        obtain ⟨⟨x0, x1, x2, x3⟩, hx⟩ : ∃ x : Int × ByteArray × Int × Int, l[i]? = some x := ⟨l[i]'(by omega), List.getElem?_eq_getElem (by omega)⟩
        have hva := turn_valid hc0 (List.mem_of_getElem? hx)
        simp only [] at hva
        have hst := busyFrom_step hx
        refine v_skip ?_
        refine n18 _ _ (weak_keep [0, 4, 12, 13, 14] _) ?_
        simp only [keep_mk, keepE_nil, keepE_cons, look_cons, look_nil, Nat.reduceEqDiff, reduceIte]
        refine v_seq ?_; intro Q20 n20 e20 r20  -- SEQ 9
        refine v_block ?_; intro Q21 n21 x21 e21 r21
        refine v_seq ?_; intro Q22 n22 e22 r22  -- SEQ 10
        refine v_region ?_; intro K23 k23
        -- 16 := move t14
        refine v_op ?_; intro K k
        simp only [zE, aStepM, optable, set_some, Nat.reduceEqDiff, reduceIte, Nat.reduceLT, implies_true, forall_const, reduceCtorEq, V.ofValue, V.ofScalar, V.un, V.gd, aExec, aop, getD_map hx]
        repeat (refine And.intro (by first | omega | (intros; omega) | (intros; simp_all; done) | (intros; simp_all; omega)) ?_)
        refine k _ ?_; clear k K
        -- 17 := indexAddr 26 t12 t14
        refine v_op ?_; intro K k
        simp only [zE, zL, zN, aStepM, optable, set_some, Nat.reduceEqDiff, reduceIte, Nat.reduceLT, implies_true, forall_const, reduceCtorEq, V.ofValue, V.ofScalar, V.un, V.gd, aExec, aop, aIndexAddr, row_mk, Blk.row, Go.Vm.V.cells, List.forall_mem_map, List.length_map, Int.toNat_natCast, Int.reduceToNat, TypeDesc.slice.injEq, Nat.reduceAdd, Nat.reduceLeDiff, Nat.reduceMul, Try.underlying26, Ty.c26, Ty.a26, Try.underlying95, Ty.c95, Ty.a95, getD_map hx]
        repeat (refine And.intro (by first | omega | (intros; omega) | (intros; simp_all; done) | (intros; simp_all; omega)) ?_)
        refine k _ ?_; clear k K
        -- 18 := load 95 t17
        refine v_op ?_; intro K k
        simp only [zE, zL, zO, zN, aStepM, optable, set_some, Nat.reduceEqDiff, reduceIte, Nat.reduceLT, implies_true, forall_const, reduceCtorEq, V.ofValue, V.ofScalar, V.un, V.gd, aExec, aop, aLoad, row_mk, Blk.row, PartOK, Go.Vm.part, V.cells, V.noSl, V.noRef, Nat.reduceAdd, Nat.reduceLeDiff, Nat.reduceMul, Try.underlying3, Ty.c3, Ty.a3, Try.underlying9, Ty.c9, Ty.a9, Try.underlying95, Ty.c95, Ty.a95, getD_map hx]
        repeat (refine And.intro (by first | omega | (intros; omega) | (intros; simp_all; done) | (intros; simp_all; omega)) ?_)
        refine k _ ?_; clear k K
        -- 6 := alloc 95
        refine v_op ?_; intro K k
        simp only [zE, zS, zO, zN, aStepM, optable, set_some, Nat.reduceEqDiff, reduceIte, Nat.reduceLT, implies_true, forall_const, reduceCtorEq, V.ofValue, V.ofScalar, V.un, V.gd, aExec, aop, Nat.reduceAdd, Value.oneCell', V.isVal, V.cells, kindOf, kindAll, V.noSl, V.noRef, List.all_cons, List.all_nil, List.map_cons, List.map_nil, gt_iff_lt, Nat.reduceLeDiff, Nat.reduceMul, Try.underlying3, Ty.c3, Ty.a3, Ty.z3, Try.underlying9, Ty.c9, Ty.a9, Ty.z9, Try.underlying95, Ty.c95, Ty.a95, Ty.z95, getD_map hx]
        repeat (refine And.intro (by first | omega | (intros; omega) | (intros; simp_all; done) | (intros; simp_all; omega)) ?_)
        refine k _ ?_; clear k K
        -- 5 := assign t16
        refine v_op ?_; intro K k
        simp only [zE, zS, aStepM, optable, set_some, Nat.reduceEqDiff, reduceIte, Nat.reduceLT, implies_true, forall_const, reduceCtorEq, V.ofValue, V.ofScalar, V.un, V.gd, aExec, aop, Nat.reduceAdd, getD_map hx]
        repeat (refine And.intro (by first | omega | (intros; omega) | (intros; simp_all; done) | (intros; simp_all; omega)) ?_)
        refine k _ ?_; clear k K
        -- None := store 95 t6 t18
        refine v_op ?_; intro K k
        simp only [zE, zS, zJ, zL, zO, zN, aStepM, optable, set_some, Nat.reduceEqDiff, reduceIte, Nat.reduceLT, implies_true, forall_const, reduceCtorEq, V.ofValue, V.ofScalar, V.un, V.gd, aExec, aop, aStore, setCells, V.isVal, V.cells, kindOf, kindAll, V.noSl, V.noRef, gt_iff_lt, Nat.reduceAdd, Nat.reduceLeDiff, Nat.reduceMul, takeV, takeCell, takeCells, row_mk, Blk.row, killAll, Nat.reduceBEq, Try.underlying3, Ty.c3, Ty.a3, Try.underlying9, Ty.c9, Ty.a9, Try.underlying95, Ty.c95, Ty.a95, getD_map hx]
        repeat (refine And.intro (by first | omega | (intros; omega) | (intros; simp_all; done) | (intros; simp_all; omega)) ?_)
        refine k _ ?_; clear k K
        refine k23 _ ?_
        refine n22 _ _ (weak_keep [0, 4, 5, 6, 12, 13, 14] _) ?_
        simp only [keep_mk, keepE_nil, keepE_cons, look_cons, look_nil, Nat.reduceEqDiff, reduceIte]
        refine v_seq ?_; intro Q24 n24 e24 r24  -- SEQ 11
        refine v_region ?_; intro K25 k25
        -- 19 := move t5
        refine v_op ?_; intro K k
        simp only [zE, aStepM, optable, set_some, Nat.reduceEqDiff, reduceIte, Nat.reduceLT, implies_true, forall_const, reduceCtorEq, V.ofValue, V.ofScalar, V.un, V.gd, aExec, aop, getD_map hx]
        repeat (refine And.intro (by first | omega | (intros; omega) | (intros; simp_all; done) | (intros; simp_all; omega)) ?_)
        refine k _ ?_; clear k K
        -- 20 := binOp Go.BinOp.add 3 t19 c<1:i64> 3
        refine v_op ?_; intro K k
        simp only [zE, aStepM, optable, set_some, Nat.reduceEqDiff, reduceIte, Nat.reduceLT, implies_true, forall_const, reduceCtorEq, V.ofValue, V.ofScalar, V.un, V.gd, aExec, aop, aBin, Try.underlying3, getD_map hx]
        try simp (disch := omega) only [wrap64]
        repeat (refine And.intro (by first | omega | (intros; omega) | (intros; simp_all; done) | (intros; simp_all; omega)) ?_)
        refine k _ ?_; clear k K
        -- 7 := assign t20
        refine v_op ?_; intro K k
        simp only [zE, zS, aStepM, optable, set_some, Nat.reduceEqDiff, reduceIte, Nat.reduceLT, implies_true, forall_const, reduceCtorEq, V.ofValue, V.ofScalar, V.un, V.gd, aExec, aop, Nat.reduceAdd, getD_map hx]
        repeat (refine And.intro (by first | omega | (intros; omega) | (intros; simp_all; done) | (intros; simp_all; omega)) ?_)
        refine k _ ?_; clear k K
        refine k25 _ ?_
        refine n24 _ _ (weak_keep [0, 4, 5, 6, 7, 12, 13, 14] _) ?_
        simp only [keep_mk, keepE_nil, keepE_cons, look_cons, look_nil, Nat.reduceEqDiff, reduceIte]
        refine v_block ?_; intro Q26 n26 x26 e26 r26
        refine v_loop (fun q => ⟨[(0, .sl (l.map (fun t : Int × ByteArray × Int × Int => V.agg [V.int .i64 t.1, V.str t.2.1, V.int .i64 t.2.2.1, V.int .i64 t.2.2.2]))), (4, .ref 0), (5, .int .i64 (Nat.cast i)), (6, .ptr 1 0 0), (7, .int .i64 (Nat.cast q.1)), (12, .sl (l.map (fun t : Int × ByteArray × Int × Int => V.agg [V.int .i64 t.1, V.str t.2.1, V.int .i64 t.2.2.1, V.int .i64 t.2.2.2]))), (13, .int .i64 l.length), (14, .int .i64 (Nat.cast i))], [.arr (q.2.map (fun l : List Int => V.sl (l.map (V.int .i64)))) (fillK q.2.length), (.box (.agg [.int .i64 x0, .str x1, .int .i64 x2, .int .i64 x3]) .flat)], false, 65, 0⟩) (fun q => q.1 ≤ l.length ∧ i < q.1 ∧ q.2.length + (i + 1) ≤ 15 * i + q.1 ∧ q.2 ++ busyIn (x0, x1, x2, x3) i q.1 (l.drop q.1) = acc ++ busyIn (x0, x1, x2, x3) i (i + 1) (l.drop (i + 1))) (fun q => l.length - q.1) ((i + 1, acc) : Nat × List (List Int)) ?_ ?_ ?_
        · refine weak_both [0, 4, 5, 6, 7, 12, 13, 14] [0, 1] (by decide) (by simp) ?_ ?_ ?_
          · simp [keep_mk, keepE_nil, keepE_cons, look_cons, V.only, V.onlyL, idx] <;> (first | rfl | decide)
          · simp [Blk.kindIs, fillK_mix]
          simp only [keep_mk, keepE_nil, keepE_cons, look_cons, look_nil, Nat.reduceEqDiff, reduceIte, St.comp, List.map_cons, List.map_nil, V.ren, V.renL, idx, List.getD_cons_zero, List.getD_cons_succ, Nat.reduceBEq, cond_true, cond_false, Option.map_some, Option.getD_some, Nat.reduceAdd, Nat.beq_eq_true_eq]
          rfl
        · exact ⟨hlt, Nat.lt_succ_self _, by show acc.length + (i + 1) ≤ 15 * i + (i + 1); omega, rfl⟩
        · rintro ⟨k, acc2⟩ hok27 Q27 n27 e27 r27
          obtain ⟨hk1, hik, hal2, hR2⟩ := hok27
          simp only [] at hk1 hik hal2 hR2 ⊢
          refine v_seq ?_; intro Q28 n28 e28 r28  -- SEQ 12
          refine v_seq ?_; intro Q29 n29 e29 r29  -- SEQ 13
          refine v_region ?_; intro K30 k30
          -- 21 := move t7
          refine v_op ?_; intro K k
          simp only [zE, aStepM, optable, set_some, Nat.reduceEqDiff, reduceIte, Nat.reduceLT, implies_true, forall_const, reduceCtorEq, V.ofValue, V.ofScalar, V.un, V.gd, aExec, aop, getD_map hx]
          repeat (refine And.intro (by first | omega | (intros; omega) | (intros; simp_all; done) | (intros; simp_all; omega)) ?_)
          refine k _ ?_; clear k K
          -- 22 := move t0
          refine v_op ?_; intro K k
          simp only [zE, aStepM, optable, set_some, Nat.reduceEqDiff, reduceIte, Nat.reduceLT, implies_true, forall_const, reduceCtorEq, V.ofValue, V.ofScalar, V.un, V.gd, aExec, aop, getD_map hx]
          repeat (refine And.intro (by first | omega | (intros; omega) | (intros; simp_all; done) | (intros; simp_all; omega)) ?_)
          refine k _ ?_; clear k K
          -- 23 := call b Go.Builtin.len t22 | 26
          refine v_op ?_; intro K k
          simp only [zE, zL, zN, aStepM, optable, set_some, Nat.reduceEqDiff, reduceIte, Nat.reduceLT, implies_true, forall_const, reduceCtorEq, V.ofValue, V.ofScalar, V.un, V.gd, aExec, aop, List.length_map, aLen, lenOK, row_mk, Blk.row, List.size_toArray, List.getD_eq_getElem?_getD, Array.getD_eq_getD_getElem?, Option.getD_some, Nat.reduceAdd, Nat.reduceLeDiff, Nat.reduceMul, Try.underlying3, Ty.c3, Ty.a3, Ty.b3, Ty.s3, Try.underlying26, Ty.c26, Ty.a26, Ty.b26, Ty.s26, Try.underlying95, Ty.c95, Ty.a95, Ty.b95, Ty.s95, getD_map hx]
          repeat (refine And.intro (by first | omega | (intros; omega) | (intros; simp_all; done) | (intros; simp_all; omega)) ?_)
          refine k _ ?_; clear k K
          -- 24 := binOp Go.BinOp.lss 3 t21 t23 3
          refine v_op ?_; intro K k
          simp only [zE, aStepM, optable, set_some, Nat.reduceEqDiff, reduceIte, Nat.reduceLT, implies_true, forall_const, reduceCtorEq, V.ofValue, V.ofScalar, V.un, V.gd, aExec, aop, aBin, Try.underlying3, getD_map hx]
          repeat (refine And.intro (by first | omega | (intros; omega) | (intros; simp_all; done) | (intros; simp_all; omega)) ?_)
          refine k _ ?_; clear k K
          refine k30 _ ?_
          refine n29 _ _ (weak_keep [0, 4, 5, 6, 7, 12, 13, 14, 24] _) ?_
          simp only [keep_mk, keepE_nil, keepE_cons, look_cons, look_nil, Nat.reduceEqDiff, reduceIte]
          refine v_cond _ rfl ?_ ?_  -- COND 2
          · intro hc2
            try simp only [zC, reduceCtorEq] at hc2
            have hltk : k < l.length := by omega
            obtain ⟨⟨y0, y1, y2, y3⟩, hy⟩ : ∃ x : Int × ByteArray × Int × Int, l[k]? = some x := ⟨l[k]'(by omega), List.getElem?_eq_getElem (by omega)⟩
            have hst2 := busyIn_step (a := (x0, x1, x2, x3)) (i := i) hy
            refine v_skip ?_
            refine n28 _ _ (weak_keep [0, 4, 5, 6, 7, 12, 13, 14] _) ?_
            simp only [keep_mk, keepE_nil, keepE_cons, look_cons, look_nil, Nat.reduceEqDiff, reduceIte]
            refine v_seq ?_; intro Q32 n32 e32 r32  -- SEQ 14
            refine v_block ?_; intro Q33 n33 x33 e33 r33
            refine v_seq ?_; intro Q34 n34 e34 r34  -- SEQ 15
            refine v_region ?_; intro K35 k35
            -- 27 := move t0
            refine v_op ?_; intro K k
            simp only [zE, aStepM, optable, set_some, Nat.reduceEqDiff, reduceIte, Nat.reduceLT, implies_true, forall_const, reduceCtorEq, V.ofValue, V.ofScalar, V.un, V.gd, aExec, aop, getD_map hx, getD_map hy]
            repeat (refine And.intro (by first | omega | (intros; omega) | (intros; simp_all; done) | (intros; simp_all; omega)) ?_)
            refine k _ ?_; clear k K
            -- 28 := move t7
            refine v_op ?_; intro K k
            simp only [zE, aStepM, optable, set_some, Nat.reduceEqDiff, reduceIte, Nat.reduceLT, implies_true, forall_const, reduceCtorEq, V.ofValue, V.ofScalar, V.un, V.gd, aExec, aop, getD_map hx, getD_map hy]
            repeat (refine And.intro (by first | omega | (intros; omega) | (intros; simp_all; done) | (intros; simp_all; omega)) ?_)
            refine k _ ?_; clear k K
            -- 29 := indexAddr 26 t27 t28
            refine v_op ?_; intro K k
            simp only [zE, zL, zN, aStepM, optable, set_some, Nat.reduceEqDiff, reduceIte, Nat.reduceLT, implies_true, forall_const, reduceCtorEq, V.ofValue, V.ofScalar, V.un, V.gd, aExec, aop, aIndexAddr, row_mk, Blk.row, Go.Vm.V.cells, List.forall_mem_map, List.length_map, Int.toNat_natCast, Int.reduceToNat, TypeDesc.slice.injEq, Nat.reduceAdd, Nat.reduceLeDiff, Nat.reduceMul, Try.underlying26, Ty.c26, Ty.a26, Try.underlying95, Ty.c95, Ty.a95, getD_map hx, getD_map hy]
            repeat (refine And.intro (by first | omega | (intros; omega) | (intros; simp_all; done) | (intros; simp_all; omega)) ?_)
            refine k _ ?_; clear k K
            -- 30 := load 95 t29
            refine v_op ?_; intro K k
            simp only [zE, zL, zO, zN, aStepM, optable, set_some, Nat.reduceEqDiff, reduceIte, Nat.reduceLT, implies_true, forall_const, reduceCtorEq, V.ofValue, V.ofScalar, V.un, V.gd, aExec, aop, aLoad, row_mk, Blk.row, PartOK, Go.Vm.part, V.cells, V.noSl, V.noRef, Nat.reduceAdd, Nat.reduceLeDiff, Nat.reduceMul, Try.underlying3, Ty.c3, Ty.a3, Try.underlying9, Ty.c9, Ty.a9, Try.underlying95, Ty.c95, Ty.a95, getD_map hx, getD_map hy]
            repeat (refine And.intro (by first | omega | (intros; omega) | (intros; simp_all; done) | (intros; simp_all; omega)) ?_)
            refine k _ ?_; clear k K
            -- 8 := alloc 95
            refine v_op ?_; intro K k
            simp only [zE, zS, zO, zN, aStepM, optable, set_some, Nat.reduceEqDiff, reduceIte, Nat.reduceLT, implies_true, forall_const, reduceCtorEq, V.ofValue, V.ofScalar, V.un, V.gd, aExec, aop, Nat.reduceAdd, Value.oneCell', V.isVal, V.cells, kindOf, kindAll, V.noSl, V.noRef, List.all_cons, List.all_nil, List.map_cons, List.map_nil, gt_iff_lt, Nat.reduceLeDiff, Nat.reduceMul, Try.underlying3, Ty.c3, Ty.a3, Ty.z3, Try.underlying9, Ty.c9, Ty.a9, Ty.z9, Try.underlying95, Ty.c95, Ty.a95, Ty.z95, getD_map hx, getD_map hy]
            repeat (refine And.intro (by first | omega | (intros; omega) | (intros; simp_all; done) | (intros; simp_all; omega)) ?_)
            refine k _ ?_; clear k K
            -- None := store 95 t8 t30
            refine v_op ?_; intro K k
            simp only [zE, zS, zJ, zL, zO, zN, aStepM, optable, set_some, Nat.reduceEqDiff, reduceIte, Nat.reduceLT, implies_true, forall_const, reduceCtorEq, V.ofValue, V.ofScalar, V.un, V.gd, aExec, aop, aStore, setCells, V.isVal, V.cells, kindOf, kindAll, V.noSl, V.noRef, gt_iff_lt, Nat.reduceAdd, Nat.reduceLeDiff, Nat.reduceMul, takeV, takeCell, takeCells, row_mk, Blk.row, killAll, Nat.reduceBEq, Try.underlying3, Ty.c3, Ty.a3, Try.underlying9, Ty.c9, Ty.a9, Try.underlying95, Ty.c95, Ty.a95, getD_map hx, getD_map hy]
            repeat (refine And.intro (by first | omega | (intros; omega) | (intros; simp_all; done) | (intros; simp_all; omega)) ?_)
            refine k _ ?_; clear k K
            refine k35 _ ?_
            refine n34 _ _ (weak_keep [0, 4, 5, 6, 7, 8, 12, 13, 14] _) ?_
            simp only [keep_mk, keepE_nil, keepE_cons, look_cons, look_nil, Nat.reduceEqDiff, reduceIte]
            refine v_seq ?_; intro Q36 n36 e36 r36  -- SEQ 16
            refine v_region ?_; intro K37 k37
            -- 31 := fieldAddr 95 t6 1
            refine v_op ?_; intro K k
            simp only [zE, zL, zN, aStepM, optable, set_some, Nat.reduceEqDiff, reduceIte, Nat.reduceLT, implies_true, forall_const, reduceCtorEq, V.ofValue, V.ofScalar, V.un, V.gd, aExec, aop, aFieldAddr, Nat.reduceAdd, Nat.reduceLeDiff, Nat.reduceMul, Try.underlying3, Ty.c3, Ty.a3, Try.underlying9, Ty.c9, Ty.a9, Try.underlying95, Ty.c95, Ty.a95, getD_map hx, getD_map hy]
            repeat (refine And.intro (by first | omega | (intros; omega) | (intros; simp_all; done) | (intros; simp_all; omega)) ?_)
            refine k _ ?_; clear k K
            -- 32 := load 9 t31
            refine v_op ?_; intro K k
            simp only [zE, zL, zO, zN, aStepM, optable, set_some, Nat.reduceEqDiff, reduceIte, Nat.reduceLT, implies_true, forall_const, reduceCtorEq, V.ofValue, V.ofScalar, V.un, V.gd, aExec, aop, aLoad, row_mk, Blk.row, PartOK, Go.Vm.part, V.cells, V.noSl, V.noRef, Nat.reduceAdd, Nat.reduceLeDiff, Nat.reduceMul, Try.underlying9, Ty.c9, Ty.a9, getD_map hx, getD_map hy]
            repeat (refine And.intro (by first | omega | (intros; omega) | (intros; simp_all; done) | (intros; simp_all; omega)) ?_)
            refine k _ ?_; clear k K
            -- 33 := fieldAddr 95 t8 1
            refine v_op ?_; intro K k
            simp only [zE, zL, zN, aStepM, optable, set_some, Nat.reduceEqDiff, reduceIte, Nat.reduceLT, implies_true, forall_const, reduceCtorEq, V.ofValue, V.ofScalar, V.un, V.gd, aExec, aop, aFieldAddr, Nat.reduceAdd, Nat.reduceLeDiff, Nat.reduceMul, Try.underlying3, Ty.c3, Ty.a3, Try.underlying9, Ty.c9, Ty.a9, Try.underlying95, Ty.c95, Ty.a95, getD_map hx, getD_map hy]
            repeat (refine And.intro (by first | omega | (intros; omega) | (intros; simp_all; done) | (intros; simp_all; omega)) ?_)
            refine k _ ?_; clear k K
            -- 34 := load 9 t33
            refine v_op ?_; intro K k
            simp only [zE, zL, zO, zN, aStepM, optable, set_some, Nat.reduceEqDiff, reduceIte, Nat.reduceLT, implies_true, forall_const, reduceCtorEq, V.ofValue, V.ofScalar, V.un, V.gd, aExec, aop, aLoad, row_mk, Blk.row, PartOK, Go.Vm.part, V.cells, V.noSl, V.noRef, Nat.reduceAdd, Nat.reduceLeDiff, Nat.reduceMul, Try.underlying9, Ty.c9, Ty.a9, getD_map hx, getD_map hy]
            repeat (refine And.intro (by first | omega | (intros; omega) | (intros; simp_all; done) | (intros; simp_all; omega)) ?_)
            refine k _ ?_; clear k K
            -- 35 := binOp Go.BinOp.eql 9 t32 t34 9
            refine v_op ?_; intro K k
            simp only [zE, aStepM, optable, set_some, Nat.reduceEqDiff, reduceIte, Nat.reduceLT, implies_true, forall_const, reduceCtorEq, V.ofValue, V.ofScalar, V.un, V.gd, aExec, aop, aBin, Try.underlying9, getD_map hx, getD_map hy]
            repeat (refine And.intro (by first | omega | (intros; omega) | (intros; simp_all; done) | (intros; simp_all; omega)) ?_)
            refine k _ ?_; clear k K
            -- 36 := move t35
            refine v_op ?_; intro K k
            simp only [zE, aStepM, optable, set_some, Nat.reduceEqDiff, reduceIte, Nat.reduceLT, implies_true, forall_const, reduceCtorEq, V.ofValue, V.ofScalar, V.un, V.gd, aExec, aop, getD_map hx, getD_map hy]
            repeat (refine And.intro (by first | omega | (intros; omega) | (intros; simp_all; done) | (intros; simp_all; omega)) ?_)
            refine k _ ?_; clear k K
            -- 37 := fieldAddr 95 t6 0
            first
            | refine v_pass 37 5 true rfl (show 37 < 65 by decide) rfl ?_ ?_
              · first | rfl | (simp only [zV, guardV, Nat.reduceEqDiff, reduceIte]; done)
              simp only [zW, set_some, Nat.reduceEqDiff, reduceIte]
            | skip
              -- 37 := fieldAddr 95 t6 0
              refine v_op ?_; intro K k
              simp only [zE, zL, zN, aStepM, optable, set_some, Nat.reduceEqDiff, reduceIte, Nat.reduceLT, implies_true, forall_const, reduceCtorEq, V.ofValue, V.ofScalar, V.un, V.gd, guardV, V.wrap, aExec, aop, aFieldAddr, Nat.reduceAdd, Nat.reduceLeDiff, Nat.reduceMul, Try.underlying3, Ty.c3, Ty.a3, Try.underlying9, Ty.c9, Ty.a9, Try.underlying95, Ty.c95, Ty.a95, getD_map hx, getD_map hy]
              repeat (refine And.intro (by first | omega | (intros; omega) | (intros; simp_all; done) | (intros; simp_all; omega)) ?_)
              refine k _ ?_; clear k K
            -- 38 := load 3 t37
            first
            | refine v_pass 38 5 true rfl (show 38 < 65 by decide) rfl ?_ ?_
              · first | rfl | (simp only [zV, guardV, Nat.reduceEqDiff, reduceIte]; done)
              simp only [zW, set_some, Nat.reduceEqDiff, reduceIte]
            | skip
              -- 38 := load 3 t37
              refine v_op ?_; intro K k
              simp only [zE, zL, zO, zN, aStepM, optable, set_some, Nat.reduceEqDiff, reduceIte, Nat.reduceLT, implies_true, forall_const, reduceCtorEq, V.ofValue, V.ofScalar, V.un, V.gd, guardV, V.wrap, aExec, aop, aLoad, row_mk, Blk.row, PartOK, Go.Vm.part, V.cells, V.noSl, V.noRef, Nat.reduceAdd, Nat.reduceLeDiff, Nat.reduceMul, Try.underlying3, Ty.c3, Ty.a3, getD_map hx, getD_map hy]
              repeat (refine And.intro (by first | omega | (intros; omega) | (intros; simp_all; done) | (intros; simp_all; omega)) ?_)
              refine k _ ?_; clear k K
            -- 39 := fieldAddr 95 t8 0
            first
            | refine v_pass 39 5 true rfl (show 39 < 65 by decide) rfl ?_ ?_
              · first | rfl | (simp only [zV, guardV, Nat.reduceEqDiff, reduceIte]; done)
              simp only [zW, set_some, Nat.reduceEqDiff, reduceIte]
            | skip
              -- 39 := fieldAddr 95 t8 0
              refine v_op ?_; intro K k
              simp only [zE, zL, zN, aStepM, optable, set_some, Nat.reduceEqDiff, reduceIte, Nat.reduceLT, implies_true, forall_const, reduceCtorEq, V.ofValue, V.ofScalar, V.un, V.gd, guardV, V.wrap, aExec, aop, aFieldAddr, Nat.reduceAdd, Nat.reduceLeDiff, Nat.reduceMul, Try.underlying3, Ty.c3, Ty.a3, Try.underlying9, Ty.c9, Ty.a9, Try.underlying95, Ty.c95, Ty.a95, getD_map hx, getD_map hy]
              repeat (refine And.intro (by first | omega | (intros; omega) | (intros; simp_all; done) | (intros; simp_all; omega)) ?_)
              refine k _ ?_; clear k K
            -- 40 := load 3 t39
            first
            | refine v_pass 40 5 true rfl (show 40 < 65 by decide) rfl ?_ ?_
              · first | rfl | (simp only [zV, guardV, Nat.reduceEqDiff, reduceIte]; done)
              simp only [zW, set_some, Nat.reduceEqDiff, reduceIte]
            | skip
              -- 40 := load 3 t39
              refine v_op ?_; intro K k
              simp only [zE, zL, zO, zN, aStepM, optable, set_some, Nat.reduceEqDiff, reduceIte, Nat.reduceLT, implies_true, forall_const, reduceCtorEq, V.ofValue, V.ofScalar, V.un, V.gd, guardV, V.wrap, aExec, aop, aLoad, row_mk, Blk.row, PartOK, Go.Vm.part, V.cells, V.noSl, V.noRef, Nat.reduceAdd, Nat.reduceLeDiff, Nat.reduceMul, Try.underlying3, Ty.c3, Ty.a3, getD_map hx, getD_map hy]
              repeat (refine And.intro (by first | omega | (intros; omega) | (intros; simp_all; done) | (intros; simp_all; omega)) ?_)
              refine k _ ?_; clear k K
            -- 41 := binOp Go.BinOp.neq 3 t38 t40 3
            first
            | refine v_pass 41 5 true rfl (show 41 < 65 by decide) rfl ?_ ?_
              · first | rfl | (simp only [zV, guardV, Nat.reduceEqDiff, reduceIte]; done)
              simp only [zW, set_some, Nat.reduceEqDiff, reduceIte]
            | skip
              -- 41 := binOp Go.BinOp.neq 3 t38 t40 3
              refine v_op ?_; intro K k
              simp only [zE, zG, aStepM, optable, set_some, Nat.reduceEqDiff, reduceIte, Nat.reduceLT, implies_true, forall_const, reduceCtorEq, V.ofValue, V.ofScalar, V.un, V.gd, guardV, V.wrap, aExec, aop, aBin, Try.underlying3, getD_map hx, getD_map hy]
              repeat (refine And.intro (by first | omega | (intros; omega) | (intros; simp_all; done) | (intros; simp_all; omega)) ?_)
              refine k _ ?_; clear k K
            -- 42 := pick t36 t41 c<false>
            refine v_op ?_; intro K k
            simp only [zE, zP, aStepM, optable, set_some, Nat.reduceEqDiff, reduceIte, Nat.reduceLT, implies_true, forall_const, reduceCtorEq, V.ofValue, V.ofScalar, V.un, V.gd, aExec, aop, pickV, getD_map hx, getD_map hy]
            repeat (refine And.intro (by first | omega | (intros; omega) | (intros; simp_all; done) | (intros; simp_all; omega)) ?_)
            refine k _ ?_; clear k K
            -- 43 := move t42
            refine v_op ?_; intro K k
            simp only [zE, aStepM, optable, set_some, Nat.reduceEqDiff, reduceIte, Nat.reduceLT, implies_true, forall_const, reduceCtorEq, V.ofValue, V.ofScalar, V.un, V.gd, aExec, aop, getD_map hx, getD_map hy]
            repeat (refine And.intro (by first | omega | (intros; omega) | (intros; simp_all; done) | (intros; simp_all; omega)) ?_)
            refine k _ ?_; clear k K
            -- 44 := fieldAddr 95 t6 2
            first
            | refine v_pass 44 12 true rfl (show 44 < 65 by decide) rfl ?_ ?_
              · first | rfl | (simp only [zV, guardV, Nat.reduceEqDiff, reduceIte]; done)
              simp only [zW, set_some, Nat.reduceEqDiff, reduceIte]
            | skip
              -- 44 := fieldAddr 95 t6 2
              refine v_op ?_; intro K k
              simp only [zE, zL, zN, aStepM, optable, set_some, Nat.reduceEqDiff, reduceIte, Nat.reduceLT, implies_true, forall_const, reduceCtorEq, V.ofValue, V.ofScalar, V.un, V.gd, guardV, V.wrap, aExec, aop, aFieldAddr, Nat.reduceAdd, Nat.reduceLeDiff, Nat.reduceMul, Try.underlying3, Ty.c3, Ty.a3, Try.underlying9, Ty.c9, Ty.a9, Try.underlying95, Ty.c95, Ty.a95, getD_map hx, getD_map hy]
              repeat (refine And.intro (by first | omega | (intros; omega) | (intros; simp_all; done) | (intros; simp_all; omega)) ?_)
              refine k _ ?_; clear k K
            -- 45 := load 3 t44
            first
            | refine v_pass 45 12 true rfl (show 45 < 65 by decide) rfl ?_ ?_
              · first | rfl | (simp only [zV, guardV, Nat.reduceEqDiff, reduceIte]; done)
              simp only [zW, set_some, Nat.reduceEqDiff, reduceIte]
            | skip
              -- 45 := load 3 t44
              refine v_op ?_; intro K k
              simp only [zE, zL, zO, zN, aStepM, optable, set_some, Nat.reduceEqDiff, reduceIte, Nat.reduceLT, implies_true, forall_const, reduceCtorEq, V.ofValue, V.ofScalar, V.un, V.gd, guardV, V.wrap, aExec, aop, aLoad, row_mk, Blk.row, PartOK, Go.Vm.part, V.cells, V.noSl, V.noRef, Nat.reduceAdd, Nat.reduceLeDiff, Nat.reduceMul, Try.underlying3, Ty.c3, Ty.a3, getD_map hx, getD_map hy]
              repeat (refine And.intro (by first | omega | (intros; omega) | (intros; simp_all; done) | (intros; simp_all; omega)) ?_)
              refine k _ ?_; clear k K
            -- 46 := fieldAddr 95 t8 3
            first
            | refine v_pass 46 12 true rfl (show 46 < 65 by decide) rfl ?_ ?_
              · first | rfl | (simp only [zV, guardV, Nat.reduceEqDiff, reduceIte]; done)
              simp only [zW, set_some, Nat.reduceEqDiff, reduceIte]
            | skip
              -- 46 := fieldAddr 95 t8 3
              refine v_op ?_; intro K k
              simp only [zE, zL, zN, aStepM, optable, set_some, Nat.reduceEqDiff, reduceIte, Nat.reduceLT, implies_true, forall_const, reduceCtorEq, V.ofValue, V.ofScalar, V.un, V.gd, guardV, V.wrap, aExec, aop, aFieldAddr, Nat.reduceAdd, Nat.reduceLeDiff, Nat.reduceMul, Try.underlying3, Ty.c3, Ty.a3, Try.underlying9, Ty.c9, Ty.a9, Try.underlying95, Ty.c95, Ty.a95, getD_map hx, getD_map hy]
              repeat (refine And.intro (by first | omega | (intros; omega) | (intros; simp_all; done) | (intros; simp_all; omega)) ?_)
              refine k _ ?_; clear k K
            -- 47 := load 3 t46
            first
            | refine v_pass 47 12 true rfl (show 47 < 65 by decide) rfl ?_ ?_
              · first | rfl | (simp only [zV, guardV, Nat.reduceEqDiff, reduceIte]; done)
              simp only [zW, set_some, Nat.reduceEqDiff, reduceIte]
            | skip
              -- 47 := load 3 t46
              refine v_op ?_; intro K k
              simp only [zE, zL, zO, zN, aStepM, optable, set_some, Nat.reduceEqDiff, reduceIte, Nat.reduceLT, implies_true, forall_const, reduceCtorEq, V.ofValue, V.ofScalar, V.un, V.gd, guardV, V.wrap, aExec, aop, aLoad, row_mk, Blk.row, PartOK, Go.Vm.part, V.cells, V.noSl, V.noRef, Nat.reduceAdd, Nat.reduceLeDiff, Nat.reduceMul, Try.underlying3, Ty.c3, Ty.a3, getD_map hx, getD_map hy]
              repeat (refine And.intro (by first | omega | (intros; omega) | (intros; simp_all; done) | (intros; simp_all; omega)) ?_)
              refine k _ ?_; clear k K
            -- 48 := binOp Go.BinOp.leq 3 t45 t47 3
            first
            | refine v_pass 48 12 true rfl (show 48 < 65 by decide) rfl ?_ ?_
              · first | rfl | (simp only [zV, guardV, Nat.reduceEqDiff, reduceIte]; done)
              simp only [zW, set_some, Nat.reduceEqDiff, reduceIte]
            | skip
              -- 48 := binOp Go.BinOp.leq 3 t45 t47 3
              refine v_op ?_; intro K k
              simp only [zE, zG, aStepM, optable, set_some, Nat.reduceEqDiff, reduceIte, Nat.reduceLT, implies_true, forall_const, reduceCtorEq, V.ofValue, V.ofScalar, V.un, V.gd, guardV, V.wrap, aExec, aop, aBin, Try.underlying3, getD_map hx, getD_map hy]
              repeat (refine And.intro (by first | omega | (intros; omega) | (intros; simp_all; done) | (intros; simp_all; omega)) ?_)
              refine k _ ?_; clear k K
            -- 49 := pick t43 t48 c<false>
            refine v_op ?_; intro K k
            simp only [zE, zP, aStepM, optable, set_some, Nat.reduceEqDiff, reduceIte, Nat.reduceLT, implies_true, forall_const, reduceCtorEq, V.ofValue, V.ofScalar, V.un, V.gd, aExec, aop, pickV, getD_map hx, getD_map hy]
            repeat (refine And.intro (by first | omega | (intros; omega) | (intros; simp_all; done) | (intros; simp_all; omega)) ?_)
            refine k _ ?_; clear k K
            -- 50 := move t49
            refine v_op ?_; intro K k
            simp only [zE, aStepM, optable, set_some, Nat.reduceEqDiff, reduceIte, Nat.reduceLT, implies_true, forall_const, reduceCtorEq, V.ofValue, V.ofScalar, V.un, V.gd, aExec, aop, getD_map hx, getD_map hy]
            repeat (refine And.intro (by first | omega | (intros; omega) | (intros; simp_all; done) | (intros; simp_all; omega)) ?_)
            refine k _ ?_; clear k K
            -- 51 := fieldAddr 95 t8 2
            first
            | refine v_pass 51 19 true rfl (show 51 < 65 by decide) rfl ?_ ?_
              · first | rfl | (simp only [zV, guardV, Nat.reduceEqDiff, reduceIte]; done)
              simp only [zW, set_some, Nat.reduceEqDiff, reduceIte]
            | skip
              -- 51 := fieldAddr 95 t8 2
              refine v_op ?_; intro K k
              simp only [zE, zL, zN, aStepM, optable, set_some, Nat.reduceEqDiff, reduceIte, Nat.reduceLT, implies_true, forall_const, reduceCtorEq, V.ofValue, V.ofScalar, V.un, V.gd, guardV, V.wrap, aExec, aop, aFieldAddr, Nat.reduceAdd, Nat.reduceLeDiff, Nat.reduceMul, Try.underlying3, Ty.c3, Ty.a3, Try.underlying9, Ty.c9, Ty.a9, Try.underlying95, Ty.c95, Ty.a95, getD_map hx, getD_map hy]
              repeat (refine And.intro (by first | omega | (intros; omega) | (intros; simp_all; done) | (intros; simp_all; omega)) ?_)
              refine k _ ?_; clear k K
            -- 52 := load 3 t51
            first
            | refine v_pass 52 19 true rfl (show 52 < 65 by decide) rfl ?_ ?_
              · first | rfl | (simp only [zV, guardV, Nat.reduceEqDiff, reduceIte]; done)
              simp only [zW, set_some, Nat.reduceEqDiff, reduceIte]
            | skip
              -- 52 := load 3 t51
              refine v_op ?_; intro K k
              simp only [zE, zL, zO, zN, aStepM, optable, set_some, Nat.reduceEqDiff, reduceIte, Nat.reduceLT, implies_true, forall_const, reduceCtorEq, V.ofValue, V.ofScalar, V.un, V.gd, guardV, V.wrap, aExec, aop, aLoad, row_mk, Blk.row, PartOK, Go.Vm.part, V.cells, V.noSl, V.noRef, Nat.reduceAdd, Nat.reduceLeDiff, Nat.reduceMul, Try.underlying3, Ty.c3, Ty.a3, getD_map hx, getD_map hy]
              repeat (refine And.intro (by first | omega | (intros; omega) | (intros; simp_all; done) | (intros; simp_all; omega)) ?_)
              refine k _ ?_; clear k K
            -- 53 := fieldAddr 95 t6 3
            first
            | refine v_pass 53 19 true rfl (show 53 < 65 by decide) rfl ?_ ?_
              · first | rfl | (simp only [zV, guardV, Nat.reduceEqDiff, reduceIte]; done)
              simp only [zW, set_some, Nat.reduceEqDiff, reduceIte]
            | skip
              -- 53 := fieldAddr 95 t6 3
              refine v_op ?_; intro K k
              simp only [zE, zL, zN, aStepM, optable, set_some, Nat.reduceEqDiff, reduceIte, Nat.reduceLT, implies_true, forall_const, reduceCtorEq, V.ofValue, V.ofScalar, V.un, V.gd, guardV, V.wrap, aExec, aop, aFieldAddr, Nat.reduceAdd, Nat.reduceLeDiff, Nat.reduceMul, Try.underlying3, Ty.c3, Ty.a3, Try.underlying9, Ty.c9, Ty.a9, Try.underlying95, Ty.c95, Ty.a95, getD_map hx, getD_map hy]
              repeat (refine And.intro (by first | omega | (intros; omega) | (intros; simp_all; done) | (intros; simp_all; omega)) ?_)
              refine k _ ?_; clear k K
            -- 54 := load 3 t53
            first
            | refine v_pass 54 19 true rfl (show 54 < 65 by decide) rfl ?_ ?_
              · first | rfl | (simp only [zV, guardV, Nat.reduceEqDiff, reduceIte]; done)
              simp only [zW, set_some, Nat.reduceEqDiff, reduceIte]
            | skip
              -- 54 := load 3 t53
              refine v_op ?_; intro K k
              simp only [zE, zL, zO, zN, aStepM, optable, set_some, Nat.reduceEqDiff, reduceIte, Nat.reduceLT, implies_true, forall_const, reduceCtorEq, V.ofValue, V.ofScalar, V.un, V.gd, guardV, V.wrap, aExec, aop, aLoad, row_mk, Blk.row, PartOK, Go.Vm.part, V.cells, V.noSl, V.noRef, Nat.reduceAdd, Nat.reduceLeDiff, Nat.reduceMul, Try.underlying3, Ty.c3, Ty.a3, getD_map hx, getD_map hy]
              repeat (refine And.intro (by first | omega | (intros; omega) | (intros; simp_all; done) | (intros; simp_all; omega)) ?_)
              refine k _ ?_; clear k K
            -- 55 := binOp Go.BinOp.leq 3 t52 t54 3
            first
            | refine v_pass 55 19 true rfl (show 55 < 65 by decide) rfl ?_ ?_
              · first | rfl | (simp only [zV, guardV, Nat.reduceEqDiff, reduceIte]; done)
              simp only [zW, set_some, Nat.reduceEqDiff, reduceIte]
            | skip
              -- 55 := binOp Go.BinOp.leq 3 t52 t54 3
              refine v_op ?_; intro K k
              simp only [zE, zG, aStepM, optable, set_some, Nat.reduceEqDiff, reduceIte, Nat.reduceLT, implies_true, forall_const, reduceCtorEq, V.ofValue, V.ofScalar, V.un, V.gd, guardV, V.wrap, aExec, aop, aBin, Try.underlying3, getD_map hx, getD_map hy]
              repeat (refine And.intro (by first | omega | (intros; omega) | (intros; simp_all; done) | (intros; simp_all; omega)) ?_)
              refine k _ ?_; clear k K
            -- 56 := pick t50 t55 c<false>
            refine v_op ?_; intro K k
            simp only [zE, zP, aStepM, optable, set_some, Nat.reduceEqDiff, reduceIte, Nat.reduceLT, implies_true, forall_const, reduceCtorEq, V.ofValue, V.ofScalar, V.un, V.gd, aExec, aop, pickV, getD_map hx, getD_map hy]
            repeat (refine And.intro (by first | omega | (intros; omega) | (intros; simp_all; done) | (intros; simp_all; omega)) ?_)
            refine k _ ?_; clear k K
            refine k37 _ ?_
            refine n36 _ _ (weak_keep [0, 4, 5, 6, 7, 12, 13, 14, 56] _) ?_
            simp only [keep_mk, keepE_nil, keepE_cons, look_cons, look_nil, Nat.reduceEqDiff, reduceIte]
            refine v_cond _ rfl ?_ ?_  -- COND 3
            · intro hc3
              try simp only [zC, reduceCtorEq] at hc3
              have hb : busyB (x0, x1, x2, x3) (y0, y1, y2, y3) = true := by
                simp only [busyB, Bool.and_eq_true, decide_eq_true_eq, Bool.not_eq_true', decide_eq_false_iff_not]
                exact hc3
              refine v_region ?_; intro K39 k39
              -- 57 := move t4
              refine v_op ?_; intro K k
              simp only [zE, aStepM, optable, set_some, Nat.reduceEqDiff, reduceIte, Nat.reduceLT, implies_true, forall_const, reduceCtorEq, V.ofValue, V.ofScalar, V.un, V.gd, aExec, aop, getD_map hx, getD_map hy]
              repeat (refine And.intro (by first | omega | (intros; omega) | (intros; simp_all; done) | (intros; simp_all; omega)) ?_)
              refine k _ ?_; clear k K
              -- 58 := move t5
              refine v_op ?_; intro K k
              simp only [zE, aStepM, optable, set_some, Nat.reduceEqDiff, reduceIte, Nat.reduceLT, implies_true, forall_const, reduceCtorEq, V.ofValue, V.ofScalar, V.un, V.gd, aExec, aop, getD_map hx, getD_map hy]
              repeat (refine And.intro (by first | omega | (intros; omega) | (intros; simp_all; done) | (intros; simp_all; omega)) ?_)
              refine k _ ?_; clear k K
              -- 59 := move t7
              refine v_op ?_; intro K k
              simp only [zE, aStepM, optable, set_some, Nat.reduceEqDiff, reduceIte, Nat.reduceLT, implies_true, forall_const, reduceCtorEq, V.ofValue, V.ofScalar, V.un, V.gd, aExec, aop, getD_map hx, getD_map hy]
              repeat (refine And.intro (by first | omega | (intros; omega) | (intros; simp_all; done) | (intros; simp_all; omega)) ?_)
              refine k _ ?_; clear k K
              -- 60 := buildSlice 47 2 0=t58 1=t59
              refine v_op ?_; intro K k
              simp only [zE, zO, zN, aStepM, optable, set_some, Nat.reduceEqDiff, reduceIte, Nat.reduceLT, implies_true, forall_const, reduceCtorEq, V.ofValue, V.ofScalar, V.un, V.gd, aExec, aop, litElems, rng0, rng1, rng2, rng3, rng4, List.map_cons, List.map_nil, List.all_cons, List.all_nil, V.isVal, V.cells, content, kindAll, V.noRef, V.noSl, List.mem_cons, List.not_mem_nil, or_false, forall_eq_or_imp, forall_eq, if_true, Option.isSome_some, List.length_cons, List.length_nil, Nat.reduceAdd, Nat.reduceLeDiff, Nat.reduceMul, Try.underlying3, Ty.c3, Ty.a3, Ty.z3, Try.underlying47, Ty.c47, Ty.a47, Ty.z47, getD_map hx, getD_map hy]
              repeat (refine And.intro (by first | omega | (intros; omega) | (intros; simp_all; done) | (intros; simp_all; omega)) ?_)
              refine k _ ?_; clear k K
              -- 61 := buildSlice 32 1 0=t60
              refine v_op ?_; intro K k
              simp only [zE, zO, zN, aStepM, optable, set_some, Nat.reduceEqDiff, reduceIte, Nat.reduceLT, implies_true, forall_const, reduceCtorEq, V.ofValue, V.ofScalar, V.un, V.gd, aExec, aop, litElems, rng0, rng1, rng2, rng3, rng4, List.map_cons, List.map_nil, List.all_cons, List.all_nil, V.isVal, V.cells, content, kindAll, V.noRef, V.noSl, List.mem_cons, List.not_mem_nil, or_false, forall_eq_or_imp, forall_eq, if_true, Option.isSome_some, List.length_cons, List.length_nil, Nat.reduceAdd, Nat.reduceLeDiff, Nat.reduceMul, Try.underlying32, Ty.c32, Ty.a32, Ty.z32, Try.underlying47, Ty.c47, Ty.a47, Ty.z47, getD_map hx, getD_map hy]
              repeat (refine And.intro (by first | omega | (intros; omega) | (intros; simp_all; done) | (intros; simp_all; omega)) ?_)
              refine k _ ?_; clear k K
              -- 62 := call b Go.Builtin.append t57 t61 | 32 32
              refine v_op ?_; intro K k
              simp only [zE, zL, zO, zN, aStepM, optable, set_some, Nat.reduceEqDiff, reduceIte, Nat.reduceLT, implies_true, forall_const, reduceCtorEq, V.ofValue, V.ofScalar, V.un, V.gd, aExec, aop, beq_self_eq_true, List.nodup_cons, List.mem_singleton, forall_eq', List.size_toArray, List.getD_eq_getElem?_getD, Array.getD_eq_getD_getElem?, Option.getD_some, aAppend, destOf, srcOf, takeElems, takeV, takeCell, takeCells, row_mk, Blk.row, killAll, V.isSub, V.noSl, Value.cells, Option.toList, List.forall_mem_map, List.length_map, List.all_cons, List.all_nil, List.isEmpty_nil, List.isEmpty_cons, List.not_mem_nil, List.nodup_nil, join_ff, join_ft, join_fv, join_d, join_s, fillK_join0, fillK_join, List.mem_cons, or_false, forall_eq_or_imp, forall_eq, List.set_cons_zero, List.set_cons_succ, List.length_append, Go.Vm.V.cells, Nat.reduceAdd, Nat.reduceLeDiff, Nat.reduceMul, Try.underlying32, Ty.c32, Ty.a32, Ty.z32, Ty.b32, Ty.s32, Try.underlying47, Ty.c47, Ty.a47, Ty.z47, Ty.b47, Ty.s47, getD_map hx, getD_map hy]
              repeat (refine And.intro (by first | omega | (intros; omega) | (intros; simp_all; done) | (intros; simp_all; omega)) ?_)
              refine k _ ?_; clear k K
              -- 4 := assign t62
              refine v_op ?_; intro K k
              simp only [zE, zS, aStepM, optable, set_some, Nat.reduceEqDiff, reduceIte, Nat.reduceLT, implies_true, forall_const, reduceCtorEq, V.ofValue, V.ofScalar, V.un, V.gd, aExec, aop, Nat.reduceAdd, getD_map hx, getD_map hy]
              repeat (refine And.intro (by first | omega | (intros; omega) | (intros; simp_all; done) | (intros; simp_all; omega)) ?_)
              refine k _ ?_; clear k K
              refine k39 _ ?_
              refine n33 _ ?_
              refine n32 _ _ (weak_keep [0, 4, 5, 6, 7, 12, 13, 14] _) ?_
              simp only [keep_mk, keepE_nil, keepE_cons, look_cons, look_nil, Nat.reduceEqDiff, reduceIte]
              refine v_region ?_; intro K40 k40
              -- 25 := move t7
              refine v_op ?_; intro K k
              simp only [zE, aStepM, optable, set_some, Nat.reduceEqDiff, reduceIte, Nat.reduceLT, implies_true, forall_const, reduceCtorEq, V.ofValue, V.ofScalar, V.un, V.gd, aExec, aop, getD_map hx, getD_map hy]
              repeat (refine And.intro (by first | omega | (intros; omega) | (intros; simp_all; done) | (intros; simp_all; omega)) ?_)
              refine k _ ?_; clear k K
              -- 26 := binOp Go.BinOp.add 3 t25 c<1:i64> 3
              refine v_op ?_; intro K k
              simp only [zE, aStepM, optable, set_some, Nat.reduceEqDiff, reduceIte, Nat.reduceLT, implies_true, forall_const, reduceCtorEq, V.ofValue, V.ofScalar, V.un, V.gd, aExec, aop, aBin, Try.underlying3, getD_map hx, getD_map hy]
              try simp (disch := omega) only [wrap64]
              repeat (refine And.intro (by first | omega | (intros; omega) | (intros; simp_all; done) | (intros; simp_all; omega)) ?_)
              refine k _ ?_; clear k K
              -- 7 := assign t26
              refine v_op ?_; intro K k
              simp only [zE, zS, aStepM, optable, set_some, Nat.reduceEqDiff, reduceIte, Nat.reduceLT, implies_true, forall_const, reduceCtorEq, V.ofValue, V.ofScalar, V.un, V.gd, aExec, aop, Nat.reduceAdd, getD_map hx, getD_map hy]
              repeat (refine And.intro (by first | omega | (intros; omega) | (intros; simp_all; done) | (intros; simp_all; omega)) ?_)
              refine k _ ?_; clear k K
              refine k40 _ ?_
              refine n27 _ (k + 1, acc2 ++ [[(i : Int), (k : Int)]]) ?_ ?_ ?_
              · refine weak_both [0, 4, 5, 6, 7, 12, 13, 14] [5, 1] (by decide) (by simp) ?_ ?_ ?_
                · simp [keep_mk, keepE_nil, keepE_cons, look_cons, V.only, V.onlyL, idx] <;> (first | rfl | decide)
                · simp [Blk.kindIs, fillK_mix]
                simp only [keep_mk, keepE_nil, keepE_cons, look_cons, look_nil, Nat.reduceEqDiff, reduceIte, St.comp, List.map_cons, List.map_nil, V.ren, V.renL, idx, List.getD_cons_zero, List.getD_cons_succ, Nat.reduceBEq, cond_true, cond_false, Option.map_some, Option.getD_some, Nat.reduceAdd, Nat.beq_eq_true_eq]
                rw [snoc_SS, ← fillK_snoc]; rfl
              · exact ⟨hltk, by show i < k + 1; omega, by show (acc2 ++ _).length + (i + 1) ≤ 15 * i + (k + 1); rw [List.length_append, List.length_singleton]; omega, by show (acc2 ++ _) ++ busyIn _ i (k + 1) (l.drop (k + 1)) = _; rw [← hR2, hst2, if_pos hb]; simp⟩
              · show _ < _; show l.length - (k + 1) < l.length - k; omega
            · intro hc3
              try simp only [zC, reduceCtorEq] at hc3
              have hb : busyB (x0, x1, x2, x3) (y0, y1, y2, y3) = false := by
                cases hq : busyB (x0, x1, x2, x3) (y0, y1, y2, y3) with
                | false => rfl
                | true =>
                  exfalso
                  simp only [busyB, Bool.and_eq_true, decide_eq_true_eq, Bool.not_eq_true', decide_eq_false_iff_not] at hq
                  obtain ⟨⟨⟨q1, q2⟩, q3⟩, q4⟩ := hq
                  simp [q1, q2] at hc3
                  omega
              refine v_skip ?_
              refine n33 _ ?_
              refine n32 _ _ (weak_keep [0, 4, 5, 6, 7, 12, 13, 14] _) ?_
              simp only [keep_mk, keepE_nil, keepE_cons, look_cons, look_nil, Nat.reduceEqDiff, reduceIte]
              refine v_region ?_; intro K41 k41
              -- 25 := move t7
              refine v_op ?_; intro K k
              simp only [zE, aStepM, optable, set_some, Nat.reduceEqDiff, reduceIte, Nat.reduceLT, implies_true, forall_const, reduceCtorEq, V.ofValue, V.ofScalar, V.un, V.gd, aExec, aop, getD_map hx, getD_map hy]
              repeat (refine And.intro (by first | omega | (intros; omega) | (intros; simp_all; done) | (intros; simp_all; omega)) ?_)
              refine k _ ?_; clear k K
              -- 26 := binOp Go.BinOp.add 3 t25 c<1:i64> 3
              refine v_op ?_; intro K k
              simp only [zE, aStepM, optable, set_some, Nat.reduceEqDiff, reduceIte, Nat.reduceLT, implies_true, forall_const, reduceCtorEq, V.ofValue, V.ofScalar, V.un, V.gd, aExec, aop, aBin, Try.underlying3, getD_map hx, getD_map hy]
              try simp (disch := omega) only [wrap64]
              repeat (refine And.intro (by first | omega | (intros; omega) | (intros; simp_all; done) | (intros; simp_all; omega)) ?_)
              refine k _ ?_; clear k K
              -- 7 := assign t26
              refine v_op ?_; intro K k
              simp only [zE, zS, aStepM, optable, set_some, Nat.reduceEqDiff, reduceIte, Nat.reduceLT, implies_true, forall_const, reduceCtorEq, V.ofValue, V.ofScalar, V.un, V.gd, aExec, aop, Nat.reduceAdd, getD_map hx, getD_map hy]
              repeat (refine And.intro (by first | omega | (intros; omega) | (intros; simp_all; done) | (intros; simp_all; omega)) ?_)
              refine k _ ?_; clear k K
              refine k41 _ ?_
              refine n27 _ (k + 1, acc2) ?_ ?_ ?_
              · refine weak_both [0, 4, 5, 6, 7, 12, 13, 14] [0, 1] (by decide) (by simp) ?_ ?_ ?_
                · simp [keep_mk, keepE_nil, keepE_cons, look_cons, V.only, V.onlyL, idx] <;> (first | rfl | decide)
                · simp [Blk.kindIs, fillK_mix]
                simp only [keep_mk, keepE_nil, keepE_cons, look_cons, look_nil, Nat.reduceEqDiff, reduceIte, St.comp, List.map_cons, List.map_nil, V.ren, V.renL, idx, List.getD_cons_zero, List.getD_cons_succ, Nat.reduceBEq, cond_true, cond_false, Option.map_some, Option.getD_some, Nat.reduceAdd, Nat.beq_eq_true_eq]
                rfl
              · exact ⟨hltk, by show i < k + 1; omega, by show acc2.length + (i + 1) ≤ 15 * i + (k + 1); omega, by show acc2 ++ busyIn _ i (k + 1) (l.drop (k + 1)) = _; rw [← hR2, hst2, if_neg (by rw [hb]; simp)]⟩
              · show _ < _; show l.length - (k + 1) < l.length - k; omega
          · intro hc2
            try simp only [zC, reduceCtorEq] at hc2
            refine v_exit ?_
            refine e28 _ _ ?_
            refine e27 _ _ ?_
            refine x26 _ ?_
            refine n21 _ ?_
            refine n20 _ _ (weak_keep [0, 4, 12, 13, 14] _) ?_
            simp only [keep_mk, keepE_nil, keepE_cons, look_cons, look_nil, Nat.reduceEqDiff, reduceIte]
            refine v_region ?_; intro K42 k42
            -- 63 := binOp Go.BinOp.add 3 t14 c<1:i64> 3
            refine v_op ?_; intro K k
            simp only [zE, aStepM, optable, set_some, Nat.reduceEqDiff, reduceIte, Nat.reduceLT, implies_true, forall_const, reduceCtorEq, V.ofValue, V.ofScalar, V.un, V.gd, aExec, aop, aBin, Try.underlying3, getD_map hx]
            try simp (disch := omega) only [wrap64]
            repeat (refine And.intro (by first | omega | (intros; omega) | (intros; simp_all; done) | (intros; simp_all; omega)) ?_)
            refine k _ ?_; clear k K
            -- 14 := move t63
            refine v_op ?_; intro K k
            simp only [zE, aStepM, optable, set_some, Nat.reduceEqDiff, reduceIte, Nat.reduceLT, implies_true, forall_const, reduceCtorEq, V.ofValue, V.ofScalar, V.un, V.gd, aExec, aop, getD_map hx]
            repeat (refine And.intro (by first | omega | (intros; omega) | (intros; simp_all; done) | (intros; simp_all; omega)) ?_)
            refine k _ ?_; clear k K
            refine k42 _ ?_
            refine n15 _ (i + 1, acc2) ?_ ?_ ?_
            · refine weak_both [0, 4, 12, 13, 14] [0] (by decide) (by simp) ?_ ?_ ?_
              · simp [keep_mk, keepE_nil, keepE_cons, look_cons, V.only, V.onlyL, idx] <;> (first | rfl | decide)
              · simp [Blk.kindIs, fillK_mix]
              simp only [keep_mk, keepE_nil, keepE_cons, look_cons, look_nil, Nat.reduceEqDiff, reduceIte, St.comp, List.map_cons, List.map_nil, V.ren, V.renL, idx, List.getD_cons_zero, List.getD_cons_succ, Nat.reduceBEq, cond_true, cond_false, Option.map_some, Option.getD_some, Nat.reduceAdd, Nat.beq_eq_true_eq]
              rfl
            · exact ⟨hlt, by show acc2.length ≤ 15 * (i + 1); omega, by show acc2 ++ busyFrom (i + 1) (l.drop (i + 1)) = _; rw [← hR, hst, ← List.append_assoc, ← hR2, busyIn_end (by omega), List.append_nil]⟩
            · show _ < _; show l.length - (i + 1) < l.length - i; omega
      · intro hc1
        try simp only [zC, reduceCtorEq] at hc1
        refine v_exit ?_
        refine e18 _ _ ?_
        refine e15 _ _ ?_
        refine x14 _ ?_
        refine n11 _ _ (weak_keep [4] _) ?_
        simp only [keep_mk, keepE_nil, keepE_cons, look_cons, look_nil, Nat.reduceEqDiff, reduceIte]
        refine v_seq ?_; intro Q43 n43 e43 r43  -- SEQ 17
        refine v_region ?_; intro K44 k44
        -- 64 := move t4
        refine v_op ?_; intro K k
        simp only [zE, aStepM, optable, set_some, Nat.reduceEqDiff, reduceIte, Nat.reduceLT, implies_true, forall_const, reduceCtorEq, V.ofValue, V.ofScalar, V.un, V.gd, aExec, aop]
        repeat (refine And.intro (by first | omega | (intros; omega) | (intros; simp_all; done) | (intros; simp_all; omega)) ?_)
        refine k _ ?_; clear k K
        -- 2 := assign t64
        refine v_op ?_; intro K k
        simp only [zE, zS, aStepM, optable, set_some, Nat.reduceEqDiff, reduceIte, Nat.reduceLT, implies_true, forall_const, reduceCtorEq, V.ofValue, V.ofScalar, V.un, V.gd, aExec, aop, Nat.reduceAdd]
        repeat (refine And.intro (by first | omega | (intros; omega) | (intros; simp_all; done) | (intros; simp_all; omega)) ?_)
        refine k _ ?_; clear k K
        -- 3 := assign c<true>
        refine v_op ?_; intro K k
        simp only [zE, zS, aStepM, optable, set_some, Nat.reduceEqDiff, reduceIte, Nat.reduceLT, implies_true, forall_const, reduceCtorEq, V.ofValue, V.ofScalar, V.un, V.gd, aExec, aop, Nat.reduceAdd]
        repeat (refine And.intro (by first | omega | (intros; omega) | (intros; simp_all; done) | (intros; simp_all; omega)) ?_)
        refine k _ ?_; clear k K
        refine k44 _ ?_
        refine n43 _ _ (weak_keep [2, 3] _) ?_
        simp only [keep_mk, keepE_nil, keepE_cons, look_cons, look_nil, Nat.reduceEqDiff, reduceIte]
        refine v_ret ?_
        refine r0 _ ?_
        simp only [resK, pickRV, get_mk, look_cons, look_nil, Nat.reduceEqDiff, reduceIte, List.map_cons, List.map_nil]
        have hend : acc = busyFrom 0 l := by rw [← hR, busyFrom_end (by omega), List.append_nil]
        rw [show busyR l = acc by rw [busyR, hc0, hend]; rfl, hc0]
        exact ret_ref_tup rfl rfl rfl (fillK_or _)
-- loop.example/g01020/impl.BusyTwice
set_option maxHeartbeats 1000000 in
theorem implBusy_con (l : List (Int × ByteArray × Int × Int)) (hl : l.length ≤ 1048576) (hls : ∀ t ∈ l, t.2.1.size ≤ 9223372036854775807) : Con Try.prog 49 [.sl (l.map (fun t : Int × ByteArray × Int × Int => V.agg [V.int .i64 t.1, V.str t.2.1, V.int .i64 t.2.2.1, V.int .i64 t.2.2.2]))] [] (.tup [.ref 0, .bool (turnsB l)]) [.arr ((busyR l).map (fun l : List Int => V.sl (l.map (V.int .i64)))) (fillK (busyR l).length)] := by
  refine v_con [.tmp 2, .tmp 3] [] Try.func49 rfl rfl rfl (by simp [Try.ntmps49]) ?_
  intro Q0 n0 r0
  simp only [Try.ntmps49, envFrom, Nat.reduceAdd]
  refine v_seq ?_; intro Q1 n1 e1 r1  -- SEQ 0
  refine v_region ?_; intro K2 k2
  -- 2 := assign c<nilslice0/0>
  refine v_op ?_; intro K k
  simp only [zE, zS, aStepM, optable, set_some, Nat.reduceEqDiff, reduceIte, Nat.reduceLT, implies_true, forall_const, reduceCtorEq, V.ofValue, V.ofScalar, V.un, V.gd, aExec, aop, Nat.reduceAdd]
  repeat (refine And.intro (by first | omega | (intros; omega) | (intros; simp_all; done) | (intros; simp_all; omega)) ?_)
  refine k _ ?_; clear k K
  -- 3 := assign c<false>
  refine v_op ?_; intro K k
  simp only [zE, zS, aStepM, optable, set_some, Nat.reduceEqDiff, reduceIte, Nat.reduceLT, implies_true, forall_const, reduceCtorEq, V.ofValue, V.ofScalar, V.un, V.gd, aExec, aop, Nat.reduceAdd]
  repeat (refine And.intro (by first | omega | (intros; omega) | (intros; simp_all; done) | (intros; simp_all; omega)) ?_)
  refine k _ ?_; clear k K
  refine k2 _ ?_
  refine n1 _ _ (weak_keep [0] _) ?_
  simp only [keep_mk, keepE_nil, keepE_cons, look_cons, look_nil, Nat.reduceEqDiff, reduceIte]
  refine v_seq ?_; intro Q3 n3 e3 r3  -- SEQ 1
  refine v_seq ?_; intro Q4 n4 e4 r4  -- SEQ 2
  refine v_region ?_; intro K5 k5
  -- 9 := move t0
  refine v_op ?_; intro K k
  simp only [zE, aStepM, optable, set_some, Nat.reduceEqDiff, reduceIte, Nat.reduceLT, implies_true, forall_const, reduceCtorEq, V.ofValue, V.ofScalar, V.un, V.gd, aExec, aop]
  repeat (refine And.intro (by first | omega | (intros; omega) | (intros; simp_all; done) | (intros; simp_all; omega)) ?_)
  refine k _ ?_; clear k K
  -- 10 := call v f73 t9 | 26
  refine v_op ?_; intro K k
  simp only [zE, zM, aStepM, optable, set_some, Nat.reduceEqDiff, reduceIte, Nat.reduceLT, implies_true, forall_const, reduceCtorEq, V.ofValue, V.ofScalar, V.un, V.gd, aExec, lentIds, lendOf, Try.underlying4, Ty.c4, Ty.a4, Ty.b4, Ty.s4, Try.underlying26, Ty.c26, Ty.a26, Ty.b26, Ty.s26, Try.underlying95, Ty.c95, Ty.a95, Ty.b95, Ty.s95]
  repeat (refine And.intro (by first | rfl | (intros; simp_all; done)) ?_)
  refine aCall_new (areTurnouts_con l hl hls) (by first | rfl | (simp only [toArgs, toArg, toCell, toCells, idx, row_mk, List.getElem?_cons_zero, List.getElem?_cons_succ, Option.bind_some, Option.map_some, Blk.row, fillK_mix, cond_true]; done) | (simp [toArgs, toArg, toCell, toCells, idx, row_mk, Blk.row, fillK_mix, Nat.beq_refl]; done)) (by first | exact .inl ⟨rfl, by simp [Blk.kindIs, fillK_fd]⟩ | exact .inr (by simp [V.cold])) ?_
  refine k _ ?_; clear k K
  simp only [zY, zW, set_some, Nat.reduceEqDiff, reduceIte, V.ren, V.renL, rho, Nat.reduceAdd]
  -- 11 := unOp Go.UnOp.not 4 t10
  refine v_op ?_; intro K k
  simp only [zE, aStepM, optable, set_some, Nat.reduceEqDiff, reduceIte, Nat.reduceLT, implies_true, forall_const, reduceCtorEq, V.ofValue, V.ofScalar, V.un, V.gd, aExec, aop, aUn, Try.underlying4]
  repeat (refine And.intro (by first | omega | (intros; omega) | (intros; simp_all; done) | (intros; simp_all; omega)) ?_)
  refine k _ ?_; clear k K
  refine k5 _ ?_
  refine n4 _ _ (weak_keep [0, 11] _) ?_
  simp only [keep_mk, keepE_nil, keepE_cons, look_cons, look_nil, Nat.reduceEqDiff, reduceIte]
  refine v_cond _ rfl ?_ ?_  -- COND 0
  · intro hc0
    try simp only [zC, reduceCtorEq] at hc0
    refine v_seq ?_; intro Q7 n7 e7 r7  -- SEQ 3
    refine v_region ?_; intro K8 k8
    -- 2 := assign c<nilslice0/0>
    refine v_op ?_; intro K k
    simp only [zE, zS, aStepM, optable, set_some, Nat.reduceEqDiff, reduceIte, Nat.reduceLT, implies_true, forall_const, reduceCtorEq, V.ofValue, V.ofScalar, V.un, V.gd, aExec, aop, Nat.reduceAdd]
    repeat (refine And.intro (by first | omega | (intros; omega) | (intros; simp_all; done) | (intros; simp_all; omega)) ?_)
    refine k _ ?_; clear k K
    -- 3 := assign c<false>
    refine v_op ?_; intro K k
    simp only [zE, zS, aStepM, optable, set_some, Nat.reduceEqDiff, reduceIte, Nat.reduceLT, implies_true, forall_const, reduceCtorEq, V.ofValue, V.ofScalar, V.un, V.gd, aExec, aop, Nat.reduceAdd]
    repeat (refine And.intro (by first | omega | (intros; omega) | (intros; simp_all; done) | (intros; simp_all; omega)) ?_)
    refine k _ ?_; clear k K
    refine k8 _ ?_
    refine n7 _ _ (weak_keep [2, 3] _) ?_
    simp only [keep_mk, keepE_nil, keepE_cons, look_cons, look_nil, Nat.reduceEqDiff, reduceIte]
    refine v_ret ?_
    refine r3 _ ?_
    refine r0 _ ?_
    simp only [resK, pickRV, get_mk, look_cons, look_nil, Nat.reduceEqDiff, reduceIte, List.map_cons, List.map_nil]
    rw [show busyR l = [] by rw [busyR, hc0]; rfl, hc0]
    exact ret_ref_tup rfl rfl rfl (.inl rfl)
  · intro hc0
    try simp only [zC, reduceCtorEq] at hc0
    have h15 := turn_len hc0
    refine v_skip ?_
    refine n3 _ _ (weak_keep [0] _) ?_
    simp only [keep_mk, keepE_nil, keepE_cons, look_cons, look_nil, Nat.reduceEqDiff, reduceIte]
    refine v_seq ?_; intro Q9 n9 e9 r9  -- SEQ 4
    refine v_region ?_; intro K10 k10
    -- 4 := assign c<nilslice0/0>
    refine v_op ?_; intro K k
    simp only [zE, zS, aStepM, optable, set_some, Nat.reduceEqDiff, reduceIte, Nat.reduceLT, implies_true, forall_const, reduceCtorEq, V.ofValue, V.ofScalar, V.un, V.gd, aExec, aop, Nat.reduceAdd]
    repeat (refine And.intro (by first | omega | (intros; omega) | (intros; simp_all; done) | (intros; simp_all; omega)) ?_)
    refine k _ ?_; clear k K
    refine k10 _ ?_
    refine n9 _ _ (weak_keep [0, 4] _) ?_
    simp only [keep_mk, keepE_nil, keepE_cons, look_cons, look_nil, Nat.reduceEqDiff, reduceIte]
    refine v_seq ?_; intro Q11 n11 e11 r11  -- SEQ 5
    refine v_seq ?_; intro Q12 n12 e12 r12  -- SEQ 6
    refine v_region ?_; intro K13 k13
    -- 12 := move t0
    refine v_op ?_; intro K k
    simp only [zE, aStepM, optable, set_some, Nat.reduceEqDiff, reduceIte, Nat.reduceLT, implies_true, forall_const, reduceCtorEq, V.ofValue, V.ofScalar, V.un, V.gd, aExec, aop]
    repeat (refine And.intro (by first | omega | (intros; omega) | (intros; simp_all; done) | (intros; simp_all; omega)) ?_)
    refine k _ ?_; clear k K
    -- 13 := call b Go.Builtin.len t12 | 26
    refine v_op ?_; intro K k
    simp only [zE, zL, zN, aStepM, optable, set_some, Nat.reduceEqDiff, reduceIte, Nat.reduceLT, implies_true, forall_const, reduceCtorEq, V.ofValue, V.ofScalar, V.un, V.gd, aExec, aop, List.length_map, aLen, lenOK, row_mk, Blk.row, List.size_toArray, List.getD_eq_getElem?_getD, Array.getD_eq_getD_getElem?, Option.getD_some, Nat.reduceAdd, Nat.reduceLeDiff, Nat.reduceMul, Try.underlying3, Ty.c3, Ty.a3, Ty.b3, Ty.s3, Try.underlying26, Ty.c26, Ty.a26, Ty.b26, Ty.s26, Try.underlying95, Ty.c95, Ty.a95, Ty.b95, Ty.s95]
    repeat (refine And.intro (by first | omega | (intros; omega) | (intros; simp_all; done) | (intros; simp_all; omega)) ?_)
    refine k _ ?_; clear k K
    -- 14 := move c<0:i64>
    refine v_op ?_; intro K k
    simp only [zE, aStepM, optable, set_some, Nat.reduceEqDiff, reduceIte, Nat.reduceLT, implies_true, forall_const, reduceCtorEq, V.ofValue, V.ofScalar, V.un, V.gd, aExec, aop]
    repeat (refine And.intro (by first | omega | (intros; omega) | (intros; simp_all; done) | (intros; simp_all; omega)) ?_)
    refine k _ ?_; clear k K
    refine k13 _ ?_
    refine n12 _ _ (weak_keep [0, 4, 12, 13, 14] _) ?_
    simp only [keep_mk, keepE_nil, keepE_cons, look_cons, look_nil, Nat.reduceEqDiff, reduceIte]
    refine v_block ?_; intro Q14 n14 x14 e14 r14
    refine v_loop (fun p => ⟨[(0, .sl (l.map (fun t : Int × ByteArray × Int × Int => V.agg [V.int .i64 t.1, V.str t.2.1, V.int .i64 t.2.2.1, V.int .i64 t.2.2.2]))), (4, .ref 0), (12, .sl (l.map (fun t : Int × ByteArray × Int × Int => V.agg [V.int .i64 t.1, V.str t.2.1, V.int .i64 t.2.2.1, V.int .i64 t.2.2.2]))), (13, .int .i64 l.length), (14, .int .i64 (Nat.cast p.1))], [.arr (p.2.map (fun l : List Int => V.sl (l.map (V.int .i64)))) (fillK p.2.length)], false, 66, 0⟩) (fun p => p.1 ≤ l.length ∧ p.2.length ≤ 15 * p.1 ∧ p.2 ++ busyFrom p.1 (l.drop p.1) = busyFrom 0 l) (fun p => l.length - p.1) ((0, []) : Nat × List (List Int)) ?_ ?_ ?_
    · refine weak_both [0, 4, 12, 13, 14] [1] (by decide) (by simp) ?_ ?_ ?_
      · simp [keep_mk, keepE_nil, keepE_cons, look_cons, V.only, V.onlyL, idx] <;> (first | rfl | decide)
      · simp [Blk.kindIs, fillK_mix]
      simp only [keep_mk, keepE_nil, keepE_cons, look_cons, look_nil, Nat.reduceEqDiff, reduceIte, St.comp, List.map_cons, List.map_nil, V.ren, V.renL, idx, List.getD_cons_zero, List.getD_cons_succ, Nat.reduceBEq, cond_true, cond_false, Option.map_some, Option.getD_some, Nat.reduceAdd, Nat.beq_eq_true_eq]
      rfl
    · exact ⟨Nat.zero_le _, Nat.le_refl _, rfl⟩
    · rintro ⟨i, acc⟩ hok15 Q15 n15 e15 r15
      obtain ⟨hi1, hal, hR⟩ := hok15
      simp only [] at hi1 hal hR ⊢
      refine v_seq ?_; intro Q16 n16 e16 r16  -- SEQ 7
      refine v_region ?_; intro K17 k17
      -- 15 := binOp Go.BinOp.lss 3 t14 t13 3
      refine v_op ?_; intro K k
      simp only [zE, aStepM, optable, set_some, Nat.reduceEqDiff, reduceIte, Nat.reduceLT, implies_true, forall_const, reduceCtorEq, V.ofValue, V.ofScalar, V.un, V.gd, aExec, aop, aBin, Try.underlying3]
      repeat (refine And.intro (by first | omega | (intros; omega) | (intros; simp_all; done) | (intros; simp_all; omega)) ?_)
      refine k _ ?_; clear k K
      refine k17 _ ?_
      refine n16 _ _ (weak_keep [0, 4, 12, 13, 14, 15] _) ?_
      simp only [keep_mk, keepE_nil, keepE_cons, look_cons, look_nil, Nat.reduceEqDiff, reduceIte]
      refine v_seq ?_; intro Q18 n18 e18 r18  -- SEQ 8
      refine v_cond _ rfl ?_ ?_  -- COND 1
      · intro hc1
        try simp only [zC, reduceCtorEq] at hc1
        have hlt : i < l.length := by omega
        obtain ⟨⟨x0, x1, x2, x3⟩, hx⟩ : ∃ x : Int × ByteArray × Int × Int, l[i]? = some x := ⟨l[i]'(by omega), List.getElem?_eq_getElem (by omega)⟩
        have hva := turn_valid hc0 (List.mem_of_getElem? hx)
        simp only [] at hva
        have hst := busyFrom_step hx
        have hdl : (l.drop (i + 1)).length = l.length - (i + 1) := List.length_drop ..
        refine v_skip ?_
        refine n18 _ _ (weak_keep [0, 4, 12, 13, 14] _) ?_
        simp only [keep_mk, keepE_nil, keepE_cons, look_cons, look_nil, Nat.reduceEqDiff, reduceIte]
        refine v_seq ?_; intro Q20 n20 e20 r20  -- SEQ 9
        refine v_block ?_; intro Q21 n21 x21 e21 r21
        refine v_seq ?_; intro Q22 n22 e22 r22  -- SEQ 10
        refine v_region ?_; intro K23 k23
        -- 16 := move t14
        refine v_op ?_; intro K k
        simp only [zE, aStepM, optable, set_some, Nat.reduceEqDiff, reduceIte, Nat.reduceLT, implies_true, forall_const, reduceCtorEq, V.ofValue, V.ofScalar, V.un, V.gd, aExec, aop, getD_map hx]
        repeat (refine And.intro (by first | omega | (intros; omega) | (intros; simp_all; done) | (intros; simp_all; omega)) ?_)
        refine k _ ?_; clear k K
        -- 17 := indexAddr 26 t12 t14
        refine v_op ?_; intro K k
        simp only [zE, zL, zN, aStepM, optable, set_some, Nat.reduceEqDiff, reduceIte, Nat.reduceLT, implies_true, forall_const, reduceCtorEq, V.ofValue, V.ofScalar, V.un, V.gd, aExec, aop, aIndexAddr, row_mk, Blk.row, Go.Vm.V.cells, List.forall_mem_map, List.length_map, Int.toNat_natCast, Int.reduceToNat, TypeDesc.slice.injEq, Nat.reduceAdd, Nat.reduceLeDiff, Nat.reduceMul, Try.underlying26, Ty.c26, Ty.a26, Try.underlying95, Ty.c95, Ty.a95, getD_map hx]
        repeat (refine And.intro (by first | omega | (intros; omega) | (intros; simp_all; done) | (intros; simp_all; omega)) ?_)
        refine k _ ?_; clear k K
        -- 18 := load 95 t17
        refine v_op ?_; intro K k
        simp only [zE, zL, zO, zN, aStepM, optable, set_some, Nat.reduceEqDiff, reduceIte, Nat.reduceLT, implies_true, forall_const, reduceCtorEq, V.ofValue, V.ofScalar, V.un, V.gd, aExec, aop, aLoad, row_mk, Blk.row, PartOK, Go.Vm.part, V.cells, V.noSl, V.noRef, Nat.reduceAdd, Nat.reduceLeDiff, Nat.reduceMul, Try.underlying3, Ty.c3, Ty.a3, Try.underlying9, Ty.c9, Ty.a9, Try.underlying95, Ty.c95, Ty.a95, getD_map hx]
        repeat (refine And.intro (by first | omega | (intros; omega) | (intros; simp_all; done) | (intros; simp_all; omega)) ?_)
        refine k _ ?_; clear k K
        -- 6 := alloc 95
        refine v_op ?_; intro K k
        simp only [zE, zS, zO, zN, aStepM, optable, set_some, Nat.reduceEqDiff, reduceIte, Nat.reduceLT, implies_true, forall_const, reduceCtorEq, V.ofValue, V.ofScalar, V.un, V.gd, aExec, aop, Nat.reduceAdd, Value.oneCell', V.isVal, V.cells, kindOf, kindAll, V.noSl, V.noRef, List.all_cons, List.all_nil, List.map_cons, List.map_nil, gt_iff_lt, Nat.reduceLeDiff, Nat.reduceMul, Try.underlying3, Ty.c3, Ty.a3, Ty.z3, Try.underlying9, Ty.c9, Ty.a9, Ty.z9, Try.underlying95, Ty.c95, Ty.a95, Ty.z95, getD_map hx]
        repeat (refine And.intro (by first | omega | (intros; omega) | (intros; simp_all; done) | (intros; simp_all; omega)) ?_)
        refine k _ ?_; clear k K
        -- 5 := assign t16
        refine v_op ?_; intro K k
        simp only [zE, zS, aStepM, optable, set_some, Nat.reduceEqDiff, reduceIte, Nat.reduceLT, implies_true, forall_const, reduceCtorEq, V.ofValue, V.ofScalar, V.un, V.gd, aExec, aop, Nat.reduceAdd, getD_map hx]
        repeat (refine And.intro (by first | omega | (intros; omega) | (intros; simp_all; done) | (intros; simp_all; omega)) ?_)
        refine k _ ?_; clear k K
        -- None := store 95 t6 t18
        refine v_op ?_; intro K k
        simp only [zE, zS, zJ, zL, zO, zN, aStepM, optable, set_some, Nat.reduceEqDiff, reduceIte, Nat.reduceLT, implies_true, forall_const, reduceCtorEq, V.ofValue, V.ofScalar, V.un, V.gd, aExec, aop, aStore, setCells, V.isVal, V.cells, kindOf, kindAll, V.noSl, V.noRef, gt_iff_lt, Nat.reduceAdd, Nat.reduceLeDiff, Nat.reduceMul, takeV, takeCell, takeCells, row_mk, Blk.row, killAll, Nat.reduceBEq, Try.underlying3, Ty.c3, Ty.a3, Try.underlying9, Ty.c9, Ty.a9, Try.underlying95, Ty.c95, Ty.a95, getD_map hx]
        repeat (refine And.intro (by first | omega | (intros; omega) | (intros; simp_all; done) | (intros; simp_all; omega)) ?_)
        refine k _ ?_; clear k K
        refine k23 _ ?_
        refine n22 _ _ (weak_keep [0, 4, 5, 6, 12, 13, 14] _) ?_
        simp only [keep_mk, keepE_nil, keepE_cons, look_cons, look_nil, Nat.reduceEqDiff, reduceIte]
        refine v_seq ?_; intro Q24 n24 e24 r24  -- SEQ 11
        refine v_region ?_; intro K25 k25
        -- 19 := move t0
        refine v_op ?_; intro K k
        simp only [zE, aStepM, optable, set_some, Nat.reduceEqDiff, reduceIte, Nat.reduceLT, implies_true, forall_const, reduceCtorEq, V.ofValue, V.ofScalar, V.un, V.gd, aExec, aop, getD_map hx]
        repeat (refine And.intro (by first | omega | (intros; omega) | (intros; simp_all; done) | (intros; simp_all; omega)) ?_)
        refine k _ ?_; clear k K
        -- 20 := move t5
        refine v_op ?_; intro K k
        simp only [zE, aStepM, optable, set_some, Nat.reduceEqDiff, reduceIte, Nat.reduceLT, implies_true, forall_const, reduceCtorEq, V.ofValue, V.ofScalar, V.un, V.gd, aExec, aop, getD_map hx]
        repeat (refine And.intro (by first | omega | (intros; omega) | (intros; simp_all; done) | (intros; simp_all; omega)) ?_)
        refine k _ ?_; clear k K
        -- 21 := binOp Go.BinOp.add 3 t20 c<1:i64> 3
        refine v_op ?_; intro K k
        simp only [zE, aStepM, optable, set_some, Nat.reduceEqDiff, reduceIte, Nat.reduceLT, implies_true, forall_const, reduceCtorEq, V.ofValue, V.ofScalar, V.un, V.gd, aExec, aop, aBin, Try.underlying3, getD_map hx]
        try simp (disch := omega) only [wrap64]
        repeat (refine And.intro (by first | omega | (intros; omega) | (intros; simp_all; done) | (intros; simp_all; omega)) ?_)
        refine k _ ?_; clear k K
        -- 22 := slice 26 t19 t21 _ _
        refine v_op ?_; intro K k
        simp only [zE, zL, zN, aStepM, optable, set_some, Nat.reduceEqDiff, reduceIte, Nat.reduceLT, implies_true, forall_const, reduceCtorEq, V.ofValue, V.ofScalar, V.un, V.gd, aExec, aop, aSlice, forall_eq', bound, ElemsOK, Option.map_none, Option.isNone_none, row_mk, Blk.row, TypeDesc.slice.injEq, List.forall_mem_map, List.length_map, Go.Vm.V.cells, Int.toNat_natCast, Int.reduceToNat, ← List.map_take, ← List.map_drop, List.take_length, Nat.reduceAdd, Nat.reduceLeDiff, Nat.reduceMul, Try.underlying26, Ty.c26, Ty.a26, Try.underlying95, Ty.c95, Ty.a95, getD_map hx]
        repeat (refine And.intro (by first | omega | (intros; omega) | (intros; simp_all; done) | (intros; simp_all; omega)) ?_)
        refine k _ ?_; clear k K
        -- 23 := call b Go.Builtin.len t22 | 26
        refine v_op ?_; intro K k
        simp only [zE, zL, zN, aStepM, optable, set_some, Nat.reduceEqDiff, reduceIte, Nat.reduceLT, implies_true, forall_const, reduceCtorEq, V.ofValue, V.ofScalar, V.un, V.gd, aExec, aop, List.length_map, aLen, lenOK, row_mk, Blk.row, List.size_toArray, List.getD_eq_getElem?_getD, Array.getD_eq_getD_getElem?, Option.getD_some, Nat.reduceAdd, Nat.reduceLeDiff, Nat.reduceMul, Try.underlying3, Ty.c3, Ty.a3, Ty.b3, Ty.s3, Try.underlying26, Ty.c26, Ty.a26, Ty.b26, Ty.s26, Try.underlying95, Ty.c95, Ty.a95, Ty.b95, Ty.s95, getD_map hx]
        repeat (refine And.intro (by first | omega | (intros; omega) | (intros; simp_all; done) | (intros; simp_all; omega)) ?_)
        refine k _ ?_; clear k K
        -- 24 := move c<0:i64>
        refine v_op ?_; intro K k
        simp only [zE, aStepM, optable, set_some, Nat.reduceEqDiff, reduceIte, Nat.reduceLT, implies_true, forall_const, reduceCtorEq, V.ofValue, V.ofScalar, V.un, V.gd, aExec, aop, getD_map hx]
        repeat (refine And.intro (by first | omega | (intros; omega) | (intros; simp_all; done) | (intros; simp_all; omega)) ?_)
        refine k _ ?_; clear k K
        refine k25 _ ?_
        refine n24 _ _ (weak_keep [0, 4, 5, 6, 12, 13, 14, 22, 23, 24] _) ?_
        simp only [keep_mk, keepE_nil, keepE_cons, look_cons, look_nil, Nat.reduceEqDiff, reduceIte]
        refine v_block ?_; intro Q26 n26 x26 e26 r26
        refine v_loop (fun q => ⟨[(0, .sl (l.map (fun t : Int × ByteArray × Int × Int => V.agg [V.int .i64 t.1, V.str t.2.1, V.int .i64 t.2.2.1, V.int .i64 t.2.2.2]))), (4, .ref 0), (5, .int .i64 (Nat.cast i)), (6, .ptr 1 0 0), (12, .sl (l.map (fun t : Int × ByteArray × Int × Int => V.agg [V.int .i64 t.1, V.str t.2.1, V.int .i64 t.2.2.1, V.int .i64 t.2.2.2]))), (13, .int .i64 l.length), (14, .int .i64 (Nat.cast i)), (22, .sl ((l.drop (i + 1)).map (fun t : Int × ByteArray × Int × Int => V.agg [V.int .i64 t.1, V.str t.2.1, V.int .i64 t.2.2.1, V.int .i64 t.2.2.2]))), (23, .int .i64 (l.drop (i + 1)).length), (24, .int .i64 (Nat.cast q.1))], [.arr (q.2.map (fun l : List Int => V.sl (l.map (V.int .i64)))) (fillK q.2.length), (.box (.agg [.int .i64 x0, .str x1, .int .i64 x2, .int .i64 x3]) .flat)], false, 66, 0⟩) (fun q => i + 1 + q.1 ≤ l.length ∧ q.2.length ≤ 15 * i + q.1 ∧ q.2 ++ busyIn (x0, x1, x2, x3) i (i + 1 + q.1) (l.drop (i + 1 + q.1)) = acc ++ busyIn (x0, x1, x2, x3) i (i + 1) (l.drop (i + 1))) (fun q => l.length - (i + 1 + q.1)) ((0, acc) : Nat × List (List Int)) ?_ ?_ ?_
        · refine weak_both [0, 4, 5, 6, 12, 13, 14, 22, 23, 24] [0, 1] (by decide) (by simp) ?_ ?_ ?_
          · simp [keep_mk, keepE_nil, keepE_cons, look_cons, V.only, V.onlyL, idx] <;> (first | rfl | decide)
          · simp [Blk.kindIs, fillK_mix]
          simp only [keep_mk, keepE_nil, keepE_cons, look_cons, look_nil, Nat.reduceEqDiff, reduceIte, St.comp, List.map_cons, List.map_nil, V.ren, V.renL, idx, List.getD_cons_zero, List.getD_cons_succ, Nat.reduceBEq, cond_true, cond_false, Option.map_some, Option.getD_some, Nat.reduceAdd, Nat.beq_eq_true_eq]
          rfl
        · exact ⟨hlt, by show acc.length ≤ 15 * i + 0; omega, rfl⟩
        · rintro ⟨j, acc2⟩ hok27 Q27 n27 e27 r27
          obtain ⟨hk1, hal2, hR2⟩ := hok27
          simp only [] at hk1 hal2 hR2 ⊢
          refine v_seq ?_; intro Q28 n28 e28 r28  -- SEQ 12
          refine v_region ?_; intro K29 k29
          -- 25 := binOp Go.BinOp.lss 3 t24 t23 3
          refine v_op ?_; intro K k
          simp only [zE, aStepM, optable, set_some, Nat.reduceEqDiff, reduceIte, Nat.reduceLT, implies_true, forall_const, reduceCtorEq, V.ofValue, V.ofScalar, V.un, V.gd, aExec, aop, aBin, Try.underlying3, getD_map hx]
          repeat (refine And.intro (by first | omega | (intros; omega) | (intros; simp_all; done) | (intros; simp_all; omega)) ?_)
          refine k _ ?_; clear k K
          refine k29 _ ?_
          refine n28 _ _ (weak_keep [0, 4, 5, 6, 12, 13, 14, 22, 23, 24, 25] _) ?_
          simp only [keep_mk, keepE_nil, keepE_cons, look_cons, look_nil, Nat.reduceEqDiff, reduceIte]
          refine v_seq ?_; intro Q30 n30 e30 r30  -- SEQ 13
          refine v_cond _ rfl ?_ ?_  -- COND 2
          · intro hc2
            try simp only [zC, reduceCtorEq] at hc2
            rw [hdl] at hc2
            have hltk : i + 1 + j < l.length := by omega
            obtain ⟨⟨y0, y1, y2, y3⟩, hy0⟩ : ∃ x : Int × ByteArray × Int × Int, l[i + 1 + j]? = some x := ⟨l[i + 1 + j]'(by omega), List.getElem?_eq_getElem (by omega)⟩
            have hy : (l.drop (i + 1))[j]? = some (y0, y1, y2, y3) := by rw [List.getElem?_drop]; exact hy0
            have hvb := turn_valid hc0 (List.mem_of_getElem? hy0)
            simp only [] at hvb
            have hst2 := busyIn_step (a := (x0, x1, x2, x3)) (i := i) hy0
            refine v_skip ?_
            refine n30 _ _ (weak_keep [0, 4, 5, 6, 12, 13, 14, 22, 23, 24] _) ?_
            simp only [keep_mk, keepE_nil, keepE_cons, look_cons, look_nil, Nat.reduceEqDiff, reduceIte]
            refine v_seq ?_; intro Q32 n32 e32 r32  -- SEQ 14
            refine v_block ?_; intro Q33 n33 x33 e33 r33
            refine v_seq ?_; intro Q34 n34 e34 r34  -- SEQ 15
            refine v_region ?_; intro K35 k35
            -- 26 := move t24
            refine v_op ?_; intro K k
            simp only [zE, aStepM, optable, set_some, Nat.reduceEqDiff, reduceIte, Nat.reduceLT, implies_true, forall_const, reduceCtorEq, V.ofValue, V.ofScalar, V.un, V.gd, aExec, aop, getD_map hx, getD_map hy]
            repeat (refine And.intro (by first | omega | (intros; omega) | (intros; simp_all; done) | (intros; simp_all; omega)) ?_)
            refine k _ ?_; clear k K
            -- 27 := indexAddr 26 t22 t24
            refine v_op ?_; intro K k
            simp only [zE, zL, zN, aStepM, optable, set_some, Nat.reduceEqDiff, reduceIte, Nat.reduceLT, implies_true, forall_const, reduceCtorEq, V.ofValue, V.ofScalar, V.un, V.gd, aExec, aop, aIndexAddr, row_mk, Blk.row, Go.Vm.V.cells, List.forall_mem_map, List.length_map, Int.toNat_natCast, Int.reduceToNat, TypeDesc.slice.injEq, Nat.reduceAdd, Nat.reduceLeDiff, Nat.reduceMul, Try.underlying26, Ty.c26, Ty.a26, Try.underlying95, Ty.c95, Ty.a95, getD_map hx, getD_map hy]
            repeat (refine And.intro (by first | omega | (intros; omega) | (intros; simp_all; done) | (intros; simp_all; omega)) ?_)
            refine k _ ?_; clear k K
            -- 28 := load 95 t27
            refine v_op ?_; intro K k
            simp only [zE, zL, zO, zN, aStepM, optable, set_some, Nat.reduceEqDiff, reduceIte, Nat.reduceLT, implies_true, forall_const, reduceCtorEq, V.ofValue, V.ofScalar, V.un, V.gd, aExec, aop, aLoad, row_mk, Blk.row, PartOK, Go.Vm.part, V.cells, V.noSl, V.noRef, Nat.reduceAdd, Nat.reduceLeDiff, Nat.reduceMul, Try.underlying3, Ty.c3, Ty.a3, Try.underlying9, Ty.c9, Ty.a9, Try.underlying95, Ty.c95, Ty.a95, getD_map hx, getD_map hy]
            repeat (refine And.intro (by first | omega | (intros; omega) | (intros; simp_all; done) | (intros; simp_all; omega)) ?_)
            refine k _ ?_; clear k K
            -- 8 := alloc 95
            refine v_op ?_; intro K k
            simp only [zE, zS, zO, zN, aStepM, optable, set_some, Nat.reduceEqDiff, reduceIte, Nat.reduceLT, implies_true, forall_const, reduceCtorEq, V.ofValue, V.ofScalar, V.un, V.gd, aExec, aop, Nat.reduceAdd, Value.oneCell', V.isVal, V.cells, kindOf, kindAll, V.noSl, V.noRef, List.all_cons, List.all_nil, List.map_cons, List.map_nil, gt_iff_lt, Nat.reduceLeDiff, Nat.reduceMul, Try.underlying3, Ty.c3, Ty.a3, Ty.z3, Try.underlying9, Ty.c9, Ty.a9, Ty.z9, Try.underlying95, Ty.c95, Ty.a95, Ty.z95, getD_map hx, getD_map hy]
            repeat (refine And.intro (by first | omega | (intros; omega) | (intros; simp_all; done) | (intros; simp_all; omega)) ?_)
            refine k _ ?_; clear k K
            -- 7 := assign t26
            refine v_op ?_; intro K k
            simp only [zE, zS, aStepM, optable, set_some, Nat.reduceEqDiff, reduceIte, Nat.reduceLT, implies_true, forall_const, reduceCtorEq, V.ofValue, V.ofScalar, V.un, V.gd, aExec, aop, Nat.reduceAdd, getD_map hx, getD_map hy]
            repeat (refine And.intro (by first | omega | (intros; omega) | (intros; simp_all; done) | (intros; simp_all; omega)) ?_)
            refine k _ ?_; clear k K
            -- None := store 95 t8 t28
            refine v_op ?_; intro K k
            simp only [zE, zS, zJ, zL, zO, zN, aStepM, optable, set_some, Nat.reduceEqDiff, reduceIte, Nat.reduceLT, implies_true, forall_const, reduceCtorEq, V.ofValue, V.ofScalar, V.un, V.gd, aExec, aop, aStore, setCells, V.isVal, V.cells, kindOf, kindAll, V.noSl, V.noRef, gt_iff_lt, Nat.reduceAdd, Nat.reduceLeDiff, Nat.reduceMul, takeV, takeCell, takeCells, row_mk, Blk.row, killAll, Nat.reduceBEq, Try.underlying3, Ty.c3, Ty.a3, Try.underlying9, Ty.c9, Ty.a9, Try.underlying95, Ty.c95, Ty.a95, getD_map hx, getD_map hy]
            repeat (refine And.intro (by first | omega | (intros; omega) | (intros; simp_all; done) | (intros; simp_all; omega)) ?_)
            refine k _ ?_; clear k K
            refine k35 _ ?_
            refine n34 _ _ (weak_keep [0, 4, 5, 6, 7, 8, 12, 13, 14, 22, 23, 24] _) ?_
            simp only [keep_mk, keepE_nil, keepE_cons, look_cons, look_nil, Nat.reduceEqDiff, reduceIte]
            refine v_seq ?_; intro Q36 n36 e36 r36  -- SEQ 16
            refine v_region ?_; intro K37 k37
            -- 29 := fieldAddr 95 t6 1
            refine v_op ?_; intro K k
            simp only [zE, zL, zN, aStepM, optable, set_some, Nat.reduceEqDiff, reduceIte, Nat.reduceLT, implies_true, forall_const, reduceCtorEq, V.ofValue, V.ofScalar, V.un, V.gd, aExec, aop, aFieldAddr, Nat.reduceAdd, Nat.reduceLeDiff, Nat.reduceMul, Try.underlying3, Ty.c3, Ty.a3, Try.underlying9, Ty.c9, Ty.a9, Try.underlying95, Ty.c95, Ty.a95, getD_map hx, getD_map hy]
            repeat (refine And.intro (by first | omega | (intros; omega) | (intros; simp_all; done) | (intros; simp_all; omega)) ?_)
            refine k _ ?_; clear k K
            -- 30 := load 9 t29
            refine v_op ?_; intro K k
            simp only [zE, zL, zO, zN, aStepM, optable, set_some, Nat.reduceEqDiff, reduceIte, Nat.reduceLT, implies_true, forall_const, reduceCtorEq, V.ofValue, V.ofScalar, V.un, V.gd, aExec, aop, aLoad, row_mk, Blk.row, PartOK, Go.Vm.part, V.cells, V.noSl, V.noRef, Nat.reduceAdd, Nat.reduceLeDiff, Nat.reduceMul, Try.underlying9, Ty.c9, Ty.a9, getD_map hx, getD_map hy]
            repeat (refine And.intro (by first | omega | (intros; omega) | (intros; simp_all; done) | (intros; simp_all; omega)) ?_)
            refine k _ ?_; clear k K
            -- 31 := fieldAddr 95 t8 1
            refine v_op ?_; intro K k
            simp only [zE, zL, zN, aStepM, optable, set_some, Nat.reduceEqDiff, reduceIte, Nat.reduceLT, implies_true, forall_const, reduceCtorEq, V.ofValue, V.ofScalar, V.un, V.gd, aExec, aop, aFieldAddr, Nat.reduceAdd, Nat.reduceLeDiff, Nat.reduceMul, Try.underlying3, Ty.c3, Ty.a3, Try.underlying9, Ty.c9, Ty.a9, Try.underlying95, Ty.c95, Ty.a95, getD_map hx, getD_map hy]
            repeat (refine And.intro (by first | omega | (intros; omega) | (intros; simp_all; done) | (intros; simp_all; omega)) ?_)
            refine k _ ?_; clear k K
            -- 32 := load 9 t31
            refine v_op ?_; intro K k
            simp only [zE, zL, zO, zN, aStepM, optable, set_some, Nat.reduceEqDiff, reduceIte, Nat.reduceLT, implies_true, forall_const, reduceCtorEq, V.ofValue, V.ofScalar, V.un, V.gd, aExec, aop, aLoad, row_mk, Blk.row, PartOK, Go.Vm.part, V.cells, V.noSl, V.noRef, Nat.reduceAdd, Nat.reduceLeDiff, Nat.reduceMul, Try.underlying9, Ty.c9, Ty.a9, getD_map hx, getD_map hy]
            repeat (refine And.intro (by first | omega | (intros; omega) | (intros; simp_all; done) | (intros; simp_all; omega)) ?_)
            refine k _ ?_; clear k K
            -- 33 := binOp Go.BinOp.eql 9 t30 t32 9
            refine v_op ?_; intro K k
            simp only [zE, aStepM, optable, set_some, Nat.reduceEqDiff, reduceIte, Nat.reduceLT, implies_true, forall_const, reduceCtorEq, V.ofValue, V.ofScalar, V.un, V.gd, aExec, aop, aBin, Try.underlying9, getD_map hx, getD_map hy]
            repeat (refine And.intro (by first | omega | (intros; omega) | (intros; simp_all; done) | (intros; simp_all; omega)) ?_)
            refine k _ ?_; clear k K
            -- 34 := move t33
            refine v_op ?_; intro K k
            simp only [zE, aStepM, optable, set_some, Nat.reduceEqDiff, reduceIte, Nat.reduceLT, implies_true, forall_const, reduceCtorEq, V.ofValue, V.ofScalar, V.un, V.gd, aExec, aop, getD_map hx, getD_map hy]
            repeat (refine And.intro (by first | omega | (intros; omega) | (intros; simp_all; done) | (intros; simp_all; omega)) ?_)
            refine k _ ?_; clear k K
            -- 35 := fieldAddr 95 t6 0
            first
            | refine v_pass 35 5 true rfl (show 35 < 66 by decide) rfl ?_ ?_
              · first | rfl | (simp only [zV, guardV, Nat.reduceEqDiff, reduceIte]; done)
              simp only [zW, set_some, Nat.reduceEqDiff, reduceIte]
            | skip
              -- 35 := fieldAddr 95 t6 0
              refine v_op ?_; intro K k
              simp only [zE, zL, zN, aStepM, optable, set_some, Nat.reduceEqDiff, reduceIte, Nat.reduceLT, implies_true, forall_const, reduceCtorEq, V.ofValue, V.ofScalar, V.un, V.gd, guardV, V.wrap, aExec, aop, aFieldAddr, Nat.reduceAdd, Nat.reduceLeDiff, Nat.reduceMul, Try.underlying3, Ty.c3, Ty.a3, Try.underlying9, Ty.c9, Ty.a9, Try.underlying95, Ty.c95, Ty.a95, getD_map hx, getD_map hy]
              repeat (refine And.intro (by first | omega | (intros; omega) | (intros; simp_all; done) | (intros; simp_all; omega)) ?_)
              refine k _ ?_; clear k K
            -- 36 := load 3 t35
            first
            | refine v_pass 36 5 true rfl (show 36 < 66 by decide) rfl ?_ ?_
              · first | rfl | (simp only [zV, guardV, Nat.reduceEqDiff, reduceIte]; done)
              simp only [zW, set_some, Nat.reduceEqDiff, reduceIte]
            | skip
              -- 36 := load 3 t35
              refine v_op ?_; intro K k
              simp only [zE, zL, zO, zN, aStepM, optable, set_some, Nat.reduceEqDiff, reduceIte, Nat.reduceLT, implies_true, forall_const, reduceCtorEq, V.ofValue, V.ofScalar, V.un, V.gd, guardV, V.wrap, aExec, aop, aLoad, row_mk, Blk.row, PartOK, Go.Vm.part, V.cells, V.noSl, V.noRef, Nat.reduceAdd, Nat.reduceLeDiff, Nat.reduceMul, Try.underlying3, Ty.c3, Ty.a3, getD_map hx, getD_map hy]
              repeat (refine And.intro (by first | omega | (intros; omega) | (intros; simp_all; done) | (intros; simp_all; omega)) ?_)
              refine k _ ?_; clear k K
            -- 37 := fieldAddr 95 t8 0
            first
            | refine v_pass 37 5 true rfl (show 37 < 66 by decide) rfl ?_ ?_
              · first | rfl | (simp only [zV, guardV, Nat.reduceEqDiff, reduceIte]; done)
              simp only [zW, set_some, Nat.reduceEqDiff, reduceIte]
            | skip
              -- 37 := fieldAddr 95 t8 0
              refine v_op ?_; intro K k
              simp only [zE, zL, zN, aStepM, optable, set_some, Nat.reduceEqDiff, reduceIte, Nat.reduceLT, implies_true, forall_const, reduceCtorEq, V.ofValue, V.ofScalar, V.un, V.gd, guardV, V.wrap, aExec, aop, aFieldAddr, Nat.reduceAdd, Nat.reduceLeDiff, Nat.reduceMul, Try.underlying3, Ty.c3, Ty.a3, Try.underlying9, Ty.c9, Ty.a9, Try.underlying95, Ty.c95, Ty.a95, getD_map hx, getD_map hy]
              repeat (refine And.intro (by first | omega | (intros; omega) | (intros; simp_all; done) | (intros; simp_all; omega)) ?_)
              refine k _ ?_; clear k K
            -- 38 := load 3 t37
            first
            | refine v_pass 38 5 true rfl (show 38 < 66 by decide) rfl ?_ ?_
              · first | rfl | (simp only [zV, guardV, Nat.reduceEqDiff, reduceIte]; done)
              simp only [zW, set_some, Nat.reduceEqDiff, reduceIte]
            | skip
              -- 38 := load 3 t37
              refine v_op ?_; intro K k
              simp only [zE, zL, zO, zN, aStepM, optable, set_some, Nat.reduceEqDiff, reduceIte, Nat.reduceLT, implies_true, forall_const, reduceCtorEq, V.ofValue, V.ofScalar, V.un, V.gd, guardV, V.wrap, aExec, aop, aLoad, row_mk, Blk.row, PartOK, Go.Vm.part, V.cells, V.noSl, V.noRef, Nat.reduceAdd, Nat.reduceLeDiff, Nat.reduceMul, Try.underlying3, Ty.c3, Ty.a3, getD_map hx, getD_map hy]
              repeat (refine And.intro (by first | omega | (intros; omega) | (intros; simp_all; done) | (intros; simp_all; omega)) ?_)
              refine k _ ?_; clear k K
            -- 39 := binOp Go.BinOp.neq 3 t36 t38 3
            first
            | refine v_pass 39 5 true rfl (show 39 < 66 by decide) rfl ?_ ?_
              · first | rfl | (simp only [zV, guardV, Nat.reduceEqDiff, reduceIte]; done)
              simp only [zW, set_some, Nat.reduceEqDiff, reduceIte]
            | skip
              -- 39 := binOp Go.BinOp.neq 3 t36 t38 3
              refine v_op ?_; intro K k
              simp only [zE, zG, aStepM, optable, set_some, Nat.reduceEqDiff, reduceIte, Nat.reduceLT, implies_true, forall_const, reduceCtorEq, V.ofValue, V.ofScalar, V.un, V.gd, guardV, V.wrap, aExec, aop, aBin, Try.underlying3, getD_map hx, getD_map hy]
              repeat (refine And.intro (by first | omega | (intros; omega) | (intros; simp_all; done) | (intros; simp_all; omega)) ?_)
              refine k _ ?_; clear k K
            -- 40 := pick t34 t39 c<false>
            refine v_op ?_; intro K k
            simp only [zE, zP, aStepM, optable, set_some, Nat.reduceEqDiff, reduceIte, Nat.reduceLT, implies_true, forall_const, reduceCtorEq, V.ofValue, V.ofScalar, V.un, V.gd, aExec, aop, pickV, getD_map hx, getD_map hy]
            repeat (refine And.intro (by first | omega | (intros; omega) | (intros; simp_all; done) | (intros; simp_all; omega)) ?_)
            refine k _ ?_; clear k K
            -- 41 := move t40
            refine v_op ?_; intro K k
            simp only [zE, aStepM, optable, set_some, Nat.reduceEqDiff, reduceIte, Nat.reduceLT, implies_true, forall_const, reduceCtorEq, V.ofValue, V.ofScalar, V.un, V.gd, aExec, aop, getD_map hx, getD_map hy]
            repeat (refine And.intro (by first | omega | (intros; omega) | (intros; simp_all; done) | (intros; simp_all; omega)) ?_)
            refine k _ ?_; clear k K
            -- 42 := fieldAddr 95 t6 2
            first
            | refine v_pass 42 12 true rfl (show 42 < 66 by decide) rfl ?_ ?_
              · first | rfl | (simp only [zV, guardV, Nat.reduceEqDiff, reduceIte]; done)
              simp only [zW, set_some, Nat.reduceEqDiff, reduceIte]
            | skip
              -- 42 := fieldAddr 95 t6 2
              refine v_op ?_; intro K k
              simp only [zE, zL, zN, aStepM, optable, set_some, Nat.reduceEqDiff, reduceIte, Nat.reduceLT, implies_true, forall_const, reduceCtorEq, V.ofValue, V.ofScalar, V.un, V.gd, guardV, V.wrap, aExec, aop, aFieldAddr, Nat.reduceAdd, Nat.reduceLeDiff, Nat.reduceMul, Try.underlying3, Ty.c3, Ty.a3, Try.underlying9, Ty.c9, Ty.a9, Try.underlying95, Ty.c95, Ty.a95, getD_map hx, getD_map hy]
              repeat (refine And.intro (by first | omega | (intros; omega) | (intros; simp_all; done) | (intros; simp_all; omega)) ?_)
              refine k _ ?_; clear k K
            -- 43 := load 3 t42
            first
            | refine v_pass 43 12 true rfl (show 43 < 66 by decide) rfl ?_ ?_
              · first | rfl | (simp only [zV, guardV, Nat.reduceEqDiff, reduceIte]; done)
              simp only [zW, set_some, Nat.reduceEqDiff, reduceIte]
            | skip
              -- 43 := load 3 t42
              refine v_op ?_; intro K k
              simp only [zE, zL, zO, zN, aStepM, optable, set_some, Nat.reduceEqDiff, reduceIte, Nat.reduceLT, implies_true, forall_const, reduceCtorEq, V.ofValue, V.ofScalar, V.un, V.gd, guardV, V.wrap, aExec, aop, aLoad, row_mk, Blk.row, PartOK, Go.Vm.part, V.cells, V.noSl, V.noRef, Nat.reduceAdd, Nat.reduceLeDiff, Nat.reduceMul, Try.underlying3, Ty.c3, Ty.a3, getD_map hx, getD_map hy]
              repeat (refine And.intro (by first | omega | (intros; omega) | (intros; simp_all; done) | (intros; simp_all; omega)) ?_)
              refine k _ ?_; clear k K
            -- 44 := fieldAddr 95 t8 2
            first
            | refine v_pass 44 12 true rfl (show 44 < 66 by decide) rfl ?_ ?_
              · first | rfl | (simp only [zV, guardV, Nat.reduceEqDiff, reduceIte]; done)
              simp only [zW, set_some, Nat.reduceEqDiff, reduceIte]
            | skip
              -- 44 := fieldAddr 95 t8 2
              refine v_op ?_; intro K k
              simp only [zE, zL, zN, aStepM, optable, set_some, Nat.reduceEqDiff, reduceIte, Nat.reduceLT, implies_true, forall_const, reduceCtorEq, V.ofValue, V.ofScalar, V.un, V.gd, guardV, V.wrap, aExec, aop, aFieldAddr, Nat.reduceAdd, Nat.reduceLeDiff, Nat.reduceMul, Try.underlying3, Ty.c3, Ty.a3, Try.underlying9, Ty.c9, Ty.a9, Try.underlying95, Ty.c95, Ty.a95, getD_map hx, getD_map hy]
              repeat (refine And.intro (by first | omega | (intros; omega) | (intros; simp_all; done) | (intros; simp_all; omega)) ?_)
              refine k _ ?_; clear k K
            -- 45 := load 3 t44
            first
            | refine v_pass 45 12 true rfl (show 45 < 66 by decide) rfl ?_ ?_
              · first | rfl | (simp only [zV, guardV, Nat.reduceEqDiff, reduceIte]; done)
              simp only [zW, set_some, Nat.reduceEqDiff, reduceIte]
            | skip
              -- 45 := load 3 t44
              refine v_op ?_; intro K k
              simp only [zE, zL, zO, zN, aStepM, optable, set_some, Nat.reduceEqDiff, reduceIte, Nat.reduceLT, implies_true, forall_const, reduceCtorEq, V.ofValue, V.ofScalar, V.un, V.gd, guardV, V.wrap, aExec, aop, aLoad, row_mk, Blk.row, PartOK, Go.Vm.part, V.cells, V.noSl, V.noRef, Nat.reduceAdd, Nat.reduceLeDiff, Nat.reduceMul, Try.underlying3, Ty.c3, Ty.a3, getD_map hx, getD_map hy]
              repeat (refine And.intro (by first | omega | (intros; omega) | (intros; simp_all; done) | (intros; simp_all; omega)) ?_)
              refine k _ ?_; clear k K
            -- 46 := call b Go.Builtin.max t43 t45 | 3 3
            first
            | refine v_pass 46 12 true rfl (show 46 < 66 by decide) rfl ?_ ?_
              · first | rfl | (simp only [zV, guardV, Nat.reduceEqDiff, reduceIte]; done)
              simp only [zW, set_some, Nat.reduceEqDiff, reduceIte]
            | skip
              -- 46 := call b Go.Builtin.max t43 t45 | 3 3
              refine v_op ?_; intro K k
              simp only [zE, zG, aStepM, optable, set_some, Nat.reduceEqDiff, reduceIte, Nat.reduceLT, implies_true, forall_const, reduceCtorEq, V.ofValue, V.ofScalar, V.un, V.gd, guardV, V.wrap, aExec, aop, aMinMax, List.mem_cons, List.not_mem_nil, or_false, forall_eq_or_imp, forall_eq, List.map_cons, List.map_nil, if_true, if_false, Try.underlying3, Ty.c3, Ty.a3, Ty.b3, Ty.s3, getD_map hx, getD_map hy]
              repeat (refine And.intro (by first | omega | (intros; omega) | (intros; simp_all; done) | (intros; simp_all; omega)) ?_)
              refine k _ ?_; clear k K
            -- 47 := fieldAddr 95 t6 3
            first
            | refine v_pass 47 12 true rfl (show 47 < 66 by decide) rfl ?_ ?_
              · first | rfl | (simp only [zV, guardV, Nat.reduceEqDiff, reduceIte]; done)
              simp only [zW, set_some, Nat.reduceEqDiff, reduceIte]
            | skip
              -- 47 := fieldAddr 95 t6 3
              refine v_op ?_; intro K k
              simp only [zE, zL, zN, aStepM, optable, set_some, Nat.reduceEqDiff, reduceIte, Nat.reduceLT, implies_true, forall_const, reduceCtorEq, V.ofValue, V.ofScalar, V.un, V.gd, guardV, V.wrap, aExec, aop, aFieldAddr, Nat.reduceAdd, Nat.reduceLeDiff, Nat.reduceMul, Try.underlying3, Ty.c3, Ty.a3, Try.underlying9, Ty.c9, Ty.a9, Try.underlying95, Ty.c95, Ty.a95, getD_map hx, getD_map hy]
              repeat (refine And.intro (by first | omega | (intros; omega) | (intros; simp_all; done) | (intros; simp_all; omega)) ?_)
              refine k _ ?_; clear k K
            -- 48 := load 3 t47
            first
            | refine v_pass 48 12 true rfl (show 48 < 66 by decide) rfl ?_ ?_
              · first | rfl | (simp only [zV, guardV, Nat.reduceEqDiff, reduceIte]; done)
              simp only [zW, set_some, Nat.reduceEqDiff, reduceIte]
            | skip
              -- 48 := load 3 t47
              refine v_op ?_; intro K k
              simp only [zE, zL, zO, zN, aStepM, optable, set_some, Nat.reduceEqDiff, reduceIte, Nat.reduceLT, implies_true, forall_const, reduceCtorEq, V.ofValue, V.ofScalar, V.un, V.gd, guardV, V.wrap, aExec, aop, aLoad, row_mk, Blk.row, PartOK, Go.Vm.part, V.cells, V.noSl, V.noRef, Nat.reduceAdd, Nat.reduceLeDiff, Nat.reduceMul, Try.underlying3, Ty.c3, Ty.a3, getD_map hx, getD_map hy]
              repeat (refine And.intro (by first | omega | (intros; omega) | (intros; simp_all; done) | (intros; simp_all; omega)) ?_)
              refine k _ ?_; clear k K
            -- 49 := fieldAddr 95 t8 3
            first
            | refine v_pass 49 12 true rfl (show 49 < 66 by decide) rfl ?_ ?_
              · first | rfl | (simp only [zV, guardV, Nat.reduceEqDiff, reduceIte]; done)
              simp only [zW, set_some, Nat.reduceEqDiff, reduceIte]
            | skip
              -- 49 := fieldAddr 95 t8 3
              refine v_op ?_; intro K k
              simp only [zE, zL, zN, aStepM, optable, set_some, Nat.reduceEqDiff, reduceIte, Nat.reduceLT, implies_true, forall_const, reduceCtorEq, V.ofValue, V.ofScalar, V.un, V.gd, guardV, V.wrap, aExec, aop, aFieldAddr, Nat.reduceAdd, Nat.reduceLeDiff, Nat.reduceMul, Try.underlying3, Ty.c3, Ty.a3, Try.underlying9, Ty.c9, Ty.a9, Try.underlying95, Ty.c95, Ty.a95, getD_map hx, getD_map hy]
              repeat (refine And.intro (by first | omega | (intros; omega) | (intros; simp_all; done) | (intros; simp_all; omega)) ?_)
              refine k _ ?_; clear k K
            -- 50 := load 3 t49
            first
            | refine v_pass 50 12 true rfl (show 50 < 66 by decide) rfl ?_ ?_
              · first | rfl | (simp only [zV, guardV, Nat.reduceEqDiff, reduceIte]; done)
              simp only [zW, set_some, Nat.reduceEqDiff, reduceIte]
            | skip
              -- 50 := load 3 t49
              refine v_op ?_; intro K k
              simp only [zE, zL, zO, zN, aStepM, optable, set_some, Nat.reduceEqDiff, reduceIte, Nat.reduceLT, implies_true, forall_const, reduceCtorEq, V.ofValue, V.ofScalar, V.un, V.gd, guardV, V.wrap, aExec, aop, aLoad, row_mk, Blk.row, PartOK, Go.Vm.part, V.cells, V.noSl, V.noRef, Nat.reduceAdd, Nat.reduceLeDiff, Nat.reduceMul, Try.underlying3, Ty.c3, Ty.a3, getD_map hx, getD_map hy]
              repeat (refine And.intro (by first | omega | (intros; omega) | (intros; simp_all; done) | (intros; simp_all; omega)) ?_)
              refine k _ ?_; clear k K
            -- 51 := call b Go.Builtin.min t48 t50 | 3 3
            first
            | refine v_pass 51 12 true rfl (show 51 < 66 by decide) rfl ?_ ?_
              · first | rfl | (simp only [zV, guardV, Nat.reduceEqDiff, reduceIte]; done)
              simp only [zW, set_some, Nat.reduceEqDiff, reduceIte]
            | skip
              -- 51 := call b Go.Builtin.min t48 t50 | 3 3
              refine v_op ?_; intro K k
              simp only [zE, zG, aStepM, optable, set_some, Nat.reduceEqDiff, reduceIte, Nat.reduceLT, implies_true, forall_const, reduceCtorEq, V.ofValue, V.ofScalar, V.un, V.gd, guardV, V.wrap, aExec, aop, aMinMax, List.mem_cons, List.not_mem_nil, or_false, forall_eq_or_imp, forall_eq, List.map_cons, List.map_nil, if_true, if_false, Try.underlying3, Ty.c3, Ty.a3, Ty.b3, Ty.s3, getD_map hx, getD_map hy]
              repeat (refine And.intro (by first | omega | (intros; omega) | (intros; simp_all; done) | (intros; simp_all; omega)) ?_)
              refine k _ ?_; clear k K
            -- 52 := binOp Go.BinOp.leq 3 t46 t51 3
            first
            | refine v_pass 52 12 true rfl (show 52 < 66 by decide) rfl ?_ ?_
              · first | rfl | (simp only [zV, guardV, Nat.reduceEqDiff, reduceIte]; done)
              simp only [zW, set_some, Nat.reduceEqDiff, reduceIte]
            | skip
              -- 52 := binOp Go.BinOp.leq 3 t46 t51 3
              refine v_op ?_; intro K k
              simp only [zE, zG, aStepM, optable, set_some, Nat.reduceEqDiff, reduceIte, Nat.reduceLT, implies_true, forall_const, reduceCtorEq, V.ofValue, V.ofScalar, V.un, V.gd, guardV, V.wrap, aExec, aop, aBin, Try.underlying3, getD_map hx, getD_map hy]
              repeat (refine And.intro (by first | omega | (intros; omega) | (intros; simp_all; done) | (intros; simp_all; omega)) ?_)
              refine k _ ?_; clear k K
            -- 53 := pick t41 t52 c<false>
            refine v_op ?_; intro K k
            simp only [zE, zP, aStepM, optable, set_some, Nat.reduceEqDiff, reduceIte, Nat.reduceLT, implies_true, forall_const, reduceCtorEq, V.ofValue, V.ofScalar, V.un, V.gd, aExec, aop, pickV, getD_map hx, getD_map hy]
            repeat (refine And.intro (by first | omega | (intros; omega) | (intros; simp_all; done) | (intros; simp_all; omega)) ?_)
            refine k _ ?_; clear k K
            refine k37 _ ?_
            refine n36 _ _ (weak_keep [0, 4, 5, 6, 7, 12, 13, 14, 22, 23, 24, 53] _) ?_
            simp only [keep_mk, keepE_nil, keepE_cons, look_cons, look_nil, Nat.reduceEqDiff, reduceIte]
            refine v_cond _ rfl ?_ ?_  -- COND 3
            · intro hc3
              try simp only [zC, reduceCtorEq] at hc3
              have h4 := hc3.2
              have h5 : x2 ≤ y3 ∧ y2 ≤ x3 := by
                split at h4 <;> split at h4 <;> omega
              have hb : busyB (x0, x1, x2, x3) (y0, y1, y2, y3) = true := by
                simp only [busyB, Bool.and_eq_true, decide_eq_true_eq, Bool.not_eq_true', decide_eq_false_iff_not]
                exact ⟨⟨hc3.1, h5.1⟩, h5.2⟩
              refine v_region ?_; intro K39 k39
              -- 54 := move t4
              refine v_op ?_; intro K k
              simp only [zE, aStepM, optable, set_some, Nat.reduceEqDiff, reduceIte, Nat.reduceLT, implies_true, forall_const, reduceCtorEq, V.ofValue, V.ofScalar, V.un, V.gd, aExec, aop, getD_map hx, getD_map hy]
              repeat (refine And.intro (by first | omega | (intros; omega) | (intros; simp_all; done) | (intros; simp_all; omega)) ?_)
              refine k _ ?_; clear k K
              -- 55 := move t5
              refine v_op ?_; intro K k
              simp only [zE, aStepM, optable, set_some, Nat.reduceEqDiff, reduceIte, Nat.reduceLT, implies_true, forall_const, reduceCtorEq, V.ofValue, V.ofScalar, V.un, V.gd, aExec, aop, getD_map hx, getD_map hy]
              repeat (refine And.intro (by first | omega | (intros; omega) | (intros; simp_all; done) | (intros; simp_all; omega)) ?_)
              refine k _ ?_; clear k K
              -- 56 := move t5
              refine v_op ?_; intro K k
              simp only [zE, aStepM, optable, set_some, Nat.reduceEqDiff, reduceIte, Nat.reduceLT, implies_true, forall_const, reduceCtorEq, V.ofValue, V.ofScalar, V.un, V.gd, aExec, aop, getD_map hx, getD_map hy]
              repeat (refine And.intro (by first | omega | (intros; omega) | (intros; simp_all; done) | (intros; simp_all; omega)) ?_)
              refine k _ ?_; clear k K
              -- 57 := binOp Go.BinOp.add 3 t56 c<1:i64> 3
              refine v_op ?_; intro K k
              simp only [zE, aStepM, optable, set_some, Nat.reduceEqDiff, reduceIte, Nat.reduceLT, implies_true, forall_const, reduceCtorEq, V.ofValue, V.ofScalar, V.un, V.gd, aExec, aop, aBin, Try.underlying3, getD_map hx, getD_map hy]
              try simp (disch := omega) only [wrap64]
              repeat (refine And.intro (by first | omega | (intros; omega) | (intros; simp_all; done) | (intros; simp_all; omega)) ?_)
              refine k _ ?_; clear k K
              -- 58 := move t7
              refine v_op ?_; intro K k
              simp only [zE, aStepM, optable, set_some, Nat.reduceEqDiff, reduceIte, Nat.reduceLT, implies_true, forall_const, reduceCtorEq, V.ofValue, V.ofScalar, V.un, V.gd, aExec, aop, getD_map hx, getD_map hy]
              repeat (refine And.intro (by first | omega | (intros; omega) | (intros; simp_all; done) | (intros; simp_all; omega)) ?_)
              refine k _ ?_; clear k K
              -- 59 := binOp Go.BinOp.add 3 t57 t58 3
              refine v_op ?_; intro K k
              simp only [zE, aStepM, optable, set_some, Nat.reduceEqDiff, reduceIte, Nat.reduceLT, implies_true, forall_const, reduceCtorEq, V.ofValue, V.ofScalar, V.un, V.gd, aExec, aop, aBin, Try.underlying3, getD_map hx, getD_map hy]
              try simp (disch := omega) only [wrap64]
              repeat (refine And.intro (by first | omega | (intros; omega) | (intros; simp_all; done) | (intros; simp_all; omega)) ?_)
              refine k _ ?_; clear k K
              -- 60 := buildSlice 47 2 0=t55 1=t59
              refine v_op ?_; intro K k
              simp only [zE, zO, zN, aStepM, optable, set_some, Nat.reduceEqDiff, reduceIte, Nat.reduceLT, implies_true, forall_const, reduceCtorEq, V.ofValue, V.ofScalar, V.un, V.gd, aExec, aop, litElems, rng0, rng1, rng2, rng3, rng4, List.map_cons, List.map_nil, List.all_cons, List.all_nil, V.isVal, V.cells, content, kindAll, V.noRef, V.noSl, List.mem_cons, List.not_mem_nil, or_false, forall_eq_or_imp, forall_eq, if_true, Option.isSome_some, List.length_cons, List.length_nil, Nat.reduceAdd, Nat.reduceLeDiff, Nat.reduceMul, Try.underlying3, Ty.c3, Ty.a3, Ty.z3, Try.underlying47, Ty.c47, Ty.a47, Ty.z47, getD_map hx, getD_map hy]
              repeat (refine And.intro (by first | omega | (intros; omega) | (intros; simp_all; done) | (intros; simp_all; omega)) ?_)
              refine k _ ?_; clear k K
              -- 61 := buildSlice 32 1 0=t60
              refine v_op ?_; intro K k
              simp only [zE, zO, zN, aStepM, optable, set_some, Nat.reduceEqDiff, reduceIte, Nat.reduceLT, implies_true, forall_const, reduceCtorEq, V.ofValue, V.ofScalar, V.un, V.gd, aExec, aop, litElems, rng0, rng1, rng2, rng3, rng4, List.map_cons, List.map_nil, List.all_cons, List.all_nil, V.isVal, V.cells, content, kindAll, V.noRef, V.noSl, List.mem_cons, List.not_mem_nil, or_false, forall_eq_or_imp, forall_eq, if_true, Option.isSome_some, List.length_cons, List.length_nil, Nat.reduceAdd, Nat.reduceLeDiff, Nat.reduceMul, Try.underlying32, Ty.c32, Ty.a32, Ty.z32, Try.underlying47, Ty.c47, Ty.a47, Ty.z47, getD_map hx, getD_map hy]
              repeat (refine And.intro (by first | omega | (intros; omega) | (intros; simp_all; done) | (intros; simp_all; omega)) ?_)
              refine k _ ?_; clear k K
              -- 62 := call b Go.Builtin.append t54 t61 | 32 32
              refine v_op ?_; intro K k
              simp only [zE, zL, zO, zN, aStepM, optable, set_some, Nat.reduceEqDiff, reduceIte, Nat.reduceLT, implies_true, forall_const, reduceCtorEq, V.ofValue, V.ofScalar, V.un, V.gd, aExec, aop, beq_self_eq_true, List.nodup_cons, List.mem_singleton, forall_eq', List.size_toArray, List.getD_eq_getElem?_getD, Array.getD_eq_getD_getElem?, Option.getD_some, aAppend, destOf, srcOf, takeElems, takeV, takeCell, takeCells, row_mk, Blk.row, killAll, V.isSub, V.noSl, Value.cells, Option.toList, List.forall_mem_map, List.length_map, List.all_cons, List.all_nil, List.isEmpty_nil, List.isEmpty_cons, List.not_mem_nil, List.nodup_nil, join_ff, join_ft, join_fv, join_d, join_s, fillK_join0, fillK_join, List.mem_cons, or_false, forall_eq_or_imp, forall_eq, List.set_cons_zero, List.set_cons_succ, List.length_append, Go.Vm.V.cells, Nat.reduceAdd, Nat.reduceLeDiff, Nat.reduceMul, Try.underlying32, Ty.c32, Ty.a32, Ty.z32, Ty.b32, Ty.s32, Try.underlying47, Ty.c47, Ty.a47, Ty.z47, Ty.b47, Ty.s47, getD_map hx, getD_map hy]
              repeat (refine And.intro (by first | omega | (intros; omega) | (intros; simp_all; done) | (intros; simp_all; omega)) ?_)
              refine k _ ?_; clear k K
              -- 4 := assign t62
              refine v_op ?_; intro K k
              simp only [zE, zS, aStepM, optable, set_some, Nat.reduceEqDiff, reduceIte, Nat.reduceLT, implies_true, forall_const, reduceCtorEq, V.ofValue, V.ofScalar, V.un, V.gd, aExec, aop, Nat.reduceAdd, getD_map hx, getD_map hy]
              repeat (refine And.intro (by first | omega | (intros; omega) | (intros; simp_all; done) | (intros; simp_all; omega)) ?_)
              refine k _ ?_; clear k K
              refine k39 _ ?_
              refine n33 _ ?_
              refine n32 _ _ (weak_keep [0, 4, 5, 6, 12, 13, 14, 22, 23, 24] _) ?_
              simp only [keep_mk, keepE_nil, keepE_cons, look_cons, look_nil, Nat.reduceEqDiff, reduceIte]
              refine v_region ?_; intro K40 k40
              -- 63 := binOp Go.BinOp.add 3 t24 c<1:i64> 3
              refine v_op ?_; intro K k
              simp only [zE, aStepM, optable, set_some, Nat.reduceEqDiff, reduceIte, Nat.reduceLT, implies_true, forall_const, reduceCtorEq, V.ofValue, V.ofScalar, V.un, V.gd, aExec, aop, aBin, Try.underlying3, getD_map hx, getD_map hy]
              try simp (disch := omega) only [wrap64]
              repeat (refine And.intro (by first | omega | (intros; omega) | (intros; simp_all; done) | (intros; simp_all; omega)) ?_)
              refine k _ ?_; clear k K
              -- 24 := move t63
              refine v_op ?_; intro K k
              simp only [zE, aStepM, optable, set_some, Nat.reduceEqDiff, reduceIte, Nat.reduceLT, implies_true, forall_const, reduceCtorEq, V.ofValue, V.ofScalar, V.un, V.gd, aExec, aop, getD_map hx, getD_map hy]
              repeat (refine And.intro (by first | omega | (intros; omega) | (intros; simp_all; done) | (intros; simp_all; omega)) ?_)
              refine k _ ?_; clear k K
              refine k40 _ ?_
              refine n27 _ (j + 1, acc2 ++ [[(i : Int), ((i + 1 + j : Nat) : Int)]]) ?_ ?_ ?_
              · refine weak_both [0, 4, 5, 6, 12, 13, 14, 22, 23, 24] [5, 1] (by decide) (by simp) ?_ ?_ ?_
                · simp [keep_mk, keepE_nil, keepE_cons, look_cons, V.only, V.onlyL, idx] <;> (first | rfl | decide)
                · simp [Blk.kindIs, fillK_mix]
                simp only [keep_mk, keepE_nil, keepE_cons, look_cons, look_nil, Nat.reduceEqDiff, reduceIte, St.comp, List.map_cons, List.map_nil, V.ren, V.renL, idx, List.getD_cons_zero, List.getD_cons_succ, Nat.reduceBEq, cond_true, cond_false, Option.map_some, Option.getD_some, Nat.reduceAdd, Nat.beq_eq_true_eq]
                rw [snoc_SS, ← fillK_snoc]; rfl
              · exact ⟨hltk, by show (acc2 ++ _).length ≤ 15 * i + (j + 1); rw [List.length_append, List.length_singleton]; omega, by show (acc2 ++ _) ++ busyIn _ i (i + 1 + j + 1) (l.drop (i + 1 + j + 1)) = _; rw [← hR2, hst2, if_pos hb]; simp⟩
              · show _ < _; show l.length - (i + 1 + (j + 1)) < l.length - (i + 1 + j); omega
            · intro hc3
              try simp only [zC, reduceCtorEq] at hc3
              have hb : busyB (x0, x1, x2, x3) (y0, y1, y2, y3) = false := by
                cases hq : busyB (x0, x1, x2, x3) (y0, y1, y2, y3) with
                | false => rfl
                | true =>
                  exfalso
                  simp only [busyB, Bool.and_eq_true, decide_eq_true_eq, Bool.not_eq_true', decide_eq_false_iff_not] at hq
                  obtain ⟨⟨⟨q1, q2⟩, q3⟩, q4⟩ := hq
                  have h4 := hc3 ⟨q1, q2⟩
                  split at h4 <;> split at h4 <;> omega
              refine v_skip ?_
              refine n33 _ ?_
              refine n32 _ _ (weak_keep [0, 4, 5, 6, 12, 13, 14, 22, 23, 24] _) ?_
              simp only [keep_mk, keepE_nil, keepE_cons, look_cons, look_nil, Nat.reduceEqDiff, reduceIte]
              refine v_region ?_; intro K41 k41
              -- 63 := binOp Go.BinOp.add 3 t24 c<1:i64> 3
              refine v_op ?_; intro K k
              simp only [zE, aStepM, optable, set_some, Nat.reduceEqDiff, reduceIte, Nat.reduceLT, implies_true, forall_const, reduceCtorEq, V.ofValue, V.ofScalar, V.un, V.gd, aExec, aop, aBin, Try.underlying3, getD_map hx, getD_map hy]
              try simp (disch := omega) only [wrap64]
              repeat (refine And.intro (by first | omega | (intros; omega) | (intros; simp_all; done) | (intros; simp_all; omega)) ?_)
              refine k _ ?_; clear k K
              -- 24 := move t63
              refine v_op ?_; intro K k
              simp only [zE, aStepM, optable, set_some, Nat.reduceEqDiff, reduceIte, Nat.reduceLT, implies_true, forall_const, reduceCtorEq, V.ofValue, V.ofScalar, V.un, V.gd, aExec, aop, getD_map hx, getD_map hy]
              repeat (refine And.intro (by first | omega | (intros; omega) | (intros; simp_all; done) | (intros; simp_all; omega)) ?_)
              refine k _ ?_; clear k K
              refine k41 _ ?_
              refine n27 _ (j + 1, acc2) ?_ ?_ ?_
              · refine weak_both [0, 4, 5, 6, 12, 13, 14, 22, 23, 24] [0, 1] (by decide) (by simp) ?_ ?_ ?_
                · simp [keep_mk, keepE_nil, keepE_cons, look_cons, V.only, V.onlyL, idx] <;> (first | rfl | decide)
                · simp [Blk.kindIs, fillK_mix]
                simp only [keep_mk, keepE_nil, keepE_cons, look_cons, look_nil, Nat.reduceEqDiff, reduceIte, St.comp, List.map_cons, List.map_nil, V.ren, V.renL, idx, List.getD_cons_zero, List.getD_cons_succ, Nat.reduceBEq, cond_true, cond_false, Option.map_some, Option.getD_some, Nat.reduceAdd, Nat.beq_eq_true_eq]
                rfl
              · exact ⟨hltk, by show acc2.length ≤ 15 * i + (j + 1); omega, by show acc2 ++ busyIn _ i (i + 1 + j + 1) (l.drop (i + 1 + j + 1)) = _; rw [← hR2, hst2, if_neg (by rw [hb]; simp)]⟩
              · show _ < _; show l.length - (i + 1 + (j + 1)) < l.length - (i + 1 + j); omega
          · intro hc2
            try simp only [zC, reduceCtorEq] at hc2
            rw [hdl] at hc2
            refine v_exit ?_
            refine e30 _ _ ?_
            refine e27 _ _ ?_
            refine x26 _ ?_
            refine n21 _ ?_
            refine n20 _ _ (weak_keep [0, 4, 12, 13, 14] _) ?_
            simp only [keep_mk, keepE_nil, keepE_cons, look_cons, look_nil, Nat.reduceEqDiff, reduceIte]
            refine v_region ?_; intro K42 k42
            -- 64 := binOp Go.BinOp.add 3 t14 c<1:i64> 3
            refine v_op ?_; intro K k
            simp only [zE, aStepM, optable, set_some, Nat.reduceEqDiff, reduceIte, Nat.reduceLT, implies_true, forall_const, reduceCtorEq, V.ofValue, V.ofScalar, V.un, V.gd, aExec, aop, aBin, Try.underlying3, getD_map hx]
            try simp (disch := omega) only [wrap64]
            repeat (refine And.intro (by first | omega | (intros; omega) | (intros; simp_all; done) | (intros; simp_all; omega)) ?_)
            refine k _ ?_; clear k K
            -- 14 := move t64
            refine v_op ?_; intro K k
            simp only [zE, aStepM, optable, set_some, Nat.reduceEqDiff, reduceIte, Nat.reduceLT, implies_true, forall_const, reduceCtorEq, V.ofValue, V.ofScalar, V.un, V.gd, aExec, aop, getD_map hx]
            repeat (refine And.intro (by first | omega | (intros; omega) | (intros; simp_all; done) | (intros; simp_all; omega)) ?_)
            refine k _ ?_; clear k K
            refine k42 _ ?_
            refine n15 _ (i + 1, acc2) ?_ ?_ ?_
            · refine weak_both [0, 4, 12, 13, 14] [0] (by decide) (by simp) ?_ ?_ ?_
              · simp [keep_mk, keepE_nil, keepE_cons, look_cons, V.only, V.onlyL, idx] <;> (first | rfl | decide)
              · simp [Blk.kindIs, fillK_mix]
              simp only [keep_mk, keepE_nil, keepE_cons, look_cons, look_nil, Nat.reduceEqDiff, reduceIte, St.comp, List.map_cons, List.map_nil, V.ren, V.renL, idx, List.getD_cons_zero, List.getD_cons_succ, Nat.reduceBEq, cond_true, cond_false, Option.map_some, Option.getD_some, Nat.reduceAdd, Nat.beq_eq_true_eq]
              rfl
            · exact ⟨hlt, by show acc2.length ≤ 15 * (i + 1); omega, by show acc2 ++ busyFrom (i + 1) (l.drop (i + 1)) = _; rw [← hR, hst, ← List.append_assoc, ← hR2, busyIn_end (by omega), List.append_nil]⟩
            · show _ < _; show l.length - (i + 1) < l.length - i; omega
      · intro hc1
        try simp only [zC, reduceCtorEq] at hc1
        refine v_exit ?_
        refine e18 _ _ ?_
        refine e15 _ _ ?_
        refine x14 _ ?_
        refine n11 _ _ (weak_keep [4] _) ?_
        simp only [keep_mk, keepE_nil, keepE_cons, look_cons, look_nil, Nat.reduceEqDiff, reduceIte]
        refine v_seq ?_; intro Q43 n43 e43 r43  -- SEQ 17
        refine v_region ?_; intro K44 k44
        -- 65 := move t4
        refine v_op ?_; intro K k
        simp only [zE, aStepM, optable, set_some, Nat.reduceEqDiff, reduceIte, Nat.reduceLT, implies_true, forall_const, reduceCtorEq, V.ofValue, V.ofScalar, V.un, V.gd, aExec, aop]
        repeat (refine And.intro (by first | omega | (intros; omega) | (intros; simp_all; done) | (intros; simp_all; omega)) ?_)
        refine k _ ?_; clear k K
        -- 2 := assign t65
        refine v_op ?_; intro K k
        simp only [zE, zS, aStepM, optable, set_some, Nat.reduceEqDiff, reduceIte, Nat.reduceLT, implies_true, forall_const, reduceCtorEq, V.ofValue, V.ofScalar, V.un, V.gd, aExec, aop, Nat.reduceAdd]
        repeat (refine And.intro (by first | omega | (intros; omega) | (intros; simp_all; done) | (intros; simp_all; omega)) ?_)
        refine k _ ?_; clear k K
        -- 3 := assign c<true>
        refine v_op ?_; intro K k
        simp only [zE, zS, aStepM, optable, set_some, Nat.reduceEqDiff, reduceIte, Nat.reduceLT, implies_true, forall_const, reduceCtorEq, V.ofValue, V.ofScalar, V.un, V.gd, aExec, aop, Nat.reduceAdd]
        repeat (refine And.intro (by first | omega | (intros; omega) | (intros; simp_all; done) | (intros; simp_all; omega)) ?_)
        refine k _ ?_; clear k K
        refine k44 _ ?_
        refine n43 _ _ (weak_keep [2, 3] _) ?_
        simp only [keep_mk, keepE_nil, keepE_cons, look_cons, look_nil, Nat.reduceEqDiff, reduceIte]
        refine v_ret ?_
        refine r0 _ ?_
        simp only [resK, pickRV, get_mk, look_cons, look_nil, Nat.reduceEqDiff, reduceIte, List.map_cons, List.map_nil]
        have hend : acc = busyFrom 0 l := by rw [← hR, busyFrom_end (by omega), List.append_nil]
        rw [show busyR l = acc by rw [busyR, hc0, hend]; rfl, hc0]
        exact ret_ref_tup rfl rfl rfl (fillK_or _)
end Go.Proofs.Ytciapcamhocmcaa
