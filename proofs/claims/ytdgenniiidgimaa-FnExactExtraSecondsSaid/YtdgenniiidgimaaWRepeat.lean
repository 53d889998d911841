/- What functions compute (Repeat). No condition. -/
import Derived.Test.YtdgenniiidgimaaTy
import Derived.Test.YtdgenniiidgimaaVmG
set_option linter.unusedSimpArgs false
set_option linter.unusedVariables false
set_option linter.defProp false
namespace Go.Proofs.Ytdgenniiidgimaa
open Go Go.Vm

theorem wrapU {n : Int} (h0 : 0 ≤ n) (h : n < 18446744073709551616) : IntKind.u64.wrap n = n := by
  simp [IntKind.wrap, IntKind.signed, IntKind.bits]
  omega
theorem andMask {n : Int} (h0 : 0 ≤ n) (h : n < 4294967296) : IntKind.u64.wrap ((BitVec.ofInt IntKind.u64.bits n &&& BitVec.ofInt IntKind.u64.bits 4294967295).toNat : Int) = n := by
  obtain ⟨m, rfl⟩ := Int.eq_ofNat_of_zero_le h0
  have e : (BitVec.ofInt IntKind.u64.bits (m : Int) &&& BitVec.ofInt IntKind.u64.bits 4294967295).toNat = m := by
    show (BitVec.ofInt 64 (m : Int) &&& BitVec.ofInt 64 4294967295).toNat = m
    rw [BitVec.toNat_and]
    have h1 : (BitVec.ofInt 64 (m : Int)).toNat = m := by simp [BitVec.toNat_ofInt]; omega
    have h2 : (BitVec.ofInt 64 4294967295).toNat = 2 ^ 32 - 1 := by decide
    rw [h1, h2, Nat.and_two_pow_sub_one_eq_mod]
    omega
  rw [e, wrapU (by omega) (by omega)]
theorem shr32 {n : Int} (h0 : 0 ≤ n) (h : n < 4294967296) : n.fdiv (2 ^ min (Int.toNat 32) IntKind.u64.bits) = 0 := by
  have : min (Int.toNat 32) IntKind.u64.bits = 32 := by decide
  rw [this, Int.fdiv_eq_ediv_of_nonneg _ (by decide)]
  omega

set_option maxHeartbeats 1000000 in
theorem mul64_con (n : Int) (h0 : 0 ≤ n) (hn : n ≤ 1048576) : Con Try.prog 220 [.int .u64 1, .int .u64 n] [] (.tup [.int .u64 0, .int .u64 n]) [] := by
 have a1 := andMask (n := 1) (by omega) (by omega)
 have a0 := andMask (n := 0) (by omega) (by omega)
 have an := andMask (n := n) (by omega) (by omega)
 have s1 := shr32 (n := 1) (by omega) (by omega)
 have s0 := shr32 (n := 0) (by omega) (by omega)
 have sn := shr32 (n := n) (by omega) (by omega)
 have m1 : IntKind.u64.wrap (1 * n) = n := by rw [Int.one_mul]; exact wrapU (by omega) (by omega)
 have m2 : IntKind.u64.wrap (0 * n) = 0 := by rw [Int.zero_mul]; rfl
 have m3 : IntKind.u64.wrap (0 + 0) = 0 := rfl
 have m4 : IntKind.u64.wrap (1 * 0) = 0 := rfl
 have m5 : IntKind.u64.wrap (0 * 0) = 0 := rfl
 refine v_con [.tmp 4, .tmp 5] [] Try.func220 rfl rfl rfl (by simp [Try.ntmps220]) ?_
 intro Q0 n0 r0
 simp only [Try.ntmps220, envFrom, Nat.reduceAdd]
 have T := Tys.mk (And.intro Ty.t119 Ty.t220)
 have F := Fc.mk True.intro
 refine v_seq ?_; intro Q1 n1 e1 r1
 refine v_region ?_; intro K2 k2
 have F := Fc.mk (And.intro a1 (And.intro a0 (And.intro an (And.intro s1 (And.intro s0 (And.intro sn (And.intro m1 (And.intro m2 (And.intro m3 (And.intro m4 m5))))))))))
 refine zAssign ⟨?_⟩
 refine zAssign ⟨?_⟩
 refine k2 _ ?_
 refine n1 _ _ (weak_keep [0, 1] _) ?_
 refine zk ⟨?_⟩
 refine v_seq ?_; intro Q3 n3 e3 r3
 refine v_region ?_; intro K4 k4
 refine zMove ⟨?_⟩
 refine zBinOp ⟨?_⟩
 refine zAssign ⟨?_⟩
 refine k4 _ ?_
 refine n3 _ _ (weak_keep [0, 1, 6] _) ?_
 refine zk ⟨?_⟩
 refine v_seq ?_; intro Q5 n5 e5 r5
 refine v_region ?_; intro K6 k6
 refine zMove ⟨?_⟩
 refine zBinOp ⟨?_⟩
 refine zAssign ⟨?_⟩
 refine k6 _ ?_
 refine n5 _ _ (weak_keep [0, 1, 6, 7] _) ?_
 refine zk ⟨?_⟩
 refine v_seq ?_; intro Q7 n7 e7 r7
 refine v_region ?_; intro K8 k8
 refine zMove ⟨?_⟩
 refine zBinOp ⟨?_⟩
 refine zAssign ⟨?_⟩
 refine k8 _ ?_
 refine n7 _ _ (weak_keep [0, 1, 6, 7, 8] _) ?_
 refine zk ⟨?_⟩
 refine v_seq ?_; intro Q9 n9 e9 r9
 refine v_region ?_; intro K10 k10
 refine zMove ⟨?_⟩
 refine zBinOp ⟨?_⟩
 refine zAssign ⟨?_⟩
 refine k10 _ ?_
 refine n9 _ _ (weak_keep [0, 1, 6, 7, 8, 9] _) ?_
 refine zk ⟨?_⟩
 refine v_seq ?_; intro Q11 n11 e11 r11
 refine v_region ?_; intro K12 k12
 refine zMove ⟨?_⟩
 refine zMove ⟨?_⟩
 refine zBinOpW ⟨?_⟩
 refine zAssign ⟨?_⟩
 refine k12 _ ?_
 refine n11 _ _ (weak_keep [0, 1, 6, 7, 8, 9, 10] _) ?_
 refine zk ⟨?_⟩
 refine v_seq ?_; intro Q13 n13 e13 r13
 refine v_region ?_; intro K14 k14
 refine zMove ⟨?_⟩
 refine zMove ⟨?_⟩
 refine zBinOpW ⟨?_⟩
 refine zMove ⟨?_⟩
 refine zBinOp ⟨?_⟩
 refine zBinOpW ⟨?_⟩
 refine zAssign ⟨?_⟩
 refine k14 _ ?_
 refine n13 _ _ (weak_keep [0, 1, 6, 7, 9, 11] _) ?_
 refine zk ⟨?_⟩
 refine v_seq ?_; intro Q15 n15 e15 r15
 refine v_region ?_; intro K16 k16
 refine zMove ⟨?_⟩
 refine zBinOp ⟨?_⟩
 refine zAssign ⟨?_⟩
 refine k16 _ ?_
 refine n15 _ _ (weak_keep [0, 1, 6, 7, 9, 11, 12] _) ?_
 refine zk ⟨?_⟩
 refine v_seq ?_; intro Q17 n17 e17 r17
 refine v_region ?_; intro K18 k18
 refine zMove ⟨?_⟩
 refine zBinOp ⟨?_⟩
 refine zAssign ⟨?_⟩
 refine k18 _ ?_
 refine n17 _ _ (weak_keep [0, 1, 6, 7, 9, 12, 13] _) ?_
 refine zk ⟨?_⟩
 refine v_seq ?_; intro Q19 n19 e19 r19
 refine v_region ?_; intro K20 k20
 refine zMove ⟨?_⟩
 refine zMove ⟨?_⟩
 refine zMove ⟨?_⟩
 refine zBinOpW ⟨?_⟩
 refine zBinOpW ⟨?_⟩
 refine zAssign ⟨?_⟩
 refine k20 _ ?_
 refine n19 _ _ (weak_keep [0, 1, 7, 9, 12, 13] _) ?_
 refine zk ⟨?_⟩
 refine v_seq ?_; intro Q21 n21 e21 r21
 refine v_region ?_; intro K22 k22
 refine zMove ⟨?_⟩
 refine zMove ⟨?_⟩
 refine zBinOpW ⟨?_⟩
 refine zMove ⟨?_⟩
 refine zBinOpW ⟨?_⟩
 refine zMove ⟨?_⟩
 refine zBinOp ⟨?_⟩
 refine zBinOpW ⟨?_⟩
 refine zAssign ⟨?_⟩
 refine k22 _ ?_
 refine n21 _ _ (weak_keep [0, 1, 4] _) ?_
 refine zk ⟨?_⟩
 refine v_seq ?_; intro Q23 n23 e23 r23
 refine v_region ?_; intro K24 k24
 refine zMove ⟨?_⟩
 refine zMove ⟨?_⟩
 refine zBinOpW ⟨?_⟩
 refine zAssign ⟨?_⟩
 refine k24 _ ?_
 refine n23 _ _ (weak_keep [4, 5] _) ?_
 refine zk ⟨?_⟩
 refine v_ret ?_
 refine r0 _ ?_
 refine zf ⟨?_⟩
 exact ret_pure rfl rfl (.inl rfl)
set_option maxHeartbeats 1000000 in
theorem mulU_con (n : Int) (h0 : 0 ≤ n) (hn : n ≤ 1048576) : Con Try.prog 204 [.int .u64 1, .int .u64 n] [] (.tup [.int .u64 0, .int .u64 n]) [] := by
 refine v_con [.tmp 4, .tmp 5] [] Try.func204 rfl rfl rfl (by simp [Try.ntmps204]) ?_
 intro Q0 n0 r0
 simp only [Try.ntmps204, envFrom, Nat.reduceAdd]
 have T := Tys.mk (And.intro Ty.t119 Ty.t220)
 have F := Fc.mk True.intro
 refine v_seq ?_; intro Q1 n1 e1 r1
 refine v_region ?_; intro K2 k2
 refine zAssign ⟨?_⟩
 refine zAssign ⟨?_⟩
 refine k2 _ ?_
 refine n1 _ _ (weak_keep [0, 1] _) ?_
 refine zk ⟨?_⟩
 refine v_seq ?_; intro Q3 n3 e3 r3
 refine v_cond _ rfl ?_ ?_
 ·intro hc0
  exfalso; cases hc0
 ·intro hc0
  try simp only [zC, reduceCtorEq] at hc0
  refine v_skip ?_
  refine n3 _ _ (weak_keep [0, 1] _) ?_
  refine zk ⟨?_⟩
  refine v_seq ?_; intro Q5 n5 e5 r5
  refine v_region ?_; intro K6 k6
  refine zMove ⟨?_⟩
  refine zMove ⟨?_⟩
  refine zc (mul64_con n h0 hn) ⟨?_⟩
  refine zMove ⟨?_⟩
  refine zExtract ⟨?_⟩
  refine zExtract ⟨?_⟩
  refine zAssign ⟨?_⟩
  refine zAssign ⟨?_⟩
  refine k6 _ ?_
  refine n5 _ _ (weak_keep [8, 9] _) ?_
  refine zk ⟨?_⟩
  refine v_seq ?_; intro Q7 n7 e7 r7
  refine v_region ?_; intro K8 k8
  refine zMove ⟨?_⟩
  refine zMove ⟨?_⟩
  refine zAssign ⟨?_⟩
  refine zAssign ⟨?_⟩
  refine k8 _ ?_
  refine n7 _ _ (weak_keep [4, 5] _) ?_
  refine zk ⟨?_⟩
  refine v_ret ?_
  refine r0 _ ?_
  refine zf ⟨?_⟩
  exact ret_pure rfl rfl (.inl rfl)
def repTo (c : Int) (N m : Nat) : List V := List.replicate m (V.int .i64 c) ++ List.replicate (N - m) (V.int .i64 0)
theorem repTo_len {c : Int} {N m : Nat} (h : m ≤ N) : (repTo c N m).length = N := by simp [repTo]; omega
theorem repTo_cells {c : Int} {N m : Nat} : ∀ x ∈ repTo c N m, x.cells.length = 1 := by
  intro x hx
  rw [repTo, List.mem_append] at hx
  rcases hx with h | h <;> rw [List.eq_of_mem_replicate h] <;> rfl
theorem repTo_step {c : Int} {N m k : Nat} (h : m ≤ N) (hk : k = min m (N - m)) : (repTo c N m).take m ++ ((repTo c N m).take m).take k ++ (repTo c N m).drop (m + k) = repTo c N (m + k) := by
  have h1 : (repTo c N m).take m = List.replicate m (V.int .i64 c) := by rw [repTo, List.take_left' (by simp)]
  have h2 : (repTo c N m).drop (m + k) = List.replicate (N - (m + k)) (V.int .i64 0) := by
    rw [repTo, List.drop_append, List.drop_of_length_le (by simp), List.length_replicate, List.nil_append, List.drop_replicate]
    congr 1; omega
  rw [h1, h2, List.take_replicate, List.replicate_append_replicate, repTo]
  congr 3; omega
theorem repTo_one {c : Int} {N : Nat} (h : 1 ≤ N) : (List.replicate N (V.int .i64 0)).take 0 ++ [V.int .i64 c].take 1 ++ (List.replicate N (V.int .i64 0)).drop (0 + 1) = repTo c N 1 := by
  rw [repTo, List.drop_replicate]; rfl

set_option maxHeartbeats 1000000 in
theorem repeat_con (c : Int) (N : Nat) (h1 : 1 ≤ N) (hN : N ≤ 1048576) : Con Try.prog 176 [.sl [.int .i64 c], .int .i64 N] [] (.ref 0) [.arr ((List.replicate N c).map (V.int .i64)) .flat] := by
 have u1 : IntKind.u64.wrap 1 = 1 := rfl
 have un : IntKind.u64.wrap (N : Int) = N := wrapU (by omega) (by omega)
 have wn : IntKind.i64.wrap (N : Int) = N := by simp (disch := omega) only [wrap64]
 refine v_con [.tmp 4] [] Try.func176 rfl rfl rfl (by simp [Try.ntmps176]) ?_
 intro Q0 n0 r0
 simp only [Try.ntmps176, envFrom, Nat.reduceAdd]
 have T := Tys.mk (And.intro Ty.t3 (And.intro Ty.t26 Ty.t220))
 have F := Fc.mk True.intro
 refine v_seq ?_; intro Q1 n1 e1 r1
 refine v_region ?_; intro K2 k2
 have F := Fc.mk (And.intro u1 (And.intro un wn))
 refine zAssign ⟨?_⟩
 refine k2 _ ?_
 refine n1 _ _ (weak_keep [0, 1] _) ?_
 refine zk ⟨?_⟩
 refine v_seq ?_; intro Q3 n3 e3 r3
 refine v_seq ?_; intro Q4 n4 e4 r4
 refine v_region ?_; intro K5 k5
 refine zMove ⟨?_⟩
 refine zBinOp ⟨?_⟩
 refine k5 _ ?_
 refine n4 _ _ (weak_keep [0, 1, 10] _) ?_
 refine zk ⟨?_⟩
 refine v_cond _ rfl ?_ ?_
 ·intro hc0
  exfalso; simp at hc0; omega
 ·intro hc0
  try simp only [zC, reduceCtorEq] at hc0
  refine v_skip ?_
  refine n3 _ _ (weak_keep [0, 1] _) ?_
  refine zk ⟨?_⟩
  refine v_seq ?_; intro Q7 n7 e7 r7
  refine v_region ?_; intro K8 k8
  refine zMove ⟨?_⟩
  refine zLen ⟨?_⟩
  refine zConvert ⟨?_⟩
  refine zMove ⟨?_⟩
  refine zConvert ⟨?_⟩
  refine zc (mulU_con (N : Int) (by omega) (by omega)) ⟨?_⟩
  refine zMove ⟨?_⟩
  refine zExtract ⟨?_⟩
  refine zExtract ⟨?_⟩
  refine zAssign ⟨?_⟩
  refine zAssign ⟨?_⟩
  refine k8 _ ?_
  refine n7 _ _ (weak_keep [0, 5, 6] _) ?_
  refine zk ⟨?_⟩
  refine v_seq ?_; intro Q9 n9 e9 r9
  refine v_seq ?_; intro Q10 n10 e10 r10
  refine v_region ?_; intro K11 k11
  refine zMove ⟨?_⟩
  refine zBinOp ⟨?_⟩
  refine zMove ⟨?_⟩
  refine zgMove ⟨?_⟩
  refine zgBinOp ⟨?_⟩
  refine zPick ⟨?_⟩
  refine k11 _ ?_
  refine n10 _ _ (weak_keep [0, 6, 26] _) ?_
  refine zk ⟨?_⟩
  refine v_cond _ rfl ?_ ?_
  ·intro hc1
   exfalso; simp at hc1; omega
  ·intro hc1
   try simp only [zC, reduceCtorEq] at hc1
   refine v_skip ?_
   refine n9 _ _ (weak_keep [0, 6] _) ?_
   refine zk ⟨?_⟩
   refine v_seq ?_; intro Q13 n13 e13 r13
   refine v_region ?_; intro K14 k14
   refine zMove ⟨?_⟩
   refine zConvert ⟨?_⟩
   refine zMakeSlice ⟨?_⟩
   refine zAssign ⟨?_⟩
   refine k14 _ ?_
   refine n13 _ _ (weak_keep [0, 7] _) ?_
   refine zk ⟨?_⟩
   refine v_seq ?_; intro Q15 n15 e15 r15
   refine v_region ?_; intro K16 k16
   refine zMove ⟨?_⟩
   refine zMove ⟨?_⟩
   refine zCopy ⟨?_⟩
   refine zAssign ⟨?_⟩
   refine k16 _ ?_
   refine n15 _ _ (weak_keep [7, 8] _) ?_
   refine zk ⟨?_⟩
   refine v_seq ?_; intro Q17 n17 e17 r17
   refine v_block ?_; intro Q18 n18 x18 e18 r18
   refine v_loop (fun m => ⟨[(7, .ref 0), (8, .int .i64 (Nat.cast m))], [.arr (repTo c N m) .flat], false, 48, 0⟩) (fun m => 1 ≤ m ∧ m ≤ N) (fun m => N - m) 1 ?_ ?_ ?_
   ·refine weak_bothS [7, 8] [1] ⟨?_⟩
    simp only [List.length_replicate, show min 1 N = 1 by omega]; rw [show List.take 1 [V.int .i64 c] ++ List.drop 1 (List.replicate N (V.int .i64 0)) = repTo c N 1 by rw [repTo, List.drop_replicate]; rfl]
   ·exact ⟨Nat.le_refl _, h1⟩
   ·rintro m hok19 Q19 n19 e19 r19
    obtain ⟨hm1, hm2⟩ := hok19
    refine v_seq ?_; intro Q20 n20 e20 r20
    refine v_seq ?_; intro Q21 n21 e21 r21
    refine v_region ?_; intro K22 k22
    refine zMove ⟨?_⟩
    refine zMove ⟨?_⟩
    refine zLen ⟨?_⟩
    refine zBinOp ⟨?_⟩
    refine k22 _ ?_
    refine n21 _ _ (weak_keep [7, 8, 37] _) ?_
    refine zk ⟨?_⟩
    refine v_condS _ rfl ?_ ?_
    ·intro hc2
     have hrl := repTo_len (c := c) (N := N) hm2
     have hlt : m < N := by rw [hrl] at hc2; omega
     refine v_skip ?_
     refine n20 _ _ (weak_keep [7, 8] _) ?_
     refine zk ⟨?_⟩
     refine v_block ?_; intro Q24 n24 x24 e24 r24
     refine v_draw (by kernel_rfl) ?_; intro K25 q25 k25
     show aAny _ _ _ _ 10 (Array.replicate 10 false) _
     have F := Fc.mk (And.intro u1 (And.intro un (And.intro wn hrl)))
     refine zdMove q25 false 0 38 ?_
     refine zdMove q25 true 1 39 ?_
     refine zdMove q25 true 2 40 ?_
     refine aAny_take q25 true 3 41 rfl rfl (by kernel_rfl) (by kernel_rfl) ?_
     apply Exists.intro; apply And.intro
     ·intro t hn gx ho K' k'
      have g39 := gx 39 (by decide)
      have g40 := gx 40 (by decide)
      simp only [get_mk, look_cons, look_nil, set_some, Nat.reduceEqDiff, reduceIte] at g39 g40
      first | have row0 := grow_row (i := 0) (ho rfl) rfl | have row0 : t.n + 0 = t.n := rfl
      first | have row1 := grow_row (i := 1) (ho rfl) rfl | have row1 : t.n + 0 = t.n := rfl
      first | have row2 := grow_row (i := 2) (ho rfl) rfl | have row2 : t.n + 0 = t.n := rfl
      have hdl : 41 < t.n := by rw [hn]; show 41 < 48; decide
      clear hn
      refine .inl ?_
      simp only [zE, zL, zN, hdl, aStepM, optable, Nat.reduceEqDiff, reduceIte, implies_true, forall_const, reduceCtorEq, V.ofValue, V.ofScalar, V.un, V.gd, aExec, aop, g39, g40, row0, row1, row2, List.set_cons_zero, List.set_cons_succ, aSlice, forall_eq', bound, ElemsOK, Option.map_none, Option.isNone_none, row_mk, Blk.row, TypeDesc.slice.injEq, List.forall_mem_map, List.length_map, Go.Vm.V.cells, Int.toNat_natCast, Int.reduceToNat, ← List.map_take, ← List.map_drop, List.take_length, Nat.reduceAdd, Nat.reduceLeDiff, Nat.reduceLT, Nat.reduceMul, Try.underlying3, Ty.c3, Ty.a3, Try.underlying26, Ty.c26, Ty.a26, u1, un, wn, hrl]
      repeat (refine And.intro (by first | omega | exact repTo_cells | exact ⟨by omega, repTo_cells, fun y hy => repTo_cells y (List.mem_of_mem_take hy)⟩ | (intros; omega) | (intros; simp_all; done) | (intros; simp_all; omega)) ?_)
      exact k'
     simp only [set_some]
     refine zdMove q25 true 4 42 ?_
     refine zdMove q25 true 5 43 ?_
     refine aAny_take q25 true 6 44 rfl rfl (by kernel_rfl) (by kernel_rfl) ?_
     apply Exists.intro; apply And.intro
     ·intro t hn gx ho K' k'
      have g42 := gx 42 (by decide)
      have g43 := gx 43 (by decide)
      simp only [get_mk, look_cons, look_nil, set_some, Nat.reduceEqDiff, reduceIte] at g42 g43
      first | have row0 := grow_row (i := 0) (ho rfl) rfl | have row0 : t.n + 0 = t.n := rfl
      first | have row1 := grow_row (i := 1) (ho rfl) rfl | have row1 : t.n + 0 = t.n := rfl
      first | have row2 := grow_row (i := 2) (ho rfl) rfl | have row2 : t.n + 0 = t.n := rfl
      have hdl : 44 < t.n := by rw [hn]; show 44 < 48; decide
      clear hn
      refine .inl ?_
      simp only [zE, zL, zN, hdl, aStepM, optable, Nat.reduceEqDiff, reduceIte, implies_true, forall_const, reduceCtorEq, V.ofValue, V.ofScalar, V.un, V.gd, aExec, aop, g42, g43, row0, row1, row2, List.set_cons_zero, List.set_cons_succ, aSlice, forall_eq', bound, ElemsOK, Option.map_none, Option.isNone_none, row_mk, Blk.row, TypeDesc.slice.injEq, List.forall_mem_map, List.length_map, Go.Vm.V.cells, Int.toNat_natCast, Int.reduceToNat, ← List.map_take, ← List.map_drop, List.take_length, Nat.reduceAdd, Nat.reduceLeDiff, Nat.reduceLT, Nat.reduceMul, Try.underlying3, Ty.c3, Ty.a3, Try.underlying26, Ty.c26, Ty.a26, u1, un, wn, hrl]
      repeat (refine And.intro (by first | omega | exact repTo_cells | exact ⟨by omega, repTo_cells, fun y hy => repTo_cells y (List.mem_of_mem_take hy)⟩ | (intros; omega) | (intros; simp_all; done) | (intros; simp_all; omega)) ?_)
      exact k'
     simp only [set_some]
     refine aAny_only 7 rfl (by kernel_rfl) ?_; intro K k
     simp only [zE, zL, zO, zN, aStepM, optable, set_some, Nat.reduceEqDiff, reduceIte, Nat.reduceLT, implies_true, forall_const, reduceCtorEq, V.ofValue, V.ofScalar, V.un, V.gd, aExec, aop, aCopy, dstRng, srcOf, row_mk, Blk.row, join_ff, join_fv, join_s, join_d, join_t, List.set_cons_zero, List.set_cons_succ, List.forall_mem_map, List.length_map, Go.Vm.V.cells, V.noSl, List.size_toArray, List.getD_eq_getElem?_getD, Array.getD_eq_getD_getElem?, Option.getD_some, TypeDesc.slice.injEq, Nat.reduceAdd, Nat.reduceLeDiff, Nat.reduceMul, Try.underlying3, Ty.c3, Ty.a3, Ty.b3, Ty.s3, Try.underlying26, Ty.c26, Ty.a26, Ty.b26, Ty.s26, u1, un, wn, hrl]
     repeat (refine And.intro (by first | omega | exact repTo_cells | exact ⟨by omega, repTo_cells, fun y hy => repTo_cells y (List.mem_of_mem_take hy)⟩ | (intros; omega) | (intros; simp_all; done) | (intros; simp_all; omega)) ?_)
     refine k _ ?_; clear k K
     refine zdBinOpW q25 true 8 46 ?_
     refine zoAssign 9 ⟨?_⟩
     refine aAny_done (by kernel_rfl) ?_
     refine k25 _ ?_
     refine n24 _ ?_
     refine n19 _ (m + min m (N - m)) ?_ ?_ ?_
     ·refine weak_bothS [7, 8] [0] ⟨?_⟩
      simp only [Nat.sub_zero, List.length_take, repTo_len hm2, show min m N = m by omega, ← Int.natCast_add]
      rw [repTo_step hm2 rfl]
     ·exact ⟨by omega, by omega⟩
     ·show _ < _; omega
    ·intro hc2
     refine v_exit ?_
     refine e20 _ _ ?_
     refine e19 _ _ ?_
     refine x18 _ ?_
     refine n17 _ _ (weak_keep [7] _) ?_
     refine zk ⟨?_⟩
     refine v_seq ?_; intro Q26 n26 e26 r26
     refine v_region ?_; intro K27 k27
     refine zMove ⟨?_⟩
     refine zAssign ⟨?_⟩
     refine k27 _ ?_
     refine n26 _ _ (weak_keep [4] _) ?_
     refine zk ⟨?_⟩
     refine v_ret ?_
     refine r0 _ ?_
     refine zf ⟨?_⟩
     have hend : m = N := by rw [repTo_len hm2] at hc2; omega
     exact ret_refK rfl rfl (by rw [hend, repTo, Nat.sub_self, List.map_replicate]; simp)
end Go.Proofs.Ytdgenniiidgimaa
