/- What functions compute. No condition. -/
import Derived.Test.YtdgenniiidgimaaUty
import Derived.Test.YtdgenniiidgimaaUmG
import Derived.Test.YtdgenniiidgimaaX1
set_option linter.unusedSimpArgs false
set_option linter.unusedVariables false
set_option linter.defProp false
namespace Go.Proofs.Ytdgenniiidgimaa
open Go Go.Vm

def markStr (k : Int) (n : Nat) : List ByteArray := markG (fun j : Nat => markT (k + (j : Int))) n
theorem markStr_len (k : Int) (n : Nat) : (markStr k n).length = n := markG_len _ _
theorem markStr_at {k : Int} {n i : Nat} (h : i < n) : (markStr k n)[i]? = some (markT (k + (i : Int))) := by
  simp [markStr, markG, List.getElem?_map, List.getElem?_range h]

set_option maxHeartbeats 1000000 in
theorem markStringS_con (l : List ByteArray) (k : Int) (hl : l.length ≤ 1048576) (hk : 0 ≤ k ∧ k ≤ 1000000000000000) : Con Try.prog 112 [.ref 0, .int .i64 k] [.arr (l.map V.str) .flat] (.int .i64 (k + l.length)) [.arr ((markStr k l.length).map V.str) .flat] := by
 refine v_con [.tmp 4] [] Try.func112 rfl rfl rfl (by simp [Try.ntmps112]) ?_
 intro Q0 n0 r0
 simp only [Try.ntmps112, envFrom, Nat.reduceAdd]
 have T := Tys.mk (And.intro Ty.t3 (And.intro Ty.t9 Ty.t93))
 have F := Fc.mk True.intro
 refine v_seqR [0,1] ?_; intro K1 k1
 refine zAssign ⟨?_⟩
 refine k1 _ ?_
 refine zk ⟨?_⟩
 refine v_seq ?_; intro Q2 n2 e2 r2
 refine v_seqR [0,1,5] ?_; intro K3 k3
 refine zAssign ⟨?_⟩
 refine k3 _ ?_
 refine zk ⟨?_⟩
 refine v_block ?_; intro Q4 n4 x4 e4 r4
 refine v_loop (fun i => ⟨[(0, .ref 0), (1, .int .i64 (k + Nat.cast i)), (5, .int .i64 (Nat.cast i))], [.arr ((markG (fun j : Nat => markT (k + (j : Int))) i ++ l.drop i).map V.str) .flat], false, 20, 0⟩) (fun i => i ≤ l.length) (fun i => l.length - i) 0 ?_ ?_ ?_
 ·refine weak_bothS [0, 1, 5] [0] ⟨?_⟩
  simp [markG]
 ·exact Nat.zero_le _
 ·rintro i hok5 Q5 n5 e5 r5
  have hi1 : i ≤ l.length := hok5
  refine v_seq ?_; intro Q6 n6 e6 r6
  refine v_seqR [0,1,5,9] ?_; intro K7 k7
  refine zMove ⟨?_⟩
  refine zMove ⟨?_⟩
  refine zLen ⟨?_⟩
  refine zBinOp ⟨?_⟩
  refine k7 _ ?_
  refine zk ⟨?_⟩
  refine v_condS _ rfl ?_ ?_
  ·intro hc0
   have hml := markG_all (g := (fun j : Nat => markT (k + (j : Int)))) hi1
   rw [hml] at hc0
   have hlt : i < l.length := by omega
   obtain ⟨x, hx⟩ : ∃ x, l[i]? = some x := ⟨l[i], List.getElem?_eq_getElem hlt⟩
   have hmg := markG_get (g := (fun j : Nat => markT (k + (j : Int)))) hx
   have hms := markG_step (g := (fun j : Nat => markT (k + (j : Int)))) hx
   refine v_skip ?_
   refine n6 _ _ (weak_keep [0, 1, 5] _) ?_
   refine zk ⟨?_⟩
   refine v_seq ?_; intro Q9 n9 e9 r9
   refine v_block ?_; intro Q10 n10 x10 e10 r10
   refine v_seqR [0,1,5] ?_; intro K11 k11
   have F := Fc.mk (And.intro (fun f => getD_map (f := f) hmg) (And.intro hml (And.intro @set_map hms)))
   refine zMove ⟨?_⟩
   refine zMove ⟨?_⟩
   refine zMove ⟨?_⟩
   refine zc (markText_con (k + (i : Int)) (by omega)) ⟨?_⟩
   refine zIndexAddr ⟨?_⟩
   refine zStore ⟨?_⟩
   refine k11 _ ?_
   refine zk ⟨?_⟩
   refine v_region ?_; intro K12 k12
   refine zMove ⟨?_⟩
   refine zBinOpW ⟨?_⟩
   refine zAssign ⟨?_⟩
   refine k12 _ ?_
   refine n10 _ ?_
   refine n9 _ _ (weak_keep [0, 1, 5] _) ?_
   refine zk ⟨?_⟩
   refine v_region ?_; intro K13 k13
   refine zMove ⟨?_⟩
   refine zBinOpW ⟨?_⟩
   refine zAssign ⟨?_⟩
   refine k13 _ ?_
   refine n5 _ (i + 1) ?_ ?_ ?_
   ·refine weak_bothS [0, 1, 5] [0] ⟨?_⟩
    rw [show (k + (i : Int) + 1) = k + ((i + 1 : Nat) : Int) by omega]; rfl
   ·exact hlt
   ·show _ < _; omega
  ·intro hc0
   rw [markG_all (g := (fun j : Nat => markT (k + (j : Int)))) hi1] at hc0
   refine v_exit ?_
   refine e6 _ _ ?_
   refine e5 _ _ ?_
   refine x4 _ ?_
   refine n2 _ _ (weak_keep [1] _) ?_
   refine zk ⟨?_⟩
   refine v_seqR [4] ?_; intro K14 k14
   refine zMove ⟨?_⟩
   refine zAssign ⟨?_⟩
   refine k14 _ ?_
   refine zk ⟨?_⟩
   refine v_ret ?_
   refine r0 _ ?_
   refine zf ⟨?_⟩
   have hend : i = l.length := by omega
   subst hend
   exact ret_lent rfl (by simp) rfl (by simp [markStr]) (by simp [Blk.kindIs]) (.inl rfl)
set_option maxHeartbeats 1000000 in
theorem heldStringS_con (k : Int) (n : Nat) (hl : n ≤ 1048576) (hk : 0 ≤ k ∧ k ≤ 1000000000000000) : Con Try.prog 113 [.sl ((markStr k n).map V.str), .int .i64 k] [] (.int .i64 (k + n)) [] := by
 refine v_con [.tmp 4] [] Try.func113 rfl rfl rfl (by simp [Try.ntmps113]) ?_
 intro Q0 n0 r0
 simp only [Try.ntmps113, envFrom, Nat.reduceAdd]
 have T := Tys.mk (And.intro Ty.t3 (And.intro Ty.t9 Ty.t93))
 have F := Fc.mk True.intro
 refine v_seqR [0,1] ?_; intro K1 k1
 refine zAssign ⟨?_⟩
 refine k1 _ ?_
 refine zk ⟨?_⟩
 refine v_seq ?_; intro Q2 n2 e2 r2
 refine v_seqR [0,1,5] ?_; intro K3 k3
 refine zAssign ⟨?_⟩
 refine k3 _ ?_
 refine zk ⟨?_⟩
 refine v_block ?_; intro Q4 n4 x4 e4 r4
 refine v_loop (fun i => ⟨[(0, .sl ((markStr k n).map V.str)), (1, .int .i64 (k + Nat.cast i)), (5, .int .i64 (Nat.cast i))], [], false, 22, 0⟩) (fun i => i ≤ n) (fun i => n - i) 0 ?_ ?_ ?_
 ·refine weak_of [0, 1, 5] ?_
  simp only [keep_mk, keepE_nil, keepE_cons, look_cons, look_nil, Nat.reduceEqDiff, reduceIte]
  simp
 ·exact Nat.zero_le _
 ·rintro i hok5 Q5 n5 e5 r5
  have hi1 : i ≤ n := hok5
  refine v_seq ?_; intro Q6 n6 e6 r6
  refine v_seqR [0,1,5,9] ?_; intro K7 k7
  refine zMove ⟨?_⟩
  refine zMove ⟨?_⟩
  refine zLen ⟨?_⟩
  refine zBinOp ⟨?_⟩
  refine k7 _ ?_
  refine zk ⟨?_⟩
  refine v_condS _ rfl ?_ ?_
  ·intro hc0
   rw [markStr_len] at hc0
   have hlt : i < n := by omega
   have hx := markStr_at (k := k) hlt
   refine v_skip ?_
   refine n6 _ _ (weak_keep [0, 1, 5] _) ?_
   refine zk ⟨?_⟩
   refine v_seq ?_; intro Q9 n9 e9 r9
   refine v_block ?_; intro Q10 n10 x10 e10 r10
   refine v_seq ?_; intro Q11 n11 e11 r11
   refine v_seq ?_; intro Q12 n12 e12 r12
   refine v_draw (by kernel_rfl) ?_; intro K13 q13 k13
   show aAny _ _ _ _ 7 (Array.replicate 7 false) _
   have F := Fc.mk (And.intro (fun f => getD_map (f := f) hx) @markStr_len)
   refine zdMove q13 true 0 12 ?_
   refine zdMove q13 true 1 13 ?_
   refine zdIndexAddr q13 true 2 14 ?_
   refine zdLoad q13 true 3 15 ?_
   refine zdMove q13 true 4 16 ?_
   refine zoc 5 (markText_con (k + (i : Int)) (by omega)) ⟨?_⟩
   refine zdBinOp q13 true 6 18 ?_
   refine aAny_done (by kernel_rfl) ?_
   refine k13 _ ?_
   refine n12 _ _ (weak_keep [0, 1, 5, 18] _) ?_
   refine zk ⟨?_⟩
   refine v_cond _ rfl ?_ ?_
   ·intro hc1
    exfalso; simp at hc1
   ·intro hc1
    try simp only [zC, reduceCtorEq] at hc1
    refine v_skip ?_
    refine n11 _ _ (weak_keep [0, 1, 5] _) ?_
    refine zk ⟨?_⟩
    refine v_region ?_; intro K15 k15
    refine zMove ⟨?_⟩
    refine zBinOpW ⟨?_⟩
    refine zAssign ⟨?_⟩
    refine k15 _ ?_
    refine n10 _ ?_
    refine n9 _ _ (weak_keep [0, 1, 5] _) ?_
    refine zk ⟨?_⟩
    refine v_region ?_; intro K16 k16
    refine zMove ⟨?_⟩
    refine zBinOpW ⟨?_⟩
    refine zAssign ⟨?_⟩
    refine k16 _ ?_
    refine n5 _ (i + 1) ?_ ?_ ?_
    ·refine weak_bothS [0, 1, 5] [] ⟨?_⟩
     rw [show (k + (i : Int) + 1) = k + ((i + 1 : Nat) : Int) by omega]; rfl
    ·exact hlt
    ·show _ < _; omega
  ·intro hc0
   rw [markStr_len] at hc0
   refine v_exit ?_
   refine e6 _ _ ?_
   refine e5 _ _ ?_
   refine x4 _ ?_
   refine n2 _ _ (weak_keep [1] _) ?_
   refine zk ⟨?_⟩
   refine v_seqR [4] ?_; intro K17 k17
   refine zMove ⟨?_⟩
   refine zAssign ⟨?_⟩
   refine k17 _ ?_
   refine zk ⟨?_⟩
   refine v_ret ?_
   refine r0 _ ?_
   refine zf ⟨?_⟩
   have hend : i = n := by omega
   subst hend
   exact ret_pure rfl rfl (.inl rfl)
def markStreet (kk : Int) (n : Nat) : List (Int × Int × Int) := markG (fun j : Nat => ((kk + 3 * (j : Int)), (kk + 3 * (j : Int) + 1), (kk + 3 * (j : Int) + 1 + 1))) n

set_option maxHeartbeats 1000000 in
theorem markStreetS_con (l : List (Int × Int × Int)) (kk : Int) (hl : l.length ≤ 1048576) (hk : 0 ≤ kk ∧ kk ≤ 1000000000000000) : Con Try.prog 110 [.ref 0, .int .i64 kk] [.arr (l.map (fun t : Int × Int × Int => V.agg [V.int .i64 t.1, V.int .i64 t.2.1, V.int .i64 t.2.2])) .flat] (.int .i64 (kk + 3 * l.length)) [.arr ((markStreet kk l.length).map (fun t : Int × Int × Int => V.agg [V.int .i64 t.1, V.int .i64 t.2.1, V.int .i64 t.2.2])) .flat] := by
 refine v_con [.tmp 4] [] Try.func110 rfl rfl rfl (by simp [Try.ntmps110]) ?_
 intro Q0 n0 r0
 simp only [Try.ntmps110, envFrom, Nat.reduceAdd]
 have T := Tys.mk (And.intro Ty.t3 (And.intro Ty.t70 Ty.t182))
 have F := Fc.mk True.intro
 refine v_seqR [0,1] ?_; intro K1 k1
 refine zAssign ⟨?_⟩
 refine k1 _ ?_
 refine zk ⟨?_⟩
 refine v_seq ?_; intro Q2 n2 e2 r2
 refine v_seqR [0,1,5] ?_; intro K3 k3
 refine zAssign ⟨?_⟩
 refine k3 _ ?_
 refine zk ⟨?_⟩
 refine v_block ?_; intro Q4 n4 x4 e4 r4
 refine v_loop (fun i => ⟨[(0, .ref 0), (1, .int .i64 (kk + 3 * (Nat.cast i))), (5, .int .i64 (Nat.cast i))], [.arr ((markG (fun j : Nat => ((kk + 3 * (j : Int)), (kk + 3 * (j : Int) + 1), (kk + 3 * (j : Int) + 1 + 1))) i ++ l.drop i).map (fun t : Int × Int × Int => V.agg [V.int .i64 t.1, V.int .i64 t.2.1, V.int .i64 t.2.2])) .flat], false, 34, 0⟩) (fun i => i ≤ l.length) (fun i => l.length - i) 0 ?_ ?_ ?_
 ·refine weak_bothS [0, 1, 5] [0] ⟨?_⟩
  simp [markG]
 ·exact Nat.zero_le _
 ·rintro i hok5 Q5 n5 e5 r5
  have hi1 : i ≤ l.length := hok5
  refine v_seq ?_; intro Q6 n6 e6 r6
  refine v_seqR [0,1,5,9] ?_; intro K7 k7
  refine zMove ⟨?_⟩
  refine zMove ⟨?_⟩
  refine zLen ⟨?_⟩
  refine zBinOp ⟨?_⟩
  refine k7 _ ?_
  refine zk ⟨?_⟩
  refine v_condS _ rfl ?_ ?_
  ·intro hc0
   have hml := markG_all (g := (fun j : Nat => ((kk + 3 * (j : Int)), (kk + 3 * (j : Int) + 1), (kk + 3 * (j : Int) + 1 + 1)))) hi1
   rw [hml] at hc0
   have hlt : i < l.length := by omega
   obtain ⟨⟨x0, x1, x2⟩, hx⟩ : ∃ x : Int × Int × Int, l[i]? = some x := ⟨l[i]'(by omega), List.getElem?_eq_getElem (by omega)⟩
   have hmg := markG_get (g := (fun j : Nat => ((kk + 3 * (j : Int)), (kk + 3 * (j : Int) + 1), (kk + 3 * (j : Int) + 1 + 1)))) hx
   have hms : ((markG (fun j : Nat => ((kk + 3 * (j : Int)), (kk + 3 * (j : Int) + 1), (kk + 3 * (j : Int) + 1 + 1))) i ++ l.drop i).map (fun t : Int × Int × Int => V.agg [V.int .i64 t.1, V.int .i64 t.2.1, V.int .i64 t.2.2])).set i (.agg [V.int .i64 (kk + 3 * (i : Int)), V.int .i64 (kk + 3 * (i : Int) + 1), V.int .i64 (kk + 3 * (i : Int) + 1 + 1)]) = (markG (fun j : Nat => ((kk + 3 * (j : Int)), (kk + 3 * (j : Int) + 1), (kk + 3 * (j : Int) + 1 + 1))) (i + 1) ++ l.drop (i + 1)).map (fun t : Int × Int × Int => V.agg [V.int .i64 t.1, V.int .i64 t.2.1, V.int .i64 t.2.2]) := by
    have h := set_map (f := (fun t : Int × Int × Int => V.agg [V.int .i64 t.1, V.int .i64 t.2.1, V.int .i64 t.2.2])) (l := (markG (fun j : Nat => ((kk + 3 * (j : Int)), (kk + 3 * (j : Int) + 1), (kk + 3 * (j : Int) + 1 + 1))) i ++ l.drop i)) (i := i) (x := (fun j : Nat => ((kk + 3 * (j : Int)), (kk + 3 * (j : Int) + 1), (kk + 3 * (j : Int) + 1 + 1))) i)
    rw [markG_step hx] at h
    exact h
   refine v_skip ?_
   refine n6 _ _ (weak_keep [0, 1, 5] _) ?_
   refine zk ⟨?_⟩
   refine v_seq ?_; intro Q9 n9 e9 r9
   refine v_block ?_; intro Q10 n10 x10 e10 r10
   refine v_seqR [0,1,5] ?_; intro K11 k11
   have F := Fc.mk (And.intro (fun f => getD_map (f := f) hmg) (And.intro hml (And.intro @getD_set (And.intro hlt (And.intro @List.length_set.{0} (And.intro @List.set_set.{0} hms))))))
   refine zMove ⟨?_⟩
   refine zMove ⟨?_⟩
   refine zMove ⟨?_⟩
   refine v_op ?_; intro K k
   simp only [zE, zL, zN, aStepM, optable, set_some, Nat.reduceEqDiff, reduceIte, Nat.reduceLT, implies_true, forall_const, reduceCtorEq, V.ofValue, V.ofScalar, V.un, V.gd, aExec, aop, List.mem_cons, List.not_mem_nil, or_false, forall_eq_or_imp, forall_eq, aIndexAddr, row_mk, Blk.row, Go.Vm.V.cells, List.forall_mem_map, List.length_map, Int.toNat_natCast, Int.reduceToNat, TypeDesc.slice.injEq, Nat.reduceAdd, Nat.reduceLeDiff, Nat.reduceMul, Try.underlying70, Ty.c70, Ty.a70, Try.underlying182, Ty.c182, Ty.a182, getD_map hmg, hml, getD_set, hlt, List.length_set, List.set_set, hms]
   repeat (refine And.intro (by first | omega | (exact set_all (fun x hx => by obtain ⟨t, _, rfl⟩ := List.mem_map.1 hx; rfl) rfl) | (intros; omega) | (intros; simp_all; done)) ?_)
   refine k _ ?_; clear k K
   refine v_op ?_; intro K k
   simp only [zE, zL, zN, aStepM, optable, set_some, Nat.reduceEqDiff, reduceIte, Nat.reduceLT, implies_true, forall_const, reduceCtorEq, V.ofValue, V.ofScalar, V.un, V.gd, aExec, aop, aFieldAddr, Nat.reduceAdd, Nat.reduceLeDiff, Nat.reduceMul, Try.underlying3, Ty.c3, Ty.a3, Try.underlying182, Ty.c182, Ty.a182, getD_map hmg, hml, getD_set, hlt, List.length_set, List.set_set, hms]
   repeat (refine And.intro (by first | omega | (exact set_all (fun x hx => by obtain ⟨t, _, rfl⟩ := List.mem_map.1 hx; rfl) rfl) | (intros; omega) | (intros; simp_all; done)) ?_)
   refine k _ ?_; clear k K
   refine v_op ?_; intro K k
   simp only [zE, zS, zJ, zL, zO, zN, aStepM, optable, set_some, Nat.reduceEqDiff, reduceIte, Nat.reduceLT, implies_true, forall_const, reduceCtorEq, V.ofValue, V.ofScalar, V.un, V.gd, aExec, aop, aStore, setCells, V.isVal, V.cells, kindOf, kindAll, V.noSl, V.noRef, gt_iff_lt, Nat.reduceAdd, Nat.reduceLeDiff, Nat.reduceMul, takeV, takeCell, takeCells, row_mk, Blk.row, killAll, Nat.reduceBEq, join_t, Try.underlying3, Ty.c3, Ty.a3, getD_map hmg, hml, getD_set, hlt, List.length_set, List.set_set, hms]
   repeat (refine And.intro (by first | omega | (exact set_all (fun x hx => by obtain ⟨t, _, rfl⟩ := List.mem_map.1 hx; rfl) rfl) | (intros; omega) | (intros; simp_all; done)) ?_)
   refine k _ ?_; clear k K
   refine k11 _ ?_
   refine zk ⟨?_⟩
   refine v_seqR [0,1,5] ?_; intro K12 k12
   refine zMove ⟨?_⟩
   refine zBinOpW ⟨?_⟩
   refine zAssign ⟨?_⟩
   refine k12 _ ?_
   refine zk ⟨?_⟩
   refine v_seqR [0,1,5] ?_; intro K13 k13
   refine zMove ⟨?_⟩
   refine zMove ⟨?_⟩
   refine zMove ⟨?_⟩
   refine v_op ?_; intro K k
   simp only [zE, zL, zN, aStepM, optable, set_some, Nat.reduceEqDiff, reduceIte, Nat.reduceLT, implies_true, forall_const, reduceCtorEq, V.ofValue, V.ofScalar, V.un, V.gd, aExec, aop, List.mem_cons, List.not_mem_nil, or_false, forall_eq_or_imp, forall_eq, aIndexAddr, row_mk, Blk.row, Go.Vm.V.cells, List.forall_mem_map, List.length_map, Int.toNat_natCast, Int.reduceToNat, TypeDesc.slice.injEq, Nat.reduceAdd, Nat.reduceLeDiff, Nat.reduceMul, Try.underlying70, Ty.c70, Ty.a70, Try.underlying182, Ty.c182, Ty.a182, getD_map hmg, hml, getD_set, hlt, List.length_set, List.set_set, hms]
   repeat (refine And.intro (by first | omega | (exact set_all (fun x hx => by obtain ⟨t, _, rfl⟩ := List.mem_map.1 hx; rfl) rfl) | (intros; omega) | (intros; simp_all; done)) ?_)
   refine k _ ?_; clear k K
   refine v_op ?_; intro K k
   simp only [zE, zL, zN, aStepM, optable, set_some, Nat.reduceEqDiff, reduceIte, Nat.reduceLT, implies_true, forall_const, reduceCtorEq, V.ofValue, V.ofScalar, V.un, V.gd, aExec, aop, aFieldAddr, Nat.reduceAdd, Nat.reduceLeDiff, Nat.reduceMul, Try.underlying3, Ty.c3, Ty.a3, Try.underlying182, Ty.c182, Ty.a182, getD_map hmg, hml, getD_set, hlt, List.length_set, List.set_set, hms]
   repeat (refine And.intro (by first | omega | (exact set_all (fun x hx => by obtain ⟨t, _, rfl⟩ := List.mem_map.1 hx; rfl) rfl) | (intros; omega) | (intros; simp_all; done)) ?_)
   refine k _ ?_; clear k K
   refine v_op ?_; intro K k
   simp only [zE, zS, zJ, zL, zO, zN, aStepM, optable, set_some, Nat.reduceEqDiff, reduceIte, Nat.reduceLT, implies_true, forall_const, reduceCtorEq, V.ofValue, V.ofScalar, V.un, V.gd, aExec, aop, aStore, setCells, V.isVal, V.cells, kindOf, kindAll, V.noSl, V.noRef, gt_iff_lt, Nat.reduceAdd, Nat.reduceLeDiff, Nat.reduceMul, takeV, takeCell, takeCells, row_mk, Blk.row, killAll, Nat.reduceBEq, join_t, Try.underlying3, Ty.c3, Ty.a3, getD_map hmg, hml, getD_set, hlt, List.length_set, List.set_set, hms]
   repeat (refine And.intro (by first | omega | (exact set_all (fun x hx => by obtain ⟨t, _, rfl⟩ := List.mem_map.1 hx; rfl) rfl) | (intros; omega) | (intros; simp_all; done)) ?_)
   refine k _ ?_; clear k K
   refine k13 _ ?_
   refine zk ⟨?_⟩
   refine v_seqR [0,1,5] ?_; intro K14 k14
   refine zMove ⟨?_⟩
   refine zBinOpW ⟨?_⟩
   refine zAssign ⟨?_⟩
   refine k14 _ ?_
   refine zk ⟨?_⟩
   refine v_seqR [0,1,5] ?_; intro K15 k15
   refine zMove ⟨?_⟩
   refine zMove ⟨?_⟩
   refine zMove ⟨?_⟩
   refine v_op ?_; intro K k
   simp only [zE, zL, zN, aStepM, optable, set_some, Nat.reduceEqDiff, reduceIte, Nat.reduceLT, implies_true, forall_const, reduceCtorEq, V.ofValue, V.ofScalar, V.un, V.gd, aExec, aop, List.mem_cons, List.not_mem_nil, or_false, forall_eq_or_imp, forall_eq, aIndexAddr, row_mk, Blk.row, Go.Vm.V.cells, List.forall_mem_map, List.length_map, Int.toNat_natCast, Int.reduceToNat, TypeDesc.slice.injEq, Nat.reduceAdd, Nat.reduceLeDiff, Nat.reduceMul, Try.underlying70, Ty.c70, Ty.a70, Try.underlying182, Ty.c182, Ty.a182, getD_map hmg, hml, getD_set, hlt, List.length_set, List.set_set, hms]
   repeat (refine And.intro (by first | omega | (exact set_all (fun x hx => by obtain ⟨t, _, rfl⟩ := List.mem_map.1 hx; rfl) rfl) | (intros; omega) | (intros; simp_all; done)) ?_)
   refine k _ ?_; clear k K
   refine v_op ?_; intro K k
   simp only [zE, zL, zN, aStepM, optable, set_some, Nat.reduceEqDiff, reduceIte, Nat.reduceLT, implies_true, forall_const, reduceCtorEq, V.ofValue, V.ofScalar, V.un, V.gd, aExec, aop, aFieldAddr, Nat.reduceAdd, Nat.reduceLeDiff, Nat.reduceMul, Try.underlying3, Ty.c3, Ty.a3, Try.underlying182, Ty.c182, Ty.a182, getD_map hmg, hml, getD_set, hlt, List.length_set, List.set_set, hms]
   repeat (refine And.intro (by first | omega | (exact set_all (fun x hx => by obtain ⟨t, _, rfl⟩ := List.mem_map.1 hx; rfl) rfl) | (intros; omega) | (intros; simp_all; done)) ?_)
   refine k _ ?_; clear k K
   refine v_op ?_; intro K k
   simp only [zE, zS, zJ, zL, zO, zN, aStepM, optable, set_some, Nat.reduceEqDiff, reduceIte, Nat.reduceLT, implies_true, forall_const, reduceCtorEq, V.ofValue, V.ofScalar, V.un, V.gd, aExec, aop, aStore, setCells, V.isVal, V.cells, kindOf, kindAll, V.noSl, V.noRef, gt_iff_lt, Nat.reduceAdd, Nat.reduceLeDiff, Nat.reduceMul, takeV, takeCell, takeCells, row_mk, Blk.row, killAll, Nat.reduceBEq, join_t, Try.underlying3, Ty.c3, Ty.a3, getD_map hmg, hml, getD_set, hlt, List.length_set, List.set_set, hms]
   repeat (refine And.intro (by first | omega | (exact set_all (fun x hx => by obtain ⟨t, _, rfl⟩ := List.mem_map.1 hx; rfl) rfl) | (intros; omega) | (intros; simp_all; done)) ?_)
   refine k _ ?_; clear k K
   refine k15 _ ?_
   refine zk ⟨?_⟩
   refine v_region ?_; intro K16 k16
   refine zMove ⟨?_⟩
   refine zBinOpW ⟨?_⟩
   refine zAssign ⟨?_⟩
   refine k16 _ ?_
   refine n10 _ ?_
   refine n9 _ _ (weak_keep [0, 1, 5] _) ?_
   refine zk ⟨?_⟩
   refine v_region ?_; intro K17 k17
   refine zMove ⟨?_⟩
   refine zBinOpW ⟨?_⟩
   refine zAssign ⟨?_⟩
   refine k17 _ ?_
   refine n5 _ (i + 1) ?_ ?_ ?_
   ·refine weak_bothS [0, 1, 5] [0] ⟨?_⟩
    simp only [getD_set, List.length_map, hml, hlt, List.length_set, List.set_set, hms, List.take_succ_cons, List.take_zero, List.drop_succ_cons, List.drop_zero, List.drop_nil, List.cons_append, List.nil_append, List.append_nil]; rw [show (kk + 3 * (i : Int) + 1 + 1 + 1) = kk + 3 * ((i + 1 : Nat) : Int) by omega]; rfl
   ·exact hlt
   ·show _ < _; omega
  ·intro hc0
   rw [markG_all (g := (fun j : Nat => ((kk + 3 * (j : Int)), (kk + 3 * (j : Int) + 1), (kk + 3 * (j : Int) + 1 + 1)))) hi1] at hc0
   refine v_exit ?_
   refine e6 _ _ ?_
   refine e5 _ _ ?_
   refine x4 _ ?_
   refine n2 _ _ (weak_keep [1] _) ?_
   refine zk ⟨?_⟩
   refine v_seqR [4] ?_; intro K18 k18
   refine zMove ⟨?_⟩
   refine zAssign ⟨?_⟩
   refine k18 _ ?_
   refine zk ⟨?_⟩
   refine v_ret ?_
   refine r0 _ ?_
   refine zf ⟨?_⟩
   have hend : i = l.length := by omega
   subst hend
   exact ret_lent rfl (by simp) rfl (by simp [markStreet]) (by simp [Blk.kindIs]) (.inl rfl)
def markAppliance (kk : Int) (n : Nat) : List (ByteArray × Int × Int × Int × Int) := markG (fun j : Nat => (markT (kk + 5 * (j : Int)), (kk + 5 * (j : Int) + 1), (kk + 5 * (j : Int) + 1 + 1), (kk + 5 * (j : Int) + 1 + 1 + 1), (kk + 5 * (j : Int) + 1 + 1 + 1 + 1))) n

set_option maxHeartbeats 1000000 in
theorem markApplianceS_con (l : List (ByteArray × Int × Int × Int × Int)) (kk : Int) (hl : l.length ≤ 1048576) (hk : 0 ≤ kk ∧ kk ≤ 1000000000000000) : Con Try.prog 51 [.ref 0, .int .i64 kk] [.arr (l.map (fun t : ByteArray × Int × Int × Int × Int => V.agg [V.str t.1, V.int .i64 t.2.1, V.int .i64 t.2.2.1, V.int .i64 t.2.2.2.1, V.int .i64 t.2.2.2.2])) .flat] (.int .i64 (kk + 5 * l.length)) [.arr ((markAppliance kk l.length).map (fun t : ByteArray × Int × Int × Int × Int => V.agg [V.str t.1, V.int .i64 t.2.1, V.int .i64 t.2.2.1, V.int .i64 t.2.2.2.1, V.int .i64 t.2.2.2.2])) .flat] := by
 refine v_con [.tmp 4] [] Try.func51 rfl rfl rfl (by simp [Try.ntmps51]) ?_
 intro Q0 n0 r0
 simp only [Try.ntmps51, envFrom, Nat.reduceAdd]
 have T := Tys.mk (And.intro Ty.t3 (And.intro Ty.t9 (And.intro Ty.t74 Ty.t141)))
 have F := Fc.mk True.intro
 refine v_seqR [0,1] ?_; intro K1 k1
 refine zAssign ⟨?_⟩
 refine k1 _ ?_
 refine zk ⟨?_⟩
 refine v_seq ?_; intro Q2 n2 e2 r2
 refine v_seqR [0,1,5] ?_; intro K3 k3
 refine zAssign ⟨?_⟩
 refine k3 _ ?_
 refine zk ⟨?_⟩
 refine v_block ?_; intro Q4 n4 x4 e4 r4
 refine v_loop (fun i => ⟨[(0, .ref 0), (1, .int .i64 (kk + 5 * (Nat.cast i))), (5, .int .i64 (Nat.cast i))], [.arr ((markG (fun j : Nat => (markT (kk + 5 * (j : Int)), (kk + 5 * (j : Int) + 1), (kk + 5 * (j : Int) + 1 + 1), (kk + 5 * (j : Int) + 1 + 1 + 1), (kk + 5 * (j : Int) + 1 + 1 + 1 + 1))) i ++ l.drop i).map (fun t : ByteArray × Int × Int × Int × Int => V.agg [V.str t.1, V.int .i64 t.2.1, V.int .i64 t.2.2.1, V.int .i64 t.2.2.2.1, V.int .i64 t.2.2.2.2])) .flat], false, 49, 0⟩) (fun i => i ≤ l.length) (fun i => l.length - i) 0 ?_ ?_ ?_
 ·refine weak_bothS [0, 1, 5] [0] ⟨?_⟩
  simp [markG]
 ·exact Nat.zero_le _
 ·rintro i hok5 Q5 n5 e5 r5
  have hi1 : i ≤ l.length := hok5
  refine v_seq ?_; intro Q6 n6 e6 r6
  refine v_seqR [0,1,5,9] ?_; intro K7 k7
  refine zMove ⟨?_⟩
  refine zMove ⟨?_⟩
  refine zLen ⟨?_⟩
  refine zBinOp ⟨?_⟩
  refine k7 _ ?_
  refine zk ⟨?_⟩
  refine v_condS _ rfl ?_ ?_
  ·intro hc0
   have hml := markG_all (g := (fun j : Nat => (markT (kk + 5 * (j : Int)), (kk + 5 * (j : Int) + 1), (kk + 5 * (j : Int) + 1 + 1), (kk + 5 * (j : Int) + 1 + 1 + 1), (kk + 5 * (j : Int) + 1 + 1 + 1 + 1)))) hi1
   rw [hml] at hc0
   have hlt : i < l.length := by omega
   obtain ⟨⟨x0, x1, x2, x3, x4⟩, hx⟩ : ∃ x : ByteArray × Int × Int × Int × Int, l[i]? = some x := ⟨l[i]'(by omega), List.getElem?_eq_getElem (by omega)⟩
   have hmg := markG_get (g := (fun j : Nat => (markT (kk + 5 * (j : Int)), (kk + 5 * (j : Int) + 1), (kk + 5 * (j : Int) + 1 + 1), (kk + 5 * (j : Int) + 1 + 1 + 1), (kk + 5 * (j : Int) + 1 + 1 + 1 + 1)))) hx
   have hms : ((markG (fun j : Nat => (markT (kk + 5 * (j : Int)), (kk + 5 * (j : Int) + 1), (kk + 5 * (j : Int) + 1 + 1), (kk + 5 * (j : Int) + 1 + 1 + 1), (kk + 5 * (j : Int) + 1 + 1 + 1 + 1))) i ++ l.drop i).map (fun t : ByteArray × Int × Int × Int × Int => V.agg [V.str t.1, V.int .i64 t.2.1, V.int .i64 t.2.2.1, V.int .i64 t.2.2.2.1, V.int .i64 t.2.2.2.2])).set i (.agg [V.str (markT (kk + 5 * (i : Int))), V.int .i64 (kk + 5 * (i : Int) + 1), V.int .i64 (kk + 5 * (i : Int) + 1 + 1), V.int .i64 (kk + 5 * (i : Int) + 1 + 1 + 1), V.int .i64 (kk + 5 * (i : Int) + 1 + 1 + 1 + 1)]) = (markG (fun j : Nat => (markT (kk + 5 * (j : Int)), (kk + 5 * (j : Int) + 1), (kk + 5 * (j : Int) + 1 + 1), (kk + 5 * (j : Int) + 1 + 1 + 1), (kk + 5 * (j : Int) + 1 + 1 + 1 + 1))) (i + 1) ++ l.drop (i + 1)).map (fun t : ByteArray × Int × Int × Int × Int => V.agg [V.str t.1, V.int .i64 t.2.1, V.int .i64 t.2.2.1, V.int .i64 t.2.2.2.1, V.int .i64 t.2.2.2.2]) := by
    have h := set_map (f := (fun t : ByteArray × Int × Int × Int × Int => V.agg [V.str t.1, V.int .i64 t.2.1, V.int .i64 t.2.2.1, V.int .i64 t.2.2.2.1, V.int .i64 t.2.2.2.2])) (l := (markG (fun j : Nat => (markT (kk + 5 * (j : Int)), (kk + 5 * (j : Int) + 1), (kk + 5 * (j : Int) + 1 + 1), (kk + 5 * (j : Int) + 1 + 1 + 1), (kk + 5 * (j : Int) + 1 + 1 + 1 + 1))) i ++ l.drop i)) (i := i) (x := (fun j : Nat => (markT (kk + 5 * (j : Int)), (kk + 5 * (j : Int) + 1), (kk + 5 * (j : Int) + 1 + 1), (kk + 5 * (j : Int) + 1 + 1 + 1), (kk + 5 * (j : Int) + 1 + 1 + 1 + 1))) i)
    rw [markG_step hx] at h
    exact h
   refine v_skip ?_
   refine n6 _ _ (weak_keep [0, 1, 5] _) ?_
   refine zk ⟨?_⟩
   refine v_seq ?_; intro Q9 n9 e9 r9
   refine v_block ?_; intro Q10 n10 x10 e10 r10
   refine v_seqR [0,1,5] ?_; intro K11 k11
   have F := Fc.mk (And.intro (fun f => getD_map (f := f) hmg) (And.intro hml (And.intro @getD_set (And.intro hlt (And.intro @List.length_set.{0} (And.intro @List.set_set.{0} hms))))))
   refine zMove ⟨?_⟩
   refine zMove ⟨?_⟩
   refine zMove ⟨?_⟩
   refine zc (markText_con (kk + 5 * (i : Int)) (by omega)) ⟨?_⟩
   refine v_op ?_; intro K k
   simp only [zE, zL, zN, aStepM, optable, set_some, Nat.reduceEqDiff, reduceIte, Nat.reduceLT, implies_true, forall_const, reduceCtorEq, V.ofValue, V.ofScalar, V.un, V.gd, aExec, aop, List.mem_cons, List.not_mem_nil, or_false, forall_eq_or_imp, forall_eq, aIndexAddr, row_mk, Blk.row, Go.Vm.V.cells, List.forall_mem_map, List.length_map, Int.toNat_natCast, Int.reduceToNat, TypeDesc.slice.injEq, Nat.reduceAdd, Nat.reduceLeDiff, Nat.reduceMul, Try.underlying74, Ty.c74, Ty.a74, Try.underlying141, Ty.c141, Ty.a141, getD_map hmg, hml, getD_set, hlt, List.length_set, List.set_set, hms]
   repeat (refine And.intro (by first | omega | (exact set_all (fun x hx => by obtain ⟨t, _, rfl⟩ := List.mem_map.1 hx; rfl) rfl) | (intros; omega) | (intros; simp_all; done)) ?_)
   refine k _ ?_; clear k K
   refine v_op ?_; intro K k
   simp only [zE, zL, zN, aStepM, optable, set_some, Nat.reduceEqDiff, reduceIte, Nat.reduceLT, implies_true, forall_const, reduceCtorEq, V.ofValue, V.ofScalar, V.un, V.gd, aExec, aop, aFieldAddr, Nat.reduceAdd, Nat.reduceLeDiff, Nat.reduceMul, Try.underlying3, Ty.c3, Ty.a3, Try.underlying9, Ty.c9, Ty.a9, Try.underlying141, Ty.c141, Ty.a141, getD_map hmg, hml, getD_set, hlt, List.length_set, List.set_set, hms]
   repeat (refine And.intro (by first | omega | (exact set_all (fun x hx => by obtain ⟨t, _, rfl⟩ := List.mem_map.1 hx; rfl) rfl) | (intros; omega) | (intros; simp_all; done)) ?_)
   refine k _ ?_; clear k K
   refine v_op ?_; intro K k
   simp only [zE, zS, zJ, zL, zO, zN, aStepM, optable, set_some, Nat.reduceEqDiff, reduceIte, Nat.reduceLT, implies_true, forall_const, reduceCtorEq, V.ofValue, V.ofScalar, V.un, V.gd, aExec, aop, aStore, setCells, V.isVal, V.cells, kindOf, kindAll, V.noSl, V.noRef, gt_iff_lt, Nat.reduceAdd, Nat.reduceLeDiff, Nat.reduceMul, takeV, takeCell, takeCells, row_mk, Blk.row, killAll, Nat.reduceBEq, join_t, Try.underlying9, Ty.c9, Ty.a9, getD_map hmg, hml, getD_set, hlt, List.length_set, List.set_set, hms]
   repeat (refine And.intro (by first | omega | (exact set_all (fun x hx => by obtain ⟨t, _, rfl⟩ := List.mem_map.1 hx; rfl) rfl) | (intros; omega) | (intros; simp_all; done)) ?_)
   refine k _ ?_; clear k K
   refine k11 _ ?_
   refine zk ⟨?_⟩
   refine v_seqR [0,1,5] ?_; intro K12 k12
   refine zMove ⟨?_⟩
   refine zBinOpW ⟨?_⟩
   refine zAssign ⟨?_⟩
   refine k12 _ ?_
   refine zk ⟨?_⟩
   refine v_seqR [0,1,5] ?_; intro K13 k13
   refine zMove ⟨?_⟩
   refine zMove ⟨?_⟩
   refine zMove ⟨?_⟩
   refine v_op ?_; intro K k
   simp only [zE, zL, zN, aStepM, optable, set_some, Nat.reduceEqDiff, reduceIte, Nat.reduceLT, implies_true, forall_const, reduceCtorEq, V.ofValue, V.ofScalar, V.un, V.gd, aExec, aop, List.mem_cons, List.not_mem_nil, or_false, forall_eq_or_imp, forall_eq, aIndexAddr, row_mk, Blk.row, Go.Vm.V.cells, List.forall_mem_map, List.length_map, Int.toNat_natCast, Int.reduceToNat, TypeDesc.slice.injEq, Nat.reduceAdd, Nat.reduceLeDiff, Nat.reduceMul, Try.underlying74, Ty.c74, Ty.a74, Try.underlying141, Ty.c141, Ty.a141, getD_map hmg, hml, getD_set, hlt, List.length_set, List.set_set, hms]
   repeat (refine And.intro (by first | omega | (exact set_all (fun x hx => by obtain ⟨t, _, rfl⟩ := List.mem_map.1 hx; rfl) rfl) | (intros; omega) | (intros; simp_all; done)) ?_)
   refine k _ ?_; clear k K
   refine v_op ?_; intro K k
   simp only [zE, zL, zN, aStepM, optable, set_some, Nat.reduceEqDiff, reduceIte, Nat.reduceLT, implies_true, forall_const, reduceCtorEq, V.ofValue, V.ofScalar, V.un, V.gd, aExec, aop, aFieldAddr, Nat.reduceAdd, Nat.reduceLeDiff, Nat.reduceMul, Try.underlying3, Ty.c3, Ty.a3, Try.underlying9, Ty.c9, Ty.a9, Try.underlying141, Ty.c141, Ty.a141, getD_map hmg, hml, getD_set, hlt, List.length_set, List.set_set, hms]
   repeat (refine And.intro (by first | omega | (exact set_all (fun x hx => by obtain ⟨t, _, rfl⟩ := List.mem_map.1 hx; rfl) rfl) | (intros; omega) | (intros; simp_all; done)) ?_)
   refine k _ ?_; clear k K
   refine v_op ?_; intro K k
   simp only [zE, zS, zJ, zL, zO, zN, aStepM, optable, set_some, Nat.reduceEqDiff, reduceIte, Nat.reduceLT, implies_true, forall_const, reduceCtorEq, V.ofValue, V.ofScalar, V.un, V.gd, aExec, aop, aStore, setCells, V.isVal, V.cells, kindOf, kindAll, V.noSl, V.noRef, gt_iff_lt, Nat.reduceAdd, Nat.reduceLeDiff, Nat.reduceMul, takeV, takeCell, takeCells, row_mk, Blk.row, killAll, Nat.reduceBEq, join_t, Try.underlying3, Ty.c3, Ty.a3, getD_map hmg, hml, getD_set, hlt, List.length_set, List.set_set, hms]
   repeat (refine And.intro (by first | omega | (exact set_all (fun x hx => by obtain ⟨t, _, rfl⟩ := List.mem_map.1 hx; rfl) rfl) | (intros; omega) | (intros; simp_all; done)) ?_)
   refine k _ ?_; clear k K
   refine k13 _ ?_
   refine zk ⟨?_⟩
   refine v_seqR [0,1,5] ?_; intro K14 k14
   refine zMove ⟨?_⟩
   refine zBinOpW ⟨?_⟩
   refine zAssign ⟨?_⟩
   refine k14 _ ?_
   refine zk ⟨?_⟩
   refine v_seqR [0,1,5] ?_; intro K15 k15
   refine zMove ⟨?_⟩
   refine zMove ⟨?_⟩
   refine zMove ⟨?_⟩
   refine v_op ?_; intro K k
   simp only [zE, zL, zN, aStepM, optable, set_some, Nat.reduceEqDiff, reduceIte, Nat.reduceLT, implies_true, forall_const, reduceCtorEq, V.ofValue, V.ofScalar, V.un, V.gd, aExec, aop, List.mem_cons, List.not_mem_nil, or_false, forall_eq_or_imp, forall_eq, aIndexAddr, row_mk, Blk.row, Go.Vm.V.cells, List.forall_mem_map, List.length_map, Int.toNat_natCast, Int.reduceToNat, TypeDesc.slice.injEq, Nat.reduceAdd, Nat.reduceLeDiff, Nat.reduceMul, Try.underlying74, Ty.c74, Ty.a74, Try.underlying141, Ty.c141, Ty.a141, getD_map hmg, hml, getD_set, hlt, List.length_set, List.set_set, hms]
   repeat (refine And.intro (by first | omega | (exact set_all (fun x hx => by obtain ⟨t, _, rfl⟩ := List.mem_map.1 hx; rfl) rfl) | (intros; omega) | (intros; simp_all; done)) ?_)
   refine k _ ?_; clear k K
   refine v_op ?_; intro K k
   simp only [zE, zL, zN, aStepM, optable, set_some, Nat.reduceEqDiff, reduceIte, Nat.reduceLT, implies_true, forall_const, reduceCtorEq, V.ofValue, V.ofScalar, V.un, V.gd, aExec, aop, aFieldAddr, Nat.reduceAdd, Nat.reduceLeDiff, Nat.reduceMul, Try.underlying3, Ty.c3, Ty.a3, Try.underlying9, Ty.c9, Ty.a9, Try.underlying141, Ty.c141, Ty.a141, getD_map hmg, hml, getD_set, hlt, List.length_set, List.set_set, hms]
   repeat (refine And.intro (by first | omega | (exact set_all (fun x hx => by obtain ⟨t, _, rfl⟩ := List.mem_map.1 hx; rfl) rfl) | (intros; omega) | (intros; simp_all; done)) ?_)
   refine k _ ?_; clear k K
   refine v_op ?_; intro K k
   simp only [zE, zS, zJ, zL, zO, zN, aStepM, optable, set_some, Nat.reduceEqDiff, reduceIte, Nat.reduceLT, implies_true, forall_const, reduceCtorEq, V.ofValue, V.ofScalar, V.un, V.gd, aExec, aop, aStore, setCells, V.isVal, V.cells, kindOf, kindAll, V.noSl, V.noRef, gt_iff_lt, Nat.reduceAdd, Nat.reduceLeDiff, Nat.reduceMul, takeV, takeCell, takeCells, row_mk, Blk.row, killAll, Nat.reduceBEq, join_t, Try.underlying3, Ty.c3, Ty.a3, getD_map hmg, hml, getD_set, hlt, List.length_set, List.set_set, hms]
   repeat (refine And.intro (by first | omega | (exact set_all (fun x hx => by obtain ⟨t, _, rfl⟩ := List.mem_map.1 hx; rfl) rfl) | (intros; omega) | (intros; simp_all; done)) ?_)
   refine k _ ?_; clear k K
   refine k15 _ ?_
   refine zk ⟨?_⟩
   refine v_seqR [0,1,5] ?_; intro K16 k16
   refine zMove ⟨?_⟩
   refine zBinOpW ⟨?_⟩
   refine zAssign ⟨?_⟩
   refine k16 _ ?_
   refine zk ⟨?_⟩
   refine v_seqR [0,1,5] ?_; intro K17 k17
   refine zMove ⟨?_⟩
   refine zMove ⟨?_⟩
   refine zMove ⟨?_⟩
   refine v_op ?_; intro K k
   simp only [zE, zL, zN, aStepM, optable, set_some, Nat.reduceEqDiff, reduceIte, Nat.reduceLT, implies_true, forall_const, reduceCtorEq, V.ofValue, V.ofScalar, V.un, V.gd, aExec, aop, List.mem_cons, List.not_mem_nil, or_false, forall_eq_or_imp, forall_eq, aIndexAddr, row_mk, Blk.row, Go.Vm.V.cells, List.forall_mem_map, List.length_map, Int.toNat_natCast, Int.reduceToNat, TypeDesc.slice.injEq, Nat.reduceAdd, Nat.reduceLeDiff, Nat.reduceMul, Try.underlying74, Ty.c74, Ty.a74, Try.underlying141, Ty.c141, Ty.a141, getD_map hmg, hml, getD_set, hlt, List.length_set, List.set_set, hms]
   repeat (refine And.intro (by first | omega | (exact set_all (fun x hx => by obtain ⟨t, _, rfl⟩ := List.mem_map.1 hx; rfl) rfl) | (intros; omega) | (intros; simp_all; done)) ?_)
   refine k _ ?_; clear k K
   refine v_op ?_; intro K k
   simp only [zE, zL, zN, aStepM, optable, set_some, Nat.reduceEqDiff, reduceIte, Nat.reduceLT, implies_true, forall_const, reduceCtorEq, V.ofValue, V.ofScalar, V.un, V.gd, aExec, aop, aFieldAddr, Nat.reduceAdd, Nat.reduceLeDiff, Nat.reduceMul, Try.underlying3, Ty.c3, Ty.a3, Try.underlying9, Ty.c9, Ty.a9, Try.underlying141, Ty.c141, Ty.a141, getD_map hmg, hml, getD_set, hlt, List.length_set, List.set_set, hms]
   repeat (refine And.intro (by first | omega | (exact set_all (fun x hx => by obtain ⟨t, _, rfl⟩ := List.mem_map.1 hx; rfl) rfl) | (intros; omega) | (intros; simp_all; done)) ?_)
   refine k _ ?_; clear k K
   refine v_op ?_; intro K k
   simp only [zE, zS, zJ, zL, zO, zN, aStepM, optable, set_some, Nat.reduceEqDiff, reduceIte, Nat.reduceLT, implies_true, forall_const, reduceCtorEq, V.ofValue, V.ofScalar, V.un, V.gd, aExec, aop, aStore, setCells, V.isVal, V.cells, kindOf, kindAll, V.noSl, V.noRef, gt_iff_lt, Nat.reduceAdd, Nat.reduceLeDiff, Nat.reduceMul, takeV, takeCell, takeCells, row_mk, Blk.row, killAll, Nat.reduceBEq, join_t, Try.underlying3, Ty.c3, Ty.a3, getD_map hmg, hml, getD_set, hlt, List.length_set, List.set_set, hms]
   repeat (refine And.intro (by first | omega | (exact set_all (fun x hx => by obtain ⟨t, _, rfl⟩ := List.mem_map.1 hx; rfl) rfl) | (intros; omega) | (intros; simp_all; done)) ?_)
   refine k _ ?_; clear k K
   refine k17 _ ?_
   refine zk ⟨?_⟩
   refine v_seqR [0,1,5] ?_; intro K18 k18
   refine zMove ⟨?_⟩
   refine zBinOpW ⟨?_⟩
   refine zAssign ⟨?_⟩
   refine k18 _ ?_
   refine zk ⟨?_⟩
   refine v_seqR [0,1,5] ?_; intro K19 k19
   refine zMove ⟨?_⟩
   refine zMove ⟨?_⟩
   refine zMove ⟨?_⟩
   refine v_op ?_; intro K k
   simp only [zE, zL, zN, aStepM, optable, set_some, Nat.reduceEqDiff, reduceIte, Nat.reduceLT, implies_true, forall_const, reduceCtorEq, V.ofValue, V.ofScalar, V.un, V.gd, aExec, aop, List.mem_cons, List.not_mem_nil, or_false, forall_eq_or_imp, forall_eq, aIndexAddr, row_mk, Blk.row, Go.Vm.V.cells, List.forall_mem_map, List.length_map, Int.toNat_natCast, Int.reduceToNat, TypeDesc.slice.injEq, Nat.reduceAdd, Nat.reduceLeDiff, Nat.reduceMul, Try.underlying74, Ty.c74, Ty.a74, Try.underlying141, Ty.c141, Ty.a141, getD_map hmg, hml, getD_set, hlt, List.length_set, List.set_set, hms]
   repeat (refine And.intro (by first | omega | (exact set_all (fun x hx => by obtain ⟨t, _, rfl⟩ := List.mem_map.1 hx; rfl) rfl) | (intros; omega) | (intros; simp_all; done)) ?_)
   refine k _ ?_; clear k K
   refine v_op ?_; intro K k
   simp only [zE, zL, zN, aStepM, optable, set_some, Nat.reduceEqDiff, reduceIte, Nat.reduceLT, implies_true, forall_const, reduceCtorEq, V.ofValue, V.ofScalar, V.un, V.gd, aExec, aop, aFieldAddr, Nat.reduceAdd, Nat.reduceLeDiff, Nat.reduceMul, Try.underlying3, Ty.c3, Ty.a3, Try.underlying9, Ty.c9, Ty.a9, Try.underlying141, Ty.c141, Ty.a141, getD_map hmg, hml, getD_set, hlt, List.length_set, List.set_set, hms]
   repeat (refine And.intro (by first | omega | (exact set_all (fun x hx => by obtain ⟨t, _, rfl⟩ := List.mem_map.1 hx; rfl) rfl) | (intros; omega) | (intros; simp_all; done)) ?_)
   refine k _ ?_; clear k K
   refine v_op ?_; intro K k
   simp only [zE, zS, zJ, zL, zO, zN, aStepM, optable, set_some, Nat.reduceEqDiff, reduceIte, Nat.reduceLT, implies_true, forall_const, reduceCtorEq, V.ofValue, V.ofScalar, V.un, V.gd, aExec, aop, aStore, setCells, V.isVal, V.cells, kindOf, kindAll, V.noSl, V.noRef, gt_iff_lt, Nat.reduceAdd, Nat.reduceLeDiff, Nat.reduceMul, takeV, takeCell, takeCells, row_mk, Blk.row, killAll, Nat.reduceBEq, join_t, Try.underlying3, Ty.c3, Ty.a3, getD_map hmg, hml, getD_set, hlt, List.length_set, List.set_set, hms]
   repeat (refine And.intro (by first | omega | (exact set_all (fun x hx => by obtain ⟨t, _, rfl⟩ := List.mem_map.1 hx; rfl) rfl) | (intros; omega) | (intros; simp_all; done)) ?_)
   refine k _ ?_; clear k K
   refine k19 _ ?_
   refine zk ⟨?_⟩
   refine v_region ?_; intro K20 k20
   refine zMove ⟨?_⟩
   refine zBinOpW ⟨?_⟩
   refine zAssign ⟨?_⟩
   refine k20 _ ?_
   refine n10 _ ?_
   refine n9 _ _ (weak_keep [0, 1, 5] _) ?_
   refine zk ⟨?_⟩
   refine v_region ?_; intro K21 k21
   refine zMove ⟨?_⟩
   refine zBinOpW ⟨?_⟩
   refine zAssign ⟨?_⟩
   refine k21 _ ?_
   refine n5 _ (i + 1) ?_ ?_ ?_
   ·refine weak_bothS [0, 1, 5] [0] ⟨?_⟩
    simp only [getD_set, List.length_map, hml, hlt, List.length_set, List.set_set, hms, List.take_succ_cons, List.take_zero, List.drop_succ_cons, List.drop_zero, List.drop_nil, List.cons_append, List.nil_append, List.append_nil]; rw [show (kk + 5 * (i : Int) + 1 + 1 + 1 + 1 + 1) = kk + 5 * ((i + 1 : Nat) : Int) by omega]; rfl
   ·exact hlt
   ·show _ < _; omega
  ·intro hc0
   rw [markG_all (g := (fun j : Nat => (markT (kk + 5 * (j : Int)), (kk + 5 * (j : Int) + 1), (kk + 5 * (j : Int) + 1 + 1), (kk + 5 * (j : Int) + 1 + 1 + 1), (kk + 5 * (j : Int) + 1 + 1 + 1 + 1)))) hi1] at hc0
   refine v_exit ?_
   refine e6 _ _ ?_
   refine e5 _ _ ?_
   refine x4 _ ?_
   refine n2 _ _ (weak_keep [1] _) ?_
   refine zk ⟨?_⟩
   refine v_seqR [4] ?_; intro K22 k22
   refine zMove ⟨?_⟩
   refine zAssign ⟨?_⟩
   refine k22 _ ?_
   refine zk ⟨?_⟩
   refine v_ret ?_
   refine r0 _ ?_
   refine zf ⟨?_⟩
   have hend : i = l.length := by omega
   subst hend
   exact ret_lent rfl (by simp) rfl (by simp [markAppliance]) (by simp [Blk.kindIs]) (.inl rfl)
theorem mkAppliance_len (kk : Int) (n : Nat) : (markAppliance kk n).length = n := markG_len _ _
theorem mkAppliance_at {kk : Int} {n i : Nat} (h : i < n) : (markAppliance kk n)[i]? = some ((fun j : Nat => (markT (kk + 5 * (j : Int)), (kk + 5 * (j : Int) + 1), (kk + 5 * (j : Int) + 1 + 1), (kk + 5 * (j : Int) + 1 + 1 + 1), (kk + 5 * (j : Int) + 1 + 1 + 1 + 1))) i) := by
  simp [markAppliance, markG, List.getElem?_map, List.getElem?_range h]

set_option maxHeartbeats 1000000 in
theorem heldApplianceS_con (kk : Int) (n : Nat) (hl : n ≤ 1048576) (hk : 0 ≤ kk ∧ kk ≤ 1000000000000000) : Con Try.prog 122 [.sl ((markAppliance kk n).map (fun t : ByteArray × Int × Int × Int × Int => V.agg [V.str t.1, V.int .i64 t.2.1, V.int .i64 t.2.2.1, V.int .i64 t.2.2.2.1, V.int .i64 t.2.2.2.2])), .int .i64 kk] [] (.int .i64 (kk + 5 * n)) [] := by
 refine v_con [.tmp 4] [] Try.func122 rfl rfl rfl (by simp [Try.ntmps122]) ?_
 intro Q0 n0 r0
 simp only [Try.ntmps122, envFrom, Nat.reduceAdd]
 have T := Tys.mk (And.intro Ty.t3 (And.intro Ty.t9 (And.intro Ty.t74 Ty.t141)))
 have F := Fc.mk True.intro
 refine v_seqR [0,1] ?_; intro K1 k1
 refine zAssign ⟨?_⟩
 refine k1 _ ?_
 refine zk ⟨?_⟩
 refine v_seq ?_; intro Q2 n2 e2 r2
 refine v_seqR [0,1,5] ?_; intro K3 k3
 refine zAssign ⟨?_⟩
 refine k3 _ ?_
 refine zk ⟨?_⟩
 refine v_block ?_; intro Q4 n4 x4 e4 r4
 refine v_loop (fun i => ⟨[(0, .sl ((markAppliance kk n).map (fun t : ByteArray × Int × Int × Int × Int => V.agg [V.str t.1, V.int .i64 t.2.1, V.int .i64 t.2.2.1, V.int .i64 t.2.2.2.1, V.int .i64 t.2.2.2.2]))), (1, .int .i64 (kk + 5 * (Nat.cast i))), (5, .int .i64 (Nat.cast i))], [], false, 59, 0⟩) (fun i => i ≤ n) (fun i => n - i) 0 ?_ ?_ ?_
 ·refine weak_of [0, 1, 5] ?_
  simp only [keep_mk, keepE_nil, keepE_cons, look_cons, look_nil, Nat.reduceEqDiff, reduceIte]
  simp
 ·exact Nat.zero_le _
 ·rintro i hok5 Q5 n5 e5 r5
  have hi1 : i ≤ n := hok5
  refine v_seq ?_; intro Q6 n6 e6 r6
  refine v_seqR [0,1,5,9] ?_; intro K7 k7
  refine zMove ⟨?_⟩
  refine zMove ⟨?_⟩
  refine zLen ⟨?_⟩
  refine zBinOp ⟨?_⟩
  refine k7 _ ?_
  refine zk ⟨?_⟩
  refine v_condS _ rfl ?_ ?_
  ·intro hc0
   rw [mkAppliance_len] at hc0
   have hlt : i < n := by omega
   have hx := mkAppliance_at (kk := kk) hlt
   refine v_skip ?_
   refine n6 _ _ (weak_keep [0, 1, 5] _) ?_
   refine zk ⟨?_⟩
   refine v_seq ?_; intro Q9 n9 e9 r9
   refine v_block ?_; intro Q10 n10 x10 e10 r10
   refine v_seq ?_; intro Q11 n11 e11 r11
   refine v_seq ?_; intro Q12 n12 e12 r12
   refine v_draw (by kernel_rfl) ?_; intro K13 q13 k13
   show aAny _ _ _ _ 8 (Array.replicate 8 false) _
   have F := Fc.mk (And.intro (fun f => getD_map (f := f) hx) @mkAppliance_len)
   refine zdMove q13 true 0 12 ?_
   refine zdMove q13 true 1 13 ?_
   refine zdIndexAddr q13 true 2 14 ?_
   refine zdFieldAddr q13 true 3 15 ?_
   refine zdLoad q13 true 4 16 ?_
   refine zdMove q13 true 5 17 ?_
   refine zoc 6 (markText_con (kk + 5 * (i : Int)) (by omega)) ⟨?_⟩
   refine zdBinOp q13 true 7 19 ?_
   refine aAny_done (by kernel_rfl) ?_
   refine k13 _ ?_
   refine n12 _ _ (weak_keep [0, 1, 5, 19] _) ?_
   refine zk ⟨?_⟩
   refine v_cond _ rfl ?_ ?_
   ·intro hc1
    exfalso; first | (simp at hc1; done) | (simp at hc1; omega)
   ·intro hc1
    try simp only [zC, reduceCtorEq] at hc1
    refine v_skip ?_
    refine n11 _ _ (weak_keep [0, 1, 5] _) ?_
    refine zk ⟨?_⟩
    refine v_seqR [0,1,5] ?_; intro K15 k15
    refine zMove ⟨?_⟩
    refine zBinOpW ⟨?_⟩
    refine zAssign ⟨?_⟩
    refine k15 _ ?_
    refine zk ⟨?_⟩
    refine v_seq ?_; intro Q16 n16 e16 r16
    refine v_seqR [0,1,5,28] ?_; intro K17 k17
    refine zMove ⟨?_⟩
    refine zMove ⟨?_⟩
    refine zIndexAddr ⟨?_⟩
    refine zFieldAddr ⟨?_⟩
    refine zLoad ⟨?_⟩
    refine zMove ⟨?_⟩
    refine zBinOp ⟨?_⟩
    refine k17 _ ?_
    refine zk ⟨?_⟩
    refine v_cond _ rfl ?_ ?_
    ·intro hc2
     exfalso; first | (simp at hc2; done) | (simp at hc2; omega)
    ·intro hc2
     try simp only [zC, reduceCtorEq] at hc2
     refine v_skip ?_
     refine n16 _ _ (weak_keep [0, 1, 5] _) ?_
     refine zk ⟨?_⟩
     refine v_seqR [0,1,5] ?_; intro K19 k19
     refine zMove ⟨?_⟩
     refine zBinOpW ⟨?_⟩
     refine zAssign ⟨?_⟩
     refine k19 _ ?_
     refine zk ⟨?_⟩
     refine v_seq ?_; intro Q20 n20 e20 r20
     refine v_seqR [0,1,5,37] ?_; intro K21 k21
     refine zMove ⟨?_⟩
     refine zMove ⟨?_⟩
     refine zIndexAddr ⟨?_⟩
     refine zFieldAddr ⟨?_⟩
     refine zLoad ⟨?_⟩
     refine zMove ⟨?_⟩
     refine zBinOp ⟨?_⟩
     refine k21 _ ?_
     refine zk ⟨?_⟩
     refine v_cond _ rfl ?_ ?_
     ·intro hc3
      exfalso; first | (simp at hc3; done) | (simp at hc3; omega)
     ·intro hc3
      try simp only [zC, reduceCtorEq] at hc3
      refine v_skip ?_
      refine n20 _ _ (weak_keep [0, 1, 5] _) ?_
      refine zk ⟨?_⟩
      refine v_seqR [0,1,5] ?_; intro K23 k23
      refine zMove ⟨?_⟩
      refine zBinOpW ⟨?_⟩
      refine zAssign ⟨?_⟩
      refine k23 _ ?_
      refine zk ⟨?_⟩
      refine v_seq ?_; intro Q24 n24 e24 r24
      refine v_seqR [0,1,5,46] ?_; intro K25 k25
      refine zMove ⟨?_⟩
      refine zMove ⟨?_⟩
      refine zIndexAddr ⟨?_⟩
      refine zFieldAddr ⟨?_⟩
      refine zLoad ⟨?_⟩
      refine zMove ⟨?_⟩
      refine zBinOp ⟨?_⟩
      refine k25 _ ?_
      refine zk ⟨?_⟩
      refine v_cond _ rfl ?_ ?_
      ·intro hc4
       exfalso; first | (simp at hc4; done) | (simp at hc4; omega)
      ·intro hc4
       try simp only [zC, reduceCtorEq] at hc4
       refine v_skip ?_
       refine n24 _ _ (weak_keep [0, 1, 5] _) ?_
       refine zk ⟨?_⟩
       refine v_seqR [0,1,5] ?_; intro K27 k27
       refine zMove ⟨?_⟩
       refine zBinOpW ⟨?_⟩
       refine zAssign ⟨?_⟩
       refine k27 _ ?_
       refine zk ⟨?_⟩
       refine v_seq ?_; intro Q28 n28 e28 r28
       refine v_seqR [0,1,5,55] ?_; intro K29 k29
       refine zMove ⟨?_⟩
       refine zMove ⟨?_⟩
       refine zIndexAddr ⟨?_⟩
       refine zFieldAddr ⟨?_⟩
       refine zLoad ⟨?_⟩
       refine zMove ⟨?_⟩
       refine zBinOp ⟨?_⟩
       refine k29 _ ?_
       refine zk ⟨?_⟩
       refine v_cond _ rfl ?_ ?_
       ·intro hc5
        exfalso; first | (simp at hc5; done) | (simp at hc5; omega)
       ·intro hc5
        try simp only [zC, reduceCtorEq] at hc5
        refine v_skip ?_
        refine n28 _ _ (weak_keep [0, 1, 5] _) ?_
        refine zk ⟨?_⟩
        refine v_region ?_; intro K31 k31
        refine zMove ⟨?_⟩
        refine zBinOpW ⟨?_⟩
        refine zAssign ⟨?_⟩
        refine k31 _ ?_
        refine n10 _ ?_
        refine n9 _ _ (weak_keep [0, 1, 5] _) ?_
        refine zk ⟨?_⟩
        refine v_region ?_; intro K32 k32
        refine zMove ⟨?_⟩
        refine zBinOpW ⟨?_⟩
        refine zAssign ⟨?_⟩
        refine k32 _ ?_
        refine n5 _ (i + 1) ?_ ?_ ?_
        ·refine weak_of [0, 1, 5] ?_
         simp only [keep_mk, keepE_nil, keepE_cons, look_cons, look_nil, Nat.reduceEqDiff, reduceIte]
         rw [show (kk + 5 * (i : Int) + 1 + 1 + 1 + 1 + 1) = kk + 5 * ((i + 1 : Nat) : Int) by omega]; rfl
        ·exact hlt
        ·show _ < _; omega
  ·intro hc0
   rw [mkAppliance_len] at hc0
   refine v_exit ?_
   refine e6 _ _ ?_
   refine e5 _ _ ?_
   refine x4 _ ?_
   refine n2 _ _ (weak_keep [1] _) ?_
   refine zk ⟨?_⟩
   refine v_seqR [4] ?_; intro K33 k33
   refine zMove ⟨?_⟩
   refine zAssign ⟨?_⟩
   refine k33 _ ?_
   refine zk ⟨?_⟩
   refine v_ret ?_
   refine r0 _ ?_
   refine zf ⟨?_⟩
   have hend : i = n := by omega
   subst hend
   exact ret_pure rfl rfl (.inl rfl)
set_option maxHeartbeats 1000000 in
theorem markTown_con (n : Int) (ss : List (Int × Int × Int)) (k : Int) (hl : ss.length ≤ 1048576) (hk : 0 ≤ k ∧ k ≤ 1000000000000000) : Con Try.prog 50 [.agg [.int .i64 n, .ref 0], .int .i64 k] [.arr (ss.map (fun t : Int × Int × Int => V.agg [V.int .i64 t.1, V.int .i64 t.2.1, V.int .i64 t.2.2])) .flat] (.int .i64 (k + 3 * ss.length)) [.arr ((markStreet k ss.length).map (fun t : Int × Int × Int => V.agg [V.int .i64 t.1, V.int .i64 t.2.1, V.int .i64 t.2.2])) .flat] := by
 refine v_con [.tmp 4] [(110, [0])] Try.func50 rfl rfl rfl (by simp [Try.ntmps50]) ?_
 intro Q0 n0 r0
 simp only [Try.ntmps50, envFrom, Nat.reduceAdd]
 have T := Tys.mk (And.intro Ty.t3 (And.intro Ty.t70 (And.intro Ty.t72 Ty.t182)))
 have F := Fc.mk True.intro
 refine v_seqR [1,2] ?_; intro K1 k1
 refine zBox ⟨?_⟩
 refine zAssign ⟨?_⟩
 refine k1 _ ?_
 refine zk ⟨?_⟩
 refine v_seqR [1] ?_; intro K2 k2
 refine zFieldAddr ⟨?_⟩
 refine zLoad ⟨?_⟩
 refine zMove ⟨?_⟩
 refine zcl (markStreetS_con ss k hl hk) ⟨?_⟩
 refine zAssign ⟨?_⟩
 refine k2 _ ?_
 refine zk ⟨?_⟩
 refine v_seqR [4] ?_; intro K3 k3
 refine zMove ⟨?_⟩
 refine zAssign ⟨?_⟩
 refine k3 _ ?_
 refine zk ⟨?_⟩
 refine v_ret ?_
 refine r0 _ ?_
 refine zf ⟨?_⟩
 exact ret_lent rfl (by simp) rfl (by simp) (by simp [Blk.kindIs]) (.inl rfl)
set_option maxHeartbeats 1000000 in
theorem markStr0_con (k0 : Int) : Con Try.prog 112 [.sl [], .int .i64 k0] [] (.int .i64 k0) [] := by
 refine v_con [.tmp 4] [] Try.func112 rfl rfl rfl (by simp [Try.ntmps112]) ?_
 intro Q0 n0 r0
 simp only [Try.ntmps112, envFrom, Nat.reduceAdd]
 have T := Tys.mk (And.intro Ty.t3 (And.intro Ty.t9 Ty.t93))
 have F := Fc.mk True.intro
 refine v_seqR [0,1] ?_; intro K1 k1
 refine zAssign ⟨?_⟩
 refine k1 _ ?_
 refine zk ⟨?_⟩
 refine v_seq ?_; intro Q2 n2 e2 r2
 refine v_seqR [0,1,5] ?_; intro K3 k3
 refine zAssign ⟨?_⟩
 refine k3 _ ?_
 refine zk ⟨?_⟩
 refine v_block ?_; intro Q4 n4 x4 e4 r4
 refine v_loop (fun i => ⟨[(0, .sl []), (1, .int .i64 k0), (5, .int .i64 0)], [], false, 20, 0⟩) (fun i => True) (fun i => 0) () ?_ ?_ ?_
 ·refine weak_of [0, 1, 5] ?_
  simp only [keep_mk, keepE_nil, keepE_cons, look_cons, look_nil, Nat.reduceEqDiff, reduceIte]
  all_goals rfl
 ·trivial
 ·rintro i hok5 Q5 n5 e5 r5
  have hok : True := hok5
  refine v_seq ?_; intro Q6 n6 e6 r6
  refine v_seqR [0,1,5,9] ?_; intro K7 k7
  refine zMove ⟨?_⟩
  refine zMove ⟨?_⟩
  refine zLen ⟨?_⟩
  refine zBinOp ⟨?_⟩
  refine k7 _ ?_
  refine zk ⟨?_⟩
  refine v_cond _ rfl ?_ ?_
  ·intro hc0
   exfalso; simp at hc0
  ·intro hc0
   try simp only [zC, reduceCtorEq] at hc0
   refine v_exit ?_
   refine e6 _ _ ?_
   refine e5 _ _ ?_
   refine x4 _ ?_
   refine n2 _ _ (weak_keep [1] _) ?_
   refine zk ⟨?_⟩
   refine v_seqR [4] ?_; intro K9 k9
   refine zMove ⟨?_⟩
   refine zAssign ⟨?_⟩
   refine k9 _ ?_
   refine zk ⟨?_⟩
   refine v_ret ?_
   refine r0 _ ?_
   refine zf ⟨?_⟩
   exact ret_pure rfl rfl (.inl rfl)
end Go.Proofs.Ytdgenniiidgimaa
