/- What functions compute. No condition. -/
import Derived.Test.YtbameklegpgkfaaDoorUty
import Derived.Test.YtbameklegpgkfaaDoorUmG
import Derived.Test.YtbameklegpgkfaaDoorX24
import Derived.Test.YtbameklegpgkfaaDoorX7
set_option linter.unusedSimpArgs false
set_option linter.unusedVariables false
set_option linter.defProp false
namespace Go.Proofs.YtbameklegpgkfaaDoor
open Go Go.Vm

theorem snoc_Turnout {a : List (Int × ByteArray × Int × Int)} {x0 : Int} {x1 : ByteArray} {x2 : Int} {x3 : Int} : a.map (fun t : Int × ByteArray × Int × Int => V.agg [V.int .i64 t.1, V.str t.2.1, V.int .i64 t.2.2.1, V.int .i64 t.2.2.2]) ++ [V.agg [V.int .i64 x0, V.str x1, V.int .i64 x2, V.int .i64 x3]] = (a ++ [(x0, x1, x2, x3)]).map (fun t : Int × ByteArray × Int × Int => V.agg [V.int .i64 t.1, V.str t.2.1, V.int .i64 t.2.2.1, V.int .i64 t.2.2.2]) := by simp
theorem setat_Turnout {a : List (Int × ByteArray × Int × Int)} {i : Nat} {x0 : Int} {x1 : ByteArray} {x2 : Int} {x3 : Int} : (a.map (fun t : Int × ByteArray × Int × Int => V.agg [V.int .i64 t.1, V.str t.2.1, V.int .i64 t.2.2.1, V.int .i64 t.2.2.2])).set i (V.agg [V.int .i64 x0, V.str x1, V.int .i64 x2, V.int .i64 x3]) = (a.set i (x0, x1, x2, x3)).map (fun t : Int × ByteArray × Int × Int => V.agg [V.int .i64 t.1, V.str t.2.1, V.int .i64 t.2.2.1, V.int .i64 t.2.2.2]) := by rw [List.map_set]

set_option maxHeartbeats 1000000 in
theorem of_con (code : List Int) (a s : Int) (l : List ByteArray) (hl : 0 < l.length ∧ l.length ≤ 1048576) (hcode : ∀ x ∈ code, 0 ≤ x ∧ x ≤ 255) (hcl : code.length ≤ 9223372036854775807) (ha : 0 ≤ a ∧ a < 18000000000) : ConX Tryd.prog 155 [.ptr 0 0 0, .ref 1] [.box (.agg [.sl (code.map (V.int .u8)), .int .i64 a, .int .u64 s]) .shal, .arr (l.map V.str) .flat] (fun r O' => ∃ (v : ByteArray) (a' s' : Int), (v ∈ l) ∧ (a ≤ a' ∧ a' ≤ a + 2) ∧ r = .str v ∧ O' = [.box (.agg [.sl (code.map (V.int .u8)), .int .i64 a', .int .u64 s']) .shal, .arr (l.map V.str) .flat]) := by
 refine v_conX [.tmp 4] [(73, [0])] Tryd.func155 rfl rfl rfl (by simp [Tryd.ntmps155]) ?_
 intro Q0 n0 r0
 simp only [Tryd.ntmps155, envFrom, Nat.reduceAdd]
 have T := Tys.mk (And.intro Ty.t3 (And.intro Ty.t5 (And.intro Ty.t9 (And.intro Ty.t22 (And.intro Ty.t74 (And.intro Ty.t95 (And.intro Ty.t96 Ty.t98)))))))
 have F := Fc.mk True.intro
 refine v_seqR [0,1] ?_; intro K1 k1
 refine zAssign ⟨?_⟩
 refine k1 _ ?_
 refine zk ⟨?_⟩
 refine v_seqR [4] ?_; intro K2 k2
 refine zMove ⟨?_⟩
 refine zMove ⟨?_⟩
 refine zMove ⟨?_⟩
 refine zLen ⟨?_⟩
 refine v_op ?_; intro K k
 simp only [zE, zM, aStepM, optable, set_some, Nat.reduceEqDiff, reduceIte, Nat.reduceLT, implies_true, forall_const, reduceCtorEq, V.ofValue, V.ofScalar, V.un, V.gd, aExec, lentIds, lendOf, ‹Tys _›.h, ‹Fc _›.h]
 repeat (refine andC ?_)
 refine aCall_lentXA (pick_con code a s ((l.length : Int)) hcode hcl (by omega)) ?_
 rintro _ _ ⟨v9, a9, s9, h9, k9, rfl, rfl⟩
 obtain ⟨x, hx⟩ : ∃ x, l[v9.toNat]? = some x := ⟨l[v9.toNat]'(by omega), List.getElem?_eq_getElem (by omega)⟩
 refine ⟨_, _, rfl, by first | exact .inr (List.all_eq_true.1 rfl) | exact .inl ⟨rfl, by simp [Blk.kindIs, fillK_fd]⟩, ?_⟩
 refine k _ ?_; clear k K
 simp only [zY, zW, set_some, Nat.reduceEqDiff, reduceIte, rho_one, rho_s, rho2_s, rho2_0, rho2_1, V.ren, V.renL, List.set_cons_zero, List.set_cons_succ, rho, Nat.reduceAdd, Nat.add_zero]
 have F := Fc.mk (fun f => getD_map (f := f) hx)
 refine zIndexAddr ⟨?_⟩
 refine zLoad ⟨?_⟩
 refine zAssign ⟨?_⟩
 refine k2 _ ?_
 refine zk ⟨?_⟩
 refine v_ret ?_
 refine r0 _ ?_
 refine zf ⟨?_⟩
 refine ret_viewX ?_
 exact ⟨_, _, _, List.mem_of_getElem? hx, by omega, rfl, rfl⟩
set_option maxHeartbeats 1000000 in
theorem limitSeconds_con (code : List Int) (a s : Int) (hcode : ∀ x ∈ code, 0 ≤ x ∧ x ≤ 255) (hcl : code.length ≤ 9223372036854775807) (ha : 0 ≤ a ∧ a < 17000000000) : ConX Tryd.prog 108 [.ptr 0 0 0] [.box (.agg [.sl (code.map (V.int .u8)), .int .i64 a, .int .u64 s]) .shal] (fun r O' => ∃ (v : Int) (a' s' : Int), (-1 ≤ v ∧ v ≤ 36001) ∧ (a ≤ a' ∧ a' ≤ a + 6) ∧ r = .int .i64 v ∧ O' = [.box (.agg [.sl (code.map (V.int .u8)), .int .i64 a', .int .u64 s']) .shal]) := by
 refine v_conX [.tmp 2] [(76, [0, 1]), (73, [0])] Tryd.func108 rfl rfl rfl (by simp [Tryd.ntmps108]) ?_
 intro Q0 n0 r0
 simp only [Tryd.ntmps108, envFrom, Nat.reduceAdd]
 have T := Tys.mk (And.intro Ty.t3 (And.intro Ty.t5 (And.intro Ty.t22 (And.intro Ty.t36 (And.intro Ty.t95 (And.intro Ty.t96 Ty.t98))))))
 have F := Fc.mk True.intro
 refine v_seqR [0] ?_; intro K1 k1
 refine zAssign ⟨?_⟩
 refine k1 _ ?_
 refine zk ⟨?_⟩
 refine v_seqR [2] ?_; intro K2 k2
 refine zMove ⟨?_⟩
 refine zMove ⟨?_⟩
 refine v_op ?_; intro K k
 simp only [zE, zM, aStepM, optable, set_some, Nat.reduceEqDiff, reduceIte, Nat.reduceLT, implies_true, forall_const, reduceCtorEq, V.ofValue, V.ofScalar, V.un, V.gd, aExec, lentIds, lendOf, ‹Tys _›.h, ‹Fc _›.h]
 repeat (refine andC ?_)
 refine aCall_lentXA (pick_con code a s (400) hcode hcl (by omega)) ?_
 rintro _ _ ⟨v5, a5, s5, h5, k5, rfl, rfl⟩
 refine ⟨_, _, rfl, by first | exact .inr (List.all_eq_true.1 rfl) | exact .inl ⟨rfl, by simp [Blk.kindIs, fillK_fd]⟩, ?_⟩
 refine k _ ?_; clear k K
 simp only [zY, zW, set_some, Nat.reduceEqDiff, reduceIte, rho_one, rho_s, rho2_s, rho2_0, rho2_1, V.ren, V.renL, List.set_cons_zero, List.set_cons_succ, rho, Nat.reduceAdd, Nat.add_zero]
 refine zMove ⟨?_⟩
 refine zBuildSlice ⟨?_⟩
 refine v_op ?_; intro K k
 simp only [zE, zM, aStepM, optable, set_some, Nat.reduceEqDiff, reduceIte, Nat.reduceLT, implies_true, forall_const, reduceCtorEq, V.ofValue, V.ofScalar, V.un, V.gd, aExec, lentIds, lendOf, ‹Tys _›.h, ‹Fc _›.h]
 repeat (refine andC ?_)
 refine aCall_lent2XA (among_con code a5 s5 [-1, 36001] (by simp) hcode hcl (by omega)) ?_
 rintro _ _ ⟨v8, a8, s8, h8, k8, rfl, rfl⟩
 refine ⟨_, _, _, rfl, by first | exact .inr (List.all_eq_true.1 rfl) | exact .inl ⟨rfl, by simp [Blk.kindIs, fillK_fd]⟩, ?_⟩
 refine k _ ?_; clear k K
 simp only [zY, zW, set_some, Nat.reduceEqDiff, reduceIte, rho_one, rho_s, rho2_s, rho2_0, rho2_1, V.ren, V.renL, List.set_cons_zero, List.set_cons_succ, rho, Nat.reduceAdd, Nat.add_zero]
 simp only [List.mem_cons, List.not_mem_nil, or_false] at h8
 refine zBuildSlice ⟨?_⟩
 refine v_op ?_; intro K k
 simp only [zE, zM, aStepM, optable, set_some, Nat.reduceEqDiff, reduceIte, Nat.reduceLT, implies_true, forall_const, reduceCtorEq, V.ofValue, V.ofScalar, V.un, V.gd, aExec, lentIds, lendOf, ‹Tys _›.h, ‹Fc _›.h]
 repeat (refine andC ?_)
 refine aCall_lent2XA (among_con code a8 s8 [0, 30, 60, 120, 300, 36000, v5, v8] (by simp) hcode hcl (by omega)) ?_
 rintro _ _ ⟨v10, a10, s10, h10, k10, rfl, rfl⟩
 refine ⟨_, _, _, rfl, by first | exact .inr (List.all_eq_true.1 rfl) | exact .inl ⟨rfl, by simp [Blk.kindIs, fillK_fd]⟩, ?_⟩
 refine k _ ?_; clear k K
 simp only [zY, zW, set_some, Nat.reduceEqDiff, reduceIte, rho_one, rho_s, rho2_s, rho2_0, rho2_1, V.ren, V.renL, List.set_cons_zero, List.set_cons_succ, rho, Nat.reduceAdd, Nat.add_zero]
 simp only [List.mem_cons, List.not_mem_nil, or_false] at h10
 refine zAssign ⟨?_⟩
 refine k2 _ ?_
 refine zk ⟨?_⟩
 refine v_ret ?_
 refine r0 _ ?_
 refine zf ⟨?_⟩
 refine ret_viewX ?_
 exact ⟨_, _, _, by omega, by omega, rfl, rfl⟩
set_option maxRecDepth 8000 in
set_option maxHeartbeats 8000000 in
theorem drawTurnouts_con (code : List Int) (a s : Int) (hcode : ∀ x ∈ code, 0 ≤ x ∧ x ≤ 255) (hcl : code.length ≤ 9223372036854775807) (ha : 0 ≤ a ∧ a < 16000000000) : ConX Tryd.prog 101 [.ptr 0 0 0] [.box (.agg [.sl (code.map (V.int .u8)), .int .i64 a, .int .u64 s]) .shal] (fun r O' => ∃ (l : List (Int × ByteArray × Int × Int)) (a' s' : Int), (l.length ≤ 17 ∧ ∀ x ∈ l, x.2.1.size ≤ 2) ∧ (a ≤ a' ∧ a' ≤ a + 1000) ∧ r = .ref 1 ∧ O' = [.box (.agg [.sl (code.map (V.int .u8)), .int .i64 a', .int .u64 s']) .shal, .arr (l.map (fun t : Int × ByteArray × Int × Int => V.agg [V.int .i64 t.1, V.str t.2.1, V.int .i64 t.2.2.1, V.int .i64 t.2.2.2])) .flat]) := by
 refine v_conX [.tmp 2] [(76, [0, 1]), (73, [0]), (75, [0]), (155, [0, 1])] Tryd.func101 rfl rfl rfl (by simp [Tryd.ntmps101]) ?_
 intro Q0 n0 r0
 simp only [Tryd.ntmps101, envFrom, Nat.reduceAdd]
 have T := Tys.mk (And.intro Ty.t3 (And.intro Ty.t4 (And.intro Ty.t5 (And.intro Ty.t9 (And.intro Ty.t22 (And.intro Ty.t36 (And.intro Ty.t48 (And.intro Ty.t62 (And.intro Ty.t74 (And.intro Ty.t95 (And.intro Ty.t96 Ty.t98)))))))))))
 have F := Fc.mk True.intro
 refine v_seqR [0] ?_; intro K1 k1
 refine zAssign ⟨?_⟩
 refine k1 _ ?_
 refine zk ⟨?_⟩
 refine v_seqR [0,3] ?_; intro K2 k2
 refine zAssign ⟨?_⟩
 refine k2 _ ?_
 refine zk ⟨?_⟩
 refine v_seqR [0,3,4] ?_; intro K3 k3
 refine zMove ⟨?_⟩
 refine v_op ?_; intro K k
 simp only [zE, zM, aStepM, optable, set_some, Nat.reduceEqDiff, reduceIte, Nat.reduceLT, implies_true, forall_const, reduceCtorEq, V.ofValue, V.ofScalar, V.un, V.gd, aExec, lentIds, lendOf, ‹Tys _›.h, ‹Fc _›.h]
 repeat (refine andC ?_)
 refine aCall_lentXA (pick_con code a s (100) hcode hcl (by omega)) ?_
 rintro _ _ ⟨v10, a10, s10, h10, k10, rfl, rfl⟩
 refine ⟨_, _, rfl, by first | exact .inr (List.all_eq_true.1 rfl) | exact .inl ⟨rfl, by simp [Blk.kindIs, fillK_fd]⟩, ?_⟩
 refine k _ ?_; clear k K
 simp only [zY, zW, set_some, Nat.reduceEqDiff, reduceIte, rho_one, rho_s, rho2_s, rho2_0, rho2_1, V.ren, V.renL, List.set_cons_zero, List.set_cons_succ, rho, Nat.reduceAdd, Nat.add_zero]
 refine zAssign ⟨?_⟩
 refine k3 _ ?_
 refine zk ⟨?_⟩
 refine v_seqR [0,3,4,5] ?_; intro K4 k4
 refine zMove ⟨?_⟩
 refine v_op ?_; intro K k
 simp only [zE, zM, aStepM, optable, set_some, Nat.reduceEqDiff, reduceIte, Nat.reduceLT, implies_true, forall_const, reduceCtorEq, V.ofValue, V.ofScalar, V.un, V.gd, aExec, lentIds, lendOf, ‹Tys _›.h, ‹Fc _›.h]
 repeat (refine andC ?_)
 refine aCall_lentXA (pick_con code a10 s10 (7) hcode hcl (by omega)) ?_
 rintro _ _ ⟨v12, a12, s12, h12, k12, rfl, rfl⟩
 refine ⟨_, _, rfl, by first | exact .inr (List.all_eq_true.1 rfl) | exact .inl ⟨rfl, by simp [Blk.kindIs, fillK_fd]⟩, ?_⟩
 refine k _ ?_; clear k K
 simp only [zY, zW, set_some, Nat.reduceEqDiff, reduceIte, rho_one, rho_s, rho2_s, rho2_0, rho2_1, V.ren, V.renL, List.set_cons_zero, List.set_cons_succ, rho, Nat.reduceAdd, Nat.add_zero]
 refine zAssign ⟨?_⟩
 refine k4 _ ?_
 refine zk ⟨?_⟩
 refine v_join (A := Int × Int × Int) (fun p => ⟨[(0, .ptr 0 0 0), (3, .ref 1), (4, .int .i64 v10), (5, .int .i64 p.1)], [.box (.agg [.sl (code.map (V.int .u8)), .int .i64 p.2.1, .int .u64 p.2.2]) .shal, .arr [] .flat], false, 85, 0⟩) (fun p => (0 ≤ p.1 ∧ p.1 ≤ 16) ∧ a ≤ p.2.1 ∧ p.2.1 ≤ a + 8) ?_ ?_
 ·intro Q5 n5 e5 r5
  refine v_seqR [0,3,4,5,14] ?_; intro K6 k6
  refine zMove ⟨?_⟩
  refine v_op ?_; intro K k
  simp only [zE, zM, aStepM, optable, set_some, Nat.reduceEqDiff, reduceIte, Nat.reduceLT, implies_true, forall_const, reduceCtorEq, V.ofValue, V.ofScalar, V.un, V.gd, aExec, lentIds, lendOf, ‹Tys _›.h, ‹Fc _›.h]
  repeat (refine andC ?_)
  refine aCall_lentXA (one_con code a12 s12 (12) hcode hcl (by omega)) ?_
  rintro _ _ ⟨v14, a14, s14, h14, k14, rfl, rfl⟩
  refine ⟨_, _, rfl, by first | exact .inr (List.all_eq_true.1 rfl) | exact .inl ⟨rfl, by simp [Blk.kindIs, fillK_fd]⟩, ?_⟩
  refine k _ ?_; clear k K
  simp only [zY, zW, set_some, Nat.reduceEqDiff, reduceIte, rho_one, rho_s, rho2_s, rho2_0, rho2_1, V.ren, V.renL, List.set_cons_zero, List.set_cons_succ, rho, Nat.reduceAdd, Nat.add_zero]
  refine k6 _ ?_
  refine zk ⟨?_⟩
  refine v_condS _ rfl ?_ ?_
  ·intro hc0
   refine v_region ?_; intro K8 k8
   refine zMove ⟨?_⟩
   refine v_op ?_; intro K k
   simp only [zE, zM, aStepM, optable, set_some, Nat.reduceEqDiff, reduceIte, Nat.reduceLT, implies_true, forall_const, reduceCtorEq, V.ofValue, V.ofScalar, V.un, V.gd, aExec, lentIds, lendOf, ‹Tys _›.h, ‹Fc _›.h]
   repeat (refine andC ?_)
   refine aCall_lentXA (pick_con code a14 s14 (2) hcode hcl (by omega)) ?_
   rintro _ _ ⟨v16, a16, s16, h16, k16, rfl, rfl⟩
   refine ⟨_, _, rfl, by first | exact .inr (List.all_eq_true.1 rfl) | exact .inl ⟨rfl, by simp [Blk.kindIs, fillK_fd]⟩, ?_⟩
   refine k _ ?_; clear k K
   simp only [zY, zW, set_some, Nat.reduceEqDiff, reduceIte, rho_one, rho_s, rho2_s, rho2_0, rho2_1, V.ren, V.renL, List.set_cons_zero, List.set_cons_succ, rho, Nat.reduceAdd, Nat.add_zero]
   refine zBinOpW ⟨?_⟩
   refine zAssign ⟨?_⟩
   refine k8 _ ?_
   refine n5 (15 + v16, a16, s16) _ ?_ ?_
   ·exact ⟨by show 0 ≤ 15 + v16 ∧ 15 + v16 ≤ 16; omega, by show a ≤ a16 ∧ a16 ≤ a + 8; omega⟩
   ·refine weak_both [0, 3, 4, 5] [0, 2] (by decide) (by simp) ?_ ?_ ?_
    ·simp [keep_mk, keepE_nil, keepE_cons, look_cons, V.only, V.onlyL, idx] <;> (first | rfl | decide)
    ·simp [Blk.kindIs, fillK_mix]
    simp only [keep_mk, keepE_nil, keepE_cons, look_cons, look_nil, Nat.reduceEqDiff, reduceIte, St.comp, List.map_cons, List.map_nil, V.ren, V.renL, idx, List.getD_cons_zero, List.getD_cons_succ, Nat.reduceBEq, cond_true, cond_false, Option.map_some, Option.getD_some, Nat.reduceAdd, Nat.beq_eq_true_eq]
    all_goals rfl
  ·intro hc0
   refine v_skip ?_
   refine n5 (v12, a14, s14) _ ?_ ?_
   ·exact ⟨by show 0 ≤ v12 ∧ v12 ≤ 16; omega, by show a ≤ a14 ∧ a14 ≤ a + 8; omega⟩
   ·refine weak_both [0, 3, 4, 5] [0, 2] (by decide) (by simp) ?_ ?_ ?_
    ·simp [keep_mk, keepE_nil, keepE_cons, look_cons, V.only, V.onlyL, idx] <;> (first | rfl | decide)
    ·simp [Blk.kindIs, fillK_mix]
    simp only [keep_mk, keepE_nil, keepE_cons, look_cons, look_nil, Nat.reduceEqDiff, reduceIte, St.comp, List.map_cons, List.map_nil, V.ren, V.renL, idx, List.getD_cons_zero, List.getD_cons_succ, Nat.reduceBEq, cond_true, cond_false, Option.map_some, Option.getD_some, Nat.reduceAdd, Nat.beq_eq_true_eq]
    all_goals rfl
 ·rintro ⟨n, a1, s1⟩ hok5
  obtain ⟨hn, ha1⟩ := hok5
  simp only [] at hn ha1 ⊢
  refine v_seq ?_; intro Q9 n9 e9 r9
  refine v_seqR [0,3,4,5,6] ?_; intro K10 k10
  have F := Fc.mk True.intro
  refine zAssign ⟨?_⟩
  refine k10 _ ?_
  refine zk ⟨?_⟩
  refine v_block ?_; intro Q11 n11 x11 e11 r11
  refine v_loop (fun p => ⟨[(0, .ptr 0 0 0), (3, .ref 1), (4, .int .i64 p.2.1), (5, .int .i64 n), (6, .int .i64 (Nat.cast p.2.2.1))], [.box (.agg [.sl (code.map (V.int .u8)), .int .i64 p.2.2.2.1, .int .u64 p.2.2.2.2]) .shal, .arr (p.1.map (fun t : Int × ByteArray × Int × Int => V.agg [V.int .i64 t.1, V.str t.2.1, V.int .i64 t.2.2.1, V.int .i64 t.2.2.2])) .flat], false, 85, 0⟩) (fun p => ((p.1.length : Int) ≤ n ∧ ∀ x ∈ p.1, x.2.1.size ≤ 2) ∧ (0 ≤ p.2.1 ∧ p.2.1 ≤ 100 + 200 * (p.2.2.1 : Int)) ∧ p.2.2.1 ≤ 60 ∧ a1 ≤ p.2.2.2.1 ∧ p.2.2.2.1 ≤ a1 + 10 * (p.2.2.1 : Int)) (fun p => 60 - p.2.2.1) (([], v10, 0, a1, s1) : List (Int × ByteArray × Int × Int) × Int × Nat × Int × Int) ?_ ?_ ?_
  ·refine weak_both [0, 3, 4, 5, 6] [0, 1] (by decide) (by simp) ?_ ?_ ?_
   ·simp [keep_mk, keepE_nil, keepE_cons, look_cons, V.only, V.onlyL, idx] <;> (first | rfl | decide)
   ·simp [Blk.kindIs, fillK_mix]
   simp only [keep_mk, keepE_nil, keepE_cons, look_cons, look_nil, Nat.reduceEqDiff, reduceIte, St.comp, List.map_cons, List.map_nil, V.ren, V.renL, idx, List.getD_cons_zero, List.getD_cons_succ, Nat.reduceBEq, cond_true, cond_false, Option.map_some, Option.getD_some, Nat.reduceAdd, Nat.beq_eq_true_eq]
   all_goals rfl
  ·exact ⟨⟨by simpa using hn.1, by simp⟩, by show 0 ≤ v10 ∧ v10 ≤ _; simp; omega, Nat.zero_le _, by simp⟩
  ·rintro ⟨acc, cl, t, a2, s2⟩ hok12 Q12 n12 e12 r12
   obtain ⟨⟨hal, hsz⟩, hcl2, ht60, ha2⟩ := hok12
   simp only [] at hal hsz hcl2 ht60 ha2 ⊢
   refine v_seq ?_; intro Q13 n13 e13 r13
   refine v_seqR [0,3,4,5,6,25] ?_; intro K14 k14
   refine zMove ⟨?_⟩
   refine zLen ⟨?_⟩
   refine zMove ⟨?_⟩
   refine zBinOp ⟨?_⟩
   refine zMove ⟨?_⟩
   refine zgMove ⟨?_⟩
   refine zgBinOp ⟨?_⟩
   refine zPick ⟨?_⟩
   refine k14 _ ?_
   refine zk ⟨?_⟩
   refine v_condS _ rfl ?_ ?_
   ·intro hc1
    have hlt : (acc.length : Int) < n ∧ t < 60 := by first | omega | (simp at hc1; omega)
    rcases Nat.eq_zero_or_pos acc.length with h0 | h0
    ·skip
     have hz : (acc.length : Int) = 0 := by omega
     have hae : acc = [] := List.eq_nil_of_length_eq_zero h0
     refine v_skip ?_
     refine n13 _ _ (weak_keep [0, 3, 4, 5, 6] _) ?_
     refine zk ⟨?_⟩
     refine v_seq ?_; intro Q16 n16 e16 r16
     refine v_block ?_; intro Q17 n17 x17 e17 r17
     refine v_seqR [0,3,4,5,6,7] ?_; intro K18 k18
     have F := Fc.mk (And.intro hz (And.intro @decide_true @Bool.not_true))
     refine zMove ⟨?_⟩
     refine v_op ?_; intro K k
     simp only [zE, zM, aStepM, optable, set_some, Nat.reduceEqDiff, reduceIte, Nat.reduceLT, implies_true, forall_const, reduceCtorEq, V.ofValue, V.ofScalar, V.un, V.gd, aExec, lentIds, lendOf, ‹Tys _›.h, ‹Fc _›.h]
     repeat (refine andC ?_)
     refine aCall_lentXA (pick_con code a2 s2 (3) hcode hcl (by omega)) ?_
     rintro _ _ ⟨v29, a29, s29, h29, k29, rfl, rfl⟩
     refine ⟨_, _, rfl, by first | exact .inr (List.all_eq_true.1 rfl) | exact .inl ⟨rfl, by simp [Blk.kindIs, fillK_fd]⟩, ?_⟩
     refine k _ ?_; clear k K
     simp only [zY, zW, set_some, Nat.reduceEqDiff, reduceIte, rho_one, rho_s, rho2_s, rho2_0, rho2_1, V.ren, V.renL, List.set_cons_zero, List.set_cons_succ, rho, Nat.reduceAdd, Nat.add_zero]
     refine zBinOpW ⟨?_⟩
     refine zMove ⟨?_⟩
     refine zBuildSlice ⟨?_⟩
     refine v_op ?_; intro K k
     simp only [zE, zM, aStepM, optable, set_some, Nat.reduceEqDiff, reduceIte, Nat.reduceLT, implies_true, forall_const, reduceCtorEq, V.ofValue, V.ofScalar, V.un, V.gd, aExec, lentIds, lendOf, ‹Tys _›.h, ‹Fc _›.h]
     repeat (refine andC ?_)
     refine aCall_lent2XA (of_con code a29 s29 [(⟨#[112, 49]⟩ : ByteArray), (⟨#[112, 49]⟩ : ByteArray), (⟨#[112, 50]⟩ : ByteArray), (⟨#[100, 49]⟩ : ByteArray), (⟨#[116, 49]⟩ : ByteArray)] (by simp) hcode hcl (by omega)) ?_
     rintro _ _ ⟨v33, a33, s33, h33, k33, rfl, rfl⟩
     have hz33 : v33.size ≤ 2 := by
      simp only [List.mem_cons, List.not_mem_nil, or_false] at h33
      rcases h33 with e | e | e | e | e <;> (rw [e]; decide)
     refine ⟨_, _, _, rfl, by first | exact .inr (List.all_eq_true.1 rfl) | exact .inl ⟨rfl, by simp [Blk.kindIs, fillK_fd]⟩, ?_⟩
     refine k _ ?_; clear k K
     simp only [zY, zW, set_some, Nat.reduceEqDiff, reduceIte, rho_one, rho_s, rho2_s, rho2_0, rho2_1, V.ren, V.renL, List.set_cons_zero, List.set_cons_succ, rho, Nat.reduceAdd, Nat.add_zero]
     refine zMove ⟨?_⟩
     refine zBuild ⟨?_⟩
     refine zAlloc ⟨?_⟩
     refine zStore ⟨?_⟩
     refine k18 _ ?_
     refine zk ⟨?_⟩
     refine v_seqR [0,3,4,5,6,7] ?_; intro K19 k19
     refine zMove ⟨?_⟩
     refine zMove ⟨?_⟩
     refine zBuildSlice ⟨?_⟩
     refine v_op ?_; intro K k
     simp only [zE, zM, aStepM, optable, set_some, Nat.reduceEqDiff, reduceIte, Nat.reduceLT, implies_true, forall_const, reduceCtorEq, V.ofValue, V.ofScalar, V.un, V.gd, aExec, lentIds, lendOf, ‹Tys _›.h, ‹Fc _›.h]
     repeat (refine andC ?_)
     refine aCall_lent2XA (among_con code a33 s33 [0, 30, 60, 60, 120, 500] (by simp) hcode hcl (by omega)) ?_
     rintro _ _ ⟨v39, a39, s39, h39, k39, rfl, rfl⟩
     refine ⟨_, _, _, rfl, by first | exact .inr (List.all_eq_true.1 rfl) | exact .inl ⟨rfl, by simp [Blk.kindIs, fillK_fd]⟩, ?_⟩
     refine k _ ?_; clear k K
     simp only [zY, zW, set_some, Nat.reduceEqDiff, reduceIte, rho_one, rho_s, rho2_s, rho2_0, rho2_1, V.ren, V.renL, List.set_cons_zero, List.set_cons_succ, rho, Nat.reduceAdd, Nat.add_zero]
     simp only [List.mem_cons, List.not_mem_nil, or_false] at h39
     refine zBinOpW ⟨?_⟩
     refine zFieldAddr ⟨?_⟩
     refine zStore ⟨?_⟩
     refine k19 _ ?_
     refine zk ⟨?_⟩
     refine v_seq ?_; intro Q20 n20 e20 r20
     refine v_seqR [0,3,4,5,6,7,8] ?_; intro K21 k21
     refine zMove ⟨?_⟩
     refine zLen ⟨?_⟩
     refine zAssign ⟨?_⟩
     refine k21 _ ?_
     refine zk ⟨?_⟩
     refine v_seq ?_; intro Q22 n22 e22 r22
     refine v_draw (by kernel_rfl) ?_; intro K23 q23 k23
     show aAny _ _ _ _ 11 (Array.replicate 11 false) _
     refine zdMove q23 true 0 44 ?_
     refine zdBinOp q23 true 1 45 ?_
     refine zdMove q23 true 2 46 ?_
     refine zdgMove q23 true 3 47 ?_
     refine zdgMove q23 true 4 48 ?_
     refine zdgBinOpW q23 true 5 49 ?_
     refine zdgIndexAddr q23 true 6 50 ?_
     refine zdgLoad q23 true 7 51 ?_
     refine zdgLoad q23 true 8 52 ?_
     first
     |refine zogc 9 (dbBefore_con y0 y1 y2 y3 (1 + v29) v33 cl (cl + v39)) ⟨?_⟩
     |(refine aAny_pass 9 53 2 false rfl rfl (show 53 < 85 by decide) (by kernel_rfl) rfl ?_ ?_; (focus first | rfl | (simp only [zV, guardV, Nat.reduceEqDiff, reduceIte]; done)); simp only [zW, set_some, Nat.reduceEqDiff, reduceIte])
     refine zdPick q23 true 10 54 ?_
     refine aAny_done (by kernel_rfl) ?_
     refine k23 _ ?_
     refine n22 _ _ (weak_keep [0, 3, 4, 5, 6, 7, 54] _) ?_
     refine zk ⟨?_⟩
     refine v_cond _ rfl ?_ ?_
     ·intro hc2
      try simp only [zC, reduceCtorEq] at hc2
      refine v_region ?_; intro K25 k25
      refine zMove ⟨?_⟩
      refine zLoad ⟨?_⟩
      refine zBuildSlice ⟨?_⟩
      refine zAppend ⟨?_⟩
      refine zAssign ⟨?_⟩
      refine k25 _ ?_
      refine n20 _ _ (weak_keep [0, 3, 4, 5, 6] _) ?_
      refine zk ⟨?_⟩
      refine v_region ?_; intro K26 k26
      refine zMove ⟨?_⟩
      refine zMove ⟨?_⟩
      refine zBuildSlice ⟨?_⟩
      refine v_op ?_; intro K k
      simp only [zE, zM, aStepM, optable, set_some, Nat.reduceEqDiff, reduceIte, Nat.reduceLT, implies_true, forall_const, reduceCtorEq, V.ofValue, V.ofScalar, V.un, V.gd, aExec, lentIds, lendOf, ‹Tys _›.h, ‹Fc _›.h]
      repeat (refine andC ?_)
      refine aCall_lent2XA (among_con code a39 s39 [1, 0, 20, 50, 200] (by simp) hcode hcl (by omega)) ?_
      rintro _ _ ⟨v62, a62, s62, h62, k62, rfl, rfl⟩
      refine ⟨_, _, _, rfl, by first | exact .inr (List.all_eq_true.1 rfl) | exact .inl ⟨rfl, by simp [Blk.kindIs, fillK_fd]⟩, ?_⟩
      refine k _ ?_; clear k K
      simp only [zY, zW, set_some, Nat.reduceEqDiff, reduceIte, rho_one, rho_s, rho2_s, rho2_0, rho2_1, V.ren, V.renL, List.set_cons_zero, List.set_cons_succ, rho, Nat.reduceAdd, Nat.add_zero]
      simp only [List.mem_cons, List.not_mem_nil, or_false] at h62
      refine zBinOpW ⟨?_⟩
      refine zAssign ⟨?_⟩
      refine k26 _ ?_
      refine n17 _ ?_
      refine n16 _ _ (weak_keep [0, 3, 4, 5, 6] _) ?_
      refine zk ⟨?_⟩
      refine v_region ?_; intro K27 k27
      refine zMove ⟨?_⟩
      refine zBinOpW ⟨?_⟩
      refine zAssign ⟨?_⟩
      refine k27 _ ?_
      refine n12 _ (acc ++ [(1 + v29, v33, cl, cl + v39)], cl + v62, t + 1, a62, s62) ?_ ?_ ?_
      ·refine weak_bothS [0, 3, 4, 5, 6] [0, 6] ⟨?_⟩
       rw [hae]; rfl
      ·exact ⟨⟨by show ((acc ++ _).length : Int) ≤ n; simp; omega, by show ∀ x ∈ acc ++ _, _; intro x hx; rcases List.mem_append.1 hx with q | q; exact hsz x q; rw [List.mem_singleton] at q; subst q; exact hz33⟩, by show 0 ≤ cl + v62 ∧ cl + v62 ≤ 100 + 200 * ((t + 1 : Nat) : Int); omega, by show t + 1 ≤ 60; omega, by show a1 ≤ a62 ∧ a62 ≤ a1 + 10 * ((t + 1 : Nat) : Int); omega⟩
      ·show _ < _; show 60 - (t + 1) < 60 - t; omega
     ·intro hc2
      exfalso; simp at hc2
    ·skip
     have hz : ¬ ((acc.length : Int) = 0) := by omega
     obtain ⟨⟨y0, y1, y2, y3⟩, hy⟩ : ∃ y : (Int × ByteArray × Int × Int), acc[acc.length - 1]? = some y := ⟨acc[acc.length - 1]'(by omega), List.getElem?_eq_getElem (by omega)⟩
     have hkm : ((acc.length : Int) - 1).toNat = acc.length - 1 := by omega
     refine v_skip ?_
     refine n13 _ _ (weak_keep [0, 3, 4, 5, 6] _) ?_
     refine zk ⟨?_⟩
     refine v_seq ?_; intro Q28 n28 e28 r28
     refine v_block ?_; intro Q29 n29 x29 e29 r29
     refine v_seqR [0,3,4,5,6,7] ?_; intro K30 k30
     have F := Fc.mk (And.intro hz (And.intro @decide_false (And.intro @Bool.not_false (And.intro hkm (fun f => getD_map (f := f) hy)))))
     refine zMove ⟨?_⟩
     refine v_op ?_; intro K k
     simp only [zE, zM, aStepM, optable, set_some, Nat.reduceEqDiff, reduceIte, Nat.reduceLT, implies_true, forall_const, reduceCtorEq, V.ofValue, V.ofScalar, V.un, V.gd, aExec, lentIds, lendOf, ‹Tys _›.h, ‹Fc _›.h]
     repeat (refine andC ?_)
     refine aCall_lentXA (pick_con code a2 s2 (3) hcode hcl (by omega)) ?_
     rintro _ _ ⟨v29, a29, s29, h29, k29, rfl, rfl⟩
     refine ⟨_, _, rfl, by first | exact .inr (List.all_eq_true.1 rfl) | exact .inl ⟨rfl, by simp [Blk.kindIs, fillK_fd]⟩, ?_⟩
     refine k _ ?_; clear k K
     simp only [zY, zW, set_some, Nat.reduceEqDiff, reduceIte, rho_one, rho_s, rho2_s, rho2_0, rho2_1, V.ren, V.renL, List.set_cons_zero, List.set_cons_succ, rho, Nat.reduceAdd, Nat.add_zero]
     refine zBinOpW ⟨?_⟩
     refine zMove ⟨?_⟩
     refine zBuildSlice ⟨?_⟩
     refine v_op ?_; intro K k
     simp only [zE, zM, aStepM, optable, set_some, Nat.reduceEqDiff, reduceIte, Nat.reduceLT, implies_true, forall_const, reduceCtorEq, V.ofValue, V.ofScalar, V.un, V.gd, aExec, lentIds, lendOf, ‹Tys _›.h, ‹Fc _›.h]
     repeat (refine andC ?_)
     refine aCall_lent2XA (of_con code a29 s29 [(⟨#[112, 49]⟩ : ByteArray), (⟨#[112, 49]⟩ : ByteArray), (⟨#[112, 50]⟩ : ByteArray), (⟨#[100, 49]⟩ : ByteArray), (⟨#[116, 49]⟩ : ByteArray)] (by simp) hcode hcl (by omega)) ?_
     rintro _ _ ⟨v33, a33, s33, h33, k33, rfl, rfl⟩
     have hz33 : v33.size ≤ 2 := by
      simp only [List.mem_cons, List.not_mem_nil, or_false] at h33
      rcases h33 with e | e | e | e | e <;> (rw [e]; decide)
     refine ⟨_, _, _, rfl, by first | exact .inr (List.all_eq_true.1 rfl) | exact .inl ⟨rfl, by simp [Blk.kindIs, fillK_fd]⟩, ?_⟩
     refine k _ ?_; clear k K
     simp only [zY, zW, set_some, Nat.reduceEqDiff, reduceIte, rho_one, rho_s, rho2_s, rho2_0, rho2_1, V.ren, V.renL, List.set_cons_zero, List.set_cons_succ, rho, Nat.reduceAdd, Nat.add_zero]
     refine zMove ⟨?_⟩
     refine zBuild ⟨?_⟩
     refine zAlloc ⟨?_⟩
     refine zStore ⟨?_⟩
     refine k30 _ ?_
     refine zk ⟨?_⟩
     refine v_seqR [0,3,4,5,6,7] ?_; intro K31 k31
     refine zMove ⟨?_⟩
     refine zMove ⟨?_⟩
     refine zBuildSlice ⟨?_⟩
     refine v_op ?_; intro K k
     simp only [zE, zM, aStepM, optable, set_some, Nat.reduceEqDiff, reduceIte, Nat.reduceLT, implies_true, forall_const, reduceCtorEq, V.ofValue, V.ofScalar, V.un, V.gd, aExec, lentIds, lendOf, ‹Tys _›.h, ‹Fc _›.h]
     repeat (refine andC ?_)
     refine aCall_lent2XA (among_con code a33 s33 [0, 30, 60, 60, 120, 500] (by simp) hcode hcl (by omega)) ?_
     rintro _ _ ⟨v39, a39, s39, h39, k39, rfl, rfl⟩
     refine ⟨_, _, _, rfl, by first | exact .inr (List.all_eq_true.1 rfl) | exact .inl ⟨rfl, by simp [Blk.kindIs, fillK_fd]⟩, ?_⟩
     refine k _ ?_; clear k K
     simp only [zY, zW, set_some, Nat.reduceEqDiff, reduceIte, rho_one, rho_s, rho2_s, rho2_0, rho2_1, V.ren, V.renL, List.set_cons_zero, List.set_cons_succ, rho, Nat.reduceAdd, Nat.add_zero]
     simp only [List.mem_cons, List.not_mem_nil, or_false] at h39
     refine zBinOpW ⟨?_⟩
     refine zFieldAddr ⟨?_⟩
     refine zStore ⟨?_⟩
     refine k31 _ ?_
     refine zk ⟨?_⟩
     refine v_seq ?_; intro Q32 n32 e32 r32
     refine v_seqR [0,3,4,5,6,7,8] ?_; intro K33 k33
     refine zMove ⟨?_⟩
     refine zLen ⟨?_⟩
     refine zAssign ⟨?_⟩
     refine k33 _ ?_
     refine zk ⟨?_⟩
     refine v_seq ?_; intro Q34 n34 e34 r34
     refine v_draw (by kernel_rfl) ?_; intro K35 q35 k35
     show aAny _ _ _ _ 11 (Array.replicate 11 false) _
     refine zdMove q35 true 0 44 ?_
     refine zdBinOp q35 true 1 45 ?_
     refine zdMove q35 true 2 46 ?_
     refine zdgMove q35 true 3 47 ?_
     refine zdgMove q35 true 4 48 ?_
     refine zdgBinOpW q35 true 5 49 ?_
     refine zdgIndexAddr q35 true 6 50 ?_
     refine zdgLoad q35 true 7 51 ?_
     refine zdgLoad q35 true 8 52 ?_
     first
     |refine zogc 9 (dbBefore_con y0 y1 y2 y3 (1 + v29) v33 cl (cl + v39)) ⟨?_⟩
     |(refine aAny_pass 9 53 2 false rfl rfl (show 53 < 85 by decide) (by kernel_rfl) rfl ?_ ?_; (focus first | rfl | (simp only [zV, guardV, Nat.reduceEqDiff, reduceIte]; done)); simp only [zW, set_some, Nat.reduceEqDiff, reduceIte])
     refine zdPick q35 true 10 54 ?_
     refine aAny_done (by kernel_rfl) ?_
     refine k35 _ ?_
     refine n34 _ _ (weak_keep [0, 3, 4, 5, 6, 7, 54] _) ?_
     refine zk ⟨?_⟩
     refine v_condS _ rfl ?_ ?_
     ·intro hc2
      refine v_region ?_; intro K37 k37
      refine zMove ⟨?_⟩
      refine zLoad ⟨?_⟩
      refine zBuildSlice ⟨?_⟩
      refine zAppend ⟨?_⟩
      refine zAssign ⟨?_⟩
      refine k37 _ ?_
      refine n32 _ _ (weak_keep [0, 3, 4, 5, 6] _) ?_
      refine zk ⟨?_⟩
      refine v_region ?_; intro K38 k38
      refine zMove ⟨?_⟩
      refine zMove ⟨?_⟩
      refine zBuildSlice ⟨?_⟩
      refine v_op ?_; intro K k
      simp only [zE, zM, aStepM, optable, set_some, Nat.reduceEqDiff, reduceIte, Nat.reduceLT, implies_true, forall_const, reduceCtorEq, V.ofValue, V.ofScalar, V.un, V.gd, aExec, lentIds, lendOf, ‹Tys _›.h, ‹Fc _›.h]
      repeat (refine andC ?_)
      refine aCall_lent2XA (among_con code a39 s39 [1, 0, 20, 50, 200] (by simp) hcode hcl (by omega)) ?_
      rintro _ _ ⟨v62, a62, s62, h62, k62, rfl, rfl⟩
      refine ⟨_, _, _, rfl, by first | exact .inr (List.all_eq_true.1 rfl) | exact .inl ⟨rfl, by simp [Blk.kindIs, fillK_fd]⟩, ?_⟩
      refine k _ ?_; clear k K
      simp only [zY, zW, set_some, Nat.reduceEqDiff, reduceIte, rho_one, rho_s, rho2_s, rho2_0, rho2_1, V.ren, V.renL, List.set_cons_zero, List.set_cons_succ, rho, Nat.reduceAdd, Nat.add_zero]
      simp only [List.mem_cons, List.not_mem_nil, or_false] at h62
      refine zBinOpW ⟨?_⟩
      refine zAssign ⟨?_⟩
      refine k38 _ ?_
      refine n29 _ ?_
      refine n28 _ _ (weak_keep [0, 3, 4, 5, 6] _) ?_
      refine zk ⟨?_⟩
      refine v_region ?_; intro K39 k39
      refine zMove ⟨?_⟩
      refine zBinOpW ⟨?_⟩
      refine zAssign ⟨?_⟩
      refine k39 _ ?_
      refine n12 _ (acc ++ [(1 + v29, v33, cl, cl + v39)], cl + v62, t + 1, a62, s62) ?_ ?_ ?_
      ·refine weak_bothS [0, 3, 4, 5, 6] [0, 6] ⟨?_⟩
       rw [snoc_Turnout]; rfl
      ·exact ⟨⟨by show ((acc ++ _).length : Int) ≤ n; simp; omega, by show ∀ x ∈ acc ++ _, _; intro x hx; rcases List.mem_append.1 hx with q | q; exact hsz x q; rw [List.mem_singleton] at q; subst q; exact hz33⟩, by show 0 ≤ cl + v62 ∧ cl + v62 ≤ 100 + 200 * ((t + 1 : Nat) : Int); omega, by show t + 1 ≤ 60; omega, by show a1 ≤ a62 ∧ a62 ≤ a1 + 10 * ((t + 1 : Nat) : Int); omega⟩
      ·show _ < _; show 60 - (t + 1) < 60 - t; omega
     ·intro hc2
      refine v_skip ?_
      refine n32 _ _ (weak_keep [0, 3, 4, 5, 6] _) ?_
      refine zk ⟨?_⟩
      refine v_region ?_; intro K40 k40
      refine zMove ⟨?_⟩
      refine zMove ⟨?_⟩
      refine zBuildSlice ⟨?_⟩
      refine v_op ?_; intro K k
      simp only [zE, zM, aStepM, optable, set_some, Nat.reduceEqDiff, reduceIte, Nat.reduceLT, implies_true, forall_const, reduceCtorEq, V.ofValue, V.ofScalar, V.un, V.gd, aExec, lentIds, lendOf, ‹Tys _›.h, ‹Fc _›.h]
      repeat (refine andC ?_)
      refine aCall_lent2XA (among_con code a39 s39 [1, 0, 20, 50, 200] (by simp) hcode hcl (by omega)) ?_
      rintro _ _ ⟨v62, a62, s62, h62, k62, rfl, rfl⟩
      refine ⟨_, _, _, rfl, by first | exact .inr (List.all_eq_true.1 rfl) | exact .inl ⟨rfl, by simp [Blk.kindIs, fillK_fd]⟩, ?_⟩
      refine k _ ?_; clear k K
      simp only [zY, zW, set_some, Nat.reduceEqDiff, reduceIte, rho_one, rho_s, rho2_s, rho2_0, rho2_1, V.ren, V.renL, List.set_cons_zero, List.set_cons_succ, rho, Nat.reduceAdd, Nat.add_zero]
      simp only [List.mem_cons, List.not_mem_nil, or_false] at h62
      refine zBinOpW ⟨?_⟩
      refine zAssign ⟨?_⟩
      refine k40 _ ?_
      refine n29 _ ?_
      refine n28 _ _ (weak_keep [0, 3, 4, 5, 6] _) ?_
      refine zk ⟨?_⟩
      refine v_region ?_; intro K41 k41
      refine zMove ⟨?_⟩
      refine zBinOpW ⟨?_⟩
      refine zAssign ⟨?_⟩
      refine k41 _ ?_
      refine n12 _ (acc, cl + v62, t + 1, a62, s62) ?_ ?_ ?_
      ·refine weak_both [0, 3, 4, 5, 6] [0, 1] (by decide) (by simp) ?_ ?_ ?_
       ·simp [keep_mk, keepE_nil, keepE_cons, look_cons, V.only, V.onlyL, idx] <;> (first | rfl | decide)
       ·simp [Blk.kindIs, fillK_mix]
       simp only [keep_mk, keepE_nil, keepE_cons, look_cons, look_nil, Nat.reduceEqDiff, reduceIte, St.comp, List.map_cons, List.map_nil, V.ren, V.renL, idx, List.getD_cons_zero, List.getD_cons_succ, Nat.reduceBEq, cond_true, cond_false, Option.map_some, Option.getD_some, Nat.reduceAdd, Nat.beq_eq_true_eq]
       all_goals rfl
      ·exact ⟨⟨hal, hsz⟩, by show 0 ≤ cl + v62 ∧ cl + v62 ≤ 100 + 200 * ((t + 1 : Nat) : Int); omega, by show t + 1 ≤ 60; omega, by show a1 ≤ a62 ∧ a62 ≤ a1 + 10 * ((t + 1 : Nat) : Int); omega⟩
      ·show _ < _; show 60 - (t + 1) < 60 - t; omega
   ·intro hc1
    refine v_exit ?_
    refine e13 _ _ ?_
    refine e12 _ _ ?_
    refine x11 _ ?_
    refine n9 _ _ (weak_keep [0, 3] _) ?_
    refine zk ⟨?_⟩
    refine v_seq ?_; intro Q42 n42 e42 r42
    refine v_seqR [0,3,65] ?_; intro K43 k43
    refine zMove ⟨?_⟩
    refine v_op ?_; intro K k
    simp only [zE, zM, aStepM, optable, set_some, Nat.reduceEqDiff, reduceIte, Nat.reduceLT, implies_true, forall_const, reduceCtorEq, V.ofValue, V.ofScalar, V.un, V.gd, aExec, lentIds, lendOf, ‹Tys _›.h, ‹Fc _›.h]
    repeat (refine andC ?_)
    refine aCall_lentXA (pick_con code a2 s2 (24) hcode hcl (by omega)) ?_
    rintro _ _ ⟨v65, a65, s65, h65, k65, rfl, rfl⟩
    refine ⟨_, _, rfl, by first | exact .inr (List.all_eq_true.1 rfl) | exact .inl ⟨rfl, by simp [Blk.kindIs, fillK_fd]⟩, ?_⟩
    refine k _ ?_; clear k K
    simp only [zY, zW, set_some, Nat.reduceEqDiff, reduceIte, rho_one, rho_s, rho2_s, rho2_0, rho2_1, V.ren, V.renL, List.set_cons_zero, List.set_cons_succ, rho, Nat.reduceAdd, Nat.add_zero]
    refine k43 _ ?_
    refine zk ⟨?_⟩
    refine v_block ?_; intro Q44 n44 x44 e44 r44
    refine v_seqR [0,3,66] ?_; intro K45 k45
    refine zBinOp ⟨?_⟩
    refine zAssign ⟨?_⟩
    refine k45 _ ?_
    refine zk ⟨?_⟩
    refine v_condS _ rfl ?_ ?_
    ·intro hc3
     refine v_region ?_; intro K47 k47
     refine zMove ⟨?_⟩
     refine zMove ⟨?_⟩
     refine zBuildSlice ⟨?_⟩
     refine v_op ?_; intro K k
     simp only [zE, zM, aStepM, optable, set_some, Nat.reduceEqDiff, reduceIte, Nat.reduceLT, implies_true, forall_const, reduceCtorEq, V.ofValue, V.ofScalar, V.un, V.gd, aExec, lentIds, lendOf, ‹Tys _›.h, ‹Fc _›.h]
     repeat (refine andC ?_)
     refine aCall_lent2XA (among_con code a65 s65 [0, 1, 999, 1000] (by simp) hcode hcl (by omega)) ?_
     rintro _ _ ⟨v71, a71, s71, h71, k71, rfl, rfl⟩
     refine ⟨_, _, _, rfl, by first | exact .inr (List.all_eq_true.1 rfl) | exact .inl ⟨rfl, by simp [Blk.kindIs, fillK_fd]⟩, ?_⟩
     refine k _ ?_; clear k K
     simp only [zY, zW, set_some, Nat.reduceEqDiff, reduceIte, rho_one, rho_s, rho2_s, rho2_0, rho2_1, V.ren, V.renL, List.set_cons_zero, List.set_cons_succ, rho, Nat.reduceAdd, Nat.add_zero]
     simp only [List.mem_cons, List.not_mem_nil, or_false] at h71
     refine zMove ⟨?_⟩
     refine zBuildSlice ⟨?_⟩
     refine v_op ?_; intro K k
     simp only [zE, zM, aStepM, optable, set_some, Nat.reduceEqDiff, reduceIte, Nat.reduceLT, implies_true, forall_const, reduceCtorEq, V.ofValue, V.ofScalar, V.un, V.gd, aExec, lentIds, lendOf, ‹Tys _›.h, ‹Fc _›.h]
     repeat (refine andC ?_)
     refine aCall_lent2XA (of_con code a71 s71 [(⟨#[112, 49]⟩ : ByteArray), .empty] (by simp) hcode hcl (by omega)) ?_
     rintro _ _ ⟨v74, a74, s74, h74, k74, rfl, rfl⟩
     have hz74 : v74.size ≤ 2 := by
      simp only [List.mem_cons, List.not_mem_nil, or_false] at h74
      rcases h74 with e | e <;> (rw [e]; decide)
     refine ⟨_, _, _, rfl, by first | exact .inr (List.all_eq_true.1 rfl) | exact .inl ⟨rfl, by simp [Blk.kindIs, fillK_fd]⟩, ?_⟩
     refine k _ ?_; clear k K
     simp only [zY, zW, set_some, Nat.reduceEqDiff, reduceIte, rho_one, rho_s, rho2_s, rho2_0, rho2_1, V.ren, V.renL, List.set_cons_zero, List.set_cons_succ, rho, Nat.reduceAdd, Nat.add_zero]
     refine zMove ⟨?_⟩
     refine zBuildSlice ⟨?_⟩
     refine v_op ?_; intro K k
     simp only [zE, zM, aStepM, optable, set_some, Nat.reduceEqDiff, reduceIte, Nat.reduceLT, implies_true, forall_const, reduceCtorEq, V.ofValue, V.ofScalar, V.un, V.gd, aExec, lentIds, lendOf, ‹Tys _›.h, ‹Fc _›.h]
     repeat (refine andC ?_)
     refine aCall_lent2XA (among_con code a74 s74 [999999, -1, 1000000] (by simp) hcode hcl (by omega)) ?_
     rintro _ _ ⟨v77, a77, s77, h77, k77, rfl, rfl⟩
     refine ⟨_, _, _, rfl, by first | exact .inr (List.all_eq_true.1 rfl) | exact .inl ⟨rfl, by simp [Blk.kindIs, fillK_fd]⟩, ?_⟩
     refine k _ ?_; clear k K
     simp only [zY, zW, set_some, Nat.reduceEqDiff, reduceIte, rho_one, rho_s, rho2_s, rho2_0, rho2_1, V.ren, V.renL, List.set_cons_zero, List.set_cons_succ, rho, Nat.reduceAdd, Nat.add_zero]
     simp only [List.mem_cons, List.not_mem_nil, or_false] at h77
     refine zMove ⟨?_⟩
     refine zBuildSlice ⟨?_⟩
     refine v_op ?_; intro K k
     simp only [zE, zM, aStepM, optable, set_some, Nat.reduceEqDiff, reduceIte, Nat.reduceLT, implies_true, forall_const, reduceCtorEq, V.ofValue, V.ofScalar, V.un, V.gd, aExec, lentIds, lendOf, ‹Tys _›.h, ‹Fc _›.h]
     repeat (refine andC ?_)
     refine aCall_lent2XA (among_con code a77 s77 [999999, 1000000] (by simp) hcode hcl (by omega)) ?_
     rintro _ _ ⟨v80, a80, s80, h80, k80, rfl, rfl⟩
     refine ⟨_, _, _, rfl, by first | exact .inr (List.all_eq_true.1 rfl) | exact .inl ⟨rfl, by simp [Blk.kindIs, fillK_fd]⟩, ?_⟩
     refine k _ ?_; clear k K
     simp only [zY, zW, set_some, Nat.reduceEqDiff, reduceIte, rho_one, rho_s, rho2_s, rho2_0, rho2_1, V.ren, V.renL, List.set_cons_zero, List.set_cons_succ, rho, Nat.reduceAdd, Nat.add_zero]
     simp only [List.mem_cons, List.not_mem_nil, or_false] at h80
     refine zBuild ⟨?_⟩
     refine zBuildSlice ⟨?_⟩
     refine zAppend ⟨?_⟩
     refine zAssign ⟨?_⟩
     refine k47 _ ?_
     refine n44 _ ?_
     refine n42 _ _ (weak_keep [3] _) ?_
     refine zk ⟨?_⟩
     refine v_seqR [2] ?_; intro K48 k48
     refine zMove ⟨?_⟩
     refine zAssign ⟨?_⟩
     refine k48 _ ?_
     refine zk ⟨?_⟩
     refine v_ret ?_
     refine r0 _ ?_
     refine zf ⟨?_⟩
     refine ret_viewX ?_
     exact ⟨acc ++ [(v71, v74, v77, v80)], a80, s80, ⟨by simp; omega, by intro x hx; rcases List.mem_append.1 hx with q | q; exact hsz x q; rw [List.mem_singleton] at q; subst q; exact hz74⟩, by omega, rfl, by rw [snoc_Turnout]; rfl⟩
    ·intro hc3
     refine v_skip ?_
     refine n44 _ ?_
     refine n42 _ _ (weak_keep [3] _) ?_
     refine zk ⟨?_⟩
     refine v_seqR [2] ?_; intro K49 k49
     refine zMove ⟨?_⟩
     refine zAssign ⟨?_⟩
     refine k49 _ ?_
     refine zk ⟨?_⟩
     refine v_ret ?_
     refine r0 _ ?_
     refine zf ⟨?_⟩
     refine ret_viewX ?_
     exact ⟨acc, _, _, ⟨by omega, hsz⟩, by omega, rfl, rfl⟩
set_option maxHeartbeats 1000000 in
theorem drawAreTurnouts_con (code : List Int) (hcode : ∀ x ∈ code, 0 ≤ x ∧ x ≤ 255) (hcl : code.length ≤ 9223372036854775807) : ConX Tryd.prog 111 [.sl (code.map (V.int .u8))] [] (fun r O' => ∃ (l : List (Int × ByteArray × Int × Int)), (l.length ≤ 17 ∧ ∀ x ∈ l, x.2.1.size ≤ 2) ∧ r = .ref 0 ∧ O' = [.arr (l.map (fun t : Int × ByteArray × Int × Int => V.agg [V.int .i64 t.1, V.str t.2.1, V.int .i64 t.2.2.1, V.int .i64 t.2.2.2])) .flat]) := by
 refine v_conX [.tmp 2] [(101, [0])] Tryd.func111 rfl rfl rfl (by simp [Tryd.ntmps111]) ?_
 intro Q0 n0 r0
 simp only [Tryd.ntmps111, envFrom, Nat.reduceAdd]
 have T := Tys.mk (And.intro Ty.t3 (And.intro Ty.t5 (And.intro Ty.t9 (And.intro Ty.t22 (And.intro Ty.t48 (And.intro Ty.t62 (And.intro Ty.t95 (And.intro Ty.t96 Ty.t98))))))))
 have F := Fc.mk True.intro
 refine v_seqR [0] ?_; intro K1 k1
 refine zAssign ⟨?_⟩
 refine k1 _ ?_
 refine zk ⟨?_⟩
 refine v_seqR [3] ?_; intro K2 k2
 refine zMove ⟨?_⟩
 refine zBuild ⟨?_⟩
 refine zBox ⟨?_⟩
 refine zAssign ⟨?_⟩
 refine k2 _ ?_
 refine zk ⟨?_⟩
 refine v_seqR [2] ?_; intro K3 k3
 refine zMove ⟨?_⟩
 refine v_op ?_; intro K k
 simp only [zE, zM, aStepM, optable, set_some, Nat.reduceEqDiff, reduceIte, Nat.reduceLT, implies_true, forall_const, reduceCtorEq, V.ofValue, V.ofScalar, V.un, V.gd, aExec, lentIds, lendOf, ‹Tys _›.h, ‹Fc _›.h]
 repeat (refine andC ?_)
 refine aCall_lentXA (drawTurnouts_con code 0 0 hcode hcl (by omega)) ?_
 rintro _ _ ⟨v8, a8, s8, h8, k8, rfl, rfl⟩
 refine ⟨_, _, rfl, by first | exact .inr (List.all_eq_true.1 rfl) | exact .inl ⟨rfl, by simp [Blk.kindIs, fillK_fd]⟩, ?_⟩
 refine k _ ?_; clear k K
 simp only [zY, zW, set_some, Nat.reduceEqDiff, reduceIte, rho_one, rho_s, rho2_s, rho2_0, rho2_1, V.ren, V.renL, List.set_cons_zero, List.set_cons_succ, rho, Nat.reduceAdd, Nat.add_zero]
 refine zAssign ⟨?_⟩
 refine k3 _ ?_
 refine zk ⟨?_⟩
 refine v_ret ?_
 refine r0 _ ?_
 refine zf ⟨?_⟩
 refine ret_viewX ?_
 exact ⟨v8, h8, rfl, rfl⟩
set_option maxHeartbeats 1000000 in
theorem drawBusyTwice_con (code : List Int) (hcode : ∀ x ∈ code, 0 ≤ x ∧ x ≤ 255) (hcl : code.length ≤ 9223372036854775807) : ConX Tryd.prog 39 [.sl (code.map (V.int .u8))] [] (fun r O' => ∃ (l : List (Int × ByteArray × Int × Int)), (l.length ≤ 17 ∧ ∀ x ∈ l, x.2.1.size ≤ 2) ∧ r = .ref 0 ∧ O' = [.arr (l.map (fun t : Int × ByteArray × Int × Int => V.agg [V.int .i64 t.1, V.str t.2.1, V.int .i64 t.2.2.1, V.int .i64 t.2.2.2])) .flat]) := by
 refine v_conX [.tmp 2] [] Tryd.func39 rfl rfl rfl (by simp [Tryd.ntmps39]) ?_
 intro Q0 n0 r0
 simp only [Tryd.ntmps39, envFrom, Nat.reduceAdd]
 have T := Tys.mk (And.intro Ty.t3 (And.intro Ty.t5 (And.intro Ty.t9 (And.intro Ty.t22 (And.intro Ty.t48 Ty.t62)))))
 have F := Fc.mk True.intro
 refine v_seqR [0] ?_; intro K1 k1
 refine zAssign ⟨?_⟩
 refine k1 _ ?_
 refine zk ⟨?_⟩
 refine v_seqR [2] ?_; intro K2 k2
 refine zMove ⟨?_⟩
 refine v_op ?_; intro K k
 simp only [zE, zM, aStepM, optable, set_some, Nat.reduceEqDiff, reduceIte, Nat.reduceLT, implies_true, forall_const, reduceCtorEq, V.ofValue, V.ofScalar, V.un, V.gd, aExec, lentIds, lendOf, ‹Tys _›.h, ‹Fc _›.h]
 repeat (refine andC ?_)
 refine aCall_newXA (drawAreTurnouts_con code hcode hcl) ?_
 rintro _ _ ⟨l, hql, rfl, rfl⟩
 refine ⟨by first | exact .inl ⟨rfl, by simp [Blk.kindIs, fillK_fd]⟩ | exact .inr (by simp [V.coldIn, V.cold, idx]), ?_⟩
 refine k _ ?_; clear k K
 simp only [zY, zW, set_some, Nat.reduceEqDiff, reduceIte, rho_one, rho_s, V.ren, V.renL, List.set_cons_zero, List.set_cons_succ, rho, Nat.reduceAdd, Nat.add_zero]
 refine zAssign ⟨?_⟩
 refine k2 _ ?_
 refine zk ⟨?_⟩
 refine v_ret ?_
 refine r0 _ ?_
 refine zf ⟨?_⟩
 refine ret_viewX ?_
 exact ⟨l, hql, rfl, rfl⟩
set_option maxHeartbeats 1000000 in
theorem drawTurnoutsText_con (code : List Int) (hcode : ∀ x ∈ code, 0 ≤ x ∧ x ≤ 255) (hcl : code.length ≤ 9223372036854775807) : ConX Tryd.prog 45 [.sl (code.map (V.int .u8))] [] (fun r O' => ∃ (l : List (Int × ByteArray × Int × Int)), (l.length ≤ 17 ∧ ∀ x ∈ l, x.2.1.size ≤ 2) ∧ r = .ref 0 ∧ O' = [.arr (l.map (fun t : Int × ByteArray × Int × Int => V.agg [V.int .i64 t.1, V.str t.2.1, V.int .i64 t.2.2.1, V.int .i64 t.2.2.2])) .flat]) := by
 refine v_conX [.tmp 2] [] Tryd.func45 rfl rfl rfl (by simp [Tryd.ntmps45]) ?_
 intro Q0 n0 r0
 simp only [Tryd.ntmps45, envFrom, Nat.reduceAdd]
 have T := Tys.mk (And.intro Ty.t3 (And.intro Ty.t5 (And.intro Ty.t9 (And.intro Ty.t22 (And.intro Ty.t48 Ty.t62)))))
 have F := Fc.mk True.intro
 refine v_seqR [0] ?_; intro K1 k1
 refine zAssign ⟨?_⟩
 refine k1 _ ?_
 refine zk ⟨?_⟩
 refine v_seqR [2] ?_; intro K2 k2
 refine zMove ⟨?_⟩
 refine v_op ?_; intro K k
 simp only [zE, zM, aStepM, optable, set_some, Nat.reduceEqDiff, reduceIte, Nat.reduceLT, implies_true, forall_const, reduceCtorEq, V.ofValue, V.ofScalar, V.un, V.gd, aExec, lentIds, lendOf, ‹Tys _›.h, ‹Fc _›.h]
 repeat (refine andC ?_)
 refine aCall_newXA (drawAreTurnouts_con code hcode hcl) ?_
 rintro _ _ ⟨l, hql, rfl, rfl⟩
 refine ⟨by first | exact .inl ⟨rfl, by simp [Blk.kindIs, fillK_fd]⟩ | exact .inr (by simp [V.coldIn, V.cold, idx]), ?_⟩
 refine k _ ?_; clear k K
 simp only [zY, zW, set_some, Nat.reduceEqDiff, reduceIte, rho_one, rho_s, V.ren, V.renL, List.set_cons_zero, List.set_cons_succ, rho, Nat.reduceAdd, Nat.add_zero]
 refine zAssign ⟨?_⟩
 refine k2 _ ?_
 refine zk ⟨?_⟩
 refine v_ret ?_
 refine r0 _ ?_
 refine zf ⟨?_⟩
 refine ret_viewX ?_
 exact ⟨l, hql, rfl, rfl⟩
set_option maxHeartbeats 1000000 in
theorem drawTimeForShare_con (code : List Int) (hcode : ∀ x ∈ code, 0 ≤ x ∧ x ≤ 255) (hcl : code.length ≤ 9223372036854775807) : ConX Tryd.prog 25 [.sl (code.map (V.int .u8))] [] (fun r O' => ∃ (l : List (Int × ByteArray × Int × Int)) (n : Int), ((l.length ≤ 17 ∧ ∀ x ∈ l, x.2.1.size ≤ 2) ∧ 0 ≤ n ∧ n ≤ 101) ∧ r = .tup [.ref 0, .int .i64 n] ∧ O' = [.arr (l.map (fun t : Int × ByteArray × Int × Int => V.agg [V.int .i64 t.1, V.str t.2.1, V.int .i64 t.2.2.1, V.int .i64 t.2.2.2])) .flat]) := by
 refine v_conX [.tmp 2, .tmp 3] [(101, [0]), (76, [0, 1])] Tryd.func25 rfl rfl rfl (by simp [Tryd.ntmps25]) ?_
 intro Q0 n0 r0
 simp only [Tryd.ntmps25, envFrom, Nat.reduceAdd]
 have T := Tys.mk (And.intro Ty.t3 (And.intro Ty.t5 (And.intro Ty.t9 (And.intro Ty.t22 (And.intro Ty.t36 (And.intro Ty.t48 (And.intro Ty.t62 (And.intro Ty.t95 (And.intro Ty.t96 Ty.t98)))))))))
 have F := Fc.mk True.intro
 refine v_seqR [0] ?_; intro K1 k1
 refine zAssign ⟨?_⟩
 refine zAssign ⟨?_⟩
 refine k1 _ ?_
 refine zk ⟨?_⟩
 refine v_seqR [4] ?_; intro K2 k2
 refine zMove ⟨?_⟩
 refine zBuild ⟨?_⟩
 refine zBox ⟨?_⟩
 refine zAssign ⟨?_⟩
 refine k2 _ ?_
 refine zk ⟨?_⟩
 refine v_seqR [2,3] ?_; intro K3 k3
 refine zMove ⟨?_⟩
 refine v_op ?_; intro K k
 simp only [zE, zM, aStepM, optable, set_some, Nat.reduceEqDiff, reduceIte, Nat.reduceLT, implies_true, forall_const, reduceCtorEq, V.ofValue, V.ofScalar, V.un, V.gd, aExec, lentIds, lendOf, ‹Tys _›.h, ‹Fc _›.h]
 repeat (refine andC ?_)
 refine aCall_lentXA (drawTurnouts_con code 0 0 hcode hcl (by omega)) ?_
 rintro _ _ ⟨v9, a9, s9, h9, k9, rfl, rfl⟩
 refine ⟨_, _, rfl, by first | exact .inr (List.all_eq_true.1 rfl) | exact .inl ⟨rfl, by simp [Blk.kindIs, fillK_fd]⟩, ?_⟩
 refine k _ ?_; clear k K
 simp only [zY, zW, set_some, Nat.reduceEqDiff, reduceIte, rho_one, rho_s, rho2_s, rho2_0, rho2_1, V.ren, V.renL, List.set_cons_zero, List.set_cons_succ, rho, Nat.reduceAdd, Nat.add_zero]
 refine zMove ⟨?_⟩
 refine zMove ⟨?_⟩
 refine zBuildSlice ⟨?_⟩
 refine v_op ?_; intro K k
 simp only [zE, zM, aStepM, optable, set_some, Nat.reduceEqDiff, reduceIte, Nat.reduceLT, implies_true, forall_const, reduceCtorEq, V.ofValue, V.ofScalar, V.un, V.gd, aExec, lentIds, lendOf, ‹Tys _›.h, ‹Fc _›.h]
 repeat (refine andC ?_)
 refine aCall_lent2XA (among_con code a9 s9 [0, 101] (by simp) hcode hcl (by omega)) ?_
 rintro _ _ ⟨v13, a13, s13, h13, k13, rfl, rfl⟩
 refine ⟨_, _, _, rfl, by first | exact .inr (List.all_eq_true.1 rfl) | exact .inl ⟨rfl, by simp [Blk.kindIs, fillK_fd]⟩, ?_⟩
 refine k _ ?_; clear k K
 simp only [zY, zW, set_some, Nat.reduceEqDiff, reduceIte, rho_one, rho_s, rho2_s, rho2_0, rho2_1, V.ren, V.renL, List.set_cons_zero, List.set_cons_succ, rho, Nat.reduceAdd, Nat.add_zero]
 simp only [List.mem_cons, List.not_mem_nil, or_false] at h13
 refine zBuildSlice ⟨?_⟩
 refine v_op ?_; intro K k
 simp only [zE, zM, aStepM, optable, set_some, Nat.reduceEqDiff, reduceIte, Nat.reduceLT, implies_true, forall_const, reduceCtorEq, V.ofValue, V.ofScalar, V.un, V.gd, aExec, lentIds, lendOf, ‹Tys _›.h, ‹Fc _›.h]
 repeat (refine andC ?_)
 refine aCall_lent2XA (among_con code a13 s13 [1, 50, 66, 67, 90, 100, v13] (by simp) hcode hcl (by omega)) ?_
 rintro _ _ ⟨v15, a15, s15, h15, k15, rfl, rfl⟩
 refine ⟨_, _, _, rfl, by first | exact .inr (List.all_eq_true.1 rfl) | exact .inl ⟨rfl, by simp [Blk.kindIs, fillK_fd]⟩, ?_⟩
 refine k _ ?_; clear k K
 simp only [zY, zW, set_some, Nat.reduceEqDiff, reduceIte, rho_one, rho_s, rho2_s, rho2_0, rho2_1, V.ren, V.renL, List.set_cons_zero, List.set_cons_succ, rho, Nat.reduceAdd, Nat.add_zero]
 simp only [List.mem_cons, List.not_mem_nil, or_false] at h15
 refine zAssign ⟨?_⟩
 refine zAssign ⟨?_⟩
 refine k3 _ ?_
 refine zk ⟨?_⟩
 refine v_ret ?_
 refine r0 _ ?_
 refine zf ⟨?_⟩
 refine ret_viewX ?_
 exact ⟨v9, v15, ⟨h9, by omega⟩, rfl, rfl⟩
set_option maxHeartbeats 1000000 in
theorem drawFirstArrival_con (code : List Int) (hcode : ∀ x ∈ code, 0 ≤ x ∧ x ≤ 255) (hcl : code.length ≤ 9223372036854775807) : ConX Tryd.prog 42 [.sl (code.map (V.int .u8))] [] (fun r O' => ∃ (l : List (Int × ByteArray × Int × Int)) (n : Int), ((l.length ≤ 17 ∧ ∀ x ∈ l, x.2.1.size ≤ 2) ∧ 0 ≤ n ∧ n ≤ 1000) ∧ r = .tup [.ref 0, .int .i64 n] ∧ O' = [.arr (l.map (fun t : Int × ByteArray × Int × Int => V.agg [V.int .i64 t.1, V.str t.2.1, V.int .i64 t.2.2.1, V.int .i64 t.2.2.2])) .flat]) := by
 refine v_conX [.tmp 2, .tmp 3] [(101, [0]), (76, [0, 1])] Tryd.func42 rfl rfl rfl (by simp [Tryd.ntmps42]) ?_
 intro Q0 n0 r0
 simp only [Tryd.ntmps42, envFrom, Nat.reduceAdd]
 have T := Tys.mk (And.intro Ty.t3 (And.intro Ty.t5 (And.intro Ty.t9 (And.intro Ty.t22 (And.intro Ty.t36 (And.intro Ty.t48 (And.intro Ty.t62 (And.intro Ty.t95 (And.intro Ty.t96 Ty.t98)))))))))
 have F := Fc.mk True.intro
 refine v_seqR [0] ?_; intro K1 k1
 refine zAssign ⟨?_⟩
 refine zAssign ⟨?_⟩
 refine k1 _ ?_
 refine zk ⟨?_⟩
 refine v_seqR [4] ?_; intro K2 k2
 refine zMove ⟨?_⟩
 refine zBuild ⟨?_⟩
 refine zBox ⟨?_⟩
 refine zAssign ⟨?_⟩
 refine k2 _ ?_
 refine zk ⟨?_⟩
 refine v_seqR [2,3] ?_; intro K3 k3
 refine zMove ⟨?_⟩
 refine v_op ?_; intro K k
 simp only [zE, zM, aStepM, optable, set_some, Nat.reduceEqDiff, reduceIte, Nat.reduceLT, implies_true, forall_const, reduceCtorEq, V.ofValue, V.ofScalar, V.un, V.gd, aExec, lentIds, lendOf, ‹Tys _›.h, ‹Fc _›.h]
 repeat (refine andC ?_)
 refine aCall_lentXA (drawTurnouts_con code 0 0 hcode hcl (by omega)) ?_
 rintro _ _ ⟨v9, a9, s9, h9, k9, rfl, rfl⟩
 refine ⟨_, _, rfl, by first | exact .inr (List.all_eq_true.1 rfl) | exact .inl ⟨rfl, by simp [Blk.kindIs, fillK_fd]⟩, ?_⟩
 refine k _ ?_; clear k K
 simp only [zY, zW, set_some, Nat.reduceEqDiff, reduceIte, rho_one, rho_s, rho2_s, rho2_0, rho2_1, V.ren, V.renL, List.set_cons_zero, List.set_cons_succ, rho, Nat.reduceAdd, Nat.add_zero]
 refine zMove ⟨?_⟩
 refine zMove ⟨?_⟩
 refine zBuildSlice ⟨?_⟩
 refine v_op ?_; intro K k
 simp only [zE, zM, aStepM, optable, set_some, Nat.reduceEqDiff, reduceIte, Nat.reduceLT, implies_true, forall_const, reduceCtorEq, V.ofValue, V.ofScalar, V.un, V.gd, aExec, lentIds, lendOf, ‹Tys _›.h, ‹Fc _›.h]
 repeat (refine andC ?_)
 refine aCall_lent2XA (among_con code a9 s9 [0, 1000] (by simp) hcode hcl (by omega)) ?_
 rintro _ _ ⟨v13, a13, s13, h13, k13, rfl, rfl⟩
 refine ⟨_, _, _, rfl, by first | exact .inr (List.all_eq_true.1 rfl) | exact .inl ⟨rfl, by simp [Blk.kindIs, fillK_fd]⟩, ?_⟩
 refine k _ ?_; clear k K
 simp only [zY, zW, set_some, Nat.reduceEqDiff, reduceIte, rho_one, rho_s, rho2_s, rho2_0, rho2_1, V.ren, V.renL, List.set_cons_zero, List.set_cons_succ, rho, Nat.reduceAdd, Nat.add_zero]
 simp only [List.mem_cons, List.not_mem_nil, or_false] at h13
 refine zBuildSlice ⟨?_⟩
 refine v_op ?_; intro K k
 simp only [zE, zM, aStepM, optable, set_some, Nat.reduceEqDiff, reduceIte, Nat.reduceLT, implies_true, forall_const, reduceCtorEq, V.ofValue, V.ofScalar, V.un, V.gd, aExec, lentIds, lendOf, ‹Tys _›.h, ‹Fc _›.h]
 repeat (refine andC ?_)
 refine aCall_lent2XA (among_con code a13 s13 [1, 2, 3, 4, 999, v13] (by simp) hcode hcl (by omega)) ?_
 rintro _ _ ⟨v15, a15, s15, h15, k15, rfl, rfl⟩
 refine ⟨_, _, _, rfl, by first | exact .inr (List.all_eq_true.1 rfl) | exact .inl ⟨rfl, by simp [Blk.kindIs, fillK_fd]⟩, ?_⟩
 refine k _ ?_; clear k K
 simp only [zY, zW, set_some, Nat.reduceEqDiff, reduceIte, rho_one, rho_s, rho2_s, rho2_0, rho2_1, V.ren, V.renL, List.set_cons_zero, List.set_cons_succ, rho, Nat.reduceAdd, Nat.add_zero]
 simp only [List.mem_cons, List.not_mem_nil, or_false] at h15
 refine zAssign ⟨?_⟩
 refine zAssign ⟨?_⟩
 refine k3 _ ?_
 refine zk ⟨?_⟩
 refine v_ret ?_
 refine r0 _ ?_
 refine zf ⟨?_⟩
 refine ret_viewX ?_
 exact ⟨v9, v15, ⟨h9, by omega⟩, rfl, rfl⟩
set_option maxHeartbeats 1000000 in
theorem drawShareInTime_con (code : List Int) (hcode : ∀ x ∈ code, 0 ≤ x ∧ x ≤ 255) (hcl : code.length ≤ 9223372036854775807) : ConX Tryd.prog 34 [.sl (code.map (V.int .u8))] [] (fun r O' => ∃ (l : List (Int × ByteArray × Int × Int)) (n : Int), ((l.length ≤ 17 ∧ ∀ x ∈ l, x.2.1.size ≤ 2) ∧ -1 ≤ n ∧ n ≤ 36001) ∧ r = .tup [.ref 0, .int .i64 n] ∧ O' = [.arr (l.map (fun t : Int × ByteArray × Int × Int => V.agg [V.int .i64 t.1, V.str t.2.1, V.int .i64 t.2.2.1, V.int .i64 t.2.2.2])) .flat]) := by
 refine v_conX [.tmp 2, .tmp 3] [(101, [0]), (108, [0])] Tryd.func34 rfl rfl rfl (by simp [Tryd.ntmps34]) ?_
 intro Q0 n0 r0
 simp only [Tryd.ntmps34, envFrom, Nat.reduceAdd]
 have T := Tys.mk (And.intro Ty.t3 (And.intro Ty.t5 (And.intro Ty.t9 (And.intro Ty.t22 (And.intro Ty.t48 (And.intro Ty.t62 (And.intro Ty.t95 (And.intro Ty.t96 Ty.t98))))))))
 have F := Fc.mk True.intro
 refine v_seqR [0] ?_; intro K1 k1
 refine zAssign ⟨?_⟩
 refine zAssign ⟨?_⟩
 refine k1 _ ?_
 refine zk ⟨?_⟩
 refine v_seqR [4] ?_; intro K2 k2
 refine zMove ⟨?_⟩
 refine zBuild ⟨?_⟩
 refine zBox ⟨?_⟩
 refine zAssign ⟨?_⟩
 refine k2 _ ?_
 refine zk ⟨?_⟩
 refine v_seqR [2,3] ?_; intro K3 k3
 refine zMove ⟨?_⟩
 refine v_op ?_; intro K k
 simp only [zE, zM, aStepM, optable, set_some, Nat.reduceEqDiff, reduceIte, Nat.reduceLT, implies_true, forall_const, reduceCtorEq, V.ofValue, V.ofScalar, V.un, V.gd, aExec, lentIds, lendOf, ‹Tys _›.h, ‹Fc _›.h]
 repeat (refine andC ?_)
 refine aCall_lentXA (drawTurnouts_con code 0 0 hcode hcl (by omega)) ?_
 rintro _ _ ⟨v9, a9, s9, h9, k9, rfl, rfl⟩
 refine ⟨_, _, rfl, by first | exact .inr (List.all_eq_true.1 rfl) | exact .inl ⟨rfl, by simp [Blk.kindIs, fillK_fd]⟩, ?_⟩
 refine k _ ?_; clear k K
 simp only [zY, zW, set_some, Nat.reduceEqDiff, reduceIte, rho_one, rho_s, rho2_s, rho2_0, rho2_1, V.ren, V.renL, List.set_cons_zero, List.set_cons_succ, rho, Nat.reduceAdd, Nat.add_zero]
 refine zMove ⟨?_⟩
 refine v_op ?_; intro K k
 simp only [zE, zM, aStepM, optable, set_some, Nat.reduceEqDiff, reduceIte, Nat.reduceLT, implies_true, forall_const, reduceCtorEq, V.ofValue, V.ofScalar, V.un, V.gd, aExec, lentIds, lendOf, ‹Tys _›.h, ‹Fc _›.h]
 repeat (refine andC ?_)
 refine aCall_lentXA (limitSeconds_con code a9 s9 hcode hcl (by omega)) ?_
 rintro _ _ ⟨v11, a11, s11, h11, k11, rfl, rfl⟩
 refine ⟨_, _, rfl, by first | exact .inr (List.all_eq_true.1 rfl) | exact .inl ⟨rfl, by simp [Blk.kindIs, fillK_fd]⟩, ?_⟩
 refine k _ ?_; clear k K
 simp only [zY, zW, set_some, Nat.reduceEqDiff, reduceIte, rho_one, rho_s, rho2_s, rho2_0, rho2_1, V.ren, V.renL, List.set_cons_zero, List.set_cons_succ, rho, Nat.reduceAdd, Nat.add_zero]
 refine zAssign ⟨?_⟩
 refine zAssign ⟨?_⟩
 refine k3 _ ?_
 refine zk ⟨?_⟩
 refine v_ret ?_
 refine r0 _ ?_
 refine zf ⟨?_⟩
 refine ret_viewX ?_
 exact ⟨v9, v11, ⟨h9, by omega⟩, rfl, rfl⟩
set_option maxHeartbeats 1000000 in
theorem big_con (c1 c2 : List Int) (h1 : c1.length ≤ 9223372036854775807) (h2 : c2.length ≤ 9223372036854775807) : Con Tryd.prog 24 [.sl (c1.map (V.int .u8)), .sl (c2.map (V.int .u8))] [] (.bool (decide ((c1.length : Int) > 1048576) || decide ((c2.length : Int) > 1048576 - c1.length))) [] := by
 refine v_con [.tmp 4] [] Tryd.func24 rfl rfl rfl (by simp [Tryd.ntmps24]) ?_
 intro Q0 n0 r0
 simp only [Tryd.ntmps24, envFrom, Nat.reduceAdd]
 have T := Tys.mk (And.intro Ty.t3 (And.intro Ty.t5 Ty.t22))
 have F := Fc.mk True.intro
 refine v_seqR [0,1] ?_; intro K1 k1
 refine zAssign ⟨?_⟩
 refine k1 _ ?_
 refine zk ⟨?_⟩
 refine v_seqR [4] ?_; intro K2 k2
 refine zMove ⟨?_⟩
 refine zLen ⟨?_⟩
 refine zBinOp ⟨?_⟩
 refine zMove ⟨?_⟩
 refine zgMove ⟨?_⟩
 refine zgLen ⟨?_⟩
 refine zgMove ⟨?_⟩
 refine zgLen ⟨?_⟩
 refine zgBinOpW ⟨?_⟩
 refine zgBinOp ⟨?_⟩
 refine zPick ⟨?_⟩
 refine zAssign ⟨?_⟩
 refine k2 _ ?_
 refine zk ⟨?_⟩
 refine v_ret ?_
 refine r0 _ ?_
 refine zf ⟨?_⟩
 exact ret_pure rfl (by first | rfl | simp) (.inl rfl)
set_option maxHeartbeats 1000000 in
theorem sameInts_con (l : List (Int)) (hl : l.length ≤ 1048576) : Con Tryd.prog 32 [.sl (l.map (V.int .i64)), .sl (l.map (V.int .i64))] [] (.bool true) [] := by
 refine v_con [.tmp 4] [] Tryd.func32 rfl rfl rfl (by simp [Tryd.ntmps32]) ?_
 intro Q0 n0 r0
 simp only [Tryd.ntmps32, envFrom, Nat.reduceAdd]
 have T := Tys.mk (And.intro Ty.t3 Ty.t36)
 have F := Fc.mk True.intro
 refine v_seqR [0,1] ?_; intro K1 k1
 refine zAssign ⟨?_⟩
 refine k1 _ ?_
 refine zk ⟨?_⟩
 refine v_seq ?_; intro Q2 n2 e2 r2
 refine v_seqR [0,1,10] ?_; intro K3 k3
 refine zMove ⟨?_⟩
 refine zLen ⟨?_⟩
 refine zMove ⟨?_⟩
 refine zLen ⟨?_⟩
 refine zBinOp ⟨?_⟩
 refine k3 _ ?_
 refine zk ⟨?_⟩
 refine v_cond _ rfl ?_ ?_
 ·intro hc0
  exfalso; simp at hc0
 ·intro hc0
  try simp only [zC, reduceCtorEq] at hc0
  refine v_skip ?_
  refine n2 _ _ (weak_keep [0, 1] _) ?_
  refine zk ⟨?_⟩
  refine v_seq ?_; intro Q5 n5 e5 r5
  refine v_seqR [0,1,12,13] ?_; intro K6 k6
  refine zMove ⟨?_⟩
  refine zLen ⟨?_⟩
  refine zMove ⟨?_⟩
  refine k6 _ ?_
  refine zk ⟨?_⟩
  refine v_block ?_; intro Q7 n7 x7 e7 r7
  refine v_loop (fun i => ⟨[(0, .sl (l.map (V.int .i64))), (1, .sl (l.map (V.int .i64))), (12, .int .i64 l.length), (13, .int .i64 (Nat.cast i))], [], false, 26, 0⟩) (fun i => i ≤ l.length) (fun i => l.length - i) 0 ?_ ?_ ?_
  ·refine weak_of [0, 1, 12, 13] ?_
   simp only [keep_mk, keepE_nil, keepE_cons, look_cons, look_nil, Nat.reduceEqDiff, reduceIte]
   rfl
  ·exact Nat.zero_le _
  ·rintro i hok8 Q8 n8 e8 r8
   have hi1 : i ≤ l.length := hok8
   refine v_seqR [0,1,12,13,14] ?_; intro K9 k9
   refine zBinOp ⟨?_⟩
   refine k9 _ ?_
   refine zk ⟨?_⟩
   refine v_seq ?_; intro Q10 n10 e10 r10
   refine v_condS _ rfl ?_ ?_
   ·intro hc1
    have hlt : i < l.length := by omega
    obtain ⟨x, hx⟩ : ∃ x, l[i]? = some x := ⟨l[i], List.getElem?_eq_getElem hlt⟩
    refine v_skip ?_
    refine n10 _ _ (weak_keep [0, 1, 12, 13] _) ?_
    refine zk ⟨?_⟩
    refine v_seq ?_; intro Q12 n12 e12 r12
    refine v_block ?_; intro Q13 n13 x13 e13 r13
    refine v_seqR [0,1,5,12,13] ?_; intro K14 k14
    have F := Fc.mk (fun f => getD_map (f := f) hx)
    refine zMove ⟨?_⟩
    refine zAssign ⟨?_⟩
    refine k14 _ ?_
    refine zk ⟨?_⟩
    refine v_seq ?_; intro Q15 n15 e15 r15
    refine v_draw (by kernel_rfl) ?_; intro K16 q16 k16
    show aAny _ _ _ _ 9 (Array.replicate 9 false) _
    refine zdMove q16 true 0 16 ?_
    refine zdMove q16 true 1 17 ?_
    refine zdIndexAddr q16 true 2 18 ?_
    refine zdLoad q16 true 3 19 ?_
    refine zdMove q16 true 4 20 ?_
    refine zdMove q16 true 5 21 ?_
    refine zdIndexAddr q16 true 6 22 ?_
    refine zdLoad q16 true 7 23 ?_
    refine zdBinOp q16 true 8 24 ?_
    refine aAny_done (by kernel_rfl) ?_
    refine k16 _ ?_
    refine n15 _ _ (weak_keep [0, 1, 12, 13, 24] _) ?_
    refine zk ⟨?_⟩
    refine v_cond _ rfl ?_ ?_
    ·intro hc2
     exfalso; simp at hc2
    ·intro hc2
     try simp only [zC, reduceCtorEq] at hc2
     refine v_skip ?_
     refine n13 _ ?_
     refine n12 _ _ (weak_keep [0, 1, 12, 13] _) ?_
     refine zk ⟨?_⟩
     refine v_region ?_; intro K18 k18
     refine zBinOpW ⟨?_⟩
     refine zMove ⟨?_⟩
     refine k18 _ ?_
     refine n8 _ (i + 1) ?_ ?_ ?_
     ·refine weak_bothS [0, 1, 12, 13] [] ⟨?_⟩
      rfl
     ·exact hlt
     ·show _ < _; omega
   ·intro hc1
    refine v_exit ?_
    refine e10 _ _ ?_
    refine e8 _ _ ?_
    refine x7 _ ?_
    refine n5 _ _ (weak_keep [] _) ?_
    refine zk ⟨?_⟩
    refine v_seqR [4] ?_; intro K19 k19
    refine zAssign ⟨?_⟩
    refine k19 _ ?_
    refine zk ⟨?_⟩
    refine v_ret ?_
    refine r0 _ ?_
    refine zf ⟨?_⟩
    exact ret_pure rfl rfl (.inl rfl)
set_option maxHeartbeats 1000000 in
theorem sameLists_con (d : List (List Int)) (hd : d.length ≤ 1048576) (hds : ∀ l ∈ d, l.length ≤ 1048576) : Con Tryd.prog 48 [.sl (d.map fun l => V.sl (l.map (V.int .i64))), .sl (d.map fun l => V.sl (l.map (V.int .i64)))] [] (.bool true) [] := by
 refine v_con [.tmp 4] [] Tryd.func48 rfl rfl rfl (by simp [Tryd.ntmps48]) ?_
 intro Q0 n0 r0
 simp only [Tryd.ntmps48, envFrom, Nat.reduceAdd]
 have T := Tys.mk (And.intro Ty.t3 (And.intro Ty.t4 (And.intro Ty.t23 Ty.t36)))
 have F := Fc.mk True.intro
 refine v_seqR [0,1] ?_; intro K1 k1
 refine zAssign ⟨?_⟩
 refine k1 _ ?_
 refine zk ⟨?_⟩
 refine v_seq ?_; intro Q2 n2 e2 r2
 refine v_seqR [0,1,10] ?_; intro K3 k3
 refine zMove ⟨?_⟩
 refine zLen ⟨?_⟩
 refine zMove ⟨?_⟩
 refine zLen ⟨?_⟩
 refine zBinOp ⟨?_⟩
 refine k3 _ ?_
 refine zk ⟨?_⟩
 refine v_cond _ rfl ?_ ?_
 ·intro hc0
  exfalso; simp at hc0
 ·intro hc0
  try simp only [zC, reduceCtorEq] at hc0
  refine v_skip ?_
  refine n2 _ _ (weak_keep [0, 1] _) ?_
  refine zk ⟨?_⟩
  refine v_seq ?_; intro Q5 n5 e5 r5
  refine v_seqR [0,1,12,13] ?_; intro K6 k6
  refine zMove ⟨?_⟩
  refine zLen ⟨?_⟩
  refine zMove ⟨?_⟩
  refine k6 _ ?_
  refine zk ⟨?_⟩
  refine v_block ?_; intro Q7 n7 x7 e7 r7
  refine v_loop (fun i => ⟨[(0, .sl (d.map fun l => V.sl (l.map (V.int .i64)))), (1, .sl (d.map fun l => V.sl (l.map (V.int .i64)))), (12, .int .i64 d.length), (13, .int .i64 (Nat.cast i))], [], false, 27, 0⟩) (fun i => i ≤ d.length) (fun i => d.length - i) 0 ?_ ?_ ?_
  ·refine weak_of [0, 1, 12, 13] ?_
   simp only [keep_mk, keepE_nil, keepE_cons, look_cons, look_nil, Nat.reduceEqDiff, reduceIte]
   rfl
  ·exact Nat.zero_le _
  ·rintro i hok8 Q8 n8 e8 r8
   have hi1 : i ≤ d.length := hok8
   refine v_seqR [0,1,12,13,14] ?_; intro K9 k9
   refine zBinOp ⟨?_⟩
   refine k9 _ ?_
   refine zk ⟨?_⟩
   refine v_seq ?_; intro Q10 n10 e10 r10
   refine v_condS _ rfl ?_ ?_
   ·intro hc1
    have hlt : i < d.length := by omega
    obtain ⟨x, hx⟩ : ∃ x, d[i]? = some x := ⟨d[i], List.getElem?_eq_getElem hlt⟩
    have hlx := hds x (List.mem_of_getElem? hx)
    refine v_skip ?_
    refine n10 _ _ (weak_keep [0, 1, 12, 13] _) ?_
    refine zk ⟨?_⟩
    refine v_seq ?_; intro Q12 n12 e12 r12
    refine v_block ?_; intro Q13 n13 x13 e13 r13
    refine v_seqR [0,1,5,12,13] ?_; intro K14 k14
    have F := Fc.mk (fun f => getD_map (f := f) hx)
    refine zMove ⟨?_⟩
    refine zAssign ⟨?_⟩
    refine k14 _ ?_
    refine zk ⟨?_⟩
    refine v_seq ?_; intro Q15 n15 e15 r15
    refine v_draw (by kernel_rfl) ?_; intro K16 q16 k16
    show aAny _ _ _ _ 10 (Array.replicate 10 false) _
    refine zdMove q16 true 0 16 ?_
    refine zdMove q16 true 1 17 ?_
    refine zdIndexAddr q16 true 2 18 ?_
    refine zdLoad q16 true 3 19 ?_
    refine zdMove q16 true 4 20 ?_
    refine zdMove q16 true 5 21 ?_
    refine zdIndexAddr q16 true 6 22 ?_
    refine zdLoad q16 true 7 23 ?_
    refine zoc 8 (sameInts_con x hlx) ⟨?_⟩
    refine zdUnOp q16 true 9 25 ?_
    refine aAny_done (by kernel_rfl) ?_
    refine k16 _ ?_
    refine n15 _ _ (weak_keep [0, 1, 12, 13, 25] _) ?_
    refine zk ⟨?_⟩
    refine v_cond _ rfl ?_ ?_
    ·intro hc2
     exfalso; simp at hc2
    ·intro hc2
     try simp only [zC, reduceCtorEq] at hc2
     refine v_skip ?_
     refine n13 _ ?_
     refine n12 _ _ (weak_keep [0, 1, 12, 13] _) ?_
     refine zk ⟨?_⟩
     refine v_region ?_; intro K18 k18
     refine zBinOpW ⟨?_⟩
     refine zMove ⟨?_⟩
     refine k18 _ ?_
     refine n8 _ (i + 1) ?_ ?_ ?_
     ·refine weak_bothS [0, 1, 12, 13] [] ⟨?_⟩
      rfl
     ·exact hlt
     ·show _ < _; omega
   ·intro hc1
    refine v_exit ?_
    refine e10 _ _ ?_
    refine e8 _ _ ?_
    refine x7 _ ?_
    refine n5 _ _ (weak_keep [] _) ?_
    refine zk ⟨?_⟩
    refine v_seqR [4] ?_; intro K19 k19
    refine zAssign ⟨?_⟩
    refine k19 _ ?_
    refine zk ⟨?_⟩
    refine v_ret ?_
    refine r0 _ ?_
    refine zf ⟨?_⟩
    exact ret_pure rfl rfl (.inl rfl)
end Go.Proofs.YtbameklegpgkfaaDoor
