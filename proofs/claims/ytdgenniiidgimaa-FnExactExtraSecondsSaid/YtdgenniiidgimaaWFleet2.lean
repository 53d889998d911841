/- What functions compute (Fleet2). No condition. -/
import Derived.Test.YtdgenniiidgimaaTy
import Derived.Test.YtdgenniiidgimaaVmG
import Derived.Test.YtdgenniiidgimaaWFleet
set_option linter.unusedSimpArgs false
set_option linter.unusedVariables false
set_option linter.defProp false
namespace Go.Proofs.Ytdgenniiidgimaa
open Go Go.Vm

def crewMin (k : Int) : Int := if k = 0 then 4 else if k = 1 then 2 else if k = 2 then 3 else 2
def availB (x : (ByteArray × Int × Int × Int × Int)) : Bool := (decide (x.2.2.2.2 = 0) || decide (x.2.2.2.2 = 4)) && decide (crewMin x.2.1 ≤ x.2.2.2.1)
theorem avail_no {x : (ByteArray × Int × Int × Int × Int)} (h0 : ¬ x.2.2.2.2 = 0) (h4 : ¬ x.2.2.2.2 = 4) : availB x = false := by rw [availB, decide_eq_false h0, decide_eq_false h4]; rfl
theorem avail_yes {x : (ByteArray × Int × Int × Int × Int)} (h : x.2.2.2.2 = 0 ∨ x.2.2.2.2 = 4) : availB x = decide (crewMin x.2.1 ≤ x.2.2.2.1) := by
  rw [availB]
  rcases h with h | h <;> simp [h]
theorem ap_kind {x : (ByteArray × Int × Int × Int × Int)} (h : apOK x = true) : 0 ≤ x.2.1 ∧ x.2.1 ≤ 3 ∧ 0 ≤ x.2.2.1 ∧ x.2.2.1 ≤ 13 := by
  simp only [apOK, Bool.and_eq_true, decide_eq_true_eq] at h
  omega

set_option maxHeartbeats 1000000 in
theorem isAvailable_con (x0 : ByteArray) (x1 : Int) (x2 : Int) (x3 : Int) (x4 : Int) (hk : 0 ≤ x1 ∧ x1 ≤ 3) : Con Try.prog 163 [.agg [V.str x0, V.int .i64 x1, V.int .i64 x2, V.int .i64 x3, V.int .i64 x4]] [] (.bool (availB (x0, x1, x2, x3, x4))) [] := by
 refine v_con [.tmp 2] [] Try.func163 rfl rfl rfl (by simp [Try.ntmps163]) ?_
 intro Q0 n0 r0
 simp only [Try.ntmps163, envFrom, Nat.reduceAdd]
 have T := Tys.mk (And.intro Ty.t3 (And.intro Ty.t9 (And.intro Ty.t141 Ty.t219)))
 have F := Fc.mk True.intro
 have hk4 : x1 = 0 ∨ x1 = 1 ∨ x1 = 2 ∨ x1 = 3 := by omega
 rcases hk4 with rfl | rfl | rfl | rfl
 ·skip
  skip
  refine v_seq ?_; intro Q1 n1 e1 r1
  refine v_region ?_; intro K2 k2
  have F := Fc.mk True.intro
  refine zBox ⟨?_⟩
  refine zAssign ⟨?_⟩
  refine k2 _ ?_
  refine n1 _ _ (weak_keep [1] _) ?_
  refine zk ⟨?_⟩
  refine v_seq ?_; intro Q3 n3 e3 r3
  refine v_draw (by kernel_rfl) ?_; intro K4 q4 k4
  show aAny _ _ _ _ 18 (Array.replicate 18 false) _
  refine zdFieldAddr q4 true 0 3 ?_
  refine zdLoad q4 true 1 4 ?_
  refine zdBinOp q4 true 2 5 ?_
  refine zdMove q4 true 3 6 ?_
  refine zdgFieldAddr q4 true 4 7 ?_
  refine zdgLoad q4 true 5 8 ?_
  refine zdgBinOp q4 true 6 9 ?_
  refine zdPick q4 true 7 10 ?_
  refine zdMove q4 true 8 11 ?_
  refine zdgFieldAddr q4 true 9 12 ?_
  refine zdgLoad q4 true 10 13 ?_
  refine zdgBuild q4 true 11 14 ?_
  refine zdgFieldAddr q4 true 12 15 ?_
  refine zdgLoad q4 true 13 16 ?_
  refine zdgIndex q4 true 14 17 ?_
  refine zdgBinOp q4 true 15 18 ?_
  refine zdPick q4 true 16 19 ?_
  refine zoAssign 17 ⟨?_⟩
  refine aAny_done (by kernel_rfl) ?_
  refine k4 _ ?_
  refine n3 _ _ (weak_keep [2] _) ?_
  refine zk ⟨?_⟩
  refine v_ret ?_
  refine r0 _ ?_
  refine zf ⟨?_⟩
  exact ret_pure rfl (by simp [availB, crewMin]) (.inl rfl)
 ·skip
  skip
  refine v_seq ?_; intro Q5 n5 e5 r5
  refine v_region ?_; intro K6 k6
  have F := Fc.mk True.intro
  refine zBox ⟨?_⟩
  refine zAssign ⟨?_⟩
  refine k6 _ ?_
  refine n5 _ _ (weak_keep [1] _) ?_
  refine zk ⟨?_⟩
  refine v_seq ?_; intro Q7 n7 e7 r7
  refine v_draw (by kernel_rfl) ?_; intro K8 q8 k8
  show aAny _ _ _ _ 18 (Array.replicate 18 false) _
  refine zdFieldAddr q8 true 0 3 ?_
  refine zdLoad q8 true 1 4 ?_
  refine zdBinOp q8 true 2 5 ?_
  refine zdMove q8 true 3 6 ?_
  refine zdgFieldAddr q8 true 4 7 ?_
  refine zdgLoad q8 true 5 8 ?_
  refine zdgBinOp q8 true 6 9 ?_
  refine zdPick q8 true 7 10 ?_
  refine zdMove q8 true 8 11 ?_
  refine zdgFieldAddr q8 true 9 12 ?_
  refine zdgLoad q8 true 10 13 ?_
  refine zdgBuild q8 true 11 14 ?_
  refine zdgFieldAddr q8 true 12 15 ?_
  refine zdgLoad q8 true 13 16 ?_
  refine zdgIndex q8 true 14 17 ?_
  refine zdgBinOp q8 true 15 18 ?_
  refine zdPick q8 true 16 19 ?_
  refine zoAssign 17 ⟨?_⟩
  refine aAny_done (by kernel_rfl) ?_
  refine k8 _ ?_
  refine n7 _ _ (weak_keep [2] _) ?_
  refine zk ⟨?_⟩
  refine v_ret ?_
  refine r0 _ ?_
  refine zf ⟨?_⟩
  exact ret_pure rfl (by simp [availB, crewMin]) (.inl rfl)
 ·skip
  skip
  refine v_seq ?_; intro Q9 n9 e9 r9
  refine v_region ?_; intro K10 k10
  have F := Fc.mk True.intro
  refine zBox ⟨?_⟩
  refine zAssign ⟨?_⟩
  refine k10 _ ?_
  refine n9 _ _ (weak_keep [1] _) ?_
  refine zk ⟨?_⟩
  refine v_seq ?_; intro Q11 n11 e11 r11
  refine v_draw (by kernel_rfl) ?_; intro K12 q12 k12
  show aAny _ _ _ _ 18 (Array.replicate 18 false) _
  refine zdFieldAddr q12 true 0 3 ?_
  refine zdLoad q12 true 1 4 ?_
  refine zdBinOp q12 true 2 5 ?_
  refine zdMove q12 true 3 6 ?_
  refine zdgFieldAddr q12 true 4 7 ?_
  refine zdgLoad q12 true 5 8 ?_
  refine zdgBinOp q12 true 6 9 ?_
  refine zdPick q12 true 7 10 ?_
  refine zdMove q12 true 8 11 ?_
  refine zdgFieldAddr q12 true 9 12 ?_
  refine zdgLoad q12 true 10 13 ?_
  refine zdgBuild q12 true 11 14 ?_
  refine zdgFieldAddr q12 true 12 15 ?_
  refine zdgLoad q12 true 13 16 ?_
  refine zdgIndex q12 true 14 17 ?_
  refine zdgBinOp q12 true 15 18 ?_
  refine zdPick q12 true 16 19 ?_
  refine zoAssign 17 ⟨?_⟩
  refine aAny_done (by kernel_rfl) ?_
  refine k12 _ ?_
  refine n11 _ _ (weak_keep [2] _) ?_
  refine zk ⟨?_⟩
  refine v_ret ?_
  refine r0 _ ?_
  refine zf ⟨?_⟩
  exact ret_pure rfl (by simp [availB, crewMin]) (.inl rfl)
 ·skip
  skip
  refine v_seq ?_; intro Q13 n13 e13 r13
  refine v_region ?_; intro K14 k14
  have F := Fc.mk True.intro
  refine zBox ⟨?_⟩
  refine zAssign ⟨?_⟩
  refine k14 _ ?_
  refine n13 _ _ (weak_keep [1] _) ?_
  refine zk ⟨?_⟩
  refine v_seq ?_; intro Q15 n15 e15 r15
  refine v_draw (by kernel_rfl) ?_; intro K16 q16 k16
  show aAny _ _ _ _ 18 (Array.replicate 18 false) _
  refine zdFieldAddr q16 true 0 3 ?_
  refine zdLoad q16 true 1 4 ?_
  refine zdBinOp q16 true 2 5 ?_
  refine zdMove q16 true 3 6 ?_
  refine zdgFieldAddr q16 true 4 7 ?_
  refine zdgLoad q16 true 5 8 ?_
  refine zdgBinOp q16 true 6 9 ?_
  refine zdPick q16 true 7 10 ?_
  refine zdMove q16 true 8 11 ?_
  refine zdgFieldAddr q16 true 9 12 ?_
  refine zdgLoad q16 true 10 13 ?_
  refine zdgBuild q16 true 11 14 ?_
  refine zdgFieldAddr q16 true 12 15 ?_
  refine zdgLoad q16 true 13 16 ?_
  refine zdgIndex q16 true 14 17 ?_
  refine zdgBinOp q16 true 15 18 ?_
  refine zdPick q16 true 16 19 ?_
  refine zoAssign 17 ⟨?_⟩
  refine aAny_done (by kernel_rfl) ?_
  refine k16 _ ?_
  refine n15 _ _ (weak_keep [2] _) ?_
  refine zk ⟨?_⟩
  refine v_ret ?_
  refine r0 _ ?_
  refine zf ⟨?_⟩
  exact ret_pure rfl (by simp [availB, crewMin]) (.inl rfl)
set_option maxHeartbeats 1000000 in
theorem apReady_con (x0 : ByteArray) (x1 : Int) (x2 : Int) (x3 : Int) (x4 : Int) (hk : 0 ≤ x1 ∧ x1 ≤ 3) : Con Try.prog 157 [.agg [V.str x0, V.int .i64 x1, V.int .i64 x2, V.int .i64 x3, V.int .i64 x4]] [] (.bool (availB (x0, x1, x2, x3, x4))) [] := by
 refine v_con [.tmp 2] [] Try.func157 rfl rfl rfl (by simp [Try.ntmps157]) ?_
 intro Q0 n0 r0
 simp only [Try.ntmps157, envFrom, Nat.reduceAdd]
 have T := Tys.mk (And.intro Ty.t3 (And.intro Ty.t9 (And.intro Ty.t26 Ty.t141)))
 have F := Fc.mk True.intro
 have hk4 : x1 = 0 ∨ x1 = 1 ∨ x1 = 2 ∨ x1 = 3 := by omega
 have hs4 : x4 = 0 ∨ x4 = 4 ∨ ¬ (x4 = 0 ∨ x4 = 4) := by omega
 rcases hk4 with rfl | rfl | rfl | rfl <;> rcases hs4 with h4 | h4 | h4
 ·skip
  subst h4
  have d0 : decide ((0 : Int) = 4) = false := rfl
  refine v_seq ?_; intro Q1 n1 e1 r1
  refine v_region ?_; intro K2 k2
  have F := Fc.mk (And.intro d0 (And.intro @decide_true @Bool.true_or))
  refine zBox ⟨?_⟩
  refine zAssign ⟨?_⟩
  refine k2 _ ?_
  refine n1 _ _ (weak_keep [1] _) ?_
  refine zk ⟨?_⟩
  refine v_seq ?_; intro Q3 n3 e3 r3
  refine v_draw (by kernel_rfl) ?_; intro K4 q4 k4
  show aAny _ _ _ _ 19 (Array.replicate 19 false) _
  refine zdFieldAddr q4 true 0 3 ?_
  refine zdLoad q4 true 1 4 ?_
  refine zdBinOp q4 true 2 5 ?_
  refine zdMove q4 true 3 6 ?_
  refine zdgFieldAddr q4 true 4 7 ?_
  refine zdgLoad q4 true 5 8 ?_
  refine zdgBinOp q4 true 6 9 ?_
  refine zdPick q4 true 7 10 ?_
  refine zdMove q4 true 8 11 ?_
  refine zdgFieldAddr q4 true 9 12 ?_
  refine zdgLoad q4 true 10 13 ?_
  refine zdgFieldAddr q4 true 12 15 ?_
  refine zdgLoad q4 true 13 16 ?_
  first
  |(refine aAny_pass 11 14 8 true rfl rfl (show 14 < 21 by decide) (by kernel_rfl) rfl ?_ ?_; focus (first | rfl | (simp only [zV, guardV, Nat.reduceEqDiff, reduceIte]; done)); simp only [zW, set_some, Nat.reduceEqDiff, reduceIte])
  |skip
   refine aAny_only 11 rfl (by kernel_rfl) ?_; intro K k
   simp only [zE, zO, zV, zN, aStepM, optable, set_some, Nat.reduceEqDiff, reduceIte, Nat.reduceLT, implies_true, forall_const, reduceCtorEq, V.ofValue, V.ofScalar, V.un, V.gd, guardV, V.wrap, aExec, aop, litElems, rng0, rng1, rng2, rng3, rng4, List.map_cons, List.map_nil, List.all_cons, List.all_nil, V.isVal, V.cells, content, kindAll, V.noRef, V.noSl, List.mem_cons, List.not_mem_nil, or_false, forall_eq_or_imp, forall_eq, if_true, Option.isSome_some, List.length_cons, List.length_nil, Nat.reduceAdd, Nat.reduceLeDiff, Nat.reduceMul, Try.underlying3, Ty.c3, Ty.a3, Ty.z3, Try.underlying26, Ty.c26, Ty.a26, Ty.z26, d0]
   repeat (refine And.intro (by first | omega | (intros; omega) | (intros; simp_all; done) | (intros; simp_all; omega)) ?_)
   refine k _ ?_; clear k K
  refine zdgIndexAddr q4 true 14 17 ?_
  refine zdgLoad q4 true 15 18 ?_
  refine zdgBinOp q4 true 16 19 ?_
  refine zdPick q4 true 17 20 ?_
  refine zoAssign 18 ⟨?_⟩
  refine aAny_done (by kernel_rfl) ?_
  refine k4 _ ?_
  refine n3 _ _ (weak_keep [2] _) ?_
  refine zk ⟨?_⟩
  refine v_ret ?_
  refine r0 _ ?_
  refine zf ⟨?_⟩
  exact ret_pure rfl (by first | (simp [availB, crewMin]; done) | (simp [availB, crewMin, d0, d4]; done) | (simp [availB, crewMin] at d0 d4 ⊢; simp [*]; done)) (.inl rfl)
 ·skip
  subst h4
  have d0 : decide ((4 : Int) = 0) = false := rfl
  have d4 : decide ((4 : Int) = 4) = true := rfl
  refine v_seq ?_; intro Q5 n5 e5 r5
  refine v_region ?_; intro K6 k6
  have F := Fc.mk (And.intro d0 (And.intro d4 (And.intro @decide_true @Bool.or_true)))
  refine zBox ⟨?_⟩
  refine zAssign ⟨?_⟩
  refine k6 _ ?_
  refine n5 _ _ (weak_keep [1] _) ?_
  refine zk ⟨?_⟩
  refine v_seq ?_; intro Q7 n7 e7 r7
  refine v_draw (by kernel_rfl) ?_; intro K8 q8 k8
  show aAny _ _ _ _ 19 (Array.replicate 19 false) _
  refine zdFieldAddr q8 true 0 3 ?_
  refine zdLoad q8 true 1 4 ?_
  refine zdBinOp q8 true 2 5 ?_
  refine zdMove q8 true 3 6 ?_
  refine zdgFieldAddr q8 true 4 7 ?_
  refine zdgLoad q8 true 5 8 ?_
  refine zdgBinOp q8 true 6 9 ?_
  refine zdPick q8 true 7 10 ?_
  refine zdMove q8 true 8 11 ?_
  refine zdgFieldAddr q8 true 9 12 ?_
  refine zdgLoad q8 true 10 13 ?_
  refine zdgFieldAddr q8 true 12 15 ?_
  refine zdgLoad q8 true 13 16 ?_
  first
  |(refine aAny_pass 11 14 8 true rfl rfl (show 14 < 21 by decide) (by kernel_rfl) rfl ?_ ?_; focus (first | rfl | (simp only [zV, guardV, Nat.reduceEqDiff, reduceIte]; done)); simp only [zW, set_some, Nat.reduceEqDiff, reduceIte])
  |skip
   refine aAny_only 11 rfl (by kernel_rfl) ?_; intro K k
   simp only [zE, zO, zV, zN, aStepM, optable, set_some, Nat.reduceEqDiff, reduceIte, Nat.reduceLT, implies_true, forall_const, reduceCtorEq, V.ofValue, V.ofScalar, V.un, V.gd, guardV, V.wrap, aExec, aop, litElems, rng0, rng1, rng2, rng3, rng4, List.map_cons, List.map_nil, List.all_cons, List.all_nil, V.isVal, V.cells, content, kindAll, V.noRef, V.noSl, List.mem_cons, List.not_mem_nil, or_false, forall_eq_or_imp, forall_eq, if_true, Option.isSome_some, List.length_cons, List.length_nil, Nat.reduceAdd, Nat.reduceLeDiff, Nat.reduceMul, Try.underlying3, Ty.c3, Ty.a3, Ty.z3, Try.underlying26, Ty.c26, Ty.a26, Ty.z26, d0, d4]
   repeat (refine And.intro (by first | omega | (intros; omega) | (intros; simp_all; done) | (intros; simp_all; omega)) ?_)
   refine k _ ?_; clear k K
  refine zdgIndexAddr q8 true 14 17 ?_
  refine zdgLoad q8 true 15 18 ?_
  refine zdgBinOp q8 true 16 19 ?_
  refine zdPick q8 true 17 20 ?_
  refine zoAssign 18 ⟨?_⟩
  refine aAny_done (by kernel_rfl) ?_
  refine k8 _ ?_
  refine n7 _ _ (weak_keep [2] _) ?_
  refine zk ⟨?_⟩
  refine v_ret ?_
  refine r0 _ ?_
  refine zf ⟨?_⟩
  exact ret_pure rfl (by first | (simp [availB, crewMin]; done) | (simp [availB, crewMin, d0, d4]; done) | (simp [availB, crewMin] at d0 d4 ⊢; simp [*]; done)) (.inl rfl)
 ·skip
  have d0 : decide (x4 = 0) = false := decide_eq_false (fun h => h4 (.inl h))
  have d4 : decide (x4 = 4) = false := decide_eq_false (fun h => h4 (.inr h))
  refine v_seq ?_; intro Q9 n9 e9 r9
  refine v_region ?_; intro K10 k10
  have F := Fc.mk (And.intro d0 d4)
  refine zBox ⟨?_⟩
  refine zAssign ⟨?_⟩
  refine k10 _ ?_
  refine n9 _ _ (weak_keep [1] _) ?_
  refine zk ⟨?_⟩
  refine v_seq ?_; intro Q11 n11 e11 r11
  refine v_draw (by kernel_rfl) ?_; intro K12 q12 k12
  show aAny _ _ _ _ 19 (Array.replicate 19 false) _
  refine zdFieldAddr q12 true 0 3 ?_
  refine zdLoad q12 true 1 4 ?_
  refine zdBinOp q12 true 2 5 ?_
  refine zdMove q12 true 3 6 ?_
  refine zdgFieldAddr q12 true 4 7 ?_
  refine zdgLoad q12 true 5 8 ?_
  refine zdgBinOp q12 true 6 9 ?_
  refine zdPick q12 true 7 10 ?_
  refine zdMove q12 true 8 11 ?_
  refine zdgFieldAddr q12 true 9 12 ?_
  refine zdgLoad q12 true 10 13 ?_
  refine zdgFieldAddr q12 true 12 15 ?_
  refine zdgLoad q12 true 13 16 ?_
  first
  |(refine aAny_pass 11 14 8 true rfl rfl (show 14 < 21 by decide) (by kernel_rfl) rfl ?_ ?_; focus (first | rfl | (simp only [zV, guardV, Nat.reduceEqDiff, reduceIte]; done)); simp only [zW, set_some, Nat.reduceEqDiff, reduceIte])
  |skip
   refine aAny_only 11 rfl (by kernel_rfl) ?_; intro K k
   simp only [zE, zO, zV, zN, aStepM, optable, set_some, Nat.reduceEqDiff, reduceIte, Nat.reduceLT, implies_true, forall_const, reduceCtorEq, V.ofValue, V.ofScalar, V.un, V.gd, guardV, V.wrap, aExec, aop, litElems, rng0, rng1, rng2, rng3, rng4, List.map_cons, List.map_nil, List.all_cons, List.all_nil, V.isVal, V.cells, content, kindAll, V.noRef, V.noSl, List.mem_cons, List.not_mem_nil, or_false, forall_eq_or_imp, forall_eq, if_true, Option.isSome_some, List.length_cons, List.length_nil, Nat.reduceAdd, Nat.reduceLeDiff, Nat.reduceMul, Try.underlying3, Ty.c3, Ty.a3, Ty.z3, Try.underlying26, Ty.c26, Ty.a26, Ty.z26, d0, d4]
   repeat (refine And.intro (by first | omega | (intros; omega) | (intros; simp_all; done) | (intros; simp_all; omega)) ?_)
   refine k _ ?_; clear k K
  refine zdgIndexAddr q12 true 14 17 ?_
  refine zdgLoad q12 true 15 18 ?_
  refine zdgBinOp q12 true 16 19 ?_
  refine zdPick q12 true 17 20 ?_
  refine zoAssign 18 ⟨?_⟩
  refine aAny_done (by kernel_rfl) ?_
  refine k12 _ ?_
  refine n11 _ _ (weak_keep [2] _) ?_
  refine zk ⟨?_⟩
  refine v_ret ?_
  refine r0 _ ?_
  refine zf ⟨?_⟩
  exact ret_pure rfl (by first | (simp [availB, crewMin]; done) | (simp [availB, crewMin, d0, d4]; done) | (simp [availB, crewMin] at d0 d4 ⊢; simp [*]; done)) (.inl rfl)
 ·skip
  subst h4
  have d0 : decide ((0 : Int) = 4) = false := rfl
  refine v_seq ?_; intro Q13 n13 e13 r13
  refine v_region ?_; intro K14 k14
  have F := Fc.mk (And.intro d0 (And.intro @decide_true @Bool.true_or))
  refine zBox ⟨?_⟩
  refine zAssign ⟨?_⟩
  refine k14 _ ?_
  refine n13 _ _ (weak_keep [1] _) ?_
  refine zk ⟨?_⟩
  refine v_seq ?_; intro Q15 n15 e15 r15
  refine v_draw (by kernel_rfl) ?_; intro K16 q16 k16
  show aAny _ _ _ _ 19 (Array.replicate 19 false) _
  refine zdFieldAddr q16 true 0 3 ?_
  refine zdLoad q16 true 1 4 ?_
  refine zdBinOp q16 true 2 5 ?_
  refine zdMove q16 true 3 6 ?_
  refine zdgFieldAddr q16 true 4 7 ?_
  refine zdgLoad q16 true 5 8 ?_
  refine zdgBinOp q16 true 6 9 ?_
  refine zdPick q16 true 7 10 ?_
  refine zdMove q16 true 8 11 ?_
  refine zdgFieldAddr q16 true 9 12 ?_
  refine zdgLoad q16 true 10 13 ?_
  refine zdgFieldAddr q16 true 12 15 ?_
  refine zdgLoad q16 true 13 16 ?_
  first
  |(refine aAny_pass 11 14 8 true rfl rfl (show 14 < 21 by decide) (by kernel_rfl) rfl ?_ ?_; focus (first | rfl | (simp only [zV, guardV, Nat.reduceEqDiff, reduceIte]; done)); simp only [zW, set_some, Nat.reduceEqDiff, reduceIte])
  |skip
   refine aAny_only 11 rfl (by kernel_rfl) ?_; intro K k
   simp only [zE, zO, zV, zN, aStepM, optable, set_some, Nat.reduceEqDiff, reduceIte, Nat.reduceLT, implies_true, forall_const, reduceCtorEq, V.ofValue, V.ofScalar, V.un, V.gd, guardV, V.wrap, aExec, aop, litElems, rng0, rng1, rng2, rng3, rng4, List.map_cons, List.map_nil, List.all_cons, List.all_nil, V.isVal, V.cells, content, kindAll, V.noRef, V.noSl, List.mem_cons, List.not_mem_nil, or_false, forall_eq_or_imp, forall_eq, if_true, Option.isSome_some, List.length_cons, List.length_nil, Nat.reduceAdd, Nat.reduceLeDiff, Nat.reduceMul, Try.underlying3, Ty.c3, Ty.a3, Ty.z3, Try.underlying26, Ty.c26, Ty.a26, Ty.z26, d0]
   repeat (refine And.intro (by first | omega | (intros; omega) | (intros; simp_all; done) | (intros; simp_all; omega)) ?_)
   refine k _ ?_; clear k K
  refine zdgIndexAddr q16 true 14 17 ?_
  refine zdgLoad q16 true 15 18 ?_
  refine zdgBinOp q16 true 16 19 ?_
  refine zdPick q16 true 17 20 ?_
  refine zoAssign 18 ⟨?_⟩
  refine aAny_done (by kernel_rfl) ?_
  refine k16 _ ?_
  refine n15 _ _ (weak_keep [2] _) ?_
  refine zk ⟨?_⟩
  refine v_ret ?_
  refine r0 _ ?_
  refine zf ⟨?_⟩
  exact ret_pure rfl (by first | (simp [availB, crewMin]; done) | (simp [availB, crewMin, d0, d4]; done) | (simp [availB, crewMin] at d0 d4 ⊢; simp [*]; done)) (.inl rfl)
 ·skip
  subst h4
  have d0 : decide ((4 : Int) = 0) = false := rfl
  have d4 : decide ((4 : Int) = 4) = true := rfl
  refine v_seq ?_; intro Q17 n17 e17 r17
  refine v_region ?_; intro K18 k18
  have F := Fc.mk (And.intro d0 (And.intro d4 (And.intro @decide_true @Bool.or_true)))
  refine zBox ⟨?_⟩
  refine zAssign ⟨?_⟩
  refine k18 _ ?_
  refine n17 _ _ (weak_keep [1] _) ?_
  refine zk ⟨?_⟩
  refine v_seq ?_; intro Q19 n19 e19 r19
  refine v_draw (by kernel_rfl) ?_; intro K20 q20 k20
  show aAny _ _ _ _ 19 (Array.replicate 19 false) _
  refine zdFieldAddr q20 true 0 3 ?_
  refine zdLoad q20 true 1 4 ?_
  refine zdBinOp q20 true 2 5 ?_
  refine zdMove q20 true 3 6 ?_
  refine zdgFieldAddr q20 true 4 7 ?_
  refine zdgLoad q20 true 5 8 ?_
  refine zdgBinOp q20 true 6 9 ?_
  refine zdPick q20 true 7 10 ?_
  refine zdMove q20 true 8 11 ?_
  refine zdgFieldAddr q20 true 9 12 ?_
  refine zdgLoad q20 true 10 13 ?_
  refine zdgFieldAddr q20 true 12 15 ?_
  refine zdgLoad q20 true 13 16 ?_
  first
  |(refine aAny_pass 11 14 8 true rfl rfl (show 14 < 21 by decide) (by kernel_rfl) rfl ?_ ?_; focus (first | rfl | (simp only [zV, guardV, Nat.reduceEqDiff, reduceIte]; done)); simp only [zW, set_some, Nat.reduceEqDiff, reduceIte])
  |skip
   refine aAny_only 11 rfl (by kernel_rfl) ?_; intro K k
   simp only [zE, zO, zV, zN, aStepM, optable, set_some, Nat.reduceEqDiff, reduceIte, Nat.reduceLT, implies_true, forall_const, reduceCtorEq, V.ofValue, V.ofScalar, V.un, V.gd, guardV, V.wrap, aExec, aop, litElems, rng0, rng1, rng2, rng3, rng4, List.map_cons, List.map_nil, List.all_cons, List.all_nil, V.isVal, V.cells, content, kindAll, V.noRef, V.noSl, List.mem_cons, List.not_mem_nil, or_false, forall_eq_or_imp, forall_eq, if_true, Option.isSome_some, List.length_cons, List.length_nil, Nat.reduceAdd, Nat.reduceLeDiff, Nat.reduceMul, Try.underlying3, Ty.c3, Ty.a3, Ty.z3, Try.underlying26, Ty.c26, Ty.a26, Ty.z26, d0, d4]
   repeat (refine And.intro (by first | omega | (intros; omega) | (intros; simp_all; done) | (intros; simp_all; omega)) ?_)
   refine k _ ?_; clear k K
  refine zdgIndexAddr q20 true 14 17 ?_
  refine zdgLoad q20 true 15 18 ?_
  refine zdgBinOp q20 true 16 19 ?_
  refine zdPick q20 true 17 20 ?_
  refine zoAssign 18 ⟨?_⟩
  refine aAny_done (by kernel_rfl) ?_
  refine k20 _ ?_
  refine n19 _ _ (weak_keep [2] _) ?_
  refine zk ⟨?_⟩
  refine v_ret ?_
  refine r0 _ ?_
  refine zf ⟨?_⟩
  exact ret_pure rfl (by first | (simp [availB, crewMin]; done) | (simp [availB, crewMin, d0, d4]; done) | (simp [availB, crewMin] at d0 d4 ⊢; simp [*]; done)) (.inl rfl)
 ·skip
  have d0 : decide (x4 = 0) = false := decide_eq_false (fun h => h4 (.inl h))
  have d4 : decide (x4 = 4) = false := decide_eq_false (fun h => h4 (.inr h))
  refine v_seq ?_; intro Q21 n21 e21 r21
  refine v_region ?_; intro K22 k22
  have F := Fc.mk (And.intro d0 d4)
  refine zBox ⟨?_⟩
  refine zAssign ⟨?_⟩
  refine k22 _ ?_
  refine n21 _ _ (weak_keep [1] _) ?_
  refine zk ⟨?_⟩
  refine v_seq ?_; intro Q23 n23 e23 r23
  refine v_draw (by kernel_rfl) ?_; intro K24 q24 k24
  show aAny _ _ _ _ 19 (Array.replicate 19 false) _
  refine zdFieldAddr q24 true 0 3 ?_
  refine zdLoad q24 true 1 4 ?_
  refine zdBinOp q24 true 2 5 ?_
  refine zdMove q24 true 3 6 ?_
  refine zdgFieldAddr q24 true 4 7 ?_
  refine zdgLoad q24 true 5 8 ?_
  refine zdgBinOp q24 true 6 9 ?_
  refine zdPick q24 true 7 10 ?_
  refine zdMove q24 true 8 11 ?_
  refine zdgFieldAddr q24 true 9 12 ?_
  refine zdgLoad q24 true 10 13 ?_
  refine zdgFieldAddr q24 true 12 15 ?_
  refine zdgLoad q24 true 13 16 ?_
  first
  |(refine aAny_pass 11 14 8 true rfl rfl (show 14 < 21 by decide) (by kernel_rfl) rfl ?_ ?_; focus (first | rfl | (simp only [zV, guardV, Nat.reduceEqDiff, reduceIte]; done)); simp only [zW, set_some, Nat.reduceEqDiff, reduceIte])
  |skip
   refine aAny_only 11 rfl (by kernel_rfl) ?_; intro K k
   simp only [zE, zO, zV, zN, aStepM, optable, set_some, Nat.reduceEqDiff, reduceIte, Nat.reduceLT, implies_true, forall_const, reduceCtorEq, V.ofValue, V.ofScalar, V.un, V.gd, guardV, V.wrap, aExec, aop, litElems, rng0, rng1, rng2, rng3, rng4, List.map_cons, List.map_nil, List.all_cons, List.all_nil, V.isVal, V.cells, content, kindAll, V.noRef, V.noSl, List.mem_cons, List.not_mem_nil, or_false, forall_eq_or_imp, forall_eq, if_true, Option.isSome_some, List.length_cons, List.length_nil, Nat.reduceAdd, Nat.reduceLeDiff, Nat.reduceMul, Try.underlying3, Ty.c3, Ty.a3, Ty.z3, Try.underlying26, Ty.c26, Ty.a26, Ty.z26, d0, d4]
   repeat (refine And.intro (by first | omega | (intros; omega) | (intros; simp_all; done) | (intros; simp_all; omega)) ?_)
   refine k _ ?_; clear k K
  refine zdgIndexAddr q24 true 14 17 ?_
  refine zdgLoad q24 true 15 18 ?_
  refine zdgBinOp q24 true 16 19 ?_
  refine zdPick q24 true 17 20 ?_
  refine zoAssign 18 ⟨?_⟩
  refine aAny_done (by kernel_rfl) ?_
  refine k24 _ ?_
  refine n23 _ _ (weak_keep [2] _) ?_
  refine zk ⟨?_⟩
  refine v_ret ?_
  refine r0 _ ?_
  refine zf ⟨?_⟩
  exact ret_pure rfl (by first | (simp [availB, crewMin]; done) | (simp [availB, crewMin, d0, d4]; done) | (simp [availB, crewMin] at d0 d4 ⊢; simp [*]; done)) (.inl rfl)
 ·skip
  subst h4
  have d0 : decide ((0 : Int) = 4) = false := rfl
  refine v_seq ?_; intro Q25 n25 e25 r25
  refine v_region ?_; intro K26 k26
  have F := Fc.mk (And.intro d0 (And.intro @decide_true @Bool.true_or))
  refine zBox ⟨?_⟩
  refine zAssign ⟨?_⟩
  refine k26 _ ?_
  refine n25 _ _ (weak_keep [1] _) ?_
  refine zk ⟨?_⟩
  refine v_seq ?_; intro Q27 n27 e27 r27
  refine v_draw (by kernel_rfl) ?_; intro K28 q28 k28
  show aAny _ _ _ _ 19 (Array.replicate 19 false) _
  refine zdFieldAddr q28 true 0 3 ?_
  refine zdLoad q28 true 1 4 ?_
  refine zdBinOp q28 true 2 5 ?_
  refine zdMove q28 true 3 6 ?_
  refine zdgFieldAddr q28 true 4 7 ?_
  refine zdgLoad q28 true 5 8 ?_
  refine zdgBinOp q28 true 6 9 ?_
  refine zdPick q28 true 7 10 ?_
  refine zdMove q28 true 8 11 ?_
  refine zdgFieldAddr q28 true 9 12 ?_
  refine zdgLoad q28 true 10 13 ?_
  refine zdgFieldAddr q28 true 12 15 ?_
  refine zdgLoad q28 true 13 16 ?_
  first
  |(refine aAny_pass 11 14 8 true rfl rfl (show 14 < 21 by decide) (by kernel_rfl) rfl ?_ ?_; focus (first | rfl | (simp only [zV, guardV, Nat.reduceEqDiff, reduceIte]; done)); simp only [zW, set_some, Nat.reduceEqDiff, reduceIte])
  |skip
   refine aAny_only 11 rfl (by kernel_rfl) ?_; intro K k
   simp only [zE, zO, zV, zN, aStepM, optable, set_some, Nat.reduceEqDiff, reduceIte, Nat.reduceLT, implies_true, forall_const, reduceCtorEq, V.ofValue, V.ofScalar, V.un, V.gd, guardV, V.wrap, aExec, aop, litElems, rng0, rng1, rng2, rng3, rng4, List.map_cons, List.map_nil, List.all_cons, List.all_nil, V.isVal, V.cells, content, kindAll, V.noRef, V.noSl, List.mem_cons, List.not_mem_nil, or_false, forall_eq_or_imp, forall_eq, if_true, Option.isSome_some, List.length_cons, List.length_nil, Nat.reduceAdd, Nat.reduceLeDiff, Nat.reduceMul, Try.underlying3, Ty.c3, Ty.a3, Ty.z3, Try.underlying26, Ty.c26, Ty.a26, Ty.z26, d0]
   repeat (refine And.intro (by first | omega | (intros; omega) | (intros; simp_all; done) | (intros; simp_all; omega)) ?_)
   refine k _ ?_; clear k K
  refine zdgIndexAddr q28 true 14 17 ?_
  refine zdgLoad q28 true 15 18 ?_
  refine zdgBinOp q28 true 16 19 ?_
  refine zdPick q28 true 17 20 ?_
  refine zoAssign 18 ⟨?_⟩
  refine aAny_done (by kernel_rfl) ?_
  refine k28 _ ?_
  refine n27 _ _ (weak_keep [2] _) ?_
  refine zk ⟨?_⟩
  refine v_ret ?_
  refine r0 _ ?_
  refine zf ⟨?_⟩
  exact ret_pure rfl (by first | (simp [availB, crewMin]; done) | (simp [availB, crewMin, d0, d4]; done) | (simp [availB, crewMin] at d0 d4 ⊢; simp [*]; done)) (.inl rfl)
 ·skip
  subst h4
  have d0 : decide ((4 : Int) = 0) = false := rfl
  have d4 : decide ((4 : Int) = 4) = true := rfl
  refine v_seq ?_; intro Q29 n29 e29 r29
  refine v_region ?_; intro K30 k30
  have F := Fc.mk (And.intro d0 (And.intro d4 (And.intro @decide_true @Bool.or_true)))
  refine zBox ⟨?_⟩
  refine zAssign ⟨?_⟩
  refine k30 _ ?_
  refine n29 _ _ (weak_keep [1] _) ?_
  refine zk ⟨?_⟩
  refine v_seq ?_; intro Q31 n31 e31 r31
  refine v_draw (by kernel_rfl) ?_; intro K32 q32 k32
  show aAny _ _ _ _ 19 (Array.replicate 19 false) _
  refine zdFieldAddr q32 true 0 3 ?_
  refine zdLoad q32 true 1 4 ?_
  refine zdBinOp q32 true 2 5 ?_
  refine zdMove q32 true 3 6 ?_
  refine zdgFieldAddr q32 true 4 7 ?_
  refine zdgLoad q32 true 5 8 ?_
  refine zdgBinOp q32 true 6 9 ?_
  refine zdPick q32 true 7 10 ?_
  refine zdMove q32 true 8 11 ?_
  refine zdgFieldAddr q32 true 9 12 ?_
  refine zdgLoad q32 true 10 13 ?_
  refine zdgFieldAddr q32 true 12 15 ?_
  refine zdgLoad q32 true 13 16 ?_
  first
  |(refine aAny_pass 11 14 8 true rfl rfl (show 14 < 21 by decide) (by kernel_rfl) rfl ?_ ?_; focus (first | rfl | (simp only [zV, guardV, Nat.reduceEqDiff, reduceIte]; done)); simp only [zW, set_some, Nat.reduceEqDiff, reduceIte])
  |skip
   refine aAny_only 11 rfl (by kernel_rfl) ?_; intro K k
   simp only [zE, zO, zV, zN, aStepM, optable, set_some, Nat.reduceEqDiff, reduceIte, Nat.reduceLT, implies_true, forall_const, reduceCtorEq, V.ofValue, V.ofScalar, V.un, V.gd, guardV, V.wrap, aExec, aop, litElems, rng0, rng1, rng2, rng3, rng4, List.map_cons, List.map_nil, List.all_cons, List.all_nil, V.isVal, V.cells, content, kindAll, V.noRef, V.noSl, List.mem_cons, List.not_mem_nil, or_false, forall_eq_or_imp, forall_eq, if_true, Option.isSome_some, List.length_cons, List.length_nil, Nat.reduceAdd, Nat.reduceLeDiff, Nat.reduceMul, Try.underlying3, Ty.c3, Ty.a3, Ty.z3, Try.underlying26, Ty.c26, Ty.a26, Ty.z26, d0, d4]
   repeat (refine And.intro (by first | omega | (intros; omega) | (intros; simp_all; done) | (intros; simp_all; omega)) ?_)
   refine k _ ?_; clear k K
  refine zdgIndexAddr q32 true 14 17 ?_
  refine zdgLoad q32 true 15 18 ?_
  refine zdgBinOp q32 true 16 19 ?_
  refine zdPick q32 true 17 20 ?_
  refine zoAssign 18 ⟨?_⟩
  refine aAny_done (by kernel_rfl) ?_
  refine k32 _ ?_
  refine n31 _ _ (weak_keep [2] _) ?_
  refine zk ⟨?_⟩
  refine v_ret ?_
  refine r0 _ ?_
  refine zf ⟨?_⟩
  exact ret_pure rfl (by first | (simp [availB, crewMin]; done) | (simp [availB, crewMin, d0, d4]; done) | (simp [availB, crewMin] at d0 d4 ⊢; simp [*]; done)) (.inl rfl)
 ·skip
  have d0 : decide (x4 = 0) = false := decide_eq_false (fun h => h4 (.inl h))
  have d4 : decide (x4 = 4) = false := decide_eq_false (fun h => h4 (.inr h))
  refine v_seq ?_; intro Q33 n33 e33 r33
  refine v_region ?_; intro K34 k34
  have F := Fc.mk (And.intro d0 d4)
  refine zBox ⟨?_⟩
  refine zAssign ⟨?_⟩
  refine k34 _ ?_
  refine n33 _ _ (weak_keep [1] _) ?_
  refine zk ⟨?_⟩
  refine v_seq ?_; intro Q35 n35 e35 r35
  refine v_draw (by kernel_rfl) ?_; intro K36 q36 k36
  show aAny _ _ _ _ 19 (Array.replicate 19 false) _
  refine zdFieldAddr q36 true 0 3 ?_
  refine zdLoad q36 true 1 4 ?_
  refine zdBinOp q36 true 2 5 ?_
  refine zdMove q36 true 3 6 ?_
  refine zdgFieldAddr q36 true 4 7 ?_
  refine zdgLoad q36 true 5 8 ?_
  refine zdgBinOp q36 true 6 9 ?_
  refine zdPick q36 true 7 10 ?_
  refine zdMove q36 true 8 11 ?_
  refine zdgFieldAddr q36 true 9 12 ?_
  refine zdgLoad q36 true 10 13 ?_
  refine zdgFieldAddr q36 true 12 15 ?_
  refine zdgLoad q36 true 13 16 ?_
  first
  |(refine aAny_pass 11 14 8 true rfl rfl (show 14 < 21 by decide) (by kernel_rfl) rfl ?_ ?_; focus (first | rfl | (simp only [zV, guardV, Nat.reduceEqDiff, reduceIte]; done)); simp only [zW, set_some, Nat.reduceEqDiff, reduceIte])
  |skip
   refine aAny_only 11 rfl (by kernel_rfl) ?_; intro K k
   simp only [zE, zO, zV, zN, aStepM, optable, set_some, Nat.reduceEqDiff, reduceIte, Nat.reduceLT, implies_true, forall_const, reduceCtorEq, V.ofValue, V.ofScalar, V.un, V.gd, guardV, V.wrap, aExec, aop, litElems, rng0, rng1, rng2, rng3, rng4, List.map_cons, List.map_nil, List.all_cons, List.all_nil, V.isVal, V.cells, content, kindAll, V.noRef, V.noSl, List.mem_cons, List.not_mem_nil, or_false, forall_eq_or_imp, forall_eq, if_true, Option.isSome_some, List.length_cons, List.length_nil, Nat.reduceAdd, Nat.reduceLeDiff, Nat.reduceMul, Try.underlying3, Ty.c3, Ty.a3, Ty.z3, Try.underlying26, Ty.c26, Ty.a26, Ty.z26, d0, d4]
   repeat (refine And.intro (by first | omega | (intros; omega) | (intros; simp_all; done) | (intros; simp_all; omega)) ?_)
   refine k _ ?_; clear k K
  refine zdgIndexAddr q36 true 14 17 ?_
  refine zdgLoad q36 true 15 18 ?_
  refine zdgBinOp q36 true 16 19 ?_
  refine zdPick q36 true 17 20 ?_
  refine zoAssign 18 ⟨?_⟩
  refine aAny_done (by kernel_rfl) ?_
  refine k36 _ ?_
  refine n35 _ _ (weak_keep [2] _) ?_
  refine zk ⟨?_⟩
  refine v_ret ?_
  refine r0 _ ?_
  refine zf ⟨?_⟩
  exact ret_pure rfl (by first | (simp [availB, crewMin]; done) | (simp [availB, crewMin, d0, d4]; done) | (simp [availB, crewMin] at d0 d4 ⊢; simp [*]; done)) (.inl rfl)
 ·skip
  subst h4
  have d0 : decide ((0 : Int) = 4) = false := rfl
  refine v_seq ?_; intro Q37 n37 e37 r37
  refine v_region ?_; intro K38 k38
  have F := Fc.mk (And.intro d0 (And.intro @decide_true @Bool.true_or))
  refine zBox ⟨?_⟩
  refine zAssign ⟨?_⟩
  refine k38 _ ?_
  refine n37 _ _ (weak_keep [1] _) ?_
  refine zk ⟨?_⟩
  refine v_seq ?_; intro Q39 n39 e39 r39
  refine v_draw (by kernel_rfl) ?_; intro K40 q40 k40
  show aAny _ _ _ _ 19 (Array.replicate 19 false) _
  refine zdFieldAddr q40 true 0 3 ?_
  refine zdLoad q40 true 1 4 ?_
  refine zdBinOp q40 true 2 5 ?_
  refine zdMove q40 true 3 6 ?_
  refine zdgFieldAddr q40 true 4 7 ?_
  refine zdgLoad q40 true 5 8 ?_
  refine zdgBinOp q40 true 6 9 ?_
  refine zdPick q40 true 7 10 ?_
  refine zdMove q40 true 8 11 ?_
  refine zdgFieldAddr q40 true 9 12 ?_
  refine zdgLoad q40 true 10 13 ?_
  refine zdgFieldAddr q40 true 12 15 ?_
  refine zdgLoad q40 true 13 16 ?_
  first
  |(refine aAny_pass 11 14 8 true rfl rfl (show 14 < 21 by decide) (by kernel_rfl) rfl ?_ ?_; focus (first | rfl | (simp only [zV, guardV, Nat.reduceEqDiff, reduceIte]; done)); simp only [zW, set_some, Nat.reduceEqDiff, reduceIte])
  |skip
   refine aAny_only 11 rfl (by kernel_rfl) ?_; intro K k
   simp only [zE, zO, zV, zN, aStepM, optable, set_some, Nat.reduceEqDiff, reduceIte, Nat.reduceLT, implies_true, forall_const, reduceCtorEq, V.ofValue, V.ofScalar, V.un, V.gd, guardV, V.wrap, aExec, aop, litElems, rng0, rng1, rng2, rng3, rng4, List.map_cons, List.map_nil, List.all_cons, List.all_nil, V.isVal, V.cells, content, kindAll, V.noRef, V.noSl, List.mem_cons, List.not_mem_nil, or_false, forall_eq_or_imp, forall_eq, if_true, Option.isSome_some, List.length_cons, List.length_nil, Nat.reduceAdd, Nat.reduceLeDiff, Nat.reduceMul, Try.underlying3, Ty.c3, Ty.a3, Ty.z3, Try.underlying26, Ty.c26, Ty.a26, Ty.z26, d0]
   repeat (refine And.intro (by first | omega | (intros; omega) | (intros; simp_all; done) | (intros; simp_all; omega)) ?_)
   refine k _ ?_; clear k K
  refine zdgIndexAddr q40 true 14 17 ?_
  refine zdgLoad q40 true 15 18 ?_
  refine zdgBinOp q40 true 16 19 ?_
  refine zdPick q40 true 17 20 ?_
  refine zoAssign 18 ⟨?_⟩
  refine aAny_done (by kernel_rfl) ?_
  refine k40 _ ?_
  refine n39 _ _ (weak_keep [2] _) ?_
  refine zk ⟨?_⟩
  refine v_ret ?_
  refine r0 _ ?_
  refine zf ⟨?_⟩
  exact ret_pure rfl (by first | (simp [availB, crewMin]; done) | (simp [availB, crewMin, d0, d4]; done) | (simp [availB, crewMin] at d0 d4 ⊢; simp [*]; done)) (.inl rfl)
 ·skip
  subst h4
  have d0 : decide ((4 : Int) = 0) = false := rfl
  have d4 : decide ((4 : Int) = 4) = true := rfl
  refine v_seq ?_; intro Q41 n41 e41 r41
  refine v_region ?_; intro K42 k42
  have F := Fc.mk (And.intro d0 (And.intro d4 (And.intro @decide_true @Bool.or_true)))
  refine zBox ⟨?_⟩
  refine zAssign ⟨?_⟩
  refine k42 _ ?_
  refine n41 _ _ (weak_keep [1] _) ?_
  refine zk ⟨?_⟩
  refine v_seq ?_; intro Q43 n43 e43 r43
  refine v_draw (by kernel_rfl) ?_; intro K44 q44 k44
  show aAny _ _ _ _ 19 (Array.replicate 19 false) _
  refine zdFieldAddr q44 true 0 3 ?_
  refine zdLoad q44 true 1 4 ?_
  refine zdBinOp q44 true 2 5 ?_
  refine zdMove q44 true 3 6 ?_
  refine zdgFieldAddr q44 true 4 7 ?_
  refine zdgLoad q44 true 5 8 ?_
  refine zdgBinOp q44 true 6 9 ?_
  refine zdPick q44 true 7 10 ?_
  refine zdMove q44 true 8 11 ?_
  refine zdgFieldAddr q44 true 9 12 ?_
  refine zdgLoad q44 true 10 13 ?_
  refine zdgFieldAddr q44 true 12 15 ?_
  refine zdgLoad q44 true 13 16 ?_
  first
  |(refine aAny_pass 11 14 8 true rfl rfl (show 14 < 21 by decide) (by kernel_rfl) rfl ?_ ?_; focus (first | rfl | (simp only [zV, guardV, Nat.reduceEqDiff, reduceIte]; done)); simp only [zW, set_some, Nat.reduceEqDiff, reduceIte])
  |skip
   refine aAny_only 11 rfl (by kernel_rfl) ?_; intro K k
   simp only [zE, zO, zV, zN, aStepM, optable, set_some, Nat.reduceEqDiff, reduceIte, Nat.reduceLT, implies_true, forall_const, reduceCtorEq, V.ofValue, V.ofScalar, V.un, V.gd, guardV, V.wrap, aExec, aop, litElems, rng0, rng1, rng2, rng3, rng4, List.map_cons, List.map_nil, List.all_cons, List.all_nil, V.isVal, V.cells, content, kindAll, V.noRef, V.noSl, List.mem_cons, List.not_mem_nil, or_false, forall_eq_or_imp, forall_eq, if_true, Option.isSome_some, List.length_cons, List.length_nil, Nat.reduceAdd, Nat.reduceLeDiff, Nat.reduceMul, Try.underlying3, Ty.c3, Ty.a3, Ty.z3, Try.underlying26, Ty.c26, Ty.a26, Ty.z26, d0, d4]
   repeat (refine And.intro (by first | omega | (intros; omega) | (intros; simp_all; done) | (intros; simp_all; omega)) ?_)
   refine k _ ?_; clear k K
  refine zdgIndexAddr q44 true 14 17 ?_
  refine zdgLoad q44 true 15 18 ?_
  refine zdgBinOp q44 true 16 19 ?_
  refine zdPick q44 true 17 20 ?_
  refine zoAssign 18 ⟨?_⟩
  refine aAny_done (by kernel_rfl) ?_
  refine k44 _ ?_
  refine n43 _ _ (weak_keep [2] _) ?_
  refine zk ⟨?_⟩
  refine v_ret ?_
  refine r0 _ ?_
  refine zf ⟨?_⟩
  exact ret_pure rfl (by first | (simp [availB, crewMin]; done) | (simp [availB, crewMin, d0, d4]; done) | (simp [availB, crewMin] at d0 d4 ⊢; simp [*]; done)) (.inl rfl)
 ·skip
  have d0 : decide (x4 = 0) = false := decide_eq_false (fun h => h4 (.inl h))
  have d4 : decide (x4 = 4) = false := decide_eq_false (fun h => h4 (.inr h))
  refine v_seq ?_; intro Q45 n45 e45 r45
  refine v_region ?_; intro K46 k46
  have F := Fc.mk (And.intro d0 d4)
  refine zBox ⟨?_⟩
  refine zAssign ⟨?_⟩
  refine k46 _ ?_
  refine n45 _ _ (weak_keep [1] _) ?_
  refine zk ⟨?_⟩
  refine v_seq ?_; intro Q47 n47 e47 r47
  refine v_draw (by kernel_rfl) ?_; intro K48 q48 k48
  show aAny _ _ _ _ 19 (Array.replicate 19 false) _
  refine zdFieldAddr q48 true 0 3 ?_
  refine zdLoad q48 true 1 4 ?_
  refine zdBinOp q48 true 2 5 ?_
  refine zdMove q48 true 3 6 ?_
  refine zdgFieldAddr q48 true 4 7 ?_
  refine zdgLoad q48 true 5 8 ?_
  refine zdgBinOp q48 true 6 9 ?_
  refine zdPick q48 true 7 10 ?_
  refine zdMove q48 true 8 11 ?_
  refine zdgFieldAddr q48 true 9 12 ?_
  refine zdgLoad q48 true 10 13 ?_
  refine zdgFieldAddr q48 true 12 15 ?_
  refine zdgLoad q48 true 13 16 ?_
  first
  |(refine aAny_pass 11 14 8 true rfl rfl (show 14 < 21 by decide) (by kernel_rfl) rfl ?_ ?_; focus (first | rfl | (simp only [zV, guardV, Nat.reduceEqDiff, reduceIte]; done)); simp only [zW, set_some, Nat.reduceEqDiff, reduceIte])
  |skip
   refine aAny_only 11 rfl (by kernel_rfl) ?_; intro K k
   simp only [zE, zO, zV, zN, aStepM, optable, set_some, Nat.reduceEqDiff, reduceIte, Nat.reduceLT, implies_true, forall_const, reduceCtorEq, V.ofValue, V.ofScalar, V.un, V.gd, guardV, V.wrap, aExec, aop, litElems, rng0, rng1, rng2, rng3, rng4, List.map_cons, List.map_nil, List.all_cons, List.all_nil, V.isVal, V.cells, content, kindAll, V.noRef, V.noSl, List.mem_cons, List.not_mem_nil, or_false, forall_eq_or_imp, forall_eq, if_true, Option.isSome_some, List.length_cons, List.length_nil, Nat.reduceAdd, Nat.reduceLeDiff, Nat.reduceMul, Try.underlying3, Ty.c3, Ty.a3, Ty.z3, Try.underlying26, Ty.c26, Ty.a26, Ty.z26, d0, d4]
   repeat (refine And.intro (by first | omega | (intros; omega) | (intros; simp_all; done) | (intros; simp_all; omega)) ?_)
   refine k _ ?_; clear k K
  refine zdgIndexAddr q48 true 14 17 ?_
  refine zdgLoad q48 true 15 18 ?_
  refine zdgBinOp q48 true 16 19 ?_
  refine zdPick q48 true 17 20 ?_
  refine zoAssign 18 ⟨?_⟩
  refine aAny_done (by kernel_rfl) ?_
  refine k48 _ ?_
  refine n47 _ _ (weak_keep [2] _) ?_
  refine zk ⟨?_⟩
  refine v_ret ?_
  refine r0 _ ?_
  refine zf ⟨?_⟩
  exact ret_pure rfl (by first | (simp [availB, crewMin]; done) | (simp [availB, crewMin, d0, d4]; done) | (simp [availB, crewMin] at d0 d4 ⊢; simp [*]; done)) (.inl rfl)
end Go.Proofs.Ytdgenniiidgimaa
