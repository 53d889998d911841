/- What functions compute. No condition. -/
import Derived.Test.YtbameklegpgkfaaDoorUty
import Derived.Test.YtbameklegpgkfaaDoorUmG
import Derived.Test.YtbameklegpgkfaaDoorX24
import Derived.Test.YtbameklegpgkfaaDoorX18
import Derived.Test.YtbameklegpgkfaaDoorX6
import Derived.Test.YtbameklegpgkfaaDoorX4
import Derived.Test.YtbameklegpgkfaaDoorX28
import Derived.Test.YtbameklegpgkfaaDoorX5
set_option linter.unusedSimpArgs false
set_option linter.unusedVariables false
set_option linter.defProp false
namespace Go.Proofs.YtbameklegpgkfaaDoor
open Go Go.Vm

set_option maxHeartbeats 1000000 in
theorem drawKeepsRules_con (code : List Int) (hcode : ∀ x ∈ code, 0 ≤ x ∧ x ≤ 255) (hcl : code.length ≤ 9223372036854775807) : ConX Tryd.prog 72 [.sl (code.map (V.int .u8))] [] (fun r O' => ∃ (l : List (List Int)) (kk : Nat) (p m rr : Int), ((l.length ≤ 22 ∧ ∀ x ∈ l, x.length ≤ 9) ∧ (0 ≤ p ∧ p ≤ 10) ∧ (0 ≤ m ∧ m ≤ 22) ∧ (-1 ≤ rr ∧ rr ≤ 6)) ∧ r = .tup [.ref 0, .agg [.int .i64 p, .int .i64 m, .int .i64 rr]] ∧ O' = [.arr (l.map (fun l : List Int => V.sl (l.map (V.int .i64)))) (fillK kk)]) := by
 refine v_conX [.tmp 2, .cell 3 25] [(143, [0]), (75, [0]), (145, [0]), (146, [0])] Tryd.func72 rfl rfl rfl (by simp [Tryd.ntmps72]) ?_
 intro Q0 n0 r0
 simp only [Tryd.ntmps72, envFrom, Nat.reduceAdd]
 have T := Tys.mk (And.intro Ty.t3 (And.intro Ty.t4 (And.intro Ty.t5 (And.intro Ty.t22 (And.intro Ty.t23 (And.intro Ty.t25 (And.intro Ty.t36 (And.intro Ty.t95 (And.intro Ty.t96 Ty.t98)))))))))
 have F := Fc.mk True.intro
 refine v_seqR [0,3] ?_; intro K1 k1
 refine zAssign ⟨?_⟩
 refine zAlloc ⟨?_⟩
 refine k1 _ ?_
 refine zk ⟨?_⟩
 refine v_seqR [3,4] ?_; intro K2 k2
 refine zMove ⟨?_⟩
 refine zBuild ⟨?_⟩
 refine zBox ⟨?_⟩
 refine zAssign ⟨?_⟩
 refine k2 _ ?_
 refine zk ⟨?_⟩
 refine v_seqR [3,4,5] ?_; intro K3 k3
 refine zMove ⟨?_⟩
 refine v_op ?_; intro K k
 simp only [zE, zM, aStepM, optable, set_some, Nat.reduceEqDiff, reduceIte, Nat.reduceLT, implies_true, forall_const, reduceCtorEq, V.ofValue, V.ofScalar, V.un, V.gd, aExec, lentIds, lendOf, ‹Tys _›.h, ‹Fc _›.h]
 repeat (refine andC ?_)
 refine aCall_lentXA (duty_con code 0 0 hcode hcl (by omega)) ?_
 rintro _ _ ⟨p12, m12, r12, a12, s12, h12, k12, rfl, rfl⟩
 refine ⟨_, _, rfl, by first | exact .inr (List.all_eq_true.1 rfl) | exact .inl ⟨rfl, by simp [Blk.kindIs, fillK_fd]⟩, ?_⟩
 refine k _ ?_; clear k K
 simp only [zY, zW, set_some, Nat.reduceEqDiff, reduceIte, rho_one, rho_s, rho2_s, rho2_0, rho2_1, V.ren, V.renL, List.set_cons_zero, List.set_cons_succ, rho, Nat.reduceAdd, Nat.add_zero]
 refine zAlloc ⟨?_⟩
 refine zStore ⟨?_⟩
 refine k3 _ ?_
 refine zk ⟨?_⟩
 refine v_seq ?_; intro Q4 n4 e4 r4
 refine v_seqR [3,4,5,18] ?_; intro K5 k5
 refine zLoad ⟨?_⟩
 refine zc (duGood_con p12 m12 r12) ⟨?_⟩
 refine zMove ⟨?_⟩
 refine zgMove ⟨?_⟩
 refine v_opG ?_; intro K k
 apply aStep_guardX (id := 2) 2 true (hc := fun hG => one_con code a12 s12 (2) hcode hcl (by omega))
 ·exact (show 17 < 39 by decide)
 ·rfl
 ·first | rfl | (simp only [zV, guardV, Nat.reduceEqDiff, reduceIte]; done)
 ·intro hG F hF; simp only [zE, zM, aStepM, optable, set_some, Nat.reduceEqDiff, reduceIte, Nat.reduceLT, implies_true, forall_const, reduceCtorEq, V.ofValue, V.ofScalar, V.un, V.gd, aExec, lentIds, lendOf, ‹Tys _›.h, ‹Fc _›.h]; first | exact hF | exact ⟨by simpa using hG, hF⟩ | (refine ⟨?_, hF⟩; simp_all; done)
 ·exact ⟨_, true, a12, s12, trivial, by omega, rfl, rfl⟩
 ·rfl
 ·rfl
 ·exact ⟨by simp [Blk.kindIs, fillK_mix], by simp⟩
 ·exact .inl rfl
 rintro _ _ ⟨v17, a17, s17, h17, k17, rfl, rfl⟩
 refine ⟨_, rfl, ⟨rfl, rfl, by simp [Blk.kindIs, fillK_mix], .inr (List.all_eq_true.1 rfl)⟩, ?_⟩
 refine k _ ?_; clear k K
 simp only [zW, set_some, Nat.reduceEqDiff, reduceIte, List.set_cons_zero, List.set_cons_succ]
 refine zPick ⟨?_⟩
 refine k5 _ ?_
 refine zk ⟨?_⟩
 refine v_condS _ rfl ?_ ?_
 ·intro hc0
  have hdg : dutyB p12 m12 r12 = true := by first | (simp at hc0; exact hc0.1) | exact hc0.1
  have hdi := duty_in hdg
  refine v_seq ?_; intro Q7 n7 e7 r7
  refine v_draw (by kernel_rfl) ?_; intro K8 q8 k8
  show aAny _ _ _ _ 9 (Array.replicate 9 false) _
  refine zdMove q8 true 0 20 ?_
  refine aAny_two 1 2 rfl rfl (by kernel_rfl) ?_ ?_
  ·intro K k
   skip
   simp only [zE, zM, aStepM, optable, set_some, Nat.reduceEqDiff, reduceIte, Nat.reduceLT, implies_true, forall_const, reduceCtorEq, V.ofValue, V.ofScalar, V.un, V.gd, aExec, lentIds, lendOf, ‹Tys _›.h, ‹Fc _›.h]
   repeat (refine andC ?_)
   refine aCall_lentXA (needs_con code a17 s17 hcode hcl (by omega)) ?_
   rintro _ _ ⟨v21, a21, s21, h21, k21, rfl, rfl⟩
   refine ⟨_, _, rfl, by first | exact .inr (List.all_eq_true.1 rfl) | exact .inl ⟨rfl, by simp [Blk.kindIs, fillK_fd]⟩, ?_⟩
   refine k _ ?_; clear k K
   simp only [zY, zW, set_some, Nat.reduceEqDiff, reduceIte, rho_one, rho_s, rho2_s, rho2_0, rho2_1, V.ren, V.renL, List.set_cons_zero, List.set_cons_succ, rho, Nat.reduceAdd, Nat.add_zero]
   refine zdLoad q8 true 2 22 ?_
   refine zoc 3 (duMake_con v21 p12 m12 r12 (by omega) ⟨hdi.1, hdi.2.1⟩ hdi.2.2) ⟨?_⟩
   refine zdMove q8 true 4 19 ?_
   refine zdExtract q8 true 5 24 ?_
   refine zdExtract q8 true 6 25 ?_
   refine zoAssign 7 ⟨?_⟩
   refine zoAssign 8 ⟨?_⟩
   refine aAny_done (by kernel_rfl) ?_
   refine k8 _ ?_
   refine n7 _ _ (weak_keep [3, 4, 5, 6, 7] _) ?_
   refine zk ⟨?_⟩
   refine v_seqR [3,4,5,6,31] ?_; intro K9 k9
   refine zMove ⟨?_⟩
   refine zMove ⟨?_⟩
   refine zgMove ⟨?_⟩
   refine zgLen ⟨?_⟩
   refine zgBinOp ⟨?_⟩
   refine zPick ⟨?_⟩
   refine k9 _ ?_
   refine zk ⟨?_⟩
   refine v_condS _ rfl ?_ ?_
   ·intro hc1
    have hmf := mkL_facts (b := m12) (c := r12) ⟨hdi.1, hdi.2.1⟩ v21
    refine v_seq ?_; intro Q11 n11 e11 r11
    refine v_draw (by kernel_rfl) ?_; intro K12 q12 k12
    show aAny _ _ _ _ 4 (Array.replicate 4 false) _
    refine zdMove q12 true 0 32 ?_
    refine zdLoad q12 true 1 33 ?_
    refine zoAssign 2 ⟨?_⟩
    refine zoStore 3 ⟨?_⟩
    refine aAny_done (by kernel_rfl) ?_
    refine k12 _ ?_
    refine n11 _ _ (weak_keep [2, 3] _) ?_
    refine zk ⟨?_⟩
    refine v_ret ?_
    refine r4 _ ?_
    refine r0 _ ?_
    refine zf ⟨?_⟩
    simp only [zE, zL, zO, zN, aStepM, optable, set_some, Nat.reduceEqDiff, reduceIte, Nat.reduceLT, implies_true, forall_const, reduceCtorEq, V.ofValue, V.ofScalar, V.un, V.gd, aLoad, row_mk, Blk.row, PartOK, Go.Vm.part, V.cells, V.noSl, V.noRef, Nat.reduceAdd, Nat.reduceLeDiff, Nat.reduceMul, Tryd.underlying3, Ty.c3, Ty.a3, Tryd.underlying25, Ty.c25, Ty.a25]
    refine ret_viewX ?_
    exact ⟨(mkL p12 m12 r12 v21), (mkL p12 m12 r12 v21).length, p12, m12, r12, ⟨⟨by omega, hmf.2⟩, by omega⟩, rfl, rfl⟩
   ·intro hc1
    refine v_skip ?_
    refine n4 _ _ (weak_keep [3, 4, 5] _) ?_
    refine zk ⟨?_⟩
    refine v_seq ?_; intro Q13 n13 e13 r13
    refine v_draw (by kernel_rfl) ?_; intro K14 q14 k14
    show aAny _ _ _ _ 7 (Array.replicate 7 false) _
    refine zdMove q14 true 0 34 ?_
    refine zdFieldAddr q14 true 1 35 ?_
    refine zdLoad q14 true 2 36 ?_
    refine aAny_two 3 4 rfl rfl (by kernel_rfl) ?_ ?_
    ·intro K k
     skip
     simp only [zE, zM, aStepM, optable, set_some, Nat.reduceEqDiff, reduceIte, Nat.reduceLT, implies_true, forall_const, reduceCtorEq, V.ofValue, V.ofScalar, V.un, V.gd, aExec, lentIds, lendOf, ‹Tys _›.h, ‹Fc _›.h]
     repeat (refine andC ?_)
     refine aCall_lentXA (drawRoster_con code a21 s21 p12 hcode hcl (by omega)) ?_
     rintro _ _ ⟨v37, kk37, a37, s37, h37, k37, rfl, rfl⟩
     refine ⟨_, _, rfl, by first | exact .inr (List.all_eq_true.1 rfl) | exact .inl ⟨rfl, by simp [Blk.kindIs, fillK_fd]⟩, ?_⟩
     refine k _ ?_; clear k K
     simp only [zY, zW, set_some, Nat.reduceEqDiff, reduceIte, rho_one, rho_s, rho2_s, rho2_0, rho2_1, V.ren, V.renL, List.set_cons_zero, List.set_cons_succ, rho, Nat.reduceAdd, Nat.add_zero]
     refine zdLoad q14 true 4 38 ?_
     refine zoAssign 5 ⟨?_⟩
     refine zoStore 6 ⟨?_⟩
     refine aAny_done (by kernel_rfl) ?_
     refine k14 _ ?_
     refine n13 _ _ (weak_keep [2, 3] _) ?_
     refine zk ⟨?_⟩
     refine v_ret ?_
     refine r0 _ ?_
     refine zf ⟨?_⟩
     simp only [zE, zL, zO, zN, aStepM, optable, set_some, Nat.reduceEqDiff, reduceIte, Nat.reduceLT, implies_true, forall_const, reduceCtorEq, V.ofValue, V.ofScalar, V.un, V.gd, aLoad, row_mk, Blk.row, PartOK, Go.Vm.part, V.cells, V.noSl, V.noRef, Nat.reduceAdd, Nat.reduceLeDiff, Nat.reduceMul, Tryd.underlying3, Ty.c3, Ty.a3, Tryd.underlying25, Ty.c25, Ty.a25]
     refine ret_viewX ?_
     exact ⟨v37, kk37, p12, m12, r12, ⟨h37, by omega⟩, rfl, rfl⟩
    ·intro K k
     skip
     simp only [zE, zL, zO, zN, aStepM, optable, set_some, Nat.reduceEqDiff, reduceIte, Nat.reduceLT, implies_true, forall_const, reduceCtorEq, V.ofValue, V.ofScalar, V.un, V.gd, aExec, aop, aLoad, row_mk, Blk.row, PartOK, Go.Vm.part, V.cells, V.noSl, V.noRef, Nat.reduceAdd, Nat.reduceLeDiff, Nat.reduceMul, Tryd.underlying3, Ty.c3, Ty.a3, Tryd.underlying25, Ty.c25, Ty.a25]
     repeat (refine And.intro (by first | omega | (intros; omega) | (intros; simp_all; done) | (intros; simp_all; omega)) ?_)
     refine k _ ?_; clear k K
     refine aAny_only 3 rfl (by kernel_rfl) ?_; intro K k
     simp only [zE, zM, aStepM, optable, set_some, Nat.reduceEqDiff, reduceIte, Nat.reduceLT, implies_true, forall_const, reduceCtorEq, V.ofValue, V.ofScalar, V.un, V.gd, aExec, lentIds, lendOf, ‹Tys _›.h, ‹Fc _›.h]
     repeat (refine andC ?_)
     refine aCall_lentXA (drawRoster_con code a21 s21 p12 hcode hcl (by omega)) ?_
     rintro _ _ ⟨v37, kk37, a37, s37, h37, k37, rfl, rfl⟩
     refine ⟨_, _, rfl, by first | exact .inr (List.all_eq_true.1 rfl) | exact .inl ⟨rfl, by simp [Blk.kindIs, fillK_fd]⟩, ?_⟩
     refine k _ ?_; clear k K
     simp only [zY, zW, set_some, Nat.reduceEqDiff, reduceIte, rho_one, rho_s, rho2_s, rho2_0, rho2_1, V.ren, V.renL, List.set_cons_zero, List.set_cons_succ, rho, Nat.reduceAdd, Nat.add_zero]
     refine zoAssign 5 ⟨?_⟩
     refine zoStore 6 ⟨?_⟩
     refine aAny_done (by kernel_rfl) ?_
     refine k14 _ ?_
     refine n13 _ _ (weak_keep [2, 3] _) ?_
     refine zk ⟨?_⟩
     refine v_ret ?_
     refine r0 _ ?_
     refine zf ⟨?_⟩
     simp only [zE, zL, zO, zN, aStepM, optable, set_some, Nat.reduceEqDiff, reduceIte, Nat.reduceLT, implies_true, forall_const, reduceCtorEq, V.ofValue, V.ofScalar, V.un, V.gd, aLoad, row_mk, Blk.row, PartOK, Go.Vm.part, V.cells, V.noSl, V.noRef, Nat.reduceAdd, Nat.reduceLeDiff, Nat.reduceMul, Tryd.underlying3, Ty.c3, Ty.a3, Tryd.underlying25, Ty.c25, Ty.a25]
     refine ret_viewX ?_
     exact ⟨v37, kk37, p12, m12, r12, ⟨h37, by omega⟩, rfl, rfl⟩
  ·intro K k
   skip
   simp only [zE, zL, zO, zN, aStepM, optable, set_some, Nat.reduceEqDiff, reduceIte, Nat.reduceLT, implies_true, forall_const, reduceCtorEq, V.ofValue, V.ofScalar, V.un, V.gd, aExec, aop, aLoad, row_mk, Blk.row, PartOK, Go.Vm.part, V.cells, V.noSl, V.noRef, Nat.reduceAdd, Nat.reduceLeDiff, Nat.reduceMul, Tryd.underlying3, Ty.c3, Ty.a3, Tryd.underlying25, Ty.c25, Ty.a25]
   repeat (refine And.intro (by first | omega | (intros; omega) | (intros; simp_all; done) | (intros; simp_all; omega)) ?_)
   refine k _ ?_; clear k K
   refine aAny_only 1 rfl (by kernel_rfl) ?_; intro K k
   simp only [zE, zM, aStepM, optable, set_some, Nat.reduceEqDiff, reduceIte, Nat.reduceLT, implies_true, forall_const, reduceCtorEq, V.ofValue, V.ofScalar, V.un, V.gd, aExec, lentIds, lendOf, ‹Tys _›.h, ‹Fc _›.h]
   repeat (refine andC ?_)
   refine aCall_lentXA (needs_con code a17 s17 hcode hcl (by omega)) ?_
   rintro _ _ ⟨v21, a21, s21, h21, k21, rfl, rfl⟩
   refine ⟨_, _, rfl, by first | exact .inr (List.all_eq_true.1 rfl) | exact .inl ⟨rfl, by simp [Blk.kindIs, fillK_fd]⟩, ?_⟩
   refine k _ ?_; clear k K
   simp only [zY, zW, set_some, Nat.reduceEqDiff, reduceIte, rho_one, rho_s, rho2_s, rho2_0, rho2_1, V.ren, V.renL, List.set_cons_zero, List.set_cons_succ, rho, Nat.reduceAdd, Nat.add_zero]
   refine zoc 3 (duMake_con v21 p12 m12 r12 (by omega) ⟨hdi.1, hdi.2.1⟩ hdi.2.2) ⟨?_⟩
   refine zdMove q8 true 4 19 ?_
   refine zdExtract q8 true 5 24 ?_
   refine zdExtract q8 true 6 25 ?_
   refine zoAssign 7 ⟨?_⟩
   refine zoAssign 8 ⟨?_⟩
   refine aAny_done (by kernel_rfl) ?_
   refine k8 _ ?_
   refine n7 _ _ (weak_keep [3, 4, 5, 6, 7] _) ?_
   refine zk ⟨?_⟩
   refine v_seqR [3,4,5,6,31] ?_; intro K15 k15
   refine zMove ⟨?_⟩
   refine zMove ⟨?_⟩
   refine zgMove ⟨?_⟩
   refine zgLen ⟨?_⟩
   refine zgBinOp ⟨?_⟩
   refine zPick ⟨?_⟩
   refine k15 _ ?_
   refine zk ⟨?_⟩
   refine v_condS _ rfl ?_ ?_
   ·intro hc1
    have hmf := mkL_facts (b := m12) (c := r12) ⟨hdi.1, hdi.2.1⟩ v21
    refine v_seq ?_; intro Q17 n17 e17 r17
    refine v_draw (by kernel_rfl) ?_; intro K18 q18 k18
    show aAny _ _ _ _ 4 (Array.replicate 4 false) _
    refine zdMove q18 true 0 32 ?_
    refine zdLoad q18 true 1 33 ?_
    refine zoAssign 2 ⟨?_⟩
    refine zoStore 3 ⟨?_⟩
    refine aAny_done (by kernel_rfl) ?_
    refine k18 _ ?_
    refine n17 _ _ (weak_keep [2, 3] _) ?_
    refine zk ⟨?_⟩
    refine v_ret ?_
    refine r4 _ ?_
    refine r0 _ ?_
    refine zf ⟨?_⟩
    simp only [zE, zL, zO, zN, aStepM, optable, set_some, Nat.reduceEqDiff, reduceIte, Nat.reduceLT, implies_true, forall_const, reduceCtorEq, V.ofValue, V.ofScalar, V.un, V.gd, aLoad, row_mk, Blk.row, PartOK, Go.Vm.part, V.cells, V.noSl, V.noRef, Nat.reduceAdd, Nat.reduceLeDiff, Nat.reduceMul, Tryd.underlying3, Ty.c3, Ty.a3, Tryd.underlying25, Ty.c25, Ty.a25]
    refine ret_viewX ?_
    exact ⟨(mkL p12 m12 r12 v21), (mkL p12 m12 r12 v21).length, p12, m12, r12, ⟨⟨by omega, hmf.2⟩, by omega⟩, rfl, rfl⟩
   ·intro hc1
    refine v_skip ?_
    refine n4 _ _ (weak_keep [3, 4, 5] _) ?_
    refine zk ⟨?_⟩
    refine v_seq ?_; intro Q19 n19 e19 r19
    refine v_draw (by kernel_rfl) ?_; intro K20 q20 k20
    show aAny _ _ _ _ 7 (Array.replicate 7 false) _
    refine zdMove q20 true 0 34 ?_
    refine zdFieldAddr q20 true 1 35 ?_
    refine zdLoad q20 true 2 36 ?_
    refine aAny_two 3 4 rfl rfl (by kernel_rfl) ?_ ?_
    ·intro K k
     skip
     simp only [zE, zM, aStepM, optable, set_some, Nat.reduceEqDiff, reduceIte, Nat.reduceLT, implies_true, forall_const, reduceCtorEq, V.ofValue, V.ofScalar, V.un, V.gd, aExec, lentIds, lendOf, ‹Tys _›.h, ‹Fc _›.h]
     repeat (refine andC ?_)
     refine aCall_lentXA (drawRoster_con code a21 s21 p12 hcode hcl (by omega)) ?_
     rintro _ _ ⟨v37, kk37, a37, s37, h37, k37, rfl, rfl⟩
     refine ⟨_, _, rfl, by first | exact .inr (List.all_eq_true.1 rfl) | exact .inl ⟨rfl, by simp [Blk.kindIs, fillK_fd]⟩, ?_⟩
     refine k _ ?_; clear k K
     simp only [zY, zW, set_some, Nat.reduceEqDiff, reduceIte, rho_one, rho_s, rho2_s, rho2_0, rho2_1, V.ren, V.renL, List.set_cons_zero, List.set_cons_succ, rho, Nat.reduceAdd, Nat.add_zero]
     refine zdLoad q20 true 4 38 ?_
     refine zoAssign 5 ⟨?_⟩
     refine zoStore 6 ⟨?_⟩
     refine aAny_done (by kernel_rfl) ?_
     refine k20 _ ?_
     refine n19 _ _ (weak_keep [2, 3] _) ?_
     refine zk ⟨?_⟩
     refine v_ret ?_
     refine r0 _ ?_
     refine zf ⟨?_⟩
     simp only [zE, zL, zO, zN, aStepM, optable, set_some, Nat.reduceEqDiff, reduceIte, Nat.reduceLT, implies_true, forall_const, reduceCtorEq, V.ofValue, V.ofScalar, V.un, V.gd, aLoad, row_mk, Blk.row, PartOK, Go.Vm.part, V.cells, V.noSl, V.noRef, Nat.reduceAdd, Nat.reduceLeDiff, Nat.reduceMul, Tryd.underlying3, Ty.c3, Ty.a3, Tryd.underlying25, Ty.c25, Ty.a25]
     refine ret_viewX ?_
     exact ⟨v37, kk37, p12, m12, r12, ⟨h37, by omega⟩, rfl, rfl⟩
    ·intro K k
     skip
     simp only [zE, zL, zO, zN, aStepM, optable, set_some, Nat.reduceEqDiff, reduceIte, Nat.reduceLT, implies_true, forall_const, reduceCtorEq, V.ofValue, V.ofScalar, V.un, V.gd, aExec, aop, aLoad, row_mk, Blk.row, PartOK, Go.Vm.part, V.cells, V.noSl, V.noRef, Nat.reduceAdd, Nat.reduceLeDiff, Nat.reduceMul, Tryd.underlying3, Ty.c3, Ty.a3, Tryd.underlying25, Ty.c25, Ty.a25]
     repeat (refine And.intro (by first | omega | (intros; omega) | (intros; simp_all; done) | (intros; simp_all; omega)) ?_)
     refine k _ ?_; clear k K
     refine aAny_only 3 rfl (by kernel_rfl) ?_; intro K k
     simp only [zE, zM, aStepM, optable, set_some, Nat.reduceEqDiff, reduceIte, Nat.reduceLT, implies_true, forall_const, reduceCtorEq, V.ofValue, V.ofScalar, V.un, V.gd, aExec, lentIds, lendOf, ‹Tys _›.h, ‹Fc _›.h]
     repeat (refine andC ?_)
     refine aCall_lentXA (drawRoster_con code a21 s21 p12 hcode hcl (by omega)) ?_
     rintro _ _ ⟨v37, kk37, a37, s37, h37, k37, rfl, rfl⟩
     refine ⟨_, _, rfl, by first | exact .inr (List.all_eq_true.1 rfl) | exact .inl ⟨rfl, by simp [Blk.kindIs, fillK_fd]⟩, ?_⟩
     refine k _ ?_; clear k K
     simp only [zY, zW, set_some, Nat.reduceEqDiff, reduceIte, rho_one, rho_s, rho2_s, rho2_0, rho2_1, V.ren, V.renL, List.set_cons_zero, List.set_cons_succ, rho, Nat.reduceAdd, Nat.add_zero]
     refine zoAssign 5 ⟨?_⟩
     refine zoStore 6 ⟨?_⟩
     refine aAny_done (by kernel_rfl) ?_
     refine k20 _ ?_
     refine n19 _ _ (weak_keep [2, 3] _) ?_
     refine zk ⟨?_⟩
     refine v_ret ?_
     refine r0 _ ?_
     refine zf ⟨?_⟩
     simp only [zE, zL, zO, zN, aStepM, optable, set_some, Nat.reduceEqDiff, reduceIte, Nat.reduceLT, implies_true, forall_const, reduceCtorEq, V.ofValue, V.ofScalar, V.un, V.gd, aLoad, row_mk, Blk.row, PartOK, Go.Vm.part, V.cells, V.noSl, V.noRef, Nat.reduceAdd, Nat.reduceLeDiff, Nat.reduceMul, Tryd.underlying3, Ty.c3, Ty.a3, Tryd.underlying25, Ty.c25, Ty.a25]
     refine ret_viewX ?_
     exact ⟨v37, kk37, p12, m12, r12, ⟨h37, by omega⟩, rfl, rfl⟩
 ·intro hc0
  refine v_skip ?_
  refine n4 _ _ (weak_keep [3, 4, 5] _) ?_
  refine zk ⟨?_⟩
  refine v_seq ?_; intro Q21 n21 e21 r21
  refine v_draw (by kernel_rfl) ?_; intro K22 q22 k22
  show aAny _ _ _ _ 7 (Array.replicate 7 false) _
  refine zdMove q22 true 0 34 ?_
  refine zdFieldAddr q22 true 1 35 ?_
  refine zdLoad q22 true 2 36 ?_
  refine aAny_two 3 4 rfl rfl (by kernel_rfl) ?_ ?_
  ·intro K k
   skip
   simp only [zE, zM, aStepM, optable, set_some, Nat.reduceEqDiff, reduceIte, Nat.reduceLT, implies_true, forall_const, reduceCtorEq, V.ofValue, V.ofScalar, V.un, V.gd, aExec, lentIds, lendOf, ‹Tys _›.h, ‹Fc _›.h]
   repeat (refine andC ?_)
   refine aCall_lentXA (drawRoster_con code a17 s17 p12 hcode hcl (by omega)) ?_
   rintro _ _ ⟨v37, kk37, a37, s37, h37, k37, rfl, rfl⟩
   refine ⟨_, _, rfl, by first | exact .inr (List.all_eq_true.1 rfl) | exact .inl ⟨rfl, by simp [Blk.kindIs, fillK_fd]⟩, ?_⟩
   refine k _ ?_; clear k K
   simp only [zY, zW, set_some, Nat.reduceEqDiff, reduceIte, rho_one, rho_s, rho2_s, rho2_0, rho2_1, V.ren, V.renL, List.set_cons_zero, List.set_cons_succ, rho, Nat.reduceAdd, Nat.add_zero]
   refine zdLoad q22 true 4 38 ?_
   refine zoAssign 5 ⟨?_⟩
   refine zoStore 6 ⟨?_⟩
   refine aAny_done (by kernel_rfl) ?_
   refine k22 _ ?_
   refine n21 _ _ (weak_keep [2, 3] _) ?_
   refine zk ⟨?_⟩
   refine v_ret ?_
   refine r0 _ ?_
   refine zf ⟨?_⟩
   simp only [zE, zL, zO, zN, aStepM, optable, set_some, Nat.reduceEqDiff, reduceIte, Nat.reduceLT, implies_true, forall_const, reduceCtorEq, V.ofValue, V.ofScalar, V.un, V.gd, aLoad, row_mk, Blk.row, PartOK, Go.Vm.part, V.cells, V.noSl, V.noRef, Nat.reduceAdd, Nat.reduceLeDiff, Nat.reduceMul, Tryd.underlying3, Ty.c3, Ty.a3, Tryd.underlying25, Ty.c25, Ty.a25]
   refine ret_viewX ?_
   exact ⟨v37, kk37, p12, m12, r12, ⟨h37, by omega⟩, rfl, rfl⟩
  ·intro K k
   skip
   simp only [zE, zL, zO, zN, aStepM, optable, set_some, Nat.reduceEqDiff, reduceIte, Nat.reduceLT, implies_true, forall_const, reduceCtorEq, V.ofValue, V.ofScalar, V.un, V.gd, aExec, aop, aLoad, row_mk, Blk.row, PartOK, Go.Vm.part, V.cells, V.noSl, V.noRef, Nat.reduceAdd, Nat.reduceLeDiff, Nat.reduceMul, Tryd.underlying3, Ty.c3, Ty.a3, Tryd.underlying25, Ty.c25, Ty.a25]
   repeat (refine And.intro (by first | omega | (intros; omega) | (intros; simp_all; done) | (intros; simp_all; omega)) ?_)
   refine k _ ?_; clear k K
   refine aAny_only 3 rfl (by kernel_rfl) ?_; intro K k
   simp only [zE, zM, aStepM, optable, set_some, Nat.reduceEqDiff, reduceIte, Nat.reduceLT, implies_true, forall_const, reduceCtorEq, V.ofValue, V.ofScalar, V.un, V.gd, aExec, lentIds, lendOf, ‹Tys _›.h, ‹Fc _›.h]
   repeat (refine andC ?_)
   refine aCall_lentXA (drawRoster_con code a17 s17 p12 hcode hcl (by omega)) ?_
   rintro _ _ ⟨v37, kk37, a37, s37, h37, k37, rfl, rfl⟩
   refine ⟨_, _, rfl, by first | exact .inr (List.all_eq_true.1 rfl) | exact .inl ⟨rfl, by simp [Blk.kindIs, fillK_fd]⟩, ?_⟩
   refine k _ ?_; clear k K
   simp only [zY, zW, set_some, Nat.reduceEqDiff, reduceIte, rho_one, rho_s, rho2_s, rho2_0, rho2_1, V.ren, V.renL, List.set_cons_zero, List.set_cons_succ, rho, Nat.reduceAdd, Nat.add_zero]
   refine zoAssign 5 ⟨?_⟩
   refine zoStore 6 ⟨?_⟩
   refine aAny_done (by kernel_rfl) ?_
   refine k22 _ ?_
   refine n21 _ _ (weak_keep [2, 3] _) ?_
   refine zk ⟨?_⟩
   refine v_ret ?_
   refine r0 _ ?_
   refine zf ⟨?_⟩
   simp only [zE, zL, zO, zN, aStepM, optable, set_some, Nat.reduceEqDiff, reduceIte, Nat.reduceLT, implies_true, forall_const, reduceCtorEq, V.ofValue, V.ofScalar, V.un, V.gd, aLoad, row_mk, Blk.row, PartOK, Go.Vm.part, V.cells, V.noSl, V.noRef, Nat.reduceAdd, Nat.reduceLeDiff, Nat.reduceMul, Tryd.underlying3, Ty.c3, Ty.a3, Tryd.underlying25, Ty.c25, Ty.a25]
   refine ret_viewX ?_
   exact ⟨v37, kk37, p12, m12, r12, ⟨h37, by omega⟩, rfl, rfl⟩
set_option maxHeartbeats 1000000 in
theorem drawShiftsOf_con (code : List Int) (hcode : ∀ x ∈ code, 0 ≤ x ∧ x ≤ 255) (hcl : code.length ≤ 9223372036854775807) : ConX Tryd.prog 13 [.sl (code.map (V.int .u8))] [] (fun r O' => ∃ (l : List (List Int)) (kk : Nat) (n : Int), (l.length ≤ 22 ∧ (∀ x ∈ l, x.length ≤ 9) ∧ (-1 ≤ n ∧ n ≤ 10)) ∧ r = .tup [.ref 0, .int .i64 n] ∧ O' = [.arr (l.map (fun l : List Int => V.sl (l.map (V.int .i64)))) (fillK kk)]) := by
 refine v_conX [.tmp 2, .tmp 3] [] Tryd.func13 rfl rfl rfl (by simp [Tryd.ntmps13]) ?_
 intro Q0 n0 r0
 simp only [Tryd.ntmps13, envFrom, Nat.reduceAdd]
 have T := Tys.mk (And.intro Ty.t5 Ty.t22)
 have F := Fc.mk True.intro
 refine v_seqR [0] ?_; intro K1 k1
 refine zAssign ⟨?_⟩
 refine zAssign ⟨?_⟩
 refine k1 _ ?_
 refine zk ⟨?_⟩
 refine v_seqR [2,3] ?_; intro K2 k2
 refine zMove ⟨?_⟩
 refine v_op ?_; intro K k
 simp only [zE, zM, aStepM, optable, set_some, Nat.reduceEqDiff, reduceIte, Nat.reduceLT, implies_true, forall_const, reduceCtorEq, V.ofValue, V.ofScalar, V.un, V.gd, aExec, lentIds, lendOf, ‹Tys _›.h, ‹Fc _›.h]
 repeat (refine andC ?_)
 refine aCall_newXA (drawIsRoster_con code hcode hcl) ?_
 rintro _ _ ⟨l, kk, n, ⟨hq1, hq2, hq3⟩, rfl, rfl⟩
 refine ⟨by first | exact .inl ⟨rfl, by simp [Blk.kindIs, fillK_fd]⟩ | exact .inr (by simp [V.coldIn, V.cold, idx]), ?_⟩
 refine k _ ?_; clear k K
 simp only [zY, zW, set_some, Nat.reduceEqDiff, reduceIte, rho_one, rho_s, V.ren, V.renL, List.set_cons_zero, List.set_cons_succ, rho, Nat.reduceAdd, Nat.add_zero]
 refine zExtract ⟨?_⟩
 refine zExtract ⟨?_⟩
 refine zAssign ⟨?_⟩
 refine zAssign ⟨?_⟩
 refine k2 _ ?_
 refine zk ⟨?_⟩
 refine v_ret ?_
 refine r0 _ ?_
 refine zf ⟨?_⟩
 refine ret_viewX ?_
 exact ⟨l, kk, n, ⟨hq1, hq2, hq3⟩, rfl, rfl⟩
set_option maxHeartbeats 8000000 in
theorem drawExchangeShifts_con (code : List Int) (hcode : ∀ x ∈ code, 0 ≤ x ∧ x ≤ 255) (hcl : code.length ≤ 9223372036854775807) : ConX Tryd.prog 6 [.sl (code.map (V.int .u8))] [] (fun r O' => ∃ (l : List (List Int)) (p m rr ea eb ei ek : Int), ((l.length ≤ 22 ∧ ∀ x ∈ l, x.length ≤ 9) ∧ (0 ≤ p ∧ p ≤ 10) ∧ (0 ≤ m ∧ m ≤ 22) ∧ (-1 ≤ rr ∧ rr ≤ 6)) ∧ r = .tup [.sl (l.map (fun l : List Int => V.sl (l.map (V.int .i64)))), .agg [.int .i64 p, .int .i64 m, .int .i64 rr], .int .i64 ea, .int .i64 eb, .int .i64 ei, .int .i64 ek] ∧ O' = []) := by
 refine v_conX [.tmp 2, .cell 3 25, .tmp 4, .tmp 5, .tmp 6, .tmp 7] [(76, [0, 1]), (73, [0]), (75, [0])] Tryd.func6 rfl rfl rfl (by simp [Tryd.ntmps6]) ?_
 intro Q0 n0 r0
 simp only [Tryd.ntmps6, envFrom, Nat.reduceAdd]
 have T := Tys.mk (And.intro Ty.t3 (And.intro Ty.t4 (And.intro Ty.t5 (And.intro Ty.t22 (And.intro Ty.t23 (And.intro Ty.t25 (And.intro Ty.t36 (And.intro Ty.t95 (And.intro Ty.t96 Ty.t98)))))))))
 have F := Fc.mk True.intro
 refine v_seqR [0,3] ?_; intro K1 k1
 refine zAssign ⟨?_⟩
 refine zAlloc ⟨?_⟩
 refine zAssign ⟨?_⟩
 refine zAssign ⟨?_⟩
 refine zAssign ⟨?_⟩
 refine zAssign ⟨?_⟩
 refine k1 _ ?_
 refine zk ⟨?_⟩
 refine v_seqR [0,3,8] ?_; intro K2 k2
 refine zMove ⟨?_⟩
 refine zBuild ⟨?_⟩
 refine zBox ⟨?_⟩
 refine zAssign ⟨?_⟩
 refine k2 _ ?_
 refine zk ⟨?_⟩
 refine v_seq ?_; intro Q3 n3 e3 r3
 refine v_region ?_; intro K4 k4
 refine zMove ⟨?_⟩
 refine v_op ?_; intro K k
 simp only [zE, zM, aStepM, optable, set_some, Nat.reduceEqDiff, reduceIte, Nat.reduceLT, implies_true, forall_const, reduceCtorEq, V.ofValue, V.ofScalar, V.un, V.gd, aExec, lentIds, lendOf, ‹Tys _›.h, ‹Fc _›.h]
 repeat (refine andC ?_)
 refine aCall_newXA (drawKeepsRules_con code hcode hcl) ?_
 rintro _ _ ⟨l, kk, p, m, rr, ⟨hq1, hq2⟩, rfl, rfl⟩
 refine ⟨by first | exact .inl ⟨rfl, by simp [Blk.kindIs, fillK_fd]⟩ | exact .inr (by simp [V.coldIn, V.cold, idx]), ?_⟩
 refine k _ ?_; clear k K
 simp only [zY, zW, set_some, Nat.reduceEqDiff, reduceIte, rho_one, rho_s, V.ren, V.renL, List.set_cons_zero, List.set_cons_succ, rho, Nat.reduceAdd, Nat.add_zero]
 refine zMove ⟨?_⟩
 refine zExtract ⟨?_⟩
 refine zExtract ⟨?_⟩
 refine zAlloc ⟨?_⟩
 refine zAssign ⟨?_⟩
 refine zStore ⟨?_⟩
 refine k4 _ ?_
 apply n3
 ·apply weak_trans (weak_keep [3, 8, 9, 10] _)
  simp only [keep_mk, keepE_nil, keepE_cons, look_cons, look_nil, Nat.reduceEqDiff, reduceIte]
  exact weak_giveup 9 3 (l.map (fun l : List Int => V.sl (l.map (V.int .i64)))) (fillK kk) rfl rfl ((fillK_or kk).imp (fun z => z) .inl)
 try simp only [atSlot_cons, atSlot_nil, Nat.reduceEqDiff, reduceIte, List.set_cons_zero, List.set_cons_succ]
 refine v_seqR [3,8,9,10,11,12] ?_; intro K5 k5
 refine zMove ⟨?_⟩
 refine zMove ⟨?_⟩
 refine zLen ⟨?_⟩
 refine zc (l1Most_con 1 (l.length : Int)) ⟨?_⟩
 refine v_op ?_; intro K k
 simp only [zE, zM, aStepM, optable, set_some, Nat.reduceEqDiff, reduceIte, Nat.reduceLT, implies_true, forall_const, reduceCtorEq, V.ofValue, V.ofScalar, V.un, V.gd, aExec, lentIds, lendOf, ‹Tys _›.h, ‹Fc _›.h]
 repeat (refine andC ?_)
 refine aCall_lentXA (pick_con code 0 0 ((if (l.length : Int) > 1 then (l.length : Int) else 1)) hcode hcl (by omega)) ?_
 rintro _ _ ⟨v27, a27, s27, h27, k27, rfl, rfl⟩
 refine ⟨_, _, rfl, by first | exact .inr (List.all_eq_true.1 rfl) | exact .inl ⟨rfl, by simp [Blk.kindIs, fillK_fd]⟩, ?_⟩
 refine k _ ?_; clear k K
 simp only [zY, zW, set_some, Nat.reduceEqDiff, reduceIte, rho_one, rho_s, rho2_s, rho2_0, rho2_1, V.ren, V.renL, List.set_cons_zero, List.set_cons_succ, rho, Nat.reduceAdd, Nat.add_zero]
 refine zMove ⟨?_⟩
 refine zMove ⟨?_⟩
 refine zLen ⟨?_⟩
 refine zc (l1Most_con 1 (l.length : Int)) ⟨?_⟩
 refine v_op ?_; intro K k
 simp only [zE, zM, aStepM, optable, set_some, Nat.reduceEqDiff, reduceIte, Nat.reduceLT, implies_true, forall_const, reduceCtorEq, V.ofValue, V.ofScalar, V.un, V.gd, aExec, lentIds, lendOf, ‹Tys _›.h, ‹Fc _›.h]
 repeat (refine andC ?_)
 refine aCall_lentXA (pick_con code a27 s27 ((if (l.length : Int) > 1 then (l.length : Int) else 1)) hcode hcl (by omega)) ?_
 rintro _ _ ⟨v32, a32, s32, h32, k32, rfl, rfl⟩
 refine ⟨_, _, rfl, by first | exact .inr (List.all_eq_true.1 rfl) | exact .inl ⟨rfl, by simp [Blk.kindIs, fillK_fd]⟩, ?_⟩
 refine k _ ?_; clear k K
 simp only [zY, zW, set_some, Nat.reduceEqDiff, reduceIte, rho_one, rho_s, rho2_s, rho2_0, rho2_1, V.ren, V.renL, List.set_cons_zero, List.set_cons_succ, rho, Nat.reduceAdd, Nat.add_zero]
 refine zAssign ⟨?_⟩
 refine zAssign ⟨?_⟩
 refine k5 _ ?_
 refine zk ⟨?_⟩
 refine v_join (A := Int × Int × Int × Int × Int × Int) (fun j4 => ⟨[(3, .ptr 0 0 0), (8, .ptr 1 0 0), (9, .sl (l.map (fun l : List Int => V.sl (l.map (V.int .i64))))), (10, .ptr 2 0 0), (11, .int .i64 j4.1), (12, .int .i64 j4.2.1), (13, .int .i64 j4.2.2.1), (14, .int .i64 j4.2.2.2.1)], [.box (.agg [.int .i64 0, .int .i64 0, .int .i64 0]) .flat, .box (.agg [.sl (code.map (V.int .u8)), .int .i64 j4.2.2.2.2.1, .int .u64 j4.2.2.2.2.2]) .shal, .box (.agg [.int .i64 p, .int .i64 m, .int .i64 rr]) .flat], false, 107, 0⟩) (fun j4 => (0 ≤ j4.1 ∧ 0 ≤ j4.2.1) ∧ 0 ≤ j4.2.2.2.2.1 ∧ j4.2.2.2.2.1 ≤ 8) ?_ ?_
 ·intro Q6 n6 e6 r6
  refine v_region ?_; intro K7 k7
  refine zMove ⟨?_⟩
  refine v_op ?_; intro K k
  simp only [zE, zM, aStepM, optable, set_some, Nat.reduceEqDiff, reduceIte, Nat.reduceLT, implies_true, forall_const, reduceCtorEq, V.ofValue, V.ofScalar, V.un, V.gd, aExec, lentIds, lendOf, ‹Tys _›.h, ‹Fc _›.h]
  repeat (refine andC ?_)
  refine aCall_lentXA (pick_con code a32 s32 (6) hcode hcl (by omega)) ?_
  rintro _ _ ⟨v34, a34, s34, h34, k34, rfl, rfl⟩
  refine ⟨_, _, rfl, by first | exact .inr (List.all_eq_true.1 rfl) | exact .inl ⟨rfl, by simp [Blk.kindIs, fillK_fd]⟩, ?_⟩
  refine k _ ?_; clear k K
  simp only [zY, zW, set_some, Nat.reduceEqDiff, reduceIte, rho_one, rho_s, rho2_s, rho2_0, rho2_1, V.ren, V.renL, List.set_cons_zero, List.set_cons_succ, rho, Nat.reduceAdd, Nat.add_zero]
  refine zMove ⟨?_⟩
  refine v_op ?_; intro K k
  simp only [zE, zM, aStepM, optable, set_some, Nat.reduceEqDiff, reduceIte, Nat.reduceLT, implies_true, forall_const, reduceCtorEq, V.ofValue, V.ofScalar, V.un, V.gd, aExec, lentIds, lendOf, ‹Tys _›.h, ‹Fc _›.h]
  repeat (refine andC ?_)
  refine aCall_lentXA (pick_con code a34 s34 (6) hcode hcl (by omega)) ?_
  rintro _ _ ⟨v36, a36, s36, h36, k36, rfl, rfl⟩
  refine ⟨_, _, rfl, by first | exact .inr (List.all_eq_true.1 rfl) | exact .inl ⟨rfl, by simp [Blk.kindIs, fillK_fd]⟩, ?_⟩
  refine k _ ?_; clear k K
  simp only [zY, zW, set_some, Nat.reduceEqDiff, reduceIte, rho_one, rho_s, rho2_s, rho2_0, rho2_1, V.ren, V.renL, List.set_cons_zero, List.set_cons_succ, rho, Nat.reduceAdd, Nat.add_zero]
  refine zAssign ⟨?_⟩
  refine zAssign ⟨?_⟩
  refine k7 _ ?_
  refine n6 (v27, v32, v34, v36, a36, s36) _ ?_ ?_
  ·exact ⟨by show 0 ≤ v27 ∧ 0 ≤ v32; omega, by show 0 ≤ a36 ∧ a36 ≤ 8; omega⟩
  ·refine weak_both [3, 8, 9, 10, 11, 12, 13, 14] [1, 2, 4] (by decide) (by simp) ?_ ?_ ?_
   ·simp [keep_mk, keepE_nil, keepE_cons, look_cons, V.only, V.onlyL, idx] <;> (first | rfl | decide)
   ·simp [Blk.kindIs, fillK_mix]
   simp only [keep_mk, keepE_nil, keepE_cons, look_cons, look_nil, Nat.reduceEqDiff, reduceIte, St.comp, List.map_cons, List.map_nil, V.ren, V.renL, idx, List.getD_cons_zero, List.getD_cons_succ, Nat.reduceBEq, cond_true, cond_false, Option.map_some, Option.getD_some, Nat.reduceAdd, Nat.beq_eq_true_eq]
   all_goals rfl
 ·rintro ⟨ea, eb, ei, ek, a1, s1⟩ hok6
  obtain ⟨hea, ha1⟩ := hok6
  simp only [] at hea ha1 ⊢
  rcases (show (ea < (l.length : Int) ∧ eb < (l.length : Int)) ∨ ¬ (ea < (l.length : Int)) ∨ (ea < (l.length : Int) ∧ ¬ (eb < (l.length : Int))) by omega) with ⟨hA, hB⟩ | hA | ⟨hA, hB⟩
  ·skip
   obtain ⟨la, hla⟩ : ∃ x, l[ea.toNat]? = some x := ⟨l[ea.toNat]'(by omega), List.getElem?_eq_getElem (by omega)⟩
   obtain ⟨lb, hlb⟩ : ∃ x, l[eb.toNat]? = some x := ⟨l[eb.toNat]'(by omega), List.getElem?_eq_getElem (by omega)⟩
   have hlal := hq1.2 la (List.mem_of_getElem? hla)
   have hlbl := hq1.2 lb (List.mem_of_getElem? hlb)
   refine v_join (A := Int × Int × Int × Int × Int × Int) (fun j5 => ⟨[(3, .ptr 0 0 0), (8, .ptr 1 0 0), (9, .sl (l.map (fun l : List Int => V.sl (l.map (V.int .i64))))), (10, .ptr 2 0 0), (11, .int .i64 j5.1), (12, .int .i64 j5.2.1), (13, .int .i64 j5.2.2.1), (14, .int .i64 j5.2.2.2.1)], [.box (.agg [.int .i64 0, .int .i64 0, .int .i64 0]) .flat, .box (.agg [.sl (code.map (V.int .u8)), .int .i64 j5.2.2.2.2.1, .int .u64 j5.2.2.2.2.2]) .shal, .box (.agg [.int .i64 p, .int .i64 m, .int .i64 rr]) .flat], false, 107, 0⟩) (fun j5 => 0 ≤ j5.2.2.2.2.1 ∧ j5.2.2.2.2.1 ≤ 20) ?_ ?_
   ·intro Q8 n8 e8 r8
    refine v_seqR [3,8,9,10,11,12,13,14,67] ?_; intro K9 k9
    have F := Fc.mk (And.intro hA (And.intro hB (And.intro @decide_true (And.intro (fun f => getD_map (f := f) hla) (fun f => getD_map (f := f) hlb)))))
    refine zMove ⟨?_⟩
    refine zMove ⟨?_⟩
    refine zLen ⟨?_⟩
    refine zBinOp ⟨?_⟩
    refine zMove ⟨?_⟩
    refine zgMove ⟨?_⟩
    refine zgMove ⟨?_⟩
    refine zgLen ⟨?_⟩
    refine zgBinOp ⟨?_⟩
    refine zPick ⟨?_⟩
    refine zMove ⟨?_⟩
    refine zgMove ⟨?_⟩
    refine zgMove ⟨?_⟩
    refine zgIndexAddr ⟨?_⟩
    refine zgLoad ⟨?_⟩
    refine zgLen ⟨?_⟩
    refine zgBinOp ⟨?_⟩
    refine zPick ⟨?_⟩
    refine zMove ⟨?_⟩
    refine zgMove ⟨?_⟩
    refine zgMove ⟨?_⟩
    refine zgIndexAddr ⟨?_⟩
    refine zgLoad ⟨?_⟩
    refine zgLen ⟨?_⟩
    refine zgBinOp ⟨?_⟩
    refine zPick ⟨?_⟩
    refine zMove ⟨?_⟩
    refine zgMove ⟨?_⟩
    refine v_opG ?_; intro K k
    apply aStep_guardX (id := 1) 26 true (hc := fun hG => one_con code a1 s1 (4) hcode hcl (by omega))
    ·exact (show 65 < 107 by decide)
    ·rfl
    ·first | rfl | (simp only [zV, guardV, Nat.reduceEqDiff, reduceIte]; done)
    ·intro hG F hF; simp only [zE, zM, aStepM, optable, set_some, Nat.reduceEqDiff, reduceIte, Nat.reduceLT, implies_true, forall_const, reduceCtorEq, V.ofValue, V.ofScalar, V.un, V.gd, aExec, lentIds, lendOf, ‹Tys _›.h, ‹Fc _›.h]; first | exact hF | exact ⟨by simpa using hG, hF⟩ | (refine ⟨?_, hF⟩; simp_all; done)
    ·exact ⟨_, true, a1, s1, trivial, by omega, rfl, rfl⟩
    ·rfl
    ·rfl
    ·exact ⟨by simp [Blk.kindIs, fillK_mix], by simp⟩
    ·exact .inl rfl
    rintro _ _ ⟨v65, a65, s65, h65, k65, rfl, rfl⟩
    refine ⟨_, rfl, ⟨rfl, rfl, by simp [Blk.kindIs, fillK_mix], .inr (List.all_eq_true.1 rfl)⟩, ?_⟩
    refine k _ ?_; clear k K
    simp only [zW, set_some, Nat.reduceEqDiff, reduceIte, List.set_cons_zero, List.set_cons_succ]
    refine zgUnOp ⟨?_⟩
    refine zPick ⟨?_⟩
    refine k9 _ ?_
    refine zk ⟨?_⟩
    refine v_condS _ rfl ?_ ?_
    ·intro hc0
     have hcc : 0 < la.length ∧ 0 < lb.length := by simp at hc0; omega
     refine v_seq ?_; intro Q11 n11 e11 r11
     refine v_draw (by kernel_rfl) ?_; intro K12 q12 k12
     show aAny _ _ _ _ 14 (Array.replicate 14 false) _
     refine zdMove q12 false 0 68 ?_
     refine zdMove q12 false 1 69 ?_
     refine zdMove q12 true 4 72 ?_
     refine zdMove q12 true 5 73 ?_
     refine zdMove q12 true 6 74 ?_
     refine zdIndexAddr q12 true 7 75 ?_
     refine zdLoad q12 true 8 76 ?_
     refine zdLen q12 true 9 77 ?_
     refine aAny_two 2 10 rfl rfl (by kernel_rfl) ?_ ?_
     ·intro K k
      skip
      simp only [zE, zL, zN, aStepM, optable, set_some, Nat.reduceEqDiff, reduceIte, Nat.reduceLT, implies_true, forall_const, reduceCtorEq, V.ofValue, V.ofScalar, V.un, V.gd, aExec, aop, List.mem_cons, List.not_mem_nil, or_false, forall_eq_or_imp, forall_eq, aIndexAddr, row_mk, Blk.row, Go.Vm.V.cells, List.forall_mem_map, List.length_map, Int.toNat_natCast, Int.reduceToNat, TypeDesc.slice.injEq, Nat.reduceAdd, Nat.reduceLeDiff, Nat.reduceMul, Tryd.underlying23, Ty.c23, Ty.a23, Tryd.underlying36, Ty.c36, Ty.a36, hA, hB, decide_true, getD_map hla, getD_map hlb]
      repeat (refine And.intro (by first | omega | (intros; omega) | (intros; simp_all; done) | (intros; simp_all; omega)) ?_)
      refine k _ ?_; clear k K
      refine aAny_two 3 10 rfl rfl (by kernel_rfl) ?_ ?_
      ·intro K k
       skip
       simp only [zE, zL, zO, zN, aStepM, optable, set_some, Nat.reduceEqDiff, reduceIte, Nat.reduceLT, implies_true, forall_const, reduceCtorEq, V.ofValue, V.ofScalar, V.un, V.gd, aExec, aop, aLoad, row_mk, Blk.row, PartOK, Go.Vm.part, V.cells, V.noSl, V.noRef, Nat.reduceAdd, Nat.reduceLeDiff, Nat.reduceMul, Tryd.underlying3, Ty.c3, Ty.a3, Tryd.underlying36, Ty.c36, Ty.a36, hA, hB, getD_map hla, getD_map hlb]
       repeat (refine And.intro (by first | omega | (intros; omega) | (intros; simp_all; done) | (intros; simp_all; omega)) ?_)
       refine k _ ?_; clear k K
       refine aAny_only 10 rfl (by kernel_rfl) ?_; intro K k
       simp only [zE, zM, aStepM, optable, set_some, Nat.reduceEqDiff, reduceIte, Nat.reduceLT, implies_true, forall_const, reduceCtorEq, V.ofValue, V.ofScalar, V.un, V.gd, aExec, lentIds, lendOf, ‹Tys _›.h, ‹Fc _›.h]
       repeat (refine andC ?_)
       refine aCall_lentXA (pick_con code a65 s65 ((la.length : Int)) hcode hcl (by omega)) ?_
       rintro _ _ ⟨v78, a78, s78, h78, k78, rfl, rfl⟩
       obtain ⟨xa, hxa⟩ : ∃ x, la[v78.toNat]? = some x := ⟨la[v78.toNat]'(by omega), List.getElem?_eq_getElem (by omega)⟩
       refine ⟨_, _, rfl, by first | exact .inr (List.all_eq_true.1 rfl) | exact .inl ⟨rfl, by simp [Blk.kindIs, fillK_fd]⟩, ?_⟩
       refine k _ ?_; clear k K
       simp only [zY, zW, set_some, Nat.reduceEqDiff, reduceIte, rho_one, rho_s, rho2_s, rho2_0, rho2_1, V.ren, V.renL, List.set_cons_zero, List.set_cons_succ, rho, Nat.reduceAdd, Nat.add_zero]
       have F := Fc.mk (And.intro hA (And.intro hB (And.intro @decide_true (And.intro (fun f => getD_map (f := f) hla) (And.intro (fun f => getD_map (f := f) hlb) (fun f => getD_map (f := f) hxa))))))
       refine zdIndexAddr q12 true 11 79 ?_
       refine zdLoad q12 true 12 80 ?_
       refine zoAssign 13 ⟨?_⟩
       refine aAny_done (by kernel_rfl) ?_
       refine k12 _ ?_
       refine n11 _ _ (weak_keep [3, 8, 9, 10, 11, 12, 13] _) ?_
       refine zk ⟨?_⟩
       refine v_draw (by kernel_rfl) ?_; intro K13 q13 k13
       show aAny _ _ _ _ 14 (Array.replicate 14 false) _
       refine zdMove q13 false 0 81 ?_
       refine zdMove q13 false 1 82 ?_
       refine zdMove q13 true 4 85 ?_
       refine zdMove q13 true 5 86 ?_
       refine zdMove q13 true 6 87 ?_
       refine zdIndexAddr q13 true 7 88 ?_
       refine zdLoad q13 true 8 89 ?_
       refine zdLen q13 true 9 90 ?_
       refine aAny_two 2 10 rfl rfl (by kernel_rfl) ?_ ?_
       ·intro K k
        skip
        simp only [zE, zL, zN, aStepM, optable, set_some, Nat.reduceEqDiff, reduceIte, Nat.reduceLT, implies_true, forall_const, reduceCtorEq, V.ofValue, V.ofScalar, V.un, V.gd, aExec, aop, List.mem_cons, List.not_mem_nil, or_false, forall_eq_or_imp, forall_eq, aIndexAddr, row_mk, Blk.row, Go.Vm.V.cells, List.forall_mem_map, List.length_map, Int.toNat_natCast, Int.reduceToNat, TypeDesc.slice.injEq, Nat.reduceAdd, Nat.reduceLeDiff, Nat.reduceMul, Tryd.underlying23, Ty.c23, Ty.a23, Tryd.underlying36, Ty.c36, Ty.a36, hA, hB, decide_true, getD_map hla, getD_map hlb, getD_map hxa]
        repeat (refine And.intro (by first | omega | (intros; omega) | (intros; simp_all; done) | (intros; simp_all; omega)) ?_)
        refine k _ ?_; clear k K
        refine aAny_two 3 10 rfl rfl (by kernel_rfl) ?_ ?_
        ·intro K k
         skip
         simp only [zE, zL, zO, zN, aStepM, optable, set_some, Nat.reduceEqDiff, reduceIte, Nat.reduceLT, implies_true, forall_const, reduceCtorEq, V.ofValue, V.ofScalar, V.un, V.gd, aExec, aop, aLoad, row_mk, Blk.row, PartOK, Go.Vm.part, V.cells, V.noSl, V.noRef, Nat.reduceAdd, Nat.reduceLeDiff, Nat.reduceMul, Tryd.underlying3, Ty.c3, Ty.a3, Tryd.underlying36, Ty.c36, Ty.a36, hA, hB, getD_map hla, getD_map hlb, getD_map hxa]
         repeat (refine And.intro (by first | omega | (intros; omega) | (intros; simp_all; done) | (intros; simp_all; omega)) ?_)
         refine k _ ?_; clear k K
         refine aAny_only 10 rfl (by kernel_rfl) ?_; intro K k
         simp only [zE, zM, aStepM, optable, set_some, Nat.reduceEqDiff, reduceIte, Nat.reduceLT, implies_true, forall_const, reduceCtorEq, V.ofValue, V.ofScalar, V.un, V.gd, aExec, lentIds, lendOf, ‹Tys _›.h, ‹Fc _›.h]
         repeat (refine andC ?_)
         refine aCall_lentXA (pick_con code a78 s78 ((lb.length : Int)) hcode hcl (by omega)) ?_
         rintro _ _ ⟨v91, a91, s91, h91, k91, rfl, rfl⟩
         obtain ⟨xb, hxb⟩ : ∃ x, lb[v91.toNat]? = some x := ⟨lb[v91.toNat]'(by omega), List.getElem?_eq_getElem (by omega)⟩
         refine ⟨_, _, rfl, by first | exact .inr (List.all_eq_true.1 rfl) | exact .inl ⟨rfl, by simp [Blk.kindIs, fillK_fd]⟩, ?_⟩
         refine k _ ?_; clear k K
         simp only [zY, zW, set_some, Nat.reduceEqDiff, reduceIte, rho_one, rho_s, rho2_s, rho2_0, rho2_1, V.ren, V.renL, List.set_cons_zero, List.set_cons_succ, rho, Nat.reduceAdd, Nat.add_zero]
         have F := Fc.mk (And.intro hA (And.intro hB (And.intro @decide_true (And.intro (fun f => getD_map (f := f) hla) (And.intro (fun f => getD_map (f := f) hlb) (And.intro (fun f => getD_map (f := f) hxa) (fun f => getD_map (f := f) hxb)))))))
         refine zdIndexAddr q13 true 11 92 ?_
         refine zdLoad q13 true 12 93 ?_
         refine zoAssign 13 ⟨?_⟩
         refine aAny_done (by kernel_rfl) ?_
         refine k13 _ ?_
         refine n8 (ea, eb, xa, xb, a91, s91) _ ?_ ?_
         ·exact (by show 0 ≤ a91 ∧ a91 ≤ 20; omega)
         ·refine weak_both [3, 8, 9, 10, 11, 12, 13, 14] [0, 1, 2] (by decide) (by simp) ?_ ?_ ?_
          ·simp [keep_mk, keepE_nil, keepE_cons, look_cons, V.only, V.onlyL, idx] <;> (first | rfl | decide)
          ·simp [Blk.kindIs, fillK_mix]
          simp only [keep_mk, keepE_nil, keepE_cons, look_cons, look_nil, Nat.reduceEqDiff, reduceIte, St.comp, List.map_cons, List.map_nil, V.ren, V.renL, idx, List.getD_cons_zero, List.getD_cons_succ, Nat.reduceBEq, cond_true, cond_false, Option.map_some, Option.getD_some, Nat.reduceAdd, Nat.beq_eq_true_eq]
          all_goals rfl
        ·intro K k
         skip
         simp only [zE, zM, aStepM, optable, set_some, Nat.reduceEqDiff, reduceIte, Nat.reduceLT, implies_true, forall_const, reduceCtorEq, V.ofValue, V.ofScalar, V.un, V.gd, aExec, lentIds, lendOf, ‹Tys _›.h, ‹Fc _›.h]
         repeat (refine andC ?_)
         refine aCall_lentXA (pick_con code a78 s78 ((lb.length : Int)) hcode hcl (by omega)) ?_
         rintro _ _ ⟨v91, a91, s91, h91, k91, rfl, rfl⟩
         obtain ⟨xb, hxb⟩ : ∃ x, lb[v91.toNat]? = some x := ⟨lb[v91.toNat]'(by omega), List.getElem?_eq_getElem (by omega)⟩
         refine ⟨_, _, rfl, by first | exact .inr (List.all_eq_true.1 rfl) | exact .inl ⟨rfl, by simp [Blk.kindIs, fillK_fd]⟩, ?_⟩
         refine k _ ?_; clear k K
         simp only [zY, zW, set_some, Nat.reduceEqDiff, reduceIte, rho_one, rho_s, rho2_s, rho2_0, rho2_1, V.ren, V.renL, List.set_cons_zero, List.set_cons_succ, rho, Nat.reduceAdd, Nat.add_zero]
         have F := Fc.mk (And.intro hA (And.intro hB (And.intro @decide_true (And.intro (fun f => getD_map (f := f) hla) (And.intro (fun f => getD_map (f := f) hlb) (And.intro (fun f => getD_map (f := f) hxa) (fun f => getD_map (f := f) hxb)))))))
         refine zdLoad q13 true 3 84 ?_
         refine zdIndexAddr q13 true 11 92 ?_
         refine zdLoad q13 true 12 93 ?_
         refine zoAssign 13 ⟨?_⟩
         refine aAny_done (by kernel_rfl) ?_
         refine k13 _ ?_
         refine n8 (ea, eb, xa, xb, a91, s91) _ ?_ ?_
         ·exact (by show 0 ≤ a91 ∧ a91 ≤ 20; omega)
         ·refine weak_both [3, 8, 9, 10, 11, 12, 13, 14] [0, 1, 2] (by decide) (by simp) ?_ ?_ ?_
          ·simp [keep_mk, keepE_nil, keepE_cons, look_cons, V.only, V.onlyL, idx] <;> (first | rfl | decide)
          ·simp [Blk.kindIs, fillK_mix]
          simp only [keep_mk, keepE_nil, keepE_cons, look_cons, look_nil, Nat.reduceEqDiff, reduceIte, St.comp, List.map_cons, List.map_nil, V.ren, V.renL, idx, List.getD_cons_zero, List.getD_cons_succ, Nat.reduceBEq, cond_true, cond_false, Option.map_some, Option.getD_some, Nat.reduceAdd, Nat.beq_eq_true_eq]
          all_goals rfl
       ·intro K k
        skip
        simp only [zE, zM, aStepM, optable, set_some, Nat.reduceEqDiff, reduceIte, Nat.reduceLT, implies_true, forall_const, reduceCtorEq, V.ofValue, V.ofScalar, V.un, V.gd, aExec, lentIds, lendOf, ‹Tys _›.h, ‹Fc _›.h]
        repeat (refine andC ?_)
        refine aCall_lentXA (pick_con code a78 s78 ((lb.length : Int)) hcode hcl (by omega)) ?_
        rintro _ _ ⟨v91, a91, s91, h91, k91, rfl, rfl⟩
        obtain ⟨xb, hxb⟩ : ∃ x, lb[v91.toNat]? = some x := ⟨lb[v91.toNat]'(by omega), List.getElem?_eq_getElem (by omega)⟩
        refine ⟨_, _, rfl, by first | exact .inr (List.all_eq_true.1 rfl) | exact .inl ⟨rfl, by simp [Blk.kindIs, fillK_fd]⟩, ?_⟩
        refine k _ ?_; clear k K
        simp only [zY, zW, set_some, Nat.reduceEqDiff, reduceIte, rho_one, rho_s, rho2_s, rho2_0, rho2_1, V.ren, V.renL, List.set_cons_zero, List.set_cons_succ, rho, Nat.reduceAdd, Nat.add_zero]
        have F := Fc.mk (And.intro hA (And.intro hB (And.intro @decide_true (And.intro (fun f => getD_map (f := f) hla) (And.intro (fun f => getD_map (f := f) hlb) (And.intro (fun f => getD_map (f := f) hxa) (fun f => getD_map (f := f) hxb)))))))
        refine zdIndexAddr q13 true 2 83 ?_
        refine zdLoad q13 true 3 84 ?_
        refine zdIndexAddr q13 true 11 92 ?_
        refine zdLoad q13 true 12 93 ?_
        refine zoAssign 13 ⟨?_⟩
        refine aAny_done (by kernel_rfl) ?_
        refine k13 _ ?_
        refine n8 (ea, eb, xa, xb, a91, s91) _ ?_ ?_
        ·exact (by show 0 ≤ a91 ∧ a91 ≤ 20; omega)
        ·refine weak_both [3, 8, 9, 10, 11, 12, 13, 14] [0, 1, 2] (by decide) (by simp) ?_ ?_ ?_
         ·simp [keep_mk, keepE_nil, keepE_cons, look_cons, V.only, V.onlyL, idx] <;> (first | rfl | decide)
         ·simp [Blk.kindIs, fillK_mix]
         simp only [keep_mk, keepE_nil, keepE_cons, look_cons, look_nil, Nat.reduceEqDiff, reduceIte, St.comp, List.map_cons, List.map_nil, V.ren, V.renL, idx, List.getD_cons_zero, List.getD_cons_succ, Nat.reduceBEq, cond_true, cond_false, Option.map_some, Option.getD_some, Nat.reduceAdd, Nat.beq_eq_true_eq]
         all_goals rfl
      ·intro K k
       skip
       simp only [zE, zM, aStepM, optable, set_some, Nat.reduceEqDiff, reduceIte, Nat.reduceLT, implies_true, forall_const, reduceCtorEq, V.ofValue, V.ofScalar, V.un, V.gd, aExec, lentIds, lendOf, ‹Tys _›.h, ‹Fc _›.h]
       repeat (refine andC ?_)
       refine aCall_lentXA (pick_con code a65 s65 ((la.length : Int)) hcode hcl (by omega)) ?_
       rintro _ _ ⟨v78, a78, s78, h78, k78, rfl, rfl⟩
       obtain ⟨xa, hxa⟩ : ∃ x, la[v78.toNat]? = some x := ⟨la[v78.toNat]'(by omega), List.getElem?_eq_getElem (by omega)⟩
       refine ⟨_, _, rfl, by first | exact .inr (List.all_eq_true.1 rfl) | exact .inl ⟨rfl, by simp [Blk.kindIs, fillK_fd]⟩, ?_⟩
       refine k _ ?_; clear k K
       simp only [zY, zW, set_some, Nat.reduceEqDiff, reduceIte, rho_one, rho_s, rho2_s, rho2_0, rho2_1, V.ren, V.renL, List.set_cons_zero, List.set_cons_succ, rho, Nat.reduceAdd, Nat.add_zero]
       have F := Fc.mk (And.intro hA (And.intro hB (And.intro @decide_true (And.intro (fun f => getD_map (f := f) hla) (And.intro (fun f => getD_map (f := f) hlb) (fun f => getD_map (f := f) hxa))))))
       refine zdLoad q12 true 3 71 ?_
       refine zdIndexAddr q12 true 11 79 ?_
       refine zdLoad q12 true 12 80 ?_
       refine zoAssign 13 ⟨?_⟩
       refine aAny_done (by kernel_rfl) ?_
       refine k12 _ ?_
       refine n11 _ _ (weak_keep [3, 8, 9, 10, 11, 12, 13] _) ?_
       refine zk ⟨?_⟩
       refine v_draw (by kernel_rfl) ?_; intro K14 q14 k14
       show aAny _ _ _ _ 14 (Array.replicate 14 false) _
       refine zdMove q14 false 0 81 ?_
       refine zdMove q14 false 1 82 ?_
       refine zdMove q14 true 4 85 ?_
       refine zdMove q14 true 5 86 ?_
       refine zdMove q14 true 6 87 ?_
       refine zdIndexAddr q14 true 7 88 ?_
       refine zdLoad q14 true 8 89 ?_
       refine zdLen q14 true 9 90 ?_
       refine aAny_two 2 10 rfl rfl (by kernel_rfl) ?_ ?_
       ·intro K k
        skip
        simp only [zE, zL, zN, aStepM, optable, set_some, Nat.reduceEqDiff, reduceIte, Nat.reduceLT, implies_true, forall_const, reduceCtorEq, V.ofValue, V.ofScalar, V.un, V.gd, aExec, aop, List.mem_cons, List.not_mem_nil, or_false, forall_eq_or_imp, forall_eq, aIndexAddr, row_mk, Blk.row, Go.Vm.V.cells, List.forall_mem_map, List.length_map, Int.toNat_natCast, Int.reduceToNat, TypeDesc.slice.injEq, Nat.reduceAdd, Nat.reduceLeDiff, Nat.reduceMul, Tryd.underlying23, Ty.c23, Ty.a23, Tryd.underlying36, Ty.c36, Ty.a36, hA, hB, decide_true, getD_map hla, getD_map hlb, getD_map hxa]
        repeat (refine And.intro (by first | omega | (intros; omega) | (intros; simp_all; done) | (intros; simp_all; omega)) ?_)
        refine k _ ?_; clear k K
        refine aAny_two 3 10 rfl rfl (by kernel_rfl) ?_ ?_
        ·intro K k
         skip
         simp only [zE, zL, zO, zN, aStepM, optable, set_some, Nat.reduceEqDiff, reduceIte, Nat.reduceLT, implies_true, forall_const, reduceCtorEq, V.ofValue, V.ofScalar, V.un, V.gd, aExec, aop, aLoad, row_mk, Blk.row, PartOK, Go.Vm.part, V.cells, V.noSl, V.noRef, Nat.reduceAdd, Nat.reduceLeDiff, Nat.reduceMul, Tryd.underlying3, Ty.c3, Ty.a3, Tryd.underlying36, Ty.c36, Ty.a36, hA, hB, getD_map hla, getD_map hlb, getD_map hxa]
         repeat (refine And.intro (by first | omega | (intros; omega) | (intros; simp_all; done) | (intros; simp_all; omega)) ?_)
         refine k _ ?_; clear k K
         refine aAny_only 10 rfl (by kernel_rfl) ?_; intro K k
         simp only [zE, zM, aStepM, optable, set_some, Nat.reduceEqDiff, reduceIte, Nat.reduceLT, implies_true, forall_const, reduceCtorEq, V.ofValue, V.ofScalar, V.un, V.gd, aExec, lentIds, lendOf, ‹Tys _›.h, ‹Fc _›.h]
         repeat (refine andC ?_)
         refine aCall_lentXA (pick_con code a78 s78 ((lb.length : Int)) hcode hcl (by omega)) ?_
         rintro _ _ ⟨v91, a91, s91, h91, k91, rfl, rfl⟩
         obtain ⟨xb, hxb⟩ : ∃ x, lb[v91.toNat]? = some x := ⟨lb[v91.toNat]'(by omega), List.getElem?_eq_getElem (by omega)⟩
         refine ⟨_, _, rfl, by first | exact .inr (List.all_eq_true.1 rfl) | exact .inl ⟨rfl, by simp [Blk.kindIs, fillK_fd]⟩, ?_⟩
         refine k _ ?_; clear k K
         simp only [zY, zW, set_some, Nat.reduceEqDiff, reduceIte, rho_one, rho_s, rho2_s, rho2_0, rho2_1, V.ren, V.renL, List.set_cons_zero, List.set_cons_succ, rho, Nat.reduceAdd, Nat.add_zero]
         have F := Fc.mk (And.intro hA (And.intro hB (And.intro @decide_true (And.intro (fun f => getD_map (f := f) hla) (And.intro (fun f => getD_map (f := f) hlb) (And.intro (fun f => getD_map (f := f) hxa) (fun f => getD_map (f := f) hxb)))))))
         refine zdIndexAddr q14 true 11 92 ?_
         refine zdLoad q14 true 12 93 ?_
         refine zoAssign 13 ⟨?_⟩
         refine aAny_done (by kernel_rfl) ?_
         refine k14 _ ?_
         refine n8 (ea, eb, xa, xb, a91, s91) _ ?_ ?_
         ·exact (by show 0 ≤ a91 ∧ a91 ≤ 20; omega)
         ·refine weak_both [3, 8, 9, 10, 11, 12, 13, 14] [0, 1, 2] (by decide) (by simp) ?_ ?_ ?_
          ·simp [keep_mk, keepE_nil, keepE_cons, look_cons, V.only, V.onlyL, idx] <;> (first | rfl | decide)
          ·simp [Blk.kindIs, fillK_mix]
          simp only [keep_mk, keepE_nil, keepE_cons, look_cons, look_nil, Nat.reduceEqDiff, reduceIte, St.comp, List.map_cons, List.map_nil, V.ren, V.renL, idx, List.getD_cons_zero, List.getD_cons_succ, Nat.reduceBEq, cond_true, cond_false, Option.map_some, Option.getD_some, Nat.reduceAdd, Nat.beq_eq_true_eq]
          all_goals rfl
        ·intro K k
         skip
         simp only [zE, zM, aStepM, optable, set_some, Nat.reduceEqDiff, reduceIte, Nat.reduceLT, implies_true, forall_const, reduceCtorEq, V.ofValue, V.ofScalar, V.un, V.gd, aExec, lentIds, lendOf, ‹Tys _›.h, ‹Fc _›.h]
         repeat (refine andC ?_)
         refine aCall_lentXA (pick_con code a78 s78 ((lb.length : Int)) hcode hcl (by omega)) ?_
         rintro _ _ ⟨v91, a91, s91, h91, k91, rfl, rfl⟩
         obtain ⟨xb, hxb⟩ : ∃ x, lb[v91.toNat]? = some x := ⟨lb[v91.toNat]'(by omega), List.getElem?_eq_getElem (by omega)⟩
         refine ⟨_, _, rfl, by first | exact .inr (List.all_eq_true.1 rfl) | exact .inl ⟨rfl, by simp [Blk.kindIs, fillK_fd]⟩, ?_⟩
         refine k _ ?_; clear k K
         simp only [zY, zW, set_some, Nat.reduceEqDiff, reduceIte, rho_one, rho_s, rho2_s, rho2_0, rho2_1, V.ren, V.renL, List.set_cons_zero, List.set_cons_succ, rho, Nat.reduceAdd, Nat.add_zero]
         have F := Fc.mk (And.intro hA (And.intro hB (And.intro @decide_true (And.intro (fun f => getD_map (f := f) hla) (And.intro (fun f => getD_map (f := f) hlb) (And.intro (fun f => getD_map (f := f) hxa) (fun f => getD_map (f := f) hxb)))))))
         refine zdLoad q14 true 3 84 ?_
         refine zdIndexAddr q14 true 11 92 ?_
         refine zdLoad q14 true 12 93 ?_
         refine zoAssign 13 ⟨?_⟩
         refine aAny_done (by kernel_rfl) ?_
         refine k14 _ ?_
         refine n8 (ea, eb, xa, xb, a91, s91) _ ?_ ?_
         ·exact (by show 0 ≤ a91 ∧ a91 ≤ 20; omega)
         ·refine weak_both [3, 8, 9, 10, 11, 12, 13, 14] [0, 1, 2] (by decide) (by simp) ?_ ?_ ?_
          ·simp [keep_mk, keepE_nil, keepE_cons, look_cons, V.only, V.onlyL, idx] <;> (first | rfl | decide)
          ·simp [Blk.kindIs, fillK_mix]
          simp only [keep_mk, keepE_nil, keepE_cons, look_cons, look_nil, Nat.reduceEqDiff, reduceIte, St.comp, List.map_cons, List.map_nil, V.ren, V.renL, idx, List.getD_cons_zero, List.getD_cons_succ, Nat.reduceBEq, cond_true, cond_false, Option.map_some, Option.getD_some, Nat.reduceAdd, Nat.beq_eq_true_eq]
          all_goals rfl
       ·intro K k
        skip
        simp only [zE, zM, aStepM, optable, set_some, Nat.reduceEqDiff, reduceIte, Nat.reduceLT, implies_true, forall_const, reduceCtorEq, V.ofValue, V.ofScalar, V.un, V.gd, aExec, lentIds, lendOf, ‹Tys _›.h, ‹Fc _›.h]
        repeat (refine andC ?_)
        refine aCall_lentXA (pick_con code a78 s78 ((lb.length : Int)) hcode hcl (by omega)) ?_
        rintro _ _ ⟨v91, a91, s91, h91, k91, rfl, rfl⟩
        obtain ⟨xb, hxb⟩ : ∃ x, lb[v91.toNat]? = some x := ⟨lb[v91.toNat]'(by omega), List.getElem?_eq_getElem (by omega)⟩
        refine ⟨_, _, rfl, by first | exact .inr (List.all_eq_true.1 rfl) | exact .inl ⟨rfl, by simp [Blk.kindIs, fillK_fd]⟩, ?_⟩
        refine k _ ?_; clear k K
        simp only [zY, zW, set_some, Nat.reduceEqDiff, reduceIte, rho_one, rho_s, rho2_s, rho2_0, rho2_1, V.ren, V.renL, List.set_cons_zero, List.set_cons_succ, rho, Nat.reduceAdd, Nat.add_zero]
        have F := Fc.mk (And.intro hA (And.intro hB (And.intro @decide_true (And.intro (fun f => getD_map (f := f) hla) (And.intro (fun f => getD_map (f := f) hlb) (And.intro (fun f => getD_map (f := f) hxa) (fun f => getD_map (f := f) hxb)))))))
        refine zdIndexAddr q14 true 2 83 ?_
        refine zdLoad q14 true 3 84 ?_
        refine zdIndexAddr q14 true 11 92 ?_
        refine zdLoad q14 true 12 93 ?_
        refine zoAssign 13 ⟨?_⟩
        refine aAny_done (by kernel_rfl) ?_
        refine k14 _ ?_
        refine n8 (ea, eb, xa, xb, a91, s91) _ ?_ ?_
        ·exact (by show 0 ≤ a91 ∧ a91 ≤ 20; omega)
        ·refine weak_both [3, 8, 9, 10, 11, 12, 13, 14] [0, 1, 2] (by decide) (by simp) ?_ ?_ ?_
         ·simp [keep_mk, keepE_nil, keepE_cons, look_cons, V.only, V.onlyL, idx] <;> (first | rfl | decide)
         ·simp [Blk.kindIs, fillK_mix]
         simp only [keep_mk, keepE_nil, keepE_cons, look_cons, look_nil, Nat.reduceEqDiff, reduceIte, St.comp, List.map_cons, List.map_nil, V.ren, V.renL, idx, List.getD_cons_zero, List.getD_cons_succ, Nat.reduceBEq, cond_true, cond_false, Option.map_some, Option.getD_some, Nat.reduceAdd, Nat.beq_eq_true_eq]
         all_goals rfl
     ·intro K k
      skip
      simp only [zE, zM, aStepM, optable, set_some, Nat.reduceEqDiff, reduceIte, Nat.reduceLT, implies_true, forall_const, reduceCtorEq, V.ofValue, V.ofScalar, V.un, V.gd, aExec, lentIds, lendOf, ‹Tys _›.h, ‹Fc _›.h]
      repeat (refine andC ?_)
      refine aCall_lentXA (pick_con code a65 s65 ((la.length : Int)) hcode hcl (by omega)) ?_
      rintro _ _ ⟨v78, a78, s78, h78, k78, rfl, rfl⟩
      obtain ⟨xa, hxa⟩ : ∃ x, la[v78.toNat]? = some x := ⟨la[v78.toNat]'(by omega), List.getElem?_eq_getElem (by omega)⟩
      refine ⟨_, _, rfl, by first | exact .inr (List.all_eq_true.1 rfl) | exact .inl ⟨rfl, by simp [Blk.kindIs, fillK_fd]⟩, ?_⟩
      refine k _ ?_; clear k K
      simp only [zY, zW, set_some, Nat.reduceEqDiff, reduceIte, rho_one, rho_s, rho2_s, rho2_0, rho2_1, V.ren, V.renL, List.set_cons_zero, List.set_cons_succ, rho, Nat.reduceAdd, Nat.add_zero]
      have F := Fc.mk (And.intro hA (And.intro hB (And.intro @decide_true (And.intro (fun f => getD_map (f := f) hla) (And.intro (fun f => getD_map (f := f) hlb) (fun f => getD_map (f := f) hxa))))))
      refine zdIndexAddr q12 true 2 70 ?_
      refine zdLoad q12 true 3 71 ?_
      refine zdIndexAddr q12 true 11 79 ?_
      refine zdLoad q12 true 12 80 ?_
      refine zoAssign 13 ⟨?_⟩
      refine aAny_done (by kernel_rfl) ?_
      refine k12 _ ?_
      refine n11 _ _ (weak_keep [3, 8, 9, 10, 11, 12, 13] _) ?_
      refine zk ⟨?_⟩
      refine v_draw (by kernel_rfl) ?_; intro K15 q15 k15
      show aAny _ _ _ _ 14 (Array.replicate 14 false) _
      refine zdMove q15 false 0 81 ?_
      refine zdMove q15 false 1 82 ?_
      refine zdMove q15 true 4 85 ?_
      refine zdMove q15 true 5 86 ?_
      refine zdMove q15 true 6 87 ?_
      refine zdIndexAddr q15 true 7 88 ?_
      refine zdLoad q15 true 8 89 ?_
      refine zdLen q15 true 9 90 ?_
      refine aAny_two 2 10 rfl rfl (by kernel_rfl) ?_ ?_
      ·intro K k
       skip
       simp only [zE, zL, zN, aStepM, optable, set_some, Nat.reduceEqDiff, reduceIte, Nat.reduceLT, implies_true, forall_const, reduceCtorEq, V.ofValue, V.ofScalar, V.un, V.gd, aExec, aop, List.mem_cons, List.not_mem_nil, or_false, forall_eq_or_imp, forall_eq, aIndexAddr, row_mk, Blk.row, Go.Vm.V.cells, List.forall_mem_map, List.length_map, Int.toNat_natCast, Int.reduceToNat, TypeDesc.slice.injEq, Nat.reduceAdd, Nat.reduceLeDiff, Nat.reduceMul, Tryd.underlying23, Ty.c23, Ty.a23, Tryd.underlying36, Ty.c36, Ty.a36, hA, hB, decide_true, getD_map hla, getD_map hlb, getD_map hxa]
       repeat (refine And.intro (by first | omega | (intros; omega) | (intros; simp_all; done) | (intros; simp_all; omega)) ?_)
       refine k _ ?_; clear k K
       refine aAny_two 3 10 rfl rfl (by kernel_rfl) ?_ ?_
       ·intro K k
        skip
        simp only [zE, zL, zO, zN, aStepM, optable, set_some, Nat.reduceEqDiff, reduceIte, Nat.reduceLT, implies_true, forall_const, reduceCtorEq, V.ofValue, V.ofScalar, V.un, V.gd, aExec, aop, aLoad, row_mk, Blk.row, PartOK, Go.Vm.part, V.cells, V.noSl, V.noRef, Nat.reduceAdd, Nat.reduceLeDiff, Nat.reduceMul, Tryd.underlying3, Ty.c3, Ty.a3, Tryd.underlying36, Ty.c36, Ty.a36, hA, hB, getD_map hla, getD_map hlb, getD_map hxa]
        repeat (refine And.intro (by first | omega | (intros; omega) | (intros; simp_all; done) | (intros; simp_all; omega)) ?_)
        refine k _ ?_; clear k K
        refine aAny_only 10 rfl (by kernel_rfl) ?_; intro K k
        simp only [zE, zM, aStepM, optable, set_some, Nat.reduceEqDiff, reduceIte, Nat.reduceLT, implies_true, forall_const, reduceCtorEq, V.ofValue, V.ofScalar, V.un, V.gd, aExec, lentIds, lendOf, ‹Tys _›.h, ‹Fc _›.h]
        repeat (refine andC ?_)
        refine aCall_lentXA (pick_con code a78 s78 ((lb.length : Int)) hcode hcl (by omega)) ?_
        rintro _ _ ⟨v91, a91, s91, h91, k91, rfl, rfl⟩
        obtain ⟨xb, hxb⟩ : ∃ x, lb[v91.toNat]? = some x := ⟨lb[v91.toNat]'(by omega), List.getElem?_eq_getElem (by omega)⟩
        refine ⟨_, _, rfl, by first | exact .inr (List.all_eq_true.1 rfl) | exact .inl ⟨rfl, by simp [Blk.kindIs, fillK_fd]⟩, ?_⟩
        refine k _ ?_; clear k K
        simp only [zY, zW, set_some, Nat.reduceEqDiff, reduceIte, rho_one, rho_s, rho2_s, rho2_0, rho2_1, V.ren, V.renL, List.set_cons_zero, List.set_cons_succ, rho, Nat.reduceAdd, Nat.add_zero]
        have F := Fc.mk (And.intro hA (And.intro hB (And.intro @decide_true (And.intro (fun f => getD_map (f := f) hla) (And.intro (fun f => getD_map (f := f) hlb) (And.intro (fun f => getD_map (f := f) hxa) (fun f => getD_map (f := f) hxb)))))))
        refine zdIndexAddr q15 true 11 92 ?_
        refine zdLoad q15 true 12 93 ?_
        refine zoAssign 13 ⟨?_⟩
        refine aAny_done (by kernel_rfl) ?_
        refine k15 _ ?_
        refine n8 (ea, eb, xa, xb, a91, s91) _ ?_ ?_
        ·exact (by show 0 ≤ a91 ∧ a91 ≤ 20; omega)
        ·refine weak_both [3, 8, 9, 10, 11, 12, 13, 14] [0, 1, 2] (by decide) (by simp) ?_ ?_ ?_
         ·simp [keep_mk, keepE_nil, keepE_cons, look_cons, V.only, V.onlyL, idx] <;> (first | rfl | decide)
         ·simp [Blk.kindIs, fillK_mix]
         simp only [keep_mk, keepE_nil, keepE_cons, look_cons, look_nil, Nat.reduceEqDiff, reduceIte, St.comp, List.map_cons, List.map_nil, V.ren, V.renL, idx, List.getD_cons_zero, List.getD_cons_succ, Nat.reduceBEq, cond_true, cond_false, Option.map_some, Option.getD_some, Nat.reduceAdd, Nat.beq_eq_true_eq]
         all_goals rfl
       ·intro K k
        skip
        simp only [zE, zM, aStepM, optable, set_some, Nat.reduceEqDiff, reduceIte, Nat.reduceLT, implies_true, forall_const, reduceCtorEq, V.ofValue, V.ofScalar, V.un, V.gd, aExec, lentIds, lendOf, ‹Tys _›.h, ‹Fc _›.h]
        repeat (refine andC ?_)
        refine aCall_lentXA (pick_con code a78 s78 ((lb.length : Int)) hcode hcl (by omega)) ?_
        rintro _ _ ⟨v91, a91, s91, h91, k91, rfl, rfl⟩
        obtain ⟨xb, hxb⟩ : ∃ x, lb[v91.toNat]? = some x := ⟨lb[v91.toNat]'(by omega), List.getElem?_eq_getElem (by omega)⟩
        refine ⟨_, _, rfl, by first | exact .inr (List.all_eq_true.1 rfl) | exact .inl ⟨rfl, by simp [Blk.kindIs, fillK_fd]⟩, ?_⟩
        refine k _ ?_; clear k K
        simp only [zY, zW, set_some, Nat.reduceEqDiff, reduceIte, rho_one, rho_s, rho2_s, rho2_0, rho2_1, V.ren, V.renL, List.set_cons_zero, List.set_cons_succ, rho, Nat.reduceAdd, Nat.add_zero]
        have F := Fc.mk (And.intro hA (And.intro hB (And.intro @decide_true (And.intro (fun f => getD_map (f := f) hla) (And.intro (fun f => getD_map (f := f) hlb) (And.intro (fun f => getD_map (f := f) hxa) (fun f => getD_map (f := f) hxb)))))))
        refine zdLoad q15 true 3 84 ?_
        refine zdIndexAddr q15 true 11 92 ?_
        refine zdLoad q15 true 12 93 ?_
        refine zoAssign 13 ⟨?_⟩
        refine aAny_done (by kernel_rfl) ?_
        refine k15 _ ?_
        refine n8 (ea, eb, xa, xb, a91, s91) _ ?_ ?_
        ·exact (by show 0 ≤ a91 ∧ a91 ≤ 20; omega)
        ·refine weak_both [3, 8, 9, 10, 11, 12, 13, 14] [0, 1, 2] (by decide) (by simp) ?_ ?_ ?_
         ·simp [keep_mk, keepE_nil, keepE_cons, look_cons, V.only, V.onlyL, idx] <;> (first | rfl | decide)
         ·simp [Blk.kindIs, fillK_mix]
         simp only [keep_mk, keepE_nil, keepE_cons, look_cons, look_nil, Nat.reduceEqDiff, reduceIte, St.comp, List.map_cons, List.map_nil, V.ren, V.renL, idx, List.getD_cons_zero, List.getD_cons_succ, Nat.reduceBEq, cond_true, cond_false, Option.map_some, Option.getD_some, Nat.reduceAdd, Nat.beq_eq_true_eq]
         all_goals rfl
      ·intro K k
       skip
       simp only [zE, zM, aStepM, optable, set_some, Nat.reduceEqDiff, reduceIte, Nat.reduceLT, implies_true, forall_const, reduceCtorEq, V.ofValue, V.ofScalar, V.un, V.gd, aExec, lentIds, lendOf, ‹Tys _›.h, ‹Fc _›.h]
       repeat (refine andC ?_)
       refine aCall_lentXA (pick_con code a78 s78 ((lb.length : Int)) hcode hcl (by omega)) ?_
       rintro _ _ ⟨v91, a91, s91, h91, k91, rfl, rfl⟩
       obtain ⟨xb, hxb⟩ : ∃ x, lb[v91.toNat]? = some x := ⟨lb[v91.toNat]'(by omega), List.getElem?_eq_getElem (by omega)⟩
       refine ⟨_, _, rfl, by first | exact .inr (List.all_eq_true.1 rfl) | exact .inl ⟨rfl, by simp [Blk.kindIs, fillK_fd]⟩, ?_⟩
       refine k _ ?_; clear k K
       simp only [zY, zW, set_some, Nat.reduceEqDiff, reduceIte, rho_one, rho_s, rho2_s, rho2_0, rho2_1, V.ren, V.renL, List.set_cons_zero, List.set_cons_succ, rho, Nat.reduceAdd, Nat.add_zero]
       have F := Fc.mk (And.intro hA (And.intro hB (And.intro @decide_true (And.intro (fun f => getD_map (f := f) hla) (And.intro (fun f => getD_map (f := f) hlb) (And.intro (fun f => getD_map (f := f) hxa) (fun f => getD_map (f := f) hxb)))))))
       refine zdIndexAddr q15 true 2 83 ?_
       refine zdLoad q15 true 3 84 ?_
       refine zdIndexAddr q15 true 11 92 ?_
       refine zdLoad q15 true 12 93 ?_
       refine zoAssign 13 ⟨?_⟩
       refine aAny_done (by kernel_rfl) ?_
       refine k15 _ ?_
       refine n8 (ea, eb, xa, xb, a91, s91) _ ?_ ?_
       ·exact (by show 0 ≤ a91 ∧ a91 ≤ 20; omega)
       ·refine weak_both [3, 8, 9, 10, 11, 12, 13, 14] [0, 1, 2] (by decide) (by simp) ?_ ?_ ?_
        ·simp [keep_mk, keepE_nil, keepE_cons, look_cons, V.only, V.onlyL, idx] <;> (first | rfl | decide)
        ·simp [Blk.kindIs, fillK_mix]
        simp only [keep_mk, keepE_nil, keepE_cons, look_cons, look_nil, Nat.reduceEqDiff, reduceIte, St.comp, List.map_cons, List.map_nil, V.ren, V.renL, idx, List.getD_cons_zero, List.getD_cons_succ, Nat.reduceBEq, cond_true, cond_false, Option.map_some, Option.getD_some, Nat.reduceAdd, Nat.beq_eq_true_eq]
        all_goals rfl
    ·intro hc0
     refine v_skip ?_
     refine n8 (ea, eb, ei, ek, a65, s65) _ ?_ ?_
     ·exact (by show 0 ≤ a65 ∧ a65 ≤ 20; omega)
     ·refine weak_both [3, 8, 9, 10, 11, 12, 13, 14] [0, 1, 2] (by decide) (by simp) ?_ ?_ ?_
      ·simp [keep_mk, keepE_nil, keepE_cons, look_cons, V.only, V.onlyL, idx] <;> (first | rfl | decide)
      ·simp [Blk.kindIs, fillK_mix]
      simp only [keep_mk, keepE_nil, keepE_cons, look_cons, look_nil, Nat.reduceEqDiff, reduceIte, St.comp, List.map_cons, List.map_nil, V.ren, V.renL, idx, List.getD_cons_zero, List.getD_cons_succ, Nat.reduceBEq, cond_true, cond_false, Option.map_some, Option.getD_some, Nat.reduceAdd, Nat.beq_eq_true_eq]
      all_goals rfl
   ·rintro ⟨ea2, eb2, ei2, ek2, a2, s2⟩ hok8
    obtain ⟨ha2, ha3⟩ := hok8
    simp only [] at ha2 ha3 ⊢
    refine v_seq ?_; intro Q16 n16 e16 r16
    refine v_seqR [3,8,9,10,11,12,13,14,95] ?_; intro K17 k17
    have F := Fc.mk (And.intro hA (And.intro hB (And.intro @decide_true (And.intro (fun f => getD_map (f := f) hla) (fun f => getD_map (f := f) hlb)))))
    refine zMove ⟨?_⟩
    refine v_op ?_; intro K k
    simp only [zE, zM, aStepM, optable, set_some, Nat.reduceEqDiff, reduceIte, Nat.reduceLT, implies_true, forall_const, reduceCtorEq, V.ofValue, V.ofScalar, V.un, V.gd, aExec, lentIds, lendOf, ‹Tys _›.h, ‹Fc _›.h]
    repeat (refine andC ?_)
    refine aCall_lentXA (one_con code a2 s2 (20) hcode hcl (by omega)) ?_
    rintro _ _ ⟨v95, a95, s95, h95, k95, rfl, rfl⟩
    refine ⟨_, _, rfl, by first | exact .inr (List.all_eq_true.1 rfl) | exact .inl ⟨rfl, by simp [Blk.kindIs, fillK_fd]⟩, ?_⟩
    refine k _ ?_; clear k K
    simp only [zY, zW, set_some, Nat.reduceEqDiff, reduceIte, rho_one, rho_s, rho2_s, rho2_0, rho2_1, V.ren, V.renL, List.set_cons_zero, List.set_cons_succ, rho, Nat.reduceAdd, Nat.add_zero]
    refine k17 _ ?_
    refine zk ⟨?_⟩
    refine v_condS _ rfl ?_ ?_
    ·intro hc1
     refine v_region ?_; intro K19 k19
     refine zMove ⟨?_⟩
     refine zMove ⟨?_⟩
     refine zLen ⟨?_⟩
     refine zBuildSlice ⟨?_⟩
     refine v_op ?_; intro K k
     simp only [zE, zM, aStepM, optable, set_some, Nat.reduceEqDiff, reduceIte, Nat.reduceLT, implies_true, forall_const, reduceCtorEq, V.ofValue, V.ofScalar, V.un, V.gd, aExec, lentIds, lendOf, ‹Tys _›.h, ‹Fc _›.h]
     repeat (refine andC ?_)
     refine aCall_lent2XA (among_con code a95 s95 [-1, (l.length : Int)] (by simp) hcode hcl (by omega)) ?_
     rintro _ _ ⟨v100, a100, s100, h100, k100, rfl, rfl⟩
     refine ⟨_, _, _, rfl, by first | exact .inr (List.all_eq_true.1 rfl) | exact .inl ⟨rfl, by simp [Blk.kindIs, fillK_fd]⟩, ?_⟩
     refine k _ ?_; clear k K
     simp only [zY, zW, set_some, Nat.reduceEqDiff, reduceIte, rho_one, rho_s, rho2_s, rho2_0, rho2_1, V.ren, V.renL, List.set_cons_zero, List.set_cons_succ, rho, Nat.reduceAdd, Nat.add_zero]
     simp only [List.mem_cons, List.not_mem_nil, or_false] at h100
     refine zAssign ⟨?_⟩
     refine k19 _ ?_
     refine n16 _ _ (weak_keep [3, 9, 10, 11, 12, 13, 14] _) ?_
     refine zk ⟨?_⟩
     refine v_seq ?_; intro Q20 n20 e20 r20
     refine v_draw (by kernel_rfl) ?_; intro K21 q21 k21
     show aAny _ _ _ _ 12 (Array.replicate 12 false) _
     refine zdMove q21 true 0 101 ?_
     refine zdLoad q21 true 1 102 ?_
     refine zdMove q21 false 2 103 ?_
     refine zdMove q21 false 3 104 ?_
     refine zdMove q21 false 4 105 ?_
     refine zdMove q21 false 5 106 ?_
     refine zoAssign 6 ⟨?_⟩
     refine zoStore 7 ⟨?_⟩
     refine zoAssign 8 ⟨?_⟩
     refine zoAssign 9 ⟨?_⟩
     refine zoAssign 10 ⟨?_⟩
     refine zoAssign 11 ⟨?_⟩
     refine aAny_done (by kernel_rfl) ?_
     refine k21 _ ?_
     refine n20 _ _ (weak_keep [2, 3, 4, 5, 6, 7] _) ?_
     refine zk ⟨?_⟩
     refine v_ret ?_
     refine r0 _ ?_
     refine zf ⟨?_⟩
     simp only [zE, zL, zO, zN, aStepM, optable, set_some, Nat.reduceEqDiff, reduceIte, Nat.reduceLT, implies_true, forall_const, reduceCtorEq, V.ofValue, V.ofScalar, V.un, V.gd, aLoad, row_mk, Blk.row, PartOK, Go.Vm.part, V.cells, V.noSl, V.noRef, Nat.reduceAdd, Nat.reduceLeDiff, Nat.reduceMul, Tryd.underlying3, Ty.c3, Ty.a3, Tryd.underlying25, Ty.c25, Ty.a25]
     refine ret_viewX ?_
     exact ⟨l, p, m, rr, v100, eb2, ei2, ek2, ⟨hq1, hq2⟩, rfl, rfl⟩
    ·intro hc1
     refine v_skip ?_
     refine n16 _ _ (weak_keep [3, 9, 10, 11, 12, 13, 14] _) ?_
     refine zk ⟨?_⟩
     refine v_seq ?_; intro Q22 n22 e22 r22
     refine v_draw (by kernel_rfl) ?_; intro K23 q23 k23
     show aAny _ _ _ _ 12 (Array.replicate 12 false) _
     refine zdMove q23 true 0 101 ?_
     refine zdLoad q23 true 1 102 ?_
     refine zdMove q23 false 2 103 ?_
     refine zdMove q23 false 3 104 ?_
     refine zdMove q23 false 4 105 ?_
     refine zdMove q23 false 5 106 ?_
     refine zoAssign 6 ⟨?_⟩
     refine zoStore 7 ⟨?_⟩
     refine zoAssign 8 ⟨?_⟩
     refine zoAssign 9 ⟨?_⟩
     refine zoAssign 10 ⟨?_⟩
     refine zoAssign 11 ⟨?_⟩
     refine aAny_done (by kernel_rfl) ?_
     refine k23 _ ?_
     refine n22 _ _ (weak_keep [2, 3, 4, 5, 6, 7] _) ?_
     refine zk ⟨?_⟩
     refine v_ret ?_
     refine r0 _ ?_
     refine zf ⟨?_⟩
     simp only [zE, zL, zO, zN, aStepM, optable, set_some, Nat.reduceEqDiff, reduceIte, Nat.reduceLT, implies_true, forall_const, reduceCtorEq, V.ofValue, V.ofScalar, V.un, V.gd, aLoad, row_mk, Blk.row, PartOK, Go.Vm.part, V.cells, V.noSl, V.noRef, Nat.reduceAdd, Nat.reduceLeDiff, Nat.reduceMul, Tryd.underlying3, Ty.c3, Ty.a3, Tryd.underlying25, Ty.c25, Ty.a25]
     refine ret_viewX ?_
     exact ⟨l, p, m, rr, ea2, eb2, ei2, ek2, ⟨hq1, hq2⟩, rfl, rfl⟩
  ·skip
   skip
   refine v_join (A := Int × Int × Int × Int × Int × Int) (fun j5 => ⟨[(3, .ptr 0 0 0), (8, .ptr 1 0 0), (9, .sl (l.map (fun l : List Int => V.sl (l.map (V.int .i64))))), (10, .ptr 2 0 0), (11, .int .i64 j5.1), (12, .int .i64 j5.2.1), (13, .int .i64 j5.2.2.1), (14, .int .i64 j5.2.2.2.1)], [.box (.agg [.int .i64 0, .int .i64 0, .int .i64 0]) .flat, .box (.agg [.sl (code.map (V.int .u8)), .int .i64 j5.2.2.2.2.1, .int .u64 j5.2.2.2.2.2]) .shal, .box (.agg [.int .i64 p, .int .i64 m, .int .i64 rr]) .flat], false, 107, 0⟩) (fun j5 => 0 ≤ j5.2.2.2.2.1 ∧ j5.2.2.2.2.1 ≤ 20) ?_ ?_
   ·intro Q24 n24 e24 r24
    refine v_seqR [3,8,9,10,11,12,13,14,67] ?_; intro K25 k25
    have F := Fc.mk (And.intro hA @decide_false)
    refine zMove ⟨?_⟩
    refine zMove ⟨?_⟩
    refine zLen ⟨?_⟩
    refine zBinOp ⟨?_⟩
    refine zMove ⟨?_⟩
    refine zgMove ⟨?_⟩
    refine zgMove ⟨?_⟩
    refine zgLen ⟨?_⟩
    refine zgBinOp ⟨?_⟩
    refine zPick ⟨?_⟩
    refine zMove ⟨?_⟩
    refine zgMove ⟨?_⟩
    refine zgMove ⟨?_⟩
    refine zgIndexAddr ⟨?_⟩
    refine zgLoad ⟨?_⟩
    refine zgLen ⟨?_⟩
    refine zgBinOp ⟨?_⟩
    refine zPick ⟨?_⟩
    refine zMove ⟨?_⟩
    refine zgMove ⟨?_⟩
    refine zgMove ⟨?_⟩
    refine zgIndexAddr ⟨?_⟩
    refine zgLoad ⟨?_⟩
    refine zgLen ⟨?_⟩
    refine zgBinOp ⟨?_⟩
    refine zPick ⟨?_⟩
    refine zMove ⟨?_⟩
    refine zgMove ⟨?_⟩
    refine v_pass 65 26 true rfl (show 65 < 107 by decide) rfl ?_ ?_
    ·first | rfl | (simp only [zV, guardV, Nat.reduceEqDiff, reduceIte]; done)
    simp only [zW, set_some, Nat.reduceEqDiff, reduceIte]
    refine zgUnOp ⟨?_⟩
    refine zPick ⟨?_⟩
    refine k25 _ ?_
    refine zk ⟨?_⟩
    refine v_cond _ rfl ?_ ?_
    ·intro hc0
     exfalso; simp at hc0
    ·intro hc0
     try simp only [zC, reduceCtorEq] at hc0
     refine v_skip ?_
     refine n24 (ea, eb, ei, ek, a1, s1) _ ?_ ?_
     ·exact (by show 0 ≤ a1 ∧ a1 ≤ 20; omega)
     ·refine weak_both [3, 8, 9, 10, 11, 12, 13, 14] [0, 1, 2] (by decide) (by simp) ?_ ?_ ?_
      ·simp [keep_mk, keepE_nil, keepE_cons, look_cons, V.only, V.onlyL, idx] <;> (first | rfl | decide)
      ·simp [Blk.kindIs, fillK_mix]
      simp only [keep_mk, keepE_nil, keepE_cons, look_cons, look_nil, Nat.reduceEqDiff, reduceIte, St.comp, List.map_cons, List.map_nil, V.ren, V.renL, idx, List.getD_cons_zero, List.getD_cons_succ, Nat.reduceBEq, cond_true, cond_false, Option.map_some, Option.getD_some, Nat.reduceAdd, Nat.beq_eq_true_eq]
      all_goals rfl
   ·rintro ⟨ea2, eb2, ei2, ek2, a2, s2⟩ hok24
    obtain ⟨ha2, ha3⟩ := hok24
    simp only [] at ha2 ha3 ⊢
    refine v_seq ?_; intro Q27 n27 e27 r27
    refine v_seqR [3,8,9,10,11,12,13,14,95] ?_; intro K28 k28
    have F := Fc.mk (And.intro hA @decide_false)
    refine zMove ⟨?_⟩
    refine v_op ?_; intro K k
    simp only [zE, zM, aStepM, optable, set_some, Nat.reduceEqDiff, reduceIte, Nat.reduceLT, implies_true, forall_const, reduceCtorEq, V.ofValue, V.ofScalar, V.un, V.gd, aExec, lentIds, lendOf, ‹Tys _›.h, ‹Fc _›.h]
    repeat (refine andC ?_)
    refine aCall_lentXA (one_con code a2 s2 (20) hcode hcl (by omega)) ?_
    rintro _ _ ⟨v95, a95, s95, h95, k95, rfl, rfl⟩
    refine ⟨_, _, rfl, by first | exact .inr (List.all_eq_true.1 rfl) | exact .inl ⟨rfl, by simp [Blk.kindIs, fillK_fd]⟩, ?_⟩
    refine k _ ?_; clear k K
    simp only [zY, zW, set_some, Nat.reduceEqDiff, reduceIte, rho_one, rho_s, rho2_s, rho2_0, rho2_1, V.ren, V.renL, List.set_cons_zero, List.set_cons_succ, rho, Nat.reduceAdd, Nat.add_zero]
    refine k28 _ ?_
    refine zk ⟨?_⟩
    refine v_condS _ rfl ?_ ?_
    ·intro hc1
     refine v_region ?_; intro K30 k30
     refine zMove ⟨?_⟩
     refine zMove ⟨?_⟩
     refine zLen ⟨?_⟩
     refine zBuildSlice ⟨?_⟩
     refine v_op ?_; intro K k
     simp only [zE, zM, aStepM, optable, set_some, Nat.reduceEqDiff, reduceIte, Nat.reduceLT, implies_true, forall_const, reduceCtorEq, V.ofValue, V.ofScalar, V.un, V.gd, aExec, lentIds, lendOf, ‹Tys _›.h, ‹Fc _›.h]
     repeat (refine andC ?_)
     refine aCall_lent2XA (among_con code a95 s95 [-1, (l.length : Int)] (by simp) hcode hcl (by omega)) ?_
     rintro _ _ ⟨v100, a100, s100, h100, k100, rfl, rfl⟩
     refine ⟨_, _, _, rfl, by first | exact .inr (List.all_eq_true.1 rfl) | exact .inl ⟨rfl, by simp [Blk.kindIs, fillK_fd]⟩, ?_⟩
     refine k _ ?_; clear k K
     simp only [zY, zW, set_some, Nat.reduceEqDiff, reduceIte, rho_one, rho_s, rho2_s, rho2_0, rho2_1, V.ren, V.renL, List.set_cons_zero, List.set_cons_succ, rho, Nat.reduceAdd, Nat.add_zero]
     simp only [List.mem_cons, List.not_mem_nil, or_false] at h100
     refine zAssign ⟨?_⟩
     refine k30 _ ?_
     refine n27 _ _ (weak_keep [3, 9, 10, 11, 12, 13, 14] _) ?_
     refine zk ⟨?_⟩
     refine v_seq ?_; intro Q31 n31 e31 r31
     refine v_draw (by kernel_rfl) ?_; intro K32 q32 k32
     show aAny _ _ _ _ 12 (Array.replicate 12 false) _
     refine zdMove q32 true 0 101 ?_
     refine zdLoad q32 true 1 102 ?_
     refine zdMove q32 false 2 103 ?_
     refine zdMove q32 false 3 104 ?_
     refine zdMove q32 false 4 105 ?_
     refine zdMove q32 false 5 106 ?_
     refine zoAssign 6 ⟨?_⟩
     refine zoStore 7 ⟨?_⟩
     refine zoAssign 8 ⟨?_⟩
     refine zoAssign 9 ⟨?_⟩
     refine zoAssign 10 ⟨?_⟩
     refine zoAssign 11 ⟨?_⟩
     refine aAny_done (by kernel_rfl) ?_
     refine k32 _ ?_
     refine n31 _ _ (weak_keep [2, 3, 4, 5, 6, 7] _) ?_
     refine zk ⟨?_⟩
     refine v_ret ?_
     refine r0 _ ?_
     refine zf ⟨?_⟩
     simp only [zE, zL, zO, zN, aStepM, optable, set_some, Nat.reduceEqDiff, reduceIte, Nat.reduceLT, implies_true, forall_const, reduceCtorEq, V.ofValue, V.ofScalar, V.un, V.gd, aLoad, row_mk, Blk.row, PartOK, Go.Vm.part, V.cells, V.noSl, V.noRef, Nat.reduceAdd, Nat.reduceLeDiff, Nat.reduceMul, Tryd.underlying3, Ty.c3, Ty.a3, Tryd.underlying25, Ty.c25, Ty.a25]
     refine ret_viewX ?_
     exact ⟨l, p, m, rr, v100, eb2, ei2, ek2, ⟨hq1, hq2⟩, rfl, rfl⟩
    ·intro hc1
     refine v_skip ?_
     refine n27 _ _ (weak_keep [3, 9, 10, 11, 12, 13, 14] _) ?_
     refine zk ⟨?_⟩
     refine v_seq ?_; intro Q33 n33 e33 r33
     refine v_draw (by kernel_rfl) ?_; intro K34 q34 k34
     show aAny _ _ _ _ 12 (Array.replicate 12 false) _
     refine zdMove q34 true 0 101 ?_
     refine zdLoad q34 true 1 102 ?_
     refine zdMove q34 false 2 103 ?_
     refine zdMove q34 false 3 104 ?_
     refine zdMove q34 false 4 105 ?_
     refine zdMove q34 false 5 106 ?_
     refine zoAssign 6 ⟨?_⟩
     refine zoStore 7 ⟨?_⟩
     refine zoAssign 8 ⟨?_⟩
     refine zoAssign 9 ⟨?_⟩
     refine zoAssign 10 ⟨?_⟩
     refine zoAssign 11 ⟨?_⟩
     refine aAny_done (by kernel_rfl) ?_
     refine k34 _ ?_
     refine n33 _ _ (weak_keep [2, 3, 4, 5, 6, 7] _) ?_
     refine zk ⟨?_⟩
     refine v_ret ?_
     refine r0 _ ?_
     refine zf ⟨?_⟩
     simp only [zE, zL, zO, zN, aStepM, optable, set_some, Nat.reduceEqDiff, reduceIte, Nat.reduceLT, implies_true, forall_const, reduceCtorEq, V.ofValue, V.ofScalar, V.un, V.gd, aLoad, row_mk, Blk.row, PartOK, Go.Vm.part, V.cells, V.noSl, V.noRef, Nat.reduceAdd, Nat.reduceLeDiff, Nat.reduceMul, Tryd.underlying3, Ty.c3, Ty.a3, Tryd.underlying25, Ty.c25, Ty.a25]
     refine ret_viewX ?_
     exact ⟨l, p, m, rr, ea2, eb2, ei2, ek2, ⟨hq1, hq2⟩, rfl, rfl⟩
  ·skip
   skip
   refine v_join (A := Int × Int × Int × Int × Int × Int) (fun j5 => ⟨[(3, .ptr 0 0 0), (8, .ptr 1 0 0), (9, .sl (l.map (fun l : List Int => V.sl (l.map (V.int .i64))))), (10, .ptr 2 0 0), (11, .int .i64 j5.1), (12, .int .i64 j5.2.1), (13, .int .i64 j5.2.2.1), (14, .int .i64 j5.2.2.2.1)], [.box (.agg [.int .i64 0, .int .i64 0, .int .i64 0]) .flat, .box (.agg [.sl (code.map (V.int .u8)), .int .i64 j5.2.2.2.2.1, .int .u64 j5.2.2.2.2.2]) .shal, .box (.agg [.int .i64 p, .int .i64 m, .int .i64 rr]) .flat], false, 107, 0⟩) (fun j5 => 0 ≤ j5.2.2.2.2.1 ∧ j5.2.2.2.2.1 ≤ 20) ?_ ?_
   ·intro Q35 n35 e35 r35
    refine v_seqR [3,8,9,10,11,12,13,14,67] ?_; intro K36 k36
    have F := Fc.mk (And.intro hA (And.intro hB (And.intro @decide_true @decide_false)))
    refine zMove ⟨?_⟩
    refine zMove ⟨?_⟩
    refine zLen ⟨?_⟩
    refine zBinOp ⟨?_⟩
    refine zMove ⟨?_⟩
    refine zgMove ⟨?_⟩
    refine zgMove ⟨?_⟩
    refine zgLen ⟨?_⟩
    refine zgBinOp ⟨?_⟩
    refine zPick ⟨?_⟩
    refine zMove ⟨?_⟩
    refine zgMove ⟨?_⟩
    refine zgMove ⟨?_⟩
    refine zgIndexAddr ⟨?_⟩
    refine zgLoad ⟨?_⟩
    refine zgLen ⟨?_⟩
    refine zgBinOp ⟨?_⟩
    refine zPick ⟨?_⟩
    refine zMove ⟨?_⟩
    refine zgMove ⟨?_⟩
    refine zgMove ⟨?_⟩
    refine zgIndexAddr ⟨?_⟩
    refine zgLoad ⟨?_⟩
    refine zgLen ⟨?_⟩
    refine zgBinOp ⟨?_⟩
    refine zPick ⟨?_⟩
    refine zMove ⟨?_⟩
    refine zgMove ⟨?_⟩
    refine v_pass 65 26 true rfl (show 65 < 107 by decide) rfl ?_ ?_
    ·first | rfl | (simp only [zV, guardV, Nat.reduceEqDiff, reduceIte]; done)
    simp only [zW, set_some, Nat.reduceEqDiff, reduceIte]
    refine zgUnOp ⟨?_⟩
    refine zPick ⟨?_⟩
    refine k36 _ ?_
    refine zk ⟨?_⟩
    refine v_cond _ rfl ?_ ?_
    ·intro hc0
     exfalso; simp at hc0
    ·intro hc0
     try simp only [zC, reduceCtorEq] at hc0
     refine v_skip ?_
     refine n35 (ea, eb, ei, ek, a1, s1) _ ?_ ?_
     ·exact (by show 0 ≤ a1 ∧ a1 ≤ 20; omega)
     ·refine weak_both [3, 8, 9, 10, 11, 12, 13, 14] [0, 1, 2] (by decide) (by simp) ?_ ?_ ?_
      ·simp [keep_mk, keepE_nil, keepE_cons, look_cons, V.only, V.onlyL, idx] <;> (first | rfl | decide)
      ·simp [Blk.kindIs, fillK_mix]
      simp only [keep_mk, keepE_nil, keepE_cons, look_cons, look_nil, Nat.reduceEqDiff, reduceIte, St.comp, List.map_cons, List.map_nil, V.ren, V.renL, idx, List.getD_cons_zero, List.getD_cons_succ, Nat.reduceBEq, cond_true, cond_false, Option.map_some, Option.getD_some, Nat.reduceAdd, Nat.beq_eq_true_eq]
      all_goals rfl
   ·rintro ⟨ea2, eb2, ei2, ek2, a2, s2⟩ hok35
    obtain ⟨ha2, ha3⟩ := hok35
    simp only [] at ha2 ha3 ⊢
    refine v_seq ?_; intro Q38 n38 e38 r38
    refine v_seqR [3,8,9,10,11,12,13,14,95] ?_; intro K39 k39
    have F := Fc.mk (And.intro hA (And.intro hB (And.intro @decide_true @decide_false)))
    refine zMove ⟨?_⟩
    refine v_op ?_; intro K k
    simp only [zE, zM, aStepM, optable, set_some, Nat.reduceEqDiff, reduceIte, Nat.reduceLT, implies_true, forall_const, reduceCtorEq, V.ofValue, V.ofScalar, V.un, V.gd, aExec, lentIds, lendOf, ‹Tys _›.h, ‹Fc _›.h]
    repeat (refine andC ?_)
    refine aCall_lentXA (one_con code a2 s2 (20) hcode hcl (by omega)) ?_
    rintro _ _ ⟨v95, a95, s95, h95, k95, rfl, rfl⟩
    refine ⟨_, _, rfl, by first | exact .inr (List.all_eq_true.1 rfl) | exact .inl ⟨rfl, by simp [Blk.kindIs, fillK_fd]⟩, ?_⟩
    refine k _ ?_; clear k K
    simp only [zY, zW, set_some, Nat.reduceEqDiff, reduceIte, rho_one, rho_s, rho2_s, rho2_0, rho2_1, V.ren, V.renL, List.set_cons_zero, List.set_cons_succ, rho, Nat.reduceAdd, Nat.add_zero]
    refine k39 _ ?_
    refine zk ⟨?_⟩
    refine v_condS _ rfl ?_ ?_
    ·intro hc1
     refine v_region ?_; intro K41 k41
     refine zMove ⟨?_⟩
     refine zMove ⟨?_⟩
     refine zLen ⟨?_⟩
     refine zBuildSlice ⟨?_⟩
     refine v_op ?_; intro K k
     simp only [zE, zM, aStepM, optable, set_some, Nat.reduceEqDiff, reduceIte, Nat.reduceLT, implies_true, forall_const, reduceCtorEq, V.ofValue, V.ofScalar, V.un, V.gd, aExec, lentIds, lendOf, ‹Tys _›.h, ‹Fc _›.h]
     repeat (refine andC ?_)
     refine aCall_lent2XA (among_con code a95 s95 [-1, (l.length : Int)] (by simp) hcode hcl (by omega)) ?_
     rintro _ _ ⟨v100, a100, s100, h100, k100, rfl, rfl⟩
     refine ⟨_, _, _, rfl, by first | exact .inr (List.all_eq_true.1 rfl) | exact .inl ⟨rfl, by simp [Blk.kindIs, fillK_fd]⟩, ?_⟩
     refine k _ ?_; clear k K
     simp only [zY, zW, set_some, Nat.reduceEqDiff, reduceIte, rho_one, rho_s, rho2_s, rho2_0, rho2_1, V.ren, V.renL, List.set_cons_zero, List.set_cons_succ, rho, Nat.reduceAdd, Nat.add_zero]
     simp only [List.mem_cons, List.not_mem_nil, or_false] at h100
     refine zAssign ⟨?_⟩
     refine k41 _ ?_
     refine n38 _ _ (weak_keep [3, 9, 10, 11, 12, 13, 14] _) ?_
     refine zk ⟨?_⟩
     refine v_seq ?_; intro Q42 n42 e42 r42
     refine v_draw (by kernel_rfl) ?_; intro K43 q43 k43
     show aAny _ _ _ _ 12 (Array.replicate 12 false) _
     refine zdMove q43 true 0 101 ?_
     refine zdLoad q43 true 1 102 ?_
     refine zdMove q43 false 2 103 ?_
     refine zdMove q43 false 3 104 ?_
     refine zdMove q43 false 4 105 ?_
     refine zdMove q43 false 5 106 ?_
     refine zoAssign 6 ⟨?_⟩
     refine zoStore 7 ⟨?_⟩
     refine zoAssign 8 ⟨?_⟩
     refine zoAssign 9 ⟨?_⟩
     refine zoAssign 10 ⟨?_⟩
     refine zoAssign 11 ⟨?_⟩
     refine aAny_done (by kernel_rfl) ?_
     refine k43 _ ?_
     refine n42 _ _ (weak_keep [2, 3, 4, 5, 6, 7] _) ?_
     refine zk ⟨?_⟩
     refine v_ret ?_
     refine r0 _ ?_
     refine zf ⟨?_⟩
     simp only [zE, zL, zO, zN, aStepM, optable, set_some, Nat.reduceEqDiff, reduceIte, Nat.reduceLT, implies_true, forall_const, reduceCtorEq, V.ofValue, V.ofScalar, V.un, V.gd, aLoad, row_mk, Blk.row, PartOK, Go.Vm.part, V.cells, V.noSl, V.noRef, Nat.reduceAdd, Nat.reduceLeDiff, Nat.reduceMul, Tryd.underlying3, Ty.c3, Ty.a3, Tryd.underlying25, Ty.c25, Ty.a25]
     refine ret_viewX ?_
     exact ⟨l, p, m, rr, v100, eb2, ei2, ek2, ⟨hq1, hq2⟩, rfl, rfl⟩
    ·intro hc1
     refine v_skip ?_
     refine n38 _ _ (weak_keep [3, 9, 10, 11, 12, 13, 14] _) ?_
     refine zk ⟨?_⟩
     refine v_seq ?_; intro Q44 n44 e44 r44
     refine v_draw (by kernel_rfl) ?_; intro K45 q45 k45
     show aAny _ _ _ _ 12 (Array.replicate 12 false) _
     refine zdMove q45 true 0 101 ?_
     refine zdLoad q45 true 1 102 ?_
     refine zdMove q45 false 2 103 ?_
     refine zdMove q45 false 3 104 ?_
     refine zdMove q45 false 4 105 ?_
     refine zdMove q45 false 5 106 ?_
     refine zoAssign 6 ⟨?_⟩
     refine zoStore 7 ⟨?_⟩
     refine zoAssign 8 ⟨?_⟩
     refine zoAssign 9 ⟨?_⟩
     refine zoAssign 10 ⟨?_⟩
     refine zoAssign 11 ⟨?_⟩
     refine aAny_done (by kernel_rfl) ?_
     refine k45 _ ?_
     refine n44 _ _ (weak_keep [2, 3, 4, 5, 6, 7] _) ?_
     refine zk ⟨?_⟩
     refine v_ret ?_
     refine r0 _ ?_
     refine zf ⟨?_⟩
     simp only [zE, zL, zO, zN, aStepM, optable, set_some, Nat.reduceEqDiff, reduceIte, Nat.reduceLT, implies_true, forall_const, reduceCtorEq, V.ofValue, V.ofScalar, V.un, V.gd, aLoad, row_mk, Blk.row, PartOK, Go.Vm.part, V.cells, V.noSl, V.noRef, Nat.reduceAdd, Nat.reduceLeDiff, Nat.reduceMul, Tryd.underlying3, Ty.c3, Ty.a3, Tryd.underlying25, Ty.c25, Ty.a25]
     refine ret_viewX ?_
     exact ⟨l, p, m, rr, ea2, eb2, ei2, ek2, ⟨hq1, hq2⟩, rfl, rfl⟩
end Go.Proofs.YtbameklegpgkfaaDoor
