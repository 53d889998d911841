/- What functions compute. No condition. -/
import Derived.Test.YtmlicajgbgjphaaUty
import Derived.Test.YtmlicajgbgjphaaUmG
import Derived.Test.YtmlicajgbgjphaaX8
import Derived.Test.YtmlicajgbgjphaaX7
import Derived.Test.YtmlicajgbgjphaaX6
import Derived.Test.YtmlicajgbgjphaaX2
import Derived.Test.YtmlicajgbgjphaaX1
set_option linter.unusedSimpArgs false
set_option linter.unusedVariables false
set_option linter.defProp false
namespace Go.Proofs.Ytmlicajgbgjphaa
open Go Go.Vm

set_option maxRecDepth 8000 in
set_option maxHeartbeats 6000000 in
theorem lawFnRosters_con (c1 c2 : List Int) (hc1 : ∀ x ∈ c1, 0 ≤ x ∧ x ≤ 255) (hc2 : ∀ x ∈ c2, 0 ≤ x ∧ x ≤ 255) (hn1 : c1.length ≤ 9223372036854775807) (hn2 : c2.length ≤ 9223372036854775807) : Con Try.prog 7 [.sl (c1.map (V.int .u8)), .sl (c2.map (V.int .u8))] [] (.bool true) [] := by
 refine v_con [.tmp 4] [] Try.func7 rfl rfl rfl (by simp [Try.ntmps7]) ?_
 intro Q0 n0 r0
 simp only [Try.ntmps7, envFrom, Nat.reduceAdd]
 have T := Tys.mk (And.intro Ty.t3 (And.intro Ty.t4 (And.intro Ty.t5 (And.intro Ty.t22 (And.intro Ty.t31 (And.intro Ty.t87 Ty.t104))))))
 have F := Fc.mk True.intro
 refine v_seqR [0,1] ?_; intro K1 k1
 refine zAssign ⟨?_⟩
 refine k1 _ ?_
 refine zk ⟨?_⟩
 refine v_seq ?_; intro Q2 n2 e2 r2
 refine v_seqR [0,1,44] ?_; intro K3 k3
 refine zMove ⟨?_⟩
 refine zLen ⟨?_⟩
 refine zMove ⟨?_⟩
 refine zLen ⟨?_⟩
 refine zBinOpW ⟨?_⟩
 refine zBinOp ⟨?_⟩
 refine k3 _ ?_
 refine zk ⟨?_⟩
 refine v_condS _ rfl ?_ ?_
 ·intro hc0
  refine v_seqR [4] ?_; intro K5 k5
  refine zAssign ⟨?_⟩
  refine k5 _ ?_
  refine zk ⟨?_⟩
  refine v_ret ?_
  refine r2 _ ?_
  refine r0 _ ?_
  refine zf ⟨?_⟩
  exact ret_pure rfl rfl (by first | exact .inl rfl | exact .inr rfl)
 ·intro hc0
  refine v_skip ?_
  refine n2 _ _ (weak_keep [0, 1] _) ?_
  refine zk ⟨?_⟩
  refine v_seqR [1,5,6] ?_; intro K6 k6
  refine zMove ⟨?_⟩
  refine v_op ?_; intro K k
  simp only [zE, zM, aStepM, optable, set_some, Nat.reduceEqDiff, reduceIte, Nat.reduceLT, implies_true, forall_const, reduceCtorEq, V.ofValue, V.ofScalar, V.un, V.gd, aExec, lentIds, lendOf, ‹Tys _›.h, ‹Fc _›.h]
  repeat (refine andC ?_)
  refine aCall_newXA (drawMakeRoster_con c1 hc1 hn1) ?_
  rintro _ _ ⟨N, pa, pb, pc, hqN, rfl, rfl⟩
  refine ⟨by first | exact .inl ⟨rfl, by simp [Blk.kindIs, fillK_fd]⟩ | exact .inr (by simp [V.coldIn, V.cold, idx]), ?_⟩
  refine k _ ?_; clear k K
  simp only [zY, zW, set_some, Nat.reduceEqDiff, reduceIte, rho_one, rho_s, V.ren, V.renL, List.set_cons_zero, List.set_cons_succ, rho, Nat.reduceAdd, Nat.add_zero]
  have hmf := mkR2_facts pa pb pc N
  refine zMove ⟨?_⟩
  refine zExtract ⟨?_⟩
  refine zExtract ⟨?_⟩
  refine zAlloc ⟨?_⟩
  refine zAssign ⟨?_⟩
  refine zStore ⟨?_⟩
  refine k6 _ ?_
  refine zk ⟨?_⟩
  refine v_seqR [1,5,6,7,8] ?_; intro K7 k7
  refine zMove ⟨?_⟩
  refine zLoad ⟨?_⟩
  refine zc (implMakeRoster_con N pa pb pc (by omega)) ⟨?_⟩
  refine zMove ⟨?_⟩
  refine zExtract ⟨?_⟩
  refine zExtract ⟨?_⟩
  refine zAssign ⟨?_⟩
  refine zAssign ⟨?_⟩
  refine k7 _ ?_
  refine zk ⟨?_⟩
  refine v_seqR [1,5,6,7,8,9,10] ?_; intro K8 k8
  refine zMove ⟨?_⟩
  refine zLoad ⟨?_⟩
  refine zc (specMakeRoster_con N pa pb pc (by omega)) ⟨?_⟩
  refine zMove ⟨?_⟩
  refine zExtract ⟨?_⟩
  refine zExtract ⟨?_⟩
  refine zAssign ⟨?_⟩
  refine zAssign ⟨?_⟩
  refine k8 _ ?_
  refine zk ⟨?_⟩
  refine v_seqR [1,5,6,7,8,9,10,11,12,13] ?_; intro K9 k9
  refine zMove ⟨?_⟩
  refine v_op ?_; intro K k
  simp only [zE, zM, aStepM, optable, set_some, Nat.reduceEqDiff, reduceIte, Nat.reduceLT, implies_true, forall_const, reduceCtorEq, V.ofValue, V.ofScalar, V.un, V.gd, aExec, lentIds, lendOf, ‹Tys _›.h, ‹Fc _›.h]
  repeat (refine andC ?_)
  refine aCall_newXA (drawFewestPeople_con c2 hc2 hn2) ?_
  rintro _ _ ⟨U, fb, fc, hqU, rfl, rfl⟩
  refine ⟨by first | exact .inl ⟨rfl, by simp [Blk.kindIs, fillK_fd]⟩ | exact .inr (by simp [V.coldIn, V.cold, idx]), ?_⟩
  refine k _ ?_; clear k K
  simp only [zY, zW, set_some, Nat.reduceEqDiff, reduceIte, rho_one, rho_s, V.ren, V.renL, List.set_cons_zero, List.set_cons_succ, rho, Nat.reduceAdd, Nat.add_zero]
  refine zMove ⟨?_⟩
  refine zExtract ⟨?_⟩
  refine zExtract ⟨?_⟩
  refine zExtract ⟨?_⟩
  refine zAssign ⟨?_⟩
  refine zAssign ⟨?_⟩
  refine zAssign ⟨?_⟩
  refine k9 _ ?_
  refine zk ⟨?_⟩
  refine v_seqR [1,5,6,7,8,9,10,11,12,13,14,15] ?_; intro K10 k10
  refine zMove ⟨?_⟩
  refine zMove ⟨?_⟩
  refine zMove ⟨?_⟩
  refine zc (implFewest_con U fb fc (by omega)) ⟨?_⟩
  refine zMove ⟨?_⟩
  refine zExtract ⟨?_⟩
  refine zExtract ⟨?_⟩
  refine zAssign ⟨?_⟩
  refine zAssign ⟨?_⟩
  refine k10 _ ?_
  refine zk ⟨?_⟩
  refine v_seqR [1,5,6,7,8,9,10,11,12,13,14,15,16,17] ?_; intro K11 k11
  refine zMove ⟨?_⟩
  refine zMove ⟨?_⟩
  refine zMove ⟨?_⟩
  refine zc (specFewest_con U fb fc (by omega)) ⟨?_⟩
  refine zMove ⟨?_⟩
  refine zExtract ⟨?_⟩
  refine zExtract ⟨?_⟩
  refine zAssign ⟨?_⟩
  refine zAssign ⟨?_⟩
  refine k11 _ ?_
  refine zk ⟨?_⟩
  refine v_seqR [5,6,7,8,9,10,11,12,13,14,15,16,17,18,19,20] ?_; intro K12 k12
  refine zMove ⟨?_⟩
  refine v_op ?_; intro K k
  simp only [zE, zM, aStepM, optable, set_some, Nat.reduceEqDiff, reduceIte, Nat.reduceLT, implies_true, forall_const, reduceCtorEq, V.ofValue, V.ofScalar, V.un, V.gd, aExec, lentIds, lendOf, ‹Tys _›.h, ‹Fc _›.h]
  repeat (refine andC ?_)
  refine aCall_newXA (drawOpenShifts_con c2 hc2 hn2) ?_
  rintro _ _ ⟨L, kk, n, C, ⟨hqL, hqx, hqn, hqC⟩, rfl, rfl⟩
  refine ⟨by first | exact .inl ⟨rfl, by simp [Blk.kindIs, fillK_fd]⟩ | exact .inr (by simp [V.coldIn, V.cold, idx]), ?_⟩
  refine k _ ?_; clear k K
  simp only [zY, zW, set_some, Nat.reduceEqDiff, reduceIte, rho_one, rho_s, V.ren, V.renL, List.set_cons_zero, List.set_cons_succ, rho, Nat.reduceAdd, Nat.add_zero]
  refine zMove ⟨?_⟩
  refine zExtract ⟨?_⟩
  refine zExtract ⟨?_⟩
  refine zExtract ⟨?_⟩
  refine zAssign ⟨?_⟩
  refine zAssign ⟨?_⟩
  refine zAssign ⟨?_⟩
  refine k12 _ ?_
  refine zk ⟨?_⟩
  refine v_seqR [5,6,7,8,9,10,11,12,13,14,15,16,17,18,19,20,21,22] ?_; intro K13 k13
  refine zMove ⟨?_⟩
  refine zMove ⟨?_⟩
  refine zMove ⟨?_⟩
  refine zc (implOpenShifts_con L n C (by omega) (fun l h => Nat.le_trans (hqx l h) (by omega)) (by omega)) ⟨?_⟩
  refine zMove ⟨?_⟩
  refine zExtract ⟨?_⟩
  refine zExtract ⟨?_⟩
  refine zAssign ⟨?_⟩
  refine zAssign ⟨?_⟩
  refine k13 _ ?_
  refine zk ⟨?_⟩
  refine v_seqR [5,6,7,8,9,10,11,12,13,14,15,16,17,18,20,21,22,23,24] ?_; intro K14 k14
  refine zMove ⟨?_⟩
  refine zMove ⟨?_⟩
  refine zMove ⟨?_⟩
  refine zc (specOpenShifts_con L n C (by omega) (fun l h => Nat.le_trans (hqx l h) (by omega)) (by omega)) ⟨?_⟩
  refine zMove ⟨?_⟩
  refine zExtract ⟨?_⟩
  refine zExtract ⟨?_⟩
  refine zAssign ⟨?_⟩
  refine zAssign ⟨?_⟩
  refine k14 _ ?_
  refine zk ⟨?_⟩
  refine v_seq ?_; intro Q15 n15 e15 r15
  refine v_seq ?_; intro Q16 n16 e16 r16
  refine v_draw (by kernel_rfl) ?_; intro K17 q17 k17
  show aAny _ _ _ _ 37 (Array.replicate 37 false) _
  refine zdMove q17 true 0 102 ?_
  refine zdMove q17 true 1 103 ?_
  refine zdBinOp q17 true 2 104 ?_
  refine zdMove q17 true 3 105 ?_
  refine zdgMove q17 true 4 106 ?_
  refine zdgMove q17 true 5 107 ?_
  first
  |refine zogc 6 (qLists_con (mkR2 pa pb pc N) (by omega) (fun l h => Nat.le_trans (hmf.2 l h) (by omega))) ⟨?_⟩
  |(refine aAny_pass 6 108 3 false rfl rfl (show 108 < 255 by decide) (by kernel_rfl) rfl ?_ ?_; (focus first | rfl | (simp only [zV, guardV, Nat.reduceEqDiff, reduceIte]; done)); simp only [zW, set_some, Nat.reduceEqDiff, reduceIte])
  refine zdgUnOp q17 true 7 109 ?_
  refine zdPick q17 true 8 110 ?_
  refine zdMove q17 true 9 111 ?_
  refine zdgMove q17 true 10 112 ?_
  refine zdgMove q17 true 11 113 ?_
  refine zdgBinOp q17 true 12 114 ?_
  refine zdPick q17 true 13 115 ?_
  refine zdMove q17 true 14 116 ?_
  refine zdgMove q17 true 15 117 ?_
  refine zdgMove q17 true 16 118 ?_
  refine zdgBinOp q17 true 17 119 ?_
  refine zdPick q17 true 18 120 ?_
  refine zdMove q17 true 19 121 ?_
  refine zdgMove q17 true 20 122 ?_
  refine zdgMove q17 true 21 123 ?_
  refine zdgBinOp q17 true 22 124 ?_
  refine zdPick q17 true 23 125 ?_
  refine zdMove q17 true 24 126 ?_
  refine zdgMove q17 true 25 127 ?_
  refine zdgMove q17 true 26 128 ?_
  first
  |refine zogc 27 (qInts_con (openR L n C) (Nat.le_trans (openR_len L n C) (by omega))) ⟨?_⟩
  |(refine aAny_pass 27 129 24 false rfl rfl (show 129 < 255 by decide) (by kernel_rfl) rfl ?_ ?_; (focus first | rfl | (simp only [zV, guardV, Nat.reduceEqDiff, reduceIte]; done)); simp only [zW, set_some, Nat.reduceEqDiff, reduceIte])
  refine zdgUnOp q17 true 28 130 ?_
  refine zdPick q17 true 29 131 ?_
  refine zdMove q17 true 30 132 ?_
  refine zdgLoad q17 true 31 133 ?_
  refine zdgLoad q17 true 33 135 ?_
  first
  |refine zogc 32 (implIsDuty_con pa pb pc) ⟨?_⟩
  |(refine aAny_pass 32 134 30 false rfl rfl (show 134 < 255 by decide) (by kernel_rfl) rfl ?_ ?_; (focus first | rfl | (simp only [zV, guardV, Nat.reduceEqDiff, reduceIte]; done)); simp only [zW, set_some, Nat.reduceEqDiff, reduceIte])
  first
  |refine zogc 34 (specIsDuty_con pa pb pc) ⟨?_⟩
  |(refine aAny_pass 34 136 30 false rfl rfl (show 136 < 255 by decide) (by kernel_rfl) rfl ?_ ?_; (focus first | rfl | (simp only [zV, guardV, Nat.reduceEqDiff, reduceIte]; done)); simp only [zW, set_some, Nat.reduceEqDiff, reduceIte])
  refine zdgBinOp q17 true 35 137 ?_
  refine zdPick q17 true 36 138 ?_
  refine aAny_done (by kernel_rfl) ?_
  refine k17 _ ?_
  refine n16 _ _ (weak_keep [5, 6, 7, 8, 9, 11, 12, 13, 14, 15, 16, 18, 20, 22, 23, 138] _) ?_
  refine zk ⟨?_⟩
  refine v_cond _ rfl ?_ ?_
  ·intro hc1
   exfalso; simp at hc1
  ·intro hc1
   try simp only [zC, reduceCtorEq] at hc1
   refine v_skip ?_
   refine n15 _ _ (weak_keep [5, 6, 7, 8, 9, 11, 12, 13, 14, 15, 16, 18, 20, 22, 23] _) ?_
   refine zk ⟨?_⟩
   refine v_join (A := Unit) (fun u0 => ⟨[(11, .ref 0), (12, .int .i64 fb), (13, .int .i64 fc), (14, .int .i64 (fewI (few fb fc U))), (15, .bool (few fb fc U).isSome), (16, .int .i64 (fewI (few fb fc U))), (18, .ref 1), (20, .ref 2), (22, .bool (openB L n C)), (23, .ref 3)], [.arr (U.map (V.int .i64)) .flat, .arr (L.map (fun l : List Int => V.sl (l.map (V.int .i64)))) (fillK kk), .arr (C.map (V.int .i64)) .flat, .arr ((openR L n C).map (V.int .i64)) .flat], true, 255, 0⟩) (fun u0 => True) ?_ ?_
   ·intro Q19 n19 e19 r19
    refine v_seq ?_; intro Q20 n20 e20 r20
    refine v_region ?_; intro K21 k21
    refine zMove ⟨?_⟩
    refine k21 _ ?_
    apply n20
    ·apply weak_trans (weak_keep [5, 6, 7, 9, 11, 12, 13, 14, 15, 16, 18, 20, 22, 23, 139] _)
     simp only [keep_mk, keepE_nil, keepE_cons, look_cons, look_nil, Nat.reduceEqDiff, reduceIte]
     exact weak_view
    try simp only [atSlot_cons, atSlot_nil, Nat.reduceEqDiff, reduceIte, List.set_cons_zero, List.set_cons_succ]
    refine v_condS _ rfl ?_ ?_
    ·intro hc2
     have hok : mkB2 pa pb pc N = true := hc2
     have hal := mk_all hok
     have hkp := mk_keeps hok
     have hop := mk_open hok
     have hro := mk_roster hok
     refine v_seqR [5,6,7,9,11,12,13,14,15,16,18,20,22,23,25,26] ?_; intro K23 k23
     refine zMove ⟨?_⟩
     refine zLoad ⟨?_⟩
     refine zc (implKeepsRules_con (mkR2 pa pb pc N) pa pb pc (by omega) (fun l h => Nat.le_trans (hmf.2 l h) (by omega))) ⟨?_⟩
     refine zMove ⟨?_⟩
     refine zExtract ⟨?_⟩
     refine zExtract ⟨?_⟩
     refine zAssign ⟨?_⟩
     refine zAssign ⟨?_⟩
     refine k23 _ ?_
     refine zk ⟨?_⟩
     refine v_seqR [5,6,7,9,11,12,13,14,15,16,18,20,22,23,25,26,27,28] ?_; intro K24 k24
     refine zMove ⟨?_⟩
     refine zFieldAddr ⟨?_⟩
     refine zLoad ⟨?_⟩
     refine zMove ⟨?_⟩
     refine zc (implOpenShifts_con (mkR2 pa pb pc N) pa N (by omega) (fun l h => Nat.le_trans (hmf.2 l h) (by omega)) (by omega)) ⟨?_⟩
     refine zMove ⟨?_⟩
     refine zExtract ⟨?_⟩
     refine zExtract ⟨?_⟩
     refine zAssign ⟨?_⟩
     refine zAssign ⟨?_⟩
     refine k24 _ ?_
     refine zk ⟨?_⟩
     refine v_seq ?_; intro Q25 n25 e25 r25
     refine v_seqR [5,9,11,12,13,14,15,16,18,20,22,23,175] ?_; intro K26 k26
     refine zMove ⟨?_⟩
     refine zUnOp ⟨?_⟩
     refine zMove ⟨?_⟩
     refine zgMove ⟨?_⟩
     refine zgUnOp ⟨?_⟩
     refine zPick ⟨?_⟩
     refine zMove ⟨?_⟩
     refine zgMove ⟨?_⟩
     refine zgUnOp ⟨?_⟩
     refine zPick ⟨?_⟩
     refine zMove ⟨?_⟩
     refine zgMove ⟨?_⟩
     refine zgLen ⟨?_⟩
     refine zgBinOp ⟨?_⟩
     refine zPick ⟨?_⟩
     refine zMove ⟨?_⟩
     refine zgMove ⟨?_⟩
     refine zgFieldAddr ⟨?_⟩
     refine zgLoad ⟨?_⟩
     refine zgc (implIsRoster_con (mkR2 pa pb pc N) pa (by omega) (fun l h => Nat.le_trans (hmf.2 l h) (by omega))) ⟨?_⟩
     refine zgUnOp ⟨?_⟩
     refine zPick ⟨?_⟩
     refine k26 _ ?_
     refine zk ⟨?_⟩
     refine v_cond _ rfl ?_ ?_
     ·intro hc3
      exfalso; simp [hkp.1, hkp.2, hro, hop.1, hop.2] at hc3
     ·intro hc3
      try simp only [zC, reduceCtorEq] at hc3
      refine v_skip ?_
      refine n25 _ _ (weak_keep [5, 9, 11, 12, 13, 14, 15, 16, 18, 20, 22, 23] _) ?_
      refine zk ⟨?_⟩
      refine v_seqR [5,11,12,13,14,15,16,18,20,22,23,176,177,178] ?_; intro K28 k28
      refine zMove ⟨?_⟩
      refine zLen ⟨?_⟩
      refine zMove ⟨?_⟩
      refine k28 _ ?_
      refine zk ⟨?_⟩
      refine v_block ?_; intro Q29 n29 x29 e29 r29
      refine v_loop (fun k1 => ⟨[(5, .ref 0), (11, .ref 2), (12, .int .i64 fb), (13, .int .i64 fc), (14, .int .i64 (fewI (few fb fc U))), (15, .bool (few fb fc U).isSome), (16, .int .i64 (fewI (few fb fc U))), (18, .ref 3), (20, .ref 4), (22, .bool (openB L n C)), (23, .ref 5), (176, .ref 1), (177, .int .i64 (mkR2 pa pb pc N).length), (178, .int .i64 (Nat.cast k1))], [.arr (N.map (V.int .i64)) .flat, .arr ((mkR2 pa pb pc N).map (fun l : List Int => V.sl (l.map (V.int .i64)))) (fillK (mkR2 pa pb pc N).length), .arr (U.map (V.int .i64)) .flat, .arr (L.map (fun l : List Int => V.sl (l.map (V.int .i64)))) (fillK kk), .arr (C.map (V.int .i64)) .flat, .arr ((openR L n C).map (V.int .i64)) .flat], true, 255, 0⟩) (fun k1 => k1 ≤ (mkR2 pa pb pc N).length) (fun k1 => (mkR2 pa pb pc N).length - k1) (0 : Nat) ?_ ?_ ?_
      ·refine weak_bothS [5, 11, 12, 13, 14, 15, 16, 18, 20, 22, 23, 176, 177, 178] [0, 3, 4, 5, 6, 8] ⟨?_⟩
       rfl
      ·exact Nat.zero_le _
      ·rintro k1 hok30 Q30 n30 e30 r30
       have hk1 : k1 ≤ (mkR2 pa pb pc N).length := hok30
       refine v_seqR [5,11,12,13,14,15,16,18,20,22,23,176,177,178,179] ?_; intro K31 k31
       refine zBinOp ⟨?_⟩
       refine k31 _ ?_
       refine zk ⟨?_⟩
       refine v_seq ?_; intro Q32 n32 e32 r32
       refine v_condS _ rfl ?_ ?_
       ·intro hc4
        have hlt : k1 < (mkR2 pa pb pc N).length := by omega
        obtain ⟨x, hx⟩ : ∃ x, (mkR2 pa pb pc N)[k1]? = some x := ⟨(mkR2 pa pb pc N)[k1], List.getElem?_eq_getElem hlt⟩
        obtain ⟨y, hy, hxy⟩ := mk_at hok hx
        have hyl := (List.getElem?_eq_some_iff.1 hy).1
        refine v_skip ?_
        refine n32 _ _ (weak_keep [5, 11, 12, 13, 14, 15, 16, 18, 20, 22, 23, 176, 177, 178] _) ?_
        refine zk ⟨?_⟩
        refine v_seq ?_; intro Q34 n34 e34 r34
        refine v_block ?_; intro Q35 n35 x35 e35 r35
        refine v_seqR [5,11,12,13,14,15,16,18,20,22,23,29,30,176,177,178] ?_; intro K36 k36
        have F := Fc.mk (And.intro (fun f => getD_map (f := f) hx) (fun f => getD_map (f := f) hy))
        refine zMove ⟨?_⟩
        refine zIndexAddr ⟨?_⟩
        refine zLoad ⟨?_⟩
        refine zAssign ⟨?_⟩
        refine zAssign ⟨?_⟩
        refine k36 _ ?_
        refine zk ⟨?_⟩
        refine v_seqR [5,11,12,13,14,15,16,18,20,22,23,176,177,178,189] ?_; intro K37 k37
        refine zMove ⟨?_⟩
        refine zLen ⟨?_⟩
        refine zMove ⟨?_⟩
        refine zMove ⟨?_⟩
        refine zIndexAddr ⟨?_⟩
        refine zLoad ⟨?_⟩
        refine zBinOp ⟨?_⟩
        refine k37 _ ?_
        refine zk ⟨?_⟩
        refine v_cond _ rfl ?_ ?_
        ·intro hc5
         exfalso; simp [hxy] at hc5
        ·intro hc5
         try simp only [zC, reduceCtorEq] at hc5
         refine v_skip ?_
         refine n35 _ ?_
         refine n34 _ _ (weak_keep [5, 11, 12, 13, 14, 15, 16, 18, 20, 22, 23, 176, 177, 178] _) ?_
         refine zk ⟨?_⟩
         refine v_region ?_; intro K39 k39
         refine zBinOpW ⟨?_⟩
         refine zMove ⟨?_⟩
         refine k39 _ ?_
         refine n30 _ (k1 + 1) ?_ ?_ ?_
         ·refine weak_bothS [5, 11, 12, 13, 14, 15, 16, 18, 20, 22, 23, 176, 177, 178] [0, 1, 2, 3, 4, 5] ⟨?_⟩
          rfl
         ·exact hlt
         ·show _ < _; omega
       ·intro hc4
        refine v_exit ?_
        refine e32 _ _ ?_
        refine e30 _ _ ?_
        refine x29 _ ?_
        refine n19 () _ ?_ ?_
        ·trivial
        ·refine weak_both [11, 12, 13, 14, 15, 16, 18, 20, 22, 23] [2, 3, 4, 5] (by decide) (by simp) ?_ ?_ ?_
         ·simp [keep_mk, keepE_nil, keepE_cons, look_cons, V.only, V.onlyL, idx] <;> (first | rfl | decide)
         ·simp [Blk.kindIs, fillK_mix]
         simp only [keep_mk, keepE_nil, keepE_cons, look_cons, look_nil, Nat.reduceEqDiff, reduceIte, St.comp, List.map_cons, List.map_nil, V.ren, V.renL, idx, List.getD_cons_zero, List.getD_cons_succ, Nat.reduceBEq, cond_true, cond_false, Option.map_some, Option.getD_some, Nat.reduceAdd, Nat.beq_eq_true_eq]
         all_goals rfl
    ·intro hc2
     refine v_skip ?_
     refine n19 () _ ?_ ?_
     ·trivial
     ·refine weak_both [11, 12, 13, 14, 15, 16, 18, 20, 22, 23] [4, 5, 6, 8] (by decide) (by simp) ?_ ?_ ?_
      ·simp [keep_mk, keepE_nil, keepE_cons, look_cons, V.only, V.onlyL, idx] <;> (first | rfl | decide)
      ·simp [Blk.kindIs, fillK_mix]
      simp only [keep_mk, keepE_nil, keepE_cons, look_cons, look_nil, Nat.reduceEqDiff, reduceIte, St.comp, List.map_cons, List.map_nil, V.ren, V.renL, idx, List.getD_cons_zero, List.getD_cons_succ, Nat.reduceBEq, cond_true, cond_false, Option.map_some, Option.getD_some, Nat.reduceAdd, Nat.beq_eq_true_eq]
      all_goals rfl
   ·rintro u0 hok19
    have _hu : True := hok19
    refine v_join (A := Unit) (fun u0 => ⟨[(18, .ref 0), (20, .ref 1), (22, .bool (openB L n C)), (23, .ref 2)], [.arr (L.map (fun l : List Int => V.sl (l.map (V.int .i64)))) (fillK kk), .arr (C.map (V.int .i64)) .flat, .arr ((openR L n C).map (V.int .i64)) .flat], true, 255, 0⟩) (fun u0 => True) ?_ ?_
    ·intro Q40 n40 e40 r40
     refine v_seqR [11,12,13,14,16,18,20,22,23,191] ?_; intro K41 k41
     have F := Fc.mk True.intro
     refine zMove ⟨?_⟩
     refine k41 _ ?_
     refine zk ⟨?_⟩
     refine v_condS _ rfl ?_ ?_
     ·intro hc6
      have hone : (few fb fc U).isSome = true := hc6
      have hfg := few_good hone
      refine v_seqR [11,12,13,14,16,18,20,22,23,31,32] ?_; intro K43 k43
      refine zMove ⟨?_⟩
      refine zMove ⟨?_⟩
      refine zMove ⟨?_⟩
      refine zMove ⟨?_⟩
      refine zBuild ⟨?_⟩
      refine zc (implMakeRoster_con U (fewI (few fb fc U)) fb fc (by omega)) ⟨?_⟩
      refine zMove ⟨?_⟩
      refine zExtract ⟨?_⟩
      refine zExtract ⟨?_⟩
      refine zAssign ⟨?_⟩
      refine zAssign ⟨?_⟩
      refine k43 _ ?_
      refine zk ⟨?_⟩
      refine v_seqR [11,12,13,14,16,18,20,22,23,31,32,33,34] ?_; intro K44 k44
      refine zMove ⟨?_⟩
      refine zMove ⟨?_⟩
      refine zMove ⟨?_⟩
      refine zMove ⟨?_⟩
      refine zBuild ⟨?_⟩
      refine zc (specMakeRoster_con U (fewI (few fb fc U)) fb fc (by omega)) ⟨?_⟩
      refine zMove ⟨?_⟩
      refine zExtract ⟨?_⟩
      refine zExtract ⟨?_⟩
      refine zAssign ⟨?_⟩
      refine zAssign ⟨?_⟩
      refine k44 _ ?_
      refine zk ⟨?_⟩
      refine v_seq ?_; intro Q45 n45 e45 r45
      refine v_seqR [11,12,13,14,16,18,20,22,23,221] ?_; intro K46 k46
      refine zMove ⟨?_⟩
      refine zUnOp ⟨?_⟩
      refine zMove ⟨?_⟩
      refine zgMove ⟨?_⟩
      refine zgUnOp ⟨?_⟩
      refine zPick ⟨?_⟩
      refine zMove ⟨?_⟩
      refine zgMove ⟨?_⟩
      refine zgMove ⟨?_⟩
      refine zgc (qLists_con (mkR2 (fewI (few fb fc U)) fb fc U) (by have := (mkR2_facts (fewI (few fb fc U)) fb fc U).1; omega) (fun l h => Nat.le_trans ((mkR2_facts (fewI (few fb fc U)) fb fc U).2 l h) (by omega))) ⟨?_⟩
      refine zgUnOp ⟨?_⟩
      refine zPick ⟨?_⟩
      refine k46 _ ?_
      refine zk ⟨?_⟩
      refine v_cond _ rfl ?_ ?_
      ·intro hc7
       exfalso; simp [hfg.1] at hc7
      ·intro hc7
       try simp only [zC, reduceCtorEq] at hc7
       refine v_skip ?_
       refine n45 _ _ (weak_keep [11, 12, 13, 14, 16, 18, 20, 22, 23] _) ?_
       refine zk ⟨?_⟩
       refine v_seqR [11,12,13,14,18,20,22,23,223] ?_; intro K48 k48
       refine zMove ⟨?_⟩
       refine zBinOp ⟨?_⟩
       refine k48 _ ?_
       refine zk ⟨?_⟩
       refine v_condS _ rfl ?_ ?_
       ·intro hc8
        refine v_seqR [18,20,22,23,36] ?_; intro K50 k50
        refine zMove ⟨?_⟩
        refine zMove ⟨?_⟩
        refine zBinOpW ⟨?_⟩
        refine zMove ⟨?_⟩
        refine zMove ⟨?_⟩
        refine zBuild ⟨?_⟩
        refine zc (implMakeRoster_con U (fewI (few fb fc U) - 1) fb fc (by omega)) ⟨?_⟩
        refine zMove ⟨?_⟩
        refine zExtract ⟨?_⟩
        refine zExtract ⟨?_⟩
        refine zAssign ⟨?_⟩
        refine zAssign ⟨?_⟩
        refine k50 _ ?_
        refine zk ⟨?_⟩
        refine v_seqR [18,20,22,23,234] ?_; intro K51 k51
        refine zMove ⟨?_⟩
        refine k51 _ ?_
        refine zk ⟨?_⟩
        refine v_cond _ rfl ?_ ?_
        ·intro hc9
         exfalso; simp [hfg.2.2 hc8] at hc9
        ·intro hc9
         try simp only [zC, reduceCtorEq] at hc9
         refine v_skip ?_
         refine n40 () _ ?_ ?_
         ·trivial
         ·refine weak_both [18, 20, 22, 23] [1, 2, 3] (by decide) (by simp) ?_ ?_ ?_
          ·simp [keep_mk, keepE_nil, keepE_cons, look_cons, V.only, V.onlyL, idx] <;> (first | rfl | decide)
          ·simp [Blk.kindIs, fillK_mix]
          simp only [keep_mk, keepE_nil, keepE_cons, look_cons, look_nil, Nat.reduceEqDiff, reduceIte, St.comp, List.map_cons, List.map_nil, V.ren, V.renL, idx, List.getD_cons_zero, List.getD_cons_succ, Nat.reduceBEq, cond_true, cond_false, Option.map_some, Option.getD_some, Nat.reduceAdd, Nat.beq_eq_true_eq]
          all_goals rfl
       ·intro hc8
        refine v_skip ?_
        refine n40 () _ ?_ ?_
        ·trivial
        ·refine weak_both [18, 20, 22, 23] [1, 2, 3] (by decide) (by simp) ?_ ?_ ?_
         ·simp [keep_mk, keepE_nil, keepE_cons, look_cons, V.only, V.onlyL, idx] <;> (first | rfl | decide)
         ·simp [Blk.kindIs, fillK_mix]
         simp only [keep_mk, keepE_nil, keepE_cons, look_cons, look_nil, Nat.reduceEqDiff, reduceIte, St.comp, List.map_cons, List.map_nil, V.ren, V.renL, idx, List.getD_cons_zero, List.getD_cons_succ, Nat.reduceBEq, cond_true, cond_false, Option.map_some, Option.getD_some, Nat.reduceAdd, Nat.beq_eq_true_eq]
         all_goals rfl
     ·intro hc6
      refine v_skip ?_
      refine n40 () _ ?_ ?_
      ·trivial
      ·refine weak_both [18, 20, 22, 23] [1, 2, 3] (by decide) (by simp) ?_ ?_ ?_
       ·simp [keep_mk, keepE_nil, keepE_cons, look_cons, V.only, V.onlyL, idx] <;> (first | rfl | decide)
       ·simp [Blk.kindIs, fillK_mix]
       simp only [keep_mk, keepE_nil, keepE_cons, look_cons, look_nil, Nat.reduceEqDiff, reduceIte, St.comp, List.map_cons, List.map_nil, V.ren, V.renL, idx, List.getD_cons_zero, List.getD_cons_succ, Nat.reduceBEq, cond_true, cond_false, Option.map_some, Option.getD_some, Nat.reduceAdd, Nat.beq_eq_true_eq]
       all_goals rfl
    ·rintro u0 hok40
     have _hu : True := hok40
     refine v_seq ?_; intro Q53 n53 e53 r53
     refine v_seqR [18,20,23,235] ?_; intro K54 k54
     have F := Fc.mk True.intro
     refine zMove ⟨?_⟩
     refine k54 _ ?_
     refine zk ⟨?_⟩
     refine v_condS _ rfl ?_ ?_
     ·intro hc10
      have hob : openB L n C = true := hc10
      have hlc : (C.length : Int) = L.length := by simp [openB] at hob; omega
      refine v_seqR [20,23,236,237,238] ?_; intro K56 k56
      refine zMove ⟨?_⟩
      refine zLen ⟨?_⟩
      refine zMove ⟨?_⟩
      refine k56 _ ?_
      refine zk ⟨?_⟩
      refine v_block ?_; intro Q57 n57 x57 e57 r57
      refine v_loop (fun k2 => ⟨[(20, .ref 1), (23, .ref 2), (236, .ref 0), (237, .int .i64 L.length), (238, .int .i64 (Nat.cast k2))], [.arr (L.map (fun l : List Int => V.sl (l.map (V.int .i64)))) (fillK kk), .arr (C.map (V.int .i64)) .flat, .arr ((openR L n C).map (V.int .i64)) .flat], true, 255, 0⟩) (fun k2 => k2 ≤ L.length) (fun k2 => L.length - k2) (0 : Nat) ?_ ?_ ?_
      ·refine weak_bothS [20, 23, 236, 237, 238] [0, 1, 2] ⟨?_⟩
       rfl
      ·exact Nat.zero_le _
      ·rintro k2 hok58 Q58 n58 e58 r58
       have hk2 : k2 ≤ L.length := hok58
       refine v_seqR [20,23,236,237,238,239] ?_; intro K59 k59
       refine zBinOp ⟨?_⟩
       refine k59 _ ?_
       refine zk ⟨?_⟩
       refine v_seq ?_; intro Q60 n60 e60 r60
       refine v_condS _ rfl ?_ ?_
       ·intro hc11
        have hlt : k2 < L.length := by omega
        obtain ⟨x, hx⟩ : ∃ x, L[k2]? = some x := ⟨L[k2], List.getElem?_eq_getElem hlt⟩
        have hxl := hqx x (List.mem_of_getElem? hx)
        obtain ⟨y, hy, hmem⟩ := open_has hob hx
        have hyl := (List.getElem?_eq_some_iff.1 hy).1
        refine v_skip ?_
        refine n60 _ _ (weak_keep [20, 23, 236, 237, 238] _) ?_
        refine zk ⟨?_⟩
        refine v_seq ?_; intro Q62 n62 e62 r62
        refine v_block ?_; intro Q63 n63 x63 e63 r63
        refine v_seqR [20,23,37,38,236,237,238] ?_; intro K64 k64
        have F := Fc.mk (And.intro (fun f => getD_map (f := f) hx) (fun f => getD_map (f := f) hy))
        refine zMove ⟨?_⟩
        refine zIndexAddr ⟨?_⟩
        refine zLoad ⟨?_⟩
        refine zAssign ⟨?_⟩
        refine zAssign ⟨?_⟩
        refine k64 _ ?_
        refine zk ⟨?_⟩
        refine v_seq ?_; intro Q65 n65 e65 r65
        refine v_draw (by kernel_rfl) ?_; intro K66 q66 k66
        show aAny _ _ _ _ 11 (Array.replicate 11 false) _
        refine zdMove q66 true 0 243 ?_
        refine zdMove q66 true 1 244 ?_
        refine zdMove q66 true 3 246 ?_
        refine zdLen q66 true 4 247 ?_
        refine zdMove q66 true 5 248 ?_
        refine zdMove q66 true 6 249 ?_
        refine zdIndexAddr q66 true 7 250 ?_
        refine zdLoad q66 true 8 251 ?_
        refine zdBinOp q66 true 9 252 ?_
        refine zoc 2 (qHas_con (openR L n C) (Nat.cast k2) (Nat.le_trans (openR_len L n C) (by omega))) ⟨?_⟩
        refine zdBinOp q66 true 10 253 ?_
        refine aAny_done (by kernel_rfl) ?_
        refine k66 _ ?_
        refine n65 _ _ (weak_keep [20, 23, 236, 237, 238, 253] _) ?_
        refine zk ⟨?_⟩
        refine v_cond _ rfl ?_ ?_
        ·intro hc12
         exfalso; simp [hmem] at hc12
        ·intro hc12
         try simp only [zC, reduceCtorEq] at hc12
         refine v_skip ?_
         refine n63 _ ?_
         refine n62 _ _ (weak_keep [20, 23, 236, 237, 238] _) ?_
         refine zk ⟨?_⟩
         refine v_region ?_; intro K68 k68
         refine zBinOpW ⟨?_⟩
         refine zMove ⟨?_⟩
         refine k68 _ ?_
         refine n58 _ (k2 + 1) ?_ ?_ ?_
         ·refine weak_bothS [20, 23, 236, 237, 238] [0, 1, 2] ⟨?_⟩
          rfl
         ·exact hlt
         ·show _ < _; omega
       ·intro hc11
        refine v_exit ?_
        refine e60 _ _ ?_
        refine e58 _ _ ?_
        refine x57 _ ?_
        refine n53 _ _ (weak_keep [] _) ?_
        refine zk ⟨?_⟩
        refine v_seqR [4] ?_; intro K69 k69
        refine zAssign ⟨?_⟩
        refine k69 _ ?_
        refine zk ⟨?_⟩
        refine v_ret ?_
        refine r0 _ ?_
        refine zf ⟨?_⟩
        exact ret_pure rfl rfl (by first | exact .inl rfl | exact .inr rfl)
     ·intro hc10
      refine v_skip ?_
      refine n53 _ _ (weak_keep [] _) ?_
      refine zk ⟨?_⟩
      refine v_seqR [4] ?_; intro K70 k70
      refine zAssign ⟨?_⟩
      refine k70 _ ?_
      refine zk ⟨?_⟩
      refine v_ret ?_
      refine r0 _ ?_
      refine zf ⟨?_⟩
      exact ret_pure rfl rfl (by first | exact .inl rfl | exact .inr rfl)
end Go.Proofs.Ytmlicajgbgjphaa
