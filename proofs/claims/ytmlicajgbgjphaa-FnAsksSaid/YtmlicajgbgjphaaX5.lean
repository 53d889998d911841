/- What functions compute. No condition. -/
import Derived.Test.YtmlicajgbgjphaaUty
import Derived.Test.YtmlicajgbgjphaaUmG
import Derived.Test.YtmlicajgbgjphaaX3
import Derived.Test.YtmlicajgbgjphaaX1
import Derived.Test.YtmlicajgbgjphaaX4
set_option linter.unusedSimpArgs false
set_option linter.unusedVariables false
set_option linter.defProp false
namespace Go.Proofs.Ytmlicajgbgjphaa
open Go Go.Vm

theorem ansL_no {h u : Int} {a : (Int × Int × Int)} {sk ln : Int} (q : (ansL h u a sk ln).2 = false) : (ansL h u a sk ln).1 = (h, u) := by
  unfold ansL at q ⊢
  split at q
  · cases q
  · rename_i h2; rw [if_neg h2]
theorem two_list {xs : List Int} (h : xs.length = 2) : ∃ a b, xs = [a, b] := by
  match xs, h with
  | [a, b], _ => exact ⟨a, b, rfl⟩

set_option maxHeartbeats 6000000 in
theorem lawFnAsks_con (c1 c2 : List Int) (hc1 : ∀ x ∈ c1, 0 ≤ x ∧ x ≤ 255) (hc2 : ∀ x ∈ c2, 0 ≤ x ∧ x ≤ 255) (hn1 : c1.length ≤ 9223372036854775807) (hn2 : c2.length ≤ 9223372036854775807) : Con Try.prog 3 [.sl (c1.map (V.int .u8)), .sl (c2.map (V.int .u8))] [] (.bool true) [] := by
 refine v_con [.tmp 4] [] Try.func3 rfl rfl rfl (by simp [Try.ntmps3]) ?_
 intro Q0 n0 r0
 simp only [Try.ntmps3, envFrom, Nat.reduceAdd]
 have T := Tys.mk (And.intro Ty.t3 (And.intro Ty.t4 (And.intro Ty.t5 (And.intro Ty.t22 (And.intro Ty.t24 (And.intro Ty.t25 (And.intro Ty.t28 (And.intro Ty.t31 Ty.t35))))))))
 have F := Fc.mk True.intro
 refine v_seqR [0,1] ?_; intro K1 k1
 refine zAssign ⟨?_⟩
 refine k1 _ ?_
 refine zk ⟨?_⟩
 refine v_seq ?_; intro Q2 n2 e2 r2
 refine v_seqR [0,1,45] ?_; intro K3 k3
 refine zMove ⟨?_⟩
 refine zLen ⟨?_⟩
 refine zMove ⟨?_⟩
 refine zLen ⟨?_⟩
 refine zBinOpW ⟨?_⟩
 refine zBinOp ⟨?_⟩
 refine k3 _ ?_
 refine zk ⟨?_⟩
 refine v_condS _ rfl ?_ ?_
 ·intro hc0
  refine v_seqR [4] ?_; intro K5 k5
  refine zAssign ⟨?_⟩
  refine k5 _ ?_
  refine zk ⟨?_⟩
  refine v_ret ?_
  refine r2 _ ?_
  refine r0 _ ?_
  refine zf ⟨?_⟩
  exact ret_pure rfl rfl (.inl rfl)
 ·intro hc0
  refine v_skip ?_
  refine n2 _ _ (weak_keep [0, 1] _) ?_
  refine zk ⟨?_⟩
  refine v_seqR [1,5,6,7,8] ?_; intro K6 k6
  refine zMove ⟨?_⟩
  refine v_op ?_; intro K k
  simp only [zE, zM, aStepM, optable, set_some, Nat.reduceEqDiff, reduceIte, Nat.reduceLT, implies_true, forall_const, reduceCtorEq, V.ofValue, V.ofScalar, V.un, V.gd, aExec, lentIds, lendOf, ‹Tys _›.h, ‹Fc _›.h]
  repeat (refine andC ?_)
  refine aCall_newXA (drawRunAsks_con c1 hc1 hn1) ?_
  rintro _ _ ⟨h, u, l, sk, ln, hql, rfl, rfl⟩
  refine ⟨by first | exact .inl ⟨rfl, by simp [Blk.kindIs, fillK_fd]⟩ | exact .inr (by simp [V.coldIn, V.cold, idx]), ?_⟩
  refine k _ ?_; clear k K
  simp only [zY, zW, set_some, Nat.reduceEqDiff, reduceIte, rho_one, rho_s, V.ren, V.renL, List.set_cons_zero, List.set_cons_succ, rho, Nat.reduceAdd, Nat.add_zero]
  have hrl := runR_len (x := (h, u)) (l := l) (sk := sk) (ln := ln) (by omega)
  refine zMove ⟨?_⟩
  refine zExtract ⟨?_⟩
  refine zExtract ⟨?_⟩
  refine zExtract ⟨?_⟩
  refine zExtract ⟨?_⟩
  refine zAlloc ⟨?_⟩
  refine zStore ⟨?_⟩
  refine zAssign ⟨?_⟩
  refine zAssign ⟨?_⟩
  refine zAssign ⟨?_⟩
  refine k6 _ ?_
  refine zk ⟨?_⟩
  refine v_seqR [1,5,6,7,8,9,10,11] ?_; intro K7 k7
  refine zLoad ⟨?_⟩
  refine zMove ⟨?_⟩
  refine zMove ⟨?_⟩
  refine zMove ⟨?_⟩
  refine zc (implRunAsks_con h u l sk ln (by omega)) ⟨?_⟩
  refine zMove ⟨?_⟩
  refine zExtract ⟨?_⟩
  refine zExtract ⟨?_⟩
  refine zExtract ⟨?_⟩
  refine zAlloc ⟨?_⟩
  refine zStore ⟨?_⟩
  refine zAssign ⟨?_⟩
  refine zAssign ⟨?_⟩
  refine k7 _ ?_
  refine zk ⟨?_⟩
  refine v_seqR [1,5,6,7,8,9,10,11,12,13,14] ?_; intro K8 k8
  refine zLoad ⟨?_⟩
  refine zMove ⟨?_⟩
  refine zMove ⟨?_⟩
  refine zMove ⟨?_⟩
  refine zc (specRunAsks_con h u l sk ln (by omega)) ⟨?_⟩
  refine zMove ⟨?_⟩
  refine zExtract ⟨?_⟩
  refine zExtract ⟨?_⟩
  refine zExtract ⟨?_⟩
  refine zAlloc ⟨?_⟩
  refine zStore ⟨?_⟩
  refine zAssign ⟨?_⟩
  refine zAssign ⟨?_⟩
  refine k8 _ ?_
  refine zk ⟨?_⟩
  refine v_seqR [1,5,6,7,8,9,10,11,12,13,14,15,16] ?_; intro K9 k9
  refine zLoad ⟨?_⟩
  refine zMove ⟨?_⟩
  refine zMove ⟨?_⟩
  refine zMove ⟨?_⟩
  refine zc (implSentBy_con h u l sk ln (by omega)) ⟨?_⟩
  refine zMove ⟨?_⟩
  refine zExtract ⟨?_⟩
  refine zExtract ⟨?_⟩
  refine zAssign ⟨?_⟩
  refine zAssign ⟨?_⟩
  refine k9 _ ?_
  refine zk ⟨?_⟩
  refine v_seqR [1,5,6,7,8,9,10,11,12,13,14,15,16,17,18] ?_; intro K10 k10
  refine zLoad ⟨?_⟩
  refine zMove ⟨?_⟩
  refine zMove ⟨?_⟩
  refine zMove ⟨?_⟩
  refine zc (specSentBy_con h u l sk ln (by omega)) ⟨?_⟩
  refine zMove ⟨?_⟩
  refine zExtract ⟨?_⟩
  refine zExtract ⟨?_⟩
  refine zAssign ⟨?_⟩
  refine zAssign ⟨?_⟩
  refine k10 _ ?_
  refine zk ⟨?_⟩
  refine v_seqR [5,6,7,8,9,10,11,12,13,14,15,16,17,18,19,20,21,22] ?_; intro K11 k11
  refine zMove ⟨?_⟩
  refine v_op ?_; intro K k
  simp only [zE, zM, aStepM, optable, set_some, Nat.reduceEqDiff, reduceIte, Nat.reduceLT, implies_true, forall_const, reduceCtorEq, V.ofValue, V.ofScalar, V.un, V.gd, aExec, lentIds, lendOf, ‹Tys _›.h, ‹Fc _›.h]
  repeat (refine andC ?_)
  refine aCall_newXA (drawAnswerAsk_con c2 hc2 hn2) ?_
  rintro _ _ ⟨yh, yu, z0, z1, z2, sk2, ln2, _, rfl, rfl⟩
  refine ⟨by first | exact .inl ⟨rfl, by simp [Blk.kindIs, fillK_fd]⟩ | exact .inr (by simp [V.coldIn, V.cold, idx]), ?_⟩
  refine k _ ?_; clear k K
  simp only [zY, zW, set_some, Nat.reduceEqDiff, reduceIte, rho_one, rho_s, V.ren, V.renL, List.set_cons_zero, List.set_cons_succ, rho, Nat.reduceAdd, Nat.add_zero]
  refine zMove ⟨?_⟩
  refine zExtract ⟨?_⟩
  refine zExtract ⟨?_⟩
  refine zExtract ⟨?_⟩
  refine zExtract ⟨?_⟩
  refine zAlloc ⟨?_⟩
  refine zAlloc ⟨?_⟩
  refine zStore ⟨?_⟩
  refine zStore ⟨?_⟩
  refine zAssign ⟨?_⟩
  refine zAssign ⟨?_⟩
  refine k11 _ ?_
  refine zk ⟨?_⟩
  refine v_seqR [5,6,7,8,9,10,11,12,13,14,15,16,17,18,19,20,21,22,23,24,25] ?_; intro K12 k12
  refine zLoad ⟨?_⟩
  refine zLoad ⟨?_⟩
  refine zMove ⟨?_⟩
  refine zMove ⟨?_⟩
  refine zc (implAnswerAsk_con yh yu z0 z1 z2 sk2 ln2) ⟨?_⟩
  refine zMove ⟨?_⟩
  refine zExtract ⟨?_⟩
  refine zExtract ⟨?_⟩
  refine zExtract ⟨?_⟩
  refine zAlloc ⟨?_⟩
  refine zStore ⟨?_⟩
  refine zAssign ⟨?_⟩
  refine zAssign ⟨?_⟩
  refine k12 _ ?_
  refine zk ⟨?_⟩
  refine v_seqR [5,6,7,8,9,10,11,12,13,14,15,16,17,18,19,23,24,25,26,27,28] ?_; intro K13 k13
  refine zLoad ⟨?_⟩
  refine zLoad ⟨?_⟩
  refine zMove ⟨?_⟩
  refine zMove ⟨?_⟩
  refine zc (specAnswerAsk_con yh yu z0 z1 z2 sk2 ln2) ⟨?_⟩
  refine zMove ⟨?_⟩
  refine zExtract ⟨?_⟩
  refine zExtract ⟨?_⟩
  refine zExtract ⟨?_⟩
  refine zAlloc ⟨?_⟩
  refine zStore ⟨?_⟩
  refine zAssign ⟨?_⟩
  refine zAssign ⟨?_⟩
  refine k13 _ ?_
  refine zk ⟨?_⟩
  refine v_seq ?_; intro Q14 n14 e14 r14
  refine v_seqR [5,6,7,8,11,12,13,17,19,25,26,27,156] ?_; intro K15 k15
  refine zMove ⟨?_⟩
  refine zMove ⟨?_⟩
  refine zBinOp ⟨?_⟩
  refine zMove ⟨?_⟩
  refine zgLoad ⟨?_⟩
  refine zgLoad ⟨?_⟩
  refine zgBinOp ⟨?_⟩
  refine zPick ⟨?_⟩
  refine zMove ⟨?_⟩
  refine zgMove ⟨?_⟩
  refine zgMove ⟨?_⟩
  refine zgc (qYes_con (runR (h, u) l sk ln).2 hrl) ⟨?_⟩
  refine zgUnOp ⟨?_⟩
  refine zPick ⟨?_⟩
  refine zMove ⟨?_⟩
  refine zgMove ⟨?_⟩
  refine zgMove ⟨?_⟩
  refine zgBinOp ⟨?_⟩
  refine zPick ⟨?_⟩
  refine zMove ⟨?_⟩
  refine zgMove ⟨?_⟩
  refine zgMove ⟨?_⟩
  refine zgc (qInts_con (sentR (h, u) l sk ln) (Nat.le_trans (sentR_len (h, u) l sk ln) (by omega))) ⟨?_⟩
  refine zgUnOp ⟨?_⟩
  refine zPick ⟨?_⟩
  refine zMove ⟨?_⟩
  refine zgMove ⟨?_⟩
  refine zgMove ⟨?_⟩
  refine zgBinOp ⟨?_⟩
  refine zPick ⟨?_⟩
  refine zMove ⟨?_⟩
  refine zgLoad ⟨?_⟩
  refine zgLoad ⟨?_⟩
  refine zgBinOp ⟨?_⟩
  refine zPick ⟨?_⟩
  refine zMove ⟨?_⟩
  refine zgMove ⟨?_⟩
  refine zgMove ⟨?_⟩
  refine zgBinOp ⟨?_⟩
  refine zPick ⟨?_⟩
  refine zMove ⟨?_⟩
  refine zgMove ⟨?_⟩
  refine zgMove ⟨?_⟩
  refine zgBinOp ⟨?_⟩
  refine zPick ⟨?_⟩
  refine k15 _ ?_
  refine zk ⟨?_⟩
  refine v_cond _ rfl ?_ ?_
  ·intro hc1
   exfalso; simp at hc1
  ·intro hc1
   try simp only [zC, reduceCtorEq] at hc1
   refine v_skip ?_
   refine n14 _ _ (weak_keep [5, 6, 7, 8, 11, 12, 13, 17, 19, 25, 26, 27] _) ?_
   refine zk ⟨?_⟩
   refine v_seq ?_; intro Q17 n17 e17 r17
   refine v_seqR [5,6,7,8,12,13,17,19,25,26,27,157] ?_; intro K18 k18
   refine zMove ⟨?_⟩
   refine k18 _ ?_
   refine zk ⟨?_⟩
   refine v_condS _ rfl ?_ ?_
   ·intro hc2
    have hB : (runB (h, u) l sk ln) = true := hc2
    obtain ⟨gs, hgs⟩ : ∃ gs, gs = (runTo (h, u) l sk ln).2 := ⟨_, rfl⟩
    have hrx : (runR (h, u) l sk ln) = runTo (h, u) l sk ln := by rw [runR, hB]; rfl
    have hS : (sentR (h, u) l sk ln) = sentTo l gs l.length := by rw [sentR, hB, hgs]; rfl
    have hB2 := hB
    simp only [runB, Bool.and_eq_true, List.all_eq_true] at hB2
    obtain ⟨⟨⟨hle0, hlen⟩, hreq⟩, hpar⟩ := hB2
    refine v_seqR [6,7,8,12,13,17,19,25,26,27,29] ?_; intro K20 k20
    refine zLoad ⟨?_⟩
    refine zAlloc ⟨?_⟩
    refine zStore ⟨?_⟩
    refine k20 _ ?_
    refine zk ⟨?_⟩
    refine v_seqR [6,7,8,12,13,17,19,25,26,27,29,30,31] ?_; intro K21 k21
    refine zAssign ⟨?_⟩
    refine zAssign ⟨?_⟩
    refine k21 _ ?_
    refine zk ⟨?_⟩
    refine v_seq ?_; intro Q22 n22 e22 r22
    refine v_seqR [7,8,12,13,17,19,25,26,27,29,30,31,159,160,161] ?_; intro K23 k23
    refine zMove ⟨?_⟩
    refine zLen ⟨?_⟩
    refine zMove ⟨?_⟩
    refine k23 _ ?_
    refine zk ⟨?_⟩
    refine v_block ?_; intro Q24 n24 x24 e24 r24
    refine v_loop (fun p => ⟨[(7, .int .i64 sk), (8, .int .i64 ln), (12, .ptr 2 0 0), (13, .ref 1), (17, .ref 3), (19, .ptr 4 0 0), (25, .bool (askOk yh yu (z0, z1, z2) sk2 ln2)), (26, .ptr 5 0 0), (27, .bool ((askOk yh yu (z0, z1, z2) sk2 ln2) && (ansL yh yu (z0, z1, z2) sk2 ln2).2)), (29, .ptr 6 0 0), (30, .int .i64 p.2.2.2.1), (31, .int .i64 p.2.2.2.2), (159, .ref 0), (160, .int .i64 l.length), (161, .int .i64 (Nat.cast p.1))], [.arr (l.map (fun t : Int × Int × Int => V.agg [V.int .i64 t.1, V.int .i64 t.2.1, V.int .i64 t.2.2])) .flat, .arr ((runR (h, u) l sk ln).2.map V.bool) .flat, .box (.agg [.int .i64 (runR (h, u) l sk ln).1.1, .int .i64 (runR (h, u) l sk ln).1.2]) .flat, .arr ((sentR (h, u) l sk ln).map (V.int .i64)) .flat, .box (.agg [.int .i64 yh, .int .i64 yu]) .flat, .box (.agg [.int .i64 (if (askOk yh yu (z0, z1, z2) sk2 ln2) = true then (ansL yh yu (z0, z1, z2) sk2 ln2).1 else (0, 0)).1, .int .i64 (if (askOk yh yu (z0, z1, z2) sk2 ln2) = true then (ansL yh yu (z0, z1, z2) sk2 ln2).1 else (0, 0)).2]) .flat, .box (.agg [.int .i64 p.2.1, .int .i64 p.2.2.1]) .flat], false, 253, 0⟩) (fun p => p.1 ≤ l.length ∧ ((p.2.1, p.2.2.1) : Int × Int) = (runTo (h, u) (l.take p.1) sk ln).1 ∧ [p.2.2.2.1, p.2.2.2.2] = sentTo l gs p.1) (fun p => l.length - p.1) ((0, h, u, 0, 0) : Nat × Int × Int × Int × Int) ?_ ?_ ?_
    ·refine weak_bothS [7, 8, 12, 13, 17, 19, 25, 26, 27, 29, 30, 31, 159, 160, 161] [0, 4, 5, 7, 8, 11, 12] ⟨?_⟩
     rfl
    ·exact ⟨Nat.zero_le _, rfl, rfl⟩
    ·rintro ⟨i, nh, nu, f1, f2⟩ hok25 Q25 n25 e25 r25
     obtain ⟨hi1, hR, hF⟩ := hok25
     simp only [] at hi1 hR hF ⊢
     refine v_seqR [7,8,12,13,17,19,25,26,27,29,30,31,159,160,161,162] ?_; intro K26 k26
     refine zBinOp ⟨?_⟩
     refine k26 _ ?_
     refine zk ⟨?_⟩
     refine v_seq ?_; intro Q27 n27 e27 r27
     refine v_condS _ rfl ?_ ?_
     ·intro hc3
      have hlt : i < l.length := by omega
      obtain ⟨⟨x0, x1, x2⟩, hx⟩ : ∃ x : Int × Int × Int, l[i]? = some x := ⟨l[i]'(by omega), List.getElem?_eq_getElem (by omega)⟩
      have hlo : leB nh nu = true := by have q := run_ok (x := (h, u)) l sk ln hle0 i hi1; rw [← hR] at q; exact q
      have hk : askOk nh nu (x0, x1, x2) sk ln = true := by rw [askOk, hlo, hreq _ (List.mem_of_getElem? hx), hpar]; rfl
      have hrq := req_bounds (hreq _ (List.mem_of_getElem? hx))
      simp only [] at hrq
      have hgi0 := run_bit (x := (h, u)) (sk := sk) (ln := ln) hlt (Nat.le_refl _) hx
      rw [List.take_length, ← hR] at hgi0
      have hgi : (runR (h, u) l sk ln).2[i]? = some (ansL nh nu (x0, x1, x2) sk ln).2 := by rw [hrx]; exact hgi0
      have hgg : gs[i]? = some (ansL nh nu (x0, x1, x2) sk ln).2 := by rw [hgs]; exact hgi0
      have hil := (List.getElem?_eq_some_iff.1 hgi).1
      have hst := run_step (x := (h, u)) (sk := sk) (ln := ln) hx
      have hss := sent_step hx hgg
      have hst1 : (runTo (h, u) (l.take (i + 1)) sk ln).1 = (ansL nh nu (x0, x1, x2) sk ln).1 := by rw [hst, runF, ← hR]
      have hfb := sent_le l gs i
      rw [← hF] at hfb
      have hf1 := hfb f1 (by simp)
      have hf2 := hfb f2 (by simp)
      rcases (Bool.eq_false_or_eq_true (ansL nh nu (x0, x1, x2) sk ln).2).symm with hb | hb
      ·skip
       have hsm := ansL_no hb
       have hs1 : (ansL nh nu (x0, x1, x2) sk ln).1.1 = nh := by rw [hsm]
       have hs2 : (ansL nh nu (x0, x1, x2) sk ln).1.2 = nu := by rw [hsm]
       refine v_skip ?_
       refine n27 _ _ (weak_keep [7, 8, 12, 13, 17, 19, 25, 26, 27, 29, 30, 31, 159, 160, 161] _) ?_
       refine zk ⟨?_⟩
       refine v_seq ?_; intro Q29 n29 e29 r29
       refine v_block ?_; intro Q30 n30 x30 e30 r30
       refine v_seqR [7,8,12,13,17,19,25,26,27,29,30,31,32,33,159,160,161] ?_; intro K31 k31
       have F := Fc.mk (And.intro (fun f => getD_map (f := f) hx) (And.intro (fun f => getD_map (f := f) hgi) (And.intro hb (And.intro hs1 hs2))))
       refine zMove ⟨?_⟩
       refine zIndexAddr ⟨?_⟩
       refine zLoad ⟨?_⟩
       refine zAlloc ⟨?_⟩
       refine zAssign ⟨?_⟩
       refine zStore ⟨?_⟩
       refine k31 _ ?_
       refine zk ⟨?_⟩
       refine v_seqR [7,8,12,13,17,19,25,26,27,29,30,31,32,33,34,35,36,159,160,161] ?_; intro K32 k32
       refine zLoad ⟨?_⟩
       refine zLoad ⟨?_⟩
       refine zMove ⟨?_⟩
       refine zMove ⟨?_⟩
       refine zc ((by have q := implAnswerAsk_con nh nu x0 x1 x2 sk ln; simp only [hk, if_true, Bool.true_and] at q; exact q)) ⟨?_⟩
       refine zMove ⟨?_⟩
       refine zExtract ⟨?_⟩
       refine zExtract ⟨?_⟩
       refine zExtract ⟨?_⟩
       refine zAlloc ⟨?_⟩
       refine zStore ⟨?_⟩
       refine zAssign ⟨?_⟩
       refine zAssign ⟨?_⟩
       refine k32 _ ?_
       refine zk ⟨?_⟩
       refine v_seqR [7,8,12,13,17,19,25,26,27,29,30,31,32,33,34,35,36,37,38,39,159,160,161] ?_; intro K33 k33
       refine zLoad ⟨?_⟩
       refine zLoad ⟨?_⟩
       refine zMove ⟨?_⟩
       refine zMove ⟨?_⟩
       refine zc ((by have q := specAnswerAsk_con nh nu x0 x1 x2 sk ln; simp only [hk, if_true, Bool.true_and] at q; exact q)) ⟨?_⟩
       refine zMove ⟨?_⟩
       refine zExtract ⟨?_⟩
       refine zExtract ⟨?_⟩
       refine zExtract ⟨?_⟩
       refine zAlloc ⟨?_⟩
       refine zStore ⟨?_⟩
       refine zAssign ⟨?_⟩
       refine zAssign ⟨?_⟩
       refine k33 _ ?_
       refine zk ⟨?_⟩
       refine v_seq ?_; intro Q34 n34 e34 r34
       refine v_seqR [7,8,12,13,17,19,25,26,27,29,30,31,33,37,38,159,160,161,216] ?_; intro K35 k35
       refine zMove ⟨?_⟩
       refine zUnOp ⟨?_⟩
       refine zMove ⟨?_⟩
       refine zgMove ⟨?_⟩
       refine zgUnOp ⟨?_⟩
       refine zPick ⟨?_⟩
       refine zMove ⟨?_⟩
       refine zgLoad ⟨?_⟩
       refine zgLoad ⟨?_⟩
       refine zgBinOp ⟨?_⟩
       refine zPick ⟨?_⟩
       refine zMove ⟨?_⟩
       refine zgMove ⟨?_⟩
       refine zgMove ⟨?_⟩
       refine zgBinOp ⟨?_⟩
       refine zPick ⟨?_⟩
       refine zMove ⟨?_⟩
       refine zgMove ⟨?_⟩
       refine zgMove ⟨?_⟩
       refine zgMove ⟨?_⟩
       refine zgIndexAddr ⟨?_⟩
       refine zgLoad ⟨?_⟩
       refine zgBinOp ⟨?_⟩
       refine zPick ⟨?_⟩
       refine zMove ⟨?_⟩
       refine zgMove ⟨?_⟩
       refine zgUnOp ⟨?_⟩
       refine zgMove ⟨?_⟩
       refine zgLoad ⟨?_⟩
       refine zgLoad ⟨?_⟩
       refine zgBinOp ⟨?_⟩
       refine zgPick ⟨?_⟩
       refine zPick ⟨?_⟩
       refine k35 _ ?_
       refine zk ⟨?_⟩
       refine v_cond _ rfl ?_ ?_
       ·intro hc4
        exfalso; simp at hc4
       ·intro hc4
        try simp only [zC, reduceCtorEq] at hc4
        refine v_skip ?_
        refine n34 _ _ (weak_keep [7, 8, 12, 13, 17, 19, 25, 26, 27, 29, 30, 31, 33, 37, 38, 159, 160, 161] _) ?_
        refine zk ⟨?_⟩
        refine v_seq ?_; intro Q37 n37 e37 r37
        refine v_seqR [7,8,12,13,17,19,25,26,27,29,30,31,33,37,159,160,161,222] ?_; intro K38 k38
        refine zMove ⟨?_⟩
        refine zMove ⟨?_⟩
        refine zgFieldAddr ⟨?_⟩
        refine zgLoad ⟨?_⟩
        refine zgBinOp ⟨?_⟩
        refine zPick ⟨?_⟩
        refine k38 _ ?_
        refine zk ⟨?_⟩
        refine v_cond _ rfl ?_ ?_
        ·intro hc5
         exfalso; simp at hc5
        ·intro hc5
         try simp only [zC, reduceCtorEq] at hc5
         refine v_skip ?_
         refine n37 _ _ (weak_keep [7, 8, 12, 13, 17, 19, 25, 26, 27, 29, 30, 31, 37, 159, 160, 161] _) ?_
         refine zk ⟨?_⟩
         refine v_region ?_; intro K40 k40
         refine zLoad ⟨?_⟩
         refine zStore ⟨?_⟩
         refine k40 _ ?_
         refine n30 _ ?_
         refine n29 _ _ (weak_keep [7, 8, 12, 13, 17, 19, 25, 26, 27, 29, 30, 31, 159, 160, 161] _) ?_
         refine zk ⟨?_⟩
         refine v_region ?_; intro K41 k41
         refine zBinOpW ⟨?_⟩
         refine zMove ⟨?_⟩
         refine k41 _ ?_
         refine n25 _ (i + 1, nh, nu, f1, f2) ?_ ?_ ?_
         ·refine weak_bothS [7, 8, 12, 13, 17, 19, 25, 26, 27, 29, 30, 31, 159, 160, 161] [0, 1, 2, 3, 4, 5, 6] ⟨?_⟩
          rfl
         ·exact ⟨hlt, by rw [hst1, hsm], by show [f1, f2] = _; rw [hss, if_neg (fun q => by rw [hb] at q; cases q.1), ← hF]⟩
         ·show _ < _; show l.length - (i + 1) < l.length - i; omega
      ·skip
       skip
       refine v_skip ?_
       refine n27 _ _ (weak_keep [7, 8, 12, 13, 17, 19, 25, 26, 27, 29, 30, 31, 159, 160, 161] _) ?_
       refine zk ⟨?_⟩
       refine v_seq ?_; intro Q42 n42 e42 r42
       refine v_block ?_; intro Q43 n43 x43 e43 r43
       refine v_seqR [7,8,12,13,17,19,25,26,27,29,30,31,32,33,159,160,161] ?_; intro K44 k44
       have F := Fc.mk (And.intro (fun f => getD_map (f := f) hx) (And.intro (fun f => getD_map (f := f) hgi) hb))
       refine zMove ⟨?_⟩
       refine zIndexAddr ⟨?_⟩
       refine zLoad ⟨?_⟩
       refine zAlloc ⟨?_⟩
       refine zAssign ⟨?_⟩
       refine zStore ⟨?_⟩
       refine k44 _ ?_
       refine zk ⟨?_⟩
       refine v_seqR [7,8,12,13,17,19,25,26,27,29,30,31,32,33,34,35,36,159,160,161] ?_; intro K45 k45
       refine zLoad ⟨?_⟩
       refine zLoad ⟨?_⟩
       refine zMove ⟨?_⟩
       refine zMove ⟨?_⟩
       refine zc ((by have q := implAnswerAsk_con nh nu x0 x1 x2 sk ln; simp only [hk, if_true, Bool.true_and] at q; exact q)) ⟨?_⟩
       refine zMove ⟨?_⟩
       refine zExtract ⟨?_⟩
       refine zExtract ⟨?_⟩
       refine zExtract ⟨?_⟩
       refine zAlloc ⟨?_⟩
       refine zStore ⟨?_⟩
       refine zAssign ⟨?_⟩
       refine zAssign ⟨?_⟩
       refine k45 _ ?_
       refine zk ⟨?_⟩
       refine v_seqR [7,8,12,13,17,19,25,26,27,29,30,31,32,33,34,35,36,37,38,39,159,160,161] ?_; intro K46 k46
       refine zLoad ⟨?_⟩
       refine zLoad ⟨?_⟩
       refine zMove ⟨?_⟩
       refine zMove ⟨?_⟩
       refine zc ((by have q := specAnswerAsk_con nh nu x0 x1 x2 sk ln; simp only [hk, if_true, Bool.true_and] at q; exact q)) ⟨?_⟩
       refine zMove ⟨?_⟩
       refine zExtract ⟨?_⟩
       refine zExtract ⟨?_⟩
       refine zExtract ⟨?_⟩
       refine zAlloc ⟨?_⟩
       refine zStore ⟨?_⟩
       refine zAssign ⟨?_⟩
       refine zAssign ⟨?_⟩
       refine k46 _ ?_
       refine zk ⟨?_⟩
       refine v_seq ?_; intro Q47 n47 e47 r47
       refine v_seqR [7,8,12,13,17,19,25,26,27,29,30,31,33,37,38,159,160,161,216] ?_; intro K48 k48
       refine zMove ⟨?_⟩
       refine zUnOp ⟨?_⟩
       refine zMove ⟨?_⟩
       refine zgMove ⟨?_⟩
       refine zgUnOp ⟨?_⟩
       refine zPick ⟨?_⟩
       refine zMove ⟨?_⟩
       refine zgLoad ⟨?_⟩
       refine zgLoad ⟨?_⟩
       refine zgBinOp ⟨?_⟩
       refine zPick ⟨?_⟩
       refine zMove ⟨?_⟩
       refine zgMove ⟨?_⟩
       refine zgMove ⟨?_⟩
       refine zgBinOp ⟨?_⟩
       refine zPick ⟨?_⟩
       refine zMove ⟨?_⟩
       refine zgMove ⟨?_⟩
       refine zgMove ⟨?_⟩
       refine zgMove ⟨?_⟩
       refine zgIndexAddr ⟨?_⟩
       refine zgLoad ⟨?_⟩
       refine zgBinOp ⟨?_⟩
       refine zPick ⟨?_⟩
       refine zMove ⟨?_⟩
       refine zgMove ⟨?_⟩
       refine zgUnOp ⟨?_⟩
       refine zgMove ⟨?_⟩
       refine zgLoad ⟨?_⟩
       refine zgLoad ⟨?_⟩
       refine zgBinOp ⟨?_⟩
       refine zgPick ⟨?_⟩
       refine zPick ⟨?_⟩
       refine k48 _ ?_
       refine zk ⟨?_⟩
       refine v_cond _ rfl ?_ ?_
       ·intro hc4
        exfalso; simp at hc4
       ·intro hc4
        try simp only [zC, reduceCtorEq] at hc4
        refine v_skip ?_
        refine n47 _ _ (weak_keep [7, 8, 12, 13, 17, 19, 25, 26, 27, 29, 30, 31, 33, 37, 38, 159, 160, 161] _) ?_
        refine zk ⟨?_⟩
        refine v_seq ?_; intro Q50 n50 e50 r50
        refine v_seqR [7,8,12,13,17,19,25,26,27,29,30,31,33,37,159,160,161,222] ?_; intro K51 k51
        refine zMove ⟨?_⟩
        refine zMove ⟨?_⟩
        refine zgFieldAddr ⟨?_⟩
        refine zgLoad ⟨?_⟩
        refine zgBinOp ⟨?_⟩
        refine zPick ⟨?_⟩
        refine k51 _ ?_
        refine zk ⟨?_⟩
        refine v_condS _ rfl ?_ ?_
        ·intro hc5
         refine v_seqR [7,8,12,13,17,19,25,26,27,29,30,31,37,159,160,161,225] ?_; intro K53 k53
         refine zFieldAddr ⟨?_⟩
         refine zLoad ⟨?_⟩
         refine zBinOp ⟨?_⟩
         refine k53 _ ?_
         refine zk ⟨?_⟩
         refine v_condS _ rfl ?_ ?_
         ·intro hc6
          refine v_region ?_; intro K55 k55
          refine zMove ⟨?_⟩
          refine zBinOpW ⟨?_⟩
          refine zAssign ⟨?_⟩
          refine k55 _ ?_
          refine n50 _ _ (weak_keep [7, 8, 12, 13, 17, 19, 25, 26, 27, 29, 30, 31, 37, 159, 160, 161] _) ?_
          refine zk ⟨?_⟩
          refine v_region ?_; intro K56 k56
          refine zLoad ⟨?_⟩
          refine zStore ⟨?_⟩
          refine k56 _ ?_
          refine n43 _ ?_
          refine n42 _ _ (weak_keep [7, 8, 12, 13, 17, 19, 25, 26, 27, 29, 30, 31, 159, 160, 161] _) ?_
          refine zk ⟨?_⟩
          refine v_region ?_; intro K57 k57
          refine zBinOpW ⟨?_⟩
          refine zMove ⟨?_⟩
          refine k57 _ ?_
          refine n25 _ (i + 1, (ansL nh nu (x0, x1, x2) sk ln).1.1, (ansL nh nu (x0, x1, x2) sk ln).1.2, f1 + 1, f2) ?_ ?_ ?_
          ·refine weak_bothS [7, 8, 12, 13, 17, 19, 25, 26, 27, 29, 30, 31, 159, 160, 161] [0, 1, 2, 3, 4, 5, 6] ⟨?_⟩
           rfl
          ·exact ⟨hlt, by rw [hst1], by show [f1 + 1, f2] = _; rw [hss, if_pos ⟨hb, hc5⟩, sentF, ← hF, show x1 = 1 from hc6]; rfl⟩
          ·show _ < _; show l.length - (i + 1) < l.length - i; omega
         ·intro hc6
          refine v_region ?_; intro K58 k58
          refine zMove ⟨?_⟩
          refine zBinOpW ⟨?_⟩
          refine zAssign ⟨?_⟩
          refine k58 _ ?_
          refine n50 _ _ (weak_keep [7, 8, 12, 13, 17, 19, 25, 26, 27, 29, 30, 31, 37, 159, 160, 161] _) ?_
          refine zk ⟨?_⟩
          refine v_region ?_; intro K59 k59
          refine zLoad ⟨?_⟩
          refine zStore ⟨?_⟩
          refine k59 _ ?_
          refine n43 _ ?_
          refine n42 _ _ (weak_keep [7, 8, 12, 13, 17, 19, 25, 26, 27, 29, 30, 31, 159, 160, 161] _) ?_
          refine zk ⟨?_⟩
          refine v_region ?_; intro K60 k60
          refine zBinOpW ⟨?_⟩
          refine zMove ⟨?_⟩
          refine k60 _ ?_
          refine n25 _ (i + 1, (ansL nh nu (x0, x1, x2) sk ln).1.1, (ansL nh nu (x0, x1, x2) sk ln).1.2, f1, f2 + 1) ?_ ?_ ?_
          ·refine weak_bothS [7, 8, 12, 13, 17, 19, 25, 26, 27, 29, 30, 31, 159, 160, 161] [0, 1, 2, 3, 4, 5, 6] ⟨?_⟩
           rfl
          ·exact ⟨hlt, by rw [hst1], by show [f1, f2 + 1] = _; rw [hss, if_pos ⟨hb, hc5⟩, sentF, ← hF, show x1 = 2 by omega]; rfl⟩
          ·show _ < _; show l.length - (i + 1) < l.length - i; omega
        ·intro hc5
         refine v_skip ?_
         refine n50 _ _ (weak_keep [7, 8, 12, 13, 17, 19, 25, 26, 27, 29, 30, 31, 37, 159, 160, 161] _) ?_
         refine zk ⟨?_⟩
         refine v_region ?_; intro K61 k61
         refine zLoad ⟨?_⟩
         refine zStore ⟨?_⟩
         refine k61 _ ?_
         refine n43 _ ?_
         refine n42 _ _ (weak_keep [7, 8, 12, 13, 17, 19, 25, 26, 27, 29, 30, 31, 159, 160, 161] _) ?_
         refine zk ⟨?_⟩
         refine v_region ?_; intro K62 k62
         refine zBinOpW ⟨?_⟩
         refine zMove ⟨?_⟩
         refine k62 _ ?_
         refine n25 _ (i + 1, (ansL nh nu (x0, x1, x2) sk ln).1.1, (ansL nh nu (x0, x1, x2) sk ln).1.2, f1, f2) ?_ ?_ ?_
         ·refine weak_bothS [7, 8, 12, 13, 17, 19, 25, 26, 27, 29, 30, 31, 159, 160, 161] [0, 1, 2, 3, 4, 5, 6] ⟨?_⟩
          rfl
         ·exact ⟨hlt, by rw [hst1], by show [f1, f2] = _; rw [hss, if_neg (fun q => hc5 q.2), ← hF]⟩
         ·show _ < _; show l.length - (i + 1) < l.length - i; omega
     ·intro hc3
      have hend : i = l.length := by omega
      have hnn : ((nh, nu) : Int × Int) = (runR (h, u) l sk ln).1 := by rw [hR, hend, List.take_length, hrx]
      obtain ⟨rfl, rfl⟩ : nh = (runR (h, u) l sk ln).1.1 ∧ nu = (runR (h, u) l sk ln).1.2 := ⟨congrArg Prod.fst hnn, congrArg Prod.snd hnn⟩
      have hse : (sentR (h, u) l sk ln) = [f1, f2] := by rw [hS, ← hend, ← hF]
      refine v_exit ?_
      refine e27 _ _ ?_
      refine e25 _ _ ?_
      refine x24 _ ?_
      refine n22 _ _ (weak_keep [12, 17, 19, 25, 26, 27, 29, 30, 31] _) ?_
      refine zk ⟨?_⟩
      refine v_seqR [19,25,26,27,242] ?_; intro K63 k63
      have F := Fc.mk (And.intro @decide_true (And.intro @Bool.not_true @Bool.not_false))
      refine zLoad ⟨?_⟩
      refine zLoad ⟨?_⟩
      refine zBinOp ⟨?_⟩
      refine zMove ⟨?_⟩
      refine zgMove ⟨?_⟩
      refine zgMove ⟨?_⟩
      refine zgMove ⟨?_⟩
      refine zgBuildSlice ⟨?_⟩
      refine zgc ((show Con Try.prog 17 [.sl ((sentR (h, u) l sk ln).map (V.int .i64)), .sl [.int .i64 f1, .int .i64 f2]] [] (.bool true) [] from by rw [hse]; exact qInts_con [f1, f2] (by simp))) ⟨?_⟩
      refine zgUnOp ⟨?_⟩
      refine zPick ⟨?_⟩
      refine k63 _ ?_
      refine zk ⟨?_⟩
      refine v_cond _ rfl ?_ ?_
      ·intro hc7
       exfalso; simp at hc7
      ·intro hc7
       try simp only [zC, reduceCtorEq] at hc7
       refine v_skip ?_
       refine n17 _ _ (weak_keep [19, 25, 26, 27] _) ?_
       refine zk ⟨?_⟩
       refine v_seqR [4] ?_; intro K65 k65
       refine zMove ⟨?_⟩
       refine zUnOp ⟨?_⟩
       refine zMove ⟨?_⟩
       refine zgMove ⟨?_⟩
       refine zPick ⟨?_⟩
       refine zMove ⟨?_⟩
       refine zgLoad ⟨?_⟩
       refine zgLoad ⟨?_⟩
       refine zgBinOp ⟨?_⟩
       refine zPick ⟨?_⟩
       refine zAssign ⟨?_⟩
       refine k65 _ ?_
       refine zk ⟨?_⟩
       refine v_ret ?_
       refine r0 _ ?_
       refine zf ⟨?_⟩
       refine ret_pure rfl ?_ (.inl rfl)
       cases hk2 : (askOk yh yu (z0, z1, z2) sk2 ln2) with
       |false => simp [hk2]
       |true =>
        cases ha2 : (ansL yh yu (z0, z1, z2) sk2 ln2).2 with
        |true => simp [hk2, ha2]
        |false => (have hno := ansL_no ha2; simp [hk2, ha2, hno])
   ·intro hc2
    refine v_skip ?_
    refine n17 _ _ (weak_keep [19, 25, 26, 27] _) ?_
    refine zk ⟨?_⟩
    refine v_seqR [4] ?_; intro K66 k66
    refine zMove ⟨?_⟩
    refine zUnOp ⟨?_⟩
    refine zMove ⟨?_⟩
    refine zgMove ⟨?_⟩
    refine zPick ⟨?_⟩
    refine zMove ⟨?_⟩
    refine zgLoad ⟨?_⟩
    refine zgLoad ⟨?_⟩
    refine zgBinOp ⟨?_⟩
    refine zPick ⟨?_⟩
    refine zAssign ⟨?_⟩
    refine k66 _ ?_
    refine zk ⟨?_⟩
    refine v_ret ?_
    refine r0 _ ?_
    refine zf ⟨?_⟩
    refine ret_pure rfl ?_ (.inl rfl)
    cases hk2 : (askOk yh yu (z0, z1, z2) sk2 ln2) with
    |false => simp [hk2]
    |true =>
     cases ha2 : (ansL yh yu (z0, z1, z2) sk2 ln2).2 with
     |true => simp [hk2, ha2]
     |false => (have hno := ansL_no ha2; simp [hk2, ha2, hno])
end Go.Proofs.Ytmlicajgbgjphaa
