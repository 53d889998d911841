/- What functions compute. No condition. -/
import Derived.Test.YtbameklegpgkfaaUty
import Derived.Test.YtbameklegpgkfaaUmG
import Derived.Test.YtbameklegpgkfaaX8
import Derived.Test.YtbameklegpgkfaaX1
import Derived.Test.YtbameklegpgkfaaX5
import Derived.Test.YtbameklegpgkfaaX2
import Derived.Test.YtbameklegpgkfaaX3
import Derived.Test.YtbameklegpgkfaaX9
set_option linter.unusedSimpArgs false
set_option linter.unusedVariables false
set_option linter.defProp false
namespace Go.Proofs.Ytbameklegpgkfaa
open Go Go.Vm

set_option maxRecDepth 8000 in
set_option maxHeartbeats 6000000 in
theorem lawFnThings_con (c1 c2 : List Int) (hc1 : ∀ x ∈ c1, 0 ≤ x ∧ x ≤ 255) (hc2 : ∀ x ∈ c2, 0 ≤ x ∧ x ≤ 255) (hn1 : c1.length ≤ 9223372036854775807) (hn2 : c2.length ≤ 9223372036854775807) : Con Try.prog 3 [.sl (c1.map (V.int .u8)), .sl (c2.map (V.int .u8))] [] (.bool true) [] := by
 refine v_con [.tmp 4] [] Try.func3 rfl rfl rfl (by simp [Try.ntmps3]) ?_
 intro Q0 n0 r0
 simp only [Try.ntmps3, envFrom, Nat.reduceAdd]
 have T := Tys.mk (And.intro Ty.t3 (And.intro Ty.t4 (And.intro Ty.t5 (And.intro Ty.t9 (And.intro Ty.t22 (And.intro Ty.t23 (And.intro Ty.t29 (And.intro Ty.t38 Ty.t41))))))))
 have F := Fc.mk True.intro
 refine v_seqR [0,1] ?_; intro K1 k1
 refine zAssign ⟨?_⟩
 refine k1 _ ?_
 refine zk ⟨?_⟩
 refine v_seq ?_; intro Q2 n2 e2 r2
 refine v_seqR [0,1,51] ?_; intro K3 k3
 refine zMove ⟨?_⟩
 refine zLen ⟨?_⟩
 refine zMove ⟨?_⟩
 refine zLen ⟨?_⟩
 refine zBinOpW ⟨?_⟩
 refine zBinOp ⟨?_⟩
 refine k3 _ ?_
 refine zk ⟨?_⟩
 refine v_condS _ rfl ?_ ?_
 ·intro hc0
  refine v_seqR [4] ?_; intro K5 k5
  refine zAssign ⟨?_⟩
  refine k5 _ ?_
  refine zk ⟨?_⟩
  refine v_ret ?_
  refine r2 _ ?_
  refine r0 _ ?_
  refine zf ⟨?_⟩
  exact ret_pure rfl rfl (.inl rfl)
 ·intro hc0
  refine v_skip ?_
  refine n2 _ _ (weak_keep [0, 1] _) ?_
  refine zk ⟨?_⟩
  refine v_seqR [1,5,6] ?_; intro K6 k6
  refine zMove ⟨?_⟩
  refine v_op ?_; intro K k
  simp only [zE, zM, aStepM, optable, set_some, Nat.reduceEqDiff, reduceIte, Nat.reduceLT, implies_true, forall_const, reduceCtorEq, V.ofValue, V.ofScalar, V.un, V.gd, aExec, lentIds, lendOf, ‹Tys _›.h, ‹Fc _›.h]
  repeat (refine andC ?_)
  refine aCall_newXA (drawMissing_con c1 hc1 hn1) ?_
  rintro _ _ ⟨w, t, ⟨⟨hwl, hwz⟩, htl, htz⟩, rfl, rfl⟩
  refine ⟨by first | exact .inl ⟨rfl, by simp [Blk.kindIs, fillK_fd]⟩ | exact .inr (by simp [V.coldIn, V.cold, idx]), ?_⟩
  refine k _ ?_; clear k K
  simp only [zY, zW, set_some, Nat.reduceEqDiff, reduceIte, rho_one, rho_s, V.ren, V.renL, List.set_cons_zero, List.set_cons_succ, rho, Nat.reduceAdd, Nat.add_zero]
  refine zMove ⟨?_⟩
  refine zExtract ⟨?_⟩
  refine zExtract ⟨?_⟩
  refine zAssign ⟨?_⟩
  refine zAssign ⟨?_⟩
  refine k6 _ ?_
  refine zk ⟨?_⟩
  refine v_seqR [1,5,6,7,8] ?_; intro K7 k7
  refine zMove ⟨?_⟩
  refine zMove ⟨?_⟩
  refine zc (implMissing_con w t (by omega) (by omega) (fun x h => Nat.le_trans (hwz x h) (by omega)) (fun x h => Nat.le_trans (htz x h) (by omega))) ⟨?_⟩
  refine zMove ⟨?_⟩
  refine zExtract ⟨?_⟩
  refine zExtract ⟨?_⟩
  refine zAssign ⟨?_⟩
  refine zAssign ⟨?_⟩
  refine k7 _ ?_
  refine zk ⟨?_⟩
  refine v_seqR [1,5,6,7,8,9,10] ?_; intro K8 k8
  refine zMove ⟨?_⟩
  refine zMove ⟨?_⟩
  refine zc (specMissing_con w t (by omega) (by omega) (fun x h => Nat.le_trans (hwz x h) (by omega)) (fun x h => Nat.le_trans (htz x h) (by omega))) ⟨?_⟩
  refine zMove ⟨?_⟩
  refine zExtract ⟨?_⟩
  refine zExtract ⟨?_⟩
  refine zAssign ⟨?_⟩
  refine zAssign ⟨?_⟩
  refine k8 _ ?_
  refine zk ⟨?_⟩
  refine v_seqR [1,5,6,7,8,9,10,11,12] ?_; intro K9 k9
  refine zMove ⟨?_⟩
  refine zMove ⟨?_⟩
  refine zc (implSpare_con w t (by omega) (by omega) (fun x h => Nat.le_trans (hwz x h) (by omega)) (fun x h => Nat.le_trans (htz x h) (by omega))) ⟨?_⟩
  refine zMove ⟨?_⟩
  refine zExtract ⟨?_⟩
  refine zExtract ⟨?_⟩
  refine zAssign ⟨?_⟩
  refine zAssign ⟨?_⟩
  refine k9 _ ?_
  refine zk ⟨?_⟩
  refine v_seqR [1,5,6,7,8,9,10,11,12,13,14] ?_; intro K10 k10
  refine zMove ⟨?_⟩
  refine zMove ⟨?_⟩
  refine zc (specSpare_con w t (by omega) (by omega) (fun x h => Nat.le_trans (hwz x h) (by omega)) (fun x h => Nat.le_trans (htz x h) (by omega))) ⟨?_⟩
  refine zMove ⟨?_⟩
  refine zExtract ⟨?_⟩
  refine zExtract ⟨?_⟩
  refine zAssign ⟨?_⟩
  refine zAssign ⟨?_⟩
  refine k10 _ ?_
  refine zk ⟨?_⟩
  refine v_seqR [5,6,7,8,9,10,11,12,13,14,15,16,17,18] ?_; intro K11 k11
  refine zMove ⟨?_⟩
  refine v_op ?_; intro K k
  simp only [zE, zM, aStepM, optable, set_some, Nat.reduceEqDiff, reduceIte, Nat.reduceLT, implies_true, forall_const, reduceCtorEq, V.ofValue, V.ofScalar, V.un, V.gd, aExec, lentIds, lendOf, ‹Tys _›.h, ‹Fc _›.h]
  repeat (refine andC ?_)
  refine aCall_newXA (drawMove_con c2 hc2 hn2) ?_
  rintro _ _ ⟨fa, fl, ta, tl, s, n, ⟨⟨hfa, hfl, hfz⟩, ⟨hta, hgl, hgz⟩, hsz⟩, rfl, rfl⟩
  refine ⟨by first | exact .inl ⟨rfl, by simp [Blk.kindIs, fillK_fd]⟩ | exact .inr (by simp [V.coldIn, V.cold, idx]), ?_⟩
  refine k _ ?_; clear k K
  simp only [zY, zW, set_some, Nat.reduceEqDiff, reduceIte, rho_one, rho_s, V.ren, V.renL, List.set_cons_zero, List.set_cons_succ, rho, Nat.reduceAdd, Nat.add_zero]
  have hFl : (orN (mvAll fa fl ta tl s n) (takeT fl s n)).length ≤ 18 := orN_len (Nat.le_trans take_len hfl)
  have hTl : (orN (mvAll fa fl ta tl s n) (putT tl s n (dayOf fl s))).length ≤ 19 := orN_len (Nat.le_trans put_len (by omega))
  have hml := missR_len w t
  have hsl := spareR_len w t
  refine zMove ⟨?_⟩
  refine zExtract ⟨?_⟩
  refine zExtract ⟨?_⟩
  refine zExtract ⟨?_⟩
  refine zExtract ⟨?_⟩
  refine zAlloc ⟨?_⟩
  refine zAlloc ⟨?_⟩
  refine zStore ⟨?_⟩
  refine zStore ⟨?_⟩
  refine zAssign ⟨?_⟩
  refine zAssign ⟨?_⟩
  refine k11 _ ?_
  refine zk ⟨?_⟩
  refine v_seqR [5,6,7,8,9,10,11,12,13,14,15,16,17,18,19,20,21] ?_; intro K12 k12
  refine zLoad ⟨?_⟩
  refine zLoad ⟨?_⟩
  refine zMove ⟨?_⟩
  refine zMove ⟨?_⟩
  refine zc (implMove_con fa fl ta tl s n (by omega) (by omega) (fun x h => Nat.le_trans (hfz x h) (by omega)) (by omega) (by omega) (fun x h => Nat.le_trans (hgz x h) (by omega)) (by omega)) ⟨?_⟩
  refine zMove ⟨?_⟩
  refine zExtract ⟨?_⟩
  refine zExtract ⟨?_⟩
  refine zExtract ⟨?_⟩
  refine zAlloc ⟨?_⟩
  refine zAlloc ⟨?_⟩
  refine zStore ⟨?_⟩
  refine zStore ⟨?_⟩
  refine zAssign ⟨?_⟩
  refine k12 _ ?_
  refine zk ⟨?_⟩
  refine v_seqR [5,6,7,8,9,10,11,12,13,14,15,16,17,18,19,20,21,22,23,24] ?_; intro K13 k13
  refine zLoad ⟨?_⟩
  refine zLoad ⟨?_⟩
  refine zMove ⟨?_⟩
  refine zMove ⟨?_⟩
  refine zc (specMove_con fa fl ta tl s n (by omega) (by omega) (fun x h => Nat.le_trans (hfz x h) (by omega)) (by omega) (by omega) (fun x h => Nat.le_trans (hgz x h) (by omega)) (by omega)) ⟨?_⟩
  refine zMove ⟨?_⟩
  refine zExtract ⟨?_⟩
  refine zExtract ⟨?_⟩
  refine zExtract ⟨?_⟩
  refine zAlloc ⟨?_⟩
  refine zAlloc ⟨?_⟩
  refine zStore ⟨?_⟩
  refine zStore ⟨?_⟩
  refine zAssign ⟨?_⟩
  refine k13 _ ?_
  refine zk ⟨?_⟩
  refine v_seq ?_; intro Q14 n14 e14 r14
  refine v_seqR [5,6,8,9,13,15,16,17,18,19,20,21,22,23,157] ?_; intro K15 k15
  refine zMove ⟨?_⟩
  refine zMove ⟨?_⟩
  refine zBinOp ⟨?_⟩
  refine zMove ⟨?_⟩
  refine zgMove ⟨?_⟩
  refine zgMove ⟨?_⟩
  refine zgc (qThings_con (missR w t) (by omega)) ⟨?_⟩
  refine zgUnOp ⟨?_⟩
  refine zPick ⟨?_⟩
  refine zMove ⟨?_⟩
  refine zgMove ⟨?_⟩
  refine zgMove ⟨?_⟩
  refine zgBinOp ⟨?_⟩
  refine zPick ⟨?_⟩
  refine zMove ⟨?_⟩
  refine zgMove ⟨?_⟩
  refine zgMove ⟨?_⟩
  refine zgc (qThings_con (spareR w t) (by omega)) ⟨?_⟩
  refine zgUnOp ⟨?_⟩
  refine zPick ⟨?_⟩
  refine zMove ⟨?_⟩
  refine zgMove ⟨?_⟩
  refine zgMove ⟨?_⟩
  refine zgBinOp ⟨?_⟩
  refine zPick ⟨?_⟩
  refine zMove ⟨?_⟩
  refine zgLoad ⟨?_⟩
  refine zgLoad ⟨?_⟩
  refine zgc (qLoad_con (orS (mvAll fa fl ta tl s n) fa) (orN (mvAll fa fl ta tl s n) (takeT fl s n)) (by omega)) ⟨?_⟩
  refine zgUnOp ⟨?_⟩
  refine zPick ⟨?_⟩
  refine zMove ⟨?_⟩
  refine zgLoad ⟨?_⟩
  refine zgLoad ⟨?_⟩
  refine zgc (qLoad_con (orS (mvAll fa fl ta tl s n) ta) (orN (mvAll fa fl ta tl s n) (putT tl s n (dayOf fl s))) (by omega)) ⟨?_⟩
  refine zgUnOp ⟨?_⟩
  refine zPick ⟨?_⟩
  refine zMove ⟨?_⟩
  refine zgMove ⟨?_⟩
  refine zgMove ⟨?_⟩
  refine zgBinOp ⟨?_⟩
  refine zPick ⟨?_⟩
  refine zMove ⟨?_⟩
  refine zgMove ⟨?_⟩
  refine zgMove ⟨?_⟩
  refine zgc (implAreThings_con w (by omega) (fun x h => Nat.le_trans (hwz x h) (by omega))) ⟨?_⟩
  refine zgMove ⟨?_⟩
  refine zgMove ⟨?_⟩
  refine zgc (implAreThings_con t (by omega) (fun x h => Nat.le_trans (htz x h) (by omega))) ⟨?_⟩
  refine zgPick ⟨?_⟩
  refine zgBinOp ⟨?_⟩
  refine zPick ⟨?_⟩
  refine k15 _ ?_
  refine zk ⟨?_⟩
  refine v_cond _ rfl ?_ ?_
  ·intro hc1
   exfalso; simp [nbeq] at hc1
  ·intro hc1
   try simp only [zC, reduceCtorEq] at hc1
   refine v_skip ?_
   refine n14 _ _ (weak_keep [5, 6, 8, 9, 13, 15, 16, 17, 18, 19, 20, 21, 22, 23] _) ?_
   refine zk ⟨?_⟩
   refine v_join (A := Unit) (fun u0 => ⟨[(15, .ptr 2 0 0), (16, .ptr 3 0 0), (17, .str s), (18, .int .i64 n), (19, .ptr 6 0 0), (20, .ptr 7 0 0), (21, .bool (mvAll fa fl ta tl s n)), (22, .ptr 10 0 0), (23, .ptr 11 0 0)], [.arr (fl.map (fun t : ByteArray × Int × Int => V.agg [V.str t.1, V.int .i64 t.2.1, V.int .i64 t.2.2])) .flat, .arr (tl.map (fun t : ByteArray × Int × Int => V.agg [V.str t.1, V.int .i64 t.2.1, V.int .i64 t.2.2])) .flat, .box (.agg [.str fa, .ref 0]) .mix, .box (.agg [.str ta, .ref 1]) .mix, .arr ((orN (mvAll fa fl ta tl s n) (takeT fl s n)).map (fun t : ByteArray × Int × Int => V.agg [V.str t.1, V.int .i64 t.2.1, V.int .i64 t.2.2])) .thin, .arr ((orN (mvAll fa fl ta tl s n) (putT tl s n (dayOf fl s))).map (fun t : ByteArray × Int × Int => V.agg [V.str t.1, V.int .i64 t.2.1, V.int .i64 t.2.2])) .flat, .box (.agg [.str (orS (mvAll fa fl ta tl s n) fa), .ref 4]) .mix, .box (.agg [.str (orS (mvAll fa fl ta tl s n) ta), .ref 5]) .mix, .arr ((orN (mvAll fa fl ta tl s n) (takeT fl s n)).map (fun t : ByteArray × Int × Int => V.agg [V.str t.1, V.int .i64 t.2.1, V.int .i64 t.2.2])) .flat, .arr ((orN (mvAll fa fl ta tl s n) (putT tl s n (dayOf fl s))).map (fun t : ByteArray × Int × Int => V.agg [V.str t.1, V.int .i64 t.2.1, V.int .i64 t.2.2])) .flat, .box (.agg [.str (orS (mvAll fa fl ta tl s n) fa), .ref 8]) .mix, .box (.agg [.str (orS (mvAll fa fl ta tl s n) ta), .ref 9]) .mix], false, 310, 0⟩) (fun u0 => True) ?_ ?_
   ·intro Q17 n17 e17 r17
    refine v_seqR [5,6,9,13,15,16,17,18,19,20,21,22,23,158] ?_; intro K18 k18
    refine zMove ⟨?_⟩
    refine k18 _ ?_
    refine zk ⟨?_⟩
    refine v_condS _ rfl ?_ ?_
    ·intro hc2
     have hkk : thsB w = true ∧ thsB t = true := by simpa using hc2
     have hkw := (ths_iff w).1 hkk.1
     have hkt := (ths_iff t).1 hkk.2
     have hmr : missR w t = missL w t := by unfold missR; rw [if_pos (by rw [hkk.1, hkk.2]; rfl)]
     have hsr : spareR w t = spareL w t := by unfold spareR; rw [if_pos (by rw [hkk.1, hkk.2]; rfl)]
     have hall := sum_all hkw hkt
     have hmb := miss_cnt hkw hkt
     have hpb := spare_cnt hkw hkt
     rw [← hmr] at hmb
     rw [← hsr] at hpb
     rw [← hmr, ← hsr] at hall
     refine v_seqR [5,6,9,13,15,16,17,18,19,20,21,22,23,25] ?_; intro K20 k20
     refine zAssign ⟨?_⟩
     refine k20 _ ?_
     refine zk ⟨?_⟩
     refine v_seq ?_; intro Q21 n21 e21 r21
     refine v_seqR [6,9,13,15,16,17,18,19,20,21,22,23,25,159,160,161] ?_; intro K22 k22
     refine zMove ⟨?_⟩
     refine zLen ⟨?_⟩
     refine zMove ⟨?_⟩
     refine k22 _ ?_
     refine zk ⟨?_⟩
     refine v_block ?_; intro Q23 n23 x23 e23 r23
     refine v_loop (fun p => ⟨[(6, .ref 1), (9, .ref 2), (13, .ref 3), (15, .ptr 6 0 0), (16, .ptr 7 0 0), (17, .str s), (18, .int .i64 n), (19, .ptr 10 0 0), (20, .ptr 11 0 0), (21, .bool (mvAll fa fl ta tl s n)), (22, .ptr 14 0 0), (23, .ptr 15 0 0), (25, .int .i64 p.2), (159, .ref 0), (160, .int .i64 w.length), (161, .int .i64 (Nat.cast p.1))], [.arr (w.map (fun t : ByteArray × Int × Int => V.agg [V.str t.1, V.int .i64 t.2.1, V.int .i64 t.2.2])) .flat, .arr (t.map (fun t : ByteArray × Int × Int => V.agg [V.str t.1, V.int .i64 t.2.1, V.int .i64 t.2.2])) .flat, .arr ((missR w t).map (fun t : ByteArray × Int × Int => V.agg [V.str t.1, V.int .i64 t.2.1, V.int .i64 t.2.2])) .flat, .arr ((spareR w t).map (fun t : ByteArray × Int × Int => V.agg [V.str t.1, V.int .i64 t.2.1, V.int .i64 t.2.2])) .flat, .arr (fl.map (fun t : ByteArray × Int × Int => V.agg [V.str t.1, V.int .i64 t.2.1, V.int .i64 t.2.2])) .flat, .arr (tl.map (fun t : ByteArray × Int × Int => V.agg [V.str t.1, V.int .i64 t.2.1, V.int .i64 t.2.2])) .flat, .box (.agg [.str fa, .ref 4]) .mix, .box (.agg [.str ta, .ref 5]) .mix, .arr ((orN (mvAll fa fl ta tl s n) (takeT fl s n)).map (fun t : ByteArray × Int × Int => V.agg [V.str t.1, V.int .i64 t.2.1, V.int .i64 t.2.2])) .thin, .arr ((orN (mvAll fa fl ta tl s n) (putT tl s n (dayOf fl s))).map (fun t : ByteArray × Int × Int => V.agg [V.str t.1, V.int .i64 t.2.1, V.int .i64 t.2.2])) .flat, .box (.agg [.str (orS (mvAll fa fl ta tl s n) fa), .ref 8]) .mix, .box (.agg [.str (orS (mvAll fa fl ta tl s n) ta), .ref 9]) .mix, .arr ((orN (mvAll fa fl ta tl s n) (takeT fl s n)).map (fun t : ByteArray × Int × Int => V.agg [V.str t.1, V.int .i64 t.2.1, V.int .i64 t.2.2])) .flat, .arr ((orN (mvAll fa fl ta tl s n) (putT tl s n (dayOf fl s))).map (fun t : ByteArray × Int × Int => V.agg [V.str t.1, V.int .i64 t.2.1, V.int .i64 t.2.2])) .flat, .box (.agg [.str (orS (mvAll fa fl ta tl s n) fa), .ref 12]) .mix, .box (.agg [.str (orS (mvAll fa fl ta tl s n) ta), .ref 13]) .mix], false, 310, 0⟩) (fun p => p.1 ≤ w.length ∧ p.2 = 0 + sumC (w.take p.1) ∧ 0 ≤ p.2 ∧ p.2 ≤ 99 * (p.1 : Int)) (fun p => w.length - p.1) ((0, 0) : Nat × Int) ?_ ?_ ?_
     ·refine weak_bothN [6, 9, 13, 15, 16, 17, 18, 19, 20, 21, 22, 23, 25, 159, 160, 161] [0, 1, 3, 5, 6, 7, 9, 11, 12, 13, 15, 17, 18, 19, 21, 23] ⟨?_⟩
      rfl
     ·exact ⟨Nat.zero_le _, rfl, by simp⟩
     ·rintro ⟨i, sm⟩ hok24 Q24 n24 e24 r24
      obtain ⟨hi1, hS, hsb⟩ := hok24
      simp only [] at hi1 hS hsb ⊢
      refine v_seqR [6,9,13,15,16,17,18,19,20,21,22,23,25,159,160,161,162] ?_; intro K25 k25
      refine zBinOp ⟨?_⟩
      refine k25 _ ?_
      refine zk ⟨?_⟩
      refine v_seq ?_; intro Q26 n26 e26 r26
      refine v_condS _ rfl ?_ ?_
      ·intro hc3
       have hlt : i < w.length := by omega
       obtain ⟨⟨x0, x1, x2⟩, hx⟩ : ∃ x : ByteArray × Int × Int, w[i]? = some x := ⟨w[i]'(by omega), List.getElem?_eq_getElem (by omega)⟩
       have hxb := (fun x h => (hkw.ok x h).2.1) _ (List.mem_of_getElem? hx)
       simp only [] at hxb
       refine v_skip ?_
       refine n26 _ _ (weak_keep [6, 9, 13, 15, 16, 17, 18, 19, 20, 21, 22, 23, 25, 159, 160, 161] _) ?_
       refine zk ⟨?_⟩
       refine v_seq ?_; intro Q28 n28 e28 r28
       refine v_block ?_; intro Q29 n29 x29 e29 r29
       refine v_seqR [6,9,13,15,16,17,18,19,20,21,22,23,25,27,159,160,161] ?_; intro K30 k30
       have F := Fc.mk (fun f => getD_map (f := f) hx)
       refine zIndexAddr ⟨?_⟩
       refine zLoad ⟨?_⟩
       refine zAlloc ⟨?_⟩
       refine zStore ⟨?_⟩
       refine k30 _ ?_
       refine zk ⟨?_⟩
       refine v_region ?_; intro K31 k31
       refine zMove ⟨?_⟩
       refine zFieldAddr ⟨?_⟩
       refine zLoad ⟨?_⟩
       refine zBinOpW ⟨?_⟩
       refine zAssign ⟨?_⟩
       refine k31 _ ?_
       refine n29 _ ?_
       refine n28 _ _ (weak_keep [6, 9, 13, 15, 16, 17, 18, 19, 20, 21, 22, 23, 25, 159, 160, 161] _) ?_
       refine zk ⟨?_⟩
       refine v_region ?_; intro K32 k32
       refine zBinOpW ⟨?_⟩
       refine zMove ⟨?_⟩
       refine k32 _ ?_
       refine n24 _ (i + 1, sm + x1) ?_ ?_ ?_
       ·refine weak_bothN [6, 9, 13, 15, 16, 17, 18, 19, 20, 21, 22, 23, 25, 159, 160, 161] [0, 1, 2, 3, 4, 5, 6, 7, 8, 9, 10, 11, 12, 13, 14, 15] ⟨?_⟩
        rfl
       ·have hq := sumC_step hx
        simp only [] at hq
        exact ⟨hlt, by show sm + x1 = 0 + sumC (w.take (i + 1)); omega, by show 0 ≤ sm + x1 ∧ sm + x1 ≤ 99 * ((i + 1 : Nat) : Int); omega⟩
       ·show _ < _; show w.length - (i + 1) < w.length - i; omega
      ·intro hc3
       refine v_exit ?_
       refine e26 _ _ ?_
       refine e24 _ _ ?_
       refine x23 _ ?_
       refine n21 _ _ (weak_keep [6, 9, 13, 15, 16, 17, 18, 19, 20, 21, 22, 23, 25] _) ?_
       refine zk ⟨?_⟩
       refine v_seq ?_; intro Q33 n33 e33 r33
       refine v_seqR [6,9,13,15,16,17,18,19,20,21,22,23,25,170,171,172] ?_; intro K34 k34
       refine zMove ⟨?_⟩
       refine zLen ⟨?_⟩
       refine zMove ⟨?_⟩
       refine k34 _ ?_
       refine zk ⟨?_⟩
       refine v_block ?_; intro Q35 n35 x35 e35 r35
       refine v_loop (fun p => ⟨[(6, .ref 0), (9, .ref 1), (13, .ref 2), (15, .ptr 5 0 0), (16, .ptr 6 0 0), (17, .str s), (18, .int .i64 n), (19, .ptr 9 0 0), (20, .ptr 10 0 0), (21, .bool (mvAll fa fl ta tl s n)), (22, .ptr 13 0 0), (23, .ptr 14 0 0), (25, .int .i64 p.2), (170, .ref 0), (171, .int .i64 t.length), (172, .int .i64 (Nat.cast p.1))], [.arr (t.map (fun t : ByteArray × Int × Int => V.agg [V.str t.1, V.int .i64 t.2.1, V.int .i64 t.2.2])) .flat, .arr ((missR w t).map (fun t : ByteArray × Int × Int => V.agg [V.str t.1, V.int .i64 t.2.1, V.int .i64 t.2.2])) .flat, .arr ((spareR w t).map (fun t : ByteArray × Int × Int => V.agg [V.str t.1, V.int .i64 t.2.1, V.int .i64 t.2.2])) .flat, .arr (fl.map (fun t : ByteArray × Int × Int => V.agg [V.str t.1, V.int .i64 t.2.1, V.int .i64 t.2.2])) .flat, .arr (tl.map (fun t : ByteArray × Int × Int => V.agg [V.str t.1, V.int .i64 t.2.1, V.int .i64 t.2.2])) .flat, .box (.agg [.str fa, .ref 3]) .mix, .box (.agg [.str ta, .ref 4]) .mix, .arr ((orN (mvAll fa fl ta tl s n) (takeT fl s n)).map (fun t : ByteArray × Int × Int => V.agg [V.str t.1, V.int .i64 t.2.1, V.int .i64 t.2.2])) .thin, .arr ((orN (mvAll fa fl ta tl s n) (putT tl s n (dayOf fl s))).map (fun t : ByteArray × Int × Int => V.agg [V.str t.1, V.int .i64 t.2.1, V.int .i64 t.2.2])) .flat, .box (.agg [.str (orS (mvAll fa fl ta tl s n) fa), .ref 7]) .mix, .box (.agg [.str (orS (mvAll fa fl ta tl s n) ta), .ref 8]) .mix, .arr ((orN (mvAll fa fl ta tl s n) (takeT fl s n)).map (fun t : ByteArray × Int × Int => V.agg [V.str t.1, V.int .i64 t.2.1, V.int .i64 t.2.2])) .flat, .arr ((orN (mvAll fa fl ta tl s n) (putT tl s n (dayOf fl s))).map (fun t : ByteArray × Int × Int => V.agg [V.str t.1, V.int .i64 t.2.1, V.int .i64 t.2.2])) .flat, .box (.agg [.str (orS (mvAll fa fl ta tl s n) fa), .ref 11]) .mix, .box (.agg [.str (orS (mvAll fa fl ta tl s n) ta), .ref 12]) .mix], false, 310, 0⟩) (fun p => p.1 ≤ t.length ∧ p.2 = sumC w - sumC (t.take p.1) ∧ -99 * (p.1 : Int) ≤ p.2 ∧ p.2 ≤ 1782) (fun p => t.length - p.1) (0, sm) ?_ ?_ ?_
       ·refine weak_bothN [6, 9, 13, 15, 16, 17, 18, 19, 20, 21, 22, 23, 25, 170, 171, 172] [1, 2, 3, 4, 5, 6, 7, 8, 9, 10, 11, 12, 13, 14, 15] ⟨?_⟩
        rfl
       ·have hqe : w.take i = w := List.take_of_length_le (by omega); rw [hqe] at hS; exact ⟨Nat.zero_le _, by show sm = _; rw [hS]; simp [sumC], by show _ ≤ sm ∧ sm ≤ _; omega⟩
       ·rintro ⟨i, sm⟩ hok36 Q36 n36 e36 r36
        obtain ⟨hi1, hS, hsb⟩ := hok36
        simp only [] at hi1 hS hsb ⊢
        refine v_seqR [6,9,13,15,16,17,18,19,20,21,22,23,25,170,171,172,173] ?_; intro K37 k37
        refine zBinOp ⟨?_⟩
        refine k37 _ ?_
        refine zk ⟨?_⟩
        refine v_seq ?_; intro Q38 n38 e38 r38
        refine v_condS _ rfl ?_ ?_
        ·intro hc4
         have hlt : i < t.length := by omega
         obtain ⟨⟨x0, x1, x2⟩, hx⟩ : ∃ x : ByteArray × Int × Int, t[i]? = some x := ⟨t[i]'(by omega), List.getElem?_eq_getElem (by omega)⟩
         have hxb := (fun x h => (hkt.ok x h).2.1) _ (List.mem_of_getElem? hx)
         simp only [] at hxb
         refine v_skip ?_
         refine n38 _ _ (weak_keep [6, 9, 13, 15, 16, 17, 18, 19, 20, 21, 22, 23, 25, 170, 171, 172] _) ?_
         refine zk ⟨?_⟩
         refine v_seq ?_; intro Q40 n40 e40 r40
         refine v_block ?_; intro Q41 n41 x41 e41 r41
         refine v_seqR [6,9,13,15,16,17,18,19,20,21,22,23,25,29,170,171,172] ?_; intro K42 k42
         have F := Fc.mk (fun f => getD_map (f := f) hx)
         refine zIndexAddr ⟨?_⟩
         refine zLoad ⟨?_⟩
         refine zAlloc ⟨?_⟩
         refine zStore ⟨?_⟩
         refine k42 _ ?_
         refine zk ⟨?_⟩
         refine v_region ?_; intro K43 k43
         refine zMove ⟨?_⟩
         refine zFieldAddr ⟨?_⟩
         refine zLoad ⟨?_⟩
         refine zBinOpW ⟨?_⟩
         refine zAssign ⟨?_⟩
         refine k43 _ ?_
         refine n41 _ ?_
         refine n40 _ _ (weak_keep [6, 9, 13, 15, 16, 17, 18, 19, 20, 21, 22, 23, 25, 170, 171, 172] _) ?_
         refine zk ⟨?_⟩
         refine v_region ?_; intro K44 k44
         refine zBinOpW ⟨?_⟩
         refine zMove ⟨?_⟩
         refine k44 _ ?_
         refine n36 _ (i + 1, sm - x1) ?_ ?_ ?_
         ·refine weak_bothN [6, 9, 13, 15, 16, 17, 18, 19, 20, 21, 22, 23, 25, 170, 171, 172] [0, 1, 2, 3, 4, 5, 6, 7, 8, 9, 10, 11, 12, 13, 14] ⟨?_⟩
          rfl
         ·have hq := sumC_step hx
          simp only [] at hq
          exact ⟨hlt, by show sm - x1 = sumC w - sumC (t.take (i + 1)); omega, by show -99 * ((i + 1 : Nat) : Int) ≤ sm - x1 ∧ sm - x1 ≤ 1782; omega⟩
         ·show _ < _; show t.length - (i + 1) < t.length - i; omega
        ·intro hc4
         refine v_exit ?_
         refine e38 _ _ ?_
         refine e36 _ _ ?_
         refine x35 _ ?_
         refine n33 _ _ (weak_keep [6, 9, 13, 15, 16, 17, 18, 19, 20, 21, 22, 23, 25] _) ?_
         refine zk ⟨?_⟩
         refine v_seq ?_; intro Q45 n45 e45 r45
         refine v_seqR [6,13,15,16,17,18,19,20,21,22,23,25,181,182,183] ?_; intro K46 k46
         refine zMove ⟨?_⟩
         refine zLen ⟨?_⟩
         refine zMove ⟨?_⟩
         refine k46 _ ?_
         refine zk ⟨?_⟩
         refine v_block ?_; intro Q47 n47 x47 e47 r47
         refine v_loop (fun p => ⟨[(6, .ref 0), (13, .ref 2), (15, .ptr 5 0 0), (16, .ptr 6 0 0), (17, .str s), (18, .int .i64 n), (19, .ptr 9 0 0), (20, .ptr 10 0 0), (21, .bool (mvAll fa fl ta tl s n)), (22, .ptr 13 0 0), (23, .ptr 14 0 0), (25, .int .i64 p.2), (181, .ref 1), (182, .int .i64 (missR w t).length), (183, .int .i64 (Nat.cast p.1))], [.arr (t.map (fun t : ByteArray × Int × Int => V.agg [V.str t.1, V.int .i64 t.2.1, V.int .i64 t.2.2])) .flat, .arr ((missR w t).map (fun t : ByteArray × Int × Int => V.agg [V.str t.1, V.int .i64 t.2.1, V.int .i64 t.2.2])) .flat, .arr ((spareR w t).map (fun t : ByteArray × Int × Int => V.agg [V.str t.1, V.int .i64 t.2.1, V.int .i64 t.2.2])) .flat, .arr (fl.map (fun t : ByteArray × Int × Int => V.agg [V.str t.1, V.int .i64 t.2.1, V.int .i64 t.2.2])) .flat, .arr (tl.map (fun t : ByteArray × Int × Int => V.agg [V.str t.1, V.int .i64 t.2.1, V.int .i64 t.2.2])) .flat, .box (.agg [.str fa, .ref 3]) .mix, .box (.agg [.str ta, .ref 4]) .mix, .arr ((orN (mvAll fa fl ta tl s n) (takeT fl s n)).map (fun t : ByteArray × Int × Int => V.agg [V.str t.1, V.int .i64 t.2.1, V.int .i64 t.2.2])) .thin, .arr ((orN (mvAll fa fl ta tl s n) (putT tl s n (dayOf fl s))).map (fun t : ByteArray × Int × Int => V.agg [V.str t.1, V.int .i64 t.2.1, V.int .i64 t.2.2])) .flat, .box (.agg [.str (orS (mvAll fa fl ta tl s n) fa), .ref 7]) .mix, .box (.agg [.str (orS (mvAll fa fl ta tl s n) ta), .ref 8]) .mix, .arr ((orN (mvAll fa fl ta tl s n) (takeT fl s n)).map (fun t : ByteArray × Int × Int => V.agg [V.str t.1, V.int .i64 t.2.1, V.int .i64 t.2.2])) .flat, .arr ((orN (mvAll fa fl ta tl s n) (putT tl s n (dayOf fl s))).map (fun t : ByteArray × Int × Int => V.agg [V.str t.1, V.int .i64 t.2.1, V.int .i64 t.2.2])) .flat, .box (.agg [.str (orS (mvAll fa fl ta tl s n) fa), .ref 11]) .mix, .box (.agg [.str (orS (mvAll fa fl ta tl s n) ta), .ref 12]) .mix], false, 310, 0⟩) (fun p => p.1 ≤ (missR w t).length ∧ p.2 = sumC w - sumC t - sumC ((missR w t).take p.1) ∧ -1782 - 99 * (p.1 : Int) ≤ p.2 ∧ p.2 ≤ 1782) (fun p => (missR w t).length - p.1) (0, sm) ?_ ?_ ?_
         ·refine weak_bothN [6, 13, 15, 16, 17, 18, 19, 20, 21, 22, 23, 25, 181, 182, 183] [0, 1, 2, 3, 4, 5, 6, 7, 8, 9, 10, 11, 12, 13, 14] ⟨?_⟩
          rfl
         ·have hqe : t.take i = t := List.take_of_length_le (by omega); rw [hqe] at hS; exact ⟨Nat.zero_le _, by show sm = _; rw [hS]; simp [sumC], by show _ ≤ sm ∧ sm ≤ _; omega⟩
         ·rintro ⟨i, sm⟩ hok48 Q48 n48 e48 r48
          obtain ⟨hi1, hS, hsb⟩ := hok48
          simp only [] at hi1 hS hsb ⊢
          refine v_seqR [6,13,15,16,17,18,19,20,21,22,23,25,181,182,183,184] ?_; intro K49 k49
          refine zBinOp ⟨?_⟩
          refine k49 _ ?_
          refine zk ⟨?_⟩
          refine v_seq ?_; intro Q50 n50 e50 r50
          refine v_condS _ rfl ?_ ?_
          ·intro hc5
           have hlt : i < (missR w t).length := by omega
           obtain ⟨⟨x0, x1, x2⟩, hx⟩ : ∃ x : ByteArray × Int × Int, (missR w t)[i]? = some x := ⟨(missR w t)[i]'(by omega), List.getElem?_eq_getElem (by omega)⟩
           have hxb := hmb _ (List.mem_of_getElem? hx)
           simp only [] at hxb
           refine v_skip ?_
           refine n50 _ _ (weak_keep [6, 13, 15, 16, 17, 18, 19, 20, 21, 22, 23, 25, 181, 182, 183] _) ?_
           refine zk ⟨?_⟩
           refine v_seq ?_; intro Q52 n52 e52 r52
           refine v_block ?_; intro Q53 n53 x53 e53 r53
           refine v_seqR [6,13,15,16,17,18,19,20,21,22,23,25,31,181,182,183] ?_; intro K54 k54
           have F := Fc.mk (fun f => getD_map (f := f) hx)
           refine zIndexAddr ⟨?_⟩
           refine zLoad ⟨?_⟩
           refine zAlloc ⟨?_⟩
           refine zStore ⟨?_⟩
           refine k54 _ ?_
           refine zk ⟨?_⟩
           refine v_region ?_; intro K55 k55
           refine zMove ⟨?_⟩
           refine zFieldAddr ⟨?_⟩
           refine zLoad ⟨?_⟩
           refine zBinOpW ⟨?_⟩
           refine zAssign ⟨?_⟩
           refine k55 _ ?_
           refine n53 _ ?_
           refine n52 _ _ (weak_keep [6, 13, 15, 16, 17, 18, 19, 20, 21, 22, 23, 25, 181, 182, 183] _) ?_
           refine zk ⟨?_⟩
           refine v_region ?_; intro K56 k56
           refine zBinOpW ⟨?_⟩
           refine zMove ⟨?_⟩
           refine k56 _ ?_
           refine n48 _ (i + 1, sm - x1) ?_ ?_ ?_
           ·refine weak_bothN [6, 13, 15, 16, 17, 18, 19, 20, 21, 22, 23, 25, 181, 182, 183] [0, 1, 2, 3, 4, 5, 6, 7, 8, 9, 10, 11, 12, 13, 14] ⟨?_⟩
            rfl
           ·have hq := sumC_step hx
            simp only [] at hq
            exact ⟨hlt, by show sm - x1 = sumC w - sumC t - sumC ((missR w t).take (i + 1)); omega, by show -1782 - 99 * ((i + 1 : Nat) : Int) ≤ sm - x1 ∧ sm - x1 ≤ 1782; omega⟩
           ·show _ < _; show (missR w t).length - (i + 1) < (missR w t).length - i; omega
          ·intro hc5
           refine v_exit ?_
           refine e50 _ _ ?_
           refine e48 _ _ ?_
           refine x47 _ ?_
           refine n45 _ _ (weak_keep [6, 13, 15, 16, 17, 18, 19, 20, 21, 22, 23, 25] _) ?_
           refine zk ⟨?_⟩
           refine v_seq ?_; intro Q57 n57 e57 r57
           refine v_seqR [6,15,16,17,18,19,20,21,22,23,25,192,193,194] ?_; intro K58 k58
           refine zMove ⟨?_⟩
           refine zLen ⟨?_⟩
           refine zMove ⟨?_⟩
           refine k58 _ ?_
           refine zk ⟨?_⟩
           refine v_block ?_; intro Q59 n59 x59 e59 r59
           refine v_loop (fun p => ⟨[(6, .ref 0), (15, .ptr 4 0 0), (16, .ptr 5 0 0), (17, .str s), (18, .int .i64 n), (19, .ptr 8 0 0), (20, .ptr 9 0 0), (21, .bool (mvAll fa fl ta tl s n)), (22, .ptr 12 0 0), (23, .ptr 13 0 0), (25, .int .i64 p.2), (192, .ref 1), (193, .int .i64 (spareR w t).length), (194, .int .i64 (Nat.cast p.1))], [.arr (t.map (fun t : ByteArray × Int × Int => V.agg [V.str t.1, V.int .i64 t.2.1, V.int .i64 t.2.2])) .flat, .arr ((spareR w t).map (fun t : ByteArray × Int × Int => V.agg [V.str t.1, V.int .i64 t.2.1, V.int .i64 t.2.2])) .flat, .arr (fl.map (fun t : ByteArray × Int × Int => V.agg [V.str t.1, V.int .i64 t.2.1, V.int .i64 t.2.2])) .flat, .arr (tl.map (fun t : ByteArray × Int × Int => V.agg [V.str t.1, V.int .i64 t.2.1, V.int .i64 t.2.2])) .flat, .box (.agg [.str fa, .ref 2]) .mix, .box (.agg [.str ta, .ref 3]) .mix, .arr ((orN (mvAll fa fl ta tl s n) (takeT fl s n)).map (fun t : ByteArray × Int × Int => V.agg [V.str t.1, V.int .i64 t.2.1, V.int .i64 t.2.2])) .thin, .arr ((orN (mvAll fa fl ta tl s n) (putT tl s n (dayOf fl s))).map (fun t : ByteArray × Int × Int => V.agg [V.str t.1, V.int .i64 t.2.1, V.int .i64 t.2.2])) .flat, .box (.agg [.str (orS (mvAll fa fl ta tl s n) fa), .ref 6]) .mix, .box (.agg [.str (orS (mvAll fa fl ta tl s n) ta), .ref 7]) .mix, .arr ((orN (mvAll fa fl ta tl s n) (takeT fl s n)).map (fun t : ByteArray × Int × Int => V.agg [V.str t.1, V.int .i64 t.2.1, V.int .i64 t.2.2])) .flat, .arr ((orN (mvAll fa fl ta tl s n) (putT tl s n (dayOf fl s))).map (fun t : ByteArray × Int × Int => V.agg [V.str t.1, V.int .i64 t.2.1, V.int .i64 t.2.2])) .flat, .box (.agg [.str (orS (mvAll fa fl ta tl s n) fa), .ref 10]) .mix, .box (.agg [.str (orS (mvAll fa fl ta tl s n) ta), .ref 11]) .mix], false, 310, 0⟩) (fun p => p.1 ≤ (spareR w t).length ∧ p.2 = sumC w - sumC t - sumC (missR w t) + sumC ((spareR w t).take p.1) ∧ -3564 ≤ p.2 ∧ p.2 ≤ 1782 + 99 * (p.1 : Int)) (fun p => (spareR w t).length - p.1) (0, sm) ?_ ?_ ?_
           ·refine weak_bothN [6, 15, 16, 17, 18, 19, 20, 21, 22, 23, 25, 192, 193, 194] [0, 2, 3, 4, 5, 6, 7, 8, 9, 10, 11, 12, 13, 14] ⟨?_⟩
            rfl
           ·have hqe : (missR w t).take i = (missR w t) := List.take_of_length_le (by omega); rw [hqe] at hS; exact ⟨Nat.zero_le _, by show sm = _; rw [hS]; simp [sumC], by show _ ≤ sm ∧ sm ≤ _; omega⟩
           ·rintro ⟨i, sm⟩ hok60 Q60 n60 e60 r60
            obtain ⟨hi1, hS, hsb⟩ := hok60
            simp only [] at hi1 hS hsb ⊢
            refine v_seqR [6,15,16,17,18,19,20,21,22,23,25,192,193,194,195] ?_; intro K61 k61
            refine zBinOp ⟨?_⟩
            refine k61 _ ?_
            refine zk ⟨?_⟩
            refine v_seq ?_; intro Q62 n62 e62 r62
            refine v_condS _ rfl ?_ ?_
            ·intro hc6
             have hlt : i < (spareR w t).length := by omega
             obtain ⟨⟨x0, x1, x2⟩, hx⟩ : ∃ x : ByteArray × Int × Int, (spareR w t)[i]? = some x := ⟨(spareR w t)[i]'(by omega), List.getElem?_eq_getElem (by omega)⟩
             have hxb := hpb _ (List.mem_of_getElem? hx)
             simp only [] at hxb
             refine v_skip ?_
             refine n62 _ _ (weak_keep [6, 15, 16, 17, 18, 19, 20, 21, 22, 23, 25, 192, 193, 194] _) ?_
             refine zk ⟨?_⟩
             refine v_seq ?_; intro Q64 n64 e64 r64
             refine v_block ?_; intro Q65 n65 x65 e65 r65
             refine v_seqR [6,15,16,17,18,19,20,21,22,23,25,33,192,193,194] ?_; intro K66 k66
             have F := Fc.mk (fun f => getD_map (f := f) hx)
             refine zIndexAddr ⟨?_⟩
             refine zLoad ⟨?_⟩
             refine zAlloc ⟨?_⟩
             refine zStore ⟨?_⟩
             refine k66 _ ?_
             refine zk ⟨?_⟩
             refine v_region ?_; intro K67 k67
             refine zMove ⟨?_⟩
             refine zFieldAddr ⟨?_⟩
             refine zLoad ⟨?_⟩
             refine zBinOpW ⟨?_⟩
             refine zAssign ⟨?_⟩
             refine k67 _ ?_
             refine n65 _ ?_
             refine n64 _ _ (weak_keep [6, 15, 16, 17, 18, 19, 20, 21, 22, 23, 25, 192, 193, 194] _) ?_
             refine zk ⟨?_⟩
             refine v_region ?_; intro K68 k68
             refine zBinOpW ⟨?_⟩
             refine zMove ⟨?_⟩
             refine k68 _ ?_
             refine n60 _ (i + 1, sm + x1) ?_ ?_ ?_
             ·refine weak_bothN [6, 15, 16, 17, 18, 19, 20, 21, 22, 23, 25, 192, 193, 194] [0, 1, 2, 3, 4, 5, 6, 7, 8, 9, 10, 11, 12, 13] ⟨?_⟩
              rfl
             ·have hq := sumC_step hx
              simp only [] at hq
              exact ⟨hlt, by show sm + x1 = sumC w - sumC t - sumC (missR w t) + sumC ((spareR w t).take (i + 1)); omega, by show -3564 ≤ sm + x1 ∧ sm + x1 ≤ 1782 + 99 * ((i + 1 : Nat) : Int); omega⟩
             ·show _ < _; show (spareR w t).length - (i + 1) < (spareR w t).length - i; omega
            ·intro hc6
             refine v_exit ?_
             refine e62 _ _ ?_
             refine e60 _ _ ?_
             refine x59 _ ?_
             refine n57 _ _ (weak_keep [6, 15, 16, 17, 18, 19, 20, 21, 22, 23, 25] _) ?_
             refine zk ⟨?_⟩
             refine v_seq ?_; intro Q69 n69 e69 r69
             refine v_seqR [6,15,16,17,18,19,20,21,22,23,204] ?_; intro K70 k70
             refine zMove ⟨?_⟩
             refine zBinOp ⟨?_⟩
             refine k70 _ ?_
             refine zk ⟨?_⟩
             refine v_cond _ rfl ?_ ?_
             ·intro hc7
              exfalso; have hqe : (spareR w t).take i = spareR w t := List.take_of_length_le (by omega)
              rw [hqe] at hS
              simp at hc7; omega
             ·intro hc7
              try simp only [zC, reduceCtorEq] at hc7
              refine v_skip ?_
              refine n69 _ _ (weak_keep [6, 15, 16, 17, 18, 19, 20, 21, 22, 23] _) ?_
              refine zk ⟨?_⟩
              refine v_seqR [15,16,17,18,19,20,21,22,23,34,35] ?_; intro K72 k72
              refine zMove ⟨?_⟩
              refine zMove ⟨?_⟩
              refine zc (implMissing_con t t (by omega) (by omega) (fun x h => Nat.le_trans (htz x h) (by omega)) (fun x h => Nat.le_trans (htz x h) (by omega))) ⟨?_⟩
              refine zMove ⟨?_⟩
              refine zExtract ⟨?_⟩
              refine zExtract ⟨?_⟩
              refine zAssign ⟨?_⟩
              refine zAssign ⟨?_⟩
              refine k72 _ ?_
              refine zk ⟨?_⟩
              refine v_seqR [15,16,17,18,19,20,21,22,23,217] ?_; intro K73 k73
              refine zMove ⟨?_⟩
              refine zUnOp ⟨?_⟩
              refine zMove ⟨?_⟩
              refine zgMove ⟨?_⟩
              refine zgLen ⟨?_⟩
              refine zgBinOp ⟨?_⟩
              refine zPick ⟨?_⟩
              refine k73 _ ?_
              refine zk ⟨?_⟩
              refine v_cond _ rfl ?_ ?_
              ·intro hc8
               exfalso; have hz2 : missR t t = [] := by
                unfold missR
                rw [if_pos (by rw [hkk.2]; rfl)]
                exact miss_self hkt.srt
               simp [hz2, hkk.2] at hc8
              ·intro hc8
               try simp only [zC, reduceCtorEq] at hc8
               refine v_skip ?_
               refine n17 () _ ?_ ?_
               ·exact True.intro
               ·exact weak_same [15, 16, 17, 18, 19, 20, 21, 22, 23] [2, 3, 4, 5, 6, 7, 8, 9, 10, 11, 12, 13]
    ·intro hc2
     refine v_skip ?_
     refine n17 () _ ?_ ?_
     ·exact True.intro
     ·exact weak_same [15, 16, 17, 18, 19, 20, 21, 22, 23] [6, 7, 9, 11, 12, 13, 15, 17, 18, 19, 21, 23]
   ·rintro ⟨⟩ hok17
    have _hu : True := hok17
    refine v_seq ?_; intro Q75 n75 e75 r75
    refine v_seqR [15,16,17,18,19,20,22,23,218] ?_; intro K76 k76
    have F := Fc.mk True.intro
    refine zMove ⟨?_⟩
    refine k76 _ ?_
    refine zk ⟨?_⟩
    refine v_condS _ rfl ?_ ?_
    ·intro hc9
     have hM := hc9
     simp only [hM, orS, if_true, orN_t]
     obtain ⟨⟨gm1, gm2⟩, gm3, gm4, gm5, hmf, hmt, hmc, hmF, hmT⟩ := mv_parts hM
     obtain ⟨hcb1, hcb2, hcv⟩ := mv_count hM
     obtain ⟨hbk1, hbk2⟩ := mv_back (d2 := dayOf (putT tl s n (dayOf fl s)) s) hM
     have hzF := th_sz hmF
     have hzT := th_sz hmT
     have hlF := hmF.len
     have hlT := hmT.len
     have hl2 : (orN (mvAll ta (putT tl s n (dayOf fl s)) fa (takeT fl s n) s n) (takeT (putT tl s n (dayOf fl s)) s n)).length ≤ 1048576 := orN_len (by omega)
     have hl3 : (orN (mvAll ta (putT tl s n (dayOf fl s)) fa (takeT fl s n) s n) (putT (takeT fl s n) s n (dayOf (putT tl s n (dayOf fl s)) s))).length ≤ 1048576 := orN_len (by omega)
     have hZ1 : ∀ x ∈ [(fa, fl), (ta, tl)], x.1.size ≤ 9223372036854775807 ∧ x.2.length ≤ 1048576 ∧ ∀ y ∈ x.2, y.1.size ≤ 9223372036854775807 := by
      intro x hx
      simp only [List.mem_cons, List.not_mem_nil, or_false] at hx
      rcases hx with rfl | rfl
      ·exact ⟨by show fa.size ≤ _; omega, by show fl.length ≤ _; omega, th_sz hmf⟩
      ·exact ⟨by show ta.size ≤ _; omega, by show tl.length ≤ _; omega, th_sz hmt⟩
     have hZ2 : ∀ x ∈ [(fa, (takeT fl s n)), (ta, (putT tl s n (dayOf fl s)))], x.1.size ≤ 9223372036854775807 ∧ x.2.length ≤ 1048576 ∧ ∀ y ∈ x.2, y.1.size ≤ 9223372036854775807 := by
      intro x hx
      simp only [List.mem_cons, List.not_mem_nil, or_false] at hx
      rcases hx with rfl | rfl
      ·exact ⟨by show fa.size ≤ _; omega, by show List.length (takeT fl s n) ≤ _; omega, hzF⟩
      ·exact ⟨by show ta.size ≤ _; omega, by show List.length (putT tl s n (dayOf fl s)) ≤ _; omega, hzT⟩
     refine v_seqR [15,16,17,18,19,20,22,23,36,37] ?_; intro K78 k78
     refine zLoad ⟨?_⟩
     refine zLoad ⟨?_⟩
     refine zBuildSlice ⟨?_⟩
     refine zMove ⟨?_⟩
     refine zc (specCount_con [(fa, fl), (ta, tl)] (by simp) hZ1 s (by omega)) ⟨?_⟩
     refine zMove ⟨?_⟩
     refine zExtract ⟨?_⟩
     refine zExtract ⟨?_⟩
     refine zAssign ⟨?_⟩
     refine zAssign ⟨?_⟩
     refine k78 _ ?_
     refine zk ⟨?_⟩
     refine v_seqR [15,16,17,18,19,20,22,23,36,37,38,39] ?_; intro K79 k79
     refine zLoad ⟨?_⟩
     refine zLoad ⟨?_⟩
     refine zBuildSlice ⟨?_⟩
     refine zMove ⟨?_⟩
     refine zc (implCount_con [(fa, (takeT fl s n)), (ta, (putT tl s n (dayOf fl s)))] (by simp) hZ2 s (by omega)) ⟨?_⟩
     refine zMove ⟨?_⟩
     refine zExtract ⟨?_⟩
     refine zExtract ⟨?_⟩
     refine zAssign ⟨?_⟩
     refine zAssign ⟨?_⟩
     refine k79 _ ?_
     refine zk ⟨?_⟩
     refine v_seqR [15,16,17,18,19,20,22,23,36,37,38,39,40,41,42] ?_; intro K80 k80
     refine zLoad ⟨?_⟩
     refine zLoad ⟨?_⟩
     refine zMove ⟨?_⟩
     refine zMove ⟨?_⟩
     refine zc (implMove_con ta (putT tl s n (dayOf fl s)) fa (takeT fl s n) s n (by omega) (by omega) hzT (by omega) (by omega) hzF (by omega)) ⟨?_⟩
     refine zMove ⟨?_⟩
     refine zExtract ⟨?_⟩
     refine zExtract ⟨?_⟩
     refine zExtract ⟨?_⟩
     refine zAlloc ⟨?_⟩
     refine zAlloc ⟨?_⟩
     refine zStore ⟨?_⟩
     refine zStore ⟨?_⟩
     refine zAssign ⟨?_⟩
     refine k80 _ ?_
     refine zk ⟨?_⟩
     refine v_seqR [15,16,19,20,36,37,38,39,40,41,42,43,44,45] ?_; intro K81 k81
     refine zLoad ⟨?_⟩
     refine zLoad ⟨?_⟩
     refine zMove ⟨?_⟩
     refine zMove ⟨?_⟩
     refine zc (specMove_con ta (putT tl s n (dayOf fl s)) fa (takeT fl s n) s n (by omega) (by omega) hzT (by omega) (by omega) hzF (by omega)) ⟨?_⟩
     refine zMove ⟨?_⟩
     refine zExtract ⟨?_⟩
     refine zExtract ⟨?_⟩
     refine zExtract ⟨?_⟩
     refine zAlloc ⟨?_⟩
     refine zAlloc ⟨?_⟩
     refine zStore ⟨?_⟩
     refine zStore ⟨?_⟩
     refine zAssign ⟨?_⟩
     refine k81 _ ?_
     refine zk ⟨?_⟩
     refine v_seq ?_; intro Q82 n82 e82 r82
     refine v_seqR [15,16,43,44,45,290] ?_; intro K83 k83
     refine zMove ⟨?_⟩
     refine zUnOp ⟨?_⟩
     refine zMove ⟨?_⟩
     refine zgMove ⟨?_⟩
     refine zgUnOp ⟨?_⟩
     refine zPick ⟨?_⟩
     refine zMove ⟨?_⟩
     refine zgMove ⟨?_⟩
     refine zgMove ⟨?_⟩
     refine zgBinOp ⟨?_⟩
     refine zPick ⟨?_⟩
     refine zMove ⟨?_⟩
     refine zgMove ⟨?_⟩
     refine zgMove ⟨?_⟩
     refine zgBinOp ⟨?_⟩
     refine zPick ⟨?_⟩
     refine zMove ⟨?_⟩
     refine zgLoad ⟨?_⟩
     refine zgLoad ⟨?_⟩
     refine zgc (qLoad_con (orS (mvAll ta (putT tl s n (dayOf fl s)) fa (takeT fl s n) s n) ta) (orN (mvAll ta (putT tl s n (dayOf fl s)) fa (takeT fl s n) s n) (takeT (putT tl s n (dayOf fl s)) s n)) (by omega)) ⟨?_⟩
     refine zgUnOp ⟨?_⟩
     refine zPick ⟨?_⟩
     refine zMove ⟨?_⟩
     refine zgLoad ⟨?_⟩
     refine zgLoad ⟨?_⟩
     refine zgc (qLoad_con (orS (mvAll ta (putT tl s n (dayOf fl s)) fa (takeT fl s n) s n) fa) (orN (mvAll ta (putT tl s n (dayOf fl s)) fa (takeT fl s n) s n) (putT (takeT fl s n) s n (dayOf (putT tl s n (dayOf fl s)) s))) (by omega)) ⟨?_⟩
     refine zgUnOp ⟨?_⟩
     refine zPick ⟨?_⟩
     refine zMove ⟨?_⟩
     refine zgLoad ⟨?_⟩
     refine zgc (implIsLoad_con fa (takeT fl s n) (by omega) (by omega) hzF) ⟨?_⟩
     refine zgUnOp ⟨?_⟩
     refine zPick ⟨?_⟩
     refine zMove ⟨?_⟩
     refine zgLoad ⟨?_⟩
     refine zgc (implIsLoad_con ta (putT tl s n (dayOf fl s)) (by omega) (by omega) hzT) ⟨?_⟩
     refine zgUnOp ⟨?_⟩
     refine zPick ⟨?_⟩
     refine k83 _ ?_
     refine zk ⟨?_⟩
     refine v_cond _ rfl ?_ ?_
     ·intro hc10
      exfalso; have e1 := (ths_iff _).2 hmF
      have e2 := (ths_iff _).2 hmT
      simp [hcb1, hcb2, hcv, gm1, gm2, e1, e2] at hc10
     ·intro hc10
      try simp only [zC, reduceCtorEq] at hc10
      refine v_skip ?_
      refine n82 _ _ (weak_keep [15, 16, 43, 44, 45] _) ?_
      refine zk ⟨?_⟩
      refine v_seqR [309] ?_; intro K85 k85
      refine zMove ⟨?_⟩
      refine zMove ⟨?_⟩
      refine zgFieldAddr ⟨?_⟩
      refine zgLoad ⟨?_⟩
      refine zgLen ⟨?_⟩
      refine zgFieldAddr ⟨?_⟩
      refine zgLoad ⟨?_⟩
      refine zgLen ⟨?_⟩
      refine zgBinOp ⟨?_⟩
      refine zgMove ⟨?_⟩
      refine zgFieldAddr ⟨?_⟩
      refine zgLoad ⟨?_⟩
      refine zgLen ⟨?_⟩
      refine zgFieldAddr ⟨?_⟩
      refine zgLoad ⟨?_⟩
      refine zgLen ⟨?_⟩
      refine zgBinOp ⟨?_⟩
      refine zgPick ⟨?_⟩
      refine zPick ⟨?_⟩
      refine k85 _ ?_
      refine zk ⟨?_⟩
      refine v_cond _ rfl ?_ ?_
      ·intro hc11
       exfalso; cases hM2 : (mvAll ta (putT tl s n (dayOf fl s)) fa (takeT fl s n) s n) <;> simp [hM2, orN, hbk1, hbk2] at hc11
      ·intro hc11
       try simp only [zC, reduceCtorEq] at hc11
       refine v_skip ?_
       refine n75 _ _ (weak_keep [] _) ?_
       refine zk ⟨?_⟩
       refine v_seqR [4] ?_; intro K87 k87
       refine zAssign ⟨?_⟩
       refine k87 _ ?_
       refine zk ⟨?_⟩
       refine v_ret ?_
       refine r0 _ ?_
       refine zf ⟨?_⟩
       exact ret_pure rfl rfl (.inl rfl)
    ·intro hc9
     refine v_skip ?_
     refine n75 _ _ (weak_keep [] _) ?_
     refine zk ⟨?_⟩
     refine v_seqR [4] ?_; intro K88 k88
     refine zAssign ⟨?_⟩
     refine k88 _ ?_
     refine zk ⟨?_⟩
     refine v_ret ?_
     refine r0 _ ?_
     refine zf ⟨?_⟩
     exact ret_pure rfl rfl (.inl rfl)
end Go.Proofs.Ytbameklegpgkfaa
