/- What functions compute. No condition. -/
import Derived.Test.YtbameklegpgkfaaDoorUty
import Derived.Test.YtbameklegpgkfaaDoorUmG
import Derived.Test.YtbameklegpgkfaaDoorX33
import Derived.Test.YtbameklegpgkfaaDoorX27
import Derived.Test.YtbameklegpgkfaaDoorX32
import Derived.Test.YtbameklegpgkfaaDoorX13
import Derived.Test.YtbameklegpgkfaaDoorX11
import Derived.Test.YtbameklegpgkfaaDoorX8
import Derived.Test.YtbameklegpgkfaaDoorX9
import Derived.Test.YtbameklegpgkfaaDoorX22
set_option linter.unusedSimpArgs false
set_option linter.unusedVariables false
set_option linter.defProp false
namespace Go.Proofs.YtbameklegpgkfaaDoor
open Go Go.Vm

set_option maxRecDepth 8000 in
set_option maxHeartbeats 6000000 in
theorem lawFnDebriefs_con (c1 c2 : List Int) (hc1 : ∀ x ∈ c1, 0 ≤ x ∧ x ≤ 255) (hc2 : ∀ x ∈ c2, 0 ≤ x ∧ x ≤ 255) (hn1 : c1.length ≤ 9223372036854775807) (hn2 : c2.length ≤ 9223372036854775807) : Con Tryd.prog 4 [.sl (c1.map (V.int .u8)), .sl (c2.map (V.int .u8))] [] (.bool true) [] := by
 refine v_con [.tmp 4] [] Tryd.func4 rfl rfl rfl (by simp [Tryd.ntmps4]) ?_
 intro Q0 n0 r0
 simp only [Tryd.ntmps4, envFrom, Nat.reduceAdd]
 have T := Tys.mk (And.intro Ty.t3 (And.intro Ty.t4 (And.intro Ty.t5 (And.intro Ty.t9 (And.intro Ty.t22 (And.intro Ty.t23 (And.intro Ty.t36 (And.intro Ty.t48 Ty.t62))))))))
 have F := Fc.mk True.intro
 refine v_seqR [0,1] ?_; intro K1 k1
 refine zAssign ⟨?_⟩
 refine k1 _ ?_
 refine zk ⟨?_⟩
 refine v_seq ?_; intro Q2 n2 e2 r2
 refine v_seqR [0,1,59] ?_; intro K3 k3
 refine zMove ⟨?_⟩
 refine zMove ⟨?_⟩
 refine zc (big_con c1 c2 hn1 hn2) ⟨?_⟩
 refine k3 _ ?_
 refine zk ⟨?_⟩
 refine v_condS _ rfl ?_ ?_
 ·intro hc0
  refine v_seqR [4] ?_; intro K5 k5
  refine zAssign ⟨?_⟩
  refine k5 _ ?_
  refine zk ⟨?_⟩
  refine v_ret ?_
  refine r2 _ ?_
  refine r0 _ ?_
  refine zf ⟨?_⟩
  exact ret_pure rfl rfl (.inl rfl)
 ·intro hc0
  refine v_skip ?_
  refine n2 _ _ (weak_keep [0, 1] _) ?_
  refine zk ⟨?_⟩
  refine v_seqR [1,5,6] ?_; intro K6 k6
  refine zMove ⟨?_⟩
  refine v_op ?_; intro K k
  simp only [zE, zM, aStepM, optable, set_some, Nat.reduceEqDiff, reduceIte, Nat.reduceLT, implies_true, forall_const, reduceCtorEq, V.ofValue, V.ofScalar, V.un, V.gd, aExec, lentIds, lendOf, ‹Tys _›.h, ‹Fc _›.h]
  repeat (refine andC ?_)
  refine aCall_newXA (drawTimeForShare_con c1 hc1 hn1) ?_
  rintro _ _ ⟨l, share, ⟨⟨hll, hlz⟩, hs0, hs1⟩, rfl, rfl⟩
  refine ⟨by first | exact .inl ⟨rfl, by simp [Blk.kindIs, fillK_fd]⟩ | exact .inr (by simp [V.coldIn, V.cold, idx]), ?_⟩
  refine k _ ?_; clear k K
  simp only [zY, zW, set_some, Nat.reduceEqDiff, reduceIte, rho_one, rho_s, V.ren, V.renL, List.set_cons_zero, List.set_cons_succ, rho, Nat.reduceAdd, Nat.add_zero]
  have htl := timesR_len l
  refine zMove ⟨?_⟩
  refine zExtract ⟨?_⟩
  refine zExtract ⟨?_⟩
  refine zAssign ⟨?_⟩
  refine zAssign ⟨?_⟩
  refine k6 _ ?_
  refine zk ⟨?_⟩
  refine v_seqR [1,5,6,7,8] ?_; intro K7 k7
  refine zMove ⟨?_⟩
  refine zMove ⟨?_⟩
  refine zc (implTShare_con l share (by omega) (fun t h => Nat.le_trans (hlz t h) (by omega))) ⟨?_⟩
  refine zMove ⟨?_⟩
  refine zExtract ⟨?_⟩
  refine zExtract ⟨?_⟩
  refine zAssign ⟨?_⟩
  refine zAssign ⟨?_⟩
  refine k7 _ ?_
  refine zk ⟨?_⟩
  refine v_seqR [1,5,6,7,8,9,10] ?_; intro K8 k8
  refine zMove ⟨?_⟩
  refine zMove ⟨?_⟩
  refine zc (specTShare_con l share (by omega) (fun t h => Nat.le_trans (hlz t h) (by omega))) ⟨?_⟩
  refine zMove ⟨?_⟩
  refine zExtract ⟨?_⟩
  refine zExtract ⟨?_⟩
  refine zAssign ⟨?_⟩
  refine zAssign ⟨?_⟩
  refine k8 _ ?_
  refine zk ⟨?_⟩
  refine v_seqR [1,5,6,7,8,9,10,11,12] ?_; intro K9 k9
  refine zMove ⟨?_⟩
  refine zc (implTimesOf_con l (by omega) (fun t h => Nat.le_trans (hlz t h) (by omega))) ⟨?_⟩
  refine zMove ⟨?_⟩
  refine zExtract ⟨?_⟩
  refine zExtract ⟨?_⟩
  refine zAssign ⟨?_⟩
  refine zAssign ⟨?_⟩
  refine k9 _ ?_
  refine zk ⟨?_⟩
  refine v_seqR [1,5,6,7,8,9,10,11,12,13,14] ?_; intro K10 k10
  refine zMove ⟨?_⟩
  refine zc (specTimesOf_con l (by omega) (fun t h => Nat.le_trans (hlz t h) (by omega))) ⟨?_⟩
  refine zMove ⟨?_⟩
  refine zExtract ⟨?_⟩
  refine zExtract ⟨?_⟩
  refine zAssign ⟨?_⟩
  refine zAssign ⟨?_⟩
  refine k10 _ ?_
  refine zk ⟨?_⟩
  refine v_seqR [1,5,6,7,8,9,10,11,12,13,14,15,16] ?_; intro K11 k11
  refine zMove ⟨?_⟩
  refine zc (implMeanTime_con l (by omega) (fun t h => Nat.le_trans (hlz t h) (by omega))) ⟨?_⟩
  refine zMove ⟨?_⟩
  refine zExtract ⟨?_⟩
  refine zExtract ⟨?_⟩
  refine zAssign ⟨?_⟩
  refine zAssign ⟨?_⟩
  refine k11 _ ?_
  refine zk ⟨?_⟩
  refine v_seqR [1,5,6,7,8,9,10,11,12,13,14,15,16,17,18] ?_; intro K12 k12
  refine zMove ⟨?_⟩
  refine zc (specMeanTime_con l (by omega) (fun t h => Nat.le_trans (hlz t h) (by omega))) ⟨?_⟩
  refine zMove ⟨?_⟩
  refine zExtract ⟨?_⟩
  refine zExtract ⟨?_⟩
  refine zAssign ⟨?_⟩
  refine zAssign ⟨?_⟩
  refine k12 _ ?_
  refine zk ⟨?_⟩
  refine v_seq ?_; intro Q13 n13 e13 r13
  refine v_seqR [1,5,6,8,9,13,16,17,141] ?_; intro K14 k14
  refine zMove ⟨?_⟩
  refine zMove ⟨?_⟩
  refine zBinOp ⟨?_⟩
  refine zMove ⟨?_⟩
  refine zgMove ⟨?_⟩
  refine zgMove ⟨?_⟩
  refine zgBinOp ⟨?_⟩
  refine zPick ⟨?_⟩
  refine zMove ⟨?_⟩
  refine zgMove ⟨?_⟩
  refine zgMove ⟨?_⟩
  refine zgBinOp ⟨?_⟩
  refine zPick ⟨?_⟩
  refine zMove ⟨?_⟩
  refine zgMove ⟨?_⟩
  refine zgMove ⟨?_⟩
  refine zgc (sameInts_con (timesR l) (by omega)) ⟨?_⟩
  refine zgUnOp ⟨?_⟩
  refine zPick ⟨?_⟩
  refine zMove ⟨?_⟩
  refine zgMove ⟨?_⟩
  refine zgMove ⟨?_⟩
  refine zgBinOp ⟨?_⟩
  refine zPick ⟨?_⟩
  refine zMove ⟨?_⟩
  refine zgMove ⟨?_⟩
  refine zgMove ⟨?_⟩
  refine zgBinOp ⟨?_⟩
  refine zPick ⟨?_⟩
  refine zMove ⟨?_⟩
  refine zgMove ⟨?_⟩
  refine zgMove ⟨?_⟩
  refine zgc (implAreTurnouts_con l (by omega) (fun t h => Nat.le_trans (hlz t h) (by omega))) ⟨?_⟩
  refine zgBinOp ⟨?_⟩
  refine zPick ⟨?_⟩
  refine zMove ⟨?_⟩
  refine zgMove ⟨?_⟩
  refine zgMove ⟨?_⟩
  refine zgMove ⟨?_⟩
  refine zgMove ⟨?_⟩
  refine zgLen ⟨?_⟩
  refine zgBinOp ⟨?_⟩
  refine zgPick ⟨?_⟩
  refine zgBinOp ⟨?_⟩
  refine zPick ⟨?_⟩
  refine k14 _ ?_
  refine zk ⟨?_⟩
  refine v_cond _ rfl ?_ ?_
  ·intro hc1
   exfalso; revert hc1
   unfold hasT
   cases turnsB l <;> cases l <;> simp <;> omega
  ·intro hc1
   try simp only [zC, reduceCtorEq] at hc1
   refine v_skip ?_
   refine n13 _ _ (weak_keep [1, 5, 6, 8, 9, 13, 16, 17] _) ?_
   refine zk ⟨?_⟩
   refine v_join (A := Unit) (fun u0 => ⟨[(1, .sl (c2.map (V.int .u8))), (5, .ref 0), (6, .int .i64 share), (8, .bool (tshareB l share)), (9, .int .i64 (tshareV l share)), (13, .ref 1)], [.arr (l.map (fun t : Int × ByteArray × Int × Int => V.agg [V.int .i64 t.1, V.str t.2.1, V.int .i64 t.2.2.1, V.int .i64 t.2.2.2])) .flat, .arr ((timesR l).map (V.int .i64)) .flat], false, 405, 0⟩) (fun u0 => True) ?_ ?_
   ·intro Q16 n16 e16 r16
    refine v_seqR [1,5,6,8,9,13,17,142] ?_; intro K17 k17
    refine zMove ⟨?_⟩
    refine k17 _ ?_
    refine zk ⟨?_⟩
    refine v_condS _ rfl ?_ ?_
    ·intro hc2
     have hT : hasT l = true := hc2
     have hTb : turnsB l = true := by rw [hasT, Bool.and_eq_true] at hT; exact hT.1
     have hRl : timesR l = l.map tTime := by rw [timesR, if_pos hTb]
     have hne : l ≠ [] := by intro e; rw [e] at hT; simp [hasT] at hT
     obtain ⟨x0, tl, hxt⟩ := List.exists_cons_of_ne_nil (l := l.map tTime) (by simpa using hne)
     have hf0 : (timesR l)[0]? = some x0 := by rw [hRl, hxt]; rfl
     have hm := deb_mean hT hxt
     rw [← hRl] at hm
     refine v_seq ?_; intro Q19 n19 e19 r19
     refine v_draw (by kernel_rfl) ?_; intro K20 q20 k20
     show aAny _ _ _ _ 8 (Array.replicate 8 false) _
     have F := Fc.mk (fun f => getD_map (f := f) hf0)
     refine zdMove q20 true 0 143 ?_
     refine zdIndexAddr q20 true 1 144 ?_
     refine zdLoadX q20 true 2 145 ?_
     refine zdMove q20 true 3 146 ?_
     refine zdIndexAddr q20 true 4 147 ?_
     refine zdLoadX q20 true 5 148 ?_
     refine zoAssign 6 ⟨?_⟩
     refine zoAssign 7 ⟨?_⟩
     refine aAny_done (by kernel_rfl) ?_
     refine k20 _ ?_
     refine n19 _ _ (weak_keep [1, 5, 6, 8, 9, 13, 17, 19, 20] _) ?_
     refine zk ⟨?_⟩
     refine v_seq ?_; intro Q21 n21 e21 r21
     refine v_seqR [1,5,6,8,9,13,17,19,20,149,150,151] ?_; intro K22 k22
     refine zMove ⟨?_⟩
     refine zLen ⟨?_⟩
     refine zMove ⟨?_⟩
     refine k22 _ ?_
     refine zk ⟨?_⟩
     refine v_block ?_; intro Q23 n23 x23 e23 r23
     refine v_loop (fun q => ⟨[(1, .sl (c2.map (V.int .u8))), (5, .ref 0), (6, .int .i64 share), (8, .bool (tshareB l share)), (9, .int .i64 (tshareV l share)), (13, .ref 1), (17, .int .i64 (meanV l)), (19, .int .i64 q.2.1), (20, .int .i64 q.2.2), (149, .ref 1), (150, .int .i64 (timesR l).length), (151, .int .i64 (Nat.cast q.1))], [.arr (l.map (fun t : Int × ByteArray × Int × Int => V.agg [V.int .i64 t.1, V.str t.2.1, V.int .i64 t.2.2.1, V.int .i64 t.2.2.2])) .flat, .arr ((timesR l).map (V.int .i64)) .flat], false, 405, 0⟩) (fun q => q.1 ≤ (timesR l).length ∧ leastL ((timesR l).drop q.1) q.2.1 = leastL (timesR l) x0 ∧ mostL ((timesR l).drop q.1) q.2.2 = mostL (timesR l) x0) (fun q => (timesR l).length - q.1) ((0, x0, x0) : Nat × Int × Int) ?_ ?_ ?_
     ·refine weak_bothS [1, 5, 6, 8, 9, 13, 17, 19, 20, 149, 150, 151] [0, 2] ⟨?_⟩
      rfl
     ·exact ⟨Nat.zero_le _, rfl, rfl⟩
     ·rintro ⟨i, lo, hi⟩ hok24 Q24 n24 e24 r24
      obtain ⟨hi1, hlo, hhi⟩ := hok24
      simp only [] at hi1 hlo hhi ⊢
      refine v_seqR [1,5,6,8,9,13,17,19,20,149,150,151,152] ?_; intro K25 k25
      refine zBinOp ⟨?_⟩
      refine k25 _ ?_
      refine zk ⟨?_⟩
      refine v_seq ?_; intro Q26 n26 e26 r26
      refine v_condS _ rfl ?_ ?_
      ·intro hc3
       have hlt : i < (timesR l).length := by omega
       obtain ⟨x, hx⟩ : ∃ x, (timesR l)[i]? = some x := ⟨(timesR l)[i], List.getElem?_eq_getElem hlt⟩
       have h2s := least_step hx lo
       have h3s := most_step hx hi
       refine v_skip ?_
       refine n26 _ _ (weak_keep [1, 5, 6, 8, 9, 13, 17, 19, 20, 149, 150, 151] _) ?_
       refine zk ⟨?_⟩
       refine v_seq ?_; intro Q28 n28 e28 r28
       refine v_block ?_; intro Q29 n29 x29 e29 r29
       refine v_seqR [1,5,6,8,9,13,17,19,20,22,149,150,151] ?_; intro K30 k30
       have F := Fc.mk (And.intro (fun f => getD_map (f := f) hf0) (fun f => getD_map (f := f) hx))
       refine zIndexAddr ⟨?_⟩
       refine zLoad ⟨?_⟩
       refine zAssign ⟨?_⟩
       refine k30 _ ?_
       refine zk ⟨?_⟩
       refine v_seq ?_; intro Q31 n31 e31 r31
       refine v_seqR [1,5,6,8,9,13,17,19,20,22,149,150,151,157] ?_; intro K32 k32
       refine zMove ⟨?_⟩
       refine zMove ⟨?_⟩
       refine zBinOp ⟨?_⟩
       refine k32 _ ?_
       refine zk ⟨?_⟩
       refine v_condS _ rfl ?_ ?_
       ·intro hc4
        refine v_region ?_; intro K34 k34
        refine zMove ⟨?_⟩
        refine zAssign ⟨?_⟩
        refine k34 _ ?_
        refine n31 _ _ (weak_keep [1, 5, 6, 8, 9, 13, 17, 19, 20, 22, 149, 150, 151] _) ?_
        refine zk ⟨?_⟩
        refine v_seqR [1,5,6,8,9,13,17,19,20,22,149,150,151,161] ?_; intro K35 k35
        refine zMove ⟨?_⟩
        refine zMove ⟨?_⟩
        refine zBinOp ⟨?_⟩
        refine k35 _ ?_
        refine zk ⟨?_⟩
        refine v_condS _ rfl ?_ ?_
        ·intro hc5
         refine v_region ?_; intro K37 k37
         refine zMove ⟨?_⟩
         refine zAssign ⟨?_⟩
         refine k37 _ ?_
         refine n29 _ ?_
         refine n28 _ _ (weak_keep [1, 5, 6, 8, 9, 13, 17, 19, 20, 149, 150, 151] _) ?_
         refine zk ⟨?_⟩
         refine v_region ?_; intro K38 k38
         refine zBinOpW ⟨?_⟩
         refine zMove ⟨?_⟩
         refine k38 _ ?_
         refine n24 _ (i + 1, x, x) ?_ ?_ ?_
         ·refine weak_bothS [1, 5, 6, 8, 9, 13, 17, 19, 20, 149, 150, 151] [0, 1] ⟨?_⟩
          rfl
         ·exact ⟨hlt, by show leastL _ x = _; rw [← hlo, h2s, if_pos hc4], by show mostL _ x = _; rw [← hhi, h3s, if_pos hc5]⟩
         ·show _ < _; show (timesR l).length - (i + 1) < (timesR l).length - i; omega
        ·intro hc5
         refine v_skip ?_
         refine n29 _ ?_
         refine n28 _ _ (weak_keep [1, 5, 6, 8, 9, 13, 17, 19, 20, 149, 150, 151] _) ?_
         refine zk ⟨?_⟩
         refine v_region ?_; intro K39 k39
         refine zBinOpW ⟨?_⟩
         refine zMove ⟨?_⟩
         refine k39 _ ?_
         refine n24 _ (i + 1, x, hi) ?_ ?_ ?_
         ·refine weak_bothS [1, 5, 6, 8, 9, 13, 17, 19, 20, 149, 150, 151] [0, 1] ⟨?_⟩
          rfl
         ·exact ⟨hlt, by show leastL _ x = _; rw [← hlo, h2s, if_pos hc4], by show mostL _ hi = _; rw [← hhi, h3s, if_neg (by omega)]⟩
         ·show _ < _; show (timesR l).length - (i + 1) < (timesR l).length - i; omega
       ·intro hc4
        refine v_skip ?_
        refine n31 _ _ (weak_keep [1, 5, 6, 8, 9, 13, 17, 19, 20, 22, 149, 150, 151] _) ?_
        refine zk ⟨?_⟩
        refine v_seqR [1,5,6,8,9,13,17,19,20,22,149,150,151,161] ?_; intro K40 k40
        refine zMove ⟨?_⟩
        refine zMove ⟨?_⟩
        refine zBinOp ⟨?_⟩
        refine k40 _ ?_
        refine zk ⟨?_⟩
        refine v_condS _ rfl ?_ ?_
        ·intro hc6
         refine v_region ?_; intro K42 k42
         refine zMove ⟨?_⟩
         refine zAssign ⟨?_⟩
         refine k42 _ ?_
         refine n29 _ ?_
         refine n28 _ _ (weak_keep [1, 5, 6, 8, 9, 13, 17, 19, 20, 149, 150, 151] _) ?_
         refine zk ⟨?_⟩
         refine v_region ?_; intro K43 k43
         refine zBinOpW ⟨?_⟩
         refine zMove ⟨?_⟩
         refine k43 _ ?_
         refine n24 _ (i + 1, lo, x) ?_ ?_ ?_
         ·refine weak_bothS [1, 5, 6, 8, 9, 13, 17, 19, 20, 149, 150, 151] [0, 1] ⟨?_⟩
          rfl
         ·exact ⟨hlt, by show leastL _ lo = _; rw [← hlo, h2s, if_neg (by omega)], by show mostL _ x = _; rw [← hhi, h3s, if_pos hc6]⟩
         ·show _ < _; show (timesR l).length - (i + 1) < (timesR l).length - i; omega
        ·intro hc6
         refine v_skip ?_
         refine n29 _ ?_
         refine n28 _ _ (weak_keep [1, 5, 6, 8, 9, 13, 17, 19, 20, 149, 150, 151] _) ?_
         refine zk ⟨?_⟩
         refine v_region ?_; intro K44 k44
         refine zBinOpW ⟨?_⟩
         refine zMove ⟨?_⟩
         refine k44 _ ?_
         refine n24 _ (i + 1, lo, hi) ?_ ?_ ?_
         ·refine weak_bothS [1, 5, 6, 8, 9, 13, 17, 19, 20, 149, 150, 151] [0, 1] ⟨?_⟩
          rfl
         ·exact ⟨hlt, by show leastL _ lo = _; rw [← hlo, h2s, if_neg (by omega)], by show mostL _ hi = _; rw [← hhi, h3s, if_neg (by omega)]⟩
         ·show _ < _; show (timesR l).length - (i + 1) < (timesR l).length - i; omega
      ·intro hc3
       have hlo2 : lo = leastL (timesR l) x0 := by rw [← hlo, least_end (by omega)]
       have hhi2 : hi = mostL (timesR l) x0 := by rw [← hhi, most_end (by omega)]
       refine v_exit ?_
       refine e26 _ _ ?_
       refine e24 _ _ ?_
       refine x23 _ ?_
       refine n21 _ _ (weak_keep [1, 5, 6, 8, 9, 13, 17, 19, 20] _) ?_
       refine zk ⟨?_⟩
       refine v_seqR [1,5,6,8,9,13,171] ?_; intro K45 k45
       refine zMove ⟨?_⟩
       refine zMove ⟨?_⟩
       refine zBinOp ⟨?_⟩
       refine zMove ⟨?_⟩
       refine zgMove ⟨?_⟩
       refine zgMove ⟨?_⟩
       refine zgBinOp ⟨?_⟩
       refine zPick ⟨?_⟩
       refine k45 _ ?_
       refine zk ⟨?_⟩
       refine v_cond _ rfl ?_ ?_
       ·intro hc7
        exfalso; rw [hlo2, hhi2] at hc7
        first | omega | (simp at hc7; done) | (simp at hc7; omega)
       ·intro hc7
        try simp only [zC, reduceCtorEq] at hc7
        refine v_skip ?_
        refine n16 () _ ?_ ?_
        ·trivial
        ·refine weak_both [1, 5, 6, 8, 9, 13] [0, 1] (by decide) (by simp) ?_ ?_ ?_
         ·simp [keep_mk, keepE_nil, keepE_cons, look_cons, V.only, V.onlyL, idx] <;> (first | rfl | decide)
         ·simp [Blk.kindIs, fillK_mix]
         simp only [keep_mk, keepE_nil, keepE_cons, look_cons, look_nil, Nat.reduceEqDiff, reduceIte, St.comp, List.map_cons, List.map_nil, V.ren, V.renL, idx, List.getD_cons_zero, List.getD_cons_succ, Nat.reduceBEq, cond_true, cond_false, Option.map_some, Option.getD_some, Nat.reduceAdd, Nat.beq_eq_true_eq]
         all_goals rfl
    ·intro hc2
     refine v_skip ?_
     refine n16 () _ ?_ ?_
     ·trivial
     ·refine weak_both [1, 5, 6, 8, 9, 13] [0, 2] (by decide) (by simp) ?_ ?_ ?_
      ·simp [keep_mk, keepE_nil, keepE_cons, look_cons, V.only, V.onlyL, idx] <;> (first | rfl | decide)
      ·simp [Blk.kindIs, fillK_mix]
      simp only [keep_mk, keepE_nil, keepE_cons, look_cons, look_nil, Nat.reduceEqDiff, reduceIte, St.comp, List.map_cons, List.map_nil, V.ren, V.renL, idx, List.getD_cons_zero, List.getD_cons_succ, Nat.reduceBEq, cond_true, cond_false, Option.map_some, Option.getD_some, Nat.reduceAdd, Nat.beq_eq_true_eq]
      all_goals rfl
   ·rintro u0 hok16
    have _hu : True := hok16
    refine v_join (A := Unit) (fun u0 => ⟨[(1, .sl (c2.map (V.int .u8)))], [], false, 405, 0⟩) (fun u0 => True) ?_ ?_
    ·intro Q47 n47 e47 r47
     refine v_seqR [1,5,6,9,13,172] ?_; intro K48 k48
     have F := Fc.mk True.intro
     refine zMove ⟨?_⟩
     refine k48 _ ?_
     refine zk ⟨?_⟩
     refine v_condS _ rfl ?_ ?_
     ·intro hc8
      have hok : tshareB l share = true := hc8
      have hts := deb_share hok
      have hkk := hok
      simp only [tshareB, Bool.and_eq_true, decide_eq_true_eq] at hkk
      have hRl : timesR l = l.map tTime := by rw [timesR, if_pos hkk.1.1]
      have hl15 := tshare_len hkk.1.1
      have hsr := hkk.1.2
      have hmul : 0 ≤ share * (l.length : Int) ∧ share * (l.length : Int) ≤ 1500 := ⟨Int.mul_nonneg (by omega) (by omega), Int.le_trans (Int.mul_le_mul (show share ≤ 100 by omega) (show (l.length : Int) ≤ 15 by omega) (by omega) (by omega)) (by decide)⟩
      have hTl : (timesR l).length = l.length := by rw [hRl, List.length_map]
      refine v_seqR [1,5,6,9,13,23,24] ?_; intro K50 k50
      refine zAssign ⟨?_⟩
      refine zAssign ⟨?_⟩
      refine k50 _ ?_
      refine zk ⟨?_⟩
      refine v_seq ?_; intro Q51 n51 e51 r51
      refine v_seqR [1,5,6,9,23,24,173,174,175] ?_; intro K52 k52
      refine zMove ⟨?_⟩
      refine zLen ⟨?_⟩
      refine zMove ⟨?_⟩
      refine k52 _ ?_
      refine zk ⟨?_⟩
      refine v_block ?_; intro Q53 n53 x53 e53 r53
      refine v_loop (fun q => ⟨[(1, .sl (c2.map (V.int .u8))), (5, .ref 0), (6, .int .i64 share), (9, .int .i64 (tshareV l share)), (23, .int .i64 (Nat.cast q.2.1)), (24, .int .i64 (Nat.cast q.2.2)), (173, .ref 1), (174, .int .i64 (timesR l).length), (175, .int .i64 (Nat.cast q.1))], [.arr (l.map (fun t : Int × ByteArray × Int × Int => V.agg [V.int .i64 t.1, V.str t.2.1, V.int .i64 t.2.2.1, V.int .i64 t.2.2.2])) .flat, .arr ((timesR l).map (V.int .i64)) .flat], false, 405, 0⟩) (fun q => q.1 ≤ (timesR l).length ∧ q.2.1 = cntLe (tshareV l share) ((timesR l).take q.1) ∧ q.2.2 = cntLe ((tshareV l share) - 1) ((timesR l).take q.1) ∧ q.2.1 ≤ q.1 ∧ q.2.2 ≤ q.1) (fun q => (timesR l).length - q.1) ((0, 0, 0) : Nat × Nat × Nat) ?_ ?_ ?_
      ·refine weak_bothS [1, 5, 6, 9, 23, 24, 173, 174, 175] [0, 1] ⟨?_⟩
       rfl
      ·exact ⟨Nat.zero_le _, rfl, rfl, Nat.le_refl _, Nat.le_refl _⟩
      ·rintro ⟨i, en, le⟩ hok54 Q54 n54 e54 r54
       obtain ⟨hi1, hen, hle, hen1, hle1⟩ := hok54
       simp only [] at hi1 hen hle hen1 hle1 ⊢
       refine v_seqR [1,5,6,9,23,24,173,174,175,176] ?_; intro K55 k55
       refine zBinOp ⟨?_⟩
       refine k55 _ ?_
       refine zk ⟨?_⟩
       refine v_seq ?_; intro Q56 n56 e56 r56
       refine v_condS _ rfl ?_ ?_
       ·intro hc9
        have hlt : i < (timesR l).length := by omega
        obtain ⟨x, hx⟩ : ∃ x, (timesR l)[i]? = some x := ⟨(timesR l)[i], List.getElem?_eq_getElem hlt⟩
        have h4s := cnt_stepU (lim := (tshareV l share)) hx
        have h5s := cnt_stepU (lim := (tshareV l share) - 1) hx
        refine v_skip ?_
        refine n56 _ _ (weak_keep [1, 5, 6, 9, 23, 24, 173, 174, 175] _) ?_
        refine zk ⟨?_⟩
        refine v_seq ?_; intro Q58 n58 e58 r58
        refine v_block ?_; intro Q59 n59 x59 e59 r59
        refine v_seqR [1,5,6,9,23,24,26,173,174,175] ?_; intro K60 k60
        have F := Fc.mk (fun f => getD_map (f := f) hx)
        refine zIndexAddr ⟨?_⟩
        refine zLoad ⟨?_⟩
        refine zAssign ⟨?_⟩
        refine k60 _ ?_
        refine zk ⟨?_⟩
        refine v_seq ?_; intro Q61 n61 e61 r61
        refine v_seqR [1,5,6,9,23,24,26,173,174,175,181] ?_; intro K62 k62
        refine zMove ⟨?_⟩
        refine zMove ⟨?_⟩
        refine zBinOp ⟨?_⟩
        refine k62 _ ?_
        refine zk ⟨?_⟩
        refine v_condS _ rfl ?_ ?_
        ·intro hc10
         refine v_region ?_; intro K64 k64
         refine zMove ⟨?_⟩
         refine zBinOpW ⟨?_⟩
         refine zAssign ⟨?_⟩
         refine k64 _ ?_
         refine n61 _ _ (weak_keep [1, 5, 6, 9, 23, 24, 26, 173, 174, 175] _) ?_
         refine zk ⟨?_⟩
         refine v_seqR [1,5,6,9,23,24,173,174,175,186] ?_; intro K65 k65
         refine zMove ⟨?_⟩
         refine zMove ⟨?_⟩
         refine zBinOp ⟨?_⟩
         refine k65 _ ?_
         refine zk ⟨?_⟩
         refine v_condS _ rfl ?_ ?_
         ·intro hc11
          refine v_region ?_; intro K67 k67
          refine zMove ⟨?_⟩
          refine zBinOpW ⟨?_⟩
          refine zAssign ⟨?_⟩
          refine k67 _ ?_
          refine n59 _ ?_
          refine n58 _ _ (weak_keep [1, 5, 6, 9, 23, 24, 173, 174, 175] _) ?_
          refine zk ⟨?_⟩
          refine v_region ?_; intro K68 k68
          refine zBinOpW ⟨?_⟩
          refine zMove ⟨?_⟩
          refine k68 _ ?_
          refine n54 _ (i + 1, en + 1, le + 1) ?_ ?_ ?_
          ·refine weak_bothS [1, 5, 6, 9, 23, 24, 173, 174, 175] [0, 1] ⟨?_⟩
           rfl
          ·exact ⟨hlt, by show en + 1 = _; rw [h4s, if_pos (by omega), ← hen], by show le + 1 = _; rw [h5s, if_pos (by omega), ← hle], by show en + 1 ≤ i + 1; omega, by show le + 1 ≤ i + 1; omega⟩
          ·show _ < _; show (timesR l).length - (i + 1) < (timesR l).length - i; omega
         ·intro hc11
          refine v_skip ?_
          refine n59 _ ?_
          refine n58 _ _ (weak_keep [1, 5, 6, 9, 23, 24, 173, 174, 175] _) ?_
          refine zk ⟨?_⟩
          refine v_region ?_; intro K69 k69
          refine zBinOpW ⟨?_⟩
          refine zMove ⟨?_⟩
          refine k69 _ ?_
          refine n54 _ (i + 1, en + 1, le) ?_ ?_ ?_
          ·refine weak_bothS [1, 5, 6, 9, 23, 24, 173, 174, 175] [0, 1] ⟨?_⟩
           rfl
          ·exact ⟨hlt, by show en + 1 = _; rw [h4s, if_pos (by omega), ← hen], by show le = _; rw [h5s, if_neg (by omega), ← hle]; rfl, by show en + 1 ≤ i + 1; omega, by show le ≤ i + 1; omega⟩
          ·show _ < _; show (timesR l).length - (i + 1) < (timesR l).length - i; omega
        ·intro hc10
         refine v_skip ?_
         refine n61 _ _ (weak_keep [1, 5, 6, 9, 23, 24, 26, 173, 174, 175] _) ?_
         refine zk ⟨?_⟩
         refine v_seqR [1,5,6,9,23,24,173,174,175,186] ?_; intro K70 k70
         refine zMove ⟨?_⟩
         refine zMove ⟨?_⟩
         refine zBinOp ⟨?_⟩
         refine k70 _ ?_
         refine zk ⟨?_⟩
         refine v_cond _ rfl ?_ ?_
         ·intro hc12
          exfalso; simp at hc12; omega
         ·intro hc12
          try simp only [zC, reduceCtorEq] at hc12
          refine v_skip ?_
          refine n59 _ ?_
          refine n58 _ _ (weak_keep [1, 5, 6, 9, 23, 24, 173, 174, 175] _) ?_
          refine zk ⟨?_⟩
          refine v_region ?_; intro K72 k72
          refine zBinOpW ⟨?_⟩
          refine zMove ⟨?_⟩
          refine k72 _ ?_
          refine n54 _ (i + 1, en, le) ?_ ?_ ?_
          ·refine weak_bothS [1, 5, 6, 9, 23, 24, 173, 174, 175] [0, 1] ⟨?_⟩
           rfl
          ·exact ⟨hlt, by show en = _; rw [h4s, if_neg (by omega), ← hen]; rfl, by show le = _; rw [h5s, if_neg (by omega), ← hle]; rfl, by show en ≤ i + 1; omega, by show le ≤ i + 1; omega⟩
          ·show _ < _; show (timesR l).length - (i + 1) < (timesR l).length - i; omega
       ·intro hc9
        have hen2 : en = cntLe (tshareV l share) (l.map tTime) := by rw [hen, List.take_of_length_le (by omega), hRl]
        have hle2 : le = cntLe ((tshareV l share) - 1) (l.map tTime) := by rw [hle, List.take_of_length_le (by omega), hRl]
        refine v_exit ?_
        refine e56 _ _ ?_
        refine e54 _ _ ?_
        refine x53 _ ?_
        refine n51 _ _ (weak_keep [1, 5, 6, 23, 24] _) ?_
        refine zk ⟨?_⟩
        refine v_seqR [1,205] ?_; intro K73 k73
        refine zMove ⟨?_⟩
        refine zBinOpW ⟨?_⟩
        refine zMove ⟨?_⟩
        refine zMove ⟨?_⟩
        refine zLen ⟨?_⟩
        refine zBinOpW ⟨?_⟩
        refine zBinOp ⟨?_⟩
        refine zMove ⟨?_⟩
        refine zgMove ⟨?_⟩
        refine zgBinOpW ⟨?_⟩
        refine zgMove ⟨?_⟩
        refine zgMove ⟨?_⟩
        refine zgLen ⟨?_⟩
        refine zgBinOpW ⟨?_⟩
        refine zgBinOp ⟨?_⟩
        refine zPick ⟨?_⟩
        refine k73 _ ?_
        refine zk ⟨?_⟩
        refine v_cond _ rfl ?_ ?_
        ·intro hc13
         exfalso; rw [← hen2, ← hle2] at hts
         first | omega | (simp at hc13; done) | (simp at hc13; omega)
        ·intro hc13
         try simp only [zC, reduceCtorEq] at hc13
         refine v_skip ?_
         refine n47 () _ ?_ ?_
         ·trivial
         ·refine weak_both [1] [] (by decide) (by simp) ?_ ?_ ?_
          ·simp [keep_mk, keepE_nil, keepE_cons, look_cons, V.only, V.onlyL, idx] <;> (first | rfl | decide)
          ·simp [Blk.kindIs, fillK_mix]
          simp only [keep_mk, keepE_nil, keepE_cons, look_cons, look_nil, Nat.reduceEqDiff, reduceIte, St.comp, List.map_cons, List.map_nil, V.ren, V.renL, idx, List.getD_cons_zero, List.getD_cons_succ, Nat.reduceBEq, cond_true, cond_false, Option.map_some, Option.getD_some, Nat.reduceAdd, Nat.beq_eq_true_eq]
          all_goals rfl
     ·intro hc8
      refine v_skip ?_
      refine n47 () _ ?_ ?_
      ·trivial
      ·refine weak_both [1] [] (by decide) (by simp) ?_ ?_ ?_
       ·simp [keep_mk, keepE_nil, keepE_cons, look_cons, V.only, V.onlyL, idx] <;> (first | rfl | decide)
       ·simp [Blk.kindIs, fillK_mix]
       simp only [keep_mk, keepE_nil, keepE_cons, look_cons, look_nil, Nat.reduceEqDiff, reduceIte, St.comp, List.map_cons, List.map_nil, V.ren, V.renL, idx, List.getD_cons_zero, List.getD_cons_succ, Nat.reduceBEq, cond_true, cond_false, Option.map_some, Option.getD_some, Nat.reduceAdd, Nat.beq_eq_true_eq]
       all_goals rfl
    ·rintro u0 hok47
     have _hu : True := hok47
     refine v_seqR [1,27,28] ?_; intro K75 k75
     have F := Fc.mk True.intro
     refine zMove ⟨?_⟩
     refine v_op ?_; intro K k
     simp only [zE, zM, aStepM, optable, set_some, Nat.reduceEqDiff, reduceIte, Nat.reduceLT, implies_true, forall_const, reduceCtorEq, V.ofValue, V.ofScalar, V.un, V.gd, aExec, lentIds, lendOf, ‹Tys _›.h, ‹Fc _›.h]
     repeat (refine andC ?_)
     refine aCall_newXA (drawShareInTime_con c2 hc2 hn2) ?_
     rintro _ _ ⟨u, lim, ⟨⟨hul, huz⟩, hlim0, hlim1⟩, rfl, rfl⟩
     refine ⟨by first | exact .inl ⟨rfl, by simp [Blk.kindIs, fillK_fd]⟩ | exact .inr (by simp [V.coldIn, V.cold, idx]), ?_⟩
     refine k _ ?_; clear k K
     simp only [zY, zW, set_some, Nat.reduceEqDiff, reduceIte, rho_one, rho_s, V.ren, V.renL, List.set_cons_zero, List.set_cons_succ, rho, Nat.reduceAdd, Nat.add_zero]
     have hlt := lateR_len u lim
     refine zMove ⟨?_⟩
     refine zExtract ⟨?_⟩
     refine zExtract ⟨?_⟩
     refine zAssign ⟨?_⟩
     refine zAssign ⟨?_⟩
     refine k75 _ ?_
     refine zk ⟨?_⟩
     refine v_seqR [1,27,28,29,30] ?_; intro K76 k76
     refine zMove ⟨?_⟩
     refine zMove ⟨?_⟩
     refine zc (implShare_con u lim (by omega) (fun t h => Nat.le_trans (huz t h) (by omega))) ⟨?_⟩
     refine zMove ⟨?_⟩
     refine zExtract ⟨?_⟩
     refine zExtract ⟨?_⟩
     refine zAssign ⟨?_⟩
     refine zAssign ⟨?_⟩
     refine k76 _ ?_
     refine zk ⟨?_⟩
     refine v_seqR [1,27,28,29,30,31,32] ?_; intro K77 k77
     refine zMove ⟨?_⟩
     refine zMove ⟨?_⟩
     refine zc (specShare_con u lim (by omega) (fun t h => Nat.le_trans (huz t h) (by omega))) ⟨?_⟩
     refine zMove ⟨?_⟩
     refine zExtract ⟨?_⟩
     refine zExtract ⟨?_⟩
     refine zAssign ⟨?_⟩
     refine zAssign ⟨?_⟩
     refine k77 _ ?_
     refine zk ⟨?_⟩
     refine v_seqR [1,27,28,29,30,31,32,33,34] ?_; intro K78 k78
     refine zMove ⟨?_⟩
     refine zMove ⟨?_⟩
     refine zc (implLate_con u lim (by omega) (fun t h => Nat.le_trans (huz t h) (by omega))) ⟨?_⟩
     refine zMove ⟨?_⟩
     refine zExtract ⟨?_⟩
     refine zExtract ⟨?_⟩
     refine zAssign ⟨?_⟩
     refine zAssign ⟨?_⟩
     refine k78 _ ?_
     refine zk ⟨?_⟩
     refine v_seqR [1,27,29,30,31,32,33,34,35,36] ?_; intro K79 k79
     refine zMove ⟨?_⟩
     refine zMove ⟨?_⟩
     refine zc (specLate_con u lim (by omega) (fun t h => Nat.le_trans (huz t h) (by omega))) ⟨?_⟩
     refine zMove ⟨?_⟩
     refine zExtract ⟨?_⟩
     refine zExtract ⟨?_⟩
     refine zAssign ⟨?_⟩
     refine zAssign ⟨?_⟩
     refine k79 _ ?_
     refine zk ⟨?_⟩
     refine v_join (A := Unit) (fun u0 => ⟨[(1, .sl (c2.map (V.int .u8)))], [], false, 405, 0⟩) (fun u0 => True) ?_ ?_
     ·intro Q80 n80 e80 r80
      rcases Bool.eq_false_or_eq_true (hasS u lim) with hS | hS
      ·skip
       have hdp := deb_percent hS
       have hsev := hdp.1
       have hul0 := hdp.2.1
       have hsl := hdp.2.2.1
       have hu15 := hdp.2.2.2.1
       refine v_seqR [1,273] ?_; intro K81 k81
       have F := Fc.mk (And.intro hS hsev)
       refine zMove ⟨?_⟩
       refine zMove ⟨?_⟩
       refine zBinOp ⟨?_⟩
       refine zMove ⟨?_⟩
       refine zgMove ⟨?_⟩
       refine zgMove ⟨?_⟩
       refine zgBinOp ⟨?_⟩
       refine zPick ⟨?_⟩
       refine zMove ⟨?_⟩
       refine zgMove ⟨?_⟩
       refine zgMove ⟨?_⟩
       refine zgBinOp ⟨?_⟩
       refine zPick ⟨?_⟩
       refine zMove ⟨?_⟩
       refine zgMove ⟨?_⟩
       refine zgMove ⟨?_⟩
       refine zgc (sameInts_con (lateR u lim) (by omega)) ⟨?_⟩
       refine zgUnOp ⟨?_⟩
       refine zPick ⟨?_⟩
       refine zMove ⟨?_⟩
       refine zgMove ⟨?_⟩
       refine zgMove ⟨?_⟩
       refine zgMove ⟨?_⟩
       refine zgUnOp ⟨?_⟩
       refine zgMove ⟨?_⟩
       refine zgMove ⟨?_⟩
       refine zgMove ⟨?_⟩
       refine zgLen ⟨?_⟩
       refine zgMove ⟨?_⟩
       refine zgLen ⟨?_⟩
       refine zgBinOpW ⟨?_⟩
       refine zgBinOpW ⟨?_⟩
       refine zgMove ⟨?_⟩
       refine zgLen ⟨?_⟩
       refine zgBinOpW ⟨?_⟩
       refine zgBinOp ⟨?_⟩
       refine zgPick ⟨?_⟩
       refine zgPick ⟨?_⟩
       refine zPick ⟨?_⟩
       refine k81 _ ?_
       refine zk ⟨?_⟩
       refine v_cond _ rfl ?_ ?_
       ·intro hc14
        exfalso; have hpe := hdp.2.2.2.2
        first | (simp at hc14; done) | (rw [hpe] at hc14; simp at hc14; done)
       ·intro hc14
        try simp only [zC, reduceCtorEq] at hc14
        refine v_skip ?_
        refine n80 () _ ?_ ?_
        ·trivial
        ·refine weak_both [1] [] (by decide) (by simp) ?_ ?_ ?_
         ·simp [keep_mk, keepE_nil, keepE_cons, look_cons, V.only, V.onlyL, idx] <;> (first | rfl | decide)
         ·simp [Blk.kindIs, fillK_mix]
         simp only [keep_mk, keepE_nil, keepE_cons, look_cons, look_nil, Nat.reduceEqDiff, reduceIte, St.comp, List.map_cons, List.map_nil, V.ren, V.renL, idx, List.getD_cons_zero, List.getD_cons_succ, Nat.reduceBEq, cond_true, cond_false, Option.map_some, Option.getD_some, Nat.reduceAdd, Nat.beq_eq_true_eq]
         all_goals rfl
      ·skip
       skip
       refine v_seqR [1,273] ?_; intro K83 k83
       have F := Fc.mk hS
       refine zMove ⟨?_⟩
       refine zMove ⟨?_⟩
       refine zBinOp ⟨?_⟩
       refine zMove ⟨?_⟩
       refine zgMove ⟨?_⟩
       refine zgMove ⟨?_⟩
       refine zgBinOp ⟨?_⟩
       refine zPick ⟨?_⟩
       refine zMove ⟨?_⟩
       refine zgMove ⟨?_⟩
       refine zgMove ⟨?_⟩
       refine zgBinOp ⟨?_⟩
       refine zPick ⟨?_⟩
       refine zMove ⟨?_⟩
       refine zgMove ⟨?_⟩
       refine zgMove ⟨?_⟩
       refine zgc (sameInts_con (lateR u lim) (by omega)) ⟨?_⟩
       refine zgUnOp ⟨?_⟩
       refine zPick ⟨?_⟩
       refine zMove ⟨?_⟩
       refine zgMove ⟨?_⟩
       refine zgMove ⟨?_⟩
       refine zgMove ⟨?_⟩
       refine zgUnOp ⟨?_⟩
       refine zgMove ⟨?_⟩
       refine zgMove ⟨?_⟩
       refine zgMove ⟨?_⟩
       refine zgLen ⟨?_⟩
       refine zgMove ⟨?_⟩
       refine zgLen ⟨?_⟩
       refine zgBinOpW ⟨?_⟩
       refine zgBinOpW ⟨?_⟩
       refine zgMove ⟨?_⟩
       refine zgLen ⟨?_⟩
       refine zgBinOpW ⟨?_⟩
       refine zgBinOp ⟨?_⟩
       refine zgPick ⟨?_⟩
       refine zgPick ⟨?_⟩
       refine zPick ⟨?_⟩
       refine k83 _ ?_
       refine zk ⟨?_⟩
       refine v_cond _ rfl ?_ ?_
       ·intro hc14
        exfalso; simp at hc14
       ·intro hc14
        try simp only [zC, reduceCtorEq] at hc14
        refine v_skip ?_
        refine n80 () _ ?_ ?_
        ·trivial
        ·refine weak_both [1] [] (by decide) (by simp) ?_ ?_ ?_
         ·simp [keep_mk, keepE_nil, keepE_cons, look_cons, V.only, V.onlyL, idx] <;> (first | rfl | decide)
         ·simp [Blk.kindIs, fillK_mix]
         simp only [keep_mk, keepE_nil, keepE_cons, look_cons, look_nil, Nat.reduceEqDiff, reduceIte, St.comp, List.map_cons, List.map_nil, V.ren, V.renL, idx, List.getD_cons_zero, List.getD_cons_succ, Nat.reduceBEq, cond_true, cond_false, Option.map_some, Option.getD_some, Nat.reduceAdd, Nat.beq_eq_true_eq]
         all_goals rfl
     ·rintro u0 hok80
      have _hu : True := hok80
      refine v_seqR [1,37] ?_; intro K85 k85
      have F := Fc.mk True.intro
      refine zMove ⟨?_⟩
      refine v_op ?_; intro K k
      simp only [zE, zM, aStepM, optable, set_some, Nat.reduceEqDiff, reduceIte, Nat.reduceLT, implies_true, forall_const, reduceCtorEq, V.ofValue, V.ofScalar, V.un, V.gd, aExec, lentIds, lendOf, ‹Tys _›.h, ‹Fc _›.h]
      repeat (refine andC ?_)
      refine aCall_newXA (drawBusyTwice_con c2 hc2 hn2) ?_
      rintro _ _ ⟨v, ⟨hvl, hvz⟩, rfl, rfl⟩
      refine ⟨by first | exact .inl ⟨rfl, by simp [Blk.kindIs, fillK_fd]⟩ | exact .inr (by simp [V.coldIn, V.cold, idx]), ?_⟩
      refine k _ ?_; clear k K
      simp only [zY, zW, set_some, Nat.reduceEqDiff, reduceIte, rho_one, rho_s, V.ren, V.renL, List.set_cons_zero, List.set_cons_succ, rho, Nat.reduceAdd, Nat.add_zero]
      have hbl := busyR_len v
      have hbx : ∀ p ∈ busyR v, p.length ≤ 1048576 := fun p hp => by obtain ⟨i, k, a, b, e, _⟩ := busy_at hp; rw [e]; simp
      refine zAssign ⟨?_⟩
      refine k85 _ ?_
      refine zk ⟨?_⟩
      refine v_seqR [1,37,38,39] ?_; intro K86 k86
      refine zMove ⟨?_⟩
      refine zc (implBusy_con v (by omega) (fun t h => Nat.le_trans (hvz t h) (by omega))) ⟨?_⟩
      refine zMove ⟨?_⟩
      refine zExtract ⟨?_⟩
      refine zExtract ⟨?_⟩
      refine zAssign ⟨?_⟩
      refine zAssign ⟨?_⟩
      refine k86 _ ?_
      refine zk ⟨?_⟩
      refine v_seqR [1,37,38,39,40,41] ?_; intro K87 k87
      refine zMove ⟨?_⟩
      refine zc (specBusy_con v (by omega) (fun t h => Nat.le_trans (hvz t h) (by omega))) ⟨?_⟩
      refine zMove ⟨?_⟩
      refine zExtract ⟨?_⟩
      refine zExtract ⟨?_⟩
      refine zAssign ⟨?_⟩
      refine zAssign ⟨?_⟩
      refine k87 _ ?_
      refine zk ⟨?_⟩
      refine v_seqR [1,37,38,39,40,41,42,43] ?_; intro K88 k88
      refine zMove ⟨?_⟩
      refine v_op ?_; intro K k
      simp only [zE, zM, aStepM, optable, set_some, Nat.reduceEqDiff, reduceIte, Nat.reduceLT, implies_true, forall_const, reduceCtorEq, V.ofValue, V.ofScalar, V.un, V.gd, aExec, lentIds, lendOf, ‹Tys _›.h, ‹Fc _›.h]
      repeat (refine andC ?_)
      refine aCall_newXA (drawFirstArrival_con c2 hc2 hn2) ?_
      rintro _ _ ⟨w, inc, ⟨⟨hwl, hwz⟩, hi0, hi1⟩, rfl, rfl⟩
      refine ⟨by first | exact .inl ⟨rfl, by simp [Blk.kindIs, fillK_fd]⟩ | exact .inr (by simp [V.coldIn, V.cold, idx]), ?_⟩
      refine k _ ?_; clear k K
      simp only [zY, zW, set_some, Nat.reduceEqDiff, reduceIte, rho_one, rho_s, V.ren, V.renL, List.set_cons_zero, List.set_cons_succ, rho, Nat.reduceAdd, Nat.add_zero]
      refine zMove ⟨?_⟩
      refine zExtract ⟨?_⟩
      refine zExtract ⟨?_⟩
      refine zAssign ⟨?_⟩
      refine zAssign ⟨?_⟩
      refine k88 _ ?_
      refine zk ⟨?_⟩
      refine v_seqR [1,37,38,39,40,41,42,43,44,45,46] ?_; intro K89 k89
      refine zMove ⟨?_⟩
      refine zMove ⟨?_⟩
      refine zc (implFirstArrival_con w inc (by omega) (fun t h => Nat.le_trans (hwz t h) (by omega))) ⟨?_⟩
      refine zMove ⟨?_⟩
      refine zExtract ⟨?_⟩
      refine zExtract ⟨?_⟩
      refine zExtract ⟨?_⟩
      refine zAssign ⟨?_⟩
      refine zAssign ⟨?_⟩
      refine zAssign ⟨?_⟩
      refine k89 _ ?_
      refine zk ⟨?_⟩
      refine v_seqR [1,37,38,39,40,41,44,45,46,47,48,49] ?_; intro K90 k90
      refine zMove ⟨?_⟩
      refine zMove ⟨?_⟩
      refine zc (specFirstArrival_con w inc (by omega) (fun t h => Nat.le_trans (hwz t h) (by omega))) ⟨?_⟩
      refine zMove ⟨?_⟩
      refine zExtract ⟨?_⟩
      refine zExtract ⟨?_⟩
      refine zExtract ⟨?_⟩
      refine zAssign ⟨?_⟩
      refine zAssign ⟨?_⟩
      refine zAssign ⟨?_⟩
      refine k90 _ ?_
      refine zk ⟨?_⟩
      refine v_seqR [37,38,39,40,41,44,45,46,47,48,49,50] ?_; intro K91 k91
      refine zMove ⟨?_⟩
      refine v_op ?_; intro K k
      simp only [zE, zM, aStepM, optable, set_some, Nat.reduceEqDiff, reduceIte, Nat.reduceLT, implies_true, forall_const, reduceCtorEq, V.ofValue, V.ofScalar, V.un, V.gd, aExec, lentIds, lendOf, ‹Tys _›.h, ‹Fc _›.h]
      repeat (refine andC ?_)
      refine aCall_newXA (drawTurnoutsText_con c2 hc2 hn2) ?_
      rintro _ _ ⟨y, ⟨hyl, hyz⟩, rfl, rfl⟩
      refine ⟨by first | exact .inl ⟨rfl, by simp [Blk.kindIs, fillK_fd]⟩ | exact .inr (by simp [V.coldIn, V.cold, idx]), ?_⟩
      refine k _ ?_; clear k K
      simp only [zY, zW, set_some, Nat.reduceEqDiff, reduceIte, rho_one, rho_s, V.ren, V.renL, List.set_cons_zero, List.set_cons_succ, rho, Nat.reduceAdd, Nat.add_zero]
      refine zAssign ⟨?_⟩
      refine k91 _ ?_
      refine zk ⟨?_⟩
      refine v_seqR [37,38,39,40,41,44,45,46,47,48,49,50,51,52] ?_; intro K92 k92
      refine zMove ⟨?_⟩
      refine zc (implTurnoutsText_con y (by omega) (fun t h => Nat.le_trans (hyz t h) (by omega))) ⟨?_⟩
      refine zMove ⟨?_⟩
      refine zExtract ⟨?_⟩
      refine zExtract ⟨?_⟩
      refine zAssign ⟨?_⟩
      refine zAssign ⟨?_⟩
      refine k92 _ ?_
      refine zk ⟨?_⟩
      refine v_seqR [37,38,39,40,41,44,45,46,47,48,49,51,52,53,54] ?_; intro K93 k93
      refine zMove ⟨?_⟩
      refine zc (specTurnoutsText_con y (by omega) (fun t h => Nat.le_trans (hyz t h) (by omega))) ⟨?_⟩
      refine zMove ⟨?_⟩
      refine zExtract ⟨?_⟩
      refine zExtract ⟨?_⟩
      refine zAssign ⟨?_⟩
      refine zAssign ⟨?_⟩
      refine k93 _ ?_
      refine zk ⟨?_⟩
      refine v_seq ?_; intro Q94 n94 e94 r94
      refine v_seqR [37,40,46,48,350] ?_; intro K95 k95
      refine zMove ⟨?_⟩
      refine zMove ⟨?_⟩
      refine zBinOp ⟨?_⟩
      refine zMove ⟨?_⟩
      refine zgMove ⟨?_⟩
      refine zgMove ⟨?_⟩
      refine zgc (sameLists_con (busyR v) (by omega) hbx) ⟨?_⟩
      refine zgUnOp ⟨?_⟩
      refine zPick ⟨?_⟩
      refine zMove ⟨?_⟩
      refine zgMove ⟨?_⟩
      refine zgMove ⟨?_⟩
      refine zgBinOp ⟨?_⟩
      refine zPick ⟨?_⟩
      refine zMove ⟨?_⟩
      refine zgMove ⟨?_⟩
      refine zgMove ⟨?_⟩
      refine zgBinOp ⟨?_⟩
      refine zPick ⟨?_⟩
      refine zMove ⟨?_⟩
      refine zgMove ⟨?_⟩
      refine zgMove ⟨?_⟩
      refine zgBinOp ⟨?_⟩
      refine zPick ⟨?_⟩
      refine zMove ⟨?_⟩
      refine zgMove ⟨?_⟩
      refine zgMove ⟨?_⟩
      refine zgBinOp ⟨?_⟩
      refine zPick ⟨?_⟩
      refine zMove ⟨?_⟩
      refine zgMove ⟨?_⟩
      refine zgMove ⟨?_⟩
      refine zgBinOp ⟨?_⟩
      refine zPick ⟨?_⟩
      refine k95 _ ?_
      refine zk ⟨?_⟩
      refine v_cond _ rfl ?_ ?_
      ·intro hc15
       exfalso; simp at hc15
      ·intro hc15
       try simp only [zC, reduceCtorEq] at hc15
       refine v_skip ?_
       refine n94 _ _ (weak_keep [37, 40, 46, 48] _) ?_
       refine zk ⟨?_⟩
       refine v_seq ?_; intro Q97 n97 e97 r97
       refine v_seq ?_; intro Q98 n98 e98 r98
       refine v_region ?_; intro K99 k99
       refine zMove ⟨?_⟩
       refine zLen ⟨?_⟩
       refine zMove ⟨?_⟩
       refine k99 _ ?_
       apply n98
       ·apply weak_trans (weak_keep [37, 46, 48, 351, 352, 353] _)
        simp only [keep_mk, keepE_nil, keepE_cons, look_cons, look_nil, Nat.reduceEqDiff, reduceIte]
        exact weak_view
       try simp only [atSlot_cons, atSlot_nil, Nat.reduceEqDiff, reduceIte, List.set_cons_zero, List.set_cons_succ]
       refine v_block ?_; intro Q100 n100 x100 e100 r100
       refine v_loop (fun i => ⟨[(37, .ref 0), (46, .bool (faR w inc).isSome), (48, .int .i64 (faT (faR w inc))), (351, .ref 1), (352, .int .i64 (busyR v).length), (353, .int .i64 (Nat.cast i))], [.arr (v.map (fun t : Int × ByteArray × Int × Int => V.agg [V.int .i64 t.1, V.str t.2.1, V.int .i64 t.2.2.1, V.int .i64 t.2.2.2])) .flat, .arr ((busyR v).map (fun l : List Int => V.sl (l.map (V.int .i64)))) (fillK (busyR v).length)], true, 405, 0⟩) (fun i => i ≤ (busyR v).length) (fun i => (busyR v).length - i) 0 ?_ ?_ ?_
       ·refine weak_bothS [37, 46, 48, 351, 352, 353] [0, 2] ⟨?_⟩
        rfl
       ·exact Nat.zero_le _
       ·rintro i hok101 Q101 n101 e101 r101
        have hi1 : i ≤ (busyR v).length := hok101
        refine v_seqR [37,46,48,351,352,353,354] ?_; intro K102 k102
        refine zBinOp ⟨?_⟩
        refine k102 _ ?_
        refine zk ⟨?_⟩
        refine v_seq ?_; intro Q103 n103 e103 r103
        refine v_condS _ rfl ?_ ?_
        ·intro hc16
         have hlt : i < (busyR v).length := by omega
         obtain ⟨p, hp⟩ : ∃ x, (busyR v)[i]? = some x := ⟨(busyR v)[i], List.getElem?_eq_getElem hlt⟩
         obtain ⟨pi, pk, ⟨a0, a1, a2, a3⟩, ⟨b0, b1, b2, b3⟩, hpe, hpik, hpa, hpb, hpn, hpx⟩ := busy_at (List.mem_of_getElem? hp)
         simp only [] at hpn hpx
         subst hpe
         subst hpn
         have hpil := (List.getElem?_eq_some_iff.1 hpa).1
         have hpkl := (List.getElem?_eq_some_iff.1 hpb).1
         have hge : ¬ ((pi : Int) ≥ (pk : Int)) := by omega
         refine v_skip ?_
         refine n103 _ _ (weak_keep [37, 46, 48, 351, 352, 353] _) ?_
         refine zk ⟨?_⟩
         refine v_seq ?_; intro Q105 n105 e105 r105
         refine v_block ?_; intro Q106 n106 x106 e106 r106
         refine v_seqR [37,46,48,56,351,352,353] ?_; intro K107 k107
         have F := Fc.mk (And.intro (fun f => getD_map (f := f) hp) (And.intro (fun f => getD_map (f := f) hpa) (And.intro (fun f => getD_map (f := f) hpb) (And.intro @Int.toNat_natCast (And.intro hge @decide_false)))))
         refine zIndexAddr ⟨?_⟩
         refine zLoad ⟨?_⟩
         refine zAssign ⟨?_⟩
         refine k107 _ ?_
         refine zk ⟨?_⟩
         refine v_seq ?_; intro Q108 n108 e108 r108
         refine v_draw (by kernel_rfl) ?_; intro K109 q109 k109
         show aAny _ _ _ _ 41 (Array.replicate 41 false) _
         refine zdMove q109 true 0 357 ?_
         refine zdIndexAddr q109 true 1 358 ?_
         refine zdLoadX q109 true 2 359 ?_
         refine zdMove q109 true 3 360 ?_
         refine zdIndexAddr q109 true 4 361 ?_
         refine zdLoadX q109 true 5 362 ?_
         refine zdBinOp q109 true 6 363 ?_
         refine zdMove q109 true 7 364 ?_
         refine zdgMove q109 true 8 365 ?_
         refine zdgMove q109 true 9 366 ?_
         refine zdgIndexAddr q109 true 10 367 ?_
         refine zdgLoadX q109 true 11 368 ?_
         refine zdgIndexAddr q109 true 12 369 ?_
         refine zdgFieldAddr q109 true 13 370 ?_
         refine zdgLoadX q109 true 14 371 ?_
         refine zdgMove q109 true 15 372 ?_
         refine zdgMove q109 true 16 373 ?_
         refine zdgIndexAddr q109 true 17 374 ?_
         refine zdgLoadX q109 true 18 375 ?_
         refine zdgIndexAddr q109 true 19 376 ?_
         refine zdgFieldAddr q109 true 20 377 ?_
         refine zdgLoadX q109 true 21 378 ?_
         refine zdgBinOp q109 true 22 379 ?_
         refine zdPick q109 true 23 380 ?_
         refine zdMove q109 true 24 381 ?_
         refine zdgMove q109 true 25 382 ?_
         refine zdgMove q109 true 26 383 ?_
         refine zdgIndexAddr q109 true 27 384 ?_
         refine zdgLoadX q109 true 28 385 ?_
         refine zdgIndexAddr q109 true 29 386 ?_
         refine zdgFieldAddr q109 true 30 387 ?_
         refine zdgLoadX q109 true 31 388 ?_
         refine zdgMove q109 true 32 389 ?_
         refine zdgMove q109 true 33 390 ?_
         refine zdgIndexAddr q109 true 34 391 ?_
         refine zdgLoadX q109 true 35 392 ?_
         refine zdgIndexAddr q109 true 36 393 ?_
         refine zdgFieldAddr q109 true 37 394 ?_
         refine zdgLoadX q109 true 38 395 ?_
         refine zdgBinOp q109 true 39 396 ?_
         refine zdPick q109 true 40 397 ?_
         refine aAny_done (by kernel_rfl) ?_
         refine k109 _ ?_
         refine n108 _ _ (weak_keep [37, 46, 48, 351, 352, 353, 397] _) ?_
         refine zk ⟨?_⟩
         refine v_cond _ rfl ?_ ?_
         ·intro hc17
          exfalso; first | (simp at hc17; done) | (simp [hpx] at hc17; done)
         ·intro hc17
          try simp only [zC, reduceCtorEq] at hc17
          refine v_skip ?_
          refine n106 _ ?_
          refine n105 _ _ (weak_keep [37, 46, 48, 351, 352, 353] _) ?_
          refine zk ⟨?_⟩
          refine v_region ?_; intro K111 k111
          refine zBinOpW ⟨?_⟩
          refine zMove ⟨?_⟩
          refine k111 _ ?_
          refine n101 _ (i + 1) ?_ ?_ ?_
          ·refine weak_bothS [37, 46, 48, 351, 352, 353] [0, 1] ⟨?_⟩
           rfl
          ·exact hlt
          ·show _ < _; omega
        ·intro hc16
         refine v_exit ?_
         refine e103 _ _ ?_
         refine e101 _ _ ?_
         refine x100 _ ?_
         refine n97 _ _ (weak_keep [46, 48] _) ?_
         refine zk ⟨?_⟩
         refine v_seqR [4] ?_; intro K112 k112
         refine zMove ⟨?_⟩
         refine zUnOp ⟨?_⟩
         refine zMove ⟨?_⟩
         refine zgMove ⟨?_⟩
         refine zgBinOp ⟨?_⟩
         refine zPick ⟨?_⟩
         refine zAssign ⟨?_⟩
         refine k112 _ ?_
         refine zk ⟨?_⟩
         refine v_ret ?_
         refine r0 _ ?_
         refine zf ⟨?_⟩
         exact ret_pure rfl (by have h := fa_pos (l := w) (inc := inc); cases hq : (faR w inc).isSome <;> simp [hq] <;> omega) (.inr rfl)
end Go.Proofs.YtbameklegpgkfaaDoor
