/- What functions compute. No condition. -/
import Derived.Test.YtbameklegpgkfaaDoorUty
import Derived.Test.YtbameklegpgkfaaDoorUmG
import Derived.Test.YtbameklegpgkfaaDoorX7
import Derived.Test.YtbameklegpgkfaaDoorX1
set_option linter.unusedSimpArgs false
set_option linter.unusedVariables false
set_option linter.defProp false
namespace Go.Proofs.YtbameklegpgkfaaDoor
open Go Go.Vm

set_option maxHeartbeats 1000000 in
theorem dbGood_con (l : List (Int × ByteArray × Int × Int)) (hl : l.length ≤ 1048576) (hls : ∀ t ∈ l, t.2.1.size ≤ 9223372036854775807) : Con Tryd.prog 105 [.sl (l.map (fun t : Int × ByteArray × Int × Int => V.agg [V.int .i64 t.1, V.str t.2.1, V.int .i64 t.2.2.1, V.int .i64 t.2.2.2]))] [] (.bool (turnsB l)) [] := by
 refine v_con [.tmp 2] [] Tryd.func105 rfl rfl rfl (by simp [Tryd.ntmps105]) ?_
 intro Q0 n0 r0
 simp only [Tryd.ntmps105, envFrom, Nat.reduceAdd]
 have T := Tys.mk (And.intro Ty.t3 (And.intro Ty.t4 (And.intro Ty.t9 (And.intro Ty.t48 Ty.t62))))
 have F := Fc.mk True.intro
 refine v_seqR [0] ?_; intro K1 k1
 refine zAssign ⟨?_⟩
 refine k1 _ ?_
 refine zk ⟨?_⟩
 refine v_seq ?_; intro Q2 n2 e2 r2
 refine v_seqR [0,5,6,7] ?_; intro K3 k3
 refine zMove ⟨?_⟩
 refine zLen ⟨?_⟩
 refine zMove ⟨?_⟩
 refine k3 _ ?_
 refine zk ⟨?_⟩
 refine v_block ?_; intro Q4 n4 x4 e4 r4
 refine v_loop (fun i => ⟨[(0, .sl (l.map (fun t : Int × ByteArray × Int × Int => V.agg [V.int .i64 t.1, V.str t.2.1, V.int .i64 t.2.2.1, V.int .i64 t.2.2.2]))), (5, .sl (l.map (fun t : Int × ByteArray × Int × Int => V.agg [V.int .i64 t.1, V.str t.2.1, V.int .i64 t.2.2.1, V.int .i64 t.2.2.2]))), (6, .int .i64 l.length), (7, .int .i64 (Nat.cast i))], [], false, 33, 0⟩) (fun i => i ≤ l.length ∧ chainAt tOne tBefore l i = chainAt tOne tBefore l 0) (fun i => l.length - i) 0 ?_ ?_ ?_
 ·refine weak_of [0, 5, 6, 7] ?_
  simp only [keep_mk, keepE_nil, keepE_cons, look_cons, look_nil, Nat.reduceEqDiff, reduceIte]
  rfl
 ·exact ⟨Nat.zero_le _, rfl⟩
 ·rintro i hok5 Q5 n5 e5 r5
  obtain ⟨hi1, hR⟩ := hok5
  refine v_seqR [0,5,6,7,8] ?_; intro K6 k6
  refine zBinOp ⟨?_⟩
  refine k6 _ ?_
  refine zk ⟨?_⟩
  refine v_seq ?_; intro Q7 n7 e7 r7
  refine v_condS _ rfl ?_ ?_
  ·intro hc0
   have hlt : i < l.length := by omega
   obtain ⟨⟨x0, x1, x2, x3⟩, hx⟩ : ∃ x : Int × ByteArray × Int × Int, l[i]? = some x := ⟨l[i]'(by omega), List.getElem?_eq_getElem (by omega)⟩
   have hsx := hls _ (List.mem_of_getElem? hx)
   rcases Nat.eq_zero_or_pos i with h0 | h0
   ·skip
    have hi0 : ¬ ((0 : Int) < (i : Int)) := by omega
    have hst : chainAt tOne tBefore l i = (tOne (x0, x1, x2, x3) && chainAt tOne tBefore l (i + 1)) := by subst h0; exact chain_zero hx
    refine v_skip ?_
    refine n7 _ _ (weak_keep [0, 5, 6, 7] _) ?_
    refine zk ⟨?_⟩
    refine v_seq ?_; intro Q9 n9 e9 r9
    refine v_block ?_; intro Q10 n10 x10 e10 r10
    refine v_seqR [0,3,4,5,6,7] ?_; intro K11 k11
    have F := Fc.mk (And.intro (fun f => getD_map (f := f) hx) (And.intro hi0 (And.intro @decide_false @Bool.and_false)))
    refine zMove ⟨?_⟩
    refine zIndexAddr ⟨?_⟩
    refine zLoad ⟨?_⟩
    refine zAlloc ⟨?_⟩
    refine zAssign ⟨?_⟩
    refine zStore ⟨?_⟩
    refine k11 _ ?_
    refine zk ⟨?_⟩
    refine v_seq ?_; intro Q12 n12 e12 r12
    refine v_draw (by kernel_rfl) ?_; intro K13 q13 k13
    show aAny _ _ _ _ 17 (Array.replicate 17 false) _
    refine zdLoad q13 true 0 12 ?_
    refine zoc 1 (dbOne_con x0 x1 x2 x3 hsx) ⟨?_⟩
    refine zdUnOp q13 true 2 14 ?_
    refine zdMove q13 true 3 15 ?_
    refine zdgMove q13 true 4 16 ?_
    refine zdgBinOp q13 true 5 17 ?_
    refine zdgMove q13 true 6 18 ?_
    refine zdgMove q13 true 7 19 ?_
    refine zdgMove q13 true 8 20 ?_
    refine zdgBinOpW q13 true 9 21 ?_
    refine zdgIndexAddr q13 true 10 22 ?_
    refine zdgLoad q13 true 11 23 ?_
    refine zdgLoad q13 true 12 24 ?_
    first
    |refine zogc 13 (dbBefore_con y0 y1 y2 y3 x0 x1 x2 x3) ⟨?_⟩
    |(refine aAny_pass 13 25 6 true rfl rfl (show 25 < 33 by decide) (by kernel_rfl) rfl ?_ ?_; (focus first | rfl | (simp only [zV, guardV, Nat.reduceEqDiff, reduceIte]; done)); simp only [zW, set_some, Nat.reduceEqDiff, reduceIte])
    refine zdgUnOp q13 true 14 26 ?_
    refine zdgPick q13 true 15 27 ?_
    refine zdPick q13 true 16 28 ?_
    refine aAny_done (by kernel_rfl) ?_
    refine k13 _ ?_
    refine n12 _ _ (weak_keep [0, 5, 6, 7, 28] _) ?_
    refine zk ⟨?_⟩
    refine v_condS _ rfl ?_ ?_
    ·intro hc1
     refine v_seqR [2] ?_; intro K15 k15
     refine zAssign ⟨?_⟩
     refine k15 _ ?_
     refine zk ⟨?_⟩
     refine v_ret ?_
     refine r10 _ ?_
     refine r9 _ ?_
     refine r5 _ ?_
     refine r4 _ ?_
     refine r2 _ ?_
     refine r0 _ ?_
     refine zf ⟨?_⟩
     exact ret_pure rfl (by rw [turnsB, ← hR, hst]; clear hR hst; first | (simp [hone]; done) | (simp [hone, hbf]; done) | (simp [hc1]; done) | (rcases hc1 with h | h <;> simp [h])) (.inl rfl)
    ·intro hc1
     refine v_skip ?_
     refine n10 _ ?_
     refine n9 _ _ (weak_keep [0, 5, 6, 7] _) ?_
     refine zk ⟨?_⟩
     refine v_region ?_; intro K16 k16
     refine zBinOpW ⟨?_⟩
     refine zMove ⟨?_⟩
     refine k16 _ ?_
     refine n5 _ (i + 1) ?_ ?_ ?_
     ·refine weak_bothS [0, 5, 6, 7] [] ⟨?_⟩
      rfl
     ·exact ⟨by omega, by rw [← hR, hst]; clear hR hst; first | (simp [hone]; done) | (simp [hone, hbt]; done) | (simp [hc1]; done) | (simp_all; done)⟩
     ·show _ < _; omega
   ·skip
    obtain ⟨⟨y0, y1, y2, y3⟩, hy⟩ : ∃ x : Int × ByteArray × Int × Int, l[i - 1]? = some x := ⟨l[i - 1]'(by omega), List.getElem?_eq_getElem (by omega)⟩
    have hi0 : (0 : Int) < i := by omega
    have hk : ((i : Int) - 1).toNat = i - 1 := by omega
    have hst := chain_succ (ok := tOne) (bf := tBefore) h0 hy hx
    refine v_skip ?_
    refine n7 _ _ (weak_keep [0, 5, 6, 7] _) ?_
    refine zk ⟨?_⟩
    refine v_seq ?_; intro Q17 n17 e17 r17
    refine v_block ?_; intro Q18 n18 x18 e18 r18
    refine v_seqR [0,3,4,5,6,7] ?_; intro K19 k19
    have F := Fc.mk (And.intro (fun f => getD_map (f := f) hx) (And.intro hi0 (And.intro hk (And.intro (fun f => getD_map (f := f) hy) (And.intro @decide_true @Bool.and_true)))))
    refine zMove ⟨?_⟩
    refine zIndexAddr ⟨?_⟩
    refine zLoad ⟨?_⟩
    refine zAlloc ⟨?_⟩
    refine zAssign ⟨?_⟩
    refine zStore ⟨?_⟩
    refine k19 _ ?_
    refine zk ⟨?_⟩
    refine v_seq ?_; intro Q20 n20 e20 r20
    refine v_draw (by kernel_rfl) ?_; intro K21 q21 k21
    show aAny _ _ _ _ 17 (Array.replicate 17 false) _
    refine zdLoad q21 true 0 12 ?_
    refine zoc 1 (dbOne_con x0 x1 x2 x3 hsx) ⟨?_⟩
    refine zdUnOp q21 true 2 14 ?_
    refine zdMove q21 true 3 15 ?_
    refine zdgMove q21 true 4 16 ?_
    refine zdgBinOp q21 true 5 17 ?_
    refine zdgMove q21 true 6 18 ?_
    refine zdgMove q21 true 7 19 ?_
    refine zdgMove q21 true 8 20 ?_
    refine zdgBinOpW q21 true 9 21 ?_
    refine zdgIndexAddr q21 true 10 22 ?_
    refine zdgLoad q21 true 11 23 ?_
    refine zdgLoad q21 true 12 24 ?_
    first
    |refine zogc 13 (dbBefore_con y0 y1 y2 y3 x0 x1 x2 x3) ⟨?_⟩
    |(refine aAny_pass 13 25 6 true rfl rfl (show 25 < 33 by decide) (by kernel_rfl) rfl ?_ ?_; (focus first | rfl | (simp only [zV, guardV, Nat.reduceEqDiff, reduceIte]; done)); simp only [zW, set_some, Nat.reduceEqDiff, reduceIte])
    refine zdgUnOp q21 true 14 26 ?_
    refine zdgPick q21 true 15 27 ?_
    refine zdPick q21 true 16 28 ?_
    refine aAny_done (by kernel_rfl) ?_
    refine k21 _ ?_
    refine n20 _ _ (weak_keep [0, 5, 6, 7, 28] _) ?_
    refine zk ⟨?_⟩
    refine v_condS _ rfl ?_ ?_
    ·intro hc1
     refine v_seqR [2] ?_; intro K23 k23
     refine zAssign ⟨?_⟩
     refine k23 _ ?_
     refine zk ⟨?_⟩
     refine v_ret ?_
     refine r18 _ ?_
     refine r17 _ ?_
     refine r5 _ ?_
     refine r4 _ ?_
     refine r2 _ ?_
     refine r0 _ ?_
     refine zf ⟨?_⟩
     exact ret_pure rfl (by rw [turnsB, ← hR, hst]; clear hR hst; first | (simp [hone]; done) | (simp [hone, hbf]; done) | (simp [hc1]; done) | (rcases hc1 with h | h <;> simp [h])) (.inl rfl)
    ·intro hc1
     refine v_skip ?_
     refine n18 _ ?_
     refine n17 _ _ (weak_keep [0, 5, 6, 7] _) ?_
     refine zk ⟨?_⟩
     refine v_region ?_; intro K24 k24
     refine zBinOpW ⟨?_⟩
     refine zMove ⟨?_⟩
     refine k24 _ ?_
     refine n5 _ (i + 1) ?_ ?_ ?_
     ·refine weak_bothS [0, 5, 6, 7] [] ⟨?_⟩
      rfl
     ·exact ⟨by omega, by rw [← hR, hst]; clear hR hst; first | (simp [hone]; done) | (simp [hone, hbt]; done) | (simp [hc1]; done) | (simp_all; done)⟩
     ·show _ < _; omega
  ·intro hc0
   refine v_exit ?_
   refine e7 _ _ ?_
   refine e5 _ _ ?_
   refine x4 _ ?_
   refine n2 _ _ (weak_keep [0] _) ?_
   refine zk ⟨?_⟩
   refine v_seqR [2] ?_; intro K25 k25
   refine zMove ⟨?_⟩
   refine zLen ⟨?_⟩
   refine zBinOp ⟨?_⟩
   refine zAssign ⟨?_⟩
   refine k25 _ ?_
   refine zk ⟨?_⟩
   refine v_ret ?_
   refine r0 _ ?_
   refine zf ⟨?_⟩
   exact ret_pure rfl (by rw [turnsB, ← hR, chain_end (by omega)]; simp) (.inl rfl)
set_option maxHeartbeats 1000000 in
theorem areTurnouts_con (l : List (Int × ByteArray × Int × Int)) (hl : l.length ≤ 1048576) (hls : ∀ t ∈ l, t.2.1.size ≤ 9223372036854775807) : Con Tryd.prog 102 [.sl (l.map (fun t : Int × ByteArray × Int × Int => V.agg [V.int .i64 t.1, V.str t.2.1, V.int .i64 t.2.2.1, V.int .i64 t.2.2.2]))] [] (.bool (turnsB l)) [] := by
 refine v_con [.tmp 2] [] Tryd.func102 rfl rfl rfl (by simp [Tryd.ntmps102]) ?_
 intro Q0 n0 r0
 simp only [Tryd.ntmps102, envFrom, Nat.reduceAdd]
 have T := Tys.mk (And.intro Ty.t3 (And.intro Ty.t4 (And.intro Ty.t9 (And.intro Ty.t36 (And.intro Ty.t48 Ty.t62)))))
 have F := Fc.mk True.intro
 refine v_seqR [0] ?_; intro K1 k1
 refine zAssign ⟨?_⟩
 refine k1 _ ?_
 refine zk ⟨?_⟩
 refine v_seq ?_; intro Q2 n2 e2 r2
 refine v_seqR [0,5,6,7] ?_; intro K3 k3
 refine zMove ⟨?_⟩
 refine zLen ⟨?_⟩
 refine zMove ⟨?_⟩
 refine k3 _ ?_
 refine zk ⟨?_⟩
 refine v_block ?_; intro Q4 n4 x4 e4 r4
 refine v_loop (fun i => ⟨[(0, .sl (l.map (fun t : Int × ByteArray × Int × Int => V.agg [V.int .i64 t.1, V.str t.2.1, V.int .i64 t.2.2.1, V.int .i64 t.2.2.2]))), (5, .sl (l.map (fun t : Int × ByteArray × Int × Int => V.agg [V.int .i64 t.1, V.str t.2.1, V.int .i64 t.2.2.1, V.int .i64 t.2.2.2]))), (6, .int .i64 l.length), (7, .int .i64 (Nat.cast i))], [], false, 73, 0⟩) (fun i => i ≤ l.length ∧ chainAt tOne tBefore l i = chainAt tOne tBefore l 0) (fun i => l.length - i) 0 ?_ ?_ ?_
 ·refine weak_of [0, 5, 6, 7] ?_
  simp only [keep_mk, keepE_nil, keepE_cons, look_cons, look_nil, Nat.reduceEqDiff, reduceIte]
  rfl
 ·exact ⟨Nat.zero_le _, rfl⟩
 ·rintro i hok5 Q5 n5 e5 r5
  obtain ⟨hi1, hR⟩ := hok5
  refine v_seqR [0,5,6,7,8] ?_; intro K6 k6
  refine zBinOp ⟨?_⟩
  refine k6 _ ?_
  refine zk ⟨?_⟩
  refine v_seq ?_; intro Q7 n7 e7 r7
  refine v_condS _ rfl ?_ ?_
  ·intro hc0
   have hlt : i < l.length := by omega
   obtain ⟨⟨x0, x1, x2, x3⟩, hx⟩ : ∃ x : Int × ByteArray × Int × Int, l[i]? = some x := ⟨l[i]'(by omega), List.getElem?_eq_getElem (by omega)⟩
   have hsx := hls _ (List.mem_of_getElem? hx)
   rcases Nat.eq_zero_or_pos i with h0 | h0
   ·skip
    have hi0 : ¬ ((0 : Int) < (i : Int)) := by omega
    have hst : chainAt tOne tBefore l i = (tOne (x0, x1, x2, x3) && chainAt tOne tBefore l (i + 1)) := by subst h0; exact chain_zero hx
    refine v_skip ?_
    refine n7 _ _ (weak_keep [0, 5, 6, 7] _) ?_
    refine zk ⟨?_⟩
    refine v_seq ?_; intro Q9 n9 e9 r9
    refine v_block ?_; intro Q10 n10 x10 e10 r10
    refine v_seqR [0,3,4,5,6,7] ?_; intro K11 k11
    have F := Fc.mk (And.intro (fun f => getD_map (f := f) hx) (And.intro hi0 (And.intro @decide_false @Bool.and_false)))
    refine zMove ⟨?_⟩
    refine zIndexAddr ⟨?_⟩
    refine zLoad ⟨?_⟩
    refine zAlloc ⟨?_⟩
    refine zAssign ⟨?_⟩
    refine zStore ⟨?_⟩
    refine k11 _ ?_
    refine zk ⟨?_⟩
    refine v_seq ?_; intro Q12 n12 e12 r12
    refine v_seqR [0,3,4,5,6,7,34] ?_; intro K13 k13
    refine zFieldAddr ⟨?_⟩
    refine zLoad ⟨?_⟩
    refine zc (inside_con _ _ _) ⟨?_⟩
    refine zUnOp ⟨?_⟩
    refine zMove ⟨?_⟩
    refine zgFieldAddr ⟨?_⟩
    refine zgLoad ⟨?_⟩
    refine zgc (isName_con _ hsx) ⟨?_⟩
    refine zgUnOp ⟨?_⟩
    refine zPick ⟨?_⟩
    refine zMove ⟨?_⟩
    refine zgFieldAddr ⟨?_⟩
    refine zgLoad ⟨?_⟩
    refine zgFieldAddr ⟨?_⟩
    refine zgLoad ⟨?_⟩
    refine zgc (inside_con _ _ _) ⟨?_⟩
    refine zgUnOp ⟨?_⟩
    refine zPick ⟨?_⟩
    refine zMove ⟨?_⟩
    refine zgFieldAddr ⟨?_⟩
    refine zgLoad ⟨?_⟩
    refine zgBinOp ⟨?_⟩
    refine zPick ⟨?_⟩
    refine k13 _ ?_
    refine zk ⟨?_⟩
    refine v_condS _ rfl ?_ ?_
    ·intro hc1
     have hone : tOne (x0, x1, x2, x3) = false := by
      cases hq : tOne (x0, x1, x2, x3) with
      |false => rfl
      |true =>
       exfalso
       simp only [tOne, Bool.and_eq_true, decide_eq_true_eq] at hq
       have hnm := hq.1.1.2
       simp [hnm] at hc1
       omega
     refine v_seqR [2] ?_; intro K15 k15
     refine zAssign ⟨?_⟩
     refine k15 _ ?_
     refine zk ⟨?_⟩
     refine v_ret ?_
     refine r12 _ ?_
     refine r10 _ ?_
     refine r9 _ ?_
     refine r5 _ ?_
     refine r4 _ ?_
     refine r2 _ ?_
     refine r0 _ ?_
     refine zf ⟨?_⟩
     exact ret_pure rfl (by rw [turnsB, ← hR, hst]; clear hR hst; first | (simp [hone]; done) | (simp [hone, hbf]; done) | (simp [hc1]; done) | (rcases hc1 with h | h <;> simp [h])) (.inl rfl)
    ·intro hc1
     have hone : tOne (x0, x1, x2, x3) = true := by
      cases hnm : nameB x1 with
      |false => simp [hnm] at hc1
      |true =>
       simp only [hnm] at hc1
       simp only [tOne, Bool.and_eq_true, decide_eq_true_eq, hnm]
       simp at hc1 ⊢
       omega
     refine v_skip ?_
     refine n12 _ _ (weak_keep [0, 3, 4, 5, 6, 7] _) ?_
     refine zk ⟨?_⟩
     refine v_seq ?_; intro Q16 n16 e16 r16
     refine v_draw (by kernel_rfl) ?_; intro K17 q17 k17
     show aAny _ _ _ _ 34 (Array.replicate 34 false) _
     refine zdMove q17 true 0 35 ?_
     refine zdBinOp q17 true 1 36 ?_
     refine zdMove q17 true 2 37 ?_
     refine zdgMove q17 true 3 38 ?_
     refine zdgMove q17 true 4 39 ?_
     refine zdgBinOpW q17 true 5 40 ?_
     refine zdgIndexAddr q17 true 6 41 ?_
     refine zdgFieldAddr q17 true 7 42 ?_
     refine zdgLoad q17 true 8 43 ?_
     refine zdgFieldAddr q17 true 9 44 ?_
     refine zdgLoad q17 true 10 45 ?_
     refine zdgMove q17 true 12 47 ?_
     refine zdgMove q17 true 13 48 ?_
     refine zdgBinOpW q17 true 14 49 ?_
     refine zdgIndexAddr q17 true 15 50 ?_
     refine zdgFieldAddr q17 true 16 51 ?_
     refine zdgLoad q17 true 17 52 ?_
     refine zdgFieldAddr q17 true 18 53 ?_
     refine zdgLoad q17 true 19 54 ?_
     refine zdgMove q17 true 21 56 ?_
     refine zdgMove q17 true 22 57 ?_
     refine zdgBinOpW q17 true 23 58 ?_
     refine zdgIndexAddr q17 true 24 59 ?_
     refine zdgFieldAddr q17 true 25 60 ?_
     refine zdgLoad q17 true 26 61 ?_
     refine zdgFieldAddr q17 true 27 62 ?_
     refine zdgLoad q17 true 28 63 ?_
     first
     |refine zogc 11 (cmpInt_con _ _) ⟨?_⟩
     |(refine aAny_pass 11 46 2 true rfl rfl (show 46 < 73 by decide) (by kernel_rfl) rfl ?_ ?_; (focus first | rfl | (simp only [zV, guardV, Nat.reduceEqDiff, reduceIte]; done)); simp only [zW, set_some, Nat.reduceEqDiff, reduceIte])
     first
     |refine zogc 20 (cmpInt_con _ _) ⟨?_⟩
     |(refine aAny_pass 20 55 2 true rfl rfl (show 55 < 73 by decide) (by kernel_rfl) rfl ?_ ?_; (focus first | rfl | (simp only [zV, guardV, Nat.reduceEqDiff, reduceIte]; done)); simp only [zW, set_some, Nat.reduceEqDiff, reduceIte])
     first
     |refine zogc 29 (cmpStr_con _ _) ⟨?_⟩
     |(refine aAny_pass 29 64 2 true rfl rfl (show 64 < 73 by decide) (by kernel_rfl) rfl ?_ ?_; (focus first | rfl | (simp only [zV, guardV, Nat.reduceEqDiff, reduceIte]; done)); simp only [zW, set_some, Nat.reduceEqDiff, reduceIte])
     first
     |(refine aAny_pass 30 65 2 true rfl rfl (show 65 < 73 by decide) (by kernel_rfl) rfl ?_ ?_; (focus first | rfl | (simp only [zV, guardV, Nat.reduceEqDiff, reduceIte]; done)); simp only [zW, set_some, Nat.reduceEqDiff, reduceIte])
     |skip
      refine aAny_only 30 rfl (by kernel_rfl) ?_; intro K k
      simp only [zE, zO, zV, zN, aStepM, optable, set_some, Nat.reduceEqDiff, reduceIte, Nat.reduceLT, implies_true, forall_const, reduceCtorEq, V.ofValue, V.ofScalar, V.un, V.gd, guardV, V.wrap, aExec, aop, litElems, rng0, rng1, rng2, rng3, rng4, rng5, rng6, rng7, rng8, rng9, rng10, rng11, rng12, List.map_cons, List.map_nil, List.all_cons, List.all_nil, V.isVal, V.cells, content, kindAll, V.noRef, V.noSl, List.mem_cons, List.not_mem_nil, or_false, forall_eq_or_imp, forall_eq, if_true, Option.isSome_some, List.length_cons, List.length_nil, Nat.reduceAdd, Nat.reduceLeDiff, Nat.reduceMul, Tryd.underlying3, Ty.c3, Ty.a3, Ty.z3, Tryd.underlying36, Ty.c36, Ty.a36, Ty.z36, getD_map hx, hi0]
      repeat (refine And.intro (by first | omega | (intros; omega) | (intros; simp_all; done) | (intros; simp_all; omega)) ?_)
      refine k _ ?_; clear k K
     first
     |refine zogc 31 (cmpOr_con [cmpI y2 x2, cmpI y0 x0, cmpS y1 x1] (by simp)) ⟨?_⟩
     |(refine aAny_pass 31 66 2 true rfl rfl (show 66 < 73 by decide) (by kernel_rfl) rfl ?_ ?_; (focus first | rfl | (simp only [zV, guardV, Nat.reduceEqDiff, reduceIte]; done)); simp only [zW, set_some, Nat.reduceEqDiff, reduceIte])
     refine zdgBinOp q17 true 32 67 ?_
     refine zdPick q17 true 33 68 ?_
     refine aAny_done (by kernel_rfl) ?_
     refine k17 _ ?_
     refine n16 _ _ (weak_keep [0, 5, 6, 7, 68] _) ?_
     refine zk ⟨?_⟩
     refine v_cond _ rfl ?_ ?_
     ·intro hc2
      exfalso; simp at hc2
     ·intro hc2
      try simp only [zC, reduceCtorEq] at hc2
      first | have hbt : tBefore (y0, y1, y2, y3) (x0, x1, x2, x3) = true := (by cases hq : tBefore (y0, y1, y2, y3) (x0, x1, x2, x3) with | true => rfl | false => (have hq2 := (cmp_before (y0, y1, y2, y3) (x0, x1, x2, x3)).2 hq; simp only [] at hq2; omega)) | skip
      refine v_skip ?_
      refine n10 _ ?_
      refine n9 _ _ (weak_keep [0, 5, 6, 7] _) ?_
      refine zk ⟨?_⟩
      refine v_region ?_; intro K19 k19
      refine zBinOpW ⟨?_⟩
      refine zMove ⟨?_⟩
      refine k19 _ ?_
      refine n5 _ (i + 1) ?_ ?_ ?_
      ·refine weak_bothS [0, 5, 6, 7] [] ⟨?_⟩
       rfl
      ·exact ⟨by omega, by rw [← hR, hst]; clear hR hst; first | (simp [hone]; done) | (simp [hone, hbt]; done) | (simp [hc1]; done) | (simp_all; done)⟩
      ·show _ < _; omega
   ·skip
    obtain ⟨⟨y0, y1, y2, y3⟩, hy⟩ : ∃ x : Int × ByteArray × Int × Int, l[i - 1]? = some x := ⟨l[i - 1]'(by omega), List.getElem?_eq_getElem (by omega)⟩
    have hi0 : (0 : Int) < i := by omega
    have hk : ((i : Int) - 1).toNat = i - 1 := by omega
    have hst := chain_succ (ok := tOne) (bf := tBefore) h0 hy hx
    refine v_skip ?_
    refine n7 _ _ (weak_keep [0, 5, 6, 7] _) ?_
    refine zk ⟨?_⟩
    refine v_seq ?_; intro Q20 n20 e20 r20
    refine v_block ?_; intro Q21 n21 x21 e21 r21
    refine v_seqR [0,3,4,5,6,7] ?_; intro K22 k22
    have F := Fc.mk (And.intro (fun f => getD_map (f := f) hx) (And.intro hi0 (And.intro hk (And.intro (fun f => getD_map (f := f) hy) (And.intro @decide_true @Bool.and_true)))))
    refine zMove ⟨?_⟩
    refine zIndexAddr ⟨?_⟩
    refine zLoad ⟨?_⟩
    refine zAlloc ⟨?_⟩
    refine zAssign ⟨?_⟩
    refine zStore ⟨?_⟩
    refine k22 _ ?_
    refine zk ⟨?_⟩
    refine v_seq ?_; intro Q23 n23 e23 r23
    refine v_seqR [0,3,4,5,6,7,34] ?_; intro K24 k24
    refine zFieldAddr ⟨?_⟩
    refine zLoad ⟨?_⟩
    refine zc (inside_con _ _ _) ⟨?_⟩
    refine zUnOp ⟨?_⟩
    refine zMove ⟨?_⟩
    refine zgFieldAddr ⟨?_⟩
    refine zgLoad ⟨?_⟩
    refine zgc (isName_con _ hsx) ⟨?_⟩
    refine zgUnOp ⟨?_⟩
    refine zPick ⟨?_⟩
    refine zMove ⟨?_⟩
    refine zgFieldAddr ⟨?_⟩
    refine zgLoad ⟨?_⟩
    refine zgFieldAddr ⟨?_⟩
    refine zgLoad ⟨?_⟩
    refine zgc (inside_con _ _ _) ⟨?_⟩
    refine zgUnOp ⟨?_⟩
    refine zPick ⟨?_⟩
    refine zMove ⟨?_⟩
    refine zgFieldAddr ⟨?_⟩
    refine zgLoad ⟨?_⟩
    refine zgBinOp ⟨?_⟩
    refine zPick ⟨?_⟩
    refine k24 _ ?_
    refine zk ⟨?_⟩
    refine v_condS _ rfl ?_ ?_
    ·intro hc1
     have hone : tOne (x0, x1, x2, x3) = false := by
      cases hq : tOne (x0, x1, x2, x3) with
      |false => rfl
      |true =>
       exfalso
       simp only [tOne, Bool.and_eq_true, decide_eq_true_eq] at hq
       have hnm := hq.1.1.2
       simp [hnm] at hc1
       omega
     refine v_seqR [2] ?_; intro K26 k26
     refine zAssign ⟨?_⟩
     refine k26 _ ?_
     refine zk ⟨?_⟩
     refine v_ret ?_
     refine r23 _ ?_
     refine r21 _ ?_
     refine r20 _ ?_
     refine r5 _ ?_
     refine r4 _ ?_
     refine r2 _ ?_
     refine r0 _ ?_
     refine zf ⟨?_⟩
     exact ret_pure rfl (by rw [turnsB, ← hR, hst]; clear hR hst; first | (simp [hone]; done) | (simp [hone, hbf]; done) | (simp [hc1]; done) | (rcases hc1 with h | h <;> simp [h])) (.inl rfl)
    ·intro hc1
     have hone : tOne (x0, x1, x2, x3) = true := by
      cases hnm : nameB x1 with
      |false => simp [hnm] at hc1
      |true =>
       simp only [hnm] at hc1
       simp only [tOne, Bool.and_eq_true, decide_eq_true_eq, hnm]
       simp at hc1 ⊢
       omega
     refine v_skip ?_
     refine n23 _ _ (weak_keep [0, 3, 4, 5, 6, 7] _) ?_
     refine zk ⟨?_⟩
     refine v_seq ?_; intro Q27 n27 e27 r27
     refine v_draw (by kernel_rfl) ?_; intro K28 q28 k28
     show aAny _ _ _ _ 34 (Array.replicate 34 false) _
     refine zdMove q28 true 0 35 ?_
     refine zdBinOp q28 true 1 36 ?_
     refine zdMove q28 true 2 37 ?_
     refine zdgMove q28 true 3 38 ?_
     refine zdgMove q28 true 4 39 ?_
     refine zdgBinOpW q28 true 5 40 ?_
     refine zdgIndexAddr q28 true 6 41 ?_
     refine zdgFieldAddr q28 true 7 42 ?_
     refine zdgLoad q28 true 8 43 ?_
     refine zdgFieldAddr q28 true 9 44 ?_
     refine zdgLoad q28 true 10 45 ?_
     refine zdgMove q28 true 12 47 ?_
     refine zdgMove q28 true 13 48 ?_
     refine zdgBinOpW q28 true 14 49 ?_
     refine zdgIndexAddr q28 true 15 50 ?_
     refine zdgFieldAddr q28 true 16 51 ?_
     refine zdgLoad q28 true 17 52 ?_
     refine zdgFieldAddr q28 true 18 53 ?_
     refine zdgLoad q28 true 19 54 ?_
     refine zdgMove q28 true 21 56 ?_
     refine zdgMove q28 true 22 57 ?_
     refine zdgBinOpW q28 true 23 58 ?_
     refine zdgIndexAddr q28 true 24 59 ?_
     refine zdgFieldAddr q28 true 25 60 ?_
     refine zdgLoad q28 true 26 61 ?_
     refine zdgFieldAddr q28 true 27 62 ?_
     refine zdgLoad q28 true 28 63 ?_
     first
     |refine zogc 11 (cmpInt_con _ _) ⟨?_⟩
     |(refine aAny_pass 11 46 2 true rfl rfl (show 46 < 73 by decide) (by kernel_rfl) rfl ?_ ?_; (focus first | rfl | (simp only [zV, guardV, Nat.reduceEqDiff, reduceIte]; done)); simp only [zW, set_some, Nat.reduceEqDiff, reduceIte])
     first
     |refine zogc 20 (cmpInt_con _ _) ⟨?_⟩
     |(refine aAny_pass 20 55 2 true rfl rfl (show 55 < 73 by decide) (by kernel_rfl) rfl ?_ ?_; (focus first | rfl | (simp only [zV, guardV, Nat.reduceEqDiff, reduceIte]; done)); simp only [zW, set_some, Nat.reduceEqDiff, reduceIte])
     first
     |refine zogc 29 (cmpStr_con _ _) ⟨?_⟩
     |(refine aAny_pass 29 64 2 true rfl rfl (show 64 < 73 by decide) (by kernel_rfl) rfl ?_ ?_; (focus first | rfl | (simp only [zV, guardV, Nat.reduceEqDiff, reduceIte]; done)); simp only [zW, set_some, Nat.reduceEqDiff, reduceIte])
     first
     |(refine aAny_pass 30 65 2 true rfl rfl (show 65 < 73 by decide) (by kernel_rfl) rfl ?_ ?_; (focus first | rfl | (simp only [zV, guardV, Nat.reduceEqDiff, reduceIte]; done)); simp only [zW, set_some, Nat.reduceEqDiff, reduceIte])
     |skip
      refine aAny_only 30 rfl (by kernel_rfl) ?_; intro K k
      simp only [zE, zO, zV, zN, aStepM, optable, set_some, Nat.reduceEqDiff, reduceIte, Nat.reduceLT, implies_true, forall_const, reduceCtorEq, V.ofValue, V.ofScalar, V.un, V.gd, guardV, V.wrap, aExec, aop, litElems, rng0, rng1, rng2, rng3, rng4, rng5, rng6, rng7, rng8, rng9, rng10, rng11, rng12, List.map_cons, List.map_nil, List.all_cons, List.all_nil, V.isVal, V.cells, content, kindAll, V.noRef, V.noSl, List.mem_cons, List.not_mem_nil, or_false, forall_eq_or_imp, forall_eq, if_true, Option.isSome_some, List.length_cons, List.length_nil, Nat.reduceAdd, Nat.reduceLeDiff, Nat.reduceMul, Tryd.underlying3, Ty.c3, Ty.a3, Ty.z3, Tryd.underlying36, Ty.c36, Ty.a36, Ty.z36, getD_map hx, hi0, hk, getD_map hy]
      repeat (refine And.intro (by first | omega | (intros; omega) | (intros; simp_all; done) | (intros; simp_all; omega)) ?_)
      refine k _ ?_; clear k K
     first
     |refine zogc 31 (cmpOr_con [cmpI y2 x2, cmpI y0 x0, cmpS y1 x1] (by simp)) ⟨?_⟩
     |(refine aAny_pass 31 66 2 true rfl rfl (show 66 < 73 by decide) (by kernel_rfl) rfl ?_ ?_; (focus first | rfl | (simp only [zV, guardV, Nat.reduceEqDiff, reduceIte]; done)); simp only [zW, set_some, Nat.reduceEqDiff, reduceIte])
     refine zdgBinOp q28 true 32 67 ?_
     refine zdPick q28 true 33 68 ?_
     refine aAny_done (by kernel_rfl) ?_
     refine k28 _ ?_
     refine n27 _ _ (weak_keep [0, 5, 6, 7, 68] _) ?_
     refine zk ⟨?_⟩
     refine v_condS _ rfl ?_ ?_
     ·intro hc2
      have hbf := (cmp_before (y0, y1, y2, y3) (x0, x1, x2, x3)).1 hc2
      refine v_seqR [2] ?_; intro K30 k30
      refine zAssign ⟨?_⟩
      refine k30 _ ?_
      refine zk ⟨?_⟩
      refine v_ret ?_
      refine r21 _ ?_
      refine r20 _ ?_
      refine r5 _ ?_
      refine r4 _ ?_
      refine r2 _ ?_
      refine r0 _ ?_
      refine zf ⟨?_⟩
      exact ret_pure rfl (by rw [turnsB, ← hR, hst]; clear hR hst; first | (simp [hone]; done) | (simp [hone, hbf]; done) | (simp [hc1]; done) | (rcases hc1 with h | h <;> simp [h])) (.inl rfl)
     ·intro hc2
      first | have hbt : tBefore (y0, y1, y2, y3) (x0, x1, x2, x3) = true := (by cases hq : tBefore (y0, y1, y2, y3) (x0, x1, x2, x3) with | true => rfl | false => (have hq2 := (cmp_before (y0, y1, y2, y3) (x0, x1, x2, x3)).2 hq; simp only [] at hq2; omega)) | skip
      refine v_skip ?_
      refine n21 _ ?_
      refine n20 _ _ (weak_keep [0, 5, 6, 7] _) ?_
      refine zk ⟨?_⟩
      refine v_region ?_; intro K31 k31
      refine zBinOpW ⟨?_⟩
      refine zMove ⟨?_⟩
      refine k31 _ ?_
      refine n5 _ (i + 1) ?_ ?_ ?_
      ·refine weak_bothS [0, 5, 6, 7] [] ⟨?_⟩
       rfl
      ·exact ⟨by omega, by rw [← hR, hst]; clear hR hst; first | (simp [hone]; done) | (simp [hone, hbt]; done) | (simp [hc1]; done) | (simp_all; done)⟩
      ·show _ < _; omega
  ·intro hc0
   refine v_exit ?_
   refine e7 _ _ ?_
   refine e5 _ _ ?_
   refine x4 _ ?_
   refine n2 _ _ (weak_keep [0] _) ?_
   refine zk ⟨?_⟩
   refine v_seqR [2] ?_; intro K32 k32
   refine zMove ⟨?_⟩
   refine zLen ⟨?_⟩
   refine zBinOp ⟨?_⟩
   refine zAssign ⟨?_⟩
   refine k32 _ ?_
   refine zk ⟨?_⟩
   refine v_ret ?_
   refine r0 _ ?_
   refine zf ⟨?_⟩
   exact ret_pure rfl (by rw [turnsB, ← hR, chain_end (by omega)]; simp) (.inl rfl)
set_option maxHeartbeats 1000000 in
theorem implAreTurnouts_con (l : List (Int × ByteArray × Int × Int)) (hl : l.length ≤ 1048576) (hls : ∀ t ∈ l, t.2.1.size ≤ 9223372036854775807) : Con Tryd.prog 33 [.sl (l.map (fun t : Int × ByteArray × Int × Int => V.agg [V.int .i64 t.1, V.str t.2.1, V.int .i64 t.2.2.1, V.int .i64 t.2.2.2]))] [] (.bool (turnsB l)) [] := by
 refine v_con [.tmp 2] [] Tryd.func33 rfl rfl rfl (by simp [Tryd.ntmps33]) ?_
 intro Q0 n0 r0
 simp only [Tryd.ntmps33, envFrom, Nat.reduceAdd]
 have T := Tys.mk (And.intro Ty.t3 (And.intro Ty.t4 (And.intro Ty.t9 (And.intro Ty.t48 Ty.t62))))
 have F := Fc.mk True.intro
 refine v_seqR [0] ?_; intro K1 k1
 refine zAssign ⟨?_⟩
 refine k1 _ ?_
 refine zk ⟨?_⟩
 refine v_seqR [2] ?_; intro K2 k2
 refine zMove ⟨?_⟩
 refine zc (areTurnouts_con l hl hls) ⟨?_⟩
 refine zAssign ⟨?_⟩
 refine k2 _ ?_
 refine zk ⟨?_⟩
 refine v_ret ?_
 refine r0 _ ?_
 refine zf ⟨?_⟩
 exact ret_pure rfl rfl (.inl rfl)
def tTime (x : (Int × ByteArray × Int × Int)) : Int := IntKind.i64.wrap (x.2.2.2 - x.2.2.1)
def lateFrom (lim : Int) : Nat → List (Int × ByteArray × Int × Int) → List Int
  | _, [] => []
  | i, x :: l => if lim < tTime x then (i : Int) :: lateFrom lim (i + 1) l else lateFrom lim (i + 1) l
theorem late_step {lim : Int} {l : List (Int × ByteArray × Int × Int)} {i : Nat} {x : (Int × ByteArray × Int × Int)} (h : l[i]? = some x) : lateFrom lim i (l.drop i) = if lim < tTime x then (i : Int) :: lateFrom lim (i + 1) (l.drop (i + 1)) else lateFrom lim (i + 1) (l.drop (i + 1)) := by
  rw [getElem_drop_cons h, lateFrom]
theorem late_end {lim : Int} {l : List (Int × ByteArray × Int × Int)} {i k : Nat} (h : l.length ≤ i) : lateFrom lim k (l.drop i) = [] := by
  rw [List.drop_of_length_le h, lateFrom]
theorem late_len (lim : Int) : ∀ (l : List (Int × ByteArray × Int × Int)) (i : Nat), (lateFrom lim i l).length ≤ l.length
  | [], _ => Nat.le_refl _
  | x :: l, i => by
    have := late_len lim l (i + 1)
    rw [lateFrom]
    split <;> simp <;> omega
def cntLe (lim : Int) (l : List Int) : Nat := l.countP fun t => decide (t ≤ lim)
theorem cnt_step {lim : Int} {l : List Int} {i : Nat} {x : Int} (h : l[i]? = some x) : cntLe lim (l.drop i) = cntLe lim (l.drop (i + 1)) + (if x ≤ lim then 1 else 0) := by
  rw [getElem_drop_cons h, cntLe, List.countP_cons]; simp [cntLe]
theorem cnt_end {lim : Int} {l : List Int} {i : Nat} (h : l.length ≤ i) : cntLe lim (l.drop i) = 0 := by
  rw [List.drop_of_length_le h]; rfl
theorem cnt_late (lim : Int) : ∀ (l : List (Int × ByteArray × Int × Int)) (i : Nat), cntLe lim (l.map tTime) + (lateFrom lim i l).length = l.length
  | [], _ => rfl
  | x :: l, i => by
    have := cnt_late lim l (i + 1)
    rw [lateFrom, List.map_cons, cntLe, List.countP_cons]
    by_cases h : tTime x ≤ lim
    · have h2 : ¬ lim < tTime x := by omega
      simp only [h2, if_false, h, decide_true, if_true, List.length_cons]; simp only [cntLe] at this; omega
    · have h2 : lim < tTime x := by omega
      simp only [h2, if_true, h, decide_false, Bool.false_eq_true, if_false, List.length_cons]; simp only [cntLe] at this; omega
def sumW (l : List Int) (a : Int) : Int := l.foldl (fun a t => IntKind.i64.wrap (a + t)) a
theorem sum_step {l : List Int} {i : Nat} {x : Int} (h : l[i]? = some x) (a : Int) : sumW (l.drop i) a = sumW (l.drop (i + 1)) (IntKind.i64.wrap (a + x)) := foldl_drop h a
theorem sum_end {l : List Int} {i : Nat} (h : l.length ≤ i) (a : Int) : sumW (l.drop i) a = a := foldl_end h a
theorem map_at {α β : Type} {f : α → β} {l : List α} {i : Nat} {x : α} (h : l[i]? = some x) : (l.map f)[i]? = some (f x) := by rw [List.getElem?_map, h]; rfl
theorem snoc_map {α : Type} {f : α → V} {l : List α} {x : α} : l.map f ++ [f x] = (l ++ [x]).map f := by rw [List.map_append]; rfl

set_option maxHeartbeats 1000000 in
theorem dbTime_con (x0 : Int) (x1 : ByteArray) (x2 : Int) (x3 : Int) : Con Tryd.prog 106 [.agg [V.int .i64 x0, V.str x1, V.int .i64 x2, V.int .i64 x3]] [] (.int .i64 (IntKind.i64.wrap (x3 - x2))) [] := by
 refine v_con [.tmp 2] [] Tryd.func106 rfl rfl rfl (by simp [Tryd.ntmps106]) ?_
 intro Q0 n0 r0
 simp only [Tryd.ntmps106, envFrom, Nat.reduceAdd]
 have T := Tys.mk (And.intro Ty.t3 (And.intro Ty.t9 Ty.t62))
 have F := Fc.mk True.intro
 refine v_seqR [1] ?_; intro K1 k1
 refine zBox ⟨?_⟩
 refine zAssign ⟨?_⟩
 refine k1 _ ?_
 refine zk ⟨?_⟩
 refine v_seqR [2] ?_; intro K2 k2
 refine zFieldAddr ⟨?_⟩
 refine zLoad ⟨?_⟩
 refine zFieldAddr ⟨?_⟩
 refine zLoad ⟨?_⟩
 refine zBinOpW ⟨?_⟩
 refine zAssign ⟨?_⟩
 refine k2 _ ?_
 refine zk ⟨?_⟩
 refine v_ret ?_
 refine r0 _ ?_
 refine zf ⟨?_⟩
 exact ret_pure rfl (by first | rfl | simp) (.inl rfl)
set_option maxHeartbeats 1000000 in
theorem timesOf_con (l : List (Int × ByteArray × Int × Int)) (hl : l.length ≤ 1048576) : Con Tryd.prog 103 [.sl (l.map (fun t : Int × ByteArray × Int × Int => V.agg [V.int .i64 t.1, V.str t.2.1, V.int .i64 t.2.2.1, V.int .i64 t.2.2.2]))] [] (.ref 0) [.arr ((l.map tTime).map (V.int .i64)) .flat] := by
 refine v_con [.tmp 2] [] Tryd.func103 rfl rfl rfl (by simp [Tryd.ntmps103]) ?_
 intro Q0 n0 r0
 simp only [Tryd.ntmps103, envFrom, Nat.reduceAdd]
 have T := Tys.mk (And.intro Ty.t3 (And.intro Ty.t9 (And.intro Ty.t36 (And.intro Ty.t48 Ty.t62))))
 have F := Fc.mk True.intro
 refine v_seqR [0] ?_; intro K1 k1
 refine zAssign ⟨?_⟩
 refine k1 _ ?_
 refine zk ⟨?_⟩
 refine v_seqR [0,3] ?_; intro K2 k2
 refine zAssign ⟨?_⟩
 refine k2 _ ?_
 refine zk ⟨?_⟩
 refine v_seq ?_; intro Q3 n3 e3 r3
 refine v_seqR [3,6,7,8] ?_; intro K4 k4
 refine zMove ⟨?_⟩
 refine zLen ⟨?_⟩
 refine zMove ⟨?_⟩
 refine k4 _ ?_
 refine zk ⟨?_⟩
 refine v_block ?_; intro Q5 n5 x5 e5 r5
 refine v_loop (fun p => ⟨[(3, .ref 0), (6, .sl (l.map (fun t : Int × ByteArray × Int × Int => V.agg [V.int .i64 t.1, V.str t.2.1, V.int .i64 t.2.2.1, V.int .i64 t.2.2.2]))), (7, .int .i64 l.length), (8, .int .i64 (Nat.cast p.1))], [.arr (p.2.map (V.int .i64)) .flat], false, 22, 0⟩) (fun p => p.1 ≤ l.length ∧ p.2 = (l.take p.1).map tTime) (fun p => l.length - p.1) ((0, []) : Nat × List Int) ?_ ?_ ?_
 ·refine weak_bothS [3, 6, 7, 8] [1] ⟨?_⟩
  rfl
 ·exact ⟨Nat.zero_le _, rfl⟩
 ·rintro ⟨i, acc⟩ hok6 Q6 n6 e6 r6
  obtain ⟨hi1, hR⟩ := hok6
  simp only [] at hi1 hR ⊢
  have hal : acc.length ≤ 1048576 := by rw [hR, List.length_map, List.length_take]; omega
  refine v_seqR [3,6,7,8,9] ?_; intro K7 k7
  refine zBinOp ⟨?_⟩
  refine k7 _ ?_
  refine zk ⟨?_⟩
  refine v_seq ?_; intro Q8 n8 e8 r8
  refine v_condS _ rfl ?_ ?_
  ·intro hc0
   have hlt : i < l.length := by omega
   obtain ⟨⟨x0, x1, x2, x3⟩, hx⟩ : ∃ x : Int × ByteArray × Int × Int, l[i]? = some x := ⟨l[i]'(by omega), List.getElem?_eq_getElem (by omega)⟩
   refine v_skip ?_
   refine n8 _ _ (weak_keep [3, 6, 7, 8] _) ?_
   refine zk ⟨?_⟩
   refine v_seq ?_; intro Q10 n10 e10 r10
   refine v_block ?_; intro Q11 n11 x11 e11 r11
   refine v_seqR [3,5,6,7,8] ?_; intro K12 k12
   have F := Fc.mk (fun f => getD_map (f := f) hx)
   refine zIndexAddr ⟨?_⟩
   refine zLoad ⟨?_⟩
   refine zAlloc ⟨?_⟩
   refine zStore ⟨?_⟩
   refine k12 _ ?_
   refine zk ⟨?_⟩
   refine v_region ?_; intro K13 k13
   refine zMove ⟨?_⟩
   refine zFieldAddr ⟨?_⟩
   refine zLoad ⟨?_⟩
   refine zFieldAddr ⟨?_⟩
   refine zLoad ⟨?_⟩
   refine zBinOpW ⟨?_⟩
   refine zBuildSlice ⟨?_⟩
   refine zAppend ⟨?_⟩
   refine zAssign ⟨?_⟩
   refine k13 _ ?_
   refine n11 _ ?_
   refine n10 _ _ (weak_keep [3, 6, 7, 8] _) ?_
   refine zk ⟨?_⟩
   refine v_region ?_; intro K14 k14
   refine zBinOpW ⟨?_⟩
   refine zMove ⟨?_⟩
   refine k14 _ ?_
   refine n6 _ (i + 1, acc ++ [tTime (x0, x1, x2, x3)]) ?_ ?_ ?_
   ·refine weak_bothS [3, 6, 7, 8] [3] ⟨?_⟩
    rw [snoc_map (f := V.int .i64)]; rfl
   ·exact ⟨hlt, by show acc ++ _ = _; rw [hR, List.take_add_one, hx]; simp⟩
   ·show _ < _; show l.length - (i + 1) < l.length - i; omega
  ·intro hc0
   refine v_exit ?_
   refine e8 _ _ ?_
   refine e6 _ _ ?_
   refine x5 _ ?_
   refine n3 _ _ (weak_keep [3] _) ?_
   refine zk ⟨?_⟩
   refine v_seqR [2] ?_; intro K15 k15
   refine zMove ⟨?_⟩
   refine zAssign ⟨?_⟩
   refine k15 _ ?_
   refine zk ⟨?_⟩
   refine v_ret ?_
   refine r0 _ ?_
   refine zf ⟨?_⟩
   have hend : acc = l.map tTime := by rw [hR, List.take_of_length_le (by omega)]
   rw [← hend]
   exact ret_ref rfl (.inl rfl)
set_option maxHeartbeats 1000000 in
theorem dbLate_con (l : List (Int × ByteArray × Int × Int)) (lim : Int) (hl : l.length ≤ 1048576) : Con Tryd.prog 107 [.sl (l.map (fun t : Int × ByteArray × Int × Int => V.agg [V.int .i64 t.1, V.str t.2.1, V.int .i64 t.2.2.1, V.int .i64 t.2.2.2])), .int .i64 lim] [] (.ref 0) [.arr ((lateFrom lim 0 l).map (V.int .i64)) .flat] := by
 refine v_con [.tmp 4] [] Tryd.func107 rfl rfl rfl (by simp [Tryd.ntmps107]) ?_
 intro Q0 n0 r0
 simp only [Tryd.ntmps107, envFrom, Nat.reduceAdd]
 have T := Tys.mk (And.intro Ty.t3 (And.intro Ty.t9 (And.intro Ty.t36 (And.intro Ty.t48 Ty.t62))))
 have F := Fc.mk True.intro
 refine v_seqR [0,1] ?_; intro K1 k1
 refine zAssign ⟨?_⟩
 refine k1 _ ?_
 refine zk ⟨?_⟩
 refine v_seqR [0,1,5] ?_; intro K2 k2
 refine zAssign ⟨?_⟩
 refine k2 _ ?_
 refine zk ⟨?_⟩
 refine v_seq ?_; intro Q3 n3 e3 r3
 refine v_seqR [1,5,8,9,10] ?_; intro K4 k4
 refine zMove ⟨?_⟩
 refine zLen ⟨?_⟩
 refine zMove ⟨?_⟩
 refine k4 _ ?_
 refine zk ⟨?_⟩
 refine v_block ?_; intro Q5 n5 x5 e5 r5
 refine v_loop (fun p => ⟨[(1, .int .i64 lim), (5, .ref 0), (8, .sl (l.map (fun t : Int × ByteArray × Int × Int => V.agg [V.int .i64 t.1, V.str t.2.1, V.int .i64 t.2.2.1, V.int .i64 t.2.2.2]))), (9, .int .i64 l.length), (10, .int .i64 (Nat.cast p.1))], [.arr (p.2.map (V.int .i64)) .flat], false, 25, 0⟩) (fun p => p.1 ≤ l.length ∧ p.2.length ≤ p.1 ∧ p.2 ++ lateFrom lim p.1 (l.drop p.1) = lateFrom lim 0 l) (fun p => l.length - p.1) ((0, []) : Nat × List Int) ?_ ?_ ?_
 ·refine weak_bothS [1, 5, 8, 9, 10] [1] ⟨?_⟩
  rfl
 ·exact ⟨Nat.zero_le _, Nat.le_refl _, rfl⟩
 ·rintro ⟨i, acc⟩ hok6 Q6 n6 e6 r6
  obtain ⟨hi1, hal, hR⟩ := hok6
  simp only [] at hi1 hal hR ⊢
  refine v_seqR [1,5,8,9,10,11] ?_; intro K7 k7
  refine zBinOp ⟨?_⟩
  refine k7 _ ?_
  refine zk ⟨?_⟩
  refine v_seq ?_; intro Q8 n8 e8 r8
  refine v_condS _ rfl ?_ ?_
  ·intro hc0
   have hlt : i < l.length := by omega
   obtain ⟨⟨x0, x1, x2, x3⟩, hx⟩ : ∃ x : Int × ByteArray × Int × Int, l[i]? = some x := ⟨l[i]'(by omega), List.getElem?_eq_getElem (by omega)⟩
   have hst := late_step (lim := lim) hx
   refine v_skip ?_
   refine n8 _ _ (weak_keep [1, 5, 8, 9, 10] _) ?_
   refine zk ⟨?_⟩
   refine v_seq ?_; intro Q10 n10 e10 r10
   refine v_block ?_; intro Q11 n11 x11 e11 r11
   refine v_seqR [1,5,6,7,8,9,10] ?_; intro K12 k12
   have F := Fc.mk (fun f => getD_map (f := f) hx)
   refine zMove ⟨?_⟩
   refine zIndexAddr ⟨?_⟩
   refine zLoad ⟨?_⟩
   refine zAlloc ⟨?_⟩
   refine zAssign ⟨?_⟩
   refine zStore ⟨?_⟩
   refine k12 _ ?_
   refine zk ⟨?_⟩
   refine v_seqR [1,5,6,8,9,10,18] ?_; intro K13 k13
   refine zLoad ⟨?_⟩
   refine zc (dbTime_con x0 x1 x2 x3) ⟨?_⟩
   refine zMove ⟨?_⟩
   refine zBinOp ⟨?_⟩
   refine k13 _ ?_
   refine zk ⟨?_⟩
   refine v_condS _ rfl ?_ ?_
   ·intro hc1
    refine v_region ?_; intro K15 k15
    refine zMove ⟨?_⟩
    refine zMove ⟨?_⟩
    refine zBuildSlice ⟨?_⟩
    refine zAppend ⟨?_⟩
    refine zAssign ⟨?_⟩
    refine k15 _ ?_
    refine n11 _ ?_
    refine n10 _ _ (weak_keep [1, 5, 8, 9, 10] _) ?_
    refine zk ⟨?_⟩
    refine v_region ?_; intro K16 k16
    refine zBinOpW ⟨?_⟩
    refine zMove ⟨?_⟩
    refine k16 _ ?_
    refine n6 _ (i + 1, acc ++ [(i : Int)]) ?_ ?_ ?_
    ·refine weak_bothS [1, 5, 8, 9, 10] [3] ⟨?_⟩
     rw [snoc_map (f := V.int .i64)]; rfl
    ·exact ⟨hlt, by show (acc ++ _).length ≤ i + 1; simp; omega, by show (acc ++ _) ++ lateFrom lim (i + 1) (l.drop (i + 1)) = _; rw [← hR, hst, if_pos (show lim < tTime (x0, x1, x2, x3) from hc1)]; simp⟩
    ·show _ < _; show l.length - (i + 1) < l.length - i; omega
   ·intro hc1
    refine v_skip ?_
    refine n11 _ ?_
    refine n10 _ _ (weak_keep [1, 5, 8, 9, 10] _) ?_
    refine zk ⟨?_⟩
    refine v_region ?_; intro K17 k17
    refine zBinOpW ⟨?_⟩
    refine zMove ⟨?_⟩
    refine k17 _ ?_
    refine n6 _ (i + 1, acc) ?_ ?_ ?_
    ·refine weak_bothS [1, 5, 8, 9, 10] [0] ⟨?_⟩
     rfl
    ·exact ⟨hlt, by show acc.length ≤ i + 1; omega, by show acc ++ lateFrom lim (i + 1) (l.drop (i + 1)) = _; rw [← hR, hst, if_neg (show ¬ lim < tTime (x0, x1, x2, x3) from Int.not_lt.2 hc1)]⟩
    ·show _ < _; show l.length - (i + 1) < l.length - i; omega
  ·intro hc0
   refine v_exit ?_
   refine e8 _ _ ?_
   refine e6 _ _ ?_
   refine x5 _ ?_
   refine n3 _ _ (weak_keep [5] _) ?_
   refine zk ⟨?_⟩
   refine v_seqR [4] ?_; intro K18 k18
   refine zMove ⟨?_⟩
   refine zAssign ⟨?_⟩
   refine k18 _ ?_
   refine zk ⟨?_⟩
   refine v_ret ?_
   refine r0 _ ?_
   refine zf ⟨?_⟩
   have hend : acc = lateFrom lim 0 l := by rw [← hR, late_end (by omega), List.append_nil]
   rw [← hend]
   exact ret_ref rfl (.inl rfl)
def hasT (l : List (Int × ByteArray × Int × Int)) : Bool := turnsB l && !decide ((l.length : Int) = 0)
def meanV (l : List (Int × ByteArray × Int × Int)) : Int := if hasT l = true then IntKind.i64.wrap ((sumW (l.map tTime) 0).tdiv l.length) else 0

set_option maxHeartbeats 1000000 in
theorem specMeanTime_con (l : List (Int × ByteArray × Int × Int)) (hl : l.length ≤ 1048576) (hls : ∀ t ∈ l, t.2.1.size ≤ 9223372036854775807) : Con Tryd.prog 31 [.sl (l.map (fun t : Int × ByteArray × Int × Int => V.agg [V.int .i64 t.1, V.str t.2.1, V.int .i64 t.2.2.1, V.int .i64 t.2.2.2]))] [] (.tup [.int .i64 (meanV l), .bool (hasT l)]) [] := by
 refine v_con [.tmp 2, .tmp 3] [] Tryd.func31 rfl rfl rfl (by simp [Tryd.ntmps31]) ?_
 intro Q0 n0 r0
 simp only [Tryd.ntmps31, envFrom, Nat.reduceAdd]
 have T := Tys.mk (And.intro Ty.t3 (And.intro Ty.t4 (And.intro Ty.t9 (And.intro Ty.t48 Ty.t62))))
 have F := Fc.mk True.intro
 refine v_seqR [0] ?_; intro K1 k1
 refine zAssign ⟨?_⟩
 refine zAssign ⟨?_⟩
 refine k1 _ ?_
 refine zk ⟨?_⟩
 refine v_seq ?_; intro Q2 n2 e2 r2
 refine v_seqR [0,14] ?_; intro K3 k3
 refine zMove ⟨?_⟩
 refine zc (dbGood_con l hl hls) ⟨?_⟩
 refine zUnOp ⟨?_⟩
 refine zMove ⟨?_⟩
 refine zgMove ⟨?_⟩
 refine zgLen ⟨?_⟩
 refine zgBinOp ⟨?_⟩
 refine zPick ⟨?_⟩
 refine k3 _ ?_
 refine zk ⟨?_⟩
 refine v_condS _ rfl ?_ ?_
 ·intro hc0
  refine v_seqR [2,3] ?_; intro K5 k5
  refine zAssign ⟨?_⟩
  refine zAssign ⟨?_⟩
  refine k5 _ ?_
  refine zk ⟨?_⟩
  refine v_ret ?_
  refine r2 _ ?_
  refine r0 _ ?_
  refine zf ⟨?_⟩
  have hg : hasT l = false := by rw [hasT]; rcases hc0 with h | h <;> simp [h]
  have hmv : meanV l = 0 := by rw [meanV, hg]; rfl
  rw [hmv, hg]
  exact ret_pure rfl rfl (.inl rfl)
 ·intro hc0
  have hg : hasT l = true := by rw [hasT, hc0.1, decide_eq_false (by omega)]; rfl
  have hn0 : (l.length : Int) ≠ 0 := by omega
  have hmv : meanV l = IntKind.i64.wrap ((sumW ((l.map tTime).drop 0) 0).tdiv l.length) := by rw [meanV, hg]; rfl
  refine v_skip ?_
  refine n2 _ _ (weak_keep [0] _) ?_
  refine zk ⟨?_⟩
  refine v_seqR [0,4] ?_; intro K6 k6
  refine zAssign ⟨?_⟩
  refine k6 _ ?_
  refine zk ⟨?_⟩
  refine v_seq ?_; intro Q7 n7 e7 r7
  refine v_seqR [0,4,15,16,17] ?_; intro K8 k8
  refine zMove ⟨?_⟩
  refine zLen ⟨?_⟩
  refine zMove ⟨?_⟩
  refine k8 _ ?_
  refine zk ⟨?_⟩
  refine v_block ?_; intro Q9 n9 x9 e9 r9
  refine v_loop (fun p => ⟨[(0, .sl (l.map (fun t : Int × ByteArray × Int × Int => V.agg [V.int .i64 t.1, V.str t.2.1, V.int .i64 t.2.2.1, V.int .i64 t.2.2.2]))), (4, .int .i64 p.2), (15, .sl (l.map (fun t : Int × ByteArray × Int × Int => V.agg [V.int .i64 t.1, V.str t.2.1, V.int .i64 t.2.2.1, V.int .i64 t.2.2.2]))), (16, .int .i64 l.length), (17, .int .i64 (Nat.cast p.1))], [], false, 30, 0⟩) (fun p => p.1 ≤ l.length ∧ sumW ((l.map tTime).drop p.1) p.2 = sumW ((l.map tTime).drop 0) 0) (fun p => l.length - p.1) ((0, 0) : Nat × Int) ?_ ?_ ?_
  ·refine weak_of [0, 4, 15, 16, 17] ?_
   simp only [keep_mk, keepE_nil, keepE_cons, look_cons, look_nil, Nat.reduceEqDiff, reduceIte]
   rfl
  ·exact ⟨Nat.zero_le _, rfl⟩
  ·rintro ⟨i, sm⟩ hok10 Q10 n10 e10 r10
   obtain ⟨hi1, hR⟩ := hok10
   simp only [] at hi1 hR ⊢
   refine v_seqR [0,4,15,16,17,18] ?_; intro K11 k11
   refine zBinOp ⟨?_⟩
   refine k11 _ ?_
   refine zk ⟨?_⟩
   refine v_seq ?_; intro Q12 n12 e12 r12
   refine v_condS _ rfl ?_ ?_
   ·intro hc1
    have hlt : i < l.length := by omega
    obtain ⟨⟨x0, x1, x2, x3⟩, hx⟩ : ∃ x : Int × ByteArray × Int × Int, l[i]? = some x := ⟨l[i]'(by omega), List.getElem?_eq_getElem (by omega)⟩
    refine v_skip ?_
    refine n12 _ _ (weak_keep [0, 4, 15, 16, 17] _) ?_
    refine zk ⟨?_⟩
    refine v_seq ?_; intro Q14 n14 e14 r14
    refine v_block ?_; intro Q15 n15 x15 e15 r15
    refine v_seqR [0,4,6,15,16,17] ?_; intro K16 k16
    have F := Fc.mk (fun f => getD_map (f := f) hx)
    refine zIndexAddr ⟨?_⟩
    refine zLoad ⟨?_⟩
    refine zAlloc ⟨?_⟩
    refine zStore ⟨?_⟩
    refine k16 _ ?_
    refine zk ⟨?_⟩
    refine v_region ?_; intro K17 k17
    refine zMove ⟨?_⟩
    refine zLoad ⟨?_⟩
    refine zc (dbTime_con x0 x1 x2 x3) ⟨?_⟩
    refine zBinOpW ⟨?_⟩
    refine zAssign ⟨?_⟩
    refine k17 _ ?_
    refine n15 _ ?_
    refine n14 _ _ (weak_keep [0, 4, 15, 16, 17] _) ?_
    refine zk ⟨?_⟩
    refine v_region ?_; intro K18 k18
    refine zBinOpW ⟨?_⟩
    refine zMove ⟨?_⟩
    refine k18 _ ?_
    refine n10 _ (i + 1, IntKind.i64.wrap (sm + tTime (x0, x1, x2, x3))) ?_ ?_ ?_
    ·refine weak_bothS [0, 4, 15, 16, 17] [] ⟨?_⟩
     rfl
    ·exact ⟨hlt, by show sumW ((l.map tTime).drop (i + 1)) _ = _; rw [← hR, sum_step (map_at hx)]⟩
    ·show _ < _; show l.length - (i + 1) < l.length - i; omega
   ·intro hc1
    refine v_exit ?_
    refine e12 _ _ ?_
    refine e10 _ _ ?_
    refine x9 _ ?_
    refine n7 _ _ (weak_keep [0, 4] _) ?_
    refine zk ⟨?_⟩
    refine v_seqR [2,3] ?_; intro K19 k19
    refine zMove ⟨?_⟩
    refine zMove ⟨?_⟩
    refine zLen ⟨?_⟩
    refine zBinOpW ⟨?_⟩
    refine zAssign ⟨?_⟩
    refine zAssign ⟨?_⟩
    refine k19 _ ?_
    refine zk ⟨?_⟩
    refine v_ret ?_
    refine r0 _ ?_
    refine zf ⟨?_⟩
    rw [hmv, hg, ← hR, sum_end (by rw [List.length_map]; omega)]
    exact ret_pure rfl rfl (.inl rfl)
set_option maxHeartbeats 1000000 in
theorem implMeanTime_con (l : List (Int × ByteArray × Int × Int)) (hl : l.length ≤ 1048576) (hls : ∀ t ∈ l, t.2.1.size ≤ 9223372036854775807) : Con Tryd.prog 30 [.sl (l.map (fun t : Int × ByteArray × Int × Int => V.agg [V.int .i64 t.1, V.str t.2.1, V.int .i64 t.2.2.1, V.int .i64 t.2.2.2]))] [] (.tup [.int .i64 (meanV l), .bool (hasT l)]) [] := by
 refine v_con [.tmp 2, .tmp 3] [] Tryd.func30 rfl rfl rfl (by simp [Tryd.ntmps30]) ?_
 intro Q0 n0 r0
 simp only [Tryd.ntmps30, envFrom, Nat.reduceAdd]
 have T := Tys.mk (And.intro Ty.t3 (And.intro Ty.t4 (And.intro Ty.t9 (And.intro Ty.t36 (And.intro Ty.t48 Ty.t62)))))
 have F := Fc.mk True.intro
 refine v_seqR [0] ?_; intro K1 k1
 refine zAssign ⟨?_⟩
 refine zAssign ⟨?_⟩
 refine k1 _ ?_
 refine zk ⟨?_⟩
 refine v_seq ?_; intro Q2 n2 e2 r2
 refine v_seqR [0,14] ?_; intro K3 k3
 refine zMove ⟨?_⟩
 refine zc (areTurnouts_con l hl hls) ⟨?_⟩
 refine zUnOp ⟨?_⟩
 refine zMove ⟨?_⟩
 refine zgMove ⟨?_⟩
 refine zgLen ⟨?_⟩
 refine zgBinOp ⟨?_⟩
 refine zPick ⟨?_⟩
 refine k3 _ ?_
 refine zk ⟨?_⟩
 refine v_condS _ rfl ?_ ?_
 ·intro hc0
  refine v_seqR [2,3] ?_; intro K5 k5
  refine zAssign ⟨?_⟩
  refine zAssign ⟨?_⟩
  refine k5 _ ?_
  refine zk ⟨?_⟩
  refine v_ret ?_
  refine r2 _ ?_
  refine r0 _ ?_
  refine zf ⟨?_⟩
  have hg : hasT l = false := by rw [hasT]; rcases hc0 with h | h <;> simp [h]
  have hmv : meanV l = 0 := by rw [meanV, hg]; rfl
  rw [hmv, hg]
  exact ret_pure rfl rfl (.inl rfl)
 ·intro hc0
  have hg : hasT l = true := by rw [hasT, hc0.1, decide_eq_false (by omega)]; rfl
  have hn0 : (l.length : Int) ≠ 0 := by omega
  have hmv : meanV l = IntKind.i64.wrap ((sumW ((l.map tTime).drop 0) 0).tdiv l.length) := by rw [meanV, hg]; rfl
  refine v_skip ?_
  refine n2 _ _ (weak_keep [0] _) ?_
  refine zk ⟨?_⟩
  refine v_seqR [0,4] ?_; intro K6 k6
  refine zAssign ⟨?_⟩
  refine k6 _ ?_
  refine zk ⟨?_⟩
  refine v_seq ?_; intro Q7 n7 e7 r7
  refine v_seqR [0,4,16,17,18] ?_; intro K8 k8
  refine zMove ⟨?_⟩
  refine zc (timesOf_con l hl) ⟨?_⟩
  refine zLen ⟨?_⟩
  refine zMove ⟨?_⟩
  refine k8 _ ?_
  refine zk ⟨?_⟩
  refine v_block ?_; intro Q9 n9 x9 e9 r9
  refine v_loop (fun p => ⟨[(0, .sl (l.map (fun t : Int × ByteArray × Int × Int => V.agg [V.int .i64 t.1, V.str t.2.1, V.int .i64 t.2.2.1, V.int .i64 t.2.2.2]))), (4, .int .i64 p.2), (16, .ref 0), (17, .int .i64 l.length), (18, .int .i64 (Nat.cast p.1))], [.arr ((l.map tTime).map (V.int .i64)) .flat], false, 30, 0⟩) (fun p => p.1 ≤ l.length ∧ sumW ((l.map tTime).drop p.1) p.2 = sumW ((l.map tTime).drop 0) 0) (fun p => l.length - p.1) ((0, 0) : Nat × Int) ?_ ?_ ?_
  ·refine weak_bothS [0, 4, 16, 17, 18] [0] ⟨?_⟩
   rfl
  ·exact ⟨Nat.zero_le _, rfl⟩
  ·rintro ⟨i, sm⟩ hok10 Q10 n10 e10 r10
   obtain ⟨hi1, hR⟩ := hok10
   simp only [] at hi1 hR ⊢
   refine v_seqR [0,4,16,17,18,19] ?_; intro K11 k11
   refine zBinOp ⟨?_⟩
   refine k11 _ ?_
   refine zk ⟨?_⟩
   refine v_seq ?_; intro Q12 n12 e12 r12
   refine v_condS _ rfl ?_ ?_
   ·intro hc1
    have hlt : i < l.length := by omega
    obtain ⟨⟨x0, x1, x2, x3⟩, hx⟩ : ∃ x : Int × ByteArray × Int × Int, l[i]? = some x := ⟨l[i]'(by omega), List.getElem?_eq_getElem (by omega)⟩
    have hxm := map_at (f := tTime) hx
    refine v_skip ?_
    refine n12 _ _ (weak_keep [0, 4, 16, 17, 18] _) ?_
    refine zk ⟨?_⟩
    refine v_seq ?_; intro Q14 n14 e14 r14
    refine v_block ?_; intro Q15 n15 x15 e15 r15
    refine v_seqR [0,4,6,16,17,18] ?_; intro K16 k16
    have F := Fc.mk (fun f => getD_map (f := f) hxm)
    refine zIndexAddr ⟨?_⟩
    refine zLoad ⟨?_⟩
    refine zAssign ⟨?_⟩
    refine k16 _ ?_
    refine zk ⟨?_⟩
    refine v_region ?_; intro K17 k17
    refine zMove ⟨?_⟩
    refine zMove ⟨?_⟩
    refine zBinOpW ⟨?_⟩
    refine zAssign ⟨?_⟩
    refine k17 _ ?_
    refine n15 _ ?_
    refine n14 _ _ (weak_keep [0, 4, 16, 17, 18] _) ?_
    refine zk ⟨?_⟩
    refine v_region ?_; intro K18 k18
    refine zBinOpW ⟨?_⟩
    refine zMove ⟨?_⟩
    refine k18 _ ?_
    refine n10 _ (i + 1, IntKind.i64.wrap (sm + tTime (x0, x1, x2, x3))) ?_ ?_ ?_
    ·refine weak_bothS [0, 4, 16, 17, 18] [0] ⟨?_⟩
     rfl
    ·exact ⟨hlt, by show sumW ((l.map tTime).drop (i + 1)) _ = _; rw [← hR, sum_step (map_at hx)]⟩
    ·show _ < _; show l.length - (i + 1) < l.length - i; omega
   ·intro hc1
    refine v_exit ?_
    refine e12 _ _ ?_
    refine e10 _ _ ?_
    refine x9 _ ?_
    refine n7 _ _ (weak_keep [0, 4] _) ?_
    refine zk ⟨?_⟩
    refine v_seqR [2,3] ?_; intro K19 k19
    refine zMove ⟨?_⟩
    refine zMove ⟨?_⟩
    refine zLen ⟨?_⟩
    refine zBinOpW ⟨?_⟩
    refine zAssign ⟨?_⟩
    refine zAssign ⟨?_⟩
    refine k19 _ ?_
    refine zk ⟨?_⟩
    refine v_ret ?_
    refine r0 _ ?_
    refine zf ⟨?_⟩
    rw [hmv, hg, ← hR, sum_end (by rw [List.length_map]; omega)]
    exact ret_pure rfl rfl (.inl rfl)
set_option maxHeartbeats 1000000 in
theorem isLimit_con (n : Int) : Con Tryd.prog 109 [.int .i64 n] [] (.bool (decide (0 ≤ n) && decide (n ≤ 36000))) [] := by
 refine v_con [.tmp 2] [] Tryd.func109 rfl rfl rfl (by simp [Tryd.ntmps109]) ?_
 intro Q0 n0 r0
 simp only [Tryd.ntmps109, envFrom, Nat.reduceAdd]
 have T := Tys.mk (And.intro Ty.t3 Ty.t4)
 have F := Fc.mk True.intro
 refine v_seqR [0] ?_; intro K1 k1
 refine zAssign ⟨?_⟩
 refine k1 _ ?_
 refine zk ⟨?_⟩
 refine v_seqR [2] ?_; intro K2 k2
 refine zMove ⟨?_⟩
 refine zc (inside_con _ _ _) ⟨?_⟩
 refine zAssign ⟨?_⟩
 refine k2 _ ?_
 refine zk ⟨?_⟩
 refine v_ret ?_
 refine r0 _ ?_
 refine zf ⟨?_⟩
 exact ret_pure rfl (by first | rfl | simp) (.inl rfl)
set_option maxHeartbeats 1000000 in
theorem dsLimit_con (n : Int) : Con Tryd.prog 110 [.int .i64 n] [] (.bool (decide (0 ≤ n) && decide (n ≤ 36000))) [] := by
 refine v_con [.tmp 2] [] Tryd.func110 rfl rfl rfl (by simp [Tryd.ntmps110]) ?_
 intro Q0 n0 r0
 simp only [Tryd.ntmps110, envFrom, Nat.reduceAdd]
 have T := Tys.mk (And.intro Ty.t3 Ty.t4)
 have F := Fc.mk True.intro
 refine v_seqR [0] ?_; intro K1 k1
 refine zAssign ⟨?_⟩
 refine k1 _ ?_
 refine zk ⟨?_⟩
 refine v_seqR [2] ?_; intro K2 k2
 refine zMove ⟨?_⟩
 refine zc (l1In_con _ _ _) ⟨?_⟩
 refine zAssign ⟨?_⟩
 refine k2 _ ?_
 refine zk ⟨?_⟩
 refine v_ret ?_
 refine r0 _ ?_
 refine zf ⟨?_⟩
 exact ret_pure rfl (by first | rfl | simp) (.inl rfl)
def limB (n : Int) : Bool := decide (0 ≤ n) && decide (n ≤ 36000)
def hasS (l : List (Int × ByteArray × Int × Int)) (lim : Int) : Bool := turnsB l && limB lim && !decide ((l.length : Int) = 0)
def shareV (l : List (Int × ByteArray × Int × Int)) (lim : Int) : Int := if hasS l lim = true then IntKind.i64.wrap ((100 * (cntLe lim (l.map tTime) : Int)).tdiv l.length) else 0

set_option maxHeartbeats 1000000 in
theorem specShare_con (l : List (Int × ByteArray × Int × Int)) (lim : Int) (hl : l.length ≤ 1048576) (hls : ∀ t ∈ l, t.2.1.size ≤ 9223372036854775807) : Con Tryd.prog 36 [.sl (l.map (fun t : Int × ByteArray × Int × Int => V.agg [V.int .i64 t.1, V.str t.2.1, V.int .i64 t.2.2.1, V.int .i64 t.2.2.2])), .int .i64 lim] [] (.tup [.int .i64 (shareV l lim), .bool (hasS l lim)]) [] := by
 refine v_con [.tmp 4, .tmp 5] [] Tryd.func36 rfl rfl rfl (by simp [Tryd.ntmps36]) ?_
 intro Q0 n0 r0
 simp only [Tryd.ntmps36, envFrom, Nat.reduceAdd]
 have T := Tys.mk (And.intro Ty.t3 (And.intro Ty.t4 (And.intro Ty.t9 (And.intro Ty.t36 (And.intro Ty.t48 Ty.t62)))))
 have F := Fc.mk True.intro
 refine v_seqR [0,1] ?_; intro K1 k1
 refine zAssign ⟨?_⟩
 refine zAssign ⟨?_⟩
 refine k1 _ ?_
 refine zk ⟨?_⟩
 refine v_seq ?_; intro Q2 n2 e2 r2
 refine v_seqR [0,1,18] ?_; intro K3 k3
 refine zMove ⟨?_⟩
 refine zc (dbGood_con l hl hls) ⟨?_⟩
 refine zUnOp ⟨?_⟩
 refine zMove ⟨?_⟩
 refine zgMove ⟨?_⟩
 refine zgc (dsLimit_con _) ⟨?_⟩
 refine zgUnOp ⟨?_⟩
 refine zPick ⟨?_⟩
 refine zMove ⟨?_⟩
 refine zgMove ⟨?_⟩
 refine zgLen ⟨?_⟩
 refine zgBinOp ⟨?_⟩
 refine zPick ⟨?_⟩
 refine k3 _ ?_
 refine zk ⟨?_⟩
 refine v_condS _ rfl ?_ ?_
 ·intro hc0
  refine v_seqR [4,5] ?_; intro K5 k5
  refine zAssign ⟨?_⟩
  refine zAssign ⟨?_⟩
  refine k5 _ ?_
  refine zk ⟨?_⟩
  refine v_ret ?_
  refine r2 _ ?_
  refine r0 _ ?_
  refine zf ⟨?_⟩
  have hg : hasS l lim = false := by
   cases hq : hasS l lim with
   |false => rfl
   |true =>
    exfalso
    simp only [hasS, limB, Bool.and_eq_true, Bool.not_eq_true', decide_eq_true_eq, decide_eq_false_iff_not] at hq
    rcases hc0 with (h | h) | h
    ·rw [hq.1.1] at h; cases h
    ·have := h hq.1.2.1; omega
    ·omega
  have hmv : shareV l lim = 0 := by rw [shareV, hg]; rfl
  rw [hmv, hg]
  exact ret_pure rfl rfl (.inl rfl)
 ·intro hc0
  have hg : hasS l lim = true := by rw [hasS, limB, hc0.1.1, decide_eq_false (show ¬ (l.length : Int) = 0 by omega), decide_eq_true (show 0 ≤ lim by simp at hc0; omega), decide_eq_true (show lim ≤ 36000 by simp at hc0; omega)]; rfl
  have hn0 : (l.length : Int) ≠ 0 := by omega
  have hmv : shareV l lim = IntKind.i64.wrap ((100 * (cntLe lim (l.map tTime) : Int)).tdiv l.length) := by rw [shareV, hg]; rfl
  have hcl := cnt_late lim l 0
  refine v_skip ?_
  refine n2 _ _ (weak_keep [0, 1] _) ?_
  refine zk ⟨?_⟩
  refine v_seqR [4,5] ?_; intro K6 k6
  refine zMove ⟨?_⟩
  refine zLen ⟨?_⟩
  refine zMove ⟨?_⟩
  refine zMove ⟨?_⟩
  refine zc (dbLate_con l lim hl) ⟨?_⟩
  refine zLen ⟨?_⟩
  refine zBinOpW ⟨?_⟩
  refine zBinOpW ⟨?_⟩
  refine zMove ⟨?_⟩
  refine zLen ⟨?_⟩
  refine zBinOpW ⟨?_⟩
  refine zAssign ⟨?_⟩
  refine zAssign ⟨?_⟩
  refine k6 _ ?_
  refine zk ⟨?_⟩
  refine v_ret ?_
  refine r0 _ ?_
  refine zf ⟨?_⟩
  rw [hmv, hg]
  exact ret_pure rfl (by rw [show (l.length : Int) - (lateFrom lim 0 l).length = (cntLe lim (l.map tTime) : Int) by omega]) (.inl rfl)
set_option maxHeartbeats 1000000 in
theorem implShare_con (l : List (Int × ByteArray × Int × Int)) (lim : Int) (hl : l.length ≤ 1048576) (hls : ∀ t ∈ l, t.2.1.size ≤ 9223372036854775807) : Con Tryd.prog 35 [.sl (l.map (fun t : Int × ByteArray × Int × Int => V.agg [V.int .i64 t.1, V.str t.2.1, V.int .i64 t.2.2.1, V.int .i64 t.2.2.2])), .int .i64 lim] [] (.tup [.int .i64 (shareV l lim), .bool (hasS l lim)]) [] := by
 refine v_con [.tmp 4, .tmp 5] [] Tryd.func35 rfl rfl rfl (by simp [Tryd.ntmps35]) ?_
 intro Q0 n0 r0
 simp only [Tryd.ntmps35, envFrom, Nat.reduceAdd]
 have T := Tys.mk (And.intro Ty.t3 (And.intro Ty.t4 (And.intro Ty.t9 (And.intro Ty.t36 (And.intro Ty.t48 Ty.t62)))))
 have F := Fc.mk True.intro
 refine v_seqR [0,1] ?_; intro K1 k1
 refine zAssign ⟨?_⟩
 refine zAssign ⟨?_⟩
 refine k1 _ ?_
 refine zk ⟨?_⟩
 refine v_seq ?_; intro Q2 n2 e2 r2
 refine v_seqR [0,1,21] ?_; intro K3 k3
 refine zMove ⟨?_⟩
 refine zc (areTurnouts_con l hl hls) ⟨?_⟩
 refine zUnOp ⟨?_⟩
 refine zMove ⟨?_⟩
 refine zgMove ⟨?_⟩
 refine zgc (isLimit_con _) ⟨?_⟩
 refine zgUnOp ⟨?_⟩
 refine zPick ⟨?_⟩
 refine zMove ⟨?_⟩
 refine zgMove ⟨?_⟩
 refine zgLen ⟨?_⟩
 refine zgBinOp ⟨?_⟩
 refine zPick ⟨?_⟩
 refine k3 _ ?_
 refine zk ⟨?_⟩
 refine v_condS _ rfl ?_ ?_
 ·intro hc0
  refine v_seqR [4,5] ?_; intro K5 k5
  refine zAssign ⟨?_⟩
  refine zAssign ⟨?_⟩
  refine k5 _ ?_
  refine zk ⟨?_⟩
  refine v_ret ?_
  refine r2 _ ?_
  refine r0 _ ?_
  refine zf ⟨?_⟩
  have hg : hasS l lim = false := by
   cases hq : hasS l lim with
   |false => rfl
   |true =>
    exfalso
    simp only [hasS, limB, Bool.and_eq_true, Bool.not_eq_true', decide_eq_true_eq, decide_eq_false_iff_not] at hq
    rcases hc0 with (h | h) | h
    ·rw [hq.1.1] at h; cases h
    ·have := h hq.1.2.1; omega
    ·omega
  have hmv : shareV l lim = 0 := by rw [shareV, hg]; rfl
  rw [hmv, hg]
  exact ret_pure rfl rfl (.inl rfl)
 ·intro hc0
  have hg : hasS l lim = true := by rw [hasS, limB, hc0.1.1, decide_eq_false (show ¬ (l.length : Int) = 0 by omega), decide_eq_true (show 0 ≤ lim by simp at hc0; omega), decide_eq_true (show lim ≤ 36000 by simp at hc0; omega)]; rfl
  have hn0 : (l.length : Int) ≠ 0 := by omega
  have hmv : shareV l lim = IntKind.i64.wrap ((100 * (cntLe lim (l.map tTime) : Int)).tdiv l.length) := by rw [shareV, hg]; rfl
  have hcl := cnt_late lim l 0
  refine v_skip ?_
  refine n2 _ _ (weak_keep [0, 1] _) ?_
  refine zk ⟨?_⟩
  refine v_seqR [0,1,6] ?_; intro K6 k6
  refine zAssign ⟨?_⟩
  refine k6 _ ?_
  refine zk ⟨?_⟩
  refine v_seq ?_; intro Q7 n7 e7 r7
  refine v_seqR [0,1,6,23,24,25] ?_; intro K8 k8
  refine zMove ⟨?_⟩
  refine zc (timesOf_con l hl) ⟨?_⟩
  refine zLen ⟨?_⟩
  refine zMove ⟨?_⟩
  refine k8 _ ?_
  refine zk ⟨?_⟩
  refine v_block ?_; intro Q9 n9 x9 e9 r9
  refine v_loop (fun p => ⟨[(0, .sl (l.map (fun t : Int × ByteArray × Int × Int => V.agg [V.int .i64 t.1, V.str t.2.1, V.int .i64 t.2.2.1, V.int .i64 t.2.2.2]))), (1, .int .i64 lim), (6, .int .i64 (Nat.cast p.2)), (23, .ref 0), (24, .int .i64 l.length), (25, .int .i64 (Nat.cast p.1))], [.arr ((l.map tTime).map (V.int .i64)) .flat], false, 40, 0⟩) (fun p => p.1 ≤ l.length ∧ p.2 ≤ p.1 ∧ p.2 + cntLe lim ((l.map tTime).drop p.1) = cntLe lim (l.map tTime)) (fun p => l.length - p.1) ((0, 0) : Nat × Nat) ?_ ?_ ?_
  ·refine weak_bothS [0, 1, 6, 23, 24, 25] [0] ⟨?_⟩
   rfl
  ·exact ⟨Nat.zero_le _, Nat.le_refl _, Nat.zero_add _⟩
  ·rintro ⟨i, c⟩ hok10 Q10 n10 e10 r10
   obtain ⟨hi1, hci, hR⟩ := hok10
   simp only [] at hi1 hci hR ⊢
   refine v_seqR [0,1,6,23,24,25,26] ?_; intro K11 k11
   refine zBinOp ⟨?_⟩
   refine k11 _ ?_
   refine zk ⟨?_⟩
   refine v_seq ?_; intro Q12 n12 e12 r12
   refine v_condS _ rfl ?_ ?_
   ·intro hc1
    have hlt : i < l.length := by omega
    obtain ⟨⟨x0, x1, x2, x3⟩, hx⟩ : ∃ x : Int × ByteArray × Int × Int, l[i]? = some x := ⟨l[i]'(by omega), List.getElem?_eq_getElem (by omega)⟩
    have hxm := map_at (f := tTime) hx
    have hst := cnt_step (lim := lim) hxm
    refine v_skip ?_
    refine n12 _ _ (weak_keep [0, 1, 6, 23, 24, 25] _) ?_
    refine zk ⟨?_⟩
    refine v_seq ?_; intro Q14 n14 e14 r14
    refine v_block ?_; intro Q15 n15 x15 e15 r15
    refine v_seqR [0,1,6,8,23,24,25] ?_; intro K16 k16
    have F := Fc.mk (fun f => getD_map (f := f) hxm)
    refine zIndexAddr ⟨?_⟩
    refine zLoad ⟨?_⟩
    refine zAssign ⟨?_⟩
    refine k16 _ ?_
    refine zk ⟨?_⟩
    refine v_seqR [0,1,6,23,24,25,31] ?_; intro K17 k17
    refine zMove ⟨?_⟩
    refine zMove ⟨?_⟩
    refine zBinOp ⟨?_⟩
    refine k17 _ ?_
    refine zk ⟨?_⟩
    refine v_condS _ rfl ?_ ?_
    ·intro hc2
     refine v_region ?_; intro K19 k19
     refine zMove ⟨?_⟩
     refine zBinOpW ⟨?_⟩
     refine zAssign ⟨?_⟩
     refine k19 _ ?_
     refine n15 _ ?_
     refine n14 _ _ (weak_keep [0, 1, 6, 23, 24, 25] _) ?_
     refine zk ⟨?_⟩
     refine v_region ?_; intro K20 k20
     refine zBinOpW ⟨?_⟩
     refine zMove ⟨?_⟩
     refine k20 _ ?_
     refine n10 _ (i + 1, c + 1) ?_ ?_ ?_
     ·refine weak_bothS [0, 1, 6, 23, 24, 25] [0] ⟨?_⟩
      rfl
     ·exact ⟨hlt, by show c + 1 ≤ i + 1; omega, by show c + 1 + cntLe lim ((l.map tTime).drop (i + 1)) = _; rw [← hR, hst, if_pos hc2]; omega⟩
     ·show _ < _; show l.length - (i + 1) < l.length - i; omega
    ·intro hc2
     refine v_skip ?_
     refine n15 _ ?_
     refine n14 _ _ (weak_keep [0, 1, 6, 23, 24, 25] _) ?_
     refine zk ⟨?_⟩
     refine v_region ?_; intro K21 k21
     refine zBinOpW ⟨?_⟩
     refine zMove ⟨?_⟩
     refine k21 _ ?_
     refine n10 _ (i + 1, c) ?_ ?_ ?_
     ·refine weak_bothS [0, 1, 6, 23, 24, 25] [0] ⟨?_⟩
      rfl
     ·exact ⟨hlt, by show c ≤ i + 1; omega, by show c + cntLe lim ((l.map tTime).drop (i + 1)) = _; rw [← hR, hst, if_neg (by omega)]; omega⟩
     ·show _ < _; show l.length - (i + 1) < l.length - i; omega
   ·intro hc1
    refine v_exit ?_
    refine e12 _ _ ?_
    refine e10 _ _ ?_
    refine x9 _ ?_
    refine n7 _ _ (weak_keep [0, 6] _) ?_
    refine zk ⟨?_⟩
    refine v_seqR [4,5] ?_; intro K22 k22
    refine zMove ⟨?_⟩
    refine zBinOpW ⟨?_⟩
    refine zMove ⟨?_⟩
    refine zLen ⟨?_⟩
    refine zBinOpW ⟨?_⟩
    refine zAssign ⟨?_⟩
    refine zAssign ⟨?_⟩
    refine k22 _ ?_
    refine zk ⟨?_⟩
    refine v_ret ?_
    refine r0 _ ?_
    refine zf ⟨?_⟩
    have hfin : c = cntLe lim (l.map tTime) := by rw [cnt_end (by rw [List.length_map]; omega)] at hR; omega
    rw [hmv, hg, ← hfin]
    exact ret_pure rfl rfl (.inl rfl)
end Go.Proofs.YtbameklegpgkfaaDoor
