/- What functions compute. No condition. -/
import Derived.Test.YtmlicajgbgjphaaDoorUty
import Derived.Test.YtmlicajgbgjphaaDoorUmG
import Derived.Test.YtmlicajgbgjphaaDoorX6
import Derived.Test.YtmlicajgbgjphaaDoorX7
import Derived.Test.YtmlicajgbgjphaaDoorX1
set_option linter.unusedSimpArgs false
set_option linter.unusedVariables false
set_option linter.defProp false
namespace Go.Proofs.YtmlicajgbgjphaaDoor
open Go Go.Vm

def tOne (x : (Int × ByteArray × Int × Int)) : Bool := (decide (1 ≤ x.1) && decide (x.1 ≤ 999)) && nameB x.2.1 && (decide (0 ≤ x.2.2.1) && decide (x.2.2.1 ≤ 999999)) && (decide (x.2.2.1 ≤ x.2.2.2) && decide (x.2.2.2 ≤ 999999))
def tBefore (x y : (Int × ByteArray × Int × Int)) : Bool := if x.2.2.1 ≠ y.2.2.1 then decide (x.2.2.1 < y.2.2.1) else if x.1 ≠ y.1 then decide (x.1 < y.1) else strLt x.2.1 y.2.1
def turnsB (l : List (Int × ByteArray × Int × Int)) : Bool := chainAt tOne tBefore l 0 && decide ((l.length : Int) ≤ 15)
theorem strLt_irrefl (a : ByteArray) : strLt a a = false := by
  unfold strLt
  generalize a.toList = l
  induction l with
  | nil => rfl
  | cons x l ih => simp [Op.bytesLess, ih]
theorem cmp_before (x y : (Int × ByteArray × Int × Int)) : (0 ≤ orL [cmpI x.2.2.1 y.2.2.1, cmpI x.1 y.1, cmpS x.2.1 y.2.1]) ↔ tBefore x y = false := by
  simp only [orL, cmpI, cmpS, tBefore]
  by_cases h1 : x.2.2.1 = y.2.2.1
  · by_cases h2 : x.1 = y.1
    · by_cases h3 : x.2.1 = y.2.1
      · simp [h1, h2, h3, strLt_irrefl]
      · by_cases h4 : strLt x.2.1 y.2.1 = true
        · simp [h1, h2, h3, h4]
        · simp only [Bool.not_eq_true] at h4; simp [h1, h2, h3, h4]
    · rcases Int.lt_or_gt_of_ne h2 with q | q
      · simp [h1, q, h2]
      · have : ¬ x.1 < y.1 := by omega
        simp [h1, q, h2, this]
  · rcases Int.lt_or_gt_of_ne h1 with q | q
    · simp [q, h1]
    · have : ¬ x.2.2.1 < y.2.2.1 := by omega
      simp [q, h1, this]

set_option maxHeartbeats 1000000 in
theorem dbIncident_con (n : Int) : Con Tryd.prog 176 [.int .i64 n] [] (.bool (decide (1 ≤ n) && decide (n ≤ 999))) [] := by
 refine v_con [.tmp 2] [] Tryd.func176 rfl rfl rfl (by simp [Tryd.ntmps176]) ?_
 intro Q0 n0 r0
 simp only [Tryd.ntmps176, envFrom, Nat.reduceAdd]
 have T := Tys.mk (And.intro Ty.t3 Ty.t4)
 have F := Fc.mk True.intro
 refine v_seqR [0] ?_; intro K1 k1
 refine zAssign ⟨?_⟩
 refine k1 _ ?_
 refine zk ⟨?_⟩
 refine v_seqR [2] ?_; intro K2 k2
 refine zMove ⟨?_⟩
 refine zc (l1In_con _ _ _) ⟨?_⟩
 refine zAssign ⟨?_⟩
 refine k2 _ ?_
 refine zk ⟨?_⟩
 refine v_ret ?_
 refine r0 _ ?_
 refine zf ⟨?_⟩
 exact ret_pure rfl (by first | rfl | simp) (.inl rfl)
set_option maxHeartbeats 1000000 in
theorem dbSecond_con (n : Int) : Con Tryd.prog 236 [.int .i64 n] [] (.bool (decide (0 ≤ n) && decide (n ≤ 999999))) [] := by
 refine v_con [.tmp 2] [] Tryd.func236 rfl rfl rfl (by simp [Tryd.ntmps236]) ?_
 intro Q0 n0 r0
 simp only [Tryd.ntmps236, envFrom, Nat.reduceAdd]
 have T := Tys.mk (And.intro Ty.t3 Ty.t4)
 have F := Fc.mk True.intro
 refine v_seqR [0] ?_; intro K1 k1
 refine zAssign ⟨?_⟩
 refine k1 _ ?_
 refine zk ⟨?_⟩
 refine v_seqR [2] ?_; intro K2 k2
 refine zMove ⟨?_⟩
 refine zc (l1In_con _ _ _) ⟨?_⟩
 refine zAssign ⟨?_⟩
 refine k2 _ ?_
 refine zk ⟨?_⟩
 refine v_ret ?_
 refine r0 _ ?_
 refine zf ⟨?_⟩
 exact ret_pure rfl (by first | rfl | simp) (.inl rfl)
set_option maxHeartbeats 1000000 in
theorem dbOne_con (x0 : Int) (x1 : ByteArray) (x2 : Int) (x3 : Int) (hs : x1.size ≤ 9223372036854775807) : Con Tryd.prog 195 [.agg [V.int .i64 x0, V.str x1, V.int .i64 x2, V.int .i64 x3]] [] (.bool (tOne (x0, x1, x2, x3))) [] := by
 refine v_con [.tmp 2] [] Tryd.func195 rfl rfl rfl (by simp [Tryd.ntmps195]) ?_
 intro Q0 n0 r0
 simp only [Tryd.ntmps195, envFrom, Nat.reduceAdd]
 have T := Tys.mk (And.intro Ty.t3 (And.intro Ty.t4 (And.intro Ty.t9 Ty.t115)))
 have F := Fc.mk True.intro
 refine v_seqR [1] ?_; intro K1 k1
 refine zBox ⟨?_⟩
 refine zAssign ⟨?_⟩
 refine k1 _ ?_
 refine zk ⟨?_⟩
 refine v_seqR [2] ?_; intro K2 k2
 refine zFieldAddr ⟨?_⟩
 refine zLoad ⟨?_⟩
 refine zc (dbIncident_con _) ⟨?_⟩
 refine zMove ⟨?_⟩
 refine zgFieldAddr ⟨?_⟩
 refine zgLoad ⟨?_⟩
 refine zgc (apName_con _ hs) ⟨?_⟩
 refine zPick ⟨?_⟩
 refine zMove ⟨?_⟩
 refine zgFieldAddr ⟨?_⟩
 refine zgLoad ⟨?_⟩
 refine zgc (dbSecond_con _) ⟨?_⟩
 refine zPick ⟨?_⟩
 refine zMove ⟨?_⟩
 refine zgFieldAddr ⟨?_⟩
 refine zgLoad ⟨?_⟩
 refine zgFieldAddr ⟨?_⟩
 refine zgLoad ⟨?_⟩
 refine zgc (l1In_con _ _ _) ⟨?_⟩
 refine zPick ⟨?_⟩
 refine zAssign ⟨?_⟩
 refine k2 _ ?_
 refine zk ⟨?_⟩
 refine v_ret ?_
 refine r0 _ ?_
 refine zf ⟨?_⟩
 exact ret_pure rfl (by first | rfl | simp [tOne, Bool.and_assoc]) (.inl rfl)
set_option maxHeartbeats 1000000 in
theorem dbBefore_con (x0 : Int) (x1 : ByteArray) (x2 : Int) (x3 : Int) (y0 : Int) (y1 : ByteArray) (y2 : Int) (y3 : Int) : Con Tryd.prog 196 [.agg [V.int .i64 x0, V.str x1, V.int .i64 x2, V.int .i64 x3], .agg [V.int .i64 y0, V.str y1, V.int .i64 y2, V.int .i64 y3]] [] (.bool (tBefore (x0, x1, x2, x3) (y0, y1, y2, y3))) [] := by
 refine v_con [.tmp 4] [] Tryd.func196 rfl rfl rfl (by simp [Tryd.ntmps196]) ?_
 intro Q0 n0 r0
 simp only [Tryd.ntmps196, envFrom, Nat.reduceAdd]
 have T := Tys.mk (And.intro Ty.t3 (And.intro Ty.t9 Ty.t115))
 have F := Fc.mk True.intro
 refine v_seqR [2,3] ?_; intro K1 k1
 refine zBox ⟨?_⟩
 refine zBox ⟨?_⟩
 refine zAssign ⟨?_⟩
 refine k1 _ ?_
 refine zk ⟨?_⟩
 refine v_seq ?_; intro Q2 n2 e2 r2
 refine v_block ?_; intro Q3 n3 x3 e3 r3
 refine v_seqR [2,3,5] ?_; intro K4 k4
 refine zFieldAddr ⟨?_⟩
 refine zLoad ⟨?_⟩
 refine zFieldAddr ⟨?_⟩
 refine zLoad ⟨?_⟩
 refine zBinOp ⟨?_⟩
 refine zAssign ⟨?_⟩
 refine k4 _ ?_
 refine zk ⟨?_⟩
 refine v_condS _ rfl ?_ ?_
 ·intro hc0
  refine v_seqR [4] ?_; intro K6 k6
  refine zFieldAddr ⟨?_⟩
  refine zLoad ⟨?_⟩
  refine zFieldAddr ⟨?_⟩
  refine zLoad ⟨?_⟩
  refine zBinOp ⟨?_⟩
  refine zAssign ⟨?_⟩
  refine k6 _ ?_
  refine zk ⟨?_⟩
  refine v_ret ?_
  refine r3 _ ?_
  refine r2 _ ?_
  refine r0 _ ?_
  refine zf ⟨?_⟩
  exact ret_pure rfl (by rw [tBefore, if_pos hc0]) (.inl rfl)
 ·intro hc0
  refine v_seqR [2,3,16] ?_; intro K7 k7
  refine zFieldAddr ⟨?_⟩
  refine zLoad ⟨?_⟩
  refine zFieldAddr ⟨?_⟩
  refine zLoad ⟨?_⟩
  refine zBinOp ⟨?_⟩
  refine zAssign ⟨?_⟩
  refine k7 _ ?_
  refine zk ⟨?_⟩
  refine v_condS _ rfl ?_ ?_
  ·intro hc1
   refine v_seqR [4] ?_; intro K9 k9
   refine zFieldAddr ⟨?_⟩
   refine zLoad ⟨?_⟩
   refine zFieldAddr ⟨?_⟩
   refine zLoad ⟨?_⟩
   refine zBinOp ⟨?_⟩
   refine zAssign ⟨?_⟩
   refine k9 _ ?_
   refine zk ⟨?_⟩
   refine v_ret ?_
   refine r3 _ ?_
   refine r2 _ ?_
   refine r0 _ ?_
   refine zf ⟨?_⟩
   exact ret_pure rfl (by rw [tBefore, if_neg (by simp [hc0]), if_pos hc1]) (.inl rfl)
  ·intro hc1
   refine v_skip ?_
   refine n3 _ ?_
   refine n2 _ _ (weak_keep [2, 3] _) ?_
   refine zk ⟨?_⟩
   refine v_seqR [4] ?_; intro K10 k10
   refine zFieldAddr ⟨?_⟩
   refine zLoad ⟨?_⟩
   refine zFieldAddr ⟨?_⟩
   refine zLoad ⟨?_⟩
   refine zBinOp ⟨?_⟩
   refine zAssign ⟨?_⟩
   refine k10 _ ?_
   refine zk ⟨?_⟩
   refine v_ret ?_
   refine r0 _ ?_
   refine zf ⟨?_⟩
   exact ret_pure rfl (by rw [tBefore, if_neg (by simp [hc0]), if_neg (by simp [hc1])]) (.inl rfl)
set_option maxHeartbeats 1000000 in
theorem dbGood_con (l : List (Int × ByteArray × Int × Int)) (hl : l.length ≤ 1048576) (hls : ∀ t ∈ l, t.2.1.size ≤ 9223372036854775807) : Con Tryd.prog 103 [.sl (l.map (fun t : Int × ByteArray × Int × Int => V.agg [V.int .i64 t.1, V.str t.2.1, V.int .i64 t.2.2.1, V.int .i64 t.2.2.2]))] [] (.bool (turnsB l)) [] := by
 refine v_con [.tmp 2] [] Tryd.func103 rfl rfl rfl (by simp [Tryd.ntmps103]) ?_
 intro Q0 n0 r0
 simp only [Tryd.ntmps103, envFrom, Nat.reduceAdd]
 have T := Tys.mk (And.intro Ty.t3 (And.intro Ty.t4 (And.intro Ty.t9 (And.intro Ty.t26 Ty.t115))))
 have F := Fc.mk True.intro
 refine v_seqR [0] ?_; intro K1 k1
 refine zAssign ⟨?_⟩
 refine k1 _ ?_
 refine zk ⟨?_⟩
 refine v_seq ?_; intro Q2 n2 e2 r2
 refine v_seqR [0,5,6,7] ?_; intro K3 k3
 refine zMove ⟨?_⟩
 refine zLen ⟨?_⟩
 refine zMove ⟨?_⟩
 refine k3 _ ?_
 refine zk ⟨?_⟩
 refine v_block ?_; intro Q4 n4 x4 e4 r4
 refine v_loop (fun i => ⟨[(0, .sl (l.map (fun t : Int × ByteArray × Int × Int => V.agg [V.int .i64 t.1, V.str t.2.1, V.int .i64 t.2.2.1, V.int .i64 t.2.2.2]))), (5, .sl (l.map (fun t : Int × ByteArray × Int × Int => V.agg [V.int .i64 t.1, V.str t.2.1, V.int .i64 t.2.2.1, V.int .i64 t.2.2.2]))), (6, .int .i64 l.length), (7, .int .i64 (Nat.cast i))], [], false, 33, 0⟩) (fun i => i ≤ l.length ∧ chainAt tOne tBefore l i = chainAt tOne tBefore l 0) (fun i => l.length - i) 0 ?_ ?_ ?_
 ·refine weak_of [0, 5, 6, 7] ?_
  simp only [keep_mk, keepE_nil, keepE_cons, look_cons, look_nil, Nat.reduceEqDiff, reduceIte]
  rfl
 ·exact ⟨Nat.zero_le _, rfl⟩
 ·rintro i hok5 Q5 n5 e5 r5
  obtain ⟨hi1, hR⟩ := hok5
  refine v_seqR [0,5,6,7,8] ?_; intro K6 k6
  refine zBinOp ⟨?_⟩
  refine k6 _ ?_
  refine zk ⟨?_⟩
  refine v_seq ?_; intro Q7 n7 e7 r7
  refine v_condS _ rfl ?_ ?_
  ·intro hc0
   have hlt : i < l.length := by omega
   obtain ⟨⟨x0, x1, x2, x3⟩, hx⟩ : ∃ x : Int × ByteArray × Int × Int, l[i]? = some x := ⟨l[i]'(by omega), List.getElem?_eq_getElem (by omega)⟩
   have hsx := hls _ (List.mem_of_getElem? hx)
   rcases Nat.eq_zero_or_pos i with h0 | h0
   ·skip
    have hi0 : ¬ ((0 : Int) < (i : Int)) := by omega
    have hst : chainAt tOne tBefore l i = (tOne (x0, x1, x2, x3) && chainAt tOne tBefore l (i + 1)) := by subst h0; exact chain_zero hx
    refine v_skip ?_
    refine n7 _ _ (weak_keep [0, 5, 6, 7] _) ?_
    refine zk ⟨?_⟩
    refine v_seq ?_; intro Q9 n9 e9 r9
    refine v_block ?_; intro Q10 n10 x10 e10 r10
    refine v_seqR [0,3,4,5,6,7] ?_; intro K11 k11
    have F := Fc.mk (And.intro (fun f => getD_map (f := f) hx) (And.intro hi0 (And.intro @decide_false @Bool.and_false)))
    refine zMove ⟨?_⟩
    refine zIndexAddr ⟨?_⟩
    refine zLoad ⟨?_⟩
    refine zAlloc ⟨?_⟩
    refine zAssign ⟨?_⟩
    refine zStore ⟨?_⟩
    refine k11 _ ?_
    refine zk ⟨?_⟩
    refine v_seq ?_; intro Q12 n12 e12 r12
    refine v_draw (by kernel_rfl) ?_; intro K13 q13 k13
    show aAny _ _ _ _ 17 (Array.replicate 17 false) _
    refine zdLoad q13 true 0 12 ?_
    refine zoc 1 (dbOne_con x0 x1 x2 x3 hsx) ⟨?_⟩
    refine zdUnOp q13 true 2 14 ?_
    refine zdMove q13 true 3 15 ?_
    refine zdgMove q13 true 4 16 ?_
    refine zdgBinOp q13 true 5 17 ?_
    refine zdgMove q13 true 6 18 ?_
    refine zdgMove q13 true 7 19 ?_
    refine zdgMove q13 true 8 20 ?_
    refine zdgBinOpW q13 true 9 21 ?_
    refine zdgIndexAddr q13 true 10 22 ?_
    refine zdgLoad q13 true 11 23 ?_
    refine zdgLoad q13 true 12 24 ?_
    first
    |refine zogc 13 (dbBefore_con y0 y1 y2 y3 x0 x1 x2 x3) ⟨?_⟩
    |(refine aAny_pass 13 25 6 true rfl rfl (show 25 < 33 by decide) (by kernel_rfl) rfl ?_ ?_; (focus first | rfl | (simp only [zV, guardV, Nat.reduceEqDiff, reduceIte]; done)); simp only [zW, set_some, Nat.reduceEqDiff, reduceIte])
    refine zdgUnOp q13 true 14 26 ?_
    refine zdgPick q13 true 15 27 ?_
    refine zdPick q13 true 16 28 ?_
    refine aAny_done (by kernel_rfl) ?_
    refine k13 _ ?_
    refine n12 _ _ (weak_keep [0, 5, 6, 7, 28] _) ?_
    refine zk ⟨?_⟩
    refine v_condS _ rfl ?_ ?_
    ·intro hc1
     refine v_seqR [2] ?_; intro K15 k15
     refine zAssign ⟨?_⟩
     refine k15 _ ?_
     refine zk ⟨?_⟩
     refine v_ret ?_
     refine r10 _ ?_
     refine r9 _ ?_
     refine r5 _ ?_
     refine r4 _ ?_
     refine r2 _ ?_
     refine r0 _ ?_
     refine zf ⟨?_⟩
     exact ret_pure rfl (by rw [turnsB, ← hR, hst]; clear hR hst; first | (simp [hone]; done) | (simp [hone, hbf]; done) | (simp [hc1]; done) | (rcases hc1 with h | h <;> simp [h])) (.inl rfl)
    ·intro hc1
     refine v_skip ?_
     refine n10 _ ?_
     refine n9 _ _ (weak_keep [0, 5, 6, 7] _) ?_
     refine zk ⟨?_⟩
     refine v_region ?_; intro K16 k16
     refine zBinOpW ⟨?_⟩
     refine zMove ⟨?_⟩
     refine k16 _ ?_
     refine n5 _ (i + 1) ?_ ?_ ?_
     ·refine weak_bothS [0, 5, 6, 7] [] ⟨?_⟩
      rfl
     ·exact ⟨by omega, by rw [← hR, hst]; clear hR hst; first | (simp [hone]; done) | (simp [hone, hbt]; done) | (simp [hc1]; done) | (simp_all; done)⟩
     ·show _ < _; omega
   ·skip
    obtain ⟨⟨y0, y1, y2, y3⟩, hy⟩ : ∃ x : Int × ByteArray × Int × Int, l[i - 1]? = some x := ⟨l[i - 1]'(by omega), List.getElem?_eq_getElem (by omega)⟩
    have hi0 : (0 : Int) < i := by omega
    have hk : ((i : Int) - 1).toNat = i - 1 := by omega
    have hst := chain_succ (ok := tOne) (bf := tBefore) h0 hy hx
    refine v_skip ?_
    refine n7 _ _ (weak_keep [0, 5, 6, 7] _) ?_
    refine zk ⟨?_⟩
    refine v_seq ?_; intro Q17 n17 e17 r17
    refine v_block ?_; intro Q18 n18 x18 e18 r18
    refine v_seqR [0,3,4,5,6,7] ?_; intro K19 k19
    have F := Fc.mk (And.intro (fun f => getD_map (f := f) hx) (And.intro hi0 (And.intro hk (And.intro (fun f => getD_map (f := f) hy) (And.intro @decide_true @Bool.and_true)))))
    refine zMove ⟨?_⟩
    refine zIndexAddr ⟨?_⟩
    refine zLoad ⟨?_⟩
    refine zAlloc ⟨?_⟩
    refine zAssign ⟨?_⟩
    refine zStore ⟨?_⟩
    refine k19 _ ?_
    refine zk ⟨?_⟩
    refine v_seq ?_; intro Q20 n20 e20 r20
    refine v_draw (by kernel_rfl) ?_; intro K21 q21 k21
    show aAny _ _ _ _ 17 (Array.replicate 17 false) _
    refine zdLoad q21 true 0 12 ?_
    refine zoc 1 (dbOne_con x0 x1 x2 x3 hsx) ⟨?_⟩
    refine zdUnOp q21 true 2 14 ?_
    refine zdMove q21 true 3 15 ?_
    refine zdgMove q21 true 4 16 ?_
    refine zdgBinOp q21 true 5 17 ?_
    refine zdgMove q21 true 6 18 ?_
    refine zdgMove q21 true 7 19 ?_
    refine zdgMove q21 true 8 20 ?_
    refine zdgBinOpW q21 true 9 21 ?_
    refine zdgIndexAddr q21 true 10 22 ?_
    refine zdgLoad q21 true 11 23 ?_
    refine zdgLoad q21 true 12 24 ?_
    first
    |refine zogc 13 (dbBefore_con y0 y1 y2 y3 x0 x1 x2 x3) ⟨?_⟩
    |(refine aAny_pass 13 25 6 true rfl rfl (show 25 < 33 by decide) (by kernel_rfl) rfl ?_ ?_; (focus first | rfl | (simp only [zV, guardV, Nat.reduceEqDiff, reduceIte]; done)); simp only [zW, set_some, Nat.reduceEqDiff, reduceIte])
    refine zdgUnOp q21 true 14 26 ?_
    refine zdgPick q21 true 15 27 ?_
    refine zdPick q21 true 16 28 ?_
    refine aAny_done (by kernel_rfl) ?_
    refine k21 _ ?_
    refine n20 _ _ (weak_keep [0, 5, 6, 7, 28] _) ?_
    refine zk ⟨?_⟩
    refine v_condS _ rfl ?_ ?_
    ·intro hc1
     refine v_seqR [2] ?_; intro K23 k23
     refine zAssign ⟨?_⟩
     refine k23 _ ?_
     refine zk ⟨?_⟩
     refine v_ret ?_
     refine r18 _ ?_
     refine r17 _ ?_
     refine r5 _ ?_
     refine r4 _ ?_
     refine r2 _ ?_
     refine r0 _ ?_
     refine zf ⟨?_⟩
     exact ret_pure rfl (by rw [turnsB, ← hR, hst]; clear hR hst; first | (simp [hone]; done) | (simp [hone, hbf]; done) | (simp [hc1]; done) | (rcases hc1 with h | h <;> simp [h])) (.inl rfl)
    ·intro hc1
     refine v_skip ?_
     refine n18 _ ?_
     refine n17 _ _ (weak_keep [0, 5, 6, 7] _) ?_
     refine zk ⟨?_⟩
     refine v_region ?_; intro K24 k24
     refine zBinOpW ⟨?_⟩
     refine zMove ⟨?_⟩
     refine k24 _ ?_
     refine n5 _ (i + 1) ?_ ?_ ?_
     ·refine weak_bothS [0, 5, 6, 7] [] ⟨?_⟩
      rfl
     ·exact ⟨by omega, by rw [← hR, hst]; clear hR hst; first | (simp [hone]; done) | (simp [hone, hbt]; done) | (simp [hc1]; done) | (simp_all; done)⟩
     ·show _ < _; omega
  ·intro hc0
   refine v_exit ?_
   refine e7 _ _ ?_
   refine e5 _ _ ?_
   refine x4 _ ?_
   refine n2 _ _ (weak_keep [0] _) ?_
   refine zk ⟨?_⟩
   refine v_seqR [2] ?_; intro K25 k25
   refine zMove ⟨?_⟩
   refine zLen ⟨?_⟩
   refine zBinOp ⟨?_⟩
   refine zAssign ⟨?_⟩
   refine k25 _ ?_
   refine zk ⟨?_⟩
   refine v_ret ?_
   refine r0 _ ?_
   refine zf ⟨?_⟩
   exact ret_pure rfl (by rw [turnsB, ← hR, chain_end (by omega)]; simp) (.inl rfl)
set_option maxHeartbeats 1000000 in
theorem areTurnouts_con (l : List (Int × ByteArray × Int × Int)) (hl : l.length ≤ 1048576) (hls : ∀ t ∈ l, t.2.1.size ≤ 9223372036854775807) : Con Tryd.prog 107 [.sl (l.map (fun t : Int × ByteArray × Int × Int => V.agg [V.int .i64 t.1, V.str t.2.1, V.int .i64 t.2.2.1, V.int .i64 t.2.2.2]))] [] (.bool (turnsB l)) [] := by
 refine v_con [.tmp 2] [] Tryd.func107 rfl rfl rfl (by simp [Tryd.ntmps107]) ?_
 intro Q0 n0 r0
 simp only [Tryd.ntmps107, envFrom, Nat.reduceAdd]
 have T := Tys.mk (And.intro Ty.t3 (And.intro Ty.t4 (And.intro Ty.t9 (And.intro Ty.t26 (And.intro Ty.t48 Ty.t115)))))
 have F := Fc.mk True.intro
 refine v_seqR [0] ?_; intro K1 k1
 refine zAssign ⟨?_⟩
 refine k1 _ ?_
 refine zk ⟨?_⟩
 refine v_seq ?_; intro Q2 n2 e2 r2
 refine v_seqR [0,5,6,7] ?_; intro K3 k3
 refine zMove ⟨?_⟩
 refine zLen ⟨?_⟩
 refine zMove ⟨?_⟩
 refine k3 _ ?_
 refine zk ⟨?_⟩
 refine v_block ?_; intro Q4 n4 x4 e4 r4
 refine v_loop (fun i => ⟨[(0, .sl (l.map (fun t : Int × ByteArray × Int × Int => V.agg [V.int .i64 t.1, V.str t.2.1, V.int .i64 t.2.2.1, V.int .i64 t.2.2.2]))), (5, .sl (l.map (fun t : Int × ByteArray × Int × Int => V.agg [V.int .i64 t.1, V.str t.2.1, V.int .i64 t.2.2.1, V.int .i64 t.2.2.2]))), (6, .int .i64 l.length), (7, .int .i64 (Nat.cast i))], [], false, 73, 0⟩) (fun i => i ≤ l.length ∧ chainAt tOne tBefore l i = chainAt tOne tBefore l 0) (fun i => l.length - i) 0 ?_ ?_ ?_
 ·refine weak_of [0, 5, 6, 7] ?_
  simp only [keep_mk, keepE_nil, keepE_cons, look_cons, look_nil, Nat.reduceEqDiff, reduceIte]
  rfl
 ·exact ⟨Nat.zero_le _, rfl⟩
 ·rintro i hok5 Q5 n5 e5 r5
  obtain ⟨hi1, hR⟩ := hok5
  refine v_seqR [0,5,6,7,8] ?_; intro K6 k6
  refine zBinOp ⟨?_⟩
  refine k6 _ ?_
  refine zk ⟨?_⟩
  refine v_seq ?_; intro Q7 n7 e7 r7
  refine v_condS _ rfl ?_ ?_
  ·intro hc0
   have hlt : i < l.length := by omega
   obtain ⟨⟨x0, x1, x2, x3⟩, hx⟩ : ∃ x : Int × ByteArray × Int × Int, l[i]? = some x := ⟨l[i]'(by omega), List.getElem?_eq_getElem (by omega)⟩
   have hsx := hls _ (List.mem_of_getElem? hx)
   rcases Nat.eq_zero_or_pos i with h0 | h0
   ·skip
    have hi0 : ¬ ((0 : Int) < (i : Int)) := by omega
    have hst : chainAt tOne tBefore l i = (tOne (x0, x1, x2, x3) && chainAt tOne tBefore l (i + 1)) := by subst h0; exact chain_zero hx
    refine v_skip ?_
    refine n7 _ _ (weak_keep [0, 5, 6, 7] _) ?_
    refine zk ⟨?_⟩
    refine v_seq ?_; intro Q9 n9 e9 r9
    refine v_block ?_; intro Q10 n10 x10 e10 r10
    refine v_seqR [0,3,4,5,6,7] ?_; intro K11 k11
    have F := Fc.mk (And.intro (fun f => getD_map (f := f) hx) (And.intro hi0 (And.intro @decide_false @Bool.and_false)))
    refine zMove ⟨?_⟩
    refine zIndexAddr ⟨?_⟩
    refine zLoad ⟨?_⟩
    refine zAlloc ⟨?_⟩
    refine zAssign ⟨?_⟩
    refine zStore ⟨?_⟩
    refine k11 _ ?_
    refine zk ⟨?_⟩
    refine v_seq ?_; intro Q12 n12 e12 r12
    refine v_seqR [0,3,4,5,6,7,34] ?_; intro K13 k13
    refine zFieldAddr ⟨?_⟩
    refine zLoad ⟨?_⟩
    refine zc (inside_con _ _ _) ⟨?_⟩
    refine zUnOp ⟨?_⟩
    refine zMove ⟨?_⟩
    refine zgFieldAddr ⟨?_⟩
    refine zgLoad ⟨?_⟩
    refine zgc (isName_con _ hsx) ⟨?_⟩
    refine zgUnOp ⟨?_⟩
    refine zPick ⟨?_⟩
    refine zMove ⟨?_⟩
    refine zgFieldAddr ⟨?_⟩
    refine zgLoad ⟨?_⟩
    refine zgFieldAddr ⟨?_⟩
    refine zgLoad ⟨?_⟩
    refine zgc (inside_con _ _ _) ⟨?_⟩
    refine zgUnOp ⟨?_⟩
    refine zPick ⟨?_⟩
    refine zMove ⟨?_⟩
    refine zgFieldAddr ⟨?_⟩
    refine zgLoad ⟨?_⟩
    refine zgBinOp ⟨?_⟩
    refine zPick ⟨?_⟩
    refine k13 _ ?_
    refine zk ⟨?_⟩
    refine v_condS _ rfl ?_ ?_
    ·intro hc1
     have hone : tOne (x0, x1, x2, x3) = false := by
      cases hq : tOne (x0, x1, x2, x3) with
      |false => rfl
      |true =>
       exfalso
       simp only [tOne, Bool.and_eq_true, decide_eq_true_eq] at hq
       have hnm := hq.1.1.2
       simp [hnm] at hc1
       omega
     refine v_seqR [2] ?_; intro K15 k15
     refine zAssign ⟨?_⟩
     refine k15 _ ?_
     refine zk ⟨?_⟩
     refine v_ret ?_
     refine r12 _ ?_
     refine r10 _ ?_
     refine r9 _ ?_
     refine r5 _ ?_
     refine r4 _ ?_
     refine r2 _ ?_
     refine r0 _ ?_
     refine zf ⟨?_⟩
     exact ret_pure rfl (by rw [turnsB, ← hR, hst]; clear hR hst; first | (simp [hone]; done) | (simp [hone, hbf]; done) | (simp [hc1]; done) | (rcases hc1 with h | h <;> simp [h])) (.inl rfl)
    ·intro hc1
     have hone : tOne (x0, x1, x2, x3) = true := by
      cases hnm : nameB x1 with
      |false => simp [hnm] at hc1
      |true =>
       simp only [hnm] at hc1
       simp only [tOne, Bool.and_eq_true, decide_eq_true_eq, hnm]
       simp at hc1 ⊢
       omega
     refine v_skip ?_
     refine n12 _ _ (weak_keep [0, 3, 4, 5, 6, 7] _) ?_
     refine zk ⟨?_⟩
     refine v_seq ?_; intro Q16 n16 e16 r16
     refine v_draw (by kernel_rfl) ?_; intro K17 q17 k17
     show aAny _ _ _ _ 34 (Array.replicate 34 false) _
     refine zdMove q17 true 0 35 ?_
     refine zdBinOp q17 true 1 36 ?_
     refine zdMove q17 true 2 37 ?_
     refine zdgMove q17 true 3 38 ?_
     refine zdgMove q17 true 4 39 ?_
     refine zdgBinOpW q17 true 5 40 ?_
     refine zdgIndexAddr q17 true 6 41 ?_
     refine zdgFieldAddr q17 true 7 42 ?_
     refine zdgLoad q17 true 8 43 ?_
     refine zdgFieldAddr q17 true 9 44 ?_
     refine zdgLoad q17 true 10 45 ?_
     refine zdgMove q17 true 12 47 ?_
     refine zdgMove q17 true 13 48 ?_
     refine zdgBinOpW q17 true 14 49 ?_
     refine zdgIndexAddr q17 true 15 50 ?_
     refine zdgFieldAddr q17 true 16 51 ?_
     refine zdgLoad q17 true 17 52 ?_
     refine zdgFieldAddr q17 true 18 53 ?_
     refine zdgLoad q17 true 19 54 ?_
     refine zdgMove q17 true 21 56 ?_
     refine zdgMove q17 true 22 57 ?_
     refine zdgBinOpW q17 true 23 58 ?_
     refine zdgIndexAddr q17 true 24 59 ?_
     refine zdgFieldAddr q17 true 25 60 ?_
     refine zdgLoad q17 true 26 61 ?_
     refine zdgFieldAddr q17 true 27 62 ?_
     refine zdgLoad q17 true 28 63 ?_
     first
     |refine zogc 11 (cmpInt_con _ _) ⟨?_⟩
     |(refine aAny_pass 11 46 2 true rfl rfl (show 46 < 73 by decide) (by kernel_rfl) rfl ?_ ?_; (focus first | rfl | (simp only [zV, guardV, Nat.reduceEqDiff, reduceIte]; done)); simp only [zW, set_some, Nat.reduceEqDiff, reduceIte])
     first
     |refine zogc 20 (cmpInt_con _ _) ⟨?_⟩
     |(refine aAny_pass 20 55 2 true rfl rfl (show 55 < 73 by decide) (by kernel_rfl) rfl ?_ ?_; (focus first | rfl | (simp only [zV, guardV, Nat.reduceEqDiff, reduceIte]; done)); simp only [zW, set_some, Nat.reduceEqDiff, reduceIte])
     first
     |refine zogc 29 (cmpStr_con _ _) ⟨?_⟩
     |(refine aAny_pass 29 64 2 true rfl rfl (show 64 < 73 by decide) (by kernel_rfl) rfl ?_ ?_; (focus first | rfl | (simp only [zV, guardV, Nat.reduceEqDiff, reduceIte]; done)); simp only [zW, set_some, Nat.reduceEqDiff, reduceIte])
     first
     |(refine aAny_pass 30 65 2 true rfl rfl (show 65 < 73 by decide) (by kernel_rfl) rfl ?_ ?_; (focus first | rfl | (simp only [zV, guardV, Nat.reduceEqDiff, reduceIte]; done)); simp only [zW, set_some, Nat.reduceEqDiff, reduceIte])
     |skip
      refine aAny_only 30 rfl (by kernel_rfl) ?_; intro K k
      simp only [zE, zO, zV, zN, aStepM, optable, set_some, Nat.reduceEqDiff, reduceIte, Nat.reduceLT, implies_true, forall_const, reduceCtorEq, V.ofValue, V.ofScalar, V.un, V.gd, guardV, V.wrap, aExec, aop, litElems, rng0, rng1, rng2, rng3, rng4, List.map_cons, List.map_nil, List.all_cons, List.all_nil, V.isVal, V.cells, content, kindAll, V.noRef, V.noSl, List.mem_cons, List.not_mem_nil, or_false, forall_eq_or_imp, forall_eq, if_true, Option.isSome_some, List.length_cons, List.length_nil, Nat.reduceAdd, Nat.reduceLeDiff, Nat.reduceMul, Tryd.underlying3, Ty.c3, Ty.a3, Ty.z3, Tryd.underlying48, Ty.c48, Ty.a48, Ty.z48, getD_map hx, hi0]
      repeat (refine And.intro (by first | omega | (intros; omega) | (intros; simp_all; done) | (intros; simp_all; omega)) ?_)
      refine k _ ?_; clear k K
     first
     |refine zogc 31 (cmpOr_con [cmpI y2 x2, cmpI y0 x0, cmpS y1 x1] (by simp)) ⟨?_⟩
     |(refine aAny_pass 31 66 2 true rfl rfl (show 66 < 73 by decide) (by kernel_rfl) rfl ?_ ?_; (focus first | rfl | (simp only [zV, guardV, Nat.reduceEqDiff, reduceIte]; done)); simp only [zW, set_some, Nat.reduceEqDiff, reduceIte])
     refine zdgBinOp q17 true 32 67 ?_
     refine zdPick q17 true 33 68 ?_
     refine aAny_done (by kernel_rfl) ?_
     refine k17 _ ?_
     refine n16 _ _ (weak_keep [0, 5, 6, 7, 68] _) ?_
     refine zk ⟨?_⟩
     refine v_cond _ rfl ?_ ?_
     ·intro hc2
      exfalso; simp at hc2
     ·intro hc2
      try simp only [zC, reduceCtorEq] at hc2
      first | have hbt : tBefore (y0, y1, y2, y3) (x0, x1, x2, x3) = true := (by cases hq : tBefore (y0, y1, y2, y3) (x0, x1, x2, x3) with | true => rfl | false => (have hq2 := (cmp_before (y0, y1, y2, y3) (x0, x1, x2, x3)).2 hq; simp only [] at hq2; omega)) | skip
      refine v_skip ?_
      refine n10 _ ?_
      refine n9 _ _ (weak_keep [0, 5, 6, 7] _) ?_
      refine zk ⟨?_⟩
      refine v_region ?_; intro K19 k19
      refine zBinOpW ⟨?_⟩
      refine zMove ⟨?_⟩
      refine k19 _ ?_
      refine n5 _ (i + 1) ?_ ?_ ?_
      ·refine weak_bothS [0, 5, 6, 7] [] ⟨?_⟩
       rfl
      ·exact ⟨by omega, by rw [← hR, hst]; clear hR hst; first | (simp [hone]; done) | (simp [hone, hbt]; done) | (simp [hc1]; done) | (simp_all; done)⟩
      ·show _ < _; omega
   ·skip
    obtain ⟨⟨y0, y1, y2, y3⟩, hy⟩ : ∃ x : Int × ByteArray × Int × Int, l[i - 1]? = some x := ⟨l[i - 1]'(by omega), List.getElem?_eq_getElem (by omega)⟩
    have hi0 : (0 : Int) < i := by omega
    have hk : ((i : Int) - 1).toNat = i - 1 := by omega
    have hst := chain_succ (ok := tOne) (bf := tBefore) h0 hy hx
    refine v_skip ?_
    refine n7 _ _ (weak_keep [0, 5, 6, 7] _) ?_
    refine zk ⟨?_⟩
    refine v_seq ?_; intro Q20 n20 e20 r20
    refine v_block ?_; intro Q21 n21 x21 e21 r21
    refine v_seqR [0,3,4,5,6,7] ?_; intro K22 k22
    have F := Fc.mk (And.intro (fun f => getD_map (f := f) hx) (And.intro hi0 (And.intro hk (And.intro (fun f => getD_map (f := f) hy) (And.intro @decide_true @Bool.and_true)))))
    refine zMove ⟨?_⟩
    refine zIndexAddr ⟨?_⟩
    refine zLoad ⟨?_⟩
    refine zAlloc ⟨?_⟩
    refine zAssign ⟨?_⟩
    refine zStore ⟨?_⟩
    refine k22 _ ?_
    refine zk ⟨?_⟩
    refine v_seq ?_; intro Q23 n23 e23 r23
    refine v_seqR [0,3,4,5,6,7,34] ?_; intro K24 k24
    refine zFieldAddr ⟨?_⟩
    refine zLoad ⟨?_⟩
    refine zc (inside_con _ _ _) ⟨?_⟩
    refine zUnOp ⟨?_⟩
    refine zMove ⟨?_⟩
    refine zgFieldAddr ⟨?_⟩
    refine zgLoad ⟨?_⟩
    refine zgc (isName_con _ hsx) ⟨?_⟩
    refine zgUnOp ⟨?_⟩
    refine zPick ⟨?_⟩
    refine zMove ⟨?_⟩
    refine zgFieldAddr ⟨?_⟩
    refine zgLoad ⟨?_⟩
    refine zgFieldAddr ⟨?_⟩
    refine zgLoad ⟨?_⟩
    refine zgc (inside_con _ _ _) ⟨?_⟩
    refine zgUnOp ⟨?_⟩
    refine zPick ⟨?_⟩
    refine zMove ⟨?_⟩
    refine zgFieldAddr ⟨?_⟩
    refine zgLoad ⟨?_⟩
    refine zgBinOp ⟨?_⟩
    refine zPick ⟨?_⟩
    refine k24 _ ?_
    refine zk ⟨?_⟩
    refine v_condS _ rfl ?_ ?_
    ·intro hc1
     have hone : tOne (x0, x1, x2, x3) = false := by
      cases hq : tOne (x0, x1, x2, x3) with
      |false => rfl
      |true =>
       exfalso
       simp only [tOne, Bool.and_eq_true, decide_eq_true_eq] at hq
       have hnm := hq.1.1.2
       simp [hnm] at hc1
       omega
     refine v_seqR [2] ?_; intro K26 k26
     refine zAssign ⟨?_⟩
     refine k26 _ ?_
     refine zk ⟨?_⟩
     refine v_ret ?_
     refine r23 _ ?_
     refine r21 _ ?_
     refine r20 _ ?_
     refine r5 _ ?_
     refine r4 _ ?_
     refine r2 _ ?_
     refine r0 _ ?_
     refine zf ⟨?_⟩
     exact ret_pure rfl (by rw [turnsB, ← hR, hst]; clear hR hst; first | (simp [hone]; done) | (simp [hone, hbf]; done) | (simp [hc1]; done) | (rcases hc1 with h | h <;> simp [h])) (.inl rfl)
    ·intro hc1
     have hone : tOne (x0, x1, x2, x3) = true := by
      cases hnm : nameB x1 with
      |false => simp [hnm] at hc1
      |true =>
       simp only [hnm] at hc1
       simp only [tOne, Bool.and_eq_true, decide_eq_true_eq, hnm]
       simp at hc1 ⊢
       omega
     refine v_skip ?_
     refine n23 _ _ (weak_keep [0, 3, 4, 5, 6, 7] _) ?_
     refine zk ⟨?_⟩
     refine v_seq ?_; intro Q27 n27 e27 r27
     refine v_draw (by kernel_rfl) ?_; intro K28 q28 k28
     show aAny _ _ _ _ 34 (Array.replicate 34 false) _
     refine zdMove q28 true 0 35 ?_
     refine zdBinOp q28 true 1 36 ?_
     refine zdMove q28 true 2 37 ?_
     refine zdgMove q28 true 3 38 ?_
     refine zdgMove q28 true 4 39 ?_
     refine zdgBinOpW q28 true 5 40 ?_
     refine zdgIndexAddr q28 true 6 41 ?_
     refine zdgFieldAddr q28 true 7 42 ?_
     refine zdgLoad q28 true 8 43 ?_
     refine zdgFieldAddr q28 true 9 44 ?_
     refine zdgLoad q28 true 10 45 ?_
     refine zdgMove q28 true 12 47 ?_
     refine zdgMove q28 true 13 48 ?_
     refine zdgBinOpW q28 true 14 49 ?_
     refine zdgIndexAddr q28 true 15 50 ?_
     refine zdgFieldAddr q28 true 16 51 ?_
     refine zdgLoad q28 true 17 52 ?_
     refine zdgFieldAddr q28 true 18 53 ?_
     refine zdgLoad q28 true 19 54 ?_
     refine zdgMove q28 true 21 56 ?_
     refine zdgMove q28 true 22 57 ?_
     refine zdgBinOpW q28 true 23 58 ?_
     refine zdgIndexAddr q28 true 24 59 ?_
     refine zdgFieldAddr q28 true 25 60 ?_
     refine zdgLoad q28 true 26 61 ?_
     refine zdgFieldAddr q28 true 27 62 ?_
     refine zdgLoad q28 true 28 63 ?_
     first
     |refine zogc 11 (cmpInt_con _ _) ⟨?_⟩
     |(refine aAny_pass 11 46 2 true rfl rfl (show 46 < 73 by decide) (by kernel_rfl) rfl ?_ ?_; (focus first | rfl | (simp only [zV, guardV, Nat.reduceEqDiff, reduceIte]; done)); simp only [zW, set_some, Nat.reduceEqDiff, reduceIte])
     first
     |refine zogc 20 (cmpInt_con _ _) ⟨?_⟩
     |(refine aAny_pass 20 55 2 true rfl rfl (show 55 < 73 by decide) (by kernel_rfl) rfl ?_ ?_; (focus first | rfl | (simp only [zV, guardV, Nat.reduceEqDiff, reduceIte]; done)); simp only [zW, set_some, Nat.reduceEqDiff, reduceIte])
     first
     |refine zogc 29 (cmpStr_con _ _) ⟨?_⟩
     |(refine aAny_pass 29 64 2 true rfl rfl (show 64 < 73 by decide) (by kernel_rfl) rfl ?_ ?_; (focus first | rfl | (simp only [zV, guardV, Nat.reduceEqDiff, reduceIte]; done)); simp only [zW, set_some, Nat.reduceEqDiff, reduceIte])
     first
     |(refine aAny_pass 30 65 2 true rfl rfl (show 65 < 73 by decide) (by kernel_rfl) rfl ?_ ?_; (focus first | rfl | (simp only [zV, guardV, Nat.reduceEqDiff, reduceIte]; done)); simp only [zW, set_some, Nat.reduceEqDiff, reduceIte])
     |skip
      refine aAny_only 30 rfl (by kernel_rfl) ?_; intro K k
      simp only [zE, zO, zV, zN, aStepM, optable, set_some, Nat.reduceEqDiff, reduceIte, Nat.reduceLT, implies_true, forall_const, reduceCtorEq, V.ofValue, V.ofScalar, V.un, V.gd, guardV, V.wrap, aExec, aop, litElems, rng0, rng1, rng2, rng3, rng4, List.map_cons, List.map_nil, List.all_cons, List.all_nil, V.isVal, V.cells, content, kindAll, V.noRef, V.noSl, List.mem_cons, List.not_mem_nil, or_false, forall_eq_or_imp, forall_eq, if_true, Option.isSome_some, List.length_cons, List.length_nil, Nat.reduceAdd, Nat.reduceLeDiff, Nat.reduceMul, Tryd.underlying3, Ty.c3, Ty.a3, Ty.z3, Tryd.underlying48, Ty.c48, Ty.a48, Ty.z48, getD_map hx, hi0, hk, getD_map hy]
      repeat (refine And.intro (by first | omega | (intros; omega) | (intros; simp_all; done) | (intros; simp_all; omega)) ?_)
      refine k _ ?_; clear k K
     first
     |refine zogc 31 (cmpOr_con [cmpI y2 x2, cmpI y0 x0, cmpS y1 x1] (by simp)) ⟨?_⟩
     |(refine aAny_pass 31 66 2 true rfl rfl (show 66 < 73 by decide) (by kernel_rfl) rfl ?_ ?_; (focus first | rfl | (simp only [zV, guardV, Nat.reduceEqDiff, reduceIte]; done)); simp only [zW, set_some, Nat.reduceEqDiff, reduceIte])
     refine zdgBinOp q28 true 32 67 ?_
     refine zdPick q28 true 33 68 ?_
     refine aAny_done (by kernel_rfl) ?_
     refine k28 _ ?_
     refine n27 _ _ (weak_keep [0, 5, 6, 7, 68] _) ?_
     refine zk ⟨?_⟩
     refine v_condS _ rfl ?_ ?_
     ·intro hc2
      have hbf := (cmp_before (y0, y1, y2, y3) (x0, x1, x2, x3)).1 hc2
      refine v_seqR [2] ?_; intro K30 k30
      refine zAssign ⟨?_⟩
      refine k30 _ ?_
      refine zk ⟨?_⟩
      refine v_ret ?_
      refine r21 _ ?_
      refine r20 _ ?_
      refine r5 _ ?_
      refine r4 _ ?_
      refine r2 _ ?_
      refine r0 _ ?_
      refine zf ⟨?_⟩
      exact ret_pure rfl (by rw [turnsB, ← hR, hst]; clear hR hst; first | (simp [hone]; done) | (simp [hone, hbf]; done) | (simp [hc1]; done) | (rcases hc1 with h | h <;> simp [h])) (.inl rfl)
     ·intro hc2
      first | have hbt : tBefore (y0, y1, y2, y3) (x0, x1, x2, x3) = true := (by cases hq : tBefore (y0, y1, y2, y3) (x0, x1, x2, x3) with | true => rfl | false => (have hq2 := (cmp_before (y0, y1, y2, y3) (x0, x1, x2, x3)).2 hq; simp only [] at hq2; omega)) | skip
      refine v_skip ?_
      refine n21 _ ?_
      refine n20 _ _ (weak_keep [0, 5, 6, 7] _) ?_
      refine zk ⟨?_⟩
      refine v_region ?_; intro K31 k31
      refine zBinOpW ⟨?_⟩
      refine zMove ⟨?_⟩
      refine k31 _ ?_
      refine n5 _ (i + 1) ?_ ?_ ?_
      ·refine weak_bothS [0, 5, 6, 7] [] ⟨?_⟩
       rfl
      ·exact ⟨by omega, by rw [← hR, hst]; clear hR hst; first | (simp [hone]; done) | (simp [hone, hbt]; done) | (simp [hc1]; done) | (simp_all; done)⟩
      ·show _ < _; omega
  ·intro hc0
   refine v_exit ?_
   refine e7 _ _ ?_
   refine e5 _ _ ?_
   refine x4 _ ?_
   refine n2 _ _ (weak_keep [0] _) ?_
   refine zk ⟨?_⟩
   refine v_seqR [2] ?_; intro K32 k32
   refine zMove ⟨?_⟩
   refine zLen ⟨?_⟩
   refine zBinOp ⟨?_⟩
   refine zAssign ⟨?_⟩
   refine k32 _ ?_
   refine zk ⟨?_⟩
   refine v_ret ?_
   refine r0 _ ?_
   refine zf ⟨?_⟩
   exact ret_pure rfl (by rw [turnsB, ← hR, chain_end (by omega)]; simp) (.inl rfl)
def tTime (x : (Int × ByteArray × Int × Int)) : Int := IntKind.i64.wrap (x.2.2.2 - x.2.2.1)
def lateFrom (lim : Int) : Nat → List (Int × ByteArray × Int × Int) → List Int
  | _, [] => []
  | i, x :: l => if lim < tTime x then (i : Int) :: lateFrom lim (i + 1) l else lateFrom lim (i + 1) l
theorem late_step {lim : Int} {l : List (Int × ByteArray × Int × Int)} {i : Nat} {x : (Int × ByteArray × Int × Int)} (h : l[i]? = some x) : lateFrom lim i (l.drop i) = if lim < tTime x then (i : Int) :: lateFrom lim (i + 1) (l.drop (i + 1)) else lateFrom lim (i + 1) (l.drop (i + 1)) := by
  rw [getElem_drop_cons h, lateFrom]
theorem late_end {lim : Int} {l : List (Int × ByteArray × Int × Int)} {i k : Nat} (h : l.length ≤ i) : lateFrom lim k (l.drop i) = [] := by
  rw [List.drop_of_length_le h, lateFrom]
theorem late_len (lim : Int) : ∀ (l : List (Int × ByteArray × Int × Int)) (i : Nat), (lateFrom lim i l).length ≤ l.length
  | [], _ => Nat.le_refl _
  | x :: l, i => by
    have := late_len lim l (i + 1)
    rw [lateFrom]
    split <;> simp <;> omega
def cntLe (lim : Int) (l : List Int) : Nat := l.countP fun t => decide (t ≤ lim)
theorem cnt_step {lim : Int} {l : List Int} {i : Nat} {x : Int} (h : l[i]? = some x) : cntLe lim (l.drop i) = cntLe lim (l.drop (i + 1)) + (if x ≤ lim then 1 else 0) := by
  rw [getElem_drop_cons h, cntLe, List.countP_cons]; simp [cntLe]
theorem cnt_end {lim : Int} {l : List Int} {i : Nat} (h : l.length ≤ i) : cntLe lim (l.drop i) = 0 := by
  rw [List.drop_of_length_le h]; rfl
theorem cnt_late (lim : Int) : ∀ (l : List (Int × ByteArray × Int × Int)) (i : Nat), cntLe lim (l.map tTime) + (lateFrom lim i l).length = l.length
  | [], _ => rfl
  | x :: l, i => by
    have := cnt_late lim l (i + 1)
    rw [lateFrom, List.map_cons, cntLe, List.countP_cons]
    by_cases h : tTime x ≤ lim
    · have h2 : ¬ lim < tTime x := by omega
      simp only [h2, if_false, h, decide_true, if_true, List.length_cons]; simp only [cntLe] at this; omega
    · have h2 : lim < tTime x := by omega
      simp only [h2, if_true, h, decide_false, Bool.false_eq_true, if_false, List.length_cons]; simp only [cntLe] at this; omega
def sumW (l : List Int) (a : Int) : Int := l.foldl (fun a t => IntKind.i64.wrap (a + t)) a
theorem sum_step {l : List Int} {i : Nat} {x : Int} (h : l[i]? = some x) (a : Int) : sumW (l.drop i) a = sumW (l.drop (i + 1)) (IntKind.i64.wrap (a + x)) := foldl_drop h a
theorem sum_end {l : List Int} {i : Nat} (h : l.length ≤ i) (a : Int) : sumW (l.drop i) a = a := foldl_end h a
theorem map_at {α β : Type} {f : α → β} {l : List α} {i : Nat} {x : α} (h : l[i]? = some x) : (l.map f)[i]? = some (f x) := by rw [List.getElem?_map, h]; rfl
theorem snoc_map {α : Type} {f : α → V} {l : List α} {x : α} : l.map f ++ [f x] = (l ++ [x]).map f := by rw [List.map_append]; rfl

set_option maxHeartbeats 1000000 in
theorem dbTime_con (x0 : Int) (x1 : ByteArray) (x2 : Int) (x3 : Int) : Con Tryd.prog 105 [.agg [V.int .i64 x0, V.str x1, V.int .i64 x2, V.int .i64 x3]] [] (.int .i64 (IntKind.i64.wrap (x3 - x2))) [] := by
 refine v_con [.tmp 2] [] Tryd.func105 rfl rfl rfl (by simp [Tryd.ntmps105]) ?_
 intro Q0 n0 r0
 simp only [Tryd.ntmps105, envFrom, Nat.reduceAdd]
 have T := Tys.mk (And.intro Ty.t3 (And.intro Ty.t9 Ty.t115))
 have F := Fc.mk True.intro
 refine v_seqR [1] ?_; intro K1 k1
 refine zBox ⟨?_⟩
 refine zAssign ⟨?_⟩
 refine k1 _ ?_
 refine zk ⟨?_⟩
 refine v_seqR [2] ?_; intro K2 k2
 refine zFieldAddr ⟨?_⟩
 refine zLoad ⟨?_⟩
 refine zFieldAddr ⟨?_⟩
 refine zLoad ⟨?_⟩
 refine zBinOpW ⟨?_⟩
 refine zAssign ⟨?_⟩
 refine k2 _ ?_
 refine zk ⟨?_⟩
 refine v_ret ?_
 refine r0 _ ?_
 refine zf ⟨?_⟩
 exact ret_pure rfl (by first | rfl | simp) (.inl rfl)
end Go.Proofs.YtmlicajgbgjphaaDoor
