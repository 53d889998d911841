/- What functions compute. No condition. -/
import Derived.Test.YtdgenniiidgimaaGreatUty
import Derived.Test.YtdgenniiidgimaaGreatUmG
import Derived.Test.YtdgenniiidgimaaGreatX1
import Derived.Test.YtdgenniiidgimaaGreatX3
import Derived.Test.YtdgenniiidgimaaGreatX4
set_option linter.unusedSimpArgs false
set_option linter.unusedVariables false
set_option linter.defProp false
namespace Go.Proofs.YtdgenniiidgimaaGreat
open Go Go.Vm

def apOK (x : (ByteArray × Int × Int × Int × Int)) : Bool := nameB x.1 && (decide (0 ≤ x.2.1) && decide (x.2.1 ≤ 3)) && (decide (0 ≤ x.2.2.1) && decide (x.2.2.1 ≤ 13)) && (decide (1 ≤ x.2.2.2.1) && decide (x.2.2.2.1 ≤ 9)) && (decide (0 ≤ x.2.2.2.2) && decide (x.2.2.2.2 ≤ 5))
def apBf (x y : (ByteArray × Int × Int × Int × Int)) : Bool := strLt x.1 y.1
def fleetB (l : List (ByteArray × Int × Int × Int × Int)) : Bool := chainAt apOK apBf l 0 && decide ((l.length : Int) ≤ 12)
theorem fleet_len {l : List (ByteArray × Int × Int × Int × Int)} (h : fleetB l = true) : l.length ≤ 12 := by
  simp only [fleetB, Bool.and_eq_true, decide_eq_true_eq] at h
  omega

set_option maxHeartbeats 1000000 in
theorem apState_con (n : Int) : Con Tryz.prog 130 [.int .i64 n] [] (.bool (decide (0 ≤ n) && decide (n ≤ 5))) [] := by
 refine v_con [.tmp 2] [] Tryz.func130 rfl rfl rfl (by simp [Tryz.ntmps130]) ?_
 intro Q0 n0 r0
 simp only [Tryz.ntmps130, envFrom, Nat.reduceAdd]
 have T := Tys.mk (And.intro Ty.t3 Ty.t4)
 have F := Fc.mk True.intro
 refine v_seqR [0] ?_; intro K1 k1
 refine zAssign ⟨?_⟩
 refine k1 _ ?_
 refine zk ⟨?_⟩
 refine v_seqR [2] ?_; intro K2 k2
 refine zMove ⟨?_⟩
 refine zc (l1In_con _ _ _) ⟨?_⟩
 refine zAssign ⟨?_⟩
 refine k2 _ ?_
 refine zk ⟨?_⟩
 refine v_ret ?_
 refine r0 _ ?_
 refine zf ⟨?_⟩
 exact ret_pure rfl (by first | rfl | simp) (.inl rfl)
set_option maxHeartbeats 1000000 in
theorem isState_con (n : Int) : Con Tryz.prog 131 [.int .i64 n] [] (.bool (decide (0 ≤ n) && decide (n ≤ 5))) [] := by
 refine v_con [.tmp 2] [] Tryz.func131 rfl rfl rfl (by simp [Tryz.ntmps131]) ?_
 intro Q0 n0 r0
 simp only [Tryz.ntmps131, envFrom, Nat.reduceAdd]
 have T := Tys.mk (And.intro Ty.t3 Ty.t4)
 have F := Fc.mk True.intro
 refine v_seqR [0] ?_; intro K1 k1
 refine zAssign ⟨?_⟩
 refine k1 _ ?_
 refine zk ⟨?_⟩
 refine v_seqR [2] ?_; intro K2 k2
 refine zMove ⟨?_⟩
 refine zc (inside_con _ _ _) ⟨?_⟩
 refine zAssign ⟨?_⟩
 refine k2 _ ?_
 refine zk ⟨?_⟩
 refine v_ret ?_
 refine r0 _ ?_
 refine zf ⟨?_⟩
 exact ret_pure rfl (by first | rfl | simp) (.inl rfl)
set_option maxHeartbeats 1000000 in
theorem apNode_con (n : Int) : Con Tryz.prog 121 [.int .i64 n] [] (.bool (decide (0 ≤ n) && decide (n ≤ 13))) [] := by
 refine v_con [.tmp 2] [] Tryz.func121 rfl rfl rfl (by simp [Tryz.ntmps121]) ?_
 intro Q0 n0 r0
 simp only [Tryz.ntmps121, envFrom, Nat.reduceAdd]
 have T := Tys.mk (And.intro Ty.t3 Ty.t4)
 have F := Fc.mk True.intro
 refine v_seqR [0] ?_; intro K1 k1
 refine zAssign ⟨?_⟩
 refine k1 _ ?_
 refine zk ⟨?_⟩
 refine v_seqR [2] ?_; intro K2 k2
 refine zMove ⟨?_⟩
 refine zc (l1In_con _ _ _) ⟨?_⟩
 refine zAssign ⟨?_⟩
 refine k2 _ ?_
 refine zk ⟨?_⟩
 refine v_ret ?_
 refine r0 _ ?_
 refine zf ⟨?_⟩
 exact ret_pure rfl (by first | rfl | simp) (.inl rfl)
set_option maxHeartbeats 1000000 in
theorem apGood_con (x0 : ByteArray) (x1 : Int) (x2 : Int) (x3 : Int) (x4 : Int) (hs : x0.size ≤ 9223372036854775807) : Con Tryz.prog 120 [.agg [V.str x0, V.int .i64 x1, V.int .i64 x2, V.int .i64 x3, V.int .i64 x4]] [] (.bool (apOK (x0, x1, x2, x3, x4))) [] := by
 refine v_con [.tmp 2] [] Tryz.func120 rfl rfl rfl (by simp [Tryz.ntmps120]) ?_
 intro Q0 n0 r0
 simp only [Tryz.ntmps120, envFrom, Nat.reduceAdd]
 have T := Tys.mk (And.intro Ty.t3 (And.intro Ty.t4 (And.intro Ty.t9 Ty.t71)))
 have F := Fc.mk True.intro
 refine v_seqR [1] ?_; intro K1 k1
 refine zBox ⟨?_⟩
 refine zAssign ⟨?_⟩
 refine k1 _ ?_
 refine zk ⟨?_⟩
 refine v_seqR [2] ?_; intro K2 k2
 refine zFieldAddr ⟨?_⟩
 refine zLoad ⟨?_⟩
 refine zc (apName_con _ hs) ⟨?_⟩
 refine zMove ⟨?_⟩
 refine zgFieldAddr ⟨?_⟩
 refine zgLoad ⟨?_⟩
 refine zgc (l1In_con _ _ _) ⟨?_⟩
 refine zPick ⟨?_⟩
 refine zMove ⟨?_⟩
 refine zgFieldAddr ⟨?_⟩
 refine zgLoad ⟨?_⟩
 refine zgc (apNode_con _) ⟨?_⟩
 refine zPick ⟨?_⟩
 refine zMove ⟨?_⟩
 refine zgFieldAddr ⟨?_⟩
 refine zgLoad ⟨?_⟩
 refine zgc (l1In_con _ _ _) ⟨?_⟩
 refine zPick ⟨?_⟩
 refine zMove ⟨?_⟩
 refine zgFieldAddr ⟨?_⟩
 refine zgLoad ⟨?_⟩
 refine zgc (apState_con _) ⟨?_⟩
 refine zPick ⟨?_⟩
 refine zAssign ⟨?_⟩
 refine k2 _ ?_
 refine zk ⟨?_⟩
 refine v_ret ?_
 refine r0 _ ?_
 refine zf ⟨?_⟩
 exact ret_pure rfl (by first | rfl | simp [apOK, Bool.and_assoc]) (.inl rfl)
set_option maxHeartbeats 1000000 in
theorem isAppliance_con (x0 : ByteArray) (x1 : Int) (x2 : Int) (x3 : Int) (x4 : Int) (hs : x0.size ≤ 9223372036854775807) : Con Tryz.prog 125 [.agg [V.str x0, V.int .i64 x1, V.int .i64 x2, V.int .i64 x3, V.int .i64 x4]] [] (.bool (apOK (x0, x1, x2, x3, x4))) [] := by
 refine v_con [.tmp 2] [] Tryz.func125 rfl rfl rfl (by simp [Tryz.ntmps125]) ?_
 intro Q0 n0 r0
 simp only [Tryz.ntmps125, envFrom, Nat.reduceAdd]
 have T := Tys.mk (And.intro Ty.t3 (And.intro Ty.t4 (And.intro Ty.t9 Ty.t71)))
 have F := Fc.mk True.intro
 refine v_seqR [1] ?_; intro K1 k1
 refine zBox ⟨?_⟩
 refine zAssign ⟨?_⟩
 refine k1 _ ?_
 refine zk ⟨?_⟩
 refine v_seqR [2] ?_; intro K2 k2
 refine zFieldAddr ⟨?_⟩
 refine zLoad ⟨?_⟩
 refine zc (isName_con _ hs) ⟨?_⟩
 refine zMove ⟨?_⟩
 refine zgFieldAddr ⟨?_⟩
 refine zgLoad ⟨?_⟩
 refine zgc (inside_con _ _ _) ⟨?_⟩
 refine zPick ⟨?_⟩
 refine zMove ⟨?_⟩
 refine zgFieldAddr ⟨?_⟩
 refine zgLoad ⟨?_⟩
 refine zgc (inside_con _ _ _) ⟨?_⟩
 refine zPick ⟨?_⟩
 refine zMove ⟨?_⟩
 refine zgFieldAddr ⟨?_⟩
 refine zgLoad ⟨?_⟩
 refine zgc (inside_con _ _ _) ⟨?_⟩
 refine zPick ⟨?_⟩
 refine zMove ⟨?_⟩
 refine zgFieldAddr ⟨?_⟩
 refine zgLoad ⟨?_⟩
 refine zgc (isState_con _) ⟨?_⟩
 refine zPick ⟨?_⟩
 refine zAssign ⟨?_⟩
 refine k2 _ ?_
 refine zk ⟨?_⟩
 refine v_ret ?_
 refine r0 _ ?_
 refine zf ⟨?_⟩
 exact ret_pure rfl (by first | rfl | simp [apOK, Bool.and_assoc]) (.inl rfl)
set_option maxHeartbeats 1000000 in
theorem apFleet_con (fl : List (ByteArray × Int × Int × Int × Int)) (hl : fl.length ≤ 1048576) (hls : ∀ t ∈ fl, t.1.size ≤ 9223372036854775807) : Con Tryz.prog 97 [.sl (fl.map (fun t : ByteArray × Int × Int × Int × Int => V.agg [V.str t.1, V.int .i64 t.2.1, V.int .i64 t.2.2.1, V.int .i64 t.2.2.2.1, V.int .i64 t.2.2.2.2]))] [] (.bool (fleetB fl)) [] := by
 refine v_con [.tmp 2] [] Tryz.func97 rfl rfl rfl (by simp [Tryz.ntmps97]) ?_
 intro Q0 n0 r0
 simp only [Tryz.ntmps97, envFrom, Nat.reduceAdd]
 have T := Tys.mk (And.intro Ty.t3 (And.intro Ty.t4 (And.intro Ty.t9 (And.intro Ty.t39 Ty.t71))))
 have F := Fc.mk True.intro
 refine v_seqR [0] ?_; intro K1 k1
 refine zAssign ⟨?_⟩
 refine k1 _ ?_
 refine zk ⟨?_⟩
 refine v_seq ?_; intro Q2 n2 e2 r2
 refine v_seqR [0,5,6,7] ?_; intro K3 k3
 refine zMove ⟨?_⟩
 refine zLen ⟨?_⟩
 refine zMove ⟨?_⟩
 refine k3 _ ?_
 refine zk ⟨?_⟩
 refine v_block ?_; intro Q4 n4 x4 e4 r4
 refine v_loop (fun i => ⟨[(0, .sl (fl.map (fun t : ByteArray × Int × Int × Int × Int => V.agg [V.str t.1, V.int .i64 t.2.1, V.int .i64 t.2.2.1, V.int .i64 t.2.2.2.1, V.int .i64 t.2.2.2.2]))), (5, .sl (fl.map (fun t : ByteArray × Int × Int × Int × Int => V.agg [V.str t.1, V.int .i64 t.2.1, V.int .i64 t.2.2.1, V.int .i64 t.2.2.2.1, V.int .i64 t.2.2.2.2]))), (6, .int .i64 fl.length), (7, .int .i64 (Nat.cast i))], [], false, 34, 0⟩) (fun i => i ≤ fl.length ∧ chainAt apOK apBf fl i = chainAt apOK apBf fl 0) (fun i => fl.length - i) 0 ?_ ?_ ?_
 ·refine weak_of [0, 5, 6, 7] ?_
  simp only [keep_mk, keepE_nil, keepE_cons, look_cons, look_nil, Nat.reduceEqDiff, reduceIte]
  rfl
 ·exact ⟨Nat.zero_le _, rfl⟩
 ·rintro i hok5 Q5 n5 e5 r5
  obtain ⟨hi1, hR⟩ := hok5
  refine v_seqR [0,5,6,7,8] ?_; intro K6 k6
  refine zBinOp ⟨?_⟩
  refine k6 _ ?_
  refine zk ⟨?_⟩
  refine v_seq ?_; intro Q7 n7 e7 r7
  refine v_condS _ rfl ?_ ?_
  ·intro hc0
   have hlt : i < fl.length := by omega
   obtain ⟨⟨x0, x1, x2, x3, x4⟩, hx⟩ : ∃ x : ByteArray × Int × Int × Int × Int, fl[i]? = some x := ⟨fl[i]'(by omega), List.getElem?_eq_getElem (by omega)⟩
   have hsx := hls _ (List.mem_of_getElem? hx)
   simp only [] at hsx
   rcases Nat.eq_zero_or_pos i with h0 | h0
   ·skip
    have hi0 : ¬ ((0 : Int) < (i : Int)) := by omega
    have hst : chainAt apOK apBf fl i = (apOK (x0, x1, x2, x3, x4) && chainAt apOK apBf fl (i + 1)) := by subst h0; exact chain_zero hx
    refine v_skip ?_
    refine n7 _ _ (weak_keep [0, 5, 6, 7] _) ?_
    refine zk ⟨?_⟩
    refine v_seq ?_; intro Q9 n9 e9 r9
    refine v_block ?_; intro Q10 n10 x10 e10 r10
    refine v_seqR [0,3,4,5,6,7] ?_; intro K11 k11
    have F := Fc.mk (And.intro (fun f => getD_map (f := f) hx) (And.intro hi0 (And.intro @decide_false @Bool.and_false)))
    refine zMove ⟨?_⟩
    refine zIndexAddr ⟨?_⟩
    refine zLoad ⟨?_⟩
    refine zAlloc ⟨?_⟩
    refine zAssign ⟨?_⟩
    refine zStore ⟨?_⟩
    refine k11 _ ?_
    refine zk ⟨?_⟩
    refine v_seq ?_; intro Q12 n12 e12 r12
    refine v_draw (by kernel_rfl) ?_; intro K13 q13 k13
    show aAny _ _ _ _ 18 (Array.replicate 18 false) _
    refine zdLoad q13 true 0 12 ?_
    refine zoc 1 (apGood_con x0 x1 x2 x3 x4 hsx) ⟨?_⟩
    refine zdUnOp q13 true 2 14 ?_
    refine zdMove q13 true 3 15 ?_
    refine zdgMove q13 true 4 16 ?_
    refine zdgBinOp q13 true 5 17 ?_
    refine zdgMove q13 true 6 18 ?_
    refine zdgMove q13 true 7 19 ?_
    refine zdgMove q13 true 8 20 ?_
    refine zdgBinOpW q13 true 9 21 ?_
    refine zdgIndexAddr q13 true 10 22 ?_
    refine zdgFieldAddr q13 true 11 23 ?_
    refine zdgLoad q13 true 12 24 ?_
    refine zdgFieldAddr q13 true 13 25 ?_
    refine zdgLoad q13 true 14 26 ?_
    refine zdgBinOp q13 true 15 27 ?_
    refine zdgPick q13 true 16 28 ?_
    refine zdPick q13 true 17 29 ?_
    refine aAny_done (by kernel_rfl) ?_
    refine k13 _ ?_
    refine n12 _ _ (weak_keep [0, 5, 6, 7, 29] _) ?_
    refine zk ⟨?_⟩
    refine v_condS _ rfl ?_ ?_
    ·intro hc1
     refine v_seqR [2] ?_; intro K15 k15
     refine zAssign ⟨?_⟩
     refine k15 _ ?_
     refine zk ⟨?_⟩
     refine v_ret ?_
     refine r10 _ ?_
     refine r9 _ ?_
     refine r5 _ ?_
     refine r4 _ ?_
     refine r2 _ ?_
     refine r0 _ ?_
     refine zf ⟨?_⟩
     exact ret_pure rfl (by rw [fleetB, ← hR, hst]; clear hR hst; (try simp at hc1); first | (simp [hc1]; done) | (rcases hc1 with h | h <;> simp [h, apBf]; done) | (simp_all [apBf]; done)) (.inl rfl)
    ·intro hc1
     refine v_skip ?_
     refine n10 _ ?_
     refine n9 _ _ (weak_keep [0, 5, 6, 7] _) ?_
     refine zk ⟨?_⟩
     refine v_region ?_; intro K16 k16
     refine zBinOpW ⟨?_⟩
     refine zMove ⟨?_⟩
     refine k16 _ ?_
     refine n5 _ (i + 1) ?_ ?_ ?_
     ·refine weak_bothS [0, 5, 6, 7] [] ⟨?_⟩
      rfl
     ·exact ⟨by omega, by rw [← hR, hst]; clear hR hst; (try simp at hc1); first | (simp [hc1]; done) | (simp_all [apBf]; done)⟩
     ·show _ < _; omega
   ·skip
    obtain ⟨⟨y0, y1, y2, y3, y4⟩, hy⟩ : ∃ x : ByteArray × Int × Int × Int × Int, fl[i - 1]? = some x := ⟨fl[i - 1]'(by omega), List.getElem?_eq_getElem (by omega)⟩
    have hi0 : (0 : Int) < i := by omega
    have hk : ((i : Int) - 1).toNat = i - 1 := by omega
    have hst := chain_succ (ok := apOK) (bf := apBf) h0 hy hx
    refine v_skip ?_
    refine n7 _ _ (weak_keep [0, 5, 6, 7] _) ?_
    refine zk ⟨?_⟩
    refine v_seq ?_; intro Q17 n17 e17 r17
    refine v_block ?_; intro Q18 n18 x18 e18 r18
    refine v_seqR [0,3,4,5,6,7] ?_; intro K19 k19
    have F := Fc.mk (And.intro (fun f => getD_map (f := f) hx) (And.intro hi0 (And.intro hk (And.intro (fun f => getD_map (f := f) hy) (And.intro @decide_true @Bool.and_true)))))
    refine zMove ⟨?_⟩
    refine zIndexAddr ⟨?_⟩
    refine zLoad ⟨?_⟩
    refine zAlloc ⟨?_⟩
    refine zAssign ⟨?_⟩
    refine zStore ⟨?_⟩
    refine k19 _ ?_
    refine zk ⟨?_⟩
    refine v_seq ?_; intro Q20 n20 e20 r20
    refine v_draw (by kernel_rfl) ?_; intro K21 q21 k21
    show aAny _ _ _ _ 18 (Array.replicate 18 false) _
    refine zdLoad q21 true 0 12 ?_
    refine zoc 1 (apGood_con x0 x1 x2 x3 x4 hsx) ⟨?_⟩
    refine zdUnOp q21 true 2 14 ?_
    refine zdMove q21 true 3 15 ?_
    refine zdgMove q21 true 4 16 ?_
    refine zdgBinOp q21 true 5 17 ?_
    refine zdgMove q21 true 6 18 ?_
    refine zdgMove q21 true 7 19 ?_
    refine zdgMove q21 true 8 20 ?_
    refine zdgBinOpW q21 true 9 21 ?_
    refine zdgIndexAddr q21 true 10 22 ?_
    refine zdgFieldAddr q21 true 11 23 ?_
    refine zdgLoad q21 true 12 24 ?_
    refine zdgFieldAddr q21 true 13 25 ?_
    refine zdgLoad q21 true 14 26 ?_
    refine zdgBinOp q21 true 15 27 ?_
    refine zdgPick q21 true 16 28 ?_
    refine zdPick q21 true 17 29 ?_
    refine aAny_done (by kernel_rfl) ?_
    refine k21 _ ?_
    refine n20 _ _ (weak_keep [0, 5, 6, 7, 29] _) ?_
    refine zk ⟨?_⟩
    refine v_condS _ rfl ?_ ?_
    ·intro hc1
     refine v_seqR [2] ?_; intro K23 k23
     refine zAssign ⟨?_⟩
     refine k23 _ ?_
     refine zk ⟨?_⟩
     refine v_ret ?_
     refine r18 _ ?_
     refine r17 _ ?_
     refine r5 _ ?_
     refine r4 _ ?_
     refine r2 _ ?_
     refine r0 _ ?_
     refine zf ⟨?_⟩
     exact ret_pure rfl (by rw [fleetB, ← hR, hst]; clear hR hst; (try simp at hc1); first | (simp [hc1]; done) | (rcases hc1 with h | h <;> simp [h, apBf]; done) | (simp_all [apBf]; done)) (.inl rfl)
    ·intro hc1
     refine v_skip ?_
     refine n18 _ ?_
     refine n17 _ _ (weak_keep [0, 5, 6, 7] _) ?_
     refine zk ⟨?_⟩
     refine v_region ?_; intro K24 k24
     refine zBinOpW ⟨?_⟩
     refine zMove ⟨?_⟩
     refine k24 _ ?_
     refine n5 _ (i + 1) ?_ ?_ ?_
     ·refine weak_bothS [0, 5, 6, 7] [] ⟨?_⟩
      rfl
     ·exact ⟨by omega, by rw [← hR, hst]; clear hR hst; (try simp at hc1); first | (simp [hc1]; done) | (simp_all [apBf]; done)⟩
     ·show _ < _; omega
  ·intro hc0
   refine v_exit ?_
   refine e7 _ _ ?_
   refine e5 _ _ ?_
   refine x4 _ ?_
   refine n2 _ _ (weak_keep [0] _) ?_
   refine zk ⟨?_⟩
   refine v_seqR [2] ?_; intro K25 k25
   refine zMove ⟨?_⟩
   refine zLen ⟨?_⟩
   refine zBinOp ⟨?_⟩
   refine zAssign ⟨?_⟩
   refine k25 _ ?_
   refine zk ⟨?_⟩
   refine v_ret ?_
   refine r0 _ ?_
   refine zf ⟨?_⟩
   exact ret_pure rfl (by rw [fleetB, ← hR, chain_end (by omega)]; simp) (.inl rfl)
set_option maxHeartbeats 1000000 in
theorem isFleet_con (fl : List (ByteArray × Int × Int × Int × Int)) (hl : fl.length ≤ 1048576) (hls : ∀ t ∈ fl, t.1.size ≤ 9223372036854775807) : Con Tryz.prog 107 [.sl (fl.map (fun t : ByteArray × Int × Int × Int × Int => V.agg [V.str t.1, V.int .i64 t.2.1, V.int .i64 t.2.2.1, V.int .i64 t.2.2.2.1, V.int .i64 t.2.2.2.2]))] [] (.bool (fleetB fl)) [] := by
 refine v_con [.tmp 2] [] Tryz.func107 rfl rfl rfl (by simp [Tryz.ntmps107]) ?_
 intro Q0 n0 r0
 simp only [Tryz.ntmps107, envFrom, Nat.reduceAdd]
 have T := Tys.mk (And.intro Ty.t3 (And.intro Ty.t4 (And.intro Ty.t9 (And.intro Ty.t39 Ty.t71))))
 have F := Fc.mk True.intro
 refine v_seqR [0] ?_; intro K1 k1
 refine zAssign ⟨?_⟩
 refine k1 _ ?_
 refine zk ⟨?_⟩
 refine v_seq ?_; intro Q2 n2 e2 r2
 refine v_seqR [0,5,6,7] ?_; intro K3 k3
 refine zMove ⟨?_⟩
 refine zLen ⟨?_⟩
 refine zMove ⟨?_⟩
 refine k3 _ ?_
 refine zk ⟨?_⟩
 refine v_block ?_; intro Q4 n4 x4 e4 r4
 refine v_loop (fun i => ⟨[(0, .sl (fl.map (fun t : ByteArray × Int × Int × Int × Int => V.agg [V.str t.1, V.int .i64 t.2.1, V.int .i64 t.2.2.1, V.int .i64 t.2.2.2.1, V.int .i64 t.2.2.2.2]))), (5, .sl (fl.map (fun t : ByteArray × Int × Int × Int × Int => V.agg [V.str t.1, V.int .i64 t.2.1, V.int .i64 t.2.2.1, V.int .i64 t.2.2.2.1, V.int .i64 t.2.2.2.2]))), (6, .int .i64 fl.length), (7, .int .i64 (Nat.cast i))], [], false, 34, 0⟩) (fun i => i ≤ fl.length ∧ chainAt apOK apBf fl i = chainAt apOK apBf fl 0) (fun i => fl.length - i) 0 ?_ ?_ ?_
 ·refine weak_of [0, 5, 6, 7] ?_
  simp only [keep_mk, keepE_nil, keepE_cons, look_cons, look_nil, Nat.reduceEqDiff, reduceIte]
  rfl
 ·exact ⟨Nat.zero_le _, rfl⟩
 ·rintro i hok5 Q5 n5 e5 r5
  obtain ⟨hi1, hR⟩ := hok5
  refine v_seqR [0,5,6,7,8] ?_; intro K6 k6
  refine zBinOp ⟨?_⟩
  refine k6 _ ?_
  refine zk ⟨?_⟩
  refine v_seq ?_; intro Q7 n7 e7 r7
  refine v_condS _ rfl ?_ ?_
  ·intro hc0
   have hlt : i < fl.length := by omega
   obtain ⟨⟨x0, x1, x2, x3, x4⟩, hx⟩ : ∃ x : ByteArray × Int × Int × Int × Int, fl[i]? = some x := ⟨fl[i]'(by omega), List.getElem?_eq_getElem (by omega)⟩
   have hsx := hls _ (List.mem_of_getElem? hx)
   simp only [] at hsx
   rcases Nat.eq_zero_or_pos i with h0 | h0
   ·skip
    have hi0 : ¬ ((0 : Int) < (i : Int)) := by omega
    have hst : chainAt apOK apBf fl i = (apOK (x0, x1, x2, x3, x4) && chainAt apOK apBf fl (i + 1)) := by subst h0; exact chain_zero hx
    refine v_skip ?_
    refine n7 _ _ (weak_keep [0, 5, 6, 7] _) ?_
    refine zk ⟨?_⟩
    refine v_seq ?_; intro Q9 n9 e9 r9
    refine v_block ?_; intro Q10 n10 x10 e10 r10
    refine v_seqR [0,3,4,5,6,7] ?_; intro K11 k11
    have F := Fc.mk (And.intro (fun f => getD_map (f := f) hx) (And.intro hi0 (And.intro @decide_false @Bool.and_false)))
    refine zMove ⟨?_⟩
    refine zIndexAddr ⟨?_⟩
    refine zLoad ⟨?_⟩
    refine zAlloc ⟨?_⟩
    refine zAssign ⟨?_⟩
    refine zStore ⟨?_⟩
    refine k11 _ ?_
    refine zk ⟨?_⟩
    refine v_seq ?_; intro Q12 n12 e12 r12
    refine v_draw (by kernel_rfl) ?_; intro K13 q13 k13
    show aAny _ _ _ _ 18 (Array.replicate 18 false) _
    refine zdLoad q13 true 0 12 ?_
    refine zoc 1 (isAppliance_con x0 x1 x2 x3 x4 hsx) ⟨?_⟩
    refine zdUnOp q13 true 2 14 ?_
    refine zdMove q13 true 3 15 ?_
    refine zdgMove q13 true 4 16 ?_
    refine zdgBinOp q13 true 5 17 ?_
    refine zdgMove q13 true 6 18 ?_
    refine zdgMove q13 true 7 19 ?_
    refine zdgMove q13 true 8 20 ?_
    refine zdgBinOpW q13 true 9 21 ?_
    refine zdgIndexAddr q13 true 10 22 ?_
    refine zdgFieldAddr q13 true 11 23 ?_
    refine zdgLoad q13 true 12 24 ?_
    refine zdgFieldAddr q13 true 13 25 ?_
    refine zdgLoad q13 true 14 26 ?_
    refine zdgBinOp q13 true 15 27 ?_
    refine zdgPick q13 true 16 28 ?_
    refine zdPick q13 true 17 29 ?_
    refine aAny_done (by kernel_rfl) ?_
    refine k13 _ ?_
    refine n12 _ _ (weak_keep [0, 5, 6, 7, 29] _) ?_
    refine zk ⟨?_⟩
    refine v_condS _ rfl ?_ ?_
    ·intro hc1
     refine v_seqR [2] ?_; intro K15 k15
     refine zAssign ⟨?_⟩
     refine k15 _ ?_
     refine zk ⟨?_⟩
     refine v_ret ?_
     refine r10 _ ?_
     refine r9 _ ?_
     refine r5 _ ?_
     refine r4 _ ?_
     refine r2 _ ?_
     refine r0 _ ?_
     refine zf ⟨?_⟩
     exact ret_pure rfl (by rw [fleetB, ← hR, hst]; clear hR hst; (try simp at hc1); first | (simp [hc1]; done) | (rcases hc1 with h | h <;> simp [h, apBf]; done) | (simp_all [apBf]; done)) (.inl rfl)
    ·intro hc1
     refine v_skip ?_
     refine n10 _ ?_
     refine n9 _ _ (weak_keep [0, 5, 6, 7] _) ?_
     refine zk ⟨?_⟩
     refine v_region ?_; intro K16 k16
     refine zBinOpW ⟨?_⟩
     refine zMove ⟨?_⟩
     refine k16 _ ?_
     refine n5 _ (i + 1) ?_ ?_ ?_
     ·refine weak_bothS [0, 5, 6, 7] [] ⟨?_⟩
      rfl
     ·exact ⟨by omega, by rw [← hR, hst]; clear hR hst; (try simp at hc1); first | (simp [hc1]; done) | (simp_all [apBf]; done)⟩
     ·show _ < _; omega
   ·skip
    obtain ⟨⟨y0, y1, y2, y3, y4⟩, hy⟩ : ∃ x : ByteArray × Int × Int × Int × Int, fl[i - 1]? = some x := ⟨fl[i - 1]'(by omega), List.getElem?_eq_getElem (by omega)⟩
    have hi0 : (0 : Int) < i := by omega
    have hk : ((i : Int) - 1).toNat = i - 1 := by omega
    have hst := chain_succ (ok := apOK) (bf := apBf) h0 hy hx
    refine v_skip ?_
    refine n7 _ _ (weak_keep [0, 5, 6, 7] _) ?_
    refine zk ⟨?_⟩
    refine v_seq ?_; intro Q17 n17 e17 r17
    refine v_block ?_; intro Q18 n18 x18 e18 r18
    refine v_seqR [0,3,4,5,6,7] ?_; intro K19 k19
    have F := Fc.mk (And.intro (fun f => getD_map (f := f) hx) (And.intro hi0 (And.intro hk (And.intro (fun f => getD_map (f := f) hy) (And.intro @decide_true @Bool.and_true)))))
    refine zMove ⟨?_⟩
    refine zIndexAddr ⟨?_⟩
    refine zLoad ⟨?_⟩
    refine zAlloc ⟨?_⟩
    refine zAssign ⟨?_⟩
    refine zStore ⟨?_⟩
    refine k19 _ ?_
    refine zk ⟨?_⟩
    refine v_seq ?_; intro Q20 n20 e20 r20
    refine v_draw (by kernel_rfl) ?_; intro K21 q21 k21
    show aAny _ _ _ _ 18 (Array.replicate 18 false) _
    refine zdLoad q21 true 0 12 ?_
    refine zoc 1 (isAppliance_con x0 x1 x2 x3 x4 hsx) ⟨?_⟩
    refine zdUnOp q21 true 2 14 ?_
    refine zdMove q21 true 3 15 ?_
    refine zdgMove q21 true 4 16 ?_
    refine zdgBinOp q21 true 5 17 ?_
    refine zdgMove q21 true 6 18 ?_
    refine zdgMove q21 true 7 19 ?_
    refine zdgMove q21 true 8 20 ?_
    refine zdgBinOpW q21 true 9 21 ?_
    refine zdgIndexAddr q21 true 10 22 ?_
    refine zdgFieldAddr q21 true 11 23 ?_
    refine zdgLoad q21 true 12 24 ?_
    refine zdgFieldAddr q21 true 13 25 ?_
    refine zdgLoad q21 true 14 26 ?_
    refine zdgBinOp q21 true 15 27 ?_
    refine zdgPick q21 true 16 28 ?_
    refine zdPick q21 true 17 29 ?_
    refine aAny_done (by kernel_rfl) ?_
    refine k21 _ ?_
    refine n20 _ _ (weak_keep [0, 5, 6, 7, 29] _) ?_
    refine zk ⟨?_⟩
    refine v_condS _ rfl ?_ ?_
    ·intro hc1
     refine v_seqR [2] ?_; intro K23 k23
     refine zAssign ⟨?_⟩
     refine k23 _ ?_
     refine zk ⟨?_⟩
     refine v_ret ?_
     refine r18 _ ?_
     refine r17 _ ?_
     refine r5 _ ?_
     refine r4 _ ?_
     refine r2 _ ?_
     refine r0 _ ?_
     refine zf ⟨?_⟩
     exact ret_pure rfl (by rw [fleetB, ← hR, hst]; clear hR hst; (try simp at hc1); first | (simp [hc1]; done) | (rcases hc1 with h | h <;> simp [h, apBf]; done) | (simp_all [apBf]; done)) (.inl rfl)
    ·intro hc1
     refine v_skip ?_
     refine n18 _ ?_
     refine n17 _ _ (weak_keep [0, 5, 6, 7] _) ?_
     refine zk ⟨?_⟩
     refine v_region ?_; intro K24 k24
     refine zBinOpW ⟨?_⟩
     refine zMove ⟨?_⟩
     refine k24 _ ?_
     refine n5 _ (i + 1) ?_ ?_ ?_
     ·refine weak_bothS [0, 5, 6, 7] [] ⟨?_⟩
      rfl
     ·exact ⟨by omega, by rw [← hR, hst]; clear hR hst; (try simp at hc1); first | (simp [hc1]; done) | (simp_all [apBf]; done)⟩
     ·show _ < _; omega
  ·intro hc0
   refine v_exit ?_
   refine e7 _ _ ?_
   refine e5 _ _ ?_
   refine x4 _ ?_
   refine n2 _ _ (weak_keep [0] _) ?_
   refine zk ⟨?_⟩
   refine v_seqR [2] ?_; intro K25 k25
   refine zMove ⟨?_⟩
   refine zLen ⟨?_⟩
   refine zBinOp ⟨?_⟩
   refine zAssign ⟨?_⟩
   refine k25 _ ?_
   refine zk ⟨?_⟩
   refine v_ret ?_
   refine r0 _ ?_
   refine zf ⟨?_⟩
   exact ret_pure rfl (by rw [fleetB, ← hR, chain_end (by omega)]; simp) (.inl rfl)
def tmL (n : Int) (ss : List (Int × Int × Int)) (node : Int) : List Int := Tm.times n.toNat ss node.toNat
theorem strOK_facts {n : Int} {x : (Int × Int × Int)} (h1 : 1 ≤ n ∧ n ≤ 14) (h : strOK n x = true) : 0 ≤ x.1 ∧ x.1 < n ∧ 0 ≤ x.2.1 ∧ x.2.1 < n ∧ x.1 < x.2.1 ∧ 1 ≤ x.2.2 ∧ x.2.2 ≤ 3600 := by
  simp only [strOK, hasB, Bool.and_eq_true, decide_eq_true_eq, wrap64 (show -9223372036854775808 ≤ n - 1 by omega) (show n - 1 ≤ 9223372036854775807 by omega)] at h
  omega
theorem edges_good {m : Nat} {ss : List (Int × Int × Int)} (hm : 1 ≤ m ∧ m ≤ 14) (h : ∀ s ∈ ss, strOK (m : Int) s = true) : ∀ e ∈ Tm.edges ss, Tm.Good m e ∧ e.2.2 ≤ 3600 := by
  intro e he
  obtain ⟨s, hs, he⟩ := Tm.edges_mem he
  have := strOK_facts (by omega) (h s hs)
  rcases he with rfl | rfl <;> (unfold Tm.Good; simp only []; refine ⟨⟨?_, ?_, ?_, ?_⟩, ?_⟩ <;> omega)
def fillI (m i : Nat) : List Int := List.replicate i (-1) ++ List.replicate (m - i) 0
theorem fillI_zero (m : Nat) : (fillI m 0).map (V.int .i64) = List.replicate m (V.int .i64 0) := by simp [fillI]
theorem fillI_len {m i : Nat} (h : i ≤ m) : (fillI m i).length = m := by simp [fillI]; omega
theorem fillI_set {m i : Nat} (h : i < m) : (fillI m i).set i (-1) = fillI m (i + 1) := by
  rw [fillI, List.set_append_right _ _ (by simp), List.length_replicate, Nat.sub_self, show m - i = (m - (i + 1)) + 1 by omega, List.replicate_succ, List.set_cons_zero, fillI, List.replicate_succ', List.append_assoc]; rfl
theorem fillI_end {m i : Nat} (h : i = m) : fillI m i = List.replicate m (-1) := by subst h; simp [fillI]
theorem times_len (n : Int) (ss : List (Int × Int × Int)) (node : Int) : (tmL n ss node).length = n.toNat := Tm.iter_len (Tm.start_len ..) _
theorem within_times {m u : Nat} {ss : List (Int × Int × Int)} : Tm.within m u (Tm.edges ss) m 0 = Tm.times m ss u := rfl
theorem tm_facts {n node : Int} {ss : List (Int × Int × Int)} (hn : 1 ≤ n ∧ n ≤ 14) (hu : 0 ≤ node ∧ node < n) (hss : ∀ s ∈ ss, strOK n s = true) (hsl : ss.length ≤ 40) : ∀ v, -1 ≤ Tm.at_ (tmL n ss node) v ∧ Tm.at_ (tmL n ss node) v ≤ 4608000 := by
  obtain ⟨m, rfl⟩ := Int.eq_ofNat_of_zero_le (show 0 ≤ n by omega)
  obtain ⟨u, rfl⟩ := Int.eq_ofNat_of_zero_le hu.1
  have h := Tm.within_facts (n := m) (node := u) (es := Tm.edges ss) (by omega) (edges_good (by omega) hss) (by rw [Tm.edges_len]; omega) m 0 (by omega)
  exact h.2

def crewMin (k : Int) : Int := if k = 0 then 4 else if k = 1 then 2 else if k = 2 then 3 else 2
def availB (x : (ByteArray × Int × Int × Int × Int)) : Bool := (decide (x.2.2.2.2 = 0) || decide (x.2.2.2.2 = 4)) && decide (crewMin x.2.1 ≤ x.2.2.2.1)
theorem avail_no {x : (ByteArray × Int × Int × Int × Int)} (h0 : ¬ x.2.2.2.2 = 0) (h4 : ¬ x.2.2.2.2 = 4) : availB x = false := by rw [availB, decide_eq_false h0, decide_eq_false h4]; rfl
theorem avail_yes {x : (ByteArray × Int × Int × Int × Int)} (h : x.2.2.2.2 = 0 ∨ x.2.2.2.2 = 4) : availB x = decide (crewMin x.2.1 ≤ x.2.2.2.1) := by
  rw [availB]
  rcases h with h | h <;> simp [h]
theorem ap_kind {x : (ByteArray × Int × Int × Int × Int)} (h : apOK x = true) : 0 ≤ x.2.1 ∧ x.2.1 ≤ 3 ∧ 0 ≤ x.2.2.1 ∧ x.2.2.1 ≤ 13 := by
  simp only [apOK, Bool.and_eq_true, decide_eq_true_eq] at h
  omega

set_option maxHeartbeats 1000000 in
theorem isAvailable_con (x0 : ByteArray) (x1 : Int) (x2 : Int) (x3 : Int) (x4 : Int) (hk : 0 ≤ x1 ∧ x1 ≤ 3) : Con Tryz.prog 54 [.agg [V.str x0, V.int .i64 x1, V.int .i64 x2, V.int .i64 x3, V.int .i64 x4]] [] (.bool (availB (x0, x1, x2, x3, x4))) [] := by
 refine v_con [.tmp 2] [] Tryz.func54 rfl rfl rfl (by simp [Tryz.ntmps54]) ?_
 intro Q0 n0 r0
 simp only [Tryz.ntmps54, envFrom, Nat.reduceAdd]
 have T := Tys.mk (And.intro Ty.t3 (And.intro Ty.t9 (And.intro Ty.t71 Ty.t124)))
 have F := Fc.mk True.intro
 have hk4 : x1 = 0 ∨ x1 = 1 ∨ x1 = 2 ∨ x1 = 3 := by omega
 rcases hk4 with rfl | rfl | rfl | rfl
 ·skip
  skip
  refine v_seqR [1] ?_; intro K1 k1
  have F := Fc.mk True.intro
  refine zBox ⟨?_⟩
  refine zAssign ⟨?_⟩
  refine k1 _ ?_
  refine zk ⟨?_⟩
  refine v_seq ?_; intro Q2 n2 e2 r2
  refine v_draw (by kernel_rfl) ?_; intro K3 q3 k3
  show aAny _ _ _ _ 18 (Array.replicate 18 false) _
  refine zdFieldAddr q3 true 0 3 ?_
  refine zdLoad q3 true 1 4 ?_
  refine zdBinOp q3 true 2 5 ?_
  refine zdMove q3 true 3 6 ?_
  refine zdgFieldAddr q3 true 4 7 ?_
  refine zdgLoad q3 true 5 8 ?_
  refine zdgBinOp q3 true 6 9 ?_
  refine zdPick q3 true 7 10 ?_
  refine zdMove q3 true 8 11 ?_
  refine zdgFieldAddr q3 true 9 12 ?_
  refine zdgLoad q3 true 10 13 ?_
  refine zdgBuild q3 true 11 14 ?_
  refine zdgFieldAddr q3 true 12 15 ?_
  refine zdgLoad q3 true 13 16 ?_
  refine zdgIndex q3 true 14 17 ?_
  refine zdgBinOp q3 true 15 18 ?_
  refine zdPick q3 true 16 19 ?_
  refine zoAssign 17 ⟨?_⟩
  refine aAny_done (by kernel_rfl) ?_
  refine k3 _ ?_
  refine n2 _ _ (weak_keep [2] _) ?_
  refine zk ⟨?_⟩
  refine v_ret ?_
  refine r0 _ ?_
  refine zf ⟨?_⟩
  exact ret_pure rfl (by simp [availB, crewMin]) (.inl rfl)
 ·skip
  skip
  refine v_seqR [1] ?_; intro K4 k4
  have F := Fc.mk True.intro
  refine zBox ⟨?_⟩
  refine zAssign ⟨?_⟩
  refine k4 _ ?_
  refine zk ⟨?_⟩
  refine v_seq ?_; intro Q5 n5 e5 r5
  refine v_draw (by kernel_rfl) ?_; intro K6 q6 k6
  show aAny _ _ _ _ 18 (Array.replicate 18 false) _
  refine zdFieldAddr q6 true 0 3 ?_
  refine zdLoad q6 true 1 4 ?_
  refine zdBinOp q6 true 2 5 ?_
  refine zdMove q6 true 3 6 ?_
  refine zdgFieldAddr q6 true 4 7 ?_
  refine zdgLoad q6 true 5 8 ?_
  refine zdgBinOp q6 true 6 9 ?_
  refine zdPick q6 true 7 10 ?_
  refine zdMove q6 true 8 11 ?_
  refine zdgFieldAddr q6 true 9 12 ?_
  refine zdgLoad q6 true 10 13 ?_
  refine zdgBuild q6 true 11 14 ?_
  refine zdgFieldAddr q6 true 12 15 ?_
  refine zdgLoad q6 true 13 16 ?_
  refine zdgIndex q6 true 14 17 ?_
  refine zdgBinOp q6 true 15 18 ?_
  refine zdPick q6 true 16 19 ?_
  refine zoAssign 17 ⟨?_⟩
  refine aAny_done (by kernel_rfl) ?_
  refine k6 _ ?_
  refine n5 _ _ (weak_keep [2] _) ?_
  refine zk ⟨?_⟩
  refine v_ret ?_
  refine r0 _ ?_
  refine zf ⟨?_⟩
  exact ret_pure rfl (by simp [availB, crewMin]) (.inl rfl)
 ·skip
  skip
  refine v_seqR [1] ?_; intro K7 k7
  have F := Fc.mk True.intro
  refine zBox ⟨?_⟩
  refine zAssign ⟨?_⟩
  refine k7 _ ?_
  refine zk ⟨?_⟩
  refine v_seq ?_; intro Q8 n8 e8 r8
  refine v_draw (by kernel_rfl) ?_; intro K9 q9 k9
  show aAny _ _ _ _ 18 (Array.replicate 18 false) _
  refine zdFieldAddr q9 true 0 3 ?_
  refine zdLoad q9 true 1 4 ?_
  refine zdBinOp q9 true 2 5 ?_
  refine zdMove q9 true 3 6 ?_
  refine zdgFieldAddr q9 true 4 7 ?_
  refine zdgLoad q9 true 5 8 ?_
  refine zdgBinOp q9 true 6 9 ?_
  refine zdPick q9 true 7 10 ?_
  refine zdMove q9 true 8 11 ?_
  refine zdgFieldAddr q9 true 9 12 ?_
  refine zdgLoad q9 true 10 13 ?_
  refine zdgBuild q9 true 11 14 ?_
  refine zdgFieldAddr q9 true 12 15 ?_
  refine zdgLoad q9 true 13 16 ?_
  refine zdgIndex q9 true 14 17 ?_
  refine zdgBinOp q9 true 15 18 ?_
  refine zdPick q9 true 16 19 ?_
  refine zoAssign 17 ⟨?_⟩
  refine aAny_done (by kernel_rfl) ?_
  refine k9 _ ?_
  refine n8 _ _ (weak_keep [2] _) ?_
  refine zk ⟨?_⟩
  refine v_ret ?_
  refine r0 _ ?_
  refine zf ⟨?_⟩
  exact ret_pure rfl (by simp [availB, crewMin]) (.inl rfl)
 ·skip
  skip
  refine v_seqR [1] ?_; intro K10 k10
  have F := Fc.mk True.intro
  refine zBox ⟨?_⟩
  refine zAssign ⟨?_⟩
  refine k10 _ ?_
  refine zk ⟨?_⟩
  refine v_seq ?_; intro Q11 n11 e11 r11
  refine v_draw (by kernel_rfl) ?_; intro K12 q12 k12
  show aAny _ _ _ _ 18 (Array.replicate 18 false) _
  refine zdFieldAddr q12 true 0 3 ?_
  refine zdLoad q12 true 1 4 ?_
  refine zdBinOp q12 true 2 5 ?_
  refine zdMove q12 true 3 6 ?_
  refine zdgFieldAddr q12 true 4 7 ?_
  refine zdgLoad q12 true 5 8 ?_
  refine zdgBinOp q12 true 6 9 ?_
  refine zdPick q12 true 7 10 ?_
  refine zdMove q12 true 8 11 ?_
  refine zdgFieldAddr q12 true 9 12 ?_
  refine zdgLoad q12 true 10 13 ?_
  refine zdgBuild q12 true 11 14 ?_
  refine zdgFieldAddr q12 true 12 15 ?_
  refine zdgLoad q12 true 13 16 ?_
  refine zdgIndex q12 true 14 17 ?_
  refine zdgBinOp q12 true 15 18 ?_
  refine zdPick q12 true 16 19 ?_
  refine zoAssign 17 ⟨?_⟩
  refine aAny_done (by kernel_rfl) ?_
  refine k12 _ ?_
  refine n11 _ _ (weak_keep [2] _) ?_
  refine zk ⟨?_⟩
  refine v_ret ?_
  refine r0 _ ?_
  refine zf ⟨?_⟩
  exact ret_pure rfl (by simp [availB, crewMin]) (.inl rfl)
set_option maxHeartbeats 1000000 in
theorem apReady_con (x0 : ByteArray) (x1 : Int) (x2 : Int) (x3 : Int) (x4 : Int) (hk : 0 ≤ x1 ∧ x1 ≤ 3) : Con Tryz.prog 53 [.agg [V.str x0, V.int .i64 x1, V.int .i64 x2, V.int .i64 x3, V.int .i64 x4]] [] (.bool (availB (x0, x1, x2, x3, x4))) [] := by
 refine v_con [.tmp 2] [] Tryz.func53 rfl rfl rfl (by simp [Tryz.ntmps53]) ?_
 intro Q0 n0 r0
 simp only [Tryz.ntmps53, envFrom, Nat.reduceAdd]
 have T := Tys.mk (And.intro Ty.t3 (And.intro Ty.t9 (And.intro Ty.t32 Ty.t71)))
 have F := Fc.mk True.intro
 have hk4 : x1 = 0 ∨ x1 = 1 ∨ x1 = 2 ∨ x1 = 3 := by omega
 have hs4 : x4 = 0 ∨ x4 = 4 ∨ ¬ (x4 = 0 ∨ x4 = 4) := by omega
 rcases hk4 with rfl | rfl | rfl | rfl <;> rcases hs4 with h4 | h4 | h4
 ·skip
  subst h4
  have d0 : decide ((0 : Int) = 4) = false := rfl
  refine v_seqR [1] ?_; intro K1 k1
  have F := Fc.mk (And.intro d0 (And.intro @decide_true @Bool.true_or))
  refine zBox ⟨?_⟩
  refine zAssign ⟨?_⟩
  refine k1 _ ?_
  refine zk ⟨?_⟩
  refine v_seq ?_; intro Q2 n2 e2 r2
  refine v_draw (by kernel_rfl) ?_; intro K3 q3 k3
  show aAny _ _ _ _ 19 (Array.replicate 19 false) _
  refine zdFieldAddr q3 true 0 3 ?_
  refine zdLoad q3 true 1 4 ?_
  refine zdBinOp q3 true 2 5 ?_
  refine zdMove q3 true 3 6 ?_
  refine zdgFieldAddr q3 true 4 7 ?_
  refine zdgLoad q3 true 5 8 ?_
  refine zdgBinOp q3 true 6 9 ?_
  refine zdPick q3 true 7 10 ?_
  refine zdMove q3 true 8 11 ?_
  refine zdgFieldAddr q3 true 9 12 ?_
  refine zdgLoad q3 true 10 13 ?_
  refine zdgFieldAddr q3 true 12 15 ?_
  refine zdgLoad q3 true 13 16 ?_
  first
  |(refine aAny_pass 11 14 8 true rfl rfl (show 14 < 21 by decide) (by kernel_rfl) rfl ?_ ?_; focus (first | rfl | (simp only [zV, guardV, Nat.reduceEqDiff, reduceIte]; done)); simp only [zW, set_some, Nat.reduceEqDiff, reduceIte])
  |skip
   refine aAny_only 11 rfl (by kernel_rfl) ?_; intro K k
   simp only [zE, zO, zV, zN, aStepM, optable, set_some, Nat.reduceEqDiff, reduceIte, Nat.reduceLT, implies_true, forall_const, reduceCtorEq, V.ofValue, V.ofScalar, V.un, V.gd, guardV, V.wrap, aExec, aop, litElems, rng0, rng1, rng2, rng3, rng4, List.map_cons, List.map_nil, List.all_cons, List.all_nil, V.isVal, V.cells, content, kindAll, V.noRef, V.noSl, List.mem_cons, List.not_mem_nil, or_false, forall_eq_or_imp, forall_eq, if_true, Option.isSome_some, List.length_cons, List.length_nil, Nat.reduceAdd, Nat.reduceLeDiff, Nat.reduceMul, Tryz.underlying3, Ty.c3, Ty.a3, Ty.z3, Tryz.underlying32, Ty.c32, Ty.a32, Ty.z32, d0]
   repeat (refine And.intro (by first | omega | (intros; omega) | (intros; simp_all; done) | (intros; simp_all; omega)) ?_)
   refine k _ ?_; clear k K
  refine zdgIndexAddr q3 true 14 17 ?_
  refine zdgLoad q3 true 15 18 ?_
  refine zdgBinOp q3 true 16 19 ?_
  refine zdPick q3 true 17 20 ?_
  refine zoAssign 18 ⟨?_⟩
  refine aAny_done (by kernel_rfl) ?_
  refine k3 _ ?_
  refine n2 _ _ (weak_keep [2] _) ?_
  refine zk ⟨?_⟩
  refine v_ret ?_
  refine r0 _ ?_
  refine zf ⟨?_⟩
  exact ret_pure rfl (by first | (simp [availB, crewMin]; done) | (simp [availB, crewMin, d0, d4]; done) | (simp [availB, crewMin] at d0 d4 ⊢; simp [*]; done)) (.inl rfl)
 ·skip
  subst h4
  have d0 : decide ((4 : Int) = 0) = false := rfl
  have d4 : decide ((4 : Int) = 4) = true := rfl
  refine v_seqR [1] ?_; intro K4 k4
  have F := Fc.mk (And.intro d0 (And.intro d4 (And.intro @decide_true @Bool.or_true)))
  refine zBox ⟨?_⟩
  refine zAssign ⟨?_⟩
  refine k4 _ ?_
  refine zk ⟨?_⟩
  refine v_seq ?_; intro Q5 n5 e5 r5
  refine v_draw (by kernel_rfl) ?_; intro K6 q6 k6
  show aAny _ _ _ _ 19 (Array.replicate 19 false) _
  refine zdFieldAddr q6 true 0 3 ?_
  refine zdLoad q6 true 1 4 ?_
  refine zdBinOp q6 true 2 5 ?_
  refine zdMove q6 true 3 6 ?_
  refine zdgFieldAddr q6 true 4 7 ?_
  refine zdgLoad q6 true 5 8 ?_
  refine zdgBinOp q6 true 6 9 ?_
  refine zdPick q6 true 7 10 ?_
  refine zdMove q6 true 8 11 ?_
  refine zdgFieldAddr q6 true 9 12 ?_
  refine zdgLoad q6 true 10 13 ?_
  refine zdgFieldAddr q6 true 12 15 ?_
  refine zdgLoad q6 true 13 16 ?_
  first
  |(refine aAny_pass 11 14 8 true rfl rfl (show 14 < 21 by decide) (by kernel_rfl) rfl ?_ ?_; focus (first | rfl | (simp only [zV, guardV, Nat.reduceEqDiff, reduceIte]; done)); simp only [zW, set_some, Nat.reduceEqDiff, reduceIte])
  |skip
   refine aAny_only 11 rfl (by kernel_rfl) ?_; intro K k
   simp only [zE, zO, zV, zN, aStepM, optable, set_some, Nat.reduceEqDiff, reduceIte, Nat.reduceLT, implies_true, forall_const, reduceCtorEq, V.ofValue, V.ofScalar, V.un, V.gd, guardV, V.wrap, aExec, aop, litElems, rng0, rng1, rng2, rng3, rng4, List.map_cons, List.map_nil, List.all_cons, List.all_nil, V.isVal, V.cells, content, kindAll, V.noRef, V.noSl, List.mem_cons, List.not_mem_nil, or_false, forall_eq_or_imp, forall_eq, if_true, Option.isSome_some, List.length_cons, List.length_nil, Nat.reduceAdd, Nat.reduceLeDiff, Nat.reduceMul, Tryz.underlying3, Ty.c3, Ty.a3, Ty.z3, Tryz.underlying32, Ty.c32, Ty.a32, Ty.z32, d0, d4]
   repeat (refine And.intro (by first | omega | (intros; omega) | (intros; simp_all; done) | (intros; simp_all; omega)) ?_)
   refine k _ ?_; clear k K
  refine zdgIndexAddr q6 true 14 17 ?_
  refine zdgLoad q6 true 15 18 ?_
  refine zdgBinOp q6 true 16 19 ?_
  refine zdPick q6 true 17 20 ?_
  refine zoAssign 18 ⟨?_⟩
  refine aAny_done (by kernel_rfl) ?_
  refine k6 _ ?_
  refine n5 _ _ (weak_keep [2] _) ?_
  refine zk ⟨?_⟩
  refine v_ret ?_
  refine r0 _ ?_
  refine zf ⟨?_⟩
  exact ret_pure rfl (by first | (simp [availB, crewMin]; done) | (simp [availB, crewMin, d0, d4]; done) | (simp [availB, crewMin] at d0 d4 ⊢; simp [*]; done)) (.inl rfl)
 ·skip
  have d0 : decide (x4 = 0) = false := decide_eq_false (fun h => h4 (.inl h))
  have d4 : decide (x4 = 4) = false := decide_eq_false (fun h => h4 (.inr h))
  refine v_seqR [1] ?_; intro K7 k7
  have F := Fc.mk (And.intro d0 d4)
  refine zBox ⟨?_⟩
  refine zAssign ⟨?_⟩
  refine k7 _ ?_
  refine zk ⟨?_⟩
  refine v_seq ?_; intro Q8 n8 e8 r8
  refine v_draw (by kernel_rfl) ?_; intro K9 q9 k9
  show aAny _ _ _ _ 19 (Array.replicate 19 false) _
  refine zdFieldAddr q9 true 0 3 ?_
  refine zdLoad q9 true 1 4 ?_
  refine zdBinOp q9 true 2 5 ?_
  refine zdMove q9 true 3 6 ?_
  refine zdgFieldAddr q9 true 4 7 ?_
  refine zdgLoad q9 true 5 8 ?_
  refine zdgBinOp q9 true 6 9 ?_
  refine zdPick q9 true 7 10 ?_
  refine zdMove q9 true 8 11 ?_
  refine zdgFieldAddr q9 true 9 12 ?_
  refine zdgLoad q9 true 10 13 ?_
  refine zdgFieldAddr q9 true 12 15 ?_
  refine zdgLoad q9 true 13 16 ?_
  first
  |(refine aAny_pass 11 14 8 true rfl rfl (show 14 < 21 by decide) (by kernel_rfl) rfl ?_ ?_; focus (first | rfl | (simp only [zV, guardV, Nat.reduceEqDiff, reduceIte]; done)); simp only [zW, set_some, Nat.reduceEqDiff, reduceIte])
  |skip
   refine aAny_only 11 rfl (by kernel_rfl) ?_; intro K k
   simp only [zE, zO, zV, zN, aStepM, optable, set_some, Nat.reduceEqDiff, reduceIte, Nat.reduceLT, implies_true, forall_const, reduceCtorEq, V.ofValue, V.ofScalar, V.un, V.gd, guardV, V.wrap, aExec, aop, litElems, rng0, rng1, rng2, rng3, rng4, List.map_cons, List.map_nil, List.all_cons, List.all_nil, V.isVal, V.cells, content, kindAll, V.noRef, V.noSl, List.mem_cons, List.not_mem_nil, or_false, forall_eq_or_imp, forall_eq, if_true, Option.isSome_some, List.length_cons, List.length_nil, Nat.reduceAdd, Nat.reduceLeDiff, Nat.reduceMul, Tryz.underlying3, Ty.c3, Ty.a3, Ty.z3, Tryz.underlying32, Ty.c32, Ty.a32, Ty.z32, d0, d4]
   repeat (refine And.intro (by first | omega | (intros; omega) | (intros; simp_all; done) | (intros; simp_all; omega)) ?_)
   refine k _ ?_; clear k K
  refine zdgIndexAddr q9 true 14 17 ?_
  refine zdgLoad q9 true 15 18 ?_
  refine zdgBinOp q9 true 16 19 ?_
  refine zdPick q9 true 17 20 ?_
  refine zoAssign 18 ⟨?_⟩
  refine aAny_done (by kernel_rfl) ?_
  refine k9 _ ?_
  refine n8 _ _ (weak_keep [2] _) ?_
  refine zk ⟨?_⟩
  refine v_ret ?_
  refine r0 _ ?_
  refine zf ⟨?_⟩
  exact ret_pure rfl (by first | (simp [availB, crewMin]; done) | (simp [availB, crewMin, d0, d4]; done) | (simp [availB, crewMin] at d0 d4 ⊢; simp [*]; done)) (.inl rfl)
 ·skip
  subst h4
  have d0 : decide ((0 : Int) = 4) = false := rfl
  refine v_seqR [1] ?_; intro K10 k10
  have F := Fc.mk (And.intro d0 (And.intro @decide_true @Bool.true_or))
  refine zBox ⟨?_⟩
  refine zAssign ⟨?_⟩
  refine k10 _ ?_
  refine zk ⟨?_⟩
  refine v_seq ?_; intro Q11 n11 e11 r11
  refine v_draw (by kernel_rfl) ?_; intro K12 q12 k12
  show aAny _ _ _ _ 19 (Array.replicate 19 false) _
  refine zdFieldAddr q12 true 0 3 ?_
  refine zdLoad q12 true 1 4 ?_
  refine zdBinOp q12 true 2 5 ?_
  refine zdMove q12 true 3 6 ?_
  refine zdgFieldAddr q12 true 4 7 ?_
  refine zdgLoad q12 true 5 8 ?_
  refine zdgBinOp q12 true 6 9 ?_
  refine zdPick q12 true 7 10 ?_
  refine zdMove q12 true 8 11 ?_
  refine zdgFieldAddr q12 true 9 12 ?_
  refine zdgLoad q12 true 10 13 ?_
  refine zdgFieldAddr q12 true 12 15 ?_
  refine zdgLoad q12 true 13 16 ?_
  first
  |(refine aAny_pass 11 14 8 true rfl rfl (show 14 < 21 by decide) (by kernel_rfl) rfl ?_ ?_; focus (first | rfl | (simp only [zV, guardV, Nat.reduceEqDiff, reduceIte]; done)); simp only [zW, set_some, Nat.reduceEqDiff, reduceIte])
  |skip
   refine aAny_only 11 rfl (by kernel_rfl) ?_; intro K k
   simp only [zE, zO, zV, zN, aStepM, optable, set_some, Nat.reduceEqDiff, reduceIte, Nat.reduceLT, implies_true, forall_const, reduceCtorEq, V.ofValue, V.ofScalar, V.un, V.gd, guardV, V.wrap, aExec, aop, litElems, rng0, rng1, rng2, rng3, rng4, List.map_cons, List.map_nil, List.all_cons, List.all_nil, V.isVal, V.cells, content, kindAll, V.noRef, V.noSl, List.mem_cons, List.not_mem_nil, or_false, forall_eq_or_imp, forall_eq, if_true, Option.isSome_some, List.length_cons, List.length_nil, Nat.reduceAdd, Nat.reduceLeDiff, Nat.reduceMul, Tryz.underlying3, Ty.c3, Ty.a3, Ty.z3, Tryz.underlying32, Ty.c32, Ty.a32, Ty.z32, d0]
   repeat (refine And.intro (by first | omega | (intros; omega) | (intros; simp_all; done) | (intros; simp_all; omega)) ?_)
   refine k _ ?_; clear k K
  refine zdgIndexAddr q12 true 14 17 ?_
  refine zdgLoad q12 true 15 18 ?_
  refine zdgBinOp q12 true 16 19 ?_
  refine zdPick q12 true 17 20 ?_
  refine zoAssign 18 ⟨?_⟩
  refine aAny_done (by kernel_rfl) ?_
  refine k12 _ ?_
  refine n11 _ _ (weak_keep [2] _) ?_
  refine zk ⟨?_⟩
  refine v_ret ?_
  refine r0 _ ?_
  refine zf ⟨?_⟩
  exact ret_pure rfl (by first | (simp [availB, crewMin]; done) | (simp [availB, crewMin, d0, d4]; done) | (simp [availB, crewMin] at d0 d4 ⊢; simp [*]; done)) (.inl rfl)
 ·skip
  subst h4
  have d0 : decide ((4 : Int) = 0) = false := rfl
  have d4 : decide ((4 : Int) = 4) = true := rfl
  refine v_seqR [1] ?_; intro K13 k13
  have F := Fc.mk (And.intro d0 (And.intro d4 (And.intro @decide_true @Bool.or_true)))
  refine zBox ⟨?_⟩
  refine zAssign ⟨?_⟩
  refine k13 _ ?_
  refine zk ⟨?_⟩
  refine v_seq ?_; intro Q14 n14 e14 r14
  refine v_draw (by kernel_rfl) ?_; intro K15 q15 k15
  show aAny _ _ _ _ 19 (Array.replicate 19 false) _
  refine zdFieldAddr q15 true 0 3 ?_
  refine zdLoad q15 true 1 4 ?_
  refine zdBinOp q15 true 2 5 ?_
  refine zdMove q15 true 3 6 ?_
  refine zdgFieldAddr q15 true 4 7 ?_
  refine zdgLoad q15 true 5 8 ?_
  refine zdgBinOp q15 true 6 9 ?_
  refine zdPick q15 true 7 10 ?_
  refine zdMove q15 true 8 11 ?_
  refine zdgFieldAddr q15 true 9 12 ?_
  refine zdgLoad q15 true 10 13 ?_
  refine zdgFieldAddr q15 true 12 15 ?_
  refine zdgLoad q15 true 13 16 ?_
  first
  |(refine aAny_pass 11 14 8 true rfl rfl (show 14 < 21 by decide) (by kernel_rfl) rfl ?_ ?_; focus (first | rfl | (simp only [zV, guardV, Nat.reduceEqDiff, reduceIte]; done)); simp only [zW, set_some, Nat.reduceEqDiff, reduceIte])
  |skip
   refine aAny_only 11 rfl (by kernel_rfl) ?_; intro K k
   simp only [zE, zO, zV, zN, aStepM, optable, set_some, Nat.reduceEqDiff, reduceIte, Nat.reduceLT, implies_true, forall_const, reduceCtorEq, V.ofValue, V.ofScalar, V.un, V.gd, guardV, V.wrap, aExec, aop, litElems, rng0, rng1, rng2, rng3, rng4, List.map_cons, List.map_nil, List.all_cons, List.all_nil, V.isVal, V.cells, content, kindAll, V.noRef, V.noSl, List.mem_cons, List.not_mem_nil, or_false, forall_eq_or_imp, forall_eq, if_true, Option.isSome_some, List.length_cons, List.length_nil, Nat.reduceAdd, Nat.reduceLeDiff, Nat.reduceMul, Tryz.underlying3, Ty.c3, Ty.a3, Ty.z3, Tryz.underlying32, Ty.c32, Ty.a32, Ty.z32, d0, d4]
   repeat (refine And.intro (by first | omega | (intros; omega) | (intros; simp_all; done) | (intros; simp_all; omega)) ?_)
   refine k _ ?_; clear k K
  refine zdgIndexAddr q15 true 14 17 ?_
  refine zdgLoad q15 true 15 18 ?_
  refine zdgBinOp q15 true 16 19 ?_
  refine zdPick q15 true 17 20 ?_
  refine zoAssign 18 ⟨?_⟩
  refine aAny_done (by kernel_rfl) ?_
  refine k15 _ ?_
  refine n14 _ _ (weak_keep [2] _) ?_
  refine zk ⟨?_⟩
  refine v_ret ?_
  refine r0 _ ?_
  refine zf ⟨?_⟩
  exact ret_pure rfl (by first | (simp [availB, crewMin]; done) | (simp [availB, crewMin, d0, d4]; done) | (simp [availB, crewMin] at d0 d4 ⊢; simp [*]; done)) (.inl rfl)
 ·skip
  have d0 : decide (x4 = 0) = false := decide_eq_false (fun h => h4 (.inl h))
  have d4 : decide (x4 = 4) = false := decide_eq_false (fun h => h4 (.inr h))
  refine v_seqR [1] ?_; intro K16 k16
  have F := Fc.mk (And.intro d0 d4)
  refine zBox ⟨?_⟩
  refine zAssign ⟨?_⟩
  refine k16 _ ?_
  refine zk ⟨?_⟩
  refine v_seq ?_; intro Q17 n17 e17 r17
  refine v_draw (by kernel_rfl) ?_; intro K18 q18 k18
  show aAny _ _ _ _ 19 (Array.replicate 19 false) _
  refine zdFieldAddr q18 true 0 3 ?_
  refine zdLoad q18 true 1 4 ?_
  refine zdBinOp q18 true 2 5 ?_
  refine zdMove q18 true 3 6 ?_
  refine zdgFieldAddr q18 true 4 7 ?_
  refine zdgLoad q18 true 5 8 ?_
  refine zdgBinOp q18 true 6 9 ?_
  refine zdPick q18 true 7 10 ?_
  refine zdMove q18 true 8 11 ?_
  refine zdgFieldAddr q18 true 9 12 ?_
  refine zdgLoad q18 true 10 13 ?_
  refine zdgFieldAddr q18 true 12 15 ?_
  refine zdgLoad q18 true 13 16 ?_
  first
  |(refine aAny_pass 11 14 8 true rfl rfl (show 14 < 21 by decide) (by kernel_rfl) rfl ?_ ?_; focus (first | rfl | (simp only [zV, guardV, Nat.reduceEqDiff, reduceIte]; done)); simp only [zW, set_some, Nat.reduceEqDiff, reduceIte])
  |skip
   refine aAny_only 11 rfl (by kernel_rfl) ?_; intro K k
   simp only [zE, zO, zV, zN, aStepM, optable, set_some, Nat.reduceEqDiff, reduceIte, Nat.reduceLT, implies_true, forall_const, reduceCtorEq, V.ofValue, V.ofScalar, V.un, V.gd, guardV, V.wrap, aExec, aop, litElems, rng0, rng1, rng2, rng3, rng4, List.map_cons, List.map_nil, List.all_cons, List.all_nil, V.isVal, V.cells, content, kindAll, V.noRef, V.noSl, List.mem_cons, List.not_mem_nil, or_false, forall_eq_or_imp, forall_eq, if_true, Option.isSome_some, List.length_cons, List.length_nil, Nat.reduceAdd, Nat.reduceLeDiff, Nat.reduceMul, Tryz.underlying3, Ty.c3, Ty.a3, Ty.z3, Tryz.underlying32, Ty.c32, Ty.a32, Ty.z32, d0, d4]
   repeat (refine And.intro (by first | omega | (intros; omega) | (intros; simp_all; done) | (intros; simp_all; omega)) ?_)
   refine k _ ?_; clear k K
  refine zdgIndexAddr q18 true 14 17 ?_
  refine zdgLoad q18 true 15 18 ?_
  refine zdgBinOp q18 true 16 19 ?_
  refine zdPick q18 true 17 20 ?_
  refine zoAssign 18 ⟨?_⟩
  refine aAny_done (by kernel_rfl) ?_
  refine k18 _ ?_
  refine n17 _ _ (weak_keep [2] _) ?_
  refine zk ⟨?_⟩
  refine v_ret ?_
  refine r0 _ ?_
  refine zf ⟨?_⟩
  exact ret_pure rfl (by first | (simp [availB, crewMin]; done) | (simp [availB, crewMin, d0, d4]; done) | (simp [availB, crewMin] at d0 d4 ⊢; simp [*]; done)) (.inl rfl)
 ·skip
  subst h4
  have d0 : decide ((0 : Int) = 4) = false := rfl
  refine v_seqR [1] ?_; intro K19 k19
  have F := Fc.mk (And.intro d0 (And.intro @decide_true @Bool.true_or))
  refine zBox ⟨?_⟩
  refine zAssign ⟨?_⟩
  refine k19 _ ?_
  refine zk ⟨?_⟩
  refine v_seq ?_; intro Q20 n20 e20 r20
  refine v_draw (by kernel_rfl) ?_; intro K21 q21 k21
  show aAny _ _ _ _ 19 (Array.replicate 19 false) _
  refine zdFieldAddr q21 true 0 3 ?_
  refine zdLoad q21 true 1 4 ?_
  refine zdBinOp q21 true 2 5 ?_
  refine zdMove q21 true 3 6 ?_
  refine zdgFieldAddr q21 true 4 7 ?_
  refine zdgLoad q21 true 5 8 ?_
  refine zdgBinOp q21 true 6 9 ?_
  refine zdPick q21 true 7 10 ?_
  refine zdMove q21 true 8 11 ?_
  refine zdgFieldAddr q21 true 9 12 ?_
  refine zdgLoad q21 true 10 13 ?_
  refine zdgFieldAddr q21 true 12 15 ?_
  refine zdgLoad q21 true 13 16 ?_
  first
  |(refine aAny_pass 11 14 8 true rfl rfl (show 14 < 21 by decide) (by kernel_rfl) rfl ?_ ?_; focus (first | rfl | (simp only [zV, guardV, Nat.reduceEqDiff, reduceIte]; done)); simp only [zW, set_some, Nat.reduceEqDiff, reduceIte])
  |skip
   refine aAny_only 11 rfl (by kernel_rfl) ?_; intro K k
   simp only [zE, zO, zV, zN, aStepM, optable, set_some, Nat.reduceEqDiff, reduceIte, Nat.reduceLT, implies_true, forall_const, reduceCtorEq, V.ofValue, V.ofScalar, V.un, V.gd, guardV, V.wrap, aExec, aop, litElems, rng0, rng1, rng2, rng3, rng4, List.map_cons, List.map_nil, List.all_cons, List.all_nil, V.isVal, V.cells, content, kindAll, V.noRef, V.noSl, List.mem_cons, List.not_mem_nil, or_false, forall_eq_or_imp, forall_eq, if_true, Option.isSome_some, List.length_cons, List.length_nil, Nat.reduceAdd, Nat.reduceLeDiff, Nat.reduceMul, Tryz.underlying3, Ty.c3, Ty.a3, Ty.z3, Tryz.underlying32, Ty.c32, Ty.a32, Ty.z32, d0]
   repeat (refine And.intro (by first | omega | (intros; omega) | (intros; simp_all; done) | (intros; simp_all; omega)) ?_)
   refine k _ ?_; clear k K
  refine zdgIndexAddr q21 true 14 17 ?_
  refine zdgLoad q21 true 15 18 ?_
  refine zdgBinOp q21 true 16 19 ?_
  refine zdPick q21 true 17 20 ?_
  refine zoAssign 18 ⟨?_⟩
  refine aAny_done (by kernel_rfl) ?_
  refine k21 _ ?_
  refine n20 _ _ (weak_keep [2] _) ?_
  refine zk ⟨?_⟩
  refine v_ret ?_
  refine r0 _ ?_
  refine zf ⟨?_⟩
  exact ret_pure rfl (by first | (simp [availB, crewMin]; done) | (simp [availB, crewMin, d0, d4]; done) | (simp [availB, crewMin] at d0 d4 ⊢; simp [*]; done)) (.inl rfl)
 ·skip
  subst h4
  have d0 : decide ((4 : Int) = 0) = false := rfl
  have d4 : decide ((4 : Int) = 4) = true := rfl
  refine v_seqR [1] ?_; intro K22 k22
  have F := Fc.mk (And.intro d0 (And.intro d4 (And.intro @decide_true @Bool.or_true)))
  refine zBox ⟨?_⟩
  refine zAssign ⟨?_⟩
  refine k22 _ ?_
  refine zk ⟨?_⟩
  refine v_seq ?_; intro Q23 n23 e23 r23
  refine v_draw (by kernel_rfl) ?_; intro K24 q24 k24
  show aAny _ _ _ _ 19 (Array.replicate 19 false) _
  refine zdFieldAddr q24 true 0 3 ?_
  refine zdLoad q24 true 1 4 ?_
  refine zdBinOp q24 true 2 5 ?_
  refine zdMove q24 true 3 6 ?_
  refine zdgFieldAddr q24 true 4 7 ?_
  refine zdgLoad q24 true 5 8 ?_
  refine zdgBinOp q24 true 6 9 ?_
  refine zdPick q24 true 7 10 ?_
  refine zdMove q24 true 8 11 ?_
  refine zdgFieldAddr q24 true 9 12 ?_
  refine zdgLoad q24 true 10 13 ?_
  refine zdgFieldAddr q24 true 12 15 ?_
  refine zdgLoad q24 true 13 16 ?_
  first
  |(refine aAny_pass 11 14 8 true rfl rfl (show 14 < 21 by decide) (by kernel_rfl) rfl ?_ ?_; focus (first | rfl | (simp only [zV, guardV, Nat.reduceEqDiff, reduceIte]; done)); simp only [zW, set_some, Nat.reduceEqDiff, reduceIte])
  |skip
   refine aAny_only 11 rfl (by kernel_rfl) ?_; intro K k
   simp only [zE, zO, zV, zN, aStepM, optable, set_some, Nat.reduceEqDiff, reduceIte, Nat.reduceLT, implies_true, forall_const, reduceCtorEq, V.ofValue, V.ofScalar, V.un, V.gd, guardV, V.wrap, aExec, aop, litElems, rng0, rng1, rng2, rng3, rng4, List.map_cons, List.map_nil, List.all_cons, List.all_nil, V.isVal, V.cells, content, kindAll, V.noRef, V.noSl, List.mem_cons, List.not_mem_nil, or_false, forall_eq_or_imp, forall_eq, if_true, Option.isSome_some, List.length_cons, List.length_nil, Nat.reduceAdd, Nat.reduceLeDiff, Nat.reduceMul, Tryz.underlying3, Ty.c3, Ty.a3, Ty.z3, Tryz.underlying32, Ty.c32, Ty.a32, Ty.z32, d0, d4]
   repeat (refine And.intro (by first | omega | (intros; omega) | (intros; simp_all; done) | (intros; simp_all; omega)) ?_)
   refine k _ ?_; clear k K
  refine zdgIndexAddr q24 true 14 17 ?_
  refine zdgLoad q24 true 15 18 ?_
  refine zdgBinOp q24 true 16 19 ?_
  refine zdPick q24 true 17 20 ?_
  refine zoAssign 18 ⟨?_⟩
  refine aAny_done (by kernel_rfl) ?_
  refine k24 _ ?_
  refine n23 _ _ (weak_keep [2] _) ?_
  refine zk ⟨?_⟩
  refine v_ret ?_
  refine r0 _ ?_
  refine zf ⟨?_⟩
  exact ret_pure rfl (by first | (simp [availB, crewMin]; done) | (simp [availB, crewMin, d0, d4]; done) | (simp [availB, crewMin] at d0 d4 ⊢; simp [*]; done)) (.inl rfl)
 ·skip
  have d0 : decide (x4 = 0) = false := decide_eq_false (fun h => h4 (.inl h))
  have d4 : decide (x4 = 4) = false := decide_eq_false (fun h => h4 (.inr h))
  refine v_seqR [1] ?_; intro K25 k25
  have F := Fc.mk (And.intro d0 d4)
  refine zBox ⟨?_⟩
  refine zAssign ⟨?_⟩
  refine k25 _ ?_
  refine zk ⟨?_⟩
  refine v_seq ?_; intro Q26 n26 e26 r26
  refine v_draw (by kernel_rfl) ?_; intro K27 q27 k27
  show aAny _ _ _ _ 19 (Array.replicate 19 false) _
  refine zdFieldAddr q27 true 0 3 ?_
  refine zdLoad q27 true 1 4 ?_
  refine zdBinOp q27 true 2 5 ?_
  refine zdMove q27 true 3 6 ?_
  refine zdgFieldAddr q27 true 4 7 ?_
  refine zdgLoad q27 true 5 8 ?_
  refine zdgBinOp q27 true 6 9 ?_
  refine zdPick q27 true 7 10 ?_
  refine zdMove q27 true 8 11 ?_
  refine zdgFieldAddr q27 true 9 12 ?_
  refine zdgLoad q27 true 10 13 ?_
  refine zdgFieldAddr q27 true 12 15 ?_
  refine zdgLoad q27 true 13 16 ?_
  first
  |(refine aAny_pass 11 14 8 true rfl rfl (show 14 < 21 by decide) (by kernel_rfl) rfl ?_ ?_; focus (first | rfl | (simp only [zV, guardV, Nat.reduceEqDiff, reduceIte]; done)); simp only [zW, set_some, Nat.reduceEqDiff, reduceIte])
  |skip
   refine aAny_only 11 rfl (by kernel_rfl) ?_; intro K k
   simp only [zE, zO, zV, zN, aStepM, optable, set_some, Nat.reduceEqDiff, reduceIte, Nat.reduceLT, implies_true, forall_const, reduceCtorEq, V.ofValue, V.ofScalar, V.un, V.gd, guardV, V.wrap, aExec, aop, litElems, rng0, rng1, rng2, rng3, rng4, List.map_cons, List.map_nil, List.all_cons, List.all_nil, V.isVal, V.cells, content, kindAll, V.noRef, V.noSl, List.mem_cons, List.not_mem_nil, or_false, forall_eq_or_imp, forall_eq, if_true, Option.isSome_some, List.length_cons, List.length_nil, Nat.reduceAdd, Nat.reduceLeDiff, Nat.reduceMul, Tryz.underlying3, Ty.c3, Ty.a3, Ty.z3, Tryz.underlying32, Ty.c32, Ty.a32, Ty.z32, d0, d4]
   repeat (refine And.intro (by first | omega | (intros; omega) | (intros; simp_all; done) | (intros; simp_all; omega)) ?_)
   refine k _ ?_; clear k K
  refine zdgIndexAddr q27 true 14 17 ?_
  refine zdgLoad q27 true 15 18 ?_
  refine zdgBinOp q27 true 16 19 ?_
  refine zdPick q27 true 17 20 ?_
  refine zoAssign 18 ⟨?_⟩
  refine aAny_done (by kernel_rfl) ?_
  refine k27 _ ?_
  refine n26 _ _ (weak_keep [2] _) ?_
  refine zk ⟨?_⟩
  refine v_ret ?_
  refine r0 _ ?_
  refine zf ⟨?_⟩
  exact ret_pure rfl (by first | (simp [availB, crewMin]; done) | (simp [availB, crewMin, d0, d4]; done) | (simp [availB, crewMin] at d0 d4 ⊢; simp [*]; done)) (.inl rfl)
 ·skip
  subst h4
  have d0 : decide ((0 : Int) = 4) = false := rfl
  refine v_seqR [1] ?_; intro K28 k28
  have F := Fc.mk (And.intro d0 (And.intro @decide_true @Bool.true_or))
  refine zBox ⟨?_⟩
  refine zAssign ⟨?_⟩
  refine k28 _ ?_
  refine zk ⟨?_⟩
  refine v_seq ?_; intro Q29 n29 e29 r29
  refine v_draw (by kernel_rfl) ?_; intro K30 q30 k30
  show aAny _ _ _ _ 19 (Array.replicate 19 false) _
  refine zdFieldAddr q30 true 0 3 ?_
  refine zdLoad q30 true 1 4 ?_
  refine zdBinOp q30 true 2 5 ?_
  refine zdMove q30 true 3 6 ?_
  refine zdgFieldAddr q30 true 4 7 ?_
  refine zdgLoad q30 true 5 8 ?_
  refine zdgBinOp q30 true 6 9 ?_
  refine zdPick q30 true 7 10 ?_
  refine zdMove q30 true 8 11 ?_
  refine zdgFieldAddr q30 true 9 12 ?_
  refine zdgLoad q30 true 10 13 ?_
  refine zdgFieldAddr q30 true 12 15 ?_
  refine zdgLoad q30 true 13 16 ?_
  first
  |(refine aAny_pass 11 14 8 true rfl rfl (show 14 < 21 by decide) (by kernel_rfl) rfl ?_ ?_; focus (first | rfl | (simp only [zV, guardV, Nat.reduceEqDiff, reduceIte]; done)); simp only [zW, set_some, Nat.reduceEqDiff, reduceIte])
  |skip
   refine aAny_only 11 rfl (by kernel_rfl) ?_; intro K k
   simp only [zE, zO, zV, zN, aStepM, optable, set_some, Nat.reduceEqDiff, reduceIte, Nat.reduceLT, implies_true, forall_const, reduceCtorEq, V.ofValue, V.ofScalar, V.un, V.gd, guardV, V.wrap, aExec, aop, litElems, rng0, rng1, rng2, rng3, rng4, List.map_cons, List.map_nil, List.all_cons, List.all_nil, V.isVal, V.cells, content, kindAll, V.noRef, V.noSl, List.mem_cons, List.not_mem_nil, or_false, forall_eq_or_imp, forall_eq, if_true, Option.isSome_some, List.length_cons, List.length_nil, Nat.reduceAdd, Nat.reduceLeDiff, Nat.reduceMul, Tryz.underlying3, Ty.c3, Ty.a3, Ty.z3, Tryz.underlying32, Ty.c32, Ty.a32, Ty.z32, d0]
   repeat (refine And.intro (by first | omega | (intros; omega) | (intros; simp_all; done) | (intros; simp_all; omega)) ?_)
   refine k _ ?_; clear k K
  refine zdgIndexAddr q30 true 14 17 ?_
  refine zdgLoad q30 true 15 18 ?_
  refine zdgBinOp q30 true 16 19 ?_
  refine zdPick q30 true 17 20 ?_
  refine zoAssign 18 ⟨?_⟩
  refine aAny_done (by kernel_rfl) ?_
  refine k30 _ ?_
  refine n29 _ _ (weak_keep [2] _) ?_
  refine zk ⟨?_⟩
  refine v_ret ?_
  refine r0 _ ?_
  refine zf ⟨?_⟩
  exact ret_pure rfl (by first | (simp [availB, crewMin]; done) | (simp [availB, crewMin, d0, d4]; done) | (simp [availB, crewMin] at d0 d4 ⊢; simp [*]; done)) (.inl rfl)
 ·skip
  subst h4
  have d0 : decide ((4 : Int) = 0) = false := rfl
  have d4 : decide ((4 : Int) = 4) = true := rfl
  refine v_seqR [1] ?_; intro K31 k31
  have F := Fc.mk (And.intro d0 (And.intro d4 (And.intro @decide_true @Bool.or_true)))
  refine zBox ⟨?_⟩
  refine zAssign ⟨?_⟩
  refine k31 _ ?_
  refine zk ⟨?_⟩
  refine v_seq ?_; intro Q32 n32 e32 r32
  refine v_draw (by kernel_rfl) ?_; intro K33 q33 k33
  show aAny _ _ _ _ 19 (Array.replicate 19 false) _
  refine zdFieldAddr q33 true 0 3 ?_
  refine zdLoad q33 true 1 4 ?_
  refine zdBinOp q33 true 2 5 ?_
  refine zdMove q33 true 3 6 ?_
  refine zdgFieldAddr q33 true 4 7 ?_
  refine zdgLoad q33 true 5 8 ?_
  refine zdgBinOp q33 true 6 9 ?_
  refine zdPick q33 true 7 10 ?_
  refine zdMove q33 true 8 11 ?_
  refine zdgFieldAddr q33 true 9 12 ?_
  refine zdgLoad q33 true 10 13 ?_
  refine zdgFieldAddr q33 true 12 15 ?_
  refine zdgLoad q33 true 13 16 ?_
  first
  |(refine aAny_pass 11 14 8 true rfl rfl (show 14 < 21 by decide) (by kernel_rfl) rfl ?_ ?_; focus (first | rfl | (simp only [zV, guardV, Nat.reduceEqDiff, reduceIte]; done)); simp only [zW, set_some, Nat.reduceEqDiff, reduceIte])
  |skip
   refine aAny_only 11 rfl (by kernel_rfl) ?_; intro K k
   simp only [zE, zO, zV, zN, aStepM, optable, set_some, Nat.reduceEqDiff, reduceIte, Nat.reduceLT, implies_true, forall_const, reduceCtorEq, V.ofValue, V.ofScalar, V.un, V.gd, guardV, V.wrap, aExec, aop, litElems, rng0, rng1, rng2, rng3, rng4, List.map_cons, List.map_nil, List.all_cons, List.all_nil, V.isVal, V.cells, content, kindAll, V.noRef, V.noSl, List.mem_cons, List.not_mem_nil, or_false, forall_eq_or_imp, forall_eq, if_true, Option.isSome_some, List.length_cons, List.length_nil, Nat.reduceAdd, Nat.reduceLeDiff, Nat.reduceMul, Tryz.underlying3, Ty.c3, Ty.a3, Ty.z3, Tryz.underlying32, Ty.c32, Ty.a32, Ty.z32, d0, d4]
   repeat (refine And.intro (by first | omega | (intros; omega) | (intros; simp_all; done) | (intros; simp_all; omega)) ?_)
   refine k _ ?_; clear k K
  refine zdgIndexAddr q33 true 14 17 ?_
  refine zdgLoad q33 true 15 18 ?_
  refine zdgBinOp q33 true 16 19 ?_
  refine zdPick q33 true 17 20 ?_
  refine zoAssign 18 ⟨?_⟩
  refine aAny_done (by kernel_rfl) ?_
  refine k33 _ ?_
  refine n32 _ _ (weak_keep [2] _) ?_
  refine zk ⟨?_⟩
  refine v_ret ?_
  refine r0 _ ?_
  refine zf ⟨?_⟩
  exact ret_pure rfl (by first | (simp [availB, crewMin]; done) | (simp [availB, crewMin, d0, d4]; done) | (simp [availB, crewMin] at d0 d4 ⊢; simp [*]; done)) (.inl rfl)
 ·skip
  have d0 : decide (x4 = 0) = false := decide_eq_false (fun h => h4 (.inl h))
  have d4 : decide (x4 = 4) = false := decide_eq_false (fun h => h4 (.inr h))
  refine v_seqR [1] ?_; intro K34 k34
  have F := Fc.mk (And.intro d0 d4)
  refine zBox ⟨?_⟩
  refine zAssign ⟨?_⟩
  refine k34 _ ?_
  refine zk ⟨?_⟩
  refine v_seq ?_; intro Q35 n35 e35 r35
  refine v_draw (by kernel_rfl) ?_; intro K36 q36 k36
  show aAny _ _ _ _ 19 (Array.replicate 19 false) _
  refine zdFieldAddr q36 true 0 3 ?_
  refine zdLoad q36 true 1 4 ?_
  refine zdBinOp q36 true 2 5 ?_
  refine zdMove q36 true 3 6 ?_
  refine zdgFieldAddr q36 true 4 7 ?_
  refine zdgLoad q36 true 5 8 ?_
  refine zdgBinOp q36 true 6 9 ?_
  refine zdPick q36 true 7 10 ?_
  refine zdMove q36 true 8 11 ?_
  refine zdgFieldAddr q36 true 9 12 ?_
  refine zdgLoad q36 true 10 13 ?_
  refine zdgFieldAddr q36 true 12 15 ?_
  refine zdgLoad q36 true 13 16 ?_
  first
  |(refine aAny_pass 11 14 8 true rfl rfl (show 14 < 21 by decide) (by kernel_rfl) rfl ?_ ?_; focus (first | rfl | (simp only [zV, guardV, Nat.reduceEqDiff, reduceIte]; done)); simp only [zW, set_some, Nat.reduceEqDiff, reduceIte])
  |skip
   refine aAny_only 11 rfl (by kernel_rfl) ?_; intro K k
   simp only [zE, zO, zV, zN, aStepM, optable, set_some, Nat.reduceEqDiff, reduceIte, Nat.reduceLT, implies_true, forall_const, reduceCtorEq, V.ofValue, V.ofScalar, V.un, V.gd, guardV, V.wrap, aExec, aop, litElems, rng0, rng1, rng2, rng3, rng4, List.map_cons, List.map_nil, List.all_cons, List.all_nil, V.isVal, V.cells, content, kindAll, V.noRef, V.noSl, List.mem_cons, List.not_mem_nil, or_false, forall_eq_or_imp, forall_eq, if_true, Option.isSome_some, List.length_cons, List.length_nil, Nat.reduceAdd, Nat.reduceLeDiff, Nat.reduceMul, Tryz.underlying3, Ty.c3, Ty.a3, Ty.z3, Tryz.underlying32, Ty.c32, Ty.a32, Ty.z32, d0, d4]
   repeat (refine And.intro (by first | omega | (intros; omega) | (intros; simp_all; done) | (intros; simp_all; omega)) ?_)
   refine k _ ?_; clear k K
  refine zdgIndexAddr q36 true 14 17 ?_
  refine zdgLoad q36 true 15 18 ?_
  refine zdgBinOp q36 true 16 19 ?_
  refine zdPick q36 true 17 20 ?_
  refine zoAssign 18 ⟨?_⟩
  refine aAny_done (by kernel_rfl) ?_
  refine k36 _ ?_
  refine n35 _ _ (weak_keep [2] _) ?_
  refine zk ⟨?_⟩
  refine v_ret ?_
  refine r0 _ ?_
  refine zf ⟨?_⟩
  exact ret_pure rfl (by first | (simp [availB, crewMin]; done) | (simp [availB, crewMin, d0, d4]; done) | (simp [availB, crewMin] at d0 d4 ⊢; simp [*]; done)) (.inl rfl)
end Go.Proofs.YtdgenniiidgimaaGreat
