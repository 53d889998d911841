/- What functions compute (Fleet). No condition. -/
import Derived.Test.YtdgenniiidgimaaTy
import Derived.Test.YtdgenniiidgimaaVmG
import Derived.Test.YtdgenniiidgimaaWChain
import Derived.Test.YtdgenniiidgimaaWNames
import Derived.Test.YtdgenniiidgimaaWCmp
import Derived.Test.YtdgenniiidgimaaWTurn
import Derived.Test.YtdgenniiidgimaaWBase
set_option linter.unusedSimpArgs false
set_option linter.unusedVariables false
set_option linter.defProp false
namespace Go.Proofs.Ytdgenniiidgimaa
open Go Go.Vm

def apOK (x : (ByteArray × Int × Int × Int × Int)) : Bool := nameB x.1 && (decide (0 ≤ x.2.1) && decide (x.2.1 ≤ 3)) && (decide (0 ≤ x.2.2.1) && decide (x.2.2.1 ≤ 13)) && (decide (1 ≤ x.2.2.2.1) && decide (x.2.2.2.1 ≤ 9)) && (decide (0 ≤ x.2.2.2.2) && decide (x.2.2.2.2 ≤ 5))
def apBf (x y : (ByteArray × Int × Int × Int × Int)) : Bool := strLt x.1 y.1
def fleetB (l : List (ByteArray × Int × Int × Int × Int)) : Bool := chainAt apOK apBf l 0 && decide ((l.length : Int) ≤ 12)
theorem fleet_len {l : List (ByteArray × Int × Int × Int × Int)} (h : fleetB l = true) : l.length ≤ 12 := by
  simp only [fleetB, Bool.and_eq_true, decide_eq_true_eq] at h
  omega

set_option maxHeartbeats 1000000 in
theorem apState_con (n : Int) : Con Try.prog 225 [.int .i64 n] [] (.bool (decide (0 ≤ n) && decide (n ≤ 5))) [] := by
 refine v_con [.tmp 2] [] Try.func225 rfl rfl rfl (by simp [Try.ntmps225]) ?_
 intro Q0 n0 r0
 simp only [Try.ntmps225, envFrom, Nat.reduceAdd]
 have T := Tys.mk (And.intro Ty.t3 Ty.t4)
 have F := Fc.mk True.intro
 refine v_seq ?_; intro Q1 n1 e1 r1
 refine v_region ?_; intro K2 k2
 refine zAssign ⟨?_⟩
 refine k2 _ ?_
 refine n1 _ _ (weak_keep [0] _) ?_
 refine zk ⟨?_⟩
 refine v_seq ?_; intro Q3 n3 e3 r3
 refine v_region ?_; intro K4 k4
 refine zMove ⟨?_⟩
 refine zc (l1In_con _ _ _) ⟨?_⟩
 refine zAssign ⟨?_⟩
 refine k4 _ ?_
 refine n3 _ _ (weak_keep [2] _) ?_
 refine zk ⟨?_⟩
 refine v_ret ?_
 refine r0 _ ?_
 refine zf ⟨?_⟩
 exact ret_pure rfl (by first | rfl | simp) (.inl rfl)
set_option maxHeartbeats 1000000 in
theorem isState_con (n : Int) : Con Try.prog 218 [.int .i64 n] [] (.bool (decide (0 ≤ n) && decide (n ≤ 5))) [] := by
 refine v_con [.tmp 2] [] Try.func218 rfl rfl rfl (by simp [Try.ntmps218]) ?_
 intro Q0 n0 r0
 simp only [Try.ntmps218, envFrom, Nat.reduceAdd]
 have T := Tys.mk (And.intro Ty.t3 Ty.t4)
 have F := Fc.mk True.intro
 refine v_seq ?_; intro Q1 n1 e1 r1
 refine v_region ?_; intro K2 k2
 refine zAssign ⟨?_⟩
 refine k2 _ ?_
 refine n1 _ _ (weak_keep [0] _) ?_
 refine zk ⟨?_⟩
 refine v_seq ?_; intro Q3 n3 e3 r3
 refine v_region ?_; intro K4 k4
 refine zMove ⟨?_⟩
 refine zc (inside_con _ _ _) ⟨?_⟩
 refine zAssign ⟨?_⟩
 refine k4 _ ?_
 refine n3 _ _ (weak_keep [2] _) ?_
 refine zk ⟨?_⟩
 refine v_ret ?_
 refine r0 _ ?_
 refine zf ⟨?_⟩
 exact ret_pure rfl (by first | rfl | simp) (.inl rfl)
set_option maxHeartbeats 1000000 in
theorem apNode_con (n : Int) : Con Try.prog 223 [.int .i64 n] [] (.bool (decide (0 ≤ n) && decide (n ≤ 13))) [] := by
 refine v_con [.tmp 2] [] Try.func223 rfl rfl rfl (by simp [Try.ntmps223]) ?_
 intro Q0 n0 r0
 simp only [Try.ntmps223, envFrom, Nat.reduceAdd]
 have T := Tys.mk (And.intro Ty.t3 Ty.t4)
 have F := Fc.mk True.intro
 refine v_seq ?_; intro Q1 n1 e1 r1
 refine v_region ?_; intro K2 k2
 refine zAssign ⟨?_⟩
 refine k2 _ ?_
 refine n1 _ _ (weak_keep [0] _) ?_
 refine zk ⟨?_⟩
 refine v_seq ?_; intro Q3 n3 e3 r3
 refine v_region ?_; intro K4 k4
 refine zMove ⟨?_⟩
 refine zc (l1In_con _ _ _) ⟨?_⟩
 refine zAssign ⟨?_⟩
 refine k4 _ ?_
 refine n3 _ _ (weak_keep [2] _) ?_
 refine zk ⟨?_⟩
 refine v_ret ?_
 refine r0 _ ?_
 refine zf ⟨?_⟩
 exact ret_pure rfl (by first | rfl | simp) (.inl rfl)
set_option maxHeartbeats 1000000 in
theorem apGood_con (x0 : ByteArray) (x1 : Int) (x2 : Int) (x3 : Int) (x4 : Int) (hs : x0.size ≤ 9223372036854775807) : Con Try.prog 215 [.agg [V.str x0, V.int .i64 x1, V.int .i64 x2, V.int .i64 x3, V.int .i64 x4]] [] (.bool (apOK (x0, x1, x2, x3, x4))) [] := by
 refine v_con [.tmp 2] [] Try.func215 rfl rfl rfl (by simp [Try.ntmps215]) ?_
 intro Q0 n0 r0
 simp only [Try.ntmps215, envFrom, Nat.reduceAdd]
 have T := Tys.mk (And.intro Ty.t3 (And.intro Ty.t4 (And.intro Ty.t9 Ty.t141)))
 have F := Fc.mk True.intro
 refine v_seq ?_; intro Q1 n1 e1 r1
 refine v_region ?_; intro K2 k2
 refine zBox ⟨?_⟩
 refine zAssign ⟨?_⟩
 refine k2 _ ?_
 refine n1 _ _ (weak_keep [1] _) ?_
 refine zk ⟨?_⟩
 refine v_seq ?_; intro Q3 n3 e3 r3
 refine v_region ?_; intro K4 k4
 refine zFieldAddr ⟨?_⟩
 refine zLoad ⟨?_⟩
 refine zc (apName_con _ hs) ⟨?_⟩
 refine zMove ⟨?_⟩
 refine zgFieldAddr ⟨?_⟩
 refine zgLoad ⟨?_⟩
 refine zgc (l1In_con _ _ _) ⟨?_⟩
 refine zPick ⟨?_⟩
 refine zMove ⟨?_⟩
 refine zgFieldAddr ⟨?_⟩
 refine zgLoad ⟨?_⟩
 refine zgc (apNode_con _) ⟨?_⟩
 refine zPick ⟨?_⟩
 refine zMove ⟨?_⟩
 refine zgFieldAddr ⟨?_⟩
 refine zgLoad ⟨?_⟩
 refine zgc (l1In_con _ _ _) ⟨?_⟩
 refine zPick ⟨?_⟩
 refine zMove ⟨?_⟩
 refine zgFieldAddr ⟨?_⟩
 refine zgLoad ⟨?_⟩
 refine zgc (apState_con _) ⟨?_⟩
 refine zPick ⟨?_⟩
 refine zAssign ⟨?_⟩
 refine k4 _ ?_
 refine n3 _ _ (weak_keep [2] _) ?_
 refine zk ⟨?_⟩
 refine v_ret ?_
 refine r0 _ ?_
 refine zf ⟨?_⟩
 exact ret_pure rfl (by first | rfl | simp [apOK, Bool.and_assoc]) (.inl rfl)
set_option maxHeartbeats 1000000 in
theorem isAppliance_con (x0 : ByteArray) (x1 : Int) (x2 : Int) (x3 : Int) (x4 : Int) (hs : x0.size ≤ 9223372036854775807) : Con Try.prog 202 [.agg [V.str x0, V.int .i64 x1, V.int .i64 x2, V.int .i64 x3, V.int .i64 x4]] [] (.bool (apOK (x0, x1, x2, x3, x4))) [] := by
 refine v_con [.tmp 2] [] Try.func202 rfl rfl rfl (by simp [Try.ntmps202]) ?_
 intro Q0 n0 r0
 simp only [Try.ntmps202, envFrom, Nat.reduceAdd]
 have T := Tys.mk (And.intro Ty.t3 (And.intro Ty.t4 (And.intro Ty.t9 Ty.t141)))
 have F := Fc.mk True.intro
 refine v_seq ?_; intro Q1 n1 e1 r1
 refine v_region ?_; intro K2 k2
 refine zBox ⟨?_⟩
 refine zAssign ⟨?_⟩
 refine k2 _ ?_
 refine n1 _ _ (weak_keep [1] _) ?_
 refine zk ⟨?_⟩
 refine v_seq ?_; intro Q3 n3 e3 r3
 refine v_region ?_; intro K4 k4
 refine zFieldAddr ⟨?_⟩
 refine zLoad ⟨?_⟩
 refine zc (isName_con _ hs) ⟨?_⟩
 refine zMove ⟨?_⟩
 refine zgFieldAddr ⟨?_⟩
 refine zgLoad ⟨?_⟩
 refine zgc (inside_con _ _ _) ⟨?_⟩
 refine zPick ⟨?_⟩
 refine zMove ⟨?_⟩
 refine zgFieldAddr ⟨?_⟩
 refine zgLoad ⟨?_⟩
 refine zgc (inside_con _ _ _) ⟨?_⟩
 refine zPick ⟨?_⟩
 refine zMove ⟨?_⟩
 refine zgFieldAddr ⟨?_⟩
 refine zgLoad ⟨?_⟩
 refine zgc (inside_con _ _ _) ⟨?_⟩
 refine zPick ⟨?_⟩
 refine zMove ⟨?_⟩
 refine zgFieldAddr ⟨?_⟩
 refine zgLoad ⟨?_⟩
 refine zgc (isState_con _) ⟨?_⟩
 refine zPick ⟨?_⟩
 refine zAssign ⟨?_⟩
 refine k4 _ ?_
 refine n3 _ _ (weak_keep [2] _) ?_
 refine zk ⟨?_⟩
 refine v_ret ?_
 refine r0 _ ?_
 refine zf ⟨?_⟩
 exact ret_pure rfl (by first | rfl | simp [apOK, Bool.and_assoc]) (.inl rfl)
set_option maxHeartbeats 1000000 in
theorem apFleet_con (fl : List (ByteArray × Int × Int × Int × Int)) (hl : fl.length ≤ 1048576) (hls : ∀ t ∈ fl, t.1.size ≤ 9223372036854775807) : Con Try.prog 199 [.sl (fl.map (fun t : ByteArray × Int × Int × Int × Int => V.agg [V.str t.1, V.int .i64 t.2.1, V.int .i64 t.2.2.1, V.int .i64 t.2.2.2.1, V.int .i64 t.2.2.2.2]))] [] (.bool (fleetB fl)) [] := by
 refine v_con [.tmp 2] [] Try.func199 rfl rfl rfl (by simp [Try.ntmps199]) ?_
 intro Q0 n0 r0
 simp only [Try.ntmps199, envFrom, Nat.reduceAdd]
 have T := Tys.mk (And.intro Ty.t3 (And.intro Ty.t4 (And.intro Ty.t9 (And.intro Ty.t74 Ty.t141))))
 have F := Fc.mk True.intro
 refine v_seq ?_; intro Q1 n1 e1 r1
 refine v_region ?_; intro K2 k2
 refine zAssign ⟨?_⟩
 refine k2 _ ?_
 refine n1 _ _ (weak_keep [0] _) ?_
 refine zk ⟨?_⟩
 refine v_seq ?_; intro Q3 n3 e3 r3
 refine v_seq ?_; intro Q4 n4 e4 r4
 refine v_region ?_; intro K5 k5
 refine zMove ⟨?_⟩
 refine zLen ⟨?_⟩
 refine zMove ⟨?_⟩
 refine k5 _ ?_
 refine n4 _ _ (weak_keep [0, 5, 6, 7] _) ?_
 refine zk ⟨?_⟩
 refine v_block ?_; intro Q6 n6 x6 e6 r6
 refine v_loop (fun i => ⟨[(0, .sl (fl.map (fun t : ByteArray × Int × Int × Int × Int => V.agg [V.str t.1, V.int .i64 t.2.1, V.int .i64 t.2.2.1, V.int .i64 t.2.2.2.1, V.int .i64 t.2.2.2.2]))), (5, .sl (fl.map (fun t : ByteArray × Int × Int × Int × Int => V.agg [V.str t.1, V.int .i64 t.2.1, V.int .i64 t.2.2.1, V.int .i64 t.2.2.2.1, V.int .i64 t.2.2.2.2]))), (6, .int .i64 fl.length), (7, .int .i64 (Nat.cast i))], [], false, 34, 0⟩) (fun i => i ≤ fl.length ∧ chainAt apOK apBf fl i = chainAt apOK apBf fl 0) (fun i => fl.length - i) 0 ?_ ?_ ?_
 ·refine weak_of [0, 5, 6, 7] ?_
  simp only [keep_mk, keepE_nil, keepE_cons, look_cons, look_nil, Nat.reduceEqDiff, reduceIte]
  rfl
 ·exact ⟨Nat.zero_le _, rfl⟩
 ·rintro i hok7 Q7 n7 e7 r7
  obtain ⟨hi1, hR⟩ := hok7
  refine v_seq ?_; intro Q8 n8 e8 r8
  refine v_region ?_; intro K9 k9
  refine zBinOp ⟨?_⟩
  refine k9 _ ?_
  refine n8 _ _ (weak_keep [0, 5, 6, 7, 8] _) ?_
  refine zk ⟨?_⟩
  refine v_seq ?_; intro Q10 n10 e10 r10
  refine v_condS _ rfl ?_ ?_
  ·intro hc0
   have hlt : i < fl.length := by omega
   obtain ⟨⟨x0, x1, x2, x3, x4⟩, hx⟩ : ∃ x : ByteArray × Int × Int × Int × Int, fl[i]? = some x := ⟨fl[i]'(by omega), List.getElem?_eq_getElem (by omega)⟩
   have hsx := hls _ (List.mem_of_getElem? hx)
   simp only [] at hsx
   rcases Nat.eq_zero_or_pos i with h0 | h0
   ·skip
    have hi0 : ¬ ((0 : Int) < (i : Int)) := by omega
    have hst : chainAt apOK apBf fl i = (apOK (x0, x1, x2, x3, x4) && chainAt apOK apBf fl (i + 1)) := by subst h0; exact chain_zero hx
    refine v_skip ?_
    refine n10 _ _ (weak_keep [0, 5, 6, 7] _) ?_
    refine zk ⟨?_⟩
    refine v_seq ?_; intro Q12 n12 e12 r12
    refine v_block ?_; intro Q13 n13 x13 e13 r13
    refine v_seq ?_; intro Q14 n14 e14 r14
    refine v_region ?_; intro K15 k15
    have F := Fc.mk (And.intro (fun f => getD_map (f := f) hx) (And.intro hi0 (And.intro @decide_false @Bool.and_false)))
    refine zMove ⟨?_⟩
    refine zIndexAddr ⟨?_⟩
    refine zLoad ⟨?_⟩
    refine zAlloc ⟨?_⟩
    refine zAssign ⟨?_⟩
    refine zStore ⟨?_⟩
    refine k15 _ ?_
    refine n14 _ _ (weak_keep [0, 3, 4, 5, 6, 7] _) ?_
    refine zk ⟨?_⟩
    refine v_seq ?_; intro Q16 n16 e16 r16
    refine v_draw (by kernel_rfl) ?_; intro K17 q17 k17
    show aAny _ _ _ _ 18 (Array.replicate 18 false) _
    refine zdLoad q17 true 0 12 ?_
    refine zoc 1 (apGood_con x0 x1 x2 x3 x4 hsx) ⟨?_⟩
    refine zdUnOp q17 true 2 14 ?_
    refine zdMove q17 true 3 15 ?_
    refine zdgMove q17 true 4 16 ?_
    refine zdgBinOp q17 true 5 17 ?_
    refine zdgMove q17 true 6 18 ?_
    refine zdgMove q17 true 7 19 ?_
    refine zdgMove q17 true 8 20 ?_
    refine zdgBinOpW q17 true 9 21 ?_
    refine zdgIndexAddr q17 true 10 22 ?_
    refine zdgFieldAddr q17 true 11 23 ?_
    refine zdgLoad q17 true 12 24 ?_
    refine zdgFieldAddr q17 true 13 25 ?_
    refine zdgLoad q17 true 14 26 ?_
    refine zdgBinOp q17 true 15 27 ?_
    refine zdgPick q17 true 16 28 ?_
    refine zdPick q17 true 17 29 ?_
    refine aAny_done (by kernel_rfl) ?_
    refine k17 _ ?_
    refine n16 _ _ (weak_keep [0, 5, 6, 7, 29] _) ?_
    refine zk ⟨?_⟩
    refine v_condS _ rfl ?_ ?_
    ·intro hc1
     refine v_seq ?_; intro Q19 n19 e19 r19
     refine v_region ?_; intro K20 k20
     refine zAssign ⟨?_⟩
     refine k20 _ ?_
     refine n19 _ _ (weak_keep [2] _) ?_
     refine zk ⟨?_⟩
     refine v_ret ?_
     refine r13 _ ?_
     refine r12 _ ?_
     refine r7 _ ?_
     refine r6 _ ?_
     refine r3 _ ?_
     refine r0 _ ?_
     refine zf ⟨?_⟩
     exact ret_pure rfl (by rw [fleetB, ← hR, hst]; clear hR hst; (try simp at hc1); first | (simp [hc1]; done) | (rcases hc1 with h | h <;> simp [h, apBf]; done) | (simp_all [apBf]; done)) (.inl rfl)
    ·intro hc1
     refine v_skip ?_
     refine n13 _ ?_
     refine n12 _ _ (weak_keep [0, 5, 6, 7] _) ?_
     refine zk ⟨?_⟩
     refine v_region ?_; intro K21 k21
     refine zBinOpW ⟨?_⟩
     refine zMove ⟨?_⟩
     refine k21 _ ?_
     refine n7 _ (i + 1) ?_ ?_ ?_
     ·refine weak_bothS [0, 5, 6, 7] [] ⟨?_⟩
      rfl
     ·exact ⟨by omega, by rw [← hR, hst]; clear hR hst; (try simp at hc1); first | (simp [hc1]; done) | (simp_all [apBf]; done)⟩
     ·show _ < _; omega
   ·skip
    obtain ⟨⟨y0, y1, y2, y3, y4⟩, hy⟩ : ∃ x : ByteArray × Int × Int × Int × Int, fl[i - 1]? = some x := ⟨fl[i - 1]'(by omega), List.getElem?_eq_getElem (by omega)⟩
    have hi0 : (0 : Int) < i := by omega
    have hk : ((i : Int) - 1).toNat = i - 1 := by omega
    have hst := chain_succ (ok := apOK) (bf := apBf) h0 hy hx
    refine v_skip ?_
    refine n10 _ _ (weak_keep [0, 5, 6, 7] _) ?_
    refine zk ⟨?_⟩
    refine v_seq ?_; intro Q22 n22 e22 r22
    refine v_block ?_; intro Q23 n23 x23 e23 r23
    refine v_seq ?_; intro Q24 n24 e24 r24
    refine v_region ?_; intro K25 k25
    have F := Fc.mk (And.intro (fun f => getD_map (f := f) hx) (And.intro hi0 (And.intro hk (And.intro (fun f => getD_map (f := f) hy) (And.intro @decide_true @Bool.and_true)))))
    refine zMove ⟨?_⟩
    refine zIndexAddr ⟨?_⟩
    refine zLoad ⟨?_⟩
    refine zAlloc ⟨?_⟩
    refine zAssign ⟨?_⟩
    refine zStore ⟨?_⟩
    refine k25 _ ?_
    refine n24 _ _ (weak_keep [0, 3, 4, 5, 6, 7] _) ?_
    refine zk ⟨?_⟩
    refine v_seq ?_; intro Q26 n26 e26 r26
    refine v_draw (by kernel_rfl) ?_; intro K27 q27 k27
    show aAny _ _ _ _ 18 (Array.replicate 18 false) _
    refine zdLoad q27 true 0 12 ?_
    refine zoc 1 (apGood_con x0 x1 x2 x3 x4 hsx) ⟨?_⟩
    refine zdUnOp q27 true 2 14 ?_
    refine zdMove q27 true 3 15 ?_
    refine zdgMove q27 true 4 16 ?_
    refine zdgBinOp q27 true 5 17 ?_
    refine zdgMove q27 true 6 18 ?_
    refine zdgMove q27 true 7 19 ?_
    refine zdgMove q27 true 8 20 ?_
    refine zdgBinOpW q27 true 9 21 ?_
    refine zdgIndexAddr q27 true 10 22 ?_
    refine zdgFieldAddr q27 true 11 23 ?_
    refine zdgLoad q27 true 12 24 ?_
    refine zdgFieldAddr q27 true 13 25 ?_
    refine zdgLoad q27 true 14 26 ?_
    refine zdgBinOp q27 true 15 27 ?_
    refine zdgPick q27 true 16 28 ?_
    refine zdPick q27 true 17 29 ?_
    refine aAny_done (by kernel_rfl) ?_
    refine k27 _ ?_
    refine n26 _ _ (weak_keep [0, 5, 6, 7, 29] _) ?_
    refine zk ⟨?_⟩
    refine v_condS _ rfl ?_ ?_
    ·intro hc1
     refine v_seq ?_; intro Q29 n29 e29 r29
     refine v_region ?_; intro K30 k30
     refine zAssign ⟨?_⟩
     refine k30 _ ?_
     refine n29 _ _ (weak_keep [2] _) ?_
     refine zk ⟨?_⟩
     refine v_ret ?_
     refine r23 _ ?_
     refine r22 _ ?_
     refine r7 _ ?_
     refine r6 _ ?_
     refine r3 _ ?_
     refine r0 _ ?_
     refine zf ⟨?_⟩
     exact ret_pure rfl (by rw [fleetB, ← hR, hst]; clear hR hst; (try simp at hc1); first | (simp [hc1]; done) | (rcases hc1 with h | h <;> simp [h, apBf]; done) | (simp_all [apBf]; done)) (.inl rfl)
    ·intro hc1
     refine v_skip ?_
     refine n23 _ ?_
     refine n22 _ _ (weak_keep [0, 5, 6, 7] _) ?_
     refine zk ⟨?_⟩
     refine v_region ?_; intro K31 k31
     refine zBinOpW ⟨?_⟩
     refine zMove ⟨?_⟩
     refine k31 _ ?_
     refine n7 _ (i + 1) ?_ ?_ ?_
     ·refine weak_bothS [0, 5, 6, 7] [] ⟨?_⟩
      rfl
     ·exact ⟨by omega, by rw [← hR, hst]; clear hR hst; (try simp at hc1); first | (simp [hc1]; done) | (simp_all [apBf]; done)⟩
     ·show _ < _; omega
  ·intro hc0
   refine v_exit ?_
   refine e10 _ _ ?_
   refine e7 _ _ ?_
   refine x6 _ ?_
   refine n3 _ _ (weak_keep [0] _) ?_
   refine zk ⟨?_⟩
   refine v_seq ?_; intro Q32 n32 e32 r32
   refine v_region ?_; intro K33 k33
   refine zMove ⟨?_⟩
   refine zLen ⟨?_⟩
   refine zBinOp ⟨?_⟩
   refine zAssign ⟨?_⟩
   refine k33 _ ?_
   refine n32 _ _ (weak_keep [2] _) ?_
   refine zk ⟨?_⟩
   refine v_ret ?_
   refine r0 _ ?_
   refine zf ⟨?_⟩
   exact ret_pure rfl (by rw [fleetB, ← hR, chain_end (by omega)]; simp) (.inl rfl)
set_option maxHeartbeats 1000000 in
theorem isFleet_con (fl : List (ByteArray × Int × Int × Int × Int)) (hl : fl.length ≤ 1048576) (hls : ∀ t ∈ fl, t.1.size ≤ 9223372036854775807) : Con Try.prog 161 [.sl (fl.map (fun t : ByteArray × Int × Int × Int × Int => V.agg [V.str t.1, V.int .i64 t.2.1, V.int .i64 t.2.2.1, V.int .i64 t.2.2.2.1, V.int .i64 t.2.2.2.2]))] [] (.bool (fleetB fl)) [] := by
 refine v_con [.tmp 2] [] Try.func161 rfl rfl rfl (by simp [Try.ntmps161]) ?_
 intro Q0 n0 r0
 simp only [Try.ntmps161, envFrom, Nat.reduceAdd]
 have T := Tys.mk (And.intro Ty.t3 (And.intro Ty.t4 (And.intro Ty.t9 (And.intro Ty.t74 Ty.t141))))
 have F := Fc.mk True.intro
 refine v_seq ?_; intro Q1 n1 e1 r1
 refine v_region ?_; intro K2 k2
 refine zAssign ⟨?_⟩
 refine k2 _ ?_
 refine n1 _ _ (weak_keep [0] _) ?_
 refine zk ⟨?_⟩
 refine v_seq ?_; intro Q3 n3 e3 r3
 refine v_seq ?_; intro Q4 n4 e4 r4
 refine v_region ?_; intro K5 k5
 refine zMove ⟨?_⟩
 refine zLen ⟨?_⟩
 refine zMove ⟨?_⟩
 refine k5 _ ?_
 refine n4 _ _ (weak_keep [0, 5, 6, 7] _) ?_
 refine zk ⟨?_⟩
 refine v_block ?_; intro Q6 n6 x6 e6 r6
 refine v_loop (fun i => ⟨[(0, .sl (fl.map (fun t : ByteArray × Int × Int × Int × Int => V.agg [V.str t.1, V.int .i64 t.2.1, V.int .i64 t.2.2.1, V.int .i64 t.2.2.2.1, V.int .i64 t.2.2.2.2]))), (5, .sl (fl.map (fun t : ByteArray × Int × Int × Int × Int => V.agg [V.str t.1, V.int .i64 t.2.1, V.int .i64 t.2.2.1, V.int .i64 t.2.2.2.1, V.int .i64 t.2.2.2.2]))), (6, .int .i64 fl.length), (7, .int .i64 (Nat.cast i))], [], false, 34, 0⟩) (fun i => i ≤ fl.length ∧ chainAt apOK apBf fl i = chainAt apOK apBf fl 0) (fun i => fl.length - i) 0 ?_ ?_ ?_
 ·refine weak_of [0, 5, 6, 7] ?_
  simp only [keep_mk, keepE_nil, keepE_cons, look_cons, look_nil, Nat.reduceEqDiff, reduceIte]
  rfl
 ·exact ⟨Nat.zero_le _, rfl⟩
 ·rintro i hok7 Q7 n7 e7 r7
  obtain ⟨hi1, hR⟩ := hok7
  refine v_seq ?_; intro Q8 n8 e8 r8
  refine v_region ?_; intro K9 k9
  refine zBinOp ⟨?_⟩
  refine k9 _ ?_
  refine n8 _ _ (weak_keep [0, 5, 6, 7, 8] _) ?_
  refine zk ⟨?_⟩
  refine v_seq ?_; intro Q10 n10 e10 r10
  refine v_condS _ rfl ?_ ?_
  ·intro hc0
   have hlt : i < fl.length := by omega
   obtain ⟨⟨x0, x1, x2, x3, x4⟩, hx⟩ : ∃ x : ByteArray × Int × Int × Int × Int, fl[i]? = some x := ⟨fl[i]'(by omega), List.getElem?_eq_getElem (by omega)⟩
   have hsx := hls _ (List.mem_of_getElem? hx)
   simp only [] at hsx
   rcases Nat.eq_zero_or_pos i with h0 | h0
   ·skip
    have hi0 : ¬ ((0 : Int) < (i : Int)) := by omega
    have hst : chainAt apOK apBf fl i = (apOK (x0, x1, x2, x3, x4) && chainAt apOK apBf fl (i + 1)) := by subst h0; exact chain_zero hx
    refine v_skip ?_
    refine n10 _ _ (weak_keep [0, 5, 6, 7] _) ?_
    refine zk ⟨?_⟩
    refine v_seq ?_; intro Q12 n12 e12 r12
    refine v_block ?_; intro Q13 n13 x13 e13 r13
    refine v_seq ?_; intro Q14 n14 e14 r14
    refine v_region ?_; intro K15 k15
    have F := Fc.mk (And.intro (fun f => getD_map (f := f) hx) (And.intro hi0 (And.intro @decide_false @Bool.and_false)))
    refine zMove ⟨?_⟩
    refine zIndexAddr ⟨?_⟩
    refine zLoad ⟨?_⟩
    refine zAlloc ⟨?_⟩
    refine zAssign ⟨?_⟩
    refine zStore ⟨?_⟩
    refine k15 _ ?_
    refine n14 _ _ (weak_keep [0, 3, 4, 5, 6, 7] _) ?_
    refine zk ⟨?_⟩
    refine v_seq ?_; intro Q16 n16 e16 r16
    refine v_draw (by kernel_rfl) ?_; intro K17 q17 k17
    show aAny _ _ _ _ 18 (Array.replicate 18 false) _
    refine zdLoad q17 true 0 12 ?_
    refine zoc 1 (isAppliance_con x0 x1 x2 x3 x4 hsx) ⟨?_⟩
    refine zdUnOp q17 true 2 14 ?_
    refine zdMove q17 true 3 15 ?_
    refine zdgMove q17 true 4 16 ?_
    refine zdgBinOp q17 true 5 17 ?_
    refine zdgMove q17 true 6 18 ?_
    refine zdgMove q17 true 7 19 ?_
    refine zdgMove q17 true 8 20 ?_
    refine zdgBinOpW q17 true 9 21 ?_
    refine zdgIndexAddr q17 true 10 22 ?_
    refine zdgFieldAddr q17 true 11 23 ?_
    refine zdgLoad q17 true 12 24 ?_
    refine zdgFieldAddr q17 true 13 25 ?_
    refine zdgLoad q17 true 14 26 ?_
    refine zdgBinOp q17 true 15 27 ?_
    refine zdgPick q17 true 16 28 ?_
    refine zdPick q17 true 17 29 ?_
    refine aAny_done (by kernel_rfl) ?_
    refine k17 _ ?_
    refine n16 _ _ (weak_keep [0, 5, 6, 7, 29] _) ?_
    refine zk ⟨?_⟩
    refine v_condS _ rfl ?_ ?_
    ·intro hc1
     refine v_seq ?_; intro Q19 n19 e19 r19
     refine v_region ?_; intro K20 k20
     refine zAssign ⟨?_⟩
     refine k20 _ ?_
     refine n19 _ _ (weak_keep [2] _) ?_
     refine zk ⟨?_⟩
     refine v_ret ?_
     refine r13 _ ?_
     refine r12 _ ?_
     refine r7 _ ?_
     refine r6 _ ?_
     refine r3 _ ?_
     refine r0 _ ?_
     refine zf ⟨?_⟩
     exact ret_pure rfl (by rw [fleetB, ← hR, hst]; clear hR hst; (try simp at hc1); first | (simp [hc1]; done) | (rcases hc1 with h | h <;> simp [h, apBf]; done) | (simp_all [apBf]; done)) (.inl rfl)
    ·intro hc1
     refine v_skip ?_
     refine n13 _ ?_
     refine n12 _ _ (weak_keep [0, 5, 6, 7] _) ?_
     refine zk ⟨?_⟩
     refine v_region ?_; intro K21 k21
     refine zBinOpW ⟨?_⟩
     refine zMove ⟨?_⟩
     refine k21 _ ?_
     refine n7 _ (i + 1) ?_ ?_ ?_
     ·refine weak_bothS [0, 5, 6, 7] [] ⟨?_⟩
      rfl
     ·exact ⟨by omega, by rw [← hR, hst]; clear hR hst; (try simp at hc1); first | (simp [hc1]; done) | (simp_all [apBf]; done)⟩
     ·show _ < _; omega
   ·skip
    obtain ⟨⟨y0, y1, y2, y3, y4⟩, hy⟩ : ∃ x : ByteArray × Int × Int × Int × Int, fl[i - 1]? = some x := ⟨fl[i - 1]'(by omega), List.getElem?_eq_getElem (by omega)⟩
    have hi0 : (0 : Int) < i := by omega
    have hk : ((i : Int) - 1).toNat = i - 1 := by omega
    have hst := chain_succ (ok := apOK) (bf := apBf) h0 hy hx
    refine v_skip ?_
    refine n10 _ _ (weak_keep [0, 5, 6, 7] _) ?_
    refine zk ⟨?_⟩
    refine v_seq ?_; intro Q22 n22 e22 r22
    refine v_block ?_; intro Q23 n23 x23 e23 r23
    refine v_seq ?_; intro Q24 n24 e24 r24
    refine v_region ?_; intro K25 k25
    have F := Fc.mk (And.intro (fun f => getD_map (f := f) hx) (And.intro hi0 (And.intro hk (And.intro (fun f => getD_map (f := f) hy) (And.intro @decide_true @Bool.and_true)))))
    refine zMove ⟨?_⟩
    refine zIndexAddr ⟨?_⟩
    refine zLoad ⟨?_⟩
    refine zAlloc ⟨?_⟩
    refine zAssign ⟨?_⟩
    refine zStore ⟨?_⟩
    refine k25 _ ?_
    refine n24 _ _ (weak_keep [0, 3, 4, 5, 6, 7] _) ?_
    refine zk ⟨?_⟩
    refine v_seq ?_; intro Q26 n26 e26 r26
    refine v_draw (by kernel_rfl) ?_; intro K27 q27 k27
    show aAny _ _ _ _ 18 (Array.replicate 18 false) _
    refine zdLoad q27 true 0 12 ?_
    refine zoc 1 (isAppliance_con x0 x1 x2 x3 x4 hsx) ⟨?_⟩
    refine zdUnOp q27 true 2 14 ?_
    refine zdMove q27 true 3 15 ?_
    refine zdgMove q27 true 4 16 ?_
    refine zdgBinOp q27 true 5 17 ?_
    refine zdgMove q27 true 6 18 ?_
    refine zdgMove q27 true 7 19 ?_
    refine zdgMove q27 true 8 20 ?_
    refine zdgBinOpW q27 true 9 21 ?_
    refine zdgIndexAddr q27 true 10 22 ?_
    refine zdgFieldAddr q27 true 11 23 ?_
    refine zdgLoad q27 true 12 24 ?_
    refine zdgFieldAddr q27 true 13 25 ?_
    refine zdgLoad q27 true 14 26 ?_
    refine zdgBinOp q27 true 15 27 ?_
    refine zdgPick q27 true 16 28 ?_
    refine zdPick q27 true 17 29 ?_
    refine aAny_done (by kernel_rfl) ?_
    refine k27 _ ?_
    refine n26 _ _ (weak_keep [0, 5, 6, 7, 29] _) ?_
    refine zk ⟨?_⟩
    refine v_condS _ rfl ?_ ?_
    ·intro hc1
     refine v_seq ?_; intro Q29 n29 e29 r29
     refine v_region ?_; intro K30 k30
     refine zAssign ⟨?_⟩
     refine k30 _ ?_
     refine n29 _ _ (weak_keep [2] _) ?_
     refine zk ⟨?_⟩
     refine v_ret ?_
     refine r23 _ ?_
     refine r22 _ ?_
     refine r7 _ ?_
     refine r6 _ ?_
     refine r3 _ ?_
     refine r0 _ ?_
     refine zf ⟨?_⟩
     exact ret_pure rfl (by rw [fleetB, ← hR, hst]; clear hR hst; (try simp at hc1); first | (simp [hc1]; done) | (rcases hc1 with h | h <;> simp [h, apBf]; done) | (simp_all [apBf]; done)) (.inl rfl)
    ·intro hc1
     refine v_skip ?_
     refine n23 _ ?_
     refine n22 _ _ (weak_keep [0, 5, 6, 7] _) ?_
     refine zk ⟨?_⟩
     refine v_region ?_; intro K31 k31
     refine zBinOpW ⟨?_⟩
     refine zMove ⟨?_⟩
     refine k31 _ ?_
     refine n7 _ (i + 1) ?_ ?_ ?_
     ·refine weak_bothS [0, 5, 6, 7] [] ⟨?_⟩
      rfl
     ·exact ⟨by omega, by rw [← hR, hst]; clear hR hst; (try simp at hc1); first | (simp [hc1]; done) | (simp_all [apBf]; done)⟩
     ·show _ < _; omega
  ·intro hc0
   refine v_exit ?_
   refine e10 _ _ ?_
   refine e7 _ _ ?_
   refine x6 _ ?_
   refine n3 _ _ (weak_keep [0] _) ?_
   refine zk ⟨?_⟩
   refine v_seq ?_; intro Q32 n32 e32 r32
   refine v_region ?_; intro K33 k33
   refine zMove ⟨?_⟩
   refine zLen ⟨?_⟩
   refine zBinOp ⟨?_⟩
   refine zAssign ⟨?_⟩
   refine k33 _ ?_
   refine n32 _ _ (weak_keep [2] _) ?_
   refine zk ⟨?_⟩
   refine v_ret ?_
   refine r0 _ ?_
   refine zf ⟨?_⟩
   exact ret_pure rfl (by rw [fleetB, ← hR, chain_end (by omega)]; simp) (.inl rfl)
end Go.Proofs.Ytdgenniiidgimaa
