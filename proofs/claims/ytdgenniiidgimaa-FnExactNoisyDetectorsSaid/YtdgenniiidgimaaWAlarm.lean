/- What functions compute (Alarm). No condition. -/
import Derived.Test.YtdgenniiidgimaaTy
import Derived.Test.YtdgenniiidgimaaVmG
import Derived.Test.YtdgenniiidgimaaWChain
import Derived.Test.YtdgenniiidgimaaWBase
set_option linter.unusedSimpArgs false
set_option linter.unusedVariables false
set_option linter.defProp false
namespace Go.Proofs.Ytdgenniiidgimaa
open Go Go.Vm

def dOne (x : (Int × Int × Int × Bool)) : Bool := (decide (1 ≤ x.1) && decide (x.1 ≤ 999)) && (decide (1 ≤ x.2.1) && decide (x.2.1 ≤ 9)) && (decide (0 ≤ x.2.2.1) && decide (x.2.2.1 ≤ 2))
def dBefore (x y : (Int × Int × Int × Bool)) : Bool := decide (x.1 < y.1)
def dsB (l : List (Int × Int × Int × Bool)) : Bool := chainAt dOne dBefore l 0 && decide ((l.length : Int) ≤ 20)
def sOne (x : (Int × Int)) : Bool := (decide (0 ≤ x.1) && decide (x.1 ≤ 86399)) && (decide (1 ≤ x.2) && decide (x.2 ≤ 999))
def sBefore (x y : (Int × Int)) : Bool := decide (x.1 ≤ y.1)
def ssB (l : List (Int × Int)) : Bool := chainAt sOne sBefore l 0 && decide ((l.length : Int) ≤ 60)
def findD (n : Int) : Nat → List (Int × Int × Int × Bool) → Int
  | _, [] => -1
  | i, d :: l => if d.1 = n then i else findD n (i + 1) l
theorem find_stepD {n : Int} {l : List (Int × Int × Int × Bool)} {i : Nat} {d : (Int × Int × Int × Bool)} (h : l[i]? = some d) : findD n i (l.drop i) = if d.1 = n then (i : Int) else findD n (i + 1) (l.drop (i + 1)) := by
  rw [getElem_drop_cons h, findD]
theorem find_endD {n : Int} {l : List (Int × Int × Int × Bool)} {i k : Nat} (h : l.length ≤ i) : findD n k (l.drop i) = -1 := by
  rw [List.drop_of_length_le h, findD]
theorem findD_cases (n : Int) : ∀ (l : List (Int × Int × Int × Bool)) (i : Nat), findD n i l = -1 ∨ ∃ (j : Nat) (d : (Int × Int × Int × Bool)), findD n i l = ((i + j : Nat) : Int) ∧ l[j]? = some d ∧ d.1 = n
  | [], i => .inl rfl
  | d :: l, i => by
    rw [findD]
    by_cases h : d.1 = n
    · rw [if_pos h]; exact .inr ⟨0, d, rfl, rfl, h⟩
    · rw [if_neg h]
      rcases findD_cases n l (i + 1) with q | ⟨j, e, q1, q2, q3⟩
      · exact .inl q
      · exact .inr ⟨j + 1, e, by rw [q1]; congr 1; omega, by simpa using q2, q3⟩
def detOf (l : List (Int × Int × Int × Bool)) (n : Int) : Option (Int × Int × Int × Bool) := l.find? fun d => decide (d.1 = n)
theorem findD_det (n : Int) : ∀ (l : List (Int × Int × Int × Bool)) (i : Nat), (findD n i l = -1 ∧ detOf l n = none) ∨ ∃ (j : Nat) (d : (Int × Int × Int × Bool)), findD n i l = ((i + j : Nat) : Int) ∧ l[j]? = some d ∧ detOf l n = some d
  | [], i => .inl ⟨rfl, rfl⟩
  | d :: l, i => by
    rw [findD, detOf, List.find?_cons]
    by_cases h : d.1 = n
    · rw [if_pos h]; right; exact ⟨0, d, rfl, rfl, by simp [h]⟩
    · rw [if_neg h]
      simp only [h, decide_false]
      rcases findD_det n l (i + 1) with ⟨q1, q2⟩ | ⟨j, e, q1, q2, q3⟩
      · exact .inl ⟨q1, q2⟩
      · exact .inr ⟨j + 1, e, by rw [q1]; congr 1; omega, by simpa using q2, q3⟩
def liveB (l : List (Int × Int × Int × Bool)) (s : (Int × Int)) : Bool := match detOf l s.2 with | some d => !d.2.2.2 | none => false

set_option maxHeartbeats 1000000 in
theorem alZone_con (n : Int) : Con Try.prog 93 [.int .i64 n] [] (.bool (decide (1 ≤ n) && decide (n ≤ 9))) [] := by
 refine v_con [.tmp 2] [] Try.func93 rfl rfl rfl (by simp [Try.ntmps93]) ?_
 intro Q0 n0 r0
 simp only [Try.ntmps93, envFrom, Nat.reduceAdd]
 have T := Tys.mk (And.intro Ty.t3 Ty.t4)
 have F := Fc.mk True.intro
 refine v_seq ?_; intro Q1 n1 e1 r1
 refine v_region ?_; intro K2 k2
 refine zAssign ⟨?_⟩
 refine k2 _ ?_
 refine n1 _ _ (weak_keep [0] _) ?_
 refine zk ⟨?_⟩
 refine v_seq ?_; intro Q3 n3 e3 r3
 refine v_region ?_; intro K4 k4
 refine zMove ⟨?_⟩
 refine zc (l1In_con _ _ _) ⟨?_⟩
 refine zAssign ⟨?_⟩
 refine k4 _ ?_
 refine n3 _ _ (weak_keep [2] _) ?_
 refine zk ⟨?_⟩
 refine v_ret ?_
 refine r0 _ ?_
 refine zf ⟨?_⟩
 exact ret_pure rfl (by first | rfl | simp) (.inl rfl)
set_option maxHeartbeats 1000000 in
theorem alGood_con (l : List (Int × Int × Int × Bool)) (hl : l.length ≤ 1048576) : Con Try.prog 89 [.sl (l.map (fun t : Int × Int × Int × Bool => V.agg [V.int .i64 t.1, V.int .i64 t.2.1, V.int .i64 t.2.2.1, V.bool t.2.2.2]))] [] (.bool (dsB l)) [] := by
 refine v_con [.tmp 2] [] Try.func89 rfl rfl rfl (by simp [Try.ntmps89]) ?_
 intro Q0 n0 r0
 simp only [Try.ntmps89, envFrom, Nat.reduceAdd]
 have T := Tys.mk (And.intro Ty.t3 (And.intro Ty.t4 (And.intro Ty.t29 Ty.t59)))
 have F := Fc.mk True.intro
 refine v_seq ?_; intro Q1 n1 e1 r1
 refine v_region ?_; intro K2 k2
 refine zAssign ⟨?_⟩
 refine k2 _ ?_
 refine n1 _ _ (weak_keep [0] _) ?_
 refine zk ⟨?_⟩
 refine v_seq ?_; intro Q3 n3 e3 r3
 refine v_seq ?_; intro Q4 n4 e4 r4
 refine v_region ?_; intro K5 k5
 refine zMove ⟨?_⟩
 refine zLen ⟨?_⟩
 refine zMove ⟨?_⟩
 refine k5 _ ?_
 refine n4 _ _ (weak_keep [0, 5, 6, 7] _) ?_
 refine zk ⟨?_⟩
 refine v_block ?_; intro Q6 n6 x6 e6 r6
 refine v_loop (fun i => ⟨[(0, .sl (l.map (fun t : Int × Int × Int × Bool => V.agg [V.int .i64 t.1, V.int .i64 t.2.1, V.int .i64 t.2.2.1, V.bool t.2.2.2]))), (5, .sl (l.map (fun t : Int × Int × Int × Bool => V.agg [V.int .i64 t.1, V.int .i64 t.2.1, V.int .i64 t.2.2.1, V.bool t.2.2.2]))), (6, .int .i64 l.length), (7, .int .i64 (Nat.cast i))], [], false, 47, 0⟩) (fun i => i ≤ l.length ∧ chainAt dOne dBefore l i = chainAt dOne dBefore l 0) (fun i => l.length - i) 0 ?_ ?_ ?_
 ·refine weak_of [0, 5, 6, 7] ?_
  simp only [keep_mk, keepE_nil, keepE_cons, look_cons, look_nil, Nat.reduceEqDiff, reduceIte]
  rfl
 ·exact ⟨Nat.zero_le _, rfl⟩
 ·rintro i hok7 Q7 n7 e7 r7
  obtain ⟨hi1, hR⟩ := hok7
  refine v_seq ?_; intro Q8 n8 e8 r8
  refine v_region ?_; intro K9 k9
  refine zBinOp ⟨?_⟩
  refine k9 _ ?_
  refine n8 _ _ (weak_keep [0, 5, 6, 7, 8] _) ?_
  refine zk ⟨?_⟩
  refine v_seq ?_; intro Q10 n10 e10 r10
  refine v_condS _ rfl ?_ ?_
  ·intro hc0
   have hlt : i < l.length := by omega
   obtain ⟨⟨x0, x1, x2, x3⟩, hx⟩ : ∃ x : Int × Int × Int × Bool, l[i]? = some x := ⟨l[i]'(by omega), List.getElem?_eq_getElem (by omega)⟩
   rcases Nat.eq_zero_or_pos i with h0 | h0
   ·skip
    have hi0 : ¬ ((0 : Int) < (i : Int)) := by omega
    have hst : chainAt dOne dBefore l i = (dOne (x0, x1, x2, x3) && chainAt dOne dBefore l (i + 1)) := by subst h0; exact chain_zero hx
    refine v_skip ?_
    refine n10 _ _ (weak_keep [0, 5, 6, 7] _) ?_
    refine zk ⟨?_⟩
    refine v_seq ?_; intro Q12 n12 e12 r12
    refine v_block ?_; intro Q13 n13 x13 e13 r13
    refine v_seq ?_; intro Q14 n14 e14 r14
    refine v_region ?_; intro K15 k15
    have F := Fc.mk (And.intro (fun f => getD_map (f := f) hx) (And.intro hi0 (And.intro @decide_false @Bool.and_false)))
    refine zMove ⟨?_⟩
    refine zIndexAddr ⟨?_⟩
    refine zLoad ⟨?_⟩
    refine zAlloc ⟨?_⟩
    refine zAssign ⟨?_⟩
    refine zStore ⟨?_⟩
    refine k15 _ ?_
    refine n14 _ _ (weak_keep [0, 3, 4, 5, 6, 7] _) ?_
    refine zk ⟨?_⟩
    refine v_seq ?_; intro Q16 n16 e16 r16
    refine v_draw (by kernel_rfl) ?_; intro K17 q17 k17
    show aAny _ _ _ _ 31 (Array.replicate 31 false) _
    refine zdFieldAddr q17 true 0 12 ?_
    refine zdLoad q17 true 1 13 ?_
    refine zoc 2 (l1In_con _ _ _) ⟨?_⟩
    refine zdUnOp q17 true 3 15 ?_
    refine zdMove q17 true 4 16 ?_
    refine zdgFieldAddr q17 true 5 17 ?_
    refine zdgLoad q17 true 6 18 ?_
    refine zogc 7 (alZone_con _) ⟨?_⟩
    refine zdgUnOp q17 true 8 20 ?_
    refine zdPick q17 true 9 21 ?_
    refine zdMove q17 true 10 22 ?_
    refine zdgFieldAddr q17 true 11 23 ?_
    refine zdgLoad q17 true 12 24 ?_
    refine zogc 13 (l1In_con _ _ _) ⟨?_⟩
    refine zdgUnOp q17 true 14 26 ?_
    refine zdPick q17 true 15 27 ?_
    refine zdMove q17 true 16 28 ?_
    refine zdgMove q17 true 17 29 ?_
    refine zdgBinOp q17 true 18 30 ?_
    refine zdgMove q17 true 19 31 ?_
    refine zdgMove q17 true 20 32 ?_
    refine zdgMove q17 true 21 33 ?_
    refine zdgBinOpW q17 true 22 34 ?_
    refine zdgIndexAddr q17 true 23 35 ?_
    refine zdgFieldAddr q17 true 24 36 ?_
    refine zdgLoad q17 true 25 37 ?_
    refine zdgFieldAddr q17 true 26 38 ?_
    refine zdgLoad q17 true 27 39 ?_
    refine zdgBinOp q17 true 28 40 ?_
    refine zdgPick q17 true 29 41 ?_
    refine zdPick q17 true 30 42 ?_
    refine aAny_done (by kernel_rfl) ?_
    refine k17 _ ?_
    refine n16 _ _ (weak_keep [0, 5, 6, 7, 42] _) ?_
    refine zk ⟨?_⟩
    refine v_condS _ rfl ?_ ?_
    ·intro hc1
     refine v_seq ?_; intro Q19 n19 e19 r19
     refine v_region ?_; intro K20 k20
     refine zAssign ⟨?_⟩
     refine k20 _ ?_
     refine n19 _ _ (weak_keep [2] _) ?_
     refine zk ⟨?_⟩
     refine v_ret ?_
     refine r13 _ ?_
     refine r12 _ ?_
     refine r7 _ ?_
     refine r6 _ ?_
     refine r3 _ ?_
     refine r0 _ ?_
     refine zf ⟨?_⟩
     exact ret_pure rfl (by rw [dsB, ← hR, hst]; clear hR hst; simp [dOne, dBefore] at *; intros; omega) (.inl rfl)
    ·intro hc1
     refine v_skip ?_
     refine n13 _ ?_
     refine n12 _ _ (weak_keep [0, 5, 6, 7] _) ?_
     refine zk ⟨?_⟩
     refine v_region ?_; intro K21 k21
     refine zBinOpW ⟨?_⟩
     refine zMove ⟨?_⟩
     refine k21 _ ?_
     refine n7 _ (i + 1) ?_ ?_ ?_
     ·refine weak_bothS [0, 5, 6, 7] [] ⟨?_⟩
      rfl
     ·exact ⟨by omega, by rw [← hR, hst]; clear hR hst; have hone : dOne (x0, x1, x2, x3) = true := (by simp [dOne] at *; omega); first | (simp [hone]; done) | (have hbt : dBefore (y0, y1, y2, y3) (x0, x1, x2, x3) = true := (by simp [dBefore] at *; omega); simp [hone, hbt])⟩
     ·show _ < _; omega
   ·skip
    obtain ⟨⟨y0, y1, y2, y3⟩, hy⟩ : ∃ x : Int × Int × Int × Bool, l[i - 1]? = some x := ⟨l[i - 1]'(by omega), List.getElem?_eq_getElem (by omega)⟩
    have hi0 : (0 : Int) < i := by omega
    have hk : ((i : Int) - 1).toNat = i - 1 := by omega
    have hst := chain_succ (ok := dOne) (bf := dBefore) h0 hy hx
    refine v_skip ?_
    refine n10 _ _ (weak_keep [0, 5, 6, 7] _) ?_
    refine zk ⟨?_⟩
    refine v_seq ?_; intro Q22 n22 e22 r22
    refine v_block ?_; intro Q23 n23 x23 e23 r23
    refine v_seq ?_; intro Q24 n24 e24 r24
    refine v_region ?_; intro K25 k25
    have F := Fc.mk (And.intro (fun f => getD_map (f := f) hx) (And.intro hi0 (And.intro hk (And.intro (fun f => getD_map (f := f) hy) (And.intro @decide_true @Bool.and_true)))))
    refine zMove ⟨?_⟩
    refine zIndexAddr ⟨?_⟩
    refine zLoad ⟨?_⟩
    refine zAlloc ⟨?_⟩
    refine zAssign ⟨?_⟩
    refine zStore ⟨?_⟩
    refine k25 _ ?_
    refine n24 _ _ (weak_keep [0, 3, 4, 5, 6, 7] _) ?_
    refine zk ⟨?_⟩
    refine v_seq ?_; intro Q26 n26 e26 r26
    refine v_draw (by kernel_rfl) ?_; intro K27 q27 k27
    show aAny _ _ _ _ 31 (Array.replicate 31 false) _
    refine zdFieldAddr q27 true 0 12 ?_
    refine zdLoad q27 true 1 13 ?_
    refine zoc 2 (l1In_con _ _ _) ⟨?_⟩
    refine zdUnOp q27 true 3 15 ?_
    refine zdMove q27 true 4 16 ?_
    refine zdgFieldAddr q27 true 5 17 ?_
    refine zdgLoad q27 true 6 18 ?_
    refine zogc 7 (alZone_con _) ⟨?_⟩
    refine zdgUnOp q27 true 8 20 ?_
    refine zdPick q27 true 9 21 ?_
    refine zdMove q27 true 10 22 ?_
    refine zdgFieldAddr q27 true 11 23 ?_
    refine zdgLoad q27 true 12 24 ?_
    refine zogc 13 (l1In_con _ _ _) ⟨?_⟩
    refine zdgUnOp q27 true 14 26 ?_
    refine zdPick q27 true 15 27 ?_
    refine zdMove q27 true 16 28 ?_
    refine zdgMove q27 true 17 29 ?_
    refine zdgBinOp q27 true 18 30 ?_
    refine zdgMove q27 true 19 31 ?_
    refine zdgMove q27 true 20 32 ?_
    refine zdgMove q27 true 21 33 ?_
    refine zdgBinOpW q27 true 22 34 ?_
    refine zdgIndexAddr q27 true 23 35 ?_
    refine zdgFieldAddr q27 true 24 36 ?_
    refine zdgLoad q27 true 25 37 ?_
    refine zdgFieldAddr q27 true 26 38 ?_
    refine zdgLoad q27 true 27 39 ?_
    refine zdgBinOp q27 true 28 40 ?_
    refine zdgPick q27 true 29 41 ?_
    refine zdPick q27 true 30 42 ?_
    refine aAny_done (by kernel_rfl) ?_
    refine k27 _ ?_
    refine n26 _ _ (weak_keep [0, 5, 6, 7, 42] _) ?_
    refine zk ⟨?_⟩
    refine v_condS _ rfl ?_ ?_
    ·intro hc1
     refine v_seq ?_; intro Q29 n29 e29 r29
     refine v_region ?_; intro K30 k30
     refine zAssign ⟨?_⟩
     refine k30 _ ?_
     refine n29 _ _ (weak_keep [2] _) ?_
     refine zk ⟨?_⟩
     refine v_ret ?_
     refine r23 _ ?_
     refine r22 _ ?_
     refine r7 _ ?_
     refine r6 _ ?_
     refine r3 _ ?_
     refine r0 _ ?_
     refine zf ⟨?_⟩
     exact ret_pure rfl (by rw [dsB, ← hR, hst]; clear hR hst; simp [dOne, dBefore] at *; intros; omega) (.inl rfl)
    ·intro hc1
     refine v_skip ?_
     refine n23 _ ?_
     refine n22 _ _ (weak_keep [0, 5, 6, 7] _) ?_
     refine zk ⟨?_⟩
     refine v_region ?_; intro K31 k31
     refine zBinOpW ⟨?_⟩
     refine zMove ⟨?_⟩
     refine k31 _ ?_
     refine n7 _ (i + 1) ?_ ?_ ?_
     ·refine weak_bothS [0, 5, 6, 7] [] ⟨?_⟩
      rfl
     ·exact ⟨by omega, by rw [← hR, hst]; clear hR hst; have hone : dOne (x0, x1, x2, x3) = true := (by simp [dOne] at *; omega); first | (simp [hone]; done) | (have hbt : dBefore (y0, y1, y2, y3) (x0, x1, x2, x3) = true := (by simp [dBefore] at *; omega); simp [hone, hbt])⟩
     ·show _ < _; omega
  ·intro hc0
   refine v_exit ?_
   refine e10 _ _ ?_
   refine e7 _ _ ?_
   refine x6 _ ?_
   refine n3 _ _ (weak_keep [0] _) ?_
   refine zk ⟨?_⟩
   refine v_seq ?_; intro Q32 n32 e32 r32
   refine v_region ?_; intro K33 k33
   refine zMove ⟨?_⟩
   refine zLen ⟨?_⟩
   refine zBinOp ⟨?_⟩
   refine zAssign ⟨?_⟩
   refine k33 _ ?_
   refine n32 _ _ (weak_keep [2] _) ?_
   refine zk ⟨?_⟩
   refine v_ret ?_
   refine r0 _ ?_
   refine zf ⟨?_⟩
   exact ret_pure rfl (by rw [dsB, ← hR, chain_end (by omega)]; simp) (.inl rfl)
set_option maxHeartbeats 1000000 in
theorem alSignals_con (l : List (Int × Int)) (hl : l.length ≤ 1048576) : Con Try.prog 90 [.sl (l.map (fun t : Int × Int => V.agg [V.int .i64 t.1, V.int .i64 t.2]))] [] (.bool (ssB l)) [] := by
 refine v_con [.tmp 2] [] Try.func90 rfl rfl rfl (by simp [Try.ntmps90]) ?_
 intro Q0 n0 r0
 simp only [Try.ntmps90, envFrom, Nat.reduceAdd]
 have T := Tys.mk (And.intro Ty.t3 (And.intro Ty.t4 (And.intro Ty.t31 Ty.t57)))
 have F := Fc.mk True.intro
 refine v_seq ?_; intro Q1 n1 e1 r1
 refine v_region ?_; intro K2 k2
 refine zAssign ⟨?_⟩
 refine k2 _ ?_
 refine n1 _ _ (weak_keep [0] _) ?_
 refine zk ⟨?_⟩
 refine v_seq ?_; intro Q3 n3 e3 r3
 refine v_seq ?_; intro Q4 n4 e4 r4
 refine v_region ?_; intro K5 k5
 refine zMove ⟨?_⟩
 refine zLen ⟨?_⟩
 refine zMove ⟨?_⟩
 refine k5 _ ?_
 refine n4 _ _ (weak_keep [0, 5, 6, 7] _) ?_
 refine zk ⟨?_⟩
 refine v_block ?_; intro Q6 n6 x6 e6 r6
 refine v_loop (fun i => ⟨[(0, .sl (l.map (fun t : Int × Int => V.agg [V.int .i64 t.1, V.int .i64 t.2]))), (5, .sl (l.map (fun t : Int × Int => V.agg [V.int .i64 t.1, V.int .i64 t.2]))), (6, .int .i64 l.length), (7, .int .i64 (Nat.cast i))], [], false, 41, 0⟩) (fun i => i ≤ l.length ∧ chainAt sOne sBefore l i = chainAt sOne sBefore l 0) (fun i => l.length - i) 0 ?_ ?_ ?_
 ·refine weak_of [0, 5, 6, 7] ?_
  simp only [keep_mk, keepE_nil, keepE_cons, look_cons, look_nil, Nat.reduceEqDiff, reduceIte]
  rfl
 ·exact ⟨Nat.zero_le _, rfl⟩
 ·rintro i hok7 Q7 n7 e7 r7
  obtain ⟨hi1, hR⟩ := hok7
  refine v_seq ?_; intro Q8 n8 e8 r8
  refine v_region ?_; intro K9 k9
  refine zBinOp ⟨?_⟩
  refine k9 _ ?_
  refine n8 _ _ (weak_keep [0, 5, 6, 7, 8] _) ?_
  refine zk ⟨?_⟩
  refine v_seq ?_; intro Q10 n10 e10 r10
  refine v_condS _ rfl ?_ ?_
  ·intro hc0
   have hlt : i < l.length := by omega
   obtain ⟨⟨x0, x1⟩, hx⟩ : ∃ x : Int × Int, l[i]? = some x := ⟨l[i]'(by omega), List.getElem?_eq_getElem (by omega)⟩
   rcases Nat.eq_zero_or_pos i with h0 | h0
   ·skip
    have hi0 : ¬ ((0 : Int) < (i : Int)) := by omega
    have hst : chainAt sOne sBefore l i = (sOne (x0, x1) && chainAt sOne sBefore l (i + 1)) := by subst h0; exact chain_zero hx
    refine v_skip ?_
    refine n10 _ _ (weak_keep [0, 5, 6, 7] _) ?_
    refine zk ⟨?_⟩
    refine v_seq ?_; intro Q12 n12 e12 r12
    refine v_block ?_; intro Q13 n13 x13 e13 r13
    refine v_seq ?_; intro Q14 n14 e14 r14
    refine v_region ?_; intro K15 k15
    have F := Fc.mk (And.intro (fun f => getD_map (f := f) hx) (And.intro hi0 (And.intro @decide_false @Bool.and_false)))
    refine zMove ⟨?_⟩
    refine zIndexAddr ⟨?_⟩
    refine zLoad ⟨?_⟩
    refine zAlloc ⟨?_⟩
    refine zAssign ⟨?_⟩
    refine zStore ⟨?_⟩
    refine k15 _ ?_
    refine n14 _ _ (weak_keep [0, 3, 4, 5, 6, 7] _) ?_
    refine zk ⟨?_⟩
    refine v_seq ?_; intro Q16 n16 e16 r16
    refine v_draw (by kernel_rfl) ?_; intro K17 q17 k17
    show aAny _ _ _ _ 25 (Array.replicate 25 false) _
    refine zdFieldAddr q17 true 0 12 ?_
    refine zdLoad q17 true 1 13 ?_
    refine zoc 2 (l1In_con _ _ _) ⟨?_⟩
    refine zdUnOp q17 true 3 15 ?_
    refine zdMove q17 true 4 16 ?_
    refine zdgFieldAddr q17 true 5 17 ?_
    refine zdgLoad q17 true 6 18 ?_
    refine zogc 7 (l1In_con _ _ _) ⟨?_⟩
    refine zdgUnOp q17 true 8 20 ?_
    refine zdPick q17 true 9 21 ?_
    refine zdMove q17 true 10 22 ?_
    refine zdgMove q17 true 11 23 ?_
    refine zdgBinOp q17 true 12 24 ?_
    refine zdgMove q17 true 13 25 ?_
    refine zdgMove q17 true 14 26 ?_
    refine zdgMove q17 true 15 27 ?_
    refine zdgBinOpW q17 true 16 28 ?_
    refine zdgIndexAddr q17 true 17 29 ?_
    refine zdgFieldAddr q17 true 18 30 ?_
    refine zdgLoad q17 true 19 31 ?_
    refine zdgFieldAddr q17 true 20 32 ?_
    refine zdgLoad q17 true 21 33 ?_
    refine zdgBinOp q17 true 22 34 ?_
    refine zdgPick q17 true 23 35 ?_
    refine zdPick q17 true 24 36 ?_
    refine aAny_done (by kernel_rfl) ?_
    refine k17 _ ?_
    refine n16 _ _ (weak_keep [0, 5, 6, 7, 36] _) ?_
    refine zk ⟨?_⟩
    refine v_condS _ rfl ?_ ?_
    ·intro hc1
     refine v_seq ?_; intro Q19 n19 e19 r19
     refine v_region ?_; intro K20 k20
     refine zAssign ⟨?_⟩
     refine k20 _ ?_
     refine n19 _ _ (weak_keep [2] _) ?_
     refine zk ⟨?_⟩
     refine v_ret ?_
     refine r13 _ ?_
     refine r12 _ ?_
     refine r7 _ ?_
     refine r6 _ ?_
     refine r3 _ ?_
     refine r0 _ ?_
     refine zf ⟨?_⟩
     exact ret_pure rfl (by rw [ssB, ← hR, hst]; clear hR hst; simp [sOne, sBefore] at *; intros; omega) (.inl rfl)
    ·intro hc1
     refine v_skip ?_
     refine n13 _ ?_
     refine n12 _ _ (weak_keep [0, 5, 6, 7] _) ?_
     refine zk ⟨?_⟩
     refine v_region ?_; intro K21 k21
     refine zBinOpW ⟨?_⟩
     refine zMove ⟨?_⟩
     refine k21 _ ?_
     refine n7 _ (i + 1) ?_ ?_ ?_
     ·refine weak_bothS [0, 5, 6, 7] [] ⟨?_⟩
      rfl
     ·exact ⟨by omega, by rw [← hR, hst]; clear hR hst; have hone : sOne (x0, x1) = true := (by simp [sOne] at *; omega); first | (simp [hone]; done) | (have hbt : sBefore (y0, y1) (x0, x1) = true := (by simp [sBefore] at *; omega); simp [hone, hbt])⟩
     ·show _ < _; omega
   ·skip
    obtain ⟨⟨y0, y1⟩, hy⟩ : ∃ x : Int × Int, l[i - 1]? = some x := ⟨l[i - 1]'(by omega), List.getElem?_eq_getElem (by omega)⟩
    have hi0 : (0 : Int) < i := by omega
    have hk : ((i : Int) - 1).toNat = i - 1 := by omega
    have hst := chain_succ (ok := sOne) (bf := sBefore) h0 hy hx
    refine v_skip ?_
    refine n10 _ _ (weak_keep [0, 5, 6, 7] _) ?_
    refine zk ⟨?_⟩
    refine v_seq ?_; intro Q22 n22 e22 r22
    refine v_block ?_; intro Q23 n23 x23 e23 r23
    refine v_seq ?_; intro Q24 n24 e24 r24
    refine v_region ?_; intro K25 k25
    have F := Fc.mk (And.intro (fun f => getD_map (f := f) hx) (And.intro hi0 (And.intro hk (And.intro (fun f => getD_map (f := f) hy) (And.intro @decide_true @Bool.and_true)))))
    refine zMove ⟨?_⟩
    refine zIndexAddr ⟨?_⟩
    refine zLoad ⟨?_⟩
    refine zAlloc ⟨?_⟩
    refine zAssign ⟨?_⟩
    refine zStore ⟨?_⟩
    refine k25 _ ?_
    refine n24 _ _ (weak_keep [0, 3, 4, 5, 6, 7] _) ?_
    refine zk ⟨?_⟩
    refine v_seq ?_; intro Q26 n26 e26 r26
    refine v_draw (by kernel_rfl) ?_; intro K27 q27 k27
    show aAny _ _ _ _ 25 (Array.replicate 25 false) _
    refine zdFieldAddr q27 true 0 12 ?_
    refine zdLoad q27 true 1 13 ?_
    refine zoc 2 (l1In_con _ _ _) ⟨?_⟩
    refine zdUnOp q27 true 3 15 ?_
    refine zdMove q27 true 4 16 ?_
    refine zdgFieldAddr q27 true 5 17 ?_
    refine zdgLoad q27 true 6 18 ?_
    refine zogc 7 (l1In_con _ _ _) ⟨?_⟩
    refine zdgUnOp q27 true 8 20 ?_
    refine zdPick q27 true 9 21 ?_
    refine zdMove q27 true 10 22 ?_
    refine zdgMove q27 true 11 23 ?_
    refine zdgBinOp q27 true 12 24 ?_
    refine zdgMove q27 true 13 25 ?_
    refine zdgMove q27 true 14 26 ?_
    refine zdgMove q27 true 15 27 ?_
    refine zdgBinOpW q27 true 16 28 ?_
    refine zdgIndexAddr q27 true 17 29 ?_
    refine zdgFieldAddr q27 true 18 30 ?_
    refine zdgLoad q27 true 19 31 ?_
    refine zdgFieldAddr q27 true 20 32 ?_
    refine zdgLoad q27 true 21 33 ?_
    refine zdgBinOp q27 true 22 34 ?_
    refine zdgPick q27 true 23 35 ?_
    refine zdPick q27 true 24 36 ?_
    refine aAny_done (by kernel_rfl) ?_
    refine k27 _ ?_
    refine n26 _ _ (weak_keep [0, 5, 6, 7, 36] _) ?_
    refine zk ⟨?_⟩
    refine v_condS _ rfl ?_ ?_
    ·intro hc1
     refine v_seq ?_; intro Q29 n29 e29 r29
     refine v_region ?_; intro K30 k30
     refine zAssign ⟨?_⟩
     refine k30 _ ?_
     refine n29 _ _ (weak_keep [2] _) ?_
     refine zk ⟨?_⟩
     refine v_ret ?_
     refine r23 _ ?_
     refine r22 _ ?_
     refine r7 _ ?_
     refine r6 _ ?_
     refine r3 _ ?_
     refine r0 _ ?_
     refine zf ⟨?_⟩
     exact ret_pure rfl (by rw [ssB, ← hR, hst]; clear hR hst; simp [sOne, sBefore] at *; intros; omega) (.inl rfl)
    ·intro hc1
     refine v_skip ?_
     refine n23 _ ?_
     refine n22 _ _ (weak_keep [0, 5, 6, 7] _) ?_
     refine zk ⟨?_⟩
     refine v_region ?_; intro K31 k31
     refine zBinOpW ⟨?_⟩
     refine zMove ⟨?_⟩
     refine k31 _ ?_
     refine n7 _ (i + 1) ?_ ?_ ?_
     ·refine weak_bothS [0, 5, 6, 7] [] ⟨?_⟩
      rfl
     ·exact ⟨by omega, by rw [← hR, hst]; clear hR hst; have hone : sOne (x0, x1) = true := (by simp [sOne] at *; omega); first | (simp [hone]; done) | (have hbt : sBefore (y0, y1) (x0, x1) = true := (by simp [sBefore] at *; omega); simp [hone, hbt])⟩
     ·show _ < _; omega
  ·intro hc0
   refine v_exit ?_
   refine e10 _ _ ?_
   refine e7 _ _ ?_
   refine x6 _ ?_
   refine n3 _ _ (weak_keep [0] _) ?_
   refine zk ⟨?_⟩
   refine v_seq ?_; intro Q32 n32 e32 r32
   refine v_region ?_; intro K33 k33
   refine zMove ⟨?_⟩
   refine zLen ⟨?_⟩
   refine zBinOp ⟨?_⟩
   refine zAssign ⟨?_⟩
   refine k33 _ ?_
   refine n32 _ _ (weak_keep [2] _) ?_
   refine zk ⟨?_⟩
   refine v_ret ?_
   refine r0 _ ?_
   refine zf ⟨?_⟩
   exact ret_pure rfl (by rw [ssB, ← hR, chain_end (by omega)]; simp) (.inl rfl)
set_option maxHeartbeats 1000000 in
theorem alFind_con (l : List (Int × Int × Int × Bool)) (n : Int) (hl : l.length ≤ 1048576) : Con Try.prog 141 [.sl (l.map (fun t : Int × Int × Int × Bool => V.agg [V.int .i64 t.1, V.int .i64 t.2.1, V.int .i64 t.2.2.1, V.bool t.2.2.2])), .int .i64 n] [] (.int .i64 (findD n 0 l)) [] := by
 refine v_con [.tmp 4] [] Try.func141 rfl rfl rfl (by simp [Try.ntmps141]) ?_
 intro Q0 n0 r0
 simp only [Try.ntmps141, envFrom, Nat.reduceAdd]
 have T := Tys.mk (And.intro Ty.t3 (And.intro Ty.t4 (And.intro Ty.t29 Ty.t59)))
 have F := Fc.mk True.intro
 refine v_seq ?_; intro Q1 n1 e1 r1
 refine v_region ?_; intro K2 k2
 refine zAssign ⟨?_⟩
 refine k2 _ ?_
 refine n1 _ _ (weak_keep [0, 1] _) ?_
 refine zk ⟨?_⟩
 refine v_seq ?_; intro Q3 n3 e3 r3
 refine v_seq ?_; intro Q4 n4 e4 r4
 refine v_region ?_; intro K5 k5
 refine zMove ⟨?_⟩
 refine zLen ⟨?_⟩
 refine zMove ⟨?_⟩
 refine k5 _ ?_
 refine n4 _ _ (weak_keep [1, 7, 8, 9] _) ?_
 refine zk ⟨?_⟩
 refine v_block ?_; intro Q6 n6 x6 e6 r6
 refine v_loop (fun i => ⟨[(1, .int .i64 n), (7, .sl (l.map (fun t : Int × Int × Int × Bool => V.agg [V.int .i64 t.1, V.int .i64 t.2.1, V.int .i64 t.2.2.1, V.bool t.2.2.2]))), (8, .int .i64 l.length), (9, .int .i64 (Nat.cast i))], [], false, 20, 0⟩) (fun i => i ≤ l.length ∧ findD n i (l.drop i) = findD n 0 l) (fun i => l.length - i) 0 ?_ ?_ ?_
 ·refine weak_of [1, 7, 8, 9] ?_
  simp only [keep_mk, keepE_nil, keepE_cons, look_cons, look_nil, Nat.reduceEqDiff, reduceIte]
  rfl
 ·exact ⟨Nat.zero_le _, rfl⟩
 ·rintro i hok7 Q7 n7 e7 r7
  obtain ⟨hi1, hR⟩ := hok7
  refine v_seq ?_; intro Q8 n8 e8 r8
  refine v_region ?_; intro K9 k9
  refine zBinOp ⟨?_⟩
  refine k9 _ ?_
  refine n8 _ _ (weak_keep [1, 7, 8, 9, 10] _) ?_
  refine zk ⟨?_⟩
  refine v_seq ?_; intro Q10 n10 e10 r10
  refine v_condS _ rfl ?_ ?_
  ·intro hc0
   have hlt : i < l.length := by omega
   obtain ⟨⟨x0, x1, x2, x3⟩, hx⟩ : ∃ x : Int × Int × Int × Bool, l[i]? = some x := ⟨l[i]'(by omega), List.getElem?_eq_getElem (by omega)⟩
   have hst := find_stepD (n := n) hx
   refine v_skip ?_
   refine n10 _ _ (weak_keep [1, 7, 8, 9] _) ?_
   refine zk ⟨?_⟩
   refine v_seq ?_; intro Q12 n12 e12 r12
   refine v_block ?_; intro Q13 n13 x13 e13 r13
   refine v_seq ?_; intro Q14 n14 e14 r14
   refine v_region ?_; intro K15 k15
   have F := Fc.mk (fun f => getD_map (f := f) hx)
   refine zMove ⟨?_⟩
   refine zIndexAddr ⟨?_⟩
   refine zLoad ⟨?_⟩
   refine zAlloc ⟨?_⟩
   refine zAssign ⟨?_⟩
   refine zStore ⟨?_⟩
   refine k15 _ ?_
   refine n14 _ _ (weak_keep [1, 5, 6, 7, 8, 9] _) ?_
   refine zk ⟨?_⟩
   refine v_seq ?_; intro Q16 n16 e16 r16
   refine v_region ?_; intro K17 k17
   refine zFieldAddr ⟨?_⟩
   refine zLoad ⟨?_⟩
   refine zMove ⟨?_⟩
   refine zBinOp ⟨?_⟩
   refine k17 _ ?_
   refine n16 _ _ (weak_keep [1, 5, 7, 8, 9, 17] _) ?_
   refine zk ⟨?_⟩
   refine v_condS _ rfl ?_ ?_
   ·intro hc1
    refine v_seq ?_; intro Q19 n19 e19 r19
    refine v_region ?_; intro K20 k20
    refine zMove ⟨?_⟩
    refine zAssign ⟨?_⟩
    refine k20 _ ?_
    refine n19 _ _ (weak_keep [4] _) ?_
    refine zk ⟨?_⟩
    refine v_ret ?_
    refine r13 _ ?_
    refine r12 _ ?_
    refine r7 _ ?_
    refine r6 _ ?_
    refine r3 _ ?_
    refine r0 _ ?_
    refine zf ⟨?_⟩
    exact ret_pure rfl (by rw [← hR, hst, if_pos hc1]) (.inl rfl)
   ·intro hc1
    refine v_skip ?_
    refine n13 _ ?_
    refine n12 _ _ (weak_keep [1, 7, 8, 9] _) ?_
    refine zk ⟨?_⟩
    refine v_region ?_; intro K21 k21
    refine zBinOpW ⟨?_⟩
    refine zMove ⟨?_⟩
    refine k21 _ ?_
    refine n7 _ (i + 1) ?_ ?_ ?_
    ·refine weak_bothS [1, 7, 8, 9] [] ⟨?_⟩
     rfl
    ·exact ⟨by omega, by rw [← hR, hst, if_neg hc1]⟩
    ·show _ < _; omega
  ·intro hc0
   refine v_exit ?_
   refine e10 _ _ ?_
   refine e7 _ _ ?_
   refine x6 _ ?_
   refine n3 _ _ (weak_keep [] _) ?_
   refine zk ⟨?_⟩
   refine v_seq ?_; intro Q22 n22 e22 r22
   refine v_region ?_; intro K23 k23
   refine zAssign ⟨?_⟩
   refine k23 _ ?_
   refine n22 _ _ (weak_keep [4] _) ?_
   refine zk ⟨?_⟩
   refine v_ret ?_
   refine r0 _ ?_
   refine zf ⟨?_⟩
   exact ret_pure rfl (by rw [← hR, find_endD (by omega)]) (.inl rfl)
set_option maxHeartbeats 1000000 in
theorem areDetectors_con (l : List (Int × Int × Int × Bool)) (hl : l.length ≤ 1048576) : Con Try.prog 75 [.sl (l.map (fun t : Int × Int × Int × Bool => V.agg [V.int .i64 t.1, V.int .i64 t.2.1, V.int .i64 t.2.2.1, V.bool t.2.2.2]))] [] (.bool (dsB l)) [] := by
 refine v_con [.tmp 2] [] Try.func75 rfl rfl rfl (by simp [Try.ntmps75]) ?_
 intro Q0 n0 r0
 simp only [Try.ntmps75, envFrom, Nat.reduceAdd]
 have T := Tys.mk (And.intro Ty.t3 (And.intro Ty.t4 (And.intro Ty.t29 Ty.t59)))
 have F := Fc.mk True.intro
 refine v_seq ?_; intro Q1 n1 e1 r1
 refine v_region ?_; intro K2 k2
 refine zAssign ⟨?_⟩
 refine k2 _ ?_
 refine n1 _ _ (weak_keep [0] _) ?_
 refine zk ⟨?_⟩
 refine v_seq ?_; intro Q3 n3 e3 r3
 refine v_seq ?_; intro Q4 n4 e4 r4
 refine v_region ?_; intro K5 k5
 refine zMove ⟨?_⟩
 refine zLen ⟨?_⟩
 refine zMove ⟨?_⟩
 refine k5 _ ?_
 refine n4 _ _ (weak_keep [0, 5, 6, 7] _) ?_
 refine zk ⟨?_⟩
 refine v_block ?_; intro Q6 n6 x6 e6 r6
 refine v_loop (fun i => ⟨[(0, .sl (l.map (fun t : Int × Int × Int × Bool => V.agg [V.int .i64 t.1, V.int .i64 t.2.1, V.int .i64 t.2.2.1, V.bool t.2.2.2]))), (5, .sl (l.map (fun t : Int × Int × Int × Bool => V.agg [V.int .i64 t.1, V.int .i64 t.2.1, V.int .i64 t.2.2.1, V.bool t.2.2.2]))), (6, .int .i64 l.length), (7, .int .i64 (Nat.cast i))], [], false, 47, 0⟩) (fun i => i ≤ l.length ∧ chainAt dOne dBefore l i = chainAt dOne dBefore l 0) (fun i => l.length - i) 0 ?_ ?_ ?_
 ·refine weak_of [0, 5, 6, 7] ?_
  simp only [keep_mk, keepE_nil, keepE_cons, look_cons, look_nil, Nat.reduceEqDiff, reduceIte]
  rfl
 ·exact ⟨Nat.zero_le _, rfl⟩
 ·rintro i hok7 Q7 n7 e7 r7
  obtain ⟨hi1, hR⟩ := hok7
  refine v_seq ?_; intro Q8 n8 e8 r8
  refine v_region ?_; intro K9 k9
  refine zBinOp ⟨?_⟩
  refine k9 _ ?_
  refine n8 _ _ (weak_keep [0, 5, 6, 7, 8] _) ?_
  refine zk ⟨?_⟩
  refine v_seq ?_; intro Q10 n10 e10 r10
  refine v_condS _ rfl ?_ ?_
  ·intro hc0
   have hlt : i < l.length := by omega
   obtain ⟨⟨x0, x1, x2, x3⟩, hx⟩ : ∃ x : Int × Int × Int × Bool, l[i]? = some x := ⟨l[i]'(by omega), List.getElem?_eq_getElem (by omega)⟩
   rcases Nat.eq_zero_or_pos i with h0 | h0
   ·skip
    have hi0 : ¬ ((0 : Int) < (i : Int)) := by omega
    have hst : chainAt dOne dBefore l i = (dOne (x0, x1, x2, x3) && chainAt dOne dBefore l (i + 1)) := by subst h0; exact chain_zero hx
    refine v_skip ?_
    refine n10 _ _ (weak_keep [0, 5, 6, 7] _) ?_
    refine zk ⟨?_⟩
    refine v_seq ?_; intro Q12 n12 e12 r12
    refine v_block ?_; intro Q13 n13 x13 e13 r13
    refine v_seq ?_; intro Q14 n14 e14 r14
    refine v_region ?_; intro K15 k15
    have F := Fc.mk (And.intro (fun f => getD_map (f := f) hx) (And.intro hi0 (And.intro @decide_false @Bool.and_false)))
    refine zMove ⟨?_⟩
    refine zIndexAddr ⟨?_⟩
    refine zLoad ⟨?_⟩
    refine zAlloc ⟨?_⟩
    refine zAssign ⟨?_⟩
    refine zStore ⟨?_⟩
    refine k15 _ ?_
    refine n14 _ _ (weak_keep [0, 3, 4, 5, 6, 7] _) ?_
    refine zk ⟨?_⟩
    refine v_seq ?_; intro Q16 n16 e16 r16
    refine v_draw (by kernel_rfl) ?_; intro K17 q17 k17
    show aAny _ _ _ _ 31 (Array.replicate 31 false) _
    refine zdFieldAddr q17 true 0 12 ?_
    refine zdLoad q17 true 1 13 ?_
    refine zoc 2 (inside_con _ _ _) ⟨?_⟩
    refine zdUnOp q17 true 3 15 ?_
    refine zdMove q17 true 4 16 ?_
    refine zdgFieldAddr q17 true 5 17 ?_
    refine zdgLoad q17 true 6 18 ?_
    refine zogc 7 (inside_con _ _ _) ⟨?_⟩
    refine zdgUnOp q17 true 8 20 ?_
    refine zdPick q17 true 9 21 ?_
    refine zdMove q17 true 10 22 ?_
    refine zdgFieldAddr q17 true 11 23 ?_
    refine zdgLoad q17 true 12 24 ?_
    refine zogc 13 (inside_con _ _ _) ⟨?_⟩
    refine zdgUnOp q17 true 14 26 ?_
    refine zdPick q17 true 15 27 ?_
    refine zdMove q17 true 16 28 ?_
    refine zdgMove q17 true 17 29 ?_
    refine zdgBinOp q17 true 18 30 ?_
    refine zdgMove q17 true 19 31 ?_
    refine zdgMove q17 true 20 32 ?_
    refine zdgMove q17 true 21 33 ?_
    refine zdgBinOpW q17 true 22 34 ?_
    refine zdgIndexAddr q17 true 23 35 ?_
    refine zdgFieldAddr q17 true 24 36 ?_
    refine zdgLoad q17 true 25 37 ?_
    refine zdgFieldAddr q17 true 26 38 ?_
    refine zdgLoad q17 true 27 39 ?_
    refine zdgBinOp q17 true 28 40 ?_
    refine zdgPick q17 true 29 41 ?_
    refine zdPick q17 true 30 42 ?_
    refine aAny_done (by kernel_rfl) ?_
    refine k17 _ ?_
    refine n16 _ _ (weak_keep [0, 5, 6, 7, 42] _) ?_
    refine zk ⟨?_⟩
    refine v_condS _ rfl ?_ ?_
    ·intro hc1
     refine v_seq ?_; intro Q19 n19 e19 r19
     refine v_region ?_; intro K20 k20
     refine zAssign ⟨?_⟩
     refine k20 _ ?_
     refine n19 _ _ (weak_keep [2] _) ?_
     refine zk ⟨?_⟩
     refine v_ret ?_
     refine r13 _ ?_
     refine r12 _ ?_
     refine r7 _ ?_
     refine r6 _ ?_
     refine r3 _ ?_
     refine r0 _ ?_
     refine zf ⟨?_⟩
     exact ret_pure rfl (by rw [dsB, ← hR, hst]; clear hR hst; simp [dOne, dBefore] at *; intros; omega) (.inl rfl)
    ·intro hc1
     refine v_skip ?_
     refine n13 _ ?_
     refine n12 _ _ (weak_keep [0, 5, 6, 7] _) ?_
     refine zk ⟨?_⟩
     refine v_region ?_; intro K21 k21
     refine zBinOpW ⟨?_⟩
     refine zMove ⟨?_⟩
     refine k21 _ ?_
     refine n7 _ (i + 1) ?_ ?_ ?_
     ·refine weak_bothS [0, 5, 6, 7] [] ⟨?_⟩
      rfl
     ·exact ⟨by omega, by rw [← hR, hst]; clear hR hst; have hone : dOne (x0, x1, x2, x3) = true := (by simp [dOne] at *; omega); first | (simp [hone]; done) | (have hbt : dBefore (y0, y1, y2, y3) (x0, x1, x2, x3) = true := (by simp [dBefore] at *; omega); simp [hone, hbt])⟩
     ·show _ < _; omega
   ·skip
    obtain ⟨⟨y0, y1, y2, y3⟩, hy⟩ : ∃ x : Int × Int × Int × Bool, l[i - 1]? = some x := ⟨l[i - 1]'(by omega), List.getElem?_eq_getElem (by omega)⟩
    have hi0 : (0 : Int) < i := by omega
    have hk : ((i : Int) - 1).toNat = i - 1 := by omega
    have hst := chain_succ (ok := dOne) (bf := dBefore) h0 hy hx
    refine v_skip ?_
    refine n10 _ _ (weak_keep [0, 5, 6, 7] _) ?_
    refine zk ⟨?_⟩
    refine v_seq ?_; intro Q22 n22 e22 r22
    refine v_block ?_; intro Q23 n23 x23 e23 r23
    refine v_seq ?_; intro Q24 n24 e24 r24
    refine v_region ?_; intro K25 k25
    have F := Fc.mk (And.intro (fun f => getD_map (f := f) hx) (And.intro hi0 (And.intro hk (And.intro (fun f => getD_map (f := f) hy) (And.intro @decide_true @Bool.and_true)))))
    refine zMove ⟨?_⟩
    refine zIndexAddr ⟨?_⟩
    refine zLoad ⟨?_⟩
    refine zAlloc ⟨?_⟩
    refine zAssign ⟨?_⟩
    refine zStore ⟨?_⟩
    refine k25 _ ?_
    refine n24 _ _ (weak_keep [0, 3, 4, 5, 6, 7] _) ?_
    refine zk ⟨?_⟩
    refine v_seq ?_; intro Q26 n26 e26 r26
    refine v_draw (by kernel_rfl) ?_; intro K27 q27 k27
    show aAny _ _ _ _ 31 (Array.replicate 31 false) _
    refine zdFieldAddr q27 true 0 12 ?_
    refine zdLoad q27 true 1 13 ?_
    refine zoc 2 (inside_con _ _ _) ⟨?_⟩
    refine zdUnOp q27 true 3 15 ?_
    refine zdMove q27 true 4 16 ?_
    refine zdgFieldAddr q27 true 5 17 ?_
    refine zdgLoad q27 true 6 18 ?_
    refine zogc 7 (inside_con _ _ _) ⟨?_⟩
    refine zdgUnOp q27 true 8 20 ?_
    refine zdPick q27 true 9 21 ?_
    refine zdMove q27 true 10 22 ?_
    refine zdgFieldAddr q27 true 11 23 ?_
    refine zdgLoad q27 true 12 24 ?_
    refine zogc 13 (inside_con _ _ _) ⟨?_⟩
    refine zdgUnOp q27 true 14 26 ?_
    refine zdPick q27 true 15 27 ?_
    refine zdMove q27 true 16 28 ?_
    refine zdgMove q27 true 17 29 ?_
    refine zdgBinOp q27 true 18 30 ?_
    refine zdgMove q27 true 19 31 ?_
    refine zdgMove q27 true 20 32 ?_
    refine zdgMove q27 true 21 33 ?_
    refine zdgBinOpW q27 true 22 34 ?_
    refine zdgIndexAddr q27 true 23 35 ?_
    refine zdgFieldAddr q27 true 24 36 ?_
    refine zdgLoad q27 true 25 37 ?_
    refine zdgFieldAddr q27 true 26 38 ?_
    refine zdgLoad q27 true 27 39 ?_
    refine zdgBinOp q27 true 28 40 ?_
    refine zdgPick q27 true 29 41 ?_
    refine zdPick q27 true 30 42 ?_
    refine aAny_done (by kernel_rfl) ?_
    refine k27 _ ?_
    refine n26 _ _ (weak_keep [0, 5, 6, 7, 42] _) ?_
    refine zk ⟨?_⟩
    refine v_condS _ rfl ?_ ?_
    ·intro hc1
     refine v_seq ?_; intro Q29 n29 e29 r29
     refine v_region ?_; intro K30 k30
     refine zAssign ⟨?_⟩
     refine k30 _ ?_
     refine n29 _ _ (weak_keep [2] _) ?_
     refine zk ⟨?_⟩
     refine v_ret ?_
     refine r23 _ ?_
     refine r22 _ ?_
     refine r7 _ ?_
     refine r6 _ ?_
     refine r3 _ ?_
     refine r0 _ ?_
     refine zf ⟨?_⟩
     exact ret_pure rfl (by rw [dsB, ← hR, hst]; clear hR hst; simp [dOne, dBefore] at *; intros; omega) (.inl rfl)
    ·intro hc1
     refine v_skip ?_
     refine n23 _ ?_
     refine n22 _ _ (weak_keep [0, 5, 6, 7] _) ?_
     refine zk ⟨?_⟩
     refine v_region ?_; intro K31 k31
     refine zBinOpW ⟨?_⟩
     refine zMove ⟨?_⟩
     refine k31 _ ?_
     refine n7 _ (i + 1) ?_ ?_ ?_
     ·refine weak_bothS [0, 5, 6, 7] [] ⟨?_⟩
      rfl
     ·exact ⟨by omega, by rw [← hR, hst]; clear hR hst; have hone : dOne (x0, x1, x2, x3) = true := (by simp [dOne] at *; omega); first | (simp [hone]; done) | (have hbt : dBefore (y0, y1, y2, y3) (x0, x1, x2, x3) = true := (by simp [dBefore] at *; omega); simp [hone, hbt])⟩
     ·show _ < _; omega
  ·intro hc0
   refine v_exit ?_
   refine e10 _ _ ?_
   refine e7 _ _ ?_
   refine x6 _ ?_
   refine n3 _ _ (weak_keep [0] _) ?_
   refine zk ⟨?_⟩
   refine v_seq ?_; intro Q32 n32 e32 r32
   refine v_region ?_; intro K33 k33
   refine zMove ⟨?_⟩
   refine zLen ⟨?_⟩
   refine zBinOp ⟨?_⟩
   refine zAssign ⟨?_⟩
   refine k33 _ ?_
   refine n32 _ _ (weak_keep [2] _) ?_
   refine zk ⟨?_⟩
   refine v_ret ?_
   refine r0 _ ?_
   refine zf ⟨?_⟩
   exact ret_pure rfl (by rw [dsB, ← hR, chain_end (by omega)]; simp) (.inl rfl)
set_option maxHeartbeats 1000000 in
theorem areSignals_con (l : List (Int × Int)) (hl : l.length ≤ 1048576) : Con Try.prog 76 [.sl (l.map (fun t : Int × Int => V.agg [V.int .i64 t.1, V.int .i64 t.2]))] [] (.bool (ssB l)) [] := by
 refine v_con [.tmp 2] [] Try.func76 rfl rfl rfl (by simp [Try.ntmps76]) ?_
 intro Q0 n0 r0
 simp only [Try.ntmps76, envFrom, Nat.reduceAdd]
 have T := Tys.mk (And.intro Ty.t3 (And.intro Ty.t4 (And.intro Ty.t31 Ty.t57)))
 have F := Fc.mk True.intro
 refine v_seq ?_; intro Q1 n1 e1 r1
 refine v_region ?_; intro K2 k2
 refine zAssign ⟨?_⟩
 refine k2 _ ?_
 refine n1 _ _ (weak_keep [0] _) ?_
 refine zk ⟨?_⟩
 refine v_seq ?_; intro Q3 n3 e3 r3
 refine v_seq ?_; intro Q4 n4 e4 r4
 refine v_region ?_; intro K5 k5
 refine zMove ⟨?_⟩
 refine zLen ⟨?_⟩
 refine zMove ⟨?_⟩
 refine k5 _ ?_
 refine n4 _ _ (weak_keep [0, 5, 6, 7] _) ?_
 refine zk ⟨?_⟩
 refine v_block ?_; intro Q6 n6 x6 e6 r6
 refine v_loop (fun i => ⟨[(0, .sl (l.map (fun t : Int × Int => V.agg [V.int .i64 t.1, V.int .i64 t.2]))), (5, .sl (l.map (fun t : Int × Int => V.agg [V.int .i64 t.1, V.int .i64 t.2]))), (6, .int .i64 l.length), (7, .int .i64 (Nat.cast i))], [], false, 41, 0⟩) (fun i => i ≤ l.length ∧ chainAt sOne sBefore l i = chainAt sOne sBefore l 0) (fun i => l.length - i) 0 ?_ ?_ ?_
 ·refine weak_of [0, 5, 6, 7] ?_
  simp only [keep_mk, keepE_nil, keepE_cons, look_cons, look_nil, Nat.reduceEqDiff, reduceIte]
  rfl
 ·exact ⟨Nat.zero_le _, rfl⟩
 ·rintro i hok7 Q7 n7 e7 r7
  obtain ⟨hi1, hR⟩ := hok7
  refine v_seq ?_; intro Q8 n8 e8 r8
  refine v_region ?_; intro K9 k9
  refine zBinOp ⟨?_⟩
  refine k9 _ ?_
  refine n8 _ _ (weak_keep [0, 5, 6, 7, 8] _) ?_
  refine zk ⟨?_⟩
  refine v_seq ?_; intro Q10 n10 e10 r10
  refine v_condS _ rfl ?_ ?_
  ·intro hc0
   have hlt : i < l.length := by omega
   obtain ⟨⟨x0, x1⟩, hx⟩ : ∃ x : Int × Int, l[i]? = some x := ⟨l[i]'(by omega), List.getElem?_eq_getElem (by omega)⟩
   rcases Nat.eq_zero_or_pos i with h0 | h0
   ·skip
    have hi0 : ¬ ((0 : Int) < (i : Int)) := by omega
    have hst : chainAt sOne sBefore l i = (sOne (x0, x1) && chainAt sOne sBefore l (i + 1)) := by subst h0; exact chain_zero hx
    refine v_skip ?_
    refine n10 _ _ (weak_keep [0, 5, 6, 7] _) ?_
    refine zk ⟨?_⟩
    refine v_seq ?_; intro Q12 n12 e12 r12
    refine v_block ?_; intro Q13 n13 x13 e13 r13
    refine v_seq ?_; intro Q14 n14 e14 r14
    refine v_region ?_; intro K15 k15
    have F := Fc.mk (And.intro (fun f => getD_map (f := f) hx) (And.intro hi0 (And.intro @decide_false @Bool.and_false)))
    refine zMove ⟨?_⟩
    refine zIndexAddr ⟨?_⟩
    refine zLoad ⟨?_⟩
    refine zAlloc ⟨?_⟩
    refine zAssign ⟨?_⟩
    refine zStore ⟨?_⟩
    refine k15 _ ?_
    refine n14 _ _ (weak_keep [0, 3, 4, 5, 6, 7] _) ?_
    refine zk ⟨?_⟩
    refine v_seq ?_; intro Q16 n16 e16 r16
    refine v_draw (by kernel_rfl) ?_; intro K17 q17 k17
    show aAny _ _ _ _ 25 (Array.replicate 25 false) _
    refine zdFieldAddr q17 true 0 12 ?_
    refine zdLoad q17 true 1 13 ?_
    refine zoc 2 (inside_con _ _ _) ⟨?_⟩
    refine zdUnOp q17 true 3 15 ?_
    refine zdMove q17 true 4 16 ?_
    refine zdgFieldAddr q17 true 5 17 ?_
    refine zdgLoad q17 true 6 18 ?_
    refine zogc 7 (inside_con _ _ _) ⟨?_⟩
    refine zdgUnOp q17 true 8 20 ?_
    refine zdPick q17 true 9 21 ?_
    refine zdMove q17 true 10 22 ?_
    refine zdgMove q17 true 11 23 ?_
    refine zdgBinOp q17 true 12 24 ?_
    refine zdgMove q17 true 13 25 ?_
    refine zdgMove q17 true 14 26 ?_
    refine zdgMove q17 true 15 27 ?_
    refine zdgBinOpW q17 true 16 28 ?_
    refine zdgIndexAddr q17 true 17 29 ?_
    refine zdgFieldAddr q17 true 18 30 ?_
    refine zdgLoad q17 true 19 31 ?_
    refine zdgFieldAddr q17 true 20 32 ?_
    refine zdgLoad q17 true 21 33 ?_
    refine zdgBinOp q17 true 22 34 ?_
    refine zdgPick q17 true 23 35 ?_
    refine zdPick q17 true 24 36 ?_
    refine aAny_done (by kernel_rfl) ?_
    refine k17 _ ?_
    refine n16 _ _ (weak_keep [0, 5, 6, 7, 36] _) ?_
    refine zk ⟨?_⟩
    refine v_condS _ rfl ?_ ?_
    ·intro hc1
     refine v_seq ?_; intro Q19 n19 e19 r19
     refine v_region ?_; intro K20 k20
     refine zAssign ⟨?_⟩
     refine k20 _ ?_
     refine n19 _ _ (weak_keep [2] _) ?_
     refine zk ⟨?_⟩
     refine v_ret ?_
     refine r13 _ ?_
     refine r12 _ ?_
     refine r7 _ ?_
     refine r6 _ ?_
     refine r3 _ ?_
     refine r0 _ ?_
     refine zf ⟨?_⟩
     exact ret_pure rfl (by rw [ssB, ← hR, hst]; clear hR hst; simp [sOne, sBefore] at *; intros; omega) (.inl rfl)
    ·intro hc1
     refine v_skip ?_
     refine n13 _ ?_
     refine n12 _ _ (weak_keep [0, 5, 6, 7] _) ?_
     refine zk ⟨?_⟩
     refine v_region ?_; intro K21 k21
     refine zBinOpW ⟨?_⟩
     refine zMove ⟨?_⟩
     refine k21 _ ?_
     refine n7 _ (i + 1) ?_ ?_ ?_
     ·refine weak_bothS [0, 5, 6, 7] [] ⟨?_⟩
      rfl
     ·exact ⟨by omega, by rw [← hR, hst]; clear hR hst; have hone : sOne (x0, x1) = true := (by simp [sOne] at *; omega); first | (simp [hone]; done) | (have hbt : sBefore (y0, y1) (x0, x1) = true := (by simp [sBefore] at *; omega); simp [hone, hbt])⟩
     ·show _ < _; omega
   ·skip
    obtain ⟨⟨y0, y1⟩, hy⟩ : ∃ x : Int × Int, l[i - 1]? = some x := ⟨l[i - 1]'(by omega), List.getElem?_eq_getElem (by omega)⟩
    have hi0 : (0 : Int) < i := by omega
    have hk : ((i : Int) - 1).toNat = i - 1 := by omega
    have hst := chain_succ (ok := sOne) (bf := sBefore) h0 hy hx
    refine v_skip ?_
    refine n10 _ _ (weak_keep [0, 5, 6, 7] _) ?_
    refine zk ⟨?_⟩
    refine v_seq ?_; intro Q22 n22 e22 r22
    refine v_block ?_; intro Q23 n23 x23 e23 r23
    refine v_seq ?_; intro Q24 n24 e24 r24
    refine v_region ?_; intro K25 k25
    have F := Fc.mk (And.intro (fun f => getD_map (f := f) hx) (And.intro hi0 (And.intro hk (And.intro (fun f => getD_map (f := f) hy) (And.intro @decide_true @Bool.and_true)))))
    refine zMove ⟨?_⟩
    refine zIndexAddr ⟨?_⟩
    refine zLoad ⟨?_⟩
    refine zAlloc ⟨?_⟩
    refine zAssign ⟨?_⟩
    refine zStore ⟨?_⟩
    refine k25 _ ?_
    refine n24 _ _ (weak_keep [0, 3, 4, 5, 6, 7] _) ?_
    refine zk ⟨?_⟩
    refine v_seq ?_; intro Q26 n26 e26 r26
    refine v_draw (by kernel_rfl) ?_; intro K27 q27 k27
    show aAny _ _ _ _ 25 (Array.replicate 25 false) _
    refine zdFieldAddr q27 true 0 12 ?_
    refine zdLoad q27 true 1 13 ?_
    refine zoc 2 (inside_con _ _ _) ⟨?_⟩
    refine zdUnOp q27 true 3 15 ?_
    refine zdMove q27 true 4 16 ?_
    refine zdgFieldAddr q27 true 5 17 ?_
    refine zdgLoad q27 true 6 18 ?_
    refine zogc 7 (inside_con _ _ _) ⟨?_⟩
    refine zdgUnOp q27 true 8 20 ?_
    refine zdPick q27 true 9 21 ?_
    refine zdMove q27 true 10 22 ?_
    refine zdgMove q27 true 11 23 ?_
    refine zdgBinOp q27 true 12 24 ?_
    refine zdgMove q27 true 13 25 ?_
    refine zdgMove q27 true 14 26 ?_
    refine zdgMove q27 true 15 27 ?_
    refine zdgBinOpW q27 true 16 28 ?_
    refine zdgIndexAddr q27 true 17 29 ?_
    refine zdgFieldAddr q27 true 18 30 ?_
    refine zdgLoad q27 true 19 31 ?_
    refine zdgFieldAddr q27 true 20 32 ?_
    refine zdgLoad q27 true 21 33 ?_
    refine zdgBinOp q27 true 22 34 ?_
    refine zdgPick q27 true 23 35 ?_
    refine zdPick q27 true 24 36 ?_
    refine aAny_done (by kernel_rfl) ?_
    refine k27 _ ?_
    refine n26 _ _ (weak_keep [0, 5, 6, 7, 36] _) ?_
    refine zk ⟨?_⟩
    refine v_condS _ rfl ?_ ?_
    ·intro hc1
     refine v_seq ?_; intro Q29 n29 e29 r29
     refine v_region ?_; intro K30 k30
     refine zAssign ⟨?_⟩
     refine k30 _ ?_
     refine n29 _ _ (weak_keep [2] _) ?_
     refine zk ⟨?_⟩
     refine v_ret ?_
     refine r23 _ ?_
     refine r22 _ ?_
     refine r7 _ ?_
     refine r6 _ ?_
     refine r3 _ ?_
     refine r0 _ ?_
     refine zf ⟨?_⟩
     exact ret_pure rfl (by rw [ssB, ← hR, hst]; clear hR hst; simp [sOne, sBefore] at *; intros; omega) (.inl rfl)
    ·intro hc1
     refine v_skip ?_
     refine n23 _ ?_
     refine n22 _ _ (weak_keep [0, 5, 6, 7] _) ?_
     refine zk ⟨?_⟩
     refine v_region ?_; intro K31 k31
     refine zBinOpW ⟨?_⟩
     refine zMove ⟨?_⟩
     refine k31 _ ?_
     refine n7 _ (i + 1) ?_ ?_ ?_
     ·refine weak_bothS [0, 5, 6, 7] [] ⟨?_⟩
      rfl
     ·exact ⟨by omega, by rw [← hR, hst]; clear hR hst; have hone : sOne (x0, x1) = true := (by simp [sOne] at *; omega); first | (simp [hone]; done) | (have hbt : sBefore (y0, y1) (x0, x1) = true := (by simp [sBefore] at *; omega); simp [hone, hbt])⟩
     ·show _ < _; omega
  ·intro hc0
   refine v_exit ?_
   refine e10 _ _ ?_
   refine e7 _ _ ?_
   refine x6 _ ?_
   refine n3 _ _ (weak_keep [0] _) ?_
   refine zk ⟨?_⟩
   refine v_seq ?_; intro Q32 n32 e32 r32
   refine v_region ?_; intro K33 k33
   refine zMove ⟨?_⟩
   refine zLen ⟨?_⟩
   refine zBinOp ⟨?_⟩
   refine zAssign ⟨?_⟩
   refine k33 _ ?_
   refine n32 _ _ (weak_keep [2] _) ?_
   refine zk ⟨?_⟩
   refine v_ret ?_
   refine r0 _ ?_
   refine zf ⟨?_⟩
   exact ret_pure rfl (by rw [ssB, ← hR, chain_end (by omega)]; simp) (.inl rfl)
end Go.Proofs.Ytdgenniiidgimaa
