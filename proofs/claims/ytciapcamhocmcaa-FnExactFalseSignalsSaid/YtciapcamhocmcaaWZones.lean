/- What functions compute (Zones). No condition. -/
import Derived.Test.YtciapcamhocmcaaTy
import Derived.Test.YtciapcamhocmcaaVm27
import Derived.Test.YtciapcamhocmcaaWZoneAlarm
import Derived.Test.YtciapcamhocmcaaWAlarm
import Derived.Test.YtciapcamhocmcaaWBase
set_option linter.unusedSimpArgs false
set_option linter.unusedVariables false
set_option linter.defProp false
namespace Go.Proofs.Ytciapcamhocmcaa
open Go Go.Vm

def alarmOf (l : List (Int × Int × Int × Bool)) (s : List (Int × Int)) (zone within : Int) : Int := alarmFrom l zone within (s.filter (liveB l)) 0 (s.filter (liveB l))
def askB (l : List (Int × Int × Int × Bool)) (s : List (Int × Int)) (within : Int) : Bool := dsB l && ssB s && (decide (0 ≤ within) && decide (within ≤ 3600))
def zonesTo (l : List (Int × Int × Int × Bool)) (s : List (Int × Int)) (within : Int) : Nat → List Int
  | 0 => []
  | n + 1 => zonesTo l s within n ++ (if 0 ≤ alarmOf l s ((n : Int) + 1) within then [(n : Int) + 1] else [])
def firstTo (l : List (Int × Int × Int × Bool)) (s : List (Int × Int)) (within : Int) : Nat → Int × Int
  | 0 => (0, 0)
  | n + 1 => if 0 ≤ alarmOf l s ((n : Int) + 1) within ∧ ((firstTo l s within n).1 = 0 ∨ alarmOf l s ((n : Int) + 1) within < (firstTo l s within n).2) then ((n : Int) + 1, alarmOf l s ((n : Int) + 1) within) else firstTo l s within n
def firstR (l : List (Int × Int × Int × Bool)) (s : List (Int × Int)) (within : Int) : Int × Int := if askB l s within = true then firstTo l s within 9 else (0, 0)
def zonesR (l : List (Int × Int × Int × Bool)) (s : List (Int × Int)) (within : Int) : List Int := if askB l s within = true then zonesTo l s within 9 else []
theorem snoc_zone {l : List Int} {x : Int} : l.map (V.int .i64) ++ [V.int .i64 x] = (l ++ [x]).map (V.int .i64) := by rw [List.map_append]; rfl

set_option maxHeartbeats 1000000 in
theorem alAsked_con (l : List (Int × Int × Int × Bool)) (s : List (Int × Int)) (within : Int) (hl : l.length ≤ 1048576) (hs : s.length ≤ 1048576) : Con Try.prog 90 [.sl (l.map (fun t : Int × Int × Int × Bool => V.agg [V.int .i64 t.1, V.int .i64 t.2.1, V.int .i64 t.2.2.1, V.bool t.2.2.2])), .sl (s.map (fun t : Int × Int => V.agg [V.int .i64 t.1, V.int .i64 t.2])), .int .i64 within] [] (.bool (askB l s within)) [] := by
 refine v_con [.tmp 6] [] Try.func90 rfl rfl rfl (by simp [Try.ntmps90]) ?_
 intro Q0 n0 r0
 simp only [Try.ntmps90, envFrom, Nat.reduceAdd]
 have T := Tys.mk (And.intro Ty.t3 (And.intro Ty.t4 (And.intro Ty.t59 (And.intro Ty.t61 (And.intro Ty.t110 Ty.t114)))))
 have F := Fc.mk True.intro
 refine v_seq ?_; intro Q1 n1 e1 r1
 refine v_region ?_; intro K2 k2
 refine zAssign ⟨?_⟩
 refine k2 _ ?_
 refine n1 _ _ (weak_keep [0, 1, 2] _) ?_
 refine zk ⟨?_⟩
 refine v_seq ?_; intro Q3 n3 e3 r3
 refine v_region ?_; intro K4 k4
 refine zMove ⟨?_⟩
 refine zc (alGood_con l hl) ⟨?_⟩
 refine zMove ⟨?_⟩
 refine zgMove ⟨?_⟩
 refine zgc (alSignals_con s hs) ⟨?_⟩
 refine zPick ⟨?_⟩
 refine zMove ⟨?_⟩
 refine zgMove ⟨?_⟩
 refine zgc (l1In_con _ _ _) ⟨?_⟩
 refine zPick ⟨?_⟩
 refine zAssign ⟨?_⟩
 refine k4 _ ?_
 refine n3 _ _ (weak_keep [6] _) ?_
 refine zk ⟨?_⟩
 refine v_ret ?_
 refine r0 _ ?_
 refine zf ⟨?_⟩
 exact ret_pure rfl (by first | rfl | simp [askB]) (.inl rfl)
set_option maxHeartbeats 1000000 in
theorem alZones_con (l : List (Int × Int × Int × Bool)) (s : List (Int × Int)) (within : Int) (hl : l.length ≤ 1048576) (hs : s.length ≤ 1048576) : Con Try.prog 116 [.sl (l.map (fun t : Int × Int × Int × Bool => V.agg [V.int .i64 t.1, V.int .i64 t.2.1, V.int .i64 t.2.2.1, V.bool t.2.2.2])), .sl (s.map (fun t : Int × Int => V.agg [V.int .i64 t.1, V.int .i64 t.2])), .int .i64 within] [] (.ref 0) [.arr ((zonesTo l s within 9).map (V.int .i64)) .flat] := by
 refine v_con [.tmp 6] [] Try.func116 rfl rfl rfl (by simp [Try.ntmps116]) ?_
 intro Q0 n0 r0
 simp only [Try.ntmps116, envFrom, Nat.reduceAdd]
 have T := Tys.mk (And.intro Ty.t3 (And.intro Ty.t4 (And.intro Ty.t47 (And.intro Ty.t59 (And.intro Ty.t61 (And.intro Ty.t110 Ty.t114))))))
 have F := Fc.mk True.intro
 refine v_seq ?_; intro Q1 n1 e1 r1
 refine v_region ?_; intro K2 k2
 refine zAssign ⟨?_⟩
 refine k2 _ ?_
 refine n1 _ _ (weak_keep [0, 1, 2] _) ?_
 refine zk ⟨?_⟩
 refine v_seq ?_; intro Q3 n3 e3 r3
 refine v_region ?_; intro K4 k4
 refine zAssign ⟨?_⟩
 refine k4 _ ?_
 refine n3 _ _ (weak_keep [0, 1, 2, 7] _) ?_
 refine zk ⟨?_⟩
 refine v_seq ?_; intro Q5 n5 e5 r5
 refine v_seq ?_; intro Q6 n6 e6 r6
 refine v_region ?_; intro K7 k7
 refine zAssign ⟨?_⟩
 refine k7 _ ?_
 refine n6 _ _ (weak_keep [0, 1, 2, 7, 8] _) ?_
 refine zk ⟨?_⟩
 refine v_block ?_; intro Q8 n8 x8 e8 r8
 refine v_loop (fun p => ⟨[(0, .sl (l.map (fun t : Int × Int × Int × Bool => V.agg [V.int .i64 t.1, V.int .i64 t.2.1, V.int .i64 t.2.2.1, V.bool t.2.2.2]))), (1, .sl (s.map (fun t : Int × Int => V.agg [V.int .i64 t.1, V.int .i64 t.2]))), (2, .int .i64 within), (7, .ref 0), (8, .int .i64 ((p.1 : Int) + 1))], [.arr (p.2.map (V.int .i64)) .flat], false, 24, 0⟩) (fun p => p.1 ≤ 9 ∧ p.2.length ≤ p.1 ∧ p.2 = zonesTo l s within p.1) (fun p => 9 - p.1) ((0, []) : Nat × List Int) ?_ ?_ ?_
 ·refine weak_bothS [0, 1, 2, 7, 8] [1] ⟨?_⟩
  rfl
 ·exact ⟨Nat.zero_le _, Nat.le_refl _, rfl⟩
 ·rintro ⟨i, acc⟩ hok9 Q9 n9 e9 r9
  obtain ⟨hi1, hal, hR⟩ := hok9
  simp only [] at hi1 hal hR ⊢
  refine v_seq ?_; intro Q10 n10 e10 r10
  refine v_seq ?_; intro Q11 n11 e11 r11
  refine v_region ?_; intro K12 k12
  refine zMove ⟨?_⟩
  refine zBinOp ⟨?_⟩
  refine k12 _ ?_
  refine n11 _ _ (weak_keep [0, 1, 2, 7, 8, 10] _) ?_
  refine zk ⟨?_⟩
  refine v_condS _ rfl ?_ ?_
  ·intro hc0
   have hlt : i < 9 := by omega
   refine v_skip ?_
   refine n10 _ _ (weak_keep [0, 1, 2, 7, 8] _) ?_
   refine zk ⟨?_⟩
   refine v_seq ?_; intro Q14 n14 e14 r14
   refine v_block ?_; intro Q15 n15 x15 e15 r15
   refine v_seq ?_; intro Q16 n16 e16 r16
   refine v_region ?_; intro K17 k17
   refine zMove ⟨?_⟩
   refine zMove ⟨?_⟩
   refine zMove ⟨?_⟩
   refine zMove ⟨?_⟩
   refine zc ((alAlarm_con l s ((i : Int) + 1) within hl hs : Con _ _ _ _ (.int .i64 (alarmOf l s ((i : Int) + 1) within)) _)) ⟨?_⟩
   refine zBinOp ⟨?_⟩
   refine k17 _ ?_
   refine n16 _ _ (weak_keep [0, 1, 2, 7, 8, 18] _) ?_
   refine zk ⟨?_⟩
   refine v_condS _ rfl ?_ ?_
   ·intro hc1
    refine v_region ?_; intro K19 k19
    refine zMove ⟨?_⟩
    refine zMove ⟨?_⟩
    refine zBuildSlice ⟨?_⟩
    refine zAppend ⟨?_⟩
    refine zAssign ⟨?_⟩
    refine k19 _ ?_
    refine n15 _ ?_
    refine n14 _ _ (weak_keep [0, 1, 2, 7, 8] _) ?_
    refine zk ⟨?_⟩
    refine v_region ?_; intro K20 k20
    refine zMove ⟨?_⟩
    refine zBinOpW ⟨?_⟩
    refine zAssign ⟨?_⟩
    refine k20 _ ?_
    refine n9 _ (i + 1, acc ++ [(i : Int) + 1]) ?_ ?_ ?_
    ·refine weak_bothS [0, 1, 2, 7, 8] [2] ⟨?_⟩
     rw [snoc_zone]; rfl
    ·exact ⟨hlt, by show (acc ++ _).length ≤ i + 1; simp; omega, by show acc ++ _ = zonesTo l s within (i + 1); rw [zonesTo, ← hR, if_pos (show 0 ≤ alarmOf l s ((i : Int) + 1) within from hc1)]⟩
    ·show _ < _; show 9 - (i + 1) < 9 - i; omega
   ·intro hc1
    refine v_skip ?_
    refine n15 _ ?_
    refine n14 _ _ (weak_keep [0, 1, 2, 7, 8] _) ?_
    refine zk ⟨?_⟩
    refine v_region ?_; intro K21 k21
    refine zMove ⟨?_⟩
    refine zBinOpW ⟨?_⟩
    refine zAssign ⟨?_⟩
    refine k21 _ ?_
    refine n9 _ (i + 1, acc) ?_ ?_ ?_
    ·refine weak_bothS [0, 1, 2, 7, 8] [0] ⟨?_⟩
     rfl
    ·exact ⟨hlt, by show acc.length ≤ i + 1; omega, by show acc = zonesTo l s within (i + 1); rw [zonesTo, ← hR, if_neg (show ¬ 0 ≤ alarmOf l s ((i : Int) + 1) within from Int.not_le.2 hc1), List.append_nil]⟩
    ·show _ < _; show 9 - (i + 1) < 9 - i; omega
  ·intro hc0
   refine v_exit ?_
   refine e10 _ _ ?_
   refine e9 _ _ ?_
   refine x8 _ ?_
   refine n5 _ _ (weak_keep [7] _) ?_
   refine zk ⟨?_⟩
   refine v_seq ?_; intro Q22 n22 e22 r22
   refine v_region ?_; intro K23 k23
   refine zMove ⟨?_⟩
   refine zAssign ⟨?_⟩
   refine k23 _ ?_
   refine n22 _ _ (weak_keep [6] _) ?_
   refine zk ⟨?_⟩
   refine v_ret ?_
   refine r0 _ ?_
   refine zf ⟨?_⟩
   have hend : i = 9 := by omega
   subst hend
   rw [← hR]
   exact ret_ref rfl (.inl rfl)
set_option maxHeartbeats 1000000 in
theorem specFirstAlarm_con (l : List (Int × Int × Int × Bool)) (s : List (Int × Int)) (within : Int) (hl : l.length ≤ 1048576) (hs : s.length ≤ 1048576) : Con Try.prog 42 [.sl (l.map (fun t : Int × Int × Int × Bool => V.agg [V.int .i64 t.1, V.int .i64 t.2.1, V.int .i64 t.2.2.1, V.bool t.2.2.2])), .sl (s.map (fun t : Int × Int => V.agg [V.int .i64 t.1, V.int .i64 t.2])), .int .i64 within] [] (.tup [.int .i64 (firstR l s within).1, .int .i64 (firstR l s within).2, .bool (decide (0 < (firstR l s within).1))]) [] := by
 refine v_con [.tmp 6, .tmp 7, .tmp 8] [] Try.func42 rfl rfl rfl (by simp [Try.ntmps42]) ?_
 intro Q0 n0 r0
 simp only [Try.ntmps42, envFrom, Nat.reduceAdd]
 have T := Tys.mk (And.intro Ty.t3 (And.intro Ty.t4 (And.intro Ty.t59 (And.intro Ty.t61 (And.intro Ty.t110 Ty.t114)))))
 have F := Fc.mk True.intro
 refine v_seq ?_; intro Q1 n1 e1 r1
 refine v_region ?_; intro K2 k2
 refine zAssign ⟨?_⟩
 refine zAssign ⟨?_⟩
 refine zAssign ⟨?_⟩
 refine k2 _ ?_
 refine n1 _ _ (weak_keep [0, 1, 2] _) ?_
 refine zk ⟨?_⟩
 refine v_seq ?_; intro Q3 n3 e3 r3
 refine v_seq ?_; intro Q4 n4 e4 r4
 refine v_region ?_; intro K5 k5
 refine zMove ⟨?_⟩
 refine zMove ⟨?_⟩
 refine zMove ⟨?_⟩
 refine zc (alAsked_con l s within hl hs) ⟨?_⟩
 refine zUnOp ⟨?_⟩
 refine k5 _ ?_
 refine n4 _ _ (weak_keep [0, 1, 2, 17] _) ?_
 refine zk ⟨?_⟩
 refine v_condS _ rfl ?_ ?_
 ·intro hc0
  refine v_seq ?_; intro Q7 n7 e7 r7
  refine v_region ?_; intro K8 k8
  refine zAssign ⟨?_⟩
  refine zAssign ⟨?_⟩
  refine zAssign ⟨?_⟩
  refine k8 _ ?_
  refine n7 _ _ (weak_keep [6, 7, 8] _) ?_
  refine zk ⟨?_⟩
  refine v_ret ?_
  refine r3 _ ?_
  refine r0 _ ?_
  refine zf ⟨?_⟩
  rw [show firstR l s within = (0, 0) by rw [firstR, hc0]; rfl]
  exact ret_pure rfl rfl (.inl rfl)
 ·intro hc0
  refine v_skip ?_
  refine n3 _ _ (weak_keep [0, 1, 2] _) ?_
  refine zk ⟨?_⟩
  refine v_seq ?_; intro Q9 n9 e9 r9
  refine v_region ?_; intro K10 k10
  refine zAssign ⟨?_⟩
  refine zAssign ⟨?_⟩
  refine k10 _ ?_
  refine n9 _ _ (weak_keep [0, 1, 2, 9, 10] _) ?_
  refine zk ⟨?_⟩
  refine v_seq ?_; intro Q11 n11 e11 r11
  refine v_seq ?_; intro Q12 n12 e12 r12
  refine v_region ?_; intro K13 k13
  refine zAssign ⟨?_⟩
  refine k13 _ ?_
  refine n12 _ _ (weak_keep [0, 1, 2, 9, 10, 11] _) ?_
  refine zk ⟨?_⟩
  refine v_block ?_; intro Q14 n14 x14 e14 r14
  refine v_loop (fun p => ⟨[(0, .sl (l.map (fun t : Int × Int × Int × Bool => V.agg [V.int .i64 t.1, V.int .i64 t.2.1, V.int .i64 t.2.2.1, V.bool t.2.2.2]))), (1, .sl (s.map (fun t : Int × Int => V.agg [V.int .i64 t.1, V.int .i64 t.2]))), (2, .int .i64 within), (9, .int .i64 p.2.1), (10, .int .i64 p.2.2), (11, .int .i64 ((p.1 : Int) + 1))], [], false, 44, 0⟩) (fun p => p.1 ≤ 9 ∧ firstTo l s within p.1 = (p.2.1, p.2.2)) (fun p => 9 - p.1) ((0, 0, 0) : Nat × Int × Int) ?_ ?_ ?_
  ·refine weak_of [0, 1, 2, 9, 10, 11] ?_
   simp only [keep_mk, keepE_nil, keepE_cons, look_cons, look_nil, Nat.reduceEqDiff, reduceIte]
   rfl
  ·exact ⟨Nat.zero_le _, rfl⟩
  ·rintro ⟨i, b, c⟩ hok15 Q15 n15 e15 r15
   obtain ⟨hi1, hR⟩ := hok15
   simp only [] at hi1 hR ⊢
   refine v_seq ?_; intro Q16 n16 e16 r16
   refine v_seq ?_; intro Q17 n17 e17 r17
   refine v_region ?_; intro K18 k18
   refine zMove ⟨?_⟩
   refine zBinOp ⟨?_⟩
   refine k18 _ ?_
   refine n17 _ _ (weak_keep [0, 1, 2, 9, 10, 11, 19] _) ?_
   refine zk ⟨?_⟩
   refine v_condS _ rfl ?_ ?_
   ·intro hc1
    have hlt : i < 9 := by omega
    refine v_skip ?_
    refine n16 _ _ (weak_keep [0, 1, 2, 9, 10, 11] _) ?_
    refine zk ⟨?_⟩
    refine v_seq ?_; intro Q20 n20 e20 r20
    refine v_block ?_; intro Q21 n21 x21 e21 r21
    refine v_seq ?_; intro Q22 n22 e22 r22
    refine v_region ?_; intro K23 k23
    refine zMove ⟨?_⟩
    refine zMove ⟨?_⟩
    refine zMove ⟨?_⟩
    refine zMove ⟨?_⟩
    refine zc ((alAlarm_con l s ((i : Int) + 1) within hl hs : Con _ _ _ _ (.int .i64 (alarmOf l s ((i : Int) + 1) within)) _)) ⟨?_⟩
    refine zAssign ⟨?_⟩
    refine k23 _ ?_
    refine n22 _ _ (weak_keep [0, 1, 2, 9, 10, 11, 12] _) ?_
    refine zk ⟨?_⟩
    refine v_seq ?_; intro Q24 n24 e24 r24
    refine v_region ?_; intro K25 k25
    refine zMove ⟨?_⟩
    refine zBinOp ⟨?_⟩
    refine zMove ⟨?_⟩
    refine zgMove ⟨?_⟩
    refine zgBinOp ⟨?_⟩
    refine zgMove ⟨?_⟩
    refine zgMove ⟨?_⟩
    refine zgMove ⟨?_⟩
    refine zgBinOp ⟨?_⟩
    refine zgPick ⟨?_⟩
    refine zPick ⟨?_⟩
    refine k25 _ ?_
    refine n24 _ _ (weak_keep [0, 1, 2, 9, 10, 11, 12, 37] _) ?_
    refine zk ⟨?_⟩
    refine v_condS _ rfl ?_ ?_
    ·intro hc2
     refine v_seq ?_; intro Q27 n27 e27 r27
     refine v_region ?_; intro K28 k28
     refine zMove ⟨?_⟩
     refine zAssign ⟨?_⟩
     refine k28 _ ?_
     refine n27 _ _ (weak_keep [0, 1, 2, 9, 11, 12] _) ?_
     refine zk ⟨?_⟩
     refine v_region ?_; intro K29 k29
     refine zMove ⟨?_⟩
     refine zAssign ⟨?_⟩
     refine k29 _ ?_
     refine n21 _ ?_
     refine n20 _ _ (weak_keep [0, 1, 2, 9, 10, 11] _) ?_
     refine zk ⟨?_⟩
     refine v_region ?_; intro K30 k30
     refine zMove ⟨?_⟩
     refine zBinOpW ⟨?_⟩
     refine zAssign ⟨?_⟩
     refine k30 _ ?_
     refine n15 _ (i + 1, (i : Int) + 1, alarmOf l s ((i : Int) + 1) within) ?_ ?_ ?_
     ·refine weak_of [0, 1, 2, 9, 10, 11] ?_
      simp only [keep_mk, keepE_nil, keepE_cons, look_cons, look_nil, Nat.reduceEqDiff, reduceIte]
      rfl
     ·exact ⟨hlt, by show firstTo l s within (i + 1) = _; rw [firstTo, hR]; exact if_pos (show 0 ≤ alarmOf l s ((i : Int) + 1) within ∧ (b = 0 ∨ alarmOf l s ((i : Int) + 1) within < c) from hc2)⟩
     ·show _ < _; show 9 - (i + 1) < 9 - i; omega
    ·intro hc2
     refine v_skip ?_
     refine n21 _ ?_
     refine n20 _ _ (weak_keep [0, 1, 2, 9, 10, 11] _) ?_
     refine zk ⟨?_⟩
     refine v_region ?_; intro K31 k31
     refine zMove ⟨?_⟩
     refine zBinOpW ⟨?_⟩
     refine zAssign ⟨?_⟩
     refine k31 _ ?_
     refine n15 _ (i + 1, b, c) ?_ ?_ ?_
     ·refine weak_of [0, 1, 2, 9, 10, 11] ?_
      simp only [keep_mk, keepE_nil, keepE_cons, look_cons, look_nil, Nat.reduceEqDiff, reduceIte]
      rfl
     ·exact ⟨hlt, by show firstTo l s within (i + 1) = _; rw [firstTo, hR]; exact if_neg (show ¬ (0 ≤ alarmOf l s ((i : Int) + 1) within ∧ (b = 0 ∨ alarmOf l s ((i : Int) + 1) within < c)) from fun h => by have h2 := hc2 h.1; rcases h.2 with q | q; exact absurd q h2.1; exact absurd q (Int.not_lt.2 h2.2))⟩
     ·show _ < _; show 9 - (i + 1) < 9 - i; omega
   ·intro hc1
    refine v_exit ?_
    refine e16 _ _ ?_
    refine e15 _ _ ?_
    refine x14 _ ?_
    refine n11 _ _ (weak_keep [9, 10] _) ?_
    refine zk ⟨?_⟩
    refine v_seq ?_; intro Q32 n32 e32 r32
    refine v_region ?_; intro K33 k33
    refine zMove ⟨?_⟩
    refine zMove ⟨?_⟩
    refine zMove ⟨?_⟩
    refine zBinOp ⟨?_⟩
    refine zAssign ⟨?_⟩
    refine zAssign ⟨?_⟩
    refine zAssign ⟨?_⟩
    refine k33 _ ?_
    refine n32 _ _ (weak_keep [6, 7, 8] _) ?_
    refine zk ⟨?_⟩
    refine v_ret ?_
    refine r0 _ ?_
    refine zf ⟨?_⟩
    have hend : i = 9 := by omega
    subst hend
    rw [show firstR l s within = (b, c) by rw [firstR, hc0, hR]; rfl]
    exact ret_pure rfl rfl (.inl rfl)
set_option maxHeartbeats 1000000 in
theorem specAlarmZones_con (l : List (Int × Int × Int × Bool)) (s : List (Int × Int)) (within : Int) (hl : l.length ≤ 1048576) (hs : s.length ≤ 1048576) : Con Try.prog 62 [.sl (l.map (fun t : Int × Int × Int × Bool => V.agg [V.int .i64 t.1, V.int .i64 t.2.1, V.int .i64 t.2.2.1, V.bool t.2.2.2])), .sl (s.map (fun t : Int × Int => V.agg [V.int .i64 t.1, V.int .i64 t.2])), .int .i64 within] [] (.tup [.ref 0, .bool (askB l s within)]) [.arr ((zonesR l s within).map (V.int .i64)) .flat] := by
 refine v_con [.tmp 6, .tmp 7] [] Try.func62 rfl rfl rfl (by simp [Try.ntmps62]) ?_
 intro Q0 n0 r0
 simp only [Try.ntmps62, envFrom, Nat.reduceAdd]
 have T := Tys.mk (And.intro Ty.t3 (And.intro Ty.t4 (And.intro Ty.t47 (And.intro Ty.t59 (And.intro Ty.t61 (And.intro Ty.t110 Ty.t114))))))
 have F := Fc.mk True.intro
 refine v_seq ?_; intro Q1 n1 e1 r1
 refine v_region ?_; intro K2 k2
 refine zAssign ⟨?_⟩
 refine zAssign ⟨?_⟩
 refine k2 _ ?_
 refine n1 _ _ (weak_keep [0, 1, 2] _) ?_
 refine zk ⟨?_⟩
 refine v_seq ?_; intro Q3 n3 e3 r3
 refine v_seq ?_; intro Q4 n4 e4 r4
 refine v_region ?_; intro K5 k5
 refine zMove ⟨?_⟩
 refine zMove ⟨?_⟩
 refine zMove ⟨?_⟩
 refine zc (alAsked_con l s within hl hs) ⟨?_⟩
 refine zUnOp ⟨?_⟩
 refine k5 _ ?_
 refine n4 _ _ (weak_keep [0, 1, 2, 12] _) ?_
 refine zk ⟨?_⟩
 refine v_condS _ rfl ?_ ?_
 ·intro hc0
  refine v_seq ?_; intro Q7 n7 e7 r7
  refine v_region ?_; intro K8 k8
  refine zAssign ⟨?_⟩
  refine zAssign ⟨?_⟩
  refine k8 _ ?_
  refine n7 _ _ (weak_keep [6, 7] _) ?_
  refine zk ⟨?_⟩
  refine v_ret ?_
  refine r3 _ ?_
  refine r0 _ ?_
  refine zf ⟨?_⟩
  rw [show zonesR l s within = [] by rw [zonesR, hc0]; rfl, hc0]
  exact ret_ref_tup rfl rfl rfl (.inl rfl)
 ·intro hc0
  refine v_skip ?_
  refine n3 _ _ (weak_keep [0, 1, 2] _) ?_
  refine zk ⟨?_⟩
  refine v_seq ?_; intro Q9 n9 e9 r9
  refine v_region ?_; intro K10 k10
  refine zMove ⟨?_⟩
  refine zMove ⟨?_⟩
  refine zMove ⟨?_⟩
  refine zc (alZones_con l s within hl hs) ⟨?_⟩
  refine zAssign ⟨?_⟩
  refine zAssign ⟨?_⟩
  refine k10 _ ?_
  refine n9 _ _ (weak_keep [6, 7] _) ?_
  refine zk ⟨?_⟩
  refine v_ret ?_
  refine r0 _ ?_
  refine zf ⟨?_⟩
  rw [show zonesR l s within = zonesTo l s within 9 by rw [zonesR, hc0]; rfl, hc0]
  exact ret_ref_tup rfl rfl rfl (.inl rfl)
end Go.Proofs.Ytciapcamhocmcaa
