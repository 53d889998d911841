/- What functions compute (Al3). No condition. -/
import Derived.Test.YtciapcamhocmcaaTy
import Derived.Test.YtciapcamhocmcaaVm27
import Derived.Test.YtciapcamhocmcaaWZones
import Derived.Test.YtciapcamhocmcaaWAl2
import Derived.Test.YtciapcamhocmcaaWAlarm
import Derived.Test.YtciapcamhocmcaaWBase
set_option linter.unusedSimpArgs false
set_option linter.unusedVariables false
set_option linter.defProp false
namespace Go.Proofs.Ytciapcamhocmcaa
open Go Go.Vm

theorem ssB_pos {s : List (Int × Int)} (h : ssB s = true) : ∀ x ∈ s, 0 ≤ x.1 := by
  intro x hx
  rw [ssB, Bool.and_eq_true] at h
  have := chain_ok h.1 x hx
  simp [sOne] at this
  omega
def firstF (l : List (Int × Int × Int × Bool)) (s : List (Int × Int)) (within : Int) (p : Int × Int) (z : Int) : Int × Int := if p.1 = 0 ∨ alarmOf l s z within < p.2 then (z, alarmOf l s z within) else p
theorem foldl_step {α β : Type} {f : β → α → β} {b : β} {l : List α} {i : Nat} {x : α} (h : l[i]? = some x) : (l.take (i + 1)).foldl f b = f ((l.take i).foldl f b) x := by
  rw [List.take_add_one, h, List.foldl_append]; rfl
theorem firstTo_fold (l : List (Int × Int × Int × Bool)) (s : List (Int × Int)) (within : Int) : ∀ n : Nat, firstTo l s within n = (zonesTo l s within n).foldl (firstF l s within) (0, 0)
  | 0 => rfl
  | n + 1 => by
    rw [firstTo, zonesTo, List.foldl_append, ← firstTo_fold l s within n]
    by_cases h : 0 ≤ alarmOf l s ((n : Int) + 1) within
    · rw [if_pos h]
      simp only [h, true_and, List.foldl_cons, List.foldl_nil, firstF]
    · rw [if_neg h, if_neg (fun q => h q.1)]; rfl
theorem zonesTo_len (l : List (Int × Int × Int × Bool)) (s : List (Int × Int)) (within : Int) : ∀ n : Nat, (zonesTo l s within n).length ≤ n
  | 0 => Nat.le_refl _
  | n + 1 => by
    have := zonesTo_len l s within n
    rw [zonesTo, List.length_append]
    split <;> simp <;> omega
theorem zonesTo_pos (l : List (Int × Int × Int × Bool)) (s : List (Int × Int)) (within : Int) : ∀ (n : Nat) (z : Int), z ∈ zonesTo l s within n → 0 ≤ alarmOf l s z within
  | 0, z, h => by cases h
  | n + 1, z, h => by
    rw [zonesTo, List.mem_append] at h
    rcases h with h | h
    · exact zonesTo_pos l s within n z h
    · split at h
      · rw [List.mem_singleton] at h; subst h; assumption
      · cases h

set_option maxHeartbeats 1000000 in
theorem alarmZones_con (l : List (Int × Int × Int × Bool)) (s : List (Int × Int)) (within : Int) (hl : l.length ≤ 1048576) (hs : s.length ≤ 1048576) (hpos : ∀ x ∈ s, 0 ≤ x.1) : Con Try.prog 96 [.sl (l.map (fun t : Int × Int × Int × Bool => V.agg [V.int .i64 t.1, V.int .i64 t.2.1, V.int .i64 t.2.2.1, V.bool t.2.2.2])), .sl (s.map (fun t : Int × Int => V.agg [V.int .i64 t.1, V.int .i64 t.2])), .int .i64 within] [] (.ref 0) [.arr ((zonesTo l s within 9).map (V.int .i64)) .flat] := by
 refine v_con [.tmp 6] [] Try.func96 rfl rfl rfl (by simp [Try.ntmps96]) ?_
 intro Q0 n0 r0
 simp only [Try.ntmps96, envFrom, Nat.reduceAdd]
 have T := Tys.mk (And.intro Ty.t3 (And.intro Ty.t4 (And.intro Ty.t47 (And.intro Ty.t59 (And.intro Ty.t61 (And.intro Ty.t110 Ty.t114))))))
 have F := Fc.mk True.intro
 refine v_seq ?_; intro Q1 n1 e1 r1
 refine v_region ?_; intro K2 k2
 refine zAssign ⟨?_⟩
 refine k2 _ ?_
 refine n1 _ _ (weak_keep [0, 1, 2] _) ?_
 refine zk ⟨?_⟩
 refine v_seq ?_; intro Q3 n3 e3 r3
 refine v_region ?_; intro K4 k4
 refine zAssign ⟨?_⟩
 refine k4 _ ?_
 refine n3 _ _ (weak_keep [0, 1, 2, 7] _) ?_
 refine zk ⟨?_⟩
 refine v_seq ?_; intro Q5 n5 e5 r5
 refine v_seq ?_; intro Q6 n6 e6 r6
 refine v_region ?_; intro K7 k7
 refine zAssign ⟨?_⟩
 refine k7 _ ?_
 refine n6 _ _ (weak_keep [0, 1, 2, 7, 8] _) ?_
 refine zk ⟨?_⟩
 refine v_block ?_; intro Q8 n8 x8 e8 r8
 refine v_loop (fun p => ⟨[(0, .sl (l.map (fun t : Int × Int × Int × Bool => V.agg [V.int .i64 t.1, V.int .i64 t.2.1, V.int .i64 t.2.2.1, V.bool t.2.2.2]))), (1, .sl (s.map (fun t : Int × Int => V.agg [V.int .i64 t.1, V.int .i64 t.2]))), (2, .int .i64 within), (7, .ref 0), (8, .int .i64 ((p.1 : Int) + 1))], [.arr (p.2.map (V.int .i64)) .flat], false, 29, 0⟩) (fun p => p.1 ≤ 9 ∧ p.2.length ≤ p.1 ∧ p.2 = zonesTo l s within p.1) (fun p => 9 - p.1) ((0, []) : Nat × List Int) ?_ ?_ ?_
 ·refine weak_bothS [0, 1, 2, 7, 8] [1] ⟨?_⟩
  rfl
 ·exact ⟨Nat.zero_le _, Nat.le_refl _, rfl⟩
 ·rintro ⟨i, acc⟩ hok9 Q9 n9 e9 r9
  obtain ⟨hi1, hal, hR⟩ := hok9
  simp only [] at hi1 hal hR ⊢
  refine v_seq ?_; intro Q10 n10 e10 r10
  refine v_seq ?_; intro Q11 n11 e11 r11
  refine v_region ?_; intro K12 k12
  refine zMove ⟨?_⟩
  refine zBinOp ⟨?_⟩
  refine k12 _ ?_
  refine n11 _ _ (weak_keep [0, 1, 2, 7, 8, 12] _) ?_
  refine zk ⟨?_⟩
  refine v_condS _ rfl ?_ ?_
  ·intro hc0
   have hlt : i < 9 := by omega
   refine v_skip ?_
   refine n10 _ _ (weak_keep [0, 1, 2, 7, 8] _) ?_
   refine zk ⟨?_⟩
   refine v_seq ?_; intro Q14 n14 e14 r14
   refine v_block ?_; intro Q15 n15 x15 e15 r15
   refine v_seq ?_; intro Q16 n16 e16 r16
   refine v_region ?_; intro K17 k17
   refine zMove ⟨?_⟩
   refine zMove ⟨?_⟩
   refine zMove ⟨?_⟩
   refine zMove ⟨?_⟩
   refine zc (zoneAlarm_con l s ((i : Int) + 1) within hl hs hpos) ⟨?_⟩
   refine zMove ⟨?_⟩
   refine zExtract ⟨?_⟩
   refine zExtract ⟨?_⟩
   refine zAssign ⟨?_⟩
   refine zAssign ⟨?_⟩
   refine k17 _ ?_
   refine n16 _ _ (weak_keep [0, 1, 2, 7, 8, 10] _) ?_
   refine zk ⟨?_⟩
   refine v_seq ?_; intro Q18 n18 e18 r18
   refine v_region ?_; intro K19 k19
   refine zMove ⟨?_⟩
   refine k19 _ ?_
   refine n18 _ _ (weak_keep [0, 1, 2, 7, 8, 23] _) ?_
   refine zk ⟨?_⟩
   refine v_condS _ rfl ?_ ?_
   ·intro hc1
    refine v_region ?_; intro K21 k21
    refine zMove ⟨?_⟩
    refine zMove ⟨?_⟩
    refine zBuildSlice ⟨?_⟩
    refine zAppend ⟨?_⟩
    refine zAssign ⟨?_⟩
    refine k21 _ ?_
    refine n15 _ ?_
    refine n14 _ _ (weak_keep [0, 1, 2, 7, 8] _) ?_
    refine zk ⟨?_⟩
    refine v_region ?_; intro K22 k22
    refine zMove ⟨?_⟩
    refine zBinOpW ⟨?_⟩
    refine zAssign ⟨?_⟩
    refine k22 _ ?_
    refine n9 _ (i + 1, acc ++ [(i : Int) + 1]) ?_ ?_ ?_
    ·refine weak_bothS [0, 1, 2, 7, 8] [2] ⟨?_⟩
     rw [snoc_zone]; rfl
    ·exact ⟨hlt, by show (acc ++ _).length ≤ i + 1; simp; omega, by show acc ++ _ = zonesTo l s within (i + 1); rw [zonesTo, ← hR, if_pos (show 0 ≤ alarmOf l s ((i : Int) + 1) within from hc1)]⟩
    ·show _ < _; show 9 - (i + 1) < 9 - i; omega
   ·intro hc1
    refine v_skip ?_
    refine n15 _ ?_
    refine n14 _ _ (weak_keep [0, 1, 2, 7, 8] _) ?_
    refine zk ⟨?_⟩
    refine v_region ?_; intro K23 k23
    refine zMove ⟨?_⟩
    refine zBinOpW ⟨?_⟩
    refine zAssign ⟨?_⟩
    refine k23 _ ?_
    refine n9 _ (i + 1, acc) ?_ ?_ ?_
    ·refine weak_bothS [0, 1, 2, 7, 8] [0] ⟨?_⟩
     rfl
    ·exact ⟨hlt, by show acc.length ≤ i + 1; omega, by show acc = zonesTo l s within (i + 1); rw [zonesTo, ← hR, if_neg (show ¬ 0 ≤ alarmOf l s ((i : Int) + 1) within from Int.not_le.2 hc1), List.append_nil]⟩
    ·show _ < _; show 9 - (i + 1) < 9 - i; omega
  ·intro hc0
   refine v_exit ?_
   refine e10 _ _ ?_
   refine e9 _ _ ?_
   refine x8 _ ?_
   refine n5 _ _ (weak_keep [7] _) ?_
   refine zk ⟨?_⟩
   refine v_seq ?_; intro Q24 n24 e24 r24
   refine v_region ?_; intro K25 k25
   refine zMove ⟨?_⟩
   refine zAssign ⟨?_⟩
   refine k25 _ ?_
   refine n24 _ _ (weak_keep [6] _) ?_
   refine zk ⟨?_⟩
   refine v_ret ?_
   refine r0 _ ?_
   refine zf ⟨?_⟩
   have hend : i = 9 := by omega
   subst hend
   rw [← hR]
   exact ret_ref rfl (.inl rfl)
set_option maxHeartbeats 1000000 in
theorem implFirstAlarm_con (l : List (Int × Int × Int × Bool)) (s : List (Int × Int)) (within : Int) (hl : l.length ≤ 1048576) (hs : s.length ≤ 1048576) : Con Try.prog 45 [.sl (l.map (fun t : Int × Int × Int × Bool => V.agg [V.int .i64 t.1, V.int .i64 t.2.1, V.int .i64 t.2.2.1, V.bool t.2.2.2])), .sl (s.map (fun t : Int × Int => V.agg [V.int .i64 t.1, V.int .i64 t.2])), .int .i64 within] [] (.tup [.int .i64 (firstR l s within).1, .int .i64 (firstR l s within).2, .bool (decide (0 < (firstR l s within).1))]) [] := by
 have hzlen := zonesTo_len l s within 9
 refine v_con [.tmp 6, .tmp 7, .tmp 8] [] Try.func45 rfl rfl rfl (by simp [Try.ntmps45]) ?_
 intro Q0 n0 r0
 simp only [Try.ntmps45, envFrom, Nat.reduceAdd]
 have T := Tys.mk (And.intro Ty.t3 (And.intro Ty.t4 (And.intro Ty.t47 (And.intro Ty.t59 (And.intro Ty.t61 (And.intro Ty.t110 Ty.t114))))))
 have F := Fc.mk True.intro
 refine v_seq ?_; intro Q1 n1 e1 r1
 refine v_region ?_; intro K2 k2
 refine zAssign ⟨?_⟩
 refine zAssign ⟨?_⟩
 refine zAssign ⟨?_⟩
 refine k2 _ ?_
 refine n1 _ _ (weak_keep [0, 1, 2] _) ?_
 refine zk ⟨?_⟩
 refine v_seq ?_; intro Q3 n3 e3 r3
 refine v_seq ?_; intro Q4 n4 e4 r4
 refine v_region ?_; intro K5 k5
 refine zMove ⟨?_⟩
 refine zc (areDetectors_con l hl) ⟨?_⟩
 refine zUnOp ⟨?_⟩
 refine zMove ⟨?_⟩
 refine zgMove ⟨?_⟩
 refine zgc (areSignals_con s hs) ⟨?_⟩
 refine zgUnOp ⟨?_⟩
 refine zPick ⟨?_⟩
 refine zMove ⟨?_⟩
 refine zgMove ⟨?_⟩
 refine zgc (inside_con _ _ _) ⟨?_⟩
 refine zgUnOp ⟨?_⟩
 refine zPick ⟨?_⟩
 refine k5 _ ?_
 refine n4 _ _ (weak_keep [0, 1, 2, 27] _) ?_
 refine zk ⟨?_⟩
 refine v_condS _ rfl ?_ ?_
 ·intro hc0
  have hask : askB l s within = false := by cases hq : askB l s within with | false => rfl | true => (exfalso; simp [askB] at hq; first | (simp_all; done) | (simp_all; omega))
  refine v_seq ?_; intro Q7 n7 e7 r7
  refine v_region ?_; intro K8 k8
  refine zAssign ⟨?_⟩
  refine zAssign ⟨?_⟩
  refine zAssign ⟨?_⟩
  refine k8 _ ?_
  refine n7 _ _ (weak_keep [6, 7, 8] _) ?_
  refine zk ⟨?_⟩
  refine v_ret ?_
  refine r3 _ ?_
  refine r0 _ ?_
  refine zf ⟨?_⟩
  rw [show firstR l s within = (0, 0) by rw [firstR, hask]; rfl]
  exact ret_pure rfl rfl (.inl rfl)
 ·intro hc0
  have hask : askB l s within = true := by simp only [askB, Bool.and_eq_true, decide_eq_true_eq]; simp at hc0; simp_all
  have hpos := ssB_pos (by simp [askB] at hask; exact hask.1.2 : ssB s = true)
  refine v_skip ?_
  refine n3 _ _ (weak_keep [0, 1, 2] _) ?_
  refine zk ⟨?_⟩
  refine v_seq ?_; intro Q9 n9 e9 r9
  refine v_region ?_; intro K10 k10
  refine zAssign ⟨?_⟩
  refine zAssign ⟨?_⟩
  refine k10 _ ?_
  refine n9 _ _ (weak_keep [0, 1, 2, 9, 10] _) ?_
  refine zk ⟨?_⟩
  refine v_seq ?_; intro Q11 n11 e11 r11
  refine v_seq ?_; intro Q12 n12 e12 r12
  refine v_region ?_; intro K13 k13
  refine zMove ⟨?_⟩
  refine zMove ⟨?_⟩
  refine zMove ⟨?_⟩
  refine zc (alarmZones_con l s within hl hs hpos) ⟨?_⟩
  refine zLen ⟨?_⟩
  refine zMove ⟨?_⟩
  refine k13 _ ?_
  refine n12 _ _ (weak_keep [0, 1, 2, 9, 10, 31, 32, 33] _) ?_
  refine zk ⟨?_⟩
  refine v_block ?_; intro Q14 n14 x14 e14 r14
  refine v_loop (fun p => ⟨[(0, .sl (l.map (fun t : Int × Int × Int × Bool => V.agg [V.int .i64 t.1, V.int .i64 t.2.1, V.int .i64 t.2.2.1, V.bool t.2.2.2]))), (1, .sl (s.map (fun t : Int × Int => V.agg [V.int .i64 t.1, V.int .i64 t.2]))), (2, .int .i64 within), (9, .int .i64 p.2.1), (10, .int .i64 p.2.2), (31, .ref 0), (32, .int .i64 (zonesTo l s within 9).length), (33, .int .i64 (Nat.cast p.1))], [.arr ((zonesTo l s within 9).map (V.int .i64)) .flat], false, 59, 0⟩) (fun p => p.1 ≤ (zonesTo l s within 9).length ∧ ((zonesTo l s within 9).take p.1).foldl (firstF l s within) (0, 0) = (p.2.1, p.2.2)) (fun p => (zonesTo l s within 9).length - p.1) ((0, 0, 0) : Nat × Int × Int) ?_ ?_ ?_
  ·refine weak_bothS [0, 1, 2, 9, 10, 31, 32, 33] [0] ⟨?_⟩
   rfl
  ·exact ⟨Nat.zero_le _, rfl⟩
  ·rintro ⟨i, b, c⟩ hok15 Q15 n15 e15 r15
   obtain ⟨hi1, hR⟩ := hok15
   simp only [] at hi1 hR ⊢
   refine v_seq ?_; intro Q16 n16 e16 r16
   refine v_region ?_; intro K17 k17
   refine zBinOp ⟨?_⟩
   refine k17 _ ?_
   refine n16 _ _ (weak_keep [0, 1, 2, 9, 10, 31, 32, 33, 34] _) ?_
   refine zk ⟨?_⟩
   refine v_seq ?_; intro Q18 n18 e18 r18
   refine v_condS _ rfl ?_ ?_
   ·intro hc1
    have hlt : i < (zonesTo l s within 9).length := by omega
    obtain ⟨z, hz⟩ : ∃ z, (zonesTo l s within 9)[i]? = some z := ⟨_, List.getElem?_eq_getElem hlt⟩
    have hz0 := zonesTo_pos l s within 9 z (List.mem_of_getElem? hz)
    have hst := foldl_step (f := firstF l s within) (b := ((0 : Int), (0 : Int))) hz
    refine v_skip ?_
    refine n18 _ _ (weak_keep [0, 1, 2, 9, 10, 31, 32, 33] _) ?_
    refine zk ⟨?_⟩
    refine v_seq ?_; intro Q20 n20 e20 r20
    refine v_block ?_; intro Q21 n21 x21 e21 r21
    refine v_seq ?_; intro Q22 n22 e22 r22
    refine v_region ?_; intro K23 k23
    have F := Fc.mk (fun f => getD_map (f := f) hz)
    refine zIndexAddr ⟨?_⟩
    refine zLoad ⟨?_⟩
    refine zAssign ⟨?_⟩
    refine k23 _ ?_
    refine n22 _ _ (weak_keep [0, 1, 2, 9, 10, 12, 31, 32, 33] _) ?_
    refine zk ⟨?_⟩
    refine v_seq ?_; intro Q24 n24 e24 r24
    refine v_region ?_; intro K25 k25
    refine zMove ⟨?_⟩
    refine zMove ⟨?_⟩
    refine zMove ⟨?_⟩
    refine zMove ⟨?_⟩
    refine zc ((by have q := zoneAlarm_con l s z within hl hs hpos; rw [if_pos hz0] at q; exact q)) ⟨?_⟩
    refine zMove ⟨?_⟩
    refine zExtract ⟨?_⟩
    refine zExtract ⟨?_⟩
    refine zAssign ⟨?_⟩
    refine zAssign ⟨?_⟩
    refine k25 _ ?_
    refine n24 _ _ (weak_keep [0, 1, 2, 9, 10, 12, 13, 31, 32, 33] _) ?_
    refine zk ⟨?_⟩
    refine v_seq ?_; intro Q26 n26 e26 r26
    refine v_region ?_; intro K27 k27
    refine zMove ⟨?_⟩
    refine zBinOp ⟨?_⟩
    refine zMove ⟨?_⟩
    refine zgMove ⟨?_⟩
    refine zgMove ⟨?_⟩
    refine zgBinOp ⟨?_⟩
    refine zPick ⟨?_⟩
    refine k27 _ ?_
    refine n26 _ _ (weak_keep [0, 1, 2, 9, 10, 12, 13, 31, 32, 33, 51] _) ?_
    refine zk ⟨?_⟩
    refine v_condS _ rfl ?_ ?_
    ·intro hc2
     try simp only [Bool.cond_true_left, Bool.or_eq_true, Bool.or_eq_false_iff, decide_eq_true_eq, decide_eq_false_iff_not, Int.not_lt] at hc2
     refine v_region ?_; intro K29 k29
     refine zMove ⟨?_⟩
     refine zMove ⟨?_⟩
     refine zAssign ⟨?_⟩
     refine zAssign ⟨?_⟩
     refine k29 _ ?_
     refine n21 _ ?_
     refine n20 _ _ (weak_keep [0, 1, 2, 9, 10, 31, 32, 33] _) ?_
     refine zk ⟨?_⟩
     refine v_region ?_; intro K30 k30
     refine zBinOpW ⟨?_⟩
     refine zMove ⟨?_⟩
     refine k30 _ ?_
     refine n15 _ (i + 1, z, alarmOf l s z within) ?_ ?_ ?_
     ·refine weak_bothS [0, 1, 2, 9, 10, 31, 32, 33] [0] ⟨?_⟩
      rfl
     ·exact ⟨hlt, by show ((zonesTo l s within 9).take (i + 1)).foldl _ _ = _; rw [hst, hR, firstF]; exact if_pos (show b = 0 ∨ alarmOf l s z within < c from hc2)⟩
     ·show _ < _; show _ - (i + 1) < _ - i; omega
    ·intro hc2
     try simp only [Bool.cond_true_left, Bool.or_eq_true, Bool.or_eq_false_iff, decide_eq_true_eq, decide_eq_false_iff_not, Int.not_lt] at hc2
     refine v_skip ?_
     refine n21 _ ?_
     refine n20 _ _ (weak_keep [0, 1, 2, 9, 10, 31, 32, 33] _) ?_
     refine zk ⟨?_⟩
     refine v_region ?_; intro K31 k31
     refine zBinOpW ⟨?_⟩
     refine zMove ⟨?_⟩
     refine k31 _ ?_
     refine n15 _ (i + 1, b, c) ?_ ?_ ?_
     ·refine weak_bothS [0, 1, 2, 9, 10, 31, 32, 33] [0] ⟨?_⟩
      rfl
     ·exact ⟨hlt, by show ((zonesTo l s within 9).take (i + 1)).foldl _ _ = _; rw [hst, hR, firstF]; exact if_neg (show ¬ (b = 0 ∨ alarmOf l s z within < c) from fun h => by rcases h with q | q; exact absurd q hc2.1; exact absurd q (Int.not_lt.2 hc2.2))⟩
     ·show _ < _; show _ - (i + 1) < _ - i; omega
   ·intro hc1
    refine v_exit ?_
    refine e18 _ _ ?_
    refine e15 _ _ ?_
    refine x14 _ ?_
    refine n11 _ _ (weak_keep [9, 10] _) ?_
    refine zk ⟨?_⟩
    refine v_seq ?_; intro Q32 n32 e32 r32
    refine v_region ?_; intro K33 k33
    refine zMove ⟨?_⟩
    refine zMove ⟨?_⟩
    refine zMove ⟨?_⟩
    refine zBinOp ⟨?_⟩
    refine zAssign ⟨?_⟩
    refine zAssign ⟨?_⟩
    refine zAssign ⟨?_⟩
    refine k33 _ ?_
    refine n32 _ _ (weak_keep [6, 7, 8] _) ?_
    refine zk ⟨?_⟩
    refine v_ret ?_
    refine r0 _ ?_
    refine zf ⟨?_⟩
    have hval : firstR l s within = (b, c) := by rw [firstR, hask, if_pos rfl, firstTo_fold, ← hR, List.take_of_length_le (by omega)]
    rw [hval]
    exact ret_pure rfl rfl (.inl rfl)
set_option maxHeartbeats 1000000 in
theorem implAlarmZones_con (l : List (Int × Int × Int × Bool)) (s : List (Int × Int)) (within : Int) (hl : l.length ≤ 1048576) (hs : s.length ≤ 1048576) : Con Try.prog 63 [.sl (l.map (fun t : Int × Int × Int × Bool => V.agg [V.int .i64 t.1, V.int .i64 t.2.1, V.int .i64 t.2.2.1, V.bool t.2.2.2])), .sl (s.map (fun t : Int × Int => V.agg [V.int .i64 t.1, V.int .i64 t.2])), .int .i64 within] [] (.tup [.ref 0, .bool (askB l s within)]) [.arr ((zonesR l s within).map (V.int .i64)) .flat] := by
 refine v_con [.tmp 6, .tmp 7] [] Try.func63 rfl rfl rfl (by simp [Try.ntmps63]) ?_
 intro Q0 n0 r0
 simp only [Try.ntmps63, envFrom, Nat.reduceAdd]
 have T := Tys.mk (And.intro Ty.t3 (And.intro Ty.t4 (And.intro Ty.t47 (And.intro Ty.t59 (And.intro Ty.t61 (And.intro Ty.t110 Ty.t114))))))
 have F := Fc.mk True.intro
 refine v_seq ?_; intro Q1 n1 e1 r1
 refine v_region ?_; intro K2 k2
 refine zAssign ⟨?_⟩
 refine zAssign ⟨?_⟩
 refine k2 _ ?_
 refine n1 _ _ (weak_keep [0, 1, 2] _) ?_
 refine zk ⟨?_⟩
 refine v_seq ?_; intro Q3 n3 e3 r3
 refine v_seq ?_; intro Q4 n4 e4 r4
 refine v_region ?_; intro K5 k5
 refine zMove ⟨?_⟩
 refine zc (areDetectors_con l hl) ⟨?_⟩
 refine zUnOp ⟨?_⟩
 refine zMove ⟨?_⟩
 refine zgMove ⟨?_⟩
 refine zgc (areSignals_con s hs) ⟨?_⟩
 refine zgUnOp ⟨?_⟩
 refine zPick ⟨?_⟩
 refine zMove ⟨?_⟩
 refine zgMove ⟨?_⟩
 refine zgc (inside_con _ _ _) ⟨?_⟩
 refine zgUnOp ⟨?_⟩
 refine zPick ⟨?_⟩
 refine k5 _ ?_
 refine n4 _ _ (weak_keep [0, 1, 2, 20] _) ?_
 refine zk ⟨?_⟩
 refine v_condS _ rfl ?_ ?_
 ·intro hc0
  have hask : askB l s within = false := by cases hq : askB l s within with | false => rfl | true => (exfalso; simp [askB] at hq; first | (simp_all; done) | (simp_all; omega))
  refine v_seq ?_; intro Q7 n7 e7 r7
  refine v_region ?_; intro K8 k8
  refine zAssign ⟨?_⟩
  refine zAssign ⟨?_⟩
  refine k8 _ ?_
  refine n7 _ _ (weak_keep [6, 7] _) ?_
  refine zk ⟨?_⟩
  refine v_ret ?_
  refine r3 _ ?_
  refine r0 _ ?_
  refine zf ⟨?_⟩
  rw [show zonesR l s within = [] by rw [zonesR, hask]; rfl, hask]
  exact ret_ref_tup rfl rfl rfl (.inl rfl)
 ·intro hc0
  have hask : askB l s within = true := by simp only [askB, Bool.and_eq_true, decide_eq_true_eq]; simp at hc0; simp_all
  have hpos := ssB_pos (by simp [askB] at hask; exact hask.1.2 : ssB s = true)
  refine v_skip ?_
  refine n3 _ _ (weak_keep [0, 1, 2] _) ?_
  refine zk ⟨?_⟩
  refine v_seq ?_; intro Q9 n9 e9 r9
  refine v_region ?_; intro K10 k10
  refine zMove ⟨?_⟩
  refine zMove ⟨?_⟩
  refine zMove ⟨?_⟩
  refine zc (alarmZones_con l s within hl hs hpos) ⟨?_⟩
  refine zAssign ⟨?_⟩
  refine zAssign ⟨?_⟩
  refine k10 _ ?_
  refine n9 _ _ (weak_keep [6, 7] _) ?_
  refine zk ⟨?_⟩
  refine v_ret ?_
  refine r0 _ ?_
  refine zf ⟨?_⟩
  rw [show zonesR l s within = zonesTo l s within 9 by rw [zonesR, hask]; rfl, hask]
  exact ret_ref_tup rfl rfl rfl (.inl rfl)
end Go.Proofs.Ytciapcamhocmcaa
