/- What functions compute (Al3). No condition. -/
import Derived.Test.YtdgenniiidgimaaTy
import Derived.Test.YtdgenniiidgimaaVmG
import Derived.Test.YtdgenniiidgimaaWZones
import Derived.Test.YtdgenniiidgimaaWAl2
set_option linter.unusedSimpArgs false
set_option linter.unusedVariables false
set_option linter.defProp false
namespace Go.Proofs.Ytdgenniiidgimaa
open Go Go.Vm

theorem ssB_pos {s : List (Int × Int)} (h : ssB s = true) : ∀ x ∈ s, 0 ≤ x.1 := by
  intro x hx
  rw [ssB, Bool.and_eq_true] at h
  have := chain_ok h.1 x hx
  simp [sOne] at this
  omega
def firstF (l : List (Int × Int × Int × Bool)) (s : List (Int × Int)) (within : Int) (p : Int × Int) (z : Int) : Int × Int := if p.1 = 0 ∨ alarmOf l s z within < p.2 then (z, alarmOf l s z within) else p
theorem foldl_step {α β : Type} {f : β → α → β} {b : β} {l : List α} {i : Nat} {x : α} (h : l[i]? = some x) : (l.take (i + 1)).foldl f b = f ((l.take i).foldl f b) x := by
  rw [List.take_add_one, h, List.foldl_append]; rfl
theorem firstTo_fold (l : List (Int × Int × Int × Bool)) (s : List (Int × Int)) (within : Int) : ∀ n : Nat, firstTo l s within n = (zonesTo l s within n).foldl (firstF l s within) (0, 0)
  | 0 => rfl
  | n + 1 => by
    rw [firstTo, zonesTo, List.foldl_append, ← firstTo_fold l s within n]
    by_cases h : 0 ≤ alarmOf l s ((n : Int) + 1) within
    · rw [if_pos h]
      simp only [h, true_and, List.foldl_cons, List.foldl_nil, firstF]
    · rw [if_neg h, if_neg (fun q => h q.1)]; rfl
theorem zonesTo_len (l : List (Int × Int × Int × Bool)) (s : List (Int × Int)) (within : Int) : ∀ n : Nat, (zonesTo l s within n).length ≤ n
  | 0 => Nat.le_refl _
  | n + 1 => by
    have := zonesTo_len l s within n
    rw [zonesTo, List.length_append]
    split <;> simp <;> omega
theorem zonesTo_pos (l : List (Int × Int × Int × Bool)) (s : List (Int × Int)) (within : Int) : ∀ (n : Nat) (z : Int), z ∈ zonesTo l s within n → 0 ≤ alarmOf l s z within
  | 0, z, h => by cases h
  | n + 1, z, h => by
    rw [zonesTo, List.mem_append] at h
    rcases h with h | h
    · exact zonesTo_pos l s within n z h
    · split at h
      · rw [List.mem_singleton] at h; subst h; assumption
      · cases h

set_option maxHeartbeats 1000000 in
theorem alarmZones_con (l : List (Int × Int × Int × Bool)) (s : List (Int × Int)) (within : Int) (hl : l.length ≤ 1048576) (hs : s.length ≤ 1048576) (hpos : ∀ x ∈ s, 0 ≤ x.1) : Con Try.prog 84 [.sl (l.map (fun t : Int × Int × Int × Bool => V.agg [V.int .i64 t.1, V.int .i64 t.2.1, V.int .i64 t.2.2.1, V.bool t.2.2.2])), .sl (s.map (fun t : Int × Int => V.agg [V.int .i64 t.1, V.int .i64 t.2])), .int .i64 within] [] (.ref 0) [.arr ((zonesTo l s within 9).map (V.int .i64)) .flat] := by
 refine v_con [.tmp 6] [] Try.func84 rfl rfl rfl (by simp [Try.ntmps84]) ?_
 intro Q0 n0 r0
 simp only [Try.ntmps84, envFrom, Nat.reduceAdd]
 have T := Tys.mk (And.intro Ty.t3 (And.intro Ty.t4 (And.intro Ty.t26 (And.intro Ty.t29 (And.intro Ty.t31 (And.intro Ty.t57 Ty.t59))))))
 have F := Fc.mk True.intro
 refine v_seq ?_; intro Q1 n1 e1 r1
 refine v_region ?_; intro K2 k2
 refine zAssign ⟨?_⟩
 refine k2 _ ?_
 refine n1 _ _ (weak_keep [0, 1, 2] _) ?_
 refine zk ⟨?_⟩
 refine v_seq ?_; intro Q3 n3 e3 r3
 refine v_region ?_; intro K4 k4
 refine zAssign ⟨?_⟩
 refine k4 _ ?_
 refine n3 _ _ (weak_keep [0, 1, 2, 7] _) ?_
 refine zk ⟨?_⟩
 refine v_seq ?_; intro Q5 n5 e5 r5
 refine v_seq ?_; intro Q6 n6 e6 r6
 refine v_region ?_; intro K7 k7
 refine zAssign ⟨?_⟩
 refine k7 _ ?_
 refine n6 _ _ (weak_keep [0, 1, 2, 7, 8] _) ?_
 refine zk ⟨?_⟩
 refine v_block ?_; intro Q8 n8 x8 e8 r8
 refine v_loop (fun p => ⟨[(0, .sl (l.map (fun t : Int × Int × Int × Bool => V.agg [V.int .i64 t.1, V.int .i64 t.2.1, V.int .i64 t.2.2.1, V.bool t.2.2.2]))), (1, .sl (s.map (fun t : Int × Int => V.agg [V.int .i64 t.1, V.int .i64 t.2]))), (2, .int .i64 within), (7, .ref 0), (8, .int .i64 ((p.1 : Int) + 1))], [.arr (p.2.map (V.int .i64)) .flat], false, 29, 0⟩) (fun p => p.1 ≤ 9 ∧ p.2.length ≤ p.1 ∧ p.2 = zonesTo l s within p.1) (fun p => 9 - p.1) ((0, []) : Nat × List Int) ?_ ?_ ?_
 ·refine weak_bothS [0, 1, 2, 7, 8] [1] ⟨?_⟩
  rfl
 ·exact ⟨Nat.zero_le _, Nat.le_refl _, rfl⟩
 ·rintro ⟨i, acc⟩ hok9 Q9 n9 e9 r9
  obtain ⟨hi1, hal, hR⟩ := hok9
  simp only [] at hi1 hal hR ⊢
  refine v_seq ?_; intro Q10 n10 e10 r10
  refine v_seq ?_; intro Q11 n11 e11 r11
  refine v_region ?_; intro K12 k12
  refine zMove ⟨?_⟩
  refine zBinOp ⟨?_⟩
  refine k12 _ ?_
  refine n11 _ _ (weak_keep [0, 1, 2, 7, 8, 12] _) ?_
  refine zk ⟨?_⟩
  refine v_condS _ rfl ?_ ?_
  ·intro hc0
   have hlt : i < 9 := by omega
   refine v_skip ?_
   refine n10 _ _ (weak_keep [0, 1, 2, 7, 8] _) ?_
   refine zk ⟨?_⟩
   refine v_seq ?_; intro Q14 n14 e14 r14
   refine v_block ?_; intro Q15 n15 x15 e15 r15
   refine v_seq ?_; intro Q16 n16 e16 r16
   refine v_region ?_; intro K17 k17
   refine zMove ⟨?_⟩
   refine zMove ⟨?_⟩
   refine zMove ⟨?_⟩
   refine zMove ⟨?_⟩
   refine zc (zoneAlarm_con l s ((i : Int) + 1) within hl hs hpos) ⟨?_⟩
   refine zMove ⟨?_⟩
   refine zExtract ⟨?_⟩
   refine zExtract ⟨?_⟩
   refine zAssign ⟨?_⟩
   refine zAssign ⟨?_⟩
   refine k17 _ ?_
   refine n16 _ _ (weak_keep [0, 1, 2, 7, 8, 10] _) ?_
   refine zk ⟨?_⟩
   refine v_seq ?_; intro Q18 n18 e18 r18
   refine v_region ?_; intro K19 k19
   refine zMove ⟨?_⟩
   refine k19 _ ?_
   refine n18 _ _ (weak_keep [0, 1, 2, 7, 8, 23] _) ?_
   refine zk ⟨?_⟩
   refine v_condS _ rfl ?_ ?_
   ·intro hc1
    refine v_region ?_; intro K21 k21
    refine zMove ⟨?_⟩
    refine zMove ⟨?_⟩
    refine zBuildSlice ⟨?_⟩
    refine zAppend ⟨?_⟩
    refine zAssign ⟨?_⟩
    refine k21 _ ?_
    refine n15 _ ?_
    refine n14 _ _ (weak_keep [0, 1, 2, 7, 8] _) ?_
    refine zk ⟨?_⟩
    refine v_region ?_; intro K22 k22
    refine zMove ⟨?_⟩
    refine zBinOpW ⟨?_⟩
    refine zAssign ⟨?_⟩
    refine k22 _ ?_
    refine n9 _ (i + 1, acc ++ [(i : Int) + 1]) ?_ ?_ ?_
    ·refine weak_bothS [0, 1, 2, 7, 8] [2] ⟨?_⟩
     rw [snoc_zone]; rfl
    ·exact ⟨hlt, by show (acc ++ _).length ≤ i + 1; simp; omega, by show acc ++ _ = zonesTo l s within (i + 1); rw [zonesTo, ← hR, if_pos (show 0 ≤ alarmOf l s ((i : Int) + 1) within from hc1)]⟩
    ·show _ < _; show 9 - (i + 1) < 9 - i; omega
   ·intro hc1
    refine v_skip ?_
    refine n15 _ ?_
    refine n14 _ _ (weak_keep [0, 1, 2, 7, 8] _) ?_
    refine zk ⟨?_⟩
    refine v_region ?_; intro K23 k23
    refine zMove ⟨?_⟩
    refine zBinOpW ⟨?_⟩
    refine zAssign ⟨?_⟩
    refine k23 _ ?_
    refine n9 _ (i + 1, acc) ?_ ?_ ?_
    ·refine weak_bothS [0, 1, 2, 7, 8] [0] ⟨?_⟩
     rfl
    ·exact ⟨hlt, by show acc.length ≤ i + 1; omega, by show acc = zonesTo l s within (i + 1); rw [zonesTo, ← hR, if_neg (show ¬ 0 ≤ alarmOf l s ((i : Int) + 1) within from Int.not_le.2 hc1), List.append_nil]⟩
    ·show _ < _; show 9 - (i + 1) < 9 - i; omega
  ·intro hc0
   refine v_exit ?_
   refine e10 _ _ ?_
   refine e9 _ _ ?_
   refine x8 _ ?_
   refine n5 _ _ (weak_keep [7] _) ?_
   refine zk ⟨?_⟩
   refine v_seq ?_; intro Q24 n24 e24 r24
   refine v_region ?_; intro K25 k25
   refine zMove ⟨?_⟩
   refine zAssign ⟨?_⟩
   refine k25 _ ?_
   refine n24 _ _ (weak_keep [6] _) ?_
   refine zk ⟨?_⟩
   refine v_ret ?_
   refine r0 _ ?_
   refine zf ⟨?_⟩
   have hend : i = 9 := by omega
   subst hend
   rw [← hR]
   exact ret_ref rfl (.inl rfl)
end Go.Proofs.Ytdgenniiidgimaa
