/- What functions compute. No condition. -/
import Derived.Test.YtmlicajgbgjphaaDoorUty
import Derived.Test.YtmlicajgbgjphaaDoorUmG
import Derived.Test.YtmlicajgbgjphaaDoorX1
set_option linter.unusedSimpArgs false
set_option linter.unusedVariables false
set_option linter.defProp false
namespace Go.Proofs.YtmlicajgbgjphaaDoor
open Go Go.Vm

theorem live_det {l : List (Int × Int × Int × Bool)} {s : (Int × Int)} (h : liveB l s = true) : ∃ (j : Nat) (d : (Int × Int × Int × Bool)), findD s.2 0 l = (j : Int) ∧ l[j]? = some d ∧ detOf l s.2 = some d := by
  rcases findD_det s.2 l 0 with ⟨_, q⟩ | ⟨j, d, q1, q2, q3⟩
  · simp only [liveB, q] at h; cases h
  · exact ⟨j, d, by rw [q1, Nat.zero_add], q2, q3⟩
def zoneOf (l : List (Int × Int × Int × Bool)) (s : (Int × Int)) : Int := match detOf l s.2 with | some d => d.2.1 | none => 0
def confB (l : List (Int × Int × Int × Bool)) (zone within : Int) (s t : (Int × Int)) : Bool := !decide (t.2 = s.2) && decide (zoneOf l t = zone) && decide (IntKind.i64.wrap (s.1 - t.1) ≤ within)
def hitB (l : List (Int × Int × Int × Bool)) (zone within : Int) (pre : List (Int × Int)) (s : (Int × Int)) : Bool := match detOf l s.2 with
  | some d => decide (d.2.1 = zone) && (decide (d.2.2.1 = 2) || pre.any (confB l zone within s))
  | none => false
def alarmFrom (l : List (Int × Int × Int × Bool)) (zone within : Int) (lv : List (Int × Int)) : Nat → List (Int × Int) → Int
  | _, [] => -1
  | k, s :: r => if hitB l zone within (lv.take k) s = true then s.1 else alarmFrom l zone within lv (k + 1) r
theorem alarm_step {l : List (Int × Int × Int × Bool)} {zone within : Int} {lv : List (Int × Int)} {i : Nat} {s : (Int × Int)} (h : lv[i]? = some s) : alarmFrom l zone within lv i (lv.drop i) = if hitB l zone within (lv.take i) s = true then s.1 else alarmFrom l zone within lv (i + 1) (lv.drop (i + 1)) := by
  rw [getElem_drop_cons h, alarmFrom]
theorem alarm_end {l : List (Int × Int × Int × Bool)} {zone within : Int} {lv : List (Int × Int)} {i k : Nat} (h : lv.length ≤ i) : alarmFrom l zone within lv k (lv.drop i) = -1 := by
  rw [List.drop_of_length_le h, alarmFrom]

set_option maxHeartbeats 1000000 in
theorem alAlarm_con (l : List (Int × Int × Int × Bool)) (s : List (Int × Int)) (zone within : Int) (hl : l.length ≤ 1048576) (hs : s.length ≤ 1048576) : Con Tryd.prog 247 [.sl (l.map (fun t : Int × Int × Int × Bool => V.agg [V.int .i64 t.1, V.int .i64 t.2.1, V.int .i64 t.2.2.1, V.bool t.2.2.2])), .sl (s.map (fun t : Int × Int => V.agg [V.int .i64 t.1, V.int .i64 t.2])), .int .i64 zone, .int .i64 within] [] (.int .i64 (alarmFrom l zone within (s.filter (liveB l)) 0 (s.filter (liveB l)))) [] := by
 obtain ⟨lv, hlv⟩ : ∃ lv, lv = s.filter (liveB l) := ⟨_, rfl⟩
 have hall : ∀ x ∈ lv, liveB l x = true := by intro x hx; rw [hlv] at hx; exact (List.mem_filter.1 hx).2
 have hlvl : lv.length ≤ 1048576 := by rw [hlv]; exact Nat.le_trans (List.length_filter_le ..) hs
 rw [← hlv]
 refine v_con [.tmp 8] [] Tryd.func247 rfl rfl rfl (by simp [Tryd.ntmps247]) ?_
 intro Q0 n0 r0
 simp only [Tryd.ntmps247, envFrom, Nat.reduceAdd]
 have T := Tys.mk (And.intro Ty.t3 (And.intro Ty.t4 (And.intro Ty.t33 (And.intro Ty.t51 (And.intro Ty.t61 Ty.t65)))))
 have F := Fc.mk True.intro
 refine v_seqR [0,1,2,3] ?_; intro K1 k1
 refine zAssign ⟨?_⟩
 refine k1 _ ?_
 refine zk ⟨?_⟩
 refine v_seqR [0,2,3,9] ?_; intro K2 k2
 refine zMove ⟨?_⟩
 refine zMove ⟨?_⟩
 refine zc ((hlv ▸ alLive_con l s hl hs : Con _ _ _ _ _ [.arr (lv.map (fun t : Int × Int => V.agg [V.int .i64 t.1, V.int .i64 t.2])) .flat])) ⟨?_⟩
 refine zAssign ⟨?_⟩
 refine k2 _ ?_
 refine zk ⟨?_⟩
 refine v_seq ?_; intro Q3 n3 e3 r3
 refine v_seqR [0,2,3,9,18,19,20] ?_; intro K4 k4
 refine zMove ⟨?_⟩
 refine zLen ⟨?_⟩
 refine zMove ⟨?_⟩
 refine k4 _ ?_
 refine zk ⟨?_⟩
 refine v_block ?_; intro Q5 n5 x5 e5 r5
 refine v_loop (fun i => ⟨[(0, .sl (l.map (fun t : Int × Int × Int × Bool => V.agg [V.int .i64 t.1, V.int .i64 t.2.1, V.int .i64 t.2.2.1, V.bool t.2.2.2]))), (2, .int .i64 zone), (3, .int .i64 within), (9, .ref 0), (18, .ref 0), (19, .int .i64 lv.length), (20, .int .i64 (Nat.cast i))], [.arr (lv.map (fun t : Int × Int => V.agg [V.int .i64 t.1, V.int .i64 t.2])) .flat], false, 79, 0⟩) (fun i => i ≤ lv.length ∧ alarmFrom l zone within lv i (lv.drop i) = alarmFrom l zone within lv 0 lv) (fun i => lv.length - i) 0 ?_ ?_ ?_
 ·refine weak_bothS [0, 2, 3, 9, 18, 19, 20] [0] ⟨?_⟩
  rfl
 ·exact ⟨Nat.zero_le _, rfl⟩
 ·rintro i hok6 Q6 n6 e6 r6
  obtain ⟨hi1, hR⟩ := hok6
  refine v_seqR [0,2,3,9,18,19,20,21] ?_; intro K7 k7
  refine zBinOp ⟨?_⟩
  refine k7 _ ?_
  refine zk ⟨?_⟩
  refine v_seq ?_; intro Q8 n8 e8 r8
  refine v_condS _ rfl ?_ ?_
  ·intro hc0
   have hlt : i < lv.length := by omega
   obtain ⟨⟨x0, x1⟩, hx⟩ : ∃ x : Int × Int, lv[i]? = some x := ⟨lv[i]'(by omega), List.getElem?_eq_getElem (by omega)⟩
   obtain ⟨jd, ⟨d0, d1, d2, d3⟩, hf1, hd, hf2⟩ := live_det (hall _ (List.mem_of_getElem? hx))
   simp only [] at hf1 hf2
   have hidx : (findD x1 0 l).toNat = jd := by rw [hf1]; simp
   have hjl : jd < l.length := (List.getElem?_eq_some_iff.1 hd).1
   have hst := alarm_step (l := l) (zone := zone) (within := within) hx
   have hhit : hitB l zone within (lv.take i) (x0, x1) = (decide (d1 = zone) && (decide (d2 = 2) || (lv.take i).any (confB l zone within (x0, x1)))) := by simp only [hitB, hf2]
   have htk : (lv.take i).length = i := by rw [List.length_take]; omega
   refine v_skip ?_
   refine n8 _ _ (weak_keep [0, 2, 3, 9, 18, 19, 20] _) ?_
   refine zk ⟨?_⟩
   refine v_seq ?_; intro Q10 n10 e10 r10
   refine v_block ?_; intro Q11 n11 x11 e11 r11
   refine v_seqR [0,2,3,9,10,11,18,19,20] ?_; intro K12 k12
   have F := Fc.mk (And.intro (fun f => getD_map (f := f) hx) (And.intro hidx (fun f => getD_map (f := f) hd)))
   refine zMove ⟨?_⟩
   refine zIndexAddr ⟨?_⟩
   refine zLoad ⟨?_⟩
   refine zAlloc ⟨?_⟩
   refine zAssign ⟨?_⟩
   refine zStore ⟨?_⟩
   refine k12 _ ?_
   refine zk ⟨?_⟩
   refine v_seqR [0,2,3,9,10,11,12,18,19,20] ?_; intro K13 k13
   refine zMove ⟨?_⟩
   refine zMove ⟨?_⟩
   refine zFieldAddr ⟨?_⟩
   refine zLoad ⟨?_⟩
   refine zc (alFind_con l x1 hl) ⟨?_⟩
   refine zIndexAddr ⟨?_⟩
   refine zLoad ⟨?_⟩
   refine zAlloc ⟨?_⟩
   refine zStore ⟨?_⟩
   refine k13 _ ?_
   refine zk ⟨?_⟩
   refine v_seq ?_; intro Q14 n14 e14 r14
   refine v_seqR [0,2,3,9,10,11,12,18,19,20,35] ?_; intro K15 k15
   refine zFieldAddr ⟨?_⟩
   refine zLoad ⟨?_⟩
   refine zMove ⟨?_⟩
   refine zBinOp ⟨?_⟩
   refine k15 _ ?_
   refine zk ⟨?_⟩
   refine v_condS _ rfl ?_ ?_
   ·intro hc1
    refine v_exit ?_
    refine e14 _ _ ?_
    refine x11 _ ?_
    refine n10 _ _ (weak_keep [0, 2, 3, 9, 18, 19, 20] _) ?_
    refine zk ⟨?_⟩
    refine v_region ?_; intro K17 k17
    refine zBinOpW ⟨?_⟩
    refine zMove ⟨?_⟩
    refine k17 _ ?_
    refine n6 _ (i + 1) ?_ ?_ ?_
    ·refine weak_bothS [0, 2, 3, 9, 18, 19, 20] [0] ⟨?_⟩
     rfl
    ·exact ⟨by omega, by rw [← hR, hst, if_neg (by rw [hhit]; simp [hc1])]⟩
    ·show _ < _; omega
   ·intro hc1
    refine v_skip ?_
    refine n14 _ _ (weak_keep [0, 2, 3, 9, 10, 11, 12, 18, 19, 20] _) ?_
    refine zk ⟨?_⟩
    refine v_seq ?_; intro Q18 n18 e18 r18
    refine v_seqR [0,2,3,9,10,11,18,19,20,38] ?_; intro K19 k19
    refine zFieldAddr ⟨?_⟩
    refine zLoad ⟨?_⟩
    refine zBinOp ⟨?_⟩
    refine k19 _ ?_
    refine zk ⟨?_⟩
    refine v_condS _ rfl ?_ ?_
    ·intro hc2
     refine v_seqR [8] ?_; intro K21 k21
     refine zFieldAddr ⟨?_⟩
     refine zLoad ⟨?_⟩
     refine zAssign ⟨?_⟩
     refine k21 _ ?_
     refine zk ⟨?_⟩
     refine v_ret ?_
     refine r18 _ ?_
     refine r11 _ ?_
     refine r10 _ ?_
     refine r6 _ ?_
     refine r5 _ ?_
     refine r3 _ ?_
     refine r0 _ ?_
     refine zf ⟨?_⟩
     exact ret_pure rfl (by rw [← hR, hst, if_pos (by rw [hhit]; simp [hc1, hc2])]) (.inl rfl)
    ·intro hc2
     refine v_skip ?_
     refine n18 _ _ (weak_keep [0, 2, 3, 9, 10, 11, 18, 19, 20] _) ?_
     refine zk ⟨?_⟩
     refine v_seqR [0,2,3,9,11,18,19,20,43,44,45] ?_; intro K22 k22
     refine zMove ⟨?_⟩
     refine zMove ⟨?_⟩
     refine zSlice ⟨?_⟩
     refine zLen ⟨?_⟩
     refine zMove ⟨?_⟩
     refine k22 _ ?_
     refine zk ⟨?_⟩
     refine v_block ?_; intro Q23 n23 x23 e23 r23
     refine v_loop (fun j => ⟨[(0, .sl (l.map (fun t : Int × Int × Int × Bool => V.agg [V.int .i64 t.1, V.int .i64 t.2.1, V.int .i64 t.2.2.1, V.bool t.2.2.2]))), (2, .int .i64 zone), (3, .int .i64 within), (9, .ref 0), (11, .ptr 1 0 0), (18, .ref 0), (19, .int .i64 lv.length), (20, .int .i64 (Nat.cast i)), (43, .sub 0 0 i), (44, .int .i64 (Nat.cast i)), (45, .int .i64 (Nat.cast j))], [.arr (lv.map (fun t : Int × Int => V.agg [V.int .i64 t.1, V.int .i64 t.2])) .flat, .box (.agg [.int .i64 x0, .int .i64 x1]) .flat], false, 79, 0⟩) (fun j => j ≤ i ∧ ((lv.take i).drop j).any (confB l zone within (x0, x1)) = (lv.take i).any (confB l zone within (x0, x1))) (fun j => i - j) 0 ?_ ?_ ?_
     ·refine weak_bothS [0, 2, 3, 9, 11, 18, 19, 20, 43, 44, 45] [0, 1] ⟨?_⟩
      rfl
     ·exact ⟨Nat.zero_le _, rfl⟩
     ·rintro j hok24 Q24 n24 e24 r24
      obtain ⟨hj1, hR2⟩ := hok24
      refine v_seqR [0,2,3,9,11,18,19,20,43,44,45,46] ?_; intro K25 k25
      refine zBinOp ⟨?_⟩
      refine k25 _ ?_
      refine zk ⟨?_⟩
      refine v_seq ?_; intro Q26 n26 e26 r26
      refine v_condS _ rfl ?_ ?_
      ·intro hc3
       have hltj : j < i := by omega
       obtain ⟨⟨y0, y1⟩, hy0⟩ : ∃ x : Int × Int, lv[j]? = some x := ⟨lv[j]'(by omega), List.getElem?_eq_getElem (by omega)⟩
       have hy : (lv.take i)[j]? = some (y0, y1) := by rw [List.getElem?_take_of_lt hltj]; exact hy0
       obtain ⟨je, ⟨e0, e1, e2, e3⟩, hg1, he, hg2⟩ := live_det (hall _ (List.mem_of_getElem? hy0))
       simp only [] at hg1 hg2
       have hidx2 : (findD y1 0 l).toNat = je := by rw [hg1]; simp
       have hjl2 : je < l.length := (List.getElem?_eq_some_iff.1 he).1
       have hst2 := any_drop (f := confB l zone within (x0, x1)) hy
       have hcf : confB l zone within (x0, x1) (y0, y1) = (!decide (y1 = x1) && decide (e1 = zone) && decide (IntKind.i64.wrap (x0 - y0) ≤ within)) := by simp only [confB, zoneOf, hg2]
       refine v_skip ?_
       refine n26 _ _ (weak_keep [0, 2, 3, 9, 11, 18, 19, 20, 43, 44, 45] _) ?_
       refine zk ⟨?_⟩
       refine v_seq ?_; intro Q28 n28 e28 r28
       refine v_block ?_; intro Q29 n29 x29 e29 r29
       refine v_seqR [0,2,3,9,11,14,18,19,20,43,44,45] ?_; intro K30 k30
       have F := Fc.mk (And.intro (fun f => getD_map (f := f) hx) (And.intro hidx (And.intro (fun f => getD_map (f := f) hd) (And.intro (fun f => getD_map (f := f) hy0) (And.intro hidx2 (fun f => getD_map (f := f) he))))))
       refine zIndexAddr ⟨?_⟩
       refine zLoad ⟨?_⟩
       refine zAlloc ⟨?_⟩
       refine zStore ⟨?_⟩
       refine k30 _ ?_
       refine zk ⟨?_⟩
       refine v_seqR [0,2,3,9,11,18,19,20,43,44,45,74] ?_; intro K31 k31
       refine zFieldAddr ⟨?_⟩
       refine zLoad ⟨?_⟩
       refine zFieldAddr ⟨?_⟩
       refine zLoad ⟨?_⟩
       refine zBinOp ⟨?_⟩
       refine zMove ⟨?_⟩
       refine zgMove ⟨?_⟩
       refine zgMove ⟨?_⟩
       refine zgFieldAddr ⟨?_⟩
       refine zgLoad ⟨?_⟩
       refine zgc (alFind_con l y1 hl) ⟨?_⟩
       refine zgIndexAddr ⟨?_⟩
       refine zgFieldAddr ⟨?_⟩
       refine zgLoad ⟨?_⟩
       refine zgMove ⟨?_⟩
       refine zgBinOp ⟨?_⟩
       refine zPick ⟨?_⟩
       refine zMove ⟨?_⟩
       refine zgFieldAddr ⟨?_⟩
       refine zgLoad ⟨?_⟩
       refine zgFieldAddr ⟨?_⟩
       refine zgLoad ⟨?_⟩
       refine zgBinOpW ⟨?_⟩
       refine zgMove ⟨?_⟩
       refine zgBinOp ⟨?_⟩
       refine zPick ⟨?_⟩
       refine k31 _ ?_
       refine zk ⟨?_⟩
       refine v_condS _ rfl ?_ ?_
       ·intro hc4
        refine v_seqR [8] ?_; intro K33 k33
        refine zFieldAddr ⟨?_⟩
        refine zLoad ⟨?_⟩
        refine zAssign ⟨?_⟩
        refine k33 _ ?_
        refine zk ⟨?_⟩
        refine v_ret ?_
        refine r29 _ ?_
        refine r28 _ ?_
        refine r24 _ ?_
        refine r23 _ ?_
        refine r11 _ ?_
        refine r10 _ ?_
        refine r6 _ ?_
        refine r5 _ ?_
        refine r3 _ ?_
        refine r0 _ ?_
        refine zf ⟨?_⟩
        exact ret_pure rfl (by rw [← hR, hst, if_pos (by rw [hhit, ← hR2, hst2, hcf]; simp_all)]) (.inl rfl)
       ·intro hc4
        refine v_skip ?_
        refine n29 _ ?_
        refine n28 _ _ (weak_keep [0, 2, 3, 9, 11, 18, 19, 20, 43, 44, 45] _) ?_
        refine zk ⟨?_⟩
        refine v_region ?_; intro K34 k34
        refine zBinOpW ⟨?_⟩
        refine zMove ⟨?_⟩
        refine k34 _ ?_
        refine n24 _ (j + 1) ?_ ?_ ?_
        ·refine weak_bothS [0, 2, 3, 9, 11, 18, 19, 20, 43, 44, 45] [0, 1] ⟨?_⟩
         rfl
        ·exact ⟨by omega, by rw [← hR2, hst2, show confB l zone within (x0, x1) (y0, y1) = false by rw [hcf]; simp at hc4 ⊢; intros; first | omega | simp_all | (have := hc4; simp_all; omega)]; simp⟩
        ·show _ < _; omega
      ·intro hc3
       refine v_exit ?_
       refine e26 _ _ ?_
       refine e24 _ _ ?_
       refine x23 _ ?_
       refine n11 _ ?_
       refine n10 _ _ (weak_keep [0, 2, 3, 9, 18, 19, 20] _) ?_
       refine zk ⟨?_⟩
       refine v_region ?_; intro K35 k35
       refine zBinOpW ⟨?_⟩
       refine zMove ⟨?_⟩
       refine k35 _ ?_
       refine n6 _ (i + 1) ?_ ?_ ?_
       ·refine weak_bothS [0, 2, 3, 9, 18, 19, 20] [0] ⟨?_⟩
        rfl
       ·exact ⟨by omega, by rw [← hR, hst, if_neg (by rw [hhit, ← hR2, any_end (by omega)]; simp [hc2])]⟩
       ·show _ < _; omega
  ·intro hc0
   refine v_exit ?_
   refine e8 _ _ ?_
   refine e6 _ _ ?_
   refine x5 _ ?_
   refine n3 _ _ (weak_keep [] _) ?_
   refine zk ⟨?_⟩
   refine v_seqR [8] ?_; intro K36 k36
   refine zAssign ⟨?_⟩
   refine k36 _ ?_
   refine zk ⟨?_⟩
   refine v_ret ?_
   refine r0 _ ?_
   refine zf ⟨?_⟩
   exact ret_pure rfl (by rw [← hR, alarm_end (by omega)]) (.inl rfl)
def alarmOf (l : List (Int × Int × Int × Bool)) (s : List (Int × Int)) (zone within : Int) : Int := alarmFrom l zone within (s.filter (liveB l)) 0 (s.filter (liveB l))
def askB (l : List (Int × Int × Int × Bool)) (s : List (Int × Int)) (within : Int) : Bool := dsB l && ssB s && (decide (0 ≤ within) && decide (within ≤ 3600))
def zonesTo (l : List (Int × Int × Int × Bool)) (s : List (Int × Int)) (within : Int) : Nat → List Int
  | 0 => []
  | n + 1 => zonesTo l s within n ++ (if 0 ≤ alarmOf l s ((n : Int) + 1) within then [(n : Int) + 1] else [])
def firstTo (l : List (Int × Int × Int × Bool)) (s : List (Int × Int)) (within : Int) : Nat → Int × Int
  | 0 => (0, 0)
  | n + 1 => if 0 ≤ alarmOf l s ((n : Int) + 1) within ∧ ((firstTo l s within n).1 = 0 ∨ alarmOf l s ((n : Int) + 1) within < (firstTo l s within n).2) then ((n : Int) + 1, alarmOf l s ((n : Int) + 1) within) else firstTo l s within n
def firstR (l : List (Int × Int × Int × Bool)) (s : List (Int × Int)) (within : Int) : Int × Int := if askB l s within = true then firstTo l s within 9 else (0, 0)
def zonesR (l : List (Int × Int × Int × Bool)) (s : List (Int × Int)) (within : Int) : List Int := if askB l s within = true then zonesTo l s within 9 else []
theorem snoc_zone {l : List Int} {x : Int} : l.map (V.int .i64) ++ [V.int .i64 x] = (l ++ [x]).map (V.int .i64) := by rw [List.map_append]; rfl

set_option maxHeartbeats 1000000 in
theorem alAsked_con (l : List (Int × Int × Int × Bool)) (s : List (Int × Int)) (within : Int) (hl : l.length ≤ 1048576) (hs : s.length ≤ 1048576) : Con Tryd.prog 132 [.sl (l.map (fun t : Int × Int × Int × Bool => V.agg [V.int .i64 t.1, V.int .i64 t.2.1, V.int .i64 t.2.2.1, V.bool t.2.2.2])), .sl (s.map (fun t : Int × Int => V.agg [V.int .i64 t.1, V.int .i64 t.2])), .int .i64 within] [] (.bool (askB l s within)) [] := by
 refine v_con [.tmp 6] [] Tryd.func132 rfl rfl rfl (by simp [Tryd.ntmps132]) ?_
 intro Q0 n0 r0
 simp only [Tryd.ntmps132, envFrom, Nat.reduceAdd]
 have T := Tys.mk (And.intro Ty.t3 (And.intro Ty.t4 (And.intro Ty.t33 (And.intro Ty.t51 (And.intro Ty.t61 Ty.t65)))))
 have F := Fc.mk True.intro
 refine v_seqR [0,1,2] ?_; intro K1 k1
 refine zAssign ⟨?_⟩
 refine k1 _ ?_
 refine zk ⟨?_⟩
 refine v_seqR [6] ?_; intro K2 k2
 refine zMove ⟨?_⟩
 refine zc (alGood_con l hl) ⟨?_⟩
 refine zMove ⟨?_⟩
 refine zgMove ⟨?_⟩
 refine zgc (alSignals_con s hs) ⟨?_⟩
 refine zPick ⟨?_⟩
 refine zMove ⟨?_⟩
 refine zgMove ⟨?_⟩
 refine zgc (l1In_con _ _ _) ⟨?_⟩
 refine zPick ⟨?_⟩
 refine zAssign ⟨?_⟩
 refine k2 _ ?_
 refine zk ⟨?_⟩
 refine v_ret ?_
 refine r0 _ ?_
 refine zf ⟨?_⟩
 exact ret_pure rfl (by first | rfl | simp [askB]) (.inl rfl)
set_option maxHeartbeats 1000000 in
theorem alZones_con (l : List (Int × Int × Int × Bool)) (s : List (Int × Int)) (within : Int) (hl : l.length ≤ 1048576) (hs : s.length ≤ 1048576) : Con Tryd.prog 213 [.sl (l.map (fun t : Int × Int × Int × Bool => V.agg [V.int .i64 t.1, V.int .i64 t.2.1, V.int .i64 t.2.2.1, V.bool t.2.2.2])), .sl (s.map (fun t : Int × Int => V.agg [V.int .i64 t.1, V.int .i64 t.2])), .int .i64 within] [] (.ref 0) [.arr ((zonesTo l s within 9).map (V.int .i64)) .flat] := by
 refine v_con [.tmp 6] [] Tryd.func213 rfl rfl rfl (by simp [Tryd.ntmps213]) ?_
 intro Q0 n0 r0
 simp only [Tryd.ntmps213, envFrom, Nat.reduceAdd]
 have T := Tys.mk (And.intro Ty.t3 (And.intro Ty.t4 (And.intro Ty.t33 (And.intro Ty.t48 (And.intro Ty.t51 (And.intro Ty.t61 Ty.t65))))))
 have F := Fc.mk True.intro
 refine v_seqR [0,1,2] ?_; intro K1 k1
 refine zAssign ⟨?_⟩
 refine k1 _ ?_
 refine zk ⟨?_⟩
 refine v_seqR [0,1,2,7] ?_; intro K2 k2
 refine zAssign ⟨?_⟩
 refine k2 _ ?_
 refine zk ⟨?_⟩
 refine v_seq ?_; intro Q3 n3 e3 r3
 refine v_seqR [0,1,2,7,8] ?_; intro K4 k4
 refine zAssign ⟨?_⟩
 refine k4 _ ?_
 refine zk ⟨?_⟩
 refine v_block ?_; intro Q5 n5 x5 e5 r5
 refine v_loop (fun p => ⟨[(0, .sl (l.map (fun t : Int × Int × Int × Bool => V.agg [V.int .i64 t.1, V.int .i64 t.2.1, V.int .i64 t.2.2.1, V.bool t.2.2.2]))), (1, .sl (s.map (fun t : Int × Int => V.agg [V.int .i64 t.1, V.int .i64 t.2]))), (2, .int .i64 within), (7, .ref 0), (8, .int .i64 ((p.1 : Int) + 1))], [.arr (p.2.map (V.int .i64)) .flat], false, 24, 0⟩) (fun p => p.1 ≤ 9 ∧ p.2.length ≤ p.1 ∧ p.2 = zonesTo l s within p.1) (fun p => 9 - p.1) ((0, []) : Nat × List Int) ?_ ?_ ?_
 ·refine weak_bothS [0, 1, 2, 7, 8] [1] ⟨?_⟩
  rfl
 ·exact ⟨Nat.zero_le _, Nat.le_refl _, rfl⟩
 ·rintro ⟨i, acc⟩ hok6 Q6 n6 e6 r6
  obtain ⟨hi1, hal, hR⟩ := hok6
  simp only [] at hi1 hal hR ⊢
  refine v_seq ?_; intro Q7 n7 e7 r7
  refine v_seqR [0,1,2,7,8,10] ?_; intro K8 k8
  refine zMove ⟨?_⟩
  refine zBinOp ⟨?_⟩
  refine k8 _ ?_
  refine zk ⟨?_⟩
  refine v_condS _ rfl ?_ ?_
  ·intro hc0
   have hlt : i < 9 := by omega
   refine v_skip ?_
   refine n7 _ _ (weak_keep [0, 1, 2, 7, 8] _) ?_
   refine zk ⟨?_⟩
   refine v_seq ?_; intro Q10 n10 e10 r10
   refine v_block ?_; intro Q11 n11 x11 e11 r11
   refine v_seqR [0,1,2,7,8,18] ?_; intro K12 k12
   refine zMove ⟨?_⟩
   refine zMove ⟨?_⟩
   refine zMove ⟨?_⟩
   refine zMove ⟨?_⟩
   refine zc ((alAlarm_con l s ((i : Int) + 1) within hl hs : Con _ _ _ _ (.int .i64 (alarmOf l s ((i : Int) + 1) within)) _)) ⟨?_⟩
   refine zBinOp ⟨?_⟩
   refine k12 _ ?_
   refine zk ⟨?_⟩
   refine v_condS _ rfl ?_ ?_
   ·intro hc1
    refine v_region ?_; intro K14 k14
    refine zMove ⟨?_⟩
    refine zMove ⟨?_⟩
    refine zBuildSlice ⟨?_⟩
    refine zAppend ⟨?_⟩
    refine zAssign ⟨?_⟩
    refine k14 _ ?_
    refine n11 _ ?_
    refine n10 _ _ (weak_keep [0, 1, 2, 7, 8] _) ?_
    refine zk ⟨?_⟩
    refine v_region ?_; intro K15 k15
    refine zMove ⟨?_⟩
    refine zBinOpW ⟨?_⟩
    refine zAssign ⟨?_⟩
    refine k15 _ ?_
    refine n6 _ (i + 1, acc ++ [(i : Int) + 1]) ?_ ?_ ?_
    ·refine weak_bothS [0, 1, 2, 7, 8] [2] ⟨?_⟩
     rw [snoc_zone]; rfl
    ·exact ⟨hlt, by show (acc ++ _).length ≤ i + 1; simp; omega, by show acc ++ _ = zonesTo l s within (i + 1); rw [zonesTo, ← hR, if_pos (show 0 ≤ alarmOf l s ((i : Int) + 1) within from hc1)]⟩
    ·show _ < _; show 9 - (i + 1) < 9 - i; omega
   ·intro hc1
    refine v_skip ?_
    refine n11 _ ?_
    refine n10 _ _ (weak_keep [0, 1, 2, 7, 8] _) ?_
    refine zk ⟨?_⟩
    refine v_region ?_; intro K16 k16
    refine zMove ⟨?_⟩
    refine zBinOpW ⟨?_⟩
    refine zAssign ⟨?_⟩
    refine k16 _ ?_
    refine n6 _ (i + 1, acc) ?_ ?_ ?_
    ·refine weak_bothS [0, 1, 2, 7, 8] [0] ⟨?_⟩
     rfl
    ·exact ⟨hlt, by show acc.length ≤ i + 1; omega, by show acc = zonesTo l s within (i + 1); rw [zonesTo, ← hR, if_neg (show ¬ 0 ≤ alarmOf l s ((i : Int) + 1) within from Int.not_le.2 hc1), List.append_nil]⟩
    ·show _ < _; show 9 - (i + 1) < 9 - i; omega
  ·intro hc0
   refine v_exit ?_
   refine e7 _ _ ?_
   refine e6 _ _ ?_
   refine x5 _ ?_
   refine n3 _ _ (weak_keep [7] _) ?_
   refine zk ⟨?_⟩
   refine v_seqR [6] ?_; intro K17 k17
   refine zMove ⟨?_⟩
   refine zAssign ⟨?_⟩
   refine k17 _ ?_
   refine zk ⟨?_⟩
   refine v_ret ?_
   refine r0 _ ?_
   refine zf ⟨?_⟩
   have hend : i = 9 := by omega
   subst hend
   rw [← hR]
   exact ret_ref rfl (.inl rfl)
def firstP {α : Type} (p : α → Bool) : Nat → List α → Int
  | _, [] => -1
  | i, x :: l => if p x = true then i else firstP p (i + 1) l
theorem first_step {α : Type} {p : α → Bool} {l : List α} {i : Nat} {x : α} (h : l[i]? = some x) : firstP p i (l.drop i) = if p x = true then (i : Int) else firstP p (i + 1) (l.drop (i + 1)) := by
  rw [getElem_drop_cons h, firstP]
theorem first_end {α : Type} {p : α → Bool} {l : List α} {i k : Nat} (h : l.length ≤ i) : firstP p k (l.drop i) = -1 := by
  rw [List.drop_of_length_le h, firstP]
theorem first_any {α : Type} (p : α → Bool) : ∀ (l : List α) (i : Nat), decide (0 ≤ firstP p i l) = l.any p
  | [], i => by rw [firstP]; rfl
  | x :: l, i => by
    rw [firstP, List.any_cons]
    by_cases h : p x = true
    · rw [if_pos h, h]; simp
    · rw [if_neg h, first_any p l (i + 1), Bool.eq_false_iff.2 h]; rfl
theorem first_none {α : Type} {p : α → Bool} : ∀ {l : List α} {i : Nat}, firstP p i l = -1 → l.filter (fun x => !p x) = l
  | [], _, _ => rfl
  | x :: l, i, h => by
    rw [firstP] at h
    by_cases q : p x = true
    · rw [if_pos q] at h; omega
    · rw [if_neg q] at h
      rw [List.filter_cons, if_pos (by simp [q]), first_none h]
theorem first_some {α : Type} {p : α → Bool} : ∀ {l : List α} {i : Nat}, firstP p i l ≠ -1 → ∃ k, k < l.length ∧ firstP p i l = ((i + k : Nat) : Int) ∧ (l.take (k + 1)).filter (fun x => !p x) = l.take k ∧ ∃ x, l[k]? = some x ∧ p x = true
  | [], i, h => absurd rfl h
  | x :: l, i, h => by
    rw [firstP] at h ⊢
    by_cases q : p x = true
    · rw [if_pos q]
      exact ⟨0, by simp, by simp, by simp [q], x, rfl, q⟩
    · rw [if_neg q] at h ⊢
      obtain ⟨k, h1, h2, h3, y, h4, h5⟩ := first_some (l := l) h
      refine ⟨k + 1, by simp; exact h1, by rw [h2]; congr 1; omega, ?_, y, by simpa using h4, h5⟩
      rw [List.take_succ_cons, List.filter_cons, if_pos (by simp [q]), h3, List.take_succ_cons]
theorem first_congr {α : Type} {p q : α → Bool} : ∀ {l : List α} {i : Nat}, (∀ x ∈ l, p x = q x) → firstP p i l = firstP q i l
  | [], _, _ => rfl
  | x :: l, i, h => by rw [firstP, firstP, h x (List.mem_cons_self ..), first_congr fun y hy => h y (List.mem_cons_of_mem _ hy)]
theorem del_end {α : Type} {p : α → Bool} {l ys : List α} {i j : Nat} (h1 : i ≤ ys.length) (hj : l.length ≤ j) (h : ys.take i = (l.take j).filter (fun x => !p x)) : i = (l.filter (fun x => !p x)).length ∧ ys.take i = l.filter (fun x => !p x) := by
  rw [List.take_of_length_le hj] at h
  refine ⟨?_, h⟩
  rw [← h, List.length_take]; omega
theorem del_keep {α : Type} {p : α → Bool} {l ys : List α} {i j : Nat} {x : α} (hij : i ≤ j) (hjl : ys.length = l.length) (hx : l[j]? = some x) (hp : p x = false) (h : ys.take i = (l.take j).filter (fun x => !p x)) (hd : ys.drop j = l.drop j) :
    (ys.set i x).take (i + 1) = (l.take (j + 1)).filter (fun x => !p x) ∧ (ys.set i x).drop (j + 1) = l.drop (j + 1) := by
  have hj : j < l.length := (List.getElem?_eq_some_iff.1 hx).1
  constructor
  · rw [List.take_add_one, List.take_add_one, hx, List.filter_append, ← h, List.getElem?_set_self (by omega), List.take_set, List.set_eq_of_length_le (by rw [List.length_take]; omega)]
    simp [hp]
  · rw [List.drop_set, if_pos (by omega)]
    have := congrArg (List.drop 1) hd
    rwa [List.drop_drop, List.drop_drop] at this
theorem del_drop {α : Type} {p : α → Bool} {l ys : List α} {i j : Nat} {x : α} (hx : l[j]? = some x) (hp : p x = true) (h : ys.take i = (l.take j).filter (fun x => !p x)) (hd : ys.drop j = l.drop j) :
    ys.take i = (l.take (j + 1)).filter (fun x => !p x) ∧ ys.drop (j + 1) = l.drop (j + 1) := by
  constructor
  · rw [List.take_add_one, hx, List.filter_append, ← h]; simp [hp]
  · have := congrArg (List.drop 1) hd
    rwa [List.drop_drop, List.drop_drop] at this
theorem del_get {α : Type} {l ys : List α} {j : Nat} {x : α} (hx : l[j]? = some x) (hd : ys.drop j = l.drop j) : ys[j]? = some x := by
  have := congrArg (fun z => z[0]?) hd
  simpa [hx] using this

set_option maxHeartbeats 1000000 in
theorem indexFuncDetector_con (l : List (Int × Int × Int × Bool)) (g : Nat) (caps : List V) (p : Int × Int × Int × Bool → Bool) (hl : l.length ≤ 1048576) (hc : Caps caps) (hg : ∀ x0 x1 x2 x3, (x0, x1, x2, x3) ∈ l → Con Tryd.prog g (V.agg [V.int .i64 x0, V.int .i64 x1, V.int .i64 x2, V.bool x3] :: caps) [] (.bool (p (x0, x1, x2, x3))) []) : Con Tryd.prog 207 [.sl (l.map (fun t : Int × Int × Int × Bool => V.agg [V.int .i64 t.1, V.int .i64 t.2.1, V.int .i64 t.2.2.1, V.bool t.2.2.2])), .fn g caps] [] (.int .i64 (firstP p 0 l)) [] := by
 refine v_con [.tmp 4] [] Tryd.func207 rfl rfl rfl (by simp [Tryd.ntmps207]) ?_
 intro Q0 n0 r0
 simp only [Tryd.ntmps207, envFrom, Nat.reduceAdd]
 have T := Tys.mk (And.intro Ty.t3 (And.intro Ty.t4 (And.intro Ty.t33 Ty.t61)))
 have F := Fc.mk True.intro
 refine v_seqR [0,1] ?_; intro K1 k1
 refine zAssign ⟨?_⟩
 refine k1 _ ?_
 refine zk ⟨?_⟩
 refine v_seq ?_; intro Q2 n2 e2 r2
 refine v_seqR [0,1,7,8] ?_; intro K3 k3
 refine zMove ⟨?_⟩
 refine zLen ⟨?_⟩
 refine zMove ⟨?_⟩
 refine k3 _ ?_
 refine zk ⟨?_⟩
 refine v_block ?_; intro Q4 n4 x4 e4 r4
 refine v_loop (fun i => ⟨[(0, .sl (l.map (fun t : Int × Int × Int × Bool => V.agg [V.int .i64 t.1, V.int .i64 t.2.1, V.int .i64 t.2.2.1, V.bool t.2.2.2]))), (1, .fn g caps), (7, .int .i64 l.length), (8, .int .i64 (Nat.cast i))], [], false, 19, 0⟩) (fun i => i ≤ l.length ∧ firstP p i (l.drop i) = firstP p 0 l) (fun i => l.length - i) 0 ?_ ?_ ?_
 ·refine weak_of [0, 1, 7, 8] ?_
  simp only [keep_mk, keepE_nil, keepE_cons, look_cons, look_nil, Nat.reduceEqDiff, reduceIte]
  rfl
 ·exact ⟨Nat.zero_le _, rfl⟩
 ·rintro i hok5 Q5 n5 e5 r5
  obtain ⟨hi1, hR⟩ := hok5
  refine v_seqR [0,1,7,8,9] ?_; intro K6 k6
  refine zBinOp ⟨?_⟩
  refine k6 _ ?_
  refine zk ⟨?_⟩
  refine v_seq ?_; intro Q7 n7 e7 r7
  refine v_condS _ rfl ?_ ?_
  ·intro hc0
   have hlt : i < l.length := by omega
   obtain ⟨⟨x0, x1, x2, x3⟩, hx⟩ : ∃ x : Int × Int × Int × Bool, l[i]? = some x := ⟨l[i]'(by omega), List.getElem?_eq_getElem (by omega)⟩
   have hst := first_step (p := p) hx
   refine v_skip ?_
   refine n7 _ _ (weak_keep [0, 1, 7, 8] _) ?_
   refine zk ⟨?_⟩
   refine v_seq ?_; intro Q9 n9 e9 r9
   refine v_block ?_; intro Q10 n10 x10 e10 r10
   refine v_seqR [0,1,5,7,8] ?_; intro K11 k11
   have F := Fc.mk (fun f => getD_map (f := f) hx)
   refine zMove ⟨?_⟩
   refine zAssign ⟨?_⟩
   refine k11 _ ?_
   refine zk ⟨?_⟩
   refine v_seqR [0,1,5,7,8,16] ?_; intro K12 k12
   refine zMove ⟨?_⟩
   refine zMove ⟨?_⟩
   refine zMove ⟨?_⟩
   refine zIndexAddr ⟨?_⟩
   refine zLoad ⟨?_⟩
   refine zcc (hg x0 x1 x2 x3 (List.mem_of_getElem? hx)) ⟨?_⟩
   refine k12 _ ?_
   refine zk ⟨?_⟩
   refine v_condS _ rfl ?_ ?_
   ·intro hc1
    refine v_seqR [4] ?_; intro K14 k14
    refine zMove ⟨?_⟩
    refine zAssign ⟨?_⟩
    refine k14 _ ?_
    refine zk ⟨?_⟩
    refine v_ret ?_
    refine r10 _ ?_
    refine r9 _ ?_
    refine r5 _ ?_
    refine r4 _ ?_
    refine r2 _ ?_
    refine r0 _ ?_
    refine zf ⟨?_⟩
    exact ret_pure rfl (by rw [← hR, hst, if_pos hc1]) (.inl rfl)
   ·intro hc1
    refine v_skip ?_
    refine n10 _ ?_
    refine n9 _ _ (weak_keep [0, 1, 7, 8] _) ?_
    refine zk ⟨?_⟩
    refine v_region ?_; intro K15 k15
    refine zBinOpW ⟨?_⟩
    refine zMove ⟨?_⟩
    refine k15 _ ?_
    refine n5 _ (i + 1) ?_ ?_ ?_
    ·refine weak_bothC [0, 1, 7, 8] [] ⟨?_⟩
     rfl
    ·exact ⟨by omega, by rw [← hR, hst, if_neg (by simp [hc1])]⟩
    ·show _ < _; omega
  ·intro hc0
   refine v_exit ?_
   refine e7 _ _ ?_
   refine e5 _ _ ?_
   refine x4 _ ?_
   refine n2 _ _ (weak_keep [] _) ?_
   refine zk ⟨?_⟩
   refine v_seqR [4] ?_; intro K16 k16
   refine zAssign ⟨?_⟩
   refine k16 _ ?_
   refine zk ⟨?_⟩
   refine v_ret ?_
   refine r0 _ ?_
   refine zf ⟨?_⟩
   exact ret_pure rfl (by rw [← hR, first_end (by omega)]) (.inl rfl)
set_option maxHeartbeats 1000000 in
theorem cloneDetector_con (l : List (Int × Int × Int × Bool)) (hl : l.length ≤ 1048576) : Con Tryd.prog 125 [.sl (l.map (fun t : Int × Int × Int × Bool => V.agg [V.int .i64 t.1, V.int .i64 t.2.1, V.int .i64 t.2.2.1, V.bool t.2.2.2]))] [] (.ref 0) [.arr (l.map (fun t : Int × Int × Int × Bool => V.agg [V.int .i64 t.1, V.int .i64 t.2.1, V.int .i64 t.2.2.1, V.bool t.2.2.2])) .flat] := by
 have hns : (l.map (fun t : Int × Int × Int × Bool => V.agg [V.int .i64 t.1, V.int .i64 t.2.1, V.int .i64 t.2.2.1, V.bool t.2.2.2])).all V.noSl = true := by rw [List.all_map, List.all_eq_true]; intro a _; rfl
 refine v_con [.tmp 2] [] Tryd.func125 rfl rfl rfl (by simp [Tryd.ntmps125]) ?_
 intro Q0 n0 r0
 simp only [Tryd.ntmps125, envFrom, Nat.reduceAdd]
 have T := Tys.mk (And.intro Ty.t3 (And.intro Ty.t4 (And.intro Ty.t33 Ty.t61)))
 have F := Fc.mk True.intro
 refine v_seqR [0] ?_; intro K1 k1
 have F := Fc.mk hns
 refine zAssign ⟨?_⟩
 refine k1 _ ?_
 refine zk ⟨?_⟩
 refine v_seq ?_; intro Q2 n2 e2 r2
 refine v_seqR [0,4] ?_; intro K3 k3
 refine zMove ⟨?_⟩
 refine zNil ⟨?_⟩
 intro nb4 hnb4
 refine k3 _ ?_
 refine zk ⟨?_⟩
 refine v_condS _ rfl ?_ ?_
 ·intro hc0
  have hnil : l = [] := by cases l with | nil => rfl | cons a b => have := hnb4 (by simp); rw [hc0] at this; cases this
  refine v_seqR [2] ?_; intro K5 k5
  refine zAssign ⟨?_⟩
  refine k5 _ ?_
  refine zk ⟨?_⟩
  refine v_ret ?_
  refine r2 _ ?_
  refine r0 _ ?_
  refine zf ⟨?_⟩
  rw [hnil]; exact ret_refK rfl rfl rfl
 ·intro hc0
  refine v_skip ?_
  refine n2 _ _ (weak_keep [0] _) ?_
  refine zk ⟨?_⟩
  refine v_seqR [2] ?_; intro K6 k6
  refine zBuildSlice ⟨?_⟩
  refine zMove ⟨?_⟩
  refine zAppend ⟨?_⟩
  refine zAssign ⟨?_⟩
  refine k6 _ ?_
  refine zk ⟨?_⟩
  refine v_ret ?_
  refine r0 _ ?_
  refine zf ⟨?_⟩
  exact ret_refK rfl rfl (by simp)
set_option maxHeartbeats 1000000 in
theorem indexFuncSignal_con (l : List (Int × Int)) (g : Nat) (caps : List V) (p : Int × Int → Bool) (hl : l.length ≤ 1048576) (hc : Caps caps) (hg : ∀ x0 x1, (x0, x1) ∈ l → Con Tryd.prog g (V.agg [V.int .i64 x0, V.int .i64 x1] :: caps) [] (.bool (p (x0, x1))) []) : Con Tryd.prog 244 [.sl (l.map (fun t : Int × Int => V.agg [V.int .i64 t.1, V.int .i64 t.2])), .fn g caps] [] (.int .i64 (firstP p 0 l)) [] := by
 refine v_con [.tmp 4] [] Tryd.func244 rfl rfl rfl (by simp [Tryd.ntmps244]) ?_
 intro Q0 n0 r0
 simp only [Tryd.ntmps244, envFrom, Nat.reduceAdd]
 have T := Tys.mk (And.intro Ty.t3 (And.intro Ty.t4 (And.intro Ty.t51 Ty.t65)))
 have F := Fc.mk True.intro
 refine v_seqR [0,1] ?_; intro K1 k1
 refine zAssign ⟨?_⟩
 refine k1 _ ?_
 refine zk ⟨?_⟩
 refine v_seq ?_; intro Q2 n2 e2 r2
 refine v_seqR [0,1,7,8] ?_; intro K3 k3
 refine zMove ⟨?_⟩
 refine zLen ⟨?_⟩
 refine zMove ⟨?_⟩
 refine k3 _ ?_
 refine zk ⟨?_⟩
 refine v_block ?_; intro Q4 n4 x4 e4 r4
 refine v_loop (fun i => ⟨[(0, .sl (l.map (fun t : Int × Int => V.agg [V.int .i64 t.1, V.int .i64 t.2]))), (1, .fn g caps), (7, .int .i64 l.length), (8, .int .i64 (Nat.cast i))], [], false, 19, 0⟩) (fun i => i ≤ l.length ∧ firstP p i (l.drop i) = firstP p 0 l) (fun i => l.length - i) 0 ?_ ?_ ?_
 ·refine weak_of [0, 1, 7, 8] ?_
  simp only [keep_mk, keepE_nil, keepE_cons, look_cons, look_nil, Nat.reduceEqDiff, reduceIte]
  rfl
 ·exact ⟨Nat.zero_le _, rfl⟩
 ·rintro i hok5 Q5 n5 e5 r5
  obtain ⟨hi1, hR⟩ := hok5
  refine v_seqR [0,1,7,8,9] ?_; intro K6 k6
  refine zBinOp ⟨?_⟩
  refine k6 _ ?_
  refine zk ⟨?_⟩
  refine v_seq ?_; intro Q7 n7 e7 r7
  refine v_condS _ rfl ?_ ?_
  ·intro hc0
   have hlt : i < l.length := by omega
   obtain ⟨⟨x0, x1⟩, hx⟩ : ∃ x : Int × Int, l[i]? = some x := ⟨l[i]'(by omega), List.getElem?_eq_getElem (by omega)⟩
   have hst := first_step (p := p) hx
   refine v_skip ?_
   refine n7 _ _ (weak_keep [0, 1, 7, 8] _) ?_
   refine zk ⟨?_⟩
   refine v_seq ?_; intro Q9 n9 e9 r9
   refine v_block ?_; intro Q10 n10 x10 e10 r10
   refine v_seqR [0,1,5,7,8] ?_; intro K11 k11
   have F := Fc.mk (fun f => getD_map (f := f) hx)
   refine zMove ⟨?_⟩
   refine zAssign ⟨?_⟩
   refine k11 _ ?_
   refine zk ⟨?_⟩
   refine v_seqR [0,1,5,7,8,16] ?_; intro K12 k12
   refine zMove ⟨?_⟩
   refine zMove ⟨?_⟩
   refine zMove ⟨?_⟩
   refine zIndexAddr ⟨?_⟩
   refine zLoad ⟨?_⟩
   refine zcc (hg x0 x1 (List.mem_of_getElem? hx)) ⟨?_⟩
   refine k12 _ ?_
   refine zk ⟨?_⟩
   refine v_condS _ rfl ?_ ?_
   ·intro hc1
    refine v_seqR [4] ?_; intro K14 k14
    refine zMove ⟨?_⟩
    refine zAssign ⟨?_⟩
    refine k14 _ ?_
    refine zk ⟨?_⟩
    refine v_ret ?_
    refine r10 _ ?_
    refine r9 _ ?_
    refine r5 _ ?_
    refine r4 _ ?_
    refine r2 _ ?_
    refine r0 _ ?_
    refine zf ⟨?_⟩
    exact ret_pure rfl (by rw [← hR, hst, if_pos hc1]) (.inl rfl)
   ·intro hc1
    refine v_skip ?_
    refine n10 _ ?_
    refine n9 _ _ (weak_keep [0, 1, 7, 8] _) ?_
    refine zk ⟨?_⟩
    refine v_region ?_; intro K15 k15
    refine zBinOpW ⟨?_⟩
    refine zMove ⟨?_⟩
    refine k15 _ ?_
    refine n5 _ (i + 1) ?_ ?_ ?_
    ·refine weak_bothC [0, 1, 7, 8] [] ⟨?_⟩
     rfl
    ·exact ⟨by omega, by rw [← hR, hst, if_neg (by simp [hc1])]⟩
    ·show _ < _; omega
  ·intro hc0
   refine v_exit ?_
   refine e7 _ _ ?_
   refine e5 _ _ ?_
   refine x4 _ ?_
   refine n2 _ _ (weak_keep [] _) ?_
   refine zk ⟨?_⟩
   refine v_seqR [4] ?_; intro K16 k16
   refine zAssign ⟨?_⟩
   refine k16 _ ?_
   refine zk ⟨?_⟩
   refine v_ret ?_
   refine r0 _ ?_
   refine zf ⟨?_⟩
   exact ret_pure rfl (by rw [← hR, first_end (by omega)]) (.inl rfl)
set_option maxHeartbeats 1000000 in
theorem containsFuncSignal_con (l : List (Int × Int)) (g : Nat) (caps : List V) (p : Int × Int → Bool) (hl : l.length ≤ 1048576) (hc : Caps caps) (hg : ∀ x0 x1, (x0, x1) ∈ l → Con Tryd.prog g (V.agg [V.int .i64 x0, V.int .i64 x1] :: caps) [] (.bool (p (x0, x1))) []) : Con Tryd.prog 272 [.sl (l.map (fun t : Int × Int => V.agg [V.int .i64 t.1, V.int .i64 t.2])), .fn g caps] [] (.bool (l.any p)) [] := by
 refine v_con [.tmp 4] [] Tryd.func272 rfl rfl rfl (by simp [Tryd.ntmps272]) ?_
 intro Q0 n0 r0
 simp only [Tryd.ntmps272, envFrom, Nat.reduceAdd]
 have T := Tys.mk (And.intro Ty.t3 (And.intro Ty.t51 Ty.t65))
 have F := Fc.mk True.intro
 refine v_seqR [0,1] ?_; intro K1 k1
 refine zAssign ⟨?_⟩
 refine k1 _ ?_
 refine zk ⟨?_⟩
 refine v_seqR [4] ?_; intro K2 k2
 refine zMove ⟨?_⟩
 refine zMove ⟨?_⟩
 refine zcc (indexFuncSignal_con l g caps p hl hc hg) ⟨?_⟩
 refine zBinOp ⟨?_⟩
 refine zAssign ⟨?_⟩
 refine k2 _ ?_
 refine zk ⟨?_⟩
 refine v_ret ?_
 refine r0 _ ?_
 refine zf ⟨?_⟩
 exact ret_pure rfl (by rw [first_any]) (.inl rfl)
set_option maxHeartbeats 1000000 in
theorem cloneSignal_con (l : List (Int × Int)) (hl : l.length ≤ 1048576) : Con Tryd.prog 245 [.sl (l.map (fun t : Int × Int => V.agg [V.int .i64 t.1, V.int .i64 t.2]))] [] (.ref 0) [.arr (l.map (fun t : Int × Int => V.agg [V.int .i64 t.1, V.int .i64 t.2])) .flat] := by
 have hns : (l.map (fun t : Int × Int => V.agg [V.int .i64 t.1, V.int .i64 t.2])).all V.noSl = true := by rw [List.all_map, List.all_eq_true]; intro a _; rfl
 refine v_con [.tmp 2] [] Tryd.func245 rfl rfl rfl (by simp [Tryd.ntmps245]) ?_
 intro Q0 n0 r0
 simp only [Tryd.ntmps245, envFrom, Nat.reduceAdd]
 have T := Tys.mk (And.intro Ty.t3 (And.intro Ty.t51 Ty.t65))
 have F := Fc.mk True.intro
 refine v_seqR [0] ?_; intro K1 k1
 have F := Fc.mk hns
 refine zAssign ⟨?_⟩
 refine k1 _ ?_
 refine zk ⟨?_⟩
 refine v_seq ?_; intro Q2 n2 e2 r2
 refine v_seqR [0,4] ?_; intro K3 k3
 refine zMove ⟨?_⟩
 refine zNil ⟨?_⟩
 intro nb4 hnb4
 refine k3 _ ?_
 refine zk ⟨?_⟩
 refine v_condS _ rfl ?_ ?_
 ·intro hc0
  have hnil : l = [] := by cases l with | nil => rfl | cons a b => have := hnb4 (by simp); rw [hc0] at this; cases this
  refine v_seqR [2] ?_; intro K5 k5
  refine zAssign ⟨?_⟩
  refine k5 _ ?_
  refine zk ⟨?_⟩
  refine v_ret ?_
  refine r2 _ ?_
  refine r0 _ ?_
  refine zf ⟨?_⟩
  rw [hnil]; exact ret_refK rfl rfl rfl
 ·intro hc0
  refine v_skip ?_
  refine n2 _ _ (weak_keep [0] _) ?_
  refine zk ⟨?_⟩
  refine v_seqR [2] ?_; intro K6 k6
  refine zBuildSlice ⟨?_⟩
  refine zMove ⟨?_⟩
  refine zAppend ⟨?_⟩
  refine zAssign ⟨?_⟩
  refine k6 _ ?_
  refine zk ⟨?_⟩
  refine v_ret ?_
  refine r0 _ ?_
  refine zf ⟨?_⟩
  exact ret_refK rfl rfl (by simp)
set_option maxHeartbeats 1000000 in
theorem deleteFuncSignal_con (l : List (Int × Int)) (g : Nat) (caps : List V) (p : Int × Int → Bool) (hl : l.length ≤ 1048576) (hc : Caps caps) (hg : ∀ x0 x1, (x0, x1) ∈ l → Con Tryd.prog g (V.agg [V.int .i64 x0, V.int .i64 x1] :: caps) [] (.bool (p (x0, x1))) []) : Con Tryd.prog 210 [.ref 0, .fn g caps] [.arr (l.map (fun t : Int × Int => V.agg [V.int .i64 t.1, V.int .i64 t.2])) .thin] (.sub 0 0 (l.filter (fun x => !p x)).length) [.arr ((l.filter (fun x => !p x)).map (fun t : Int × Int => V.agg [V.int .i64 t.1, V.int .i64 t.2]) ++ List.replicate (l.length - (l.filter (fun x => !p x)).length) (V.agg [V.int .i64 0, V.int .i64 0])) .thin] := by
 refine v_con [.tmp 4] [] Tryd.func210 rfl rfl rfl (by simp [Tryd.ntmps210]) ?_
 intro Q0 n0 r0
 simp only [Tryd.ntmps210, envFrom, Nat.reduceAdd]
 have T := Tys.mk (And.intro Ty.t3 (And.intro Ty.t4 (And.intro Ty.t51 Ty.t65)))
 have F := Fc.mk True.intro
 refine v_seqR [0,1] ?_; intro K1 k1
 refine zAssign ⟨?_⟩
 refine k1 _ ?_
 refine zk ⟨?_⟩
 refine v_seqR [0,1,5] ?_; intro K2 k2
 refine zMove ⟨?_⟩
 refine zMove ⟨?_⟩
 refine zcc (indexFuncSignal_con l g caps p hl hc hg) ⟨?_⟩
 refine zAssign ⟨?_⟩
 refine k2 _ ?_
 refine zk ⟨?_⟩
 refine v_seq ?_; intro Q3 n3 e3 r3
 refine v_seqR [0,1,5,12] ?_; intro K4 k4
 refine zMove ⟨?_⟩
 refine zBinOp ⟨?_⟩
 refine k4 _ ?_
 refine zk ⟨?_⟩
 refine v_condS _ rfl ?_ ?_
 ·intro hc0
  have hfil := first_none hc0
  refine v_seq ?_; intro Q6 n6 e6 r6
  refine v_region ?_; intro K7 k7
  refine zMove ⟨?_⟩
  refine zAssign ⟨?_⟩
  refine k7 _ ?_
  apply n6
  ·apply weak_trans (weak_keep [4] _)
   simp only [keep_mk, keepE_nil, keepE_cons, look_cons, look_nil, Nat.reduceEqDiff, reduceIte]
   exact weak_whole 0 4 (l.map (fun t : Int × Int => V.agg [V.int .i64 t.1, V.int .i64 t.2])) .thin rfl rfl
  try simp only [atSlot_cons, atSlot_nil, Nat.reduceEqDiff, reduceIte, List.set_cons_zero, List.set_cons_succ]
  refine v_ret ?_
  refine r3 _ ?_
  refine r0 _ ?_
  refine zf ⟨?_⟩
  rw [hfil]; exact ret_lent_sub (by simp) (by simp) (by simp) (by simp) (by simp [Blk.kindIs])
 ·intro hc0
  obtain ⟨k0, hk1, hk2, hk3, _⟩ := first_some hc0
  rw [Nat.zero_add] at hk2
  refine v_skip ?_
  refine n3 _ _ (weak_keep [0, 1, 5] _) ?_
  refine zk ⟨?_⟩
  refine v_seq ?_; intro Q8 n8 e8 r8
  refine v_seqR [0,1,5,6] ?_; intro K9 k9
  have F := Fc.mk hk2
  refine zMove ⟨?_⟩
  refine zBinOpW ⟨?_⟩
  refine zAssign ⟨?_⟩
  refine k9 _ ?_
  refine zk ⟨?_⟩
  refine v_block ?_; intro Q10 n10 x10 e10 r10
  refine v_loop (fun q => ⟨[(0, .ref 0), (1, .fn g caps), (5, .int .i64 (Nat.cast q.1)), (6, .int .i64 (Nat.cast q.2.1))], [.arr (q.2.2.map (fun t : Int × Int => V.agg [V.int .i64 t.1, V.int .i64 t.2])) .thin], false, 42, 0⟩) (fun q => q.1 ≤ q.2.1 ∧ q.2.1 ≤ l.length ∧ q.2.2.length = l.length ∧ q.2.2.take q.1 = (l.take q.2.1).filter (fun x => !p x) ∧ q.2.2.drop q.2.1 = l.drop q.2.1) (fun q => l.length - q.2.1) ((k0, k0 + 1, l) : Nat × Nat × List (Int × Int)) ?_ ?_ ?_
  ·refine weak_bothC [0, 1, 5, 6] [0] ⟨?_⟩
   rfl
  ·exact ⟨Nat.le_succ _, hk1, rfl, hk3.symm, rfl⟩
  ·rintro ⟨i, j, ys⟩ hok11 Q11 n11 e11 r11
   obtain ⟨hi1, hi2, hyl, hR, hD⟩ := hok11
   simp only [] at hi1 hi2 hyl hR hD ⊢
   refine v_seq ?_; intro Q12 n12 e12 r12
   refine v_seqR [0,1,5,6,19] ?_; intro K13 k13
   refine zMove ⟨?_⟩
   refine zMove ⟨?_⟩
   refine zLen ⟨?_⟩
   refine zBinOp ⟨?_⟩
   refine k13 _ ?_
   refine zk ⟨?_⟩
   refine v_condS _ rfl ?_ ?_
   ·intro hc1
    have hlt : j < l.length := by rw [← hyl]; simpa using hc1
    obtain ⟨⟨x0, x1⟩, hx⟩ : ∃ x : Int × Int, l[j]? = some x := ⟨l[j]'(by omega), List.getElem?_eq_getElem (by omega)⟩
    have hy := del_get hx hD
    obtain ⟨⟨y0, y1⟩, hyi⟩ : ∃ x : Int × Int, ys[i]? = some x := ⟨ys[i]'(by omega), List.getElem?_eq_getElem (by omega)⟩
    have hsm : (ys.map (fun t : Int × Int => V.agg [V.int .i64 t.1, V.int .i64 t.2])).set i (V.agg [V.int .i64 x0, V.int .i64 x1]) = (ys.set i (x0, x1)).map (fun t : Int × Int => V.agg [V.int .i64 t.1, V.int .i64 t.2]) := by have q := List.map_set (f := (fun t : Int × Int => V.agg [V.int .i64 t.1, V.int .i64 t.2])) (l := ys) (i := i) (a := (x0, x1)); exact q.symm
    refine v_skip ?_
    refine n12 _ _ (weak_keep [0, 1, 5, 6] _) ?_
    refine zk ⟨?_⟩
    refine v_seq ?_; intro Q15 n15 e15 r15
    refine v_block ?_; intro Q16 n16 x16 e16 r16
    refine v_seqR [0,1,5,6,7] ?_; intro K17 k17
    have F := Fc.mk (And.intro hk2 (And.intro (fun f => getD_map (f := f) hy) (fun f => getD_map (f := f) hyi)))
    refine zMove ⟨?_⟩
    refine zMove ⟨?_⟩
    refine zIndexAddr ⟨?_⟩
    refine zLoad ⟨?_⟩
    refine zAlloc ⟨?_⟩
    refine zStore ⟨?_⟩
    refine k17 _ ?_
    refine zk ⟨?_⟩
    refine v_seqR [0,1,5,6,7,29] ?_; intro K18 k18
    refine zMove ⟨?_⟩
    refine zLoad ⟨?_⟩
    refine zcc (hg x0 x1 (List.mem_of_getElem? hx)) ⟨?_⟩
    refine zUnOp ⟨?_⟩
    refine k18 _ ?_
    refine zk ⟨?_⟩
    refine v_condS _ rfl ?_ ?_
    ·intro hc2
     refine v_seqR [0,1,5,6] ?_; intro K20 k20
     refine zMove ⟨?_⟩
     refine zMove ⟨?_⟩
     refine zLoad ⟨?_⟩
     refine zIndexAddr ⟨?_⟩
     refine zStore ⟨?_⟩
     refine k20 _ ?_
     refine zk ⟨?_⟩
     refine v_region ?_; intro K21 k21
     refine zMove ⟨?_⟩
     refine zBinOpW ⟨?_⟩
     refine zAssign ⟨?_⟩
     refine k21 _ ?_
     refine n16 _ ?_
     refine n15 _ _ (weak_keep [0, 1, 5, 6] _) ?_
     refine zk ⟨?_⟩
     refine v_region ?_; intro K22 k22
     refine zMove ⟨?_⟩
     refine zBinOpW ⟨?_⟩
     refine zAssign ⟨?_⟩
     refine k22 _ ?_
     refine n11 _ (i + 1, j + 1, ys.set i (x0, x1)) ?_ ?_ ?_
     ·refine weak_bothC [0, 1, 5, 6] [0] ⟨?_⟩
      rw [hsm]; rfl
     ·exact ⟨Nat.succ_le_succ hi1, hlt, by rw [List.length_set]; exact hyl, (del_keep hi1 hyl hx hc2 hR hD).1, (del_keep hi1 hyl hx hc2 hR hD).2⟩
     ·show _ < _; show l.length - (j + 1) < l.length - j; omega
    ·intro hc2
     refine v_skip ?_
     refine n16 _ ?_
     refine n15 _ _ (weak_keep [0, 1, 5, 6] _) ?_
     refine zk ⟨?_⟩
     refine v_region ?_; intro K23 k23
     refine zMove ⟨?_⟩
     refine zBinOpW ⟨?_⟩
     refine zAssign ⟨?_⟩
     refine k23 _ ?_
     refine n11 _ (i, j + 1, ys) ?_ ?_ ?_
     ·refine weak_bothC [0, 1, 5, 6] [0] ⟨?_⟩
      rfl
     ·exact ⟨Nat.le_succ_of_le hi1, hlt, hyl, (del_drop hx hc2 hR hD).1, (del_drop hx hc2 hR hD).2⟩
     ·show _ < _; show l.length - (j + 1) < l.length - j; omega
   ·intro hc1
    have hjl : l.length ≤ j := by rw [← hyl]; simpa using hc1
    have hend := del_end (by omega) hjl hR
    refine v_exit ?_
    refine e12 _ _ ?_
    refine e11 _ _ ?_
    refine x10 _ ?_
    refine n8 _ _ (weak_keep [0, 5] _) ?_
    refine zk ⟨?_⟩
    refine v_seqR [0,5] ?_; intro K24 k24
    refine zMove ⟨?_⟩
    refine zMove ⟨?_⟩
    refine zSlice ⟨?_⟩
    refine zClear ⟨?_⟩
    refine k24 _ ?_
    refine zk ⟨?_⟩
    refine v_seqR [4] ?_; intro K25 k25
    refine zMove ⟨?_⟩
    refine zMove ⟨?_⟩
    refine v_op ?_; intro K k
    simp only [zE, zL, zN, aStepM, optable, set_some, Nat.reduceEqDiff, reduceIte, Nat.reduceLT, implies_true, forall_const, reduceCtorEq, V.ofValue, V.ofScalar, V.un, V.gd, aExec, aop, List.set_cons_zero, List.set_cons_succ, aSlice, forall_eq', bound, ElemsOK, Option.map_none, Option.isNone_none, row_mk, Blk.row, TypeDesc.slice.injEq, List.forall_mem_map, List.length_map, Go.Vm.V.cells, Int.toNat_natCast, Int.reduceToNat, ← List.map_take, ← List.map_drop, List.take_length, Nat.reduceAdd, Nat.reduceLeDiff, Nat.reduceMul, Tryd.underlying51, Ty.c51, Ty.a51, Tryd.underlying65, Ty.c65, Ty.a65, hk2]
    repeat (refine And.intro (by first | omega | (intro x hx; simp only [List.mem_append, List.mem_map, List.mem_replicate] at hx; rcases hx with (⟨_, _, rfl⟩ | ⟨_, rfl⟩) | ⟨_, _, rfl⟩ <;> rfl) | (simp; omega)) ?_)
    refine k _ ?_; clear k K
    refine zAssign ⟨?_⟩
    refine k25 _ ?_
    refine zk ⟨?_⟩
    refine v_ret ?_
    refine r0 _ ?_
    refine zf ⟨?_⟩
    exact ret_lent_sub (by simp) (by simp) (by rw [Nat.sub_zero, hend.1]) (by simp [hend.2, ← hend.1, hyl]; omega) (by simp [Blk.kindIs])
end Go.Proofs.YtmlicajgbgjphaaDoor
