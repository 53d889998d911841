/- What functions compute (ZoneAlarm). No condition. -/
import Derived.Test.YtdgenniiidgimaaTy
import Derived.Test.YtdgenniiidgimaaVmG
import Derived.Test.YtdgenniiidgimaaWAlarm
import Derived.Test.YtdgenniiidgimaaWBase
import Derived.Test.YtdgenniiidgimaaWHas
import Derived.Test.YtdgenniiidgimaaWLive
set_option linter.unusedSimpArgs false
set_option linter.unusedVariables false
set_option linter.defProp false
namespace Go.Proofs.Ytdgenniiidgimaa
open Go Go.Vm

theorem live_det {l : List (Int × Int × Int × Bool)} {s : (Int × Int)} (h : liveB l s = true) : ∃ (j : Nat) (d : (Int × Int × Int × Bool)), findD s.2 0 l = (j : Int) ∧ l[j]? = some d ∧ detOf l s.2 = some d := by
  rcases findD_det s.2 l 0 with ⟨_, q⟩ | ⟨j, d, q1, q2, q3⟩
  · simp only [liveB, q] at h; cases h
  · exact ⟨j, d, by rw [q1, Nat.zero_add], q2, q3⟩
def zoneOf (l : List (Int × Int × Int × Bool)) (s : (Int × Int)) : Int := match detOf l s.2 with | some d => d.2.1 | none => 0
def confB (l : List (Int × Int × Int × Bool)) (zone within : Int) (s t : (Int × Int)) : Bool := !decide (t.2 = s.2) && decide (zoneOf l t = zone) && decide (IntKind.i64.wrap (s.1 - t.1) ≤ within)
def hitB (l : List (Int × Int × Int × Bool)) (zone within : Int) (pre : List (Int × Int)) (s : (Int × Int)) : Bool := match detOf l s.2 with
  | some d => decide (d.2.1 = zone) && (decide (d.2.2.1 = 2) || pre.any (confB l zone within s))
  | none => false
def alarmFrom (l : List (Int × Int × Int × Bool)) (zone within : Int) (lv : List (Int × Int)) : Nat → List (Int × Int) → Int
  | _, [] => -1
  | k, s :: r => if hitB l zone within (lv.take k) s = true then s.1 else alarmFrom l zone within lv (k + 1) r
theorem alarm_step {l : List (Int × Int × Int × Bool)} {zone within : Int} {lv : List (Int × Int)} {i : Nat} {s : (Int × Int)} (h : lv[i]? = some s) : alarmFrom l zone within lv i (lv.drop i) = if hitB l zone within (lv.take i) s = true then s.1 else alarmFrom l zone within lv (i + 1) (lv.drop (i + 1)) := by
  rw [getElem_drop_cons h, alarmFrom]
theorem alarm_end {l : List (Int × Int × Int × Bool)} {zone within : Int} {lv : List (Int × Int)} {i k : Nat} (h : lv.length ≤ i) : alarmFrom l zone within lv k (lv.drop i) = -1 := by
  rw [List.drop_of_length_le h, alarmFrom]

set_option maxHeartbeats 1000000 in
theorem alAlarm_con (l : List (Int × Int × Int × Bool)) (s : List (Int × Int)) (zone within : Int) (hl : l.length ≤ 1048576) (hs : s.length ≤ 1048576) : Con Try.prog 86 [.sl (l.map (fun t : Int × Int × Int × Bool => V.agg [V.int .i64 t.1, V.int .i64 t.2.1, V.int .i64 t.2.2.1, V.bool t.2.2.2])), .sl (s.map (fun t : Int × Int => V.agg [V.int .i64 t.1, V.int .i64 t.2])), .int .i64 zone, .int .i64 within] [] (.int .i64 (alarmFrom l zone within (s.filter (liveB l)) 0 (s.filter (liveB l)))) [] := by
 obtain ⟨lv, hlv⟩ : ∃ lv, lv = s.filter (liveB l) := ⟨_, rfl⟩
 have hall : ∀ x ∈ lv, liveB l x = true := by intro x hx; rw [hlv] at hx; exact (List.mem_filter.1 hx).2
 have hlvl : lv.length ≤ 1048576 := by rw [hlv]; exact Nat.le_trans (List.length_filter_le ..) hs
 rw [← hlv]
 refine v_con [.tmp 8] [] Try.func86 rfl rfl rfl (by simp [Try.ntmps86]) ?_
 intro Q0 n0 r0
 simp only [Try.ntmps86, envFrom, Nat.reduceAdd]
 have T := Tys.mk (And.intro Ty.t3 (And.intro Ty.t4 (And.intro Ty.t29 (And.intro Ty.t31 (And.intro Ty.t57 Ty.t59)))))
 have F := Fc.mk True.intro
 refine v_seq ?_; intro Q1 n1 e1 r1
 refine v_region ?_; intro K2 k2
 refine zAssign ⟨?_⟩
 refine k2 _ ?_
 refine n1 _ _ (weak_keep [0, 1, 2, 3] _) ?_
 refine zk ⟨?_⟩
 refine v_seq ?_; intro Q3 n3 e3 r3
 refine v_region ?_; intro K4 k4
 refine zMove ⟨?_⟩
 refine zMove ⟨?_⟩
 refine zc ((hlv ▸ alLive_con l s hl hs : Con _ _ _ _ _ [.arr (lv.map (fun t : Int × Int => V.agg [V.int .i64 t.1, V.int .i64 t.2])) .flat])) ⟨?_⟩
 refine zAssign ⟨?_⟩
 refine k4 _ ?_
 refine n3 _ _ (weak_keep [0, 2, 3, 9] _) ?_
 refine zk ⟨?_⟩
 refine v_seq ?_; intro Q5 n5 e5 r5
 refine v_seq ?_; intro Q6 n6 e6 r6
 refine v_region ?_; intro K7 k7
 refine zMove ⟨?_⟩
 refine zLen ⟨?_⟩
 refine zMove ⟨?_⟩
 refine k7 _ ?_
 refine n6 _ _ (weak_keep [0, 2, 3, 9, 18, 19, 20] _) ?_
 refine zk ⟨?_⟩
 refine v_block ?_; intro Q8 n8 x8 e8 r8
 refine v_loop (fun i => ⟨[(0, .sl (l.map (fun t : Int × Int × Int × Bool => V.agg [V.int .i64 t.1, V.int .i64 t.2.1, V.int .i64 t.2.2.1, V.bool t.2.2.2]))), (2, .int .i64 zone), (3, .int .i64 within), (9, .ref 0), (18, .ref 0), (19, .int .i64 lv.length), (20, .int .i64 (Nat.cast i))], [.arr (lv.map (fun t : Int × Int => V.agg [V.int .i64 t.1, V.int .i64 t.2])) .flat], false, 79, 0⟩) (fun i => i ≤ lv.length ∧ alarmFrom l zone within lv i (lv.drop i) = alarmFrom l zone within lv 0 lv) (fun i => lv.length - i) 0 ?_ ?_ ?_
 ·refine weak_bothS [0, 2, 3, 9, 18, 19, 20] [0] ⟨?_⟩
  rfl
 ·exact ⟨Nat.zero_le _, rfl⟩
 ·rintro i hok9 Q9 n9 e9 r9
  obtain ⟨hi1, hR⟩ := hok9
  refine v_seq ?_; intro Q10 n10 e10 r10
  refine v_region ?_; intro K11 k11
  refine zBinOp ⟨?_⟩
  refine k11 _ ?_
  refine n10 _ _ (weak_keep [0, 2, 3, 9, 18, 19, 20, 21] _) ?_
  refine zk ⟨?_⟩
  refine v_seq ?_; intro Q12 n12 e12 r12
  refine v_condS _ rfl ?_ ?_
  ·intro hc0
   have hlt : i < lv.length := by omega
   obtain ⟨⟨x0, x1⟩, hx⟩ : ∃ x : Int × Int, lv[i]? = some x := ⟨lv[i]'(by omega), List.getElem?_eq_getElem (by omega)⟩
   obtain ⟨jd, ⟨d0, d1, d2, d3⟩, hf1, hd, hf2⟩ := live_det (hall _ (List.mem_of_getElem? hx))
   simp only [] at hf1 hf2
   have hidx : (findD x1 0 l).toNat = jd := by rw [hf1]; simp
   have hjl : jd < l.length := (List.getElem?_eq_some_iff.1 hd).1
   have hst := alarm_step (l := l) (zone := zone) (within := within) hx
   have hhit : hitB l zone within (lv.take i) (x0, x1) = (decide (d1 = zone) && (decide (d2 = 2) || (lv.take i).any (confB l zone within (x0, x1)))) := by simp only [hitB, hf2]
   have htk : (lv.take i).length = i := by rw [List.length_take]; omega
   refine v_skip ?_
   refine n12 _ _ (weak_keep [0, 2, 3, 9, 18, 19, 20] _) ?_
   refine zk ⟨?_⟩
   refine v_seq ?_; intro Q14 n14 e14 r14
   refine v_block ?_; intro Q15 n15 x15 e15 r15
   refine v_seq ?_; intro Q16 n16 e16 r16
   refine v_region ?_; intro K17 k17
   have F := Fc.mk (And.intro (fun f => getD_map (f := f) hx) (And.intro hidx (fun f => getD_map (f := f) hd)))
   refine zMove ⟨?_⟩
   refine zIndexAddr ⟨?_⟩
   refine zLoad ⟨?_⟩
   refine zAlloc ⟨?_⟩
   refine zAssign ⟨?_⟩
   refine zStore ⟨?_⟩
   refine k17 _ ?_
   refine n16 _ _ (weak_keep [0, 2, 3, 9, 10, 11, 18, 19, 20] _) ?_
   refine zk ⟨?_⟩
   refine v_seq ?_; intro Q18 n18 e18 r18
   refine v_region ?_; intro K19 k19
   refine zMove ⟨?_⟩
   refine zMove ⟨?_⟩
   refine zFieldAddr ⟨?_⟩
   refine zLoad ⟨?_⟩
   refine zc (alFind_con l x1 hl) ⟨?_⟩
   refine zIndexAddr ⟨?_⟩
   refine zLoad ⟨?_⟩
   refine zAlloc ⟨?_⟩
   refine zStore ⟨?_⟩
   refine k19 _ ?_
   refine n18 _ _ (weak_keep [0, 2, 3, 9, 10, 11, 12, 18, 19, 20] _) ?_
   refine zk ⟨?_⟩
   refine v_seq ?_; intro Q20 n20 e20 r20
   refine v_seq ?_; intro Q21 n21 e21 r21
   refine v_region ?_; intro K22 k22
   refine zFieldAddr ⟨?_⟩
   refine zLoad ⟨?_⟩
   refine zMove ⟨?_⟩
   refine zBinOp ⟨?_⟩
   refine k22 _ ?_
   refine n21 _ _ (weak_keep [0, 2, 3, 9, 10, 11, 12, 18, 19, 20, 35] _) ?_
   refine zk ⟨?_⟩
   refine v_condS _ rfl ?_ ?_
   ·intro hc1
    refine v_exit ?_
    refine e20 _ _ ?_
    refine x15 _ ?_
    refine n14 _ _ (weak_keep [0, 2, 3, 9, 18, 19, 20] _) ?_
    refine zk ⟨?_⟩
    refine v_region ?_; intro K24 k24
    refine zBinOpW ⟨?_⟩
    refine zMove ⟨?_⟩
    refine k24 _ ?_
    refine n9 _ (i + 1) ?_ ?_ ?_
    ·refine weak_bothS [0, 2, 3, 9, 18, 19, 20] [0] ⟨?_⟩
     rfl
    ·exact ⟨by omega, by rw [← hR, hst, if_neg (by rw [hhit]; simp [hc1])]⟩
    ·show _ < _; omega
   ·intro hc1
    refine v_skip ?_
    refine n20 _ _ (weak_keep [0, 2, 3, 9, 10, 11, 12, 18, 19, 20] _) ?_
    refine zk ⟨?_⟩
    refine v_seq ?_; intro Q25 n25 e25 r25
    refine v_seq ?_; intro Q26 n26 e26 r26
    refine v_region ?_; intro K27 k27
    refine zFieldAddr ⟨?_⟩
    refine zLoad ⟨?_⟩
    refine zBinOp ⟨?_⟩
    refine k27 _ ?_
    refine n26 _ _ (weak_keep [0, 2, 3, 9, 10, 11, 18, 19, 20, 38] _) ?_
    refine zk ⟨?_⟩
    refine v_condS _ rfl ?_ ?_
    ·intro hc2
     refine v_seq ?_; intro Q29 n29 e29 r29
     refine v_region ?_; intro K30 k30
     refine zFieldAddr ⟨?_⟩
     refine zLoad ⟨?_⟩
     refine zAssign ⟨?_⟩
     refine k30 _ ?_
     refine n29 _ _ (weak_keep [8] _) ?_
     refine zk ⟨?_⟩
     refine v_ret ?_
     refine r25 _ ?_
     refine r15 _ ?_
     refine r14 _ ?_
     refine r9 _ ?_
     refine r8 _ ?_
     refine r5 _ ?_
     refine r0 _ ?_
     refine zf ⟨?_⟩
     exact ret_pure rfl (by rw [← hR, hst, if_pos (by rw [hhit]; simp [hc1, hc2])]) (.inl rfl)
    ·intro hc2
     refine v_skip ?_
     refine n25 _ _ (weak_keep [0, 2, 3, 9, 10, 11, 18, 19, 20] _) ?_
     refine zk ⟨?_⟩
     refine v_seq ?_; intro Q31 n31 e31 r31
     refine v_region ?_; intro K32 k32
     refine zMove ⟨?_⟩
     refine zMove ⟨?_⟩
     refine zSlice ⟨?_⟩
     refine zLen ⟨?_⟩
     refine zMove ⟨?_⟩
     refine k32 _ ?_
     refine n31 _ _ (weak_keep [0, 2, 3, 9, 11, 18, 19, 20, 43, 44, 45] _) ?_
     refine zk ⟨?_⟩
     refine v_block ?_; intro Q33 n33 x33 e33 r33
     refine v_loop (fun j => ⟨[(0, .sl (l.map (fun t : Int × Int × Int × Bool => V.agg [V.int .i64 t.1, V.int .i64 t.2.1, V.int .i64 t.2.2.1, V.bool t.2.2.2]))), (2, .int .i64 zone), (3, .int .i64 within), (9, .ref 0), (11, .ptr 1 0 0), (18, .ref 0), (19, .int .i64 lv.length), (20, .int .i64 (Nat.cast i)), (43, .sub 0 0 i), (44, .int .i64 (Nat.cast i)), (45, .int .i64 (Nat.cast j))], [.arr (lv.map (fun t : Int × Int => V.agg [V.int .i64 t.1, V.int .i64 t.2])) .flat, .box (.agg [.int .i64 x0, .int .i64 x1]) .flat], false, 79, 0⟩) (fun j => j ≤ i ∧ ((lv.take i).drop j).any (confB l zone within (x0, x1)) = (lv.take i).any (confB l zone within (x0, x1))) (fun j => i - j) 0 ?_ ?_ ?_
     ·refine weak_bothS [0, 2, 3, 9, 11, 18, 19, 20, 43, 44, 45] [0, 1] ⟨?_⟩
      rfl
     ·exact ⟨Nat.zero_le _, rfl⟩
     ·rintro j hok34 Q34 n34 e34 r34
      obtain ⟨hj1, hR2⟩ := hok34
      refine v_seq ?_; intro Q35 n35 e35 r35
      refine v_region ?_; intro K36 k36
      refine zBinOp ⟨?_⟩
      refine k36 _ ?_
      refine n35 _ _ (weak_keep [0, 2, 3, 9, 11, 18, 19, 20, 43, 44, 45, 46] _) ?_
      refine zk ⟨?_⟩
      refine v_seq ?_; intro Q37 n37 e37 r37
      refine v_condS _ rfl ?_ ?_
      ·intro hc3
       have hltj : j < i := by omega
       obtain ⟨⟨y0, y1⟩, hy0⟩ : ∃ x : Int × Int, lv[j]? = some x := ⟨lv[j]'(by omega), List.getElem?_eq_getElem (by omega)⟩
       have hy : (lv.take i)[j]? = some (y0, y1) := by rw [List.getElem?_take_of_lt hltj]; exact hy0
       obtain ⟨je, ⟨e0, e1, e2, e3⟩, hg1, he, hg2⟩ := live_det (hall _ (List.mem_of_getElem? hy0))
       simp only [] at hg1 hg2
       have hidx2 : (findD y1 0 l).toNat = je := by rw [hg1]; simp
       have hjl2 : je < l.length := (List.getElem?_eq_some_iff.1 he).1
       have hst2 := any_drop (f := confB l zone within (x0, x1)) hy
       have hcf : confB l zone within (x0, x1) (y0, y1) = (!decide (y1 = x1) && decide (e1 = zone) && decide (IntKind.i64.wrap (x0 - y0) ≤ within)) := by simp only [confB, zoneOf, hg2]
       refine v_skip ?_
       refine n37 _ _ (weak_keep [0, 2, 3, 9, 11, 18, 19, 20, 43, 44, 45] _) ?_
       refine zk ⟨?_⟩
       refine v_seq ?_; intro Q39 n39 e39 r39
       refine v_block ?_; intro Q40 n40 x40 e40 r40
       refine v_seq ?_; intro Q41 n41 e41 r41
       refine v_region ?_; intro K42 k42
       have F := Fc.mk (And.intro (fun f => getD_map (f := f) hx) (And.intro hidx (And.intro (fun f => getD_map (f := f) hd) (And.intro (fun f => getD_map (f := f) hy0) (And.intro hidx2 (fun f => getD_map (f := f) he))))))
       refine zIndexAddr ⟨?_⟩
       refine zLoad ⟨?_⟩
       refine zAlloc ⟨?_⟩
       refine zStore ⟨?_⟩
       refine k42 _ ?_
       refine n41 _ _ (weak_keep [0, 2, 3, 9, 11, 14, 18, 19, 20, 43, 44, 45] _) ?_
       refine zk ⟨?_⟩
       refine v_seq ?_; intro Q43 n43 e43 r43
       refine v_region ?_; intro K44 k44
       refine zFieldAddr ⟨?_⟩
       refine zLoad ⟨?_⟩
       refine zFieldAddr ⟨?_⟩
       refine zLoad ⟨?_⟩
       refine zBinOp ⟨?_⟩
       refine zMove ⟨?_⟩
       refine zgMove ⟨?_⟩
       refine zgMove ⟨?_⟩
       refine zgFieldAddr ⟨?_⟩
       refine zgLoad ⟨?_⟩
       refine zgc (alFind_con l y1 hl) ⟨?_⟩
       refine zgIndexAddr ⟨?_⟩
       refine zgFieldAddr ⟨?_⟩
       refine zgLoad ⟨?_⟩
       refine zgMove ⟨?_⟩
       refine zgBinOp ⟨?_⟩
       refine zPick ⟨?_⟩
       refine zMove ⟨?_⟩
       refine zgFieldAddr ⟨?_⟩
       refine zgLoad ⟨?_⟩
       refine zgFieldAddr ⟨?_⟩
       refine zgLoad ⟨?_⟩
       refine zgBinOpW ⟨?_⟩
       refine zgMove ⟨?_⟩
       refine zgBinOp ⟨?_⟩
       refine zPick ⟨?_⟩
       refine k44 _ ?_
       refine n43 _ _ (weak_keep [0, 2, 3, 9, 11, 18, 19, 20, 43, 44, 45, 74] _) ?_
       refine zk ⟨?_⟩
       refine v_condS _ rfl ?_ ?_
       ·intro hc4
        refine v_seq ?_; intro Q46 n46 e46 r46
        refine v_region ?_; intro K47 k47
        refine zFieldAddr ⟨?_⟩
        refine zLoad ⟨?_⟩
        refine zAssign ⟨?_⟩
        refine k47 _ ?_
        refine n46 _ _ (weak_keep [8] _) ?_
        refine zk ⟨?_⟩
        refine v_ret ?_
        refine r40 _ ?_
        refine r39 _ ?_
        refine r34 _ ?_
        refine r33 _ ?_
        refine r15 _ ?_
        refine r14 _ ?_
        refine r9 _ ?_
        refine r8 _ ?_
        refine r5 _ ?_
        refine r0 _ ?_
        refine zf ⟨?_⟩
        exact ret_pure rfl (by rw [← hR, hst, if_pos (by rw [hhit, ← hR2, hst2, hcf]; simp_all)]) (.inl rfl)
       ·intro hc4
        refine v_skip ?_
        refine n40 _ ?_
        refine n39 _ _ (weak_keep [0, 2, 3, 9, 11, 18, 19, 20, 43, 44, 45] _) ?_
        refine zk ⟨?_⟩
        refine v_region ?_; intro K48 k48
        refine zBinOpW ⟨?_⟩
        refine zMove ⟨?_⟩
        refine k48 _ ?_
        refine n34 _ (j + 1) ?_ ?_ ?_
        ·refine weak_bothS [0, 2, 3, 9, 11, 18, 19, 20, 43, 44, 45] [0, 1] ⟨?_⟩
         rfl
        ·exact ⟨by omega, by rw [← hR2, hst2, show confB l zone within (x0, x1) (y0, y1) = false by rw [hcf]; simp at hc4 ⊢; intros; first | omega | simp_all | (have := hc4; simp_all; omega)]; simp⟩
        ·show _ < _; omega
      ·intro hc3
       refine v_exit ?_
       refine e37 _ _ ?_
       refine e34 _ _ ?_
       refine x33 _ ?_
       refine n15 _ ?_
       refine n14 _ _ (weak_keep [0, 2, 3, 9, 18, 19, 20] _) ?_
       refine zk ⟨?_⟩
       refine v_region ?_; intro K49 k49
       refine zBinOpW ⟨?_⟩
       refine zMove ⟨?_⟩
       refine k49 _ ?_
       refine n9 _ (i + 1) ?_ ?_ ?_
       ·refine weak_bothS [0, 2, 3, 9, 18, 19, 20] [0] ⟨?_⟩
        rfl
       ·exact ⟨by omega, by rw [← hR, hst, if_neg (by rw [hhit, ← hR2, any_end (by omega)]; simp [hc2])]⟩
       ·show _ < _; omega
  ·intro hc0
   refine v_exit ?_
   refine e12 _ _ ?_
   refine e9 _ _ ?_
   refine x8 _ ?_
   refine n5 _ _ (weak_keep [] _) ?_
   refine zk ⟨?_⟩
   refine v_seq ?_; intro Q50 n50 e50 r50
   refine v_region ?_; intro K51 k51
   refine zAssign ⟨?_⟩
   refine k51 _ ?_
   refine n50 _ _ (weak_keep [8] _) ?_
   refine zk ⟨?_⟩
   refine v_ret ?_
   refine r0 _ ?_
   refine zf ⟨?_⟩
   exact ret_pure rfl (by rw [← hR, alarm_end (by omega)]) (.inl rfl)
end Go.Proofs.Ytdgenniiidgimaa
