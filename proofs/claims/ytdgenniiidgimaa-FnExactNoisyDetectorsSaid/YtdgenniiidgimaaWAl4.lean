/- What functions compute (Al4). No condition. -/
import Derived.Test.YtdgenniiidgimaaTy
import Derived.Test.YtdgenniiidgimaaVmG
import Derived.Test.YtdgenniiidgimaaWAl3
import Derived.Test.YtdgenniiidgimaaWAl2
import Derived.Test.YtdgenniiidgimaaWHas
import Derived.Test.YtdgenniiidgimaaWSlSignal
import Derived.Test.YtdgenniiidgimaaWLive
import Derived.Test.YtdgenniiidgimaaWZones
import Derived.Test.YtdgenniiidgimaaWAlarm
set_option linter.unusedSimpArgs false
set_option linter.unusedVariables false
set_option linter.defProp false
namespace Go.Proofs.Ytdgenniiidgimaa
open Go Go.Vm

def falseOf (l : List (Int × Int × Int × Bool)) (s : List (Int × Int)) (within : Int) : List (Int × Int) := (s.filter (liveB l)).filter fun x => !decide (zoneOf l x ∈ zonesTo l s within 9)
def falseR (l : List (Int × Int × Int × Bool)) (s : List (Int × Int)) (within : Int) : List (Int × Int) := if askB l s within = true then falseOf l s within else []
theorem falseOf_len (l : List (Int × Int × Int × Bool)) (s : List (Int × Int)) (within : Int) : (falseOf l s within).length ≤ s.length := Nat.le_trans (List.length_filter_le ..) (List.length_filter_le ..)
theorem falseR_len (l : List (Int × Int × Int × Bool)) (s : List (Int × Int)) (within : Int) : (falseR l s within).length ≤ s.length := by
  rw [falseR]
  split
  · exact falseOf_len l s within
  · exact Nat.zero_le _
theorem filter_step {α : Type} {p : α → Bool} {l : List α} {i : Nat} {x : α} (h : l[i]? = some x) : (l.take (i + 1)).filter p = (l.take i).filter p ++ (if p x = true then [x] else []) := by
  rw [List.take_add_one, h, Option.toList_some, List.filter_append]
  congr 1
  by_cases q : p x = true
  · simp [q]
  · simp [q]

set_option maxHeartbeats 1000000 in
theorem falseSignals1_con (x0 : Int) (x1 : Int) (zs : List Int) (l : List (Int × Int × Int × Bool)) (hl : l.length ≤ 1048576) (hz : zs.length ≤ 1048576) (hlv : liveB l (x0, x1) = true) : Con Try.prog 143 [.agg [V.int .i64 x0, V.int .i64 x1], .pv [.sl (zs.map (V.int .i64))] 0 0, .pv [.sl (l.map (fun t : Int × Int × Int × Bool => V.agg [V.int .i64 t.1, V.int .i64 t.2.1, V.int .i64 t.2.2.1, V.bool t.2.2.2]))] 0 0] [] (.bool (decide (zoneOf l (x0, x1) ∈ zs))) [] := by
 obtain ⟨jd, ⟨d0, d1, d2, d3⟩, hf1, hd, hf2⟩ := live_det hlv
 simp only [] at hf1 hf2
 have hidx : (findD x1 0 l).toNat = jd := by rw [hf1]; simp
 have hjl : jd < l.length := (List.getElem?_eq_some_iff.1 hd).1
 refine v_con [.tmp 4] [] Try.func143 rfl rfl rfl (by simp [Try.ntmps143]) ?_
 intro Q0 n0 r0
 simp only [Try.ntmps143, envFrom, Nat.reduceAdd]
 have T := Tys.mk (And.intro Ty.t3 (And.intro Ty.t4 (And.intro Ty.t26 (And.intro Ty.t29 (And.intro Ty.t57 Ty.t59)))))
 have F := Fc.mk True.intro
 refine v_seq ?_; intro Q1 n1 e1 r1
 refine v_region ?_; intro K2 k2
 have F := Fc.mk (And.intro hidx (fun f => getD_map (f := f) hd))
 refine zBox ⟨?_⟩
 refine zAssign ⟨?_⟩
 refine k2 _ ?_
 refine n1 _ _ (weak_keep [1, 2, 3] _) ?_
 refine zk ⟨?_⟩
 refine v_seq ?_; intro Q3 n3 e3 r3
 refine v_draw (by kernel_rfl) ?_; intro K4 q4 k4
 show aAny _ _ _ _ 11 (Array.replicate 11 false) _
 refine zdLoad q4 true 0 5 ?_
 refine zdLoad q4 true 1 6 ?_
 refine zdLoad q4 true 2 7 ?_
 refine zdFieldAddr q4 true 3 8 ?_
 refine zdLoad q4 true 4 9 ?_
 refine zoc 5 (detectorAt_con l x1 hl) ⟨?_⟩
 refine zdIndexAddr q4 true 6 11 ?_
 refine zdFieldAddr q4 true 7 12 ?_
 refine zdLoad q4 true 8 13 ?_
 refine zoc 9 (slContains_con zs d1 hz) ⟨?_⟩
 refine zoAssign 10 ⟨?_⟩
 refine aAny_done (by kernel_rfl) ?_
 refine k4 _ ?_
 refine n3 _ _ (weak_keep [4] _) ?_
 refine zk ⟨?_⟩
 refine v_ret ?_
 refine r0 _ ?_
 refine zf ⟨?_⟩
 exact ret_pure rfl (by simp only [zoneOf, hf2]) (.inl rfl)
set_option maxHeartbeats 1000000 in
theorem falseSignals_con (l : List (Int × Int × Int × Bool)) (s : List (Int × Int)) (within : Int) (hl : l.length ≤ 1048576) (hs : s.length ≤ 1048576) (hpos : ∀ x ∈ s, 0 ≤ x.1) : Con Try.prog 78 [.sl (l.map (fun t : Int × Int × Int × Bool => V.agg [V.int .i64 t.1, V.int .i64 t.2.1, V.int .i64 t.2.2.1, V.bool t.2.2.2])), .sl (s.map (fun t : Int × Int => V.agg [V.int .i64 t.1, V.int .i64 t.2])), .int .i64 within] [] (.ref 0) [.arr ((falseOf l s within).map (fun t : Int × Int => V.agg [V.int .i64 t.1, V.int .i64 t.2])) .thin] := by
 have hlvl : (s.filter (liveB l)).length ≤ 1048576 := Nat.le_trans (List.length_filter_le ..) hs
 have hzl : (zonesTo l s within 9).length ≤ 1048576 := Nat.le_trans (zonesTo_len l s within 9) (by omega)
 refine v_con [.tmp 6] [(142, [0])] Try.func78 rfl rfl rfl (by simp [Try.ntmps78]) ?_
 intro Q0 n0 r0
 simp only [Try.ntmps78, envFrom, Nat.reduceAdd]
 have T := Tys.mk (And.intro Ty.t3 (And.intro Ty.t4 (And.intro Ty.t26 (And.intro Ty.t29 (And.intro Ty.t31 (And.intro Ty.t57 Ty.t59))))))
 have F := Fc.mk True.intro
 refine v_seq ?_; intro Q1 n1 e1 r1
 refine v_region ?_; intro K2 k2
 refine zBox ⟨?_⟩
 refine zAssign ⟨?_⟩
 refine k2 _ ?_
 refine n1 _ _ (weak_keep [1, 2, 3] _) ?_
 refine zk ⟨?_⟩
 refine v_seq ?_; intro Q3 n3 e3 r3
 refine v_region ?_; intro K4 k4
 refine zLoad ⟨?_⟩
 refine zMove ⟨?_⟩
 refine zMove ⟨?_⟩
 refine zc (alarmZones_con l s within hl hs hpos) ⟨?_⟩
 refine zAlloc ⟨?_⟩
 refine zStore ⟨?_⟩
 refine k4 _ ?_
 apply n3
 ·apply weak_trans (weak_keep [1, 3, 7] _)
  simp only [keep_mk, keepE_nil, keepE_cons, look_cons, look_nil, Nat.reduceEqDiff, reduceIte]
  exact weak_freeze 4 2 ((zonesTo l s within 9).map (V.int .i64)) .flat rfl rfl (.inl rfl) (by decide)
 try simp only [atSlot_cons, atSlot_nil, Nat.reduceEqDiff, reduceIte, List.set_cons_zero, List.set_cons_succ]
 refine v_seq ?_; intro Q5 n5 e5 r5
 refine v_region ?_; intro K6 k6
 refine zLoad ⟨?_⟩
 refine zMove ⟨?_⟩
 refine zc (liveSignals_con l s hl hs) ⟨?_⟩
 refine zMakeFunc ⟨?_⟩
 refine zcl (deleteFuncSignal_con (s.filter (liveB l)) _ _ (fun x => decide (zoneOf l x ∈ zonesTo l s within 9)) hlvl (.pv _ (.pv _ .nil)) (fun x0 x1 hm => falseSignals1_con x0 x1 (zonesTo l s within 9) l hl hzl (List.mem_filter.1 hm).2)) ⟨?_⟩
 refine zAssign ⟨?_⟩
 refine k6 _ ?_
 apply n5
 ·apply weak_trans (weak_keep [6] _)
  simp only [keep_mk, keepE_nil, keepE_cons, look_cons, look_nil, Nat.reduceEqDiff, reduceIte]
  exact weak_narrow 5 (((s.filter (liveB l)).filter (fun x => !decide (zoneOf l x ∈ zonesTo l s within 9))).length) 6 ((((s.filter (liveB l)).filter (fun x => !decide (zoneOf l x ∈ zonesTo l s within 9))).map (fun t : Int × Int => V.agg [V.int .i64 t.1, V.int .i64 t.2]) ++ List.replicate ((s.filter (liveB l)).length - ((s.filter (liveB l)).filter (fun x => !decide (zoneOf l x ∈ zonesTo l s within 9))).length) (V.agg [V.int .i64 0, V.int .i64 0]))) .thin (Nat.zero_le _) rfl (.inr rfl) (by simp [Blk.kindIs]) rfl (by simp [V.only])
 try simp only [atSlot_cons, atSlot_nil, Nat.reduceEqDiff, reduceIte, List.set_cons_zero, List.set_cons_succ]
 refine v_ret ?_
 refine r0 _ ?_
 refine zf ⟨?_⟩
 exact ret_refK (kd := .thin) rfl rfl (by rw [take_map_len]; rfl)
set_option maxHeartbeats 1000000 in
theorem alFalse_con (l : List (Int × Int × Int × Bool)) (s : List (Int × Int)) (within : Int) (hl : l.length ≤ 1048576) (hs : s.length ≤ 1048576) : Con Try.prog 72 [.sl (l.map (fun t : Int × Int × Int × Bool => V.agg [V.int .i64 t.1, V.int .i64 t.2.1, V.int .i64 t.2.2.1, V.bool t.2.2.2])), .sl (s.map (fun t : Int × Int => V.agg [V.int .i64 t.1, V.int .i64 t.2])), .int .i64 within] [] (.ref 0) [.arr ((falseOf l s within).map (fun t : Int × Int => V.agg [V.int .i64 t.1, V.int .i64 t.2])) .flat] := by
 obtain ⟨lv, hlv⟩ : ∃ lv, lv = s.filter (liveB l) := ⟨_, rfl⟩
 have hall : ∀ x ∈ lv, liveB l x = true := by intro x hx; rw [hlv] at hx; exact (List.mem_filter.1 hx).2
 have hlvl : lv.length ≤ 1048576 := by rw [hlv]; exact Nat.le_trans (List.length_filter_le ..) hs
 obtain ⟨zs, hzs⟩ : ∃ zs, zs = zonesTo l s within 9 := ⟨_, rfl⟩
 have hzl : zs.length ≤ 1048576 := by rw [hzs]; exact Nat.le_trans (zonesTo_len l s within 9) (by omega)
 have hF : falseOf l s within = lv.filter (fun x => !decide (zoneOf l x ∈ zs)) := by rw [falseOf, hlv, hzs]
 rw [hF]
 refine v_con [.tmp 6] [] Try.func72 rfl rfl rfl (by simp [Try.ntmps72]) ?_
 intro Q0 n0 r0
 simp only [Try.ntmps72, envFrom, Nat.reduceAdd]
 have T := Tys.mk (And.intro Ty.t3 (And.intro Ty.t4 (And.intro Ty.t26 (And.intro Ty.t29 (And.intro Ty.t31 (And.intro Ty.t57 Ty.t59))))))
 have F := Fc.mk True.intro
 refine v_seq ?_; intro Q1 n1 e1 r1
 refine v_region ?_; intro K2 k2
 refine zAssign ⟨?_⟩
 refine k2 _ ?_
 refine n1 _ _ (weak_keep [0, 1, 2] _) ?_
 refine zk ⟨?_⟩
 refine v_seq ?_; intro Q3 n3 e3 r3
 refine v_region ?_; intro K4 k4
 refine zMove ⟨?_⟩
 refine zMove ⟨?_⟩
 refine zMove ⟨?_⟩
 refine zc ((hzs ▸ alZones_con l s within hl hs : Con _ _ _ _ _ [.arr (zs.map (V.int .i64)) .flat])) ⟨?_⟩
 refine zAssign ⟨?_⟩
 refine k4 _ ?_
 refine n3 _ _ (weak_keep [0, 1, 7] _) ?_
 refine zk ⟨?_⟩
 refine v_seq ?_; intro Q5 n5 e5 r5
 refine v_region ?_; intro K6 k6
 refine zAssign ⟨?_⟩
 refine k6 _ ?_
 refine n5 _ _ (weak_keep [0, 1, 7, 8] _) ?_
 refine zk ⟨?_⟩
 refine v_seq ?_; intro Q7 n7 e7 r7
 refine v_seq ?_; intro Q8 n8 e8 r8
 refine v_region ?_; intro K9 k9
 refine zMove ⟨?_⟩
 refine zMove ⟨?_⟩
 refine zc ((hlv ▸ alLive_con l s hl hs : Con _ _ _ _ _ [.arr (lv.map (fun t : Int × Int => V.agg [V.int .i64 t.1, V.int .i64 t.2])) .flat])) ⟨?_⟩
 refine zLen ⟨?_⟩
 refine zMove ⟨?_⟩
 refine k9 _ ?_
 refine n8 _ _ (weak_keep [0, 7, 8, 17, 18, 19] _) ?_
 refine zk ⟨?_⟩
 refine v_block ?_; intro Q10 n10 x10 e10 r10
 refine v_loop (fun p => ⟨[(0, .sl (l.map (fun t : Int × Int × Int × Bool => V.agg [V.int .i64 t.1, V.int .i64 t.2.1, V.int .i64 t.2.2.1, V.bool t.2.2.2]))), (7, .ref 0), (8, .ref 1), (17, .ref 2), (18, .int .i64 lv.length), (19, .int .i64 (Nat.cast p.1))], [.arr (zs.map (V.int .i64)) .flat, .arr (p.2.map (fun t : Int × Int => V.agg [V.int .i64 t.1, V.int .i64 t.2])) .flat, .arr (lv.map (fun t : Int × Int => V.agg [V.int .i64 t.1, V.int .i64 t.2])) .flat], false, 40, 0⟩) (fun p => p.1 ≤ lv.length ∧ p.2.length ≤ p.1 ∧ p.2 = (lv.take p.1).filter (fun x => !decide (zoneOf l x ∈ zs))) (fun p => lv.length - p.1) ((0, []) : Nat × List (Int × Int)) ?_ ?_ ?_
 ·refine weak_bothS [0, 7, 8, 17, 18, 19] [1, 2, 3] ⟨?_⟩
  rfl
 ·exact ⟨Nat.zero_le _, Nat.le_refl _, rfl⟩
 ·rintro ⟨i, acc⟩ hok11 Q11 n11 e11 r11
  obtain ⟨hi1, hal, hR⟩ := hok11
  simp only [] at hi1 hal hR ⊢
  refine v_seq ?_; intro Q12 n12 e12 r12
  refine v_region ?_; intro K13 k13
  refine zBinOp ⟨?_⟩
  refine k13 _ ?_
  refine n12 _ _ (weak_keep [0, 7, 8, 17, 18, 19, 20] _) ?_
  refine zk ⟨?_⟩
  refine v_seq ?_; intro Q14 n14 e14 r14
  refine v_condS _ rfl ?_ ?_
  ·intro hc0
   have hlt : i < lv.length := by omega
   obtain ⟨⟨x0, x1⟩, hx⟩ : ∃ x : Int × Int, lv[i]? = some x := ⟨lv[i]'(by omega), List.getElem?_eq_getElem (by omega)⟩
   obtain ⟨jd, ⟨d0, d1, d2, d3⟩, hf1, hd, hf2⟩ := live_det (hall _ (List.mem_of_getElem? hx))
   simp only [] at hf1 hf2
   have hidx : (findD x1 0 l).toNat = jd := by rw [hf1]; simp
   have hjl : jd < l.length := (List.getElem?_eq_some_iff.1 hd).1
   have hzo : zoneOf l (x0, x1) = d1 := by simp only [zoneOf, hf2]
   have hst := filter_step (p := fun x => !decide (zoneOf l x ∈ zs)) hx
   refine v_skip ?_
   refine n14 _ _ (weak_keep [0, 7, 8, 17, 18, 19] _) ?_
   refine zk ⟨?_⟩
   refine v_seq ?_; intro Q16 n16 e16 r16
   refine v_block ?_; intro Q17 n17 x17 e17 r17
   refine v_seq ?_; intro Q18 n18 e18 r18
   refine v_region ?_; intro K19 k19
   have F := Fc.mk (And.intro (fun f => getD_map (f := f) hx) (And.intro hidx (fun f => getD_map (f := f) hd)))
   refine zIndexAddr ⟨?_⟩
   refine zLoad ⟨?_⟩
   refine zAlloc ⟨?_⟩
   refine zStore ⟨?_⟩
   refine k19 _ ?_
   refine n18 _ _ (weak_keep [0, 7, 8, 10, 17, 18, 19] _) ?_
   refine zk ⟨?_⟩
   refine v_seq ?_; intro Q20 n20 e20 r20
   refine v_region ?_; intro K21 k21
   refine zMove ⟨?_⟩
   refine zMove ⟨?_⟩
   refine zMove ⟨?_⟩
   refine zFieldAddr ⟨?_⟩
   refine zLoad ⟨?_⟩
   refine zc (alFind_con l x1 hl) ⟨?_⟩
   refine zIndexAddr ⟨?_⟩
   refine zFieldAddr ⟨?_⟩
   refine zLoad ⟨?_⟩
   refine zc (l1Has_con zs d1 hzl) ⟨?_⟩
   refine zUnOp ⟨?_⟩
   refine k21 _ ?_
   refine n20 _ _ (weak_keep [0, 7, 8, 10, 17, 18, 19, 33] _) ?_
   refine zk ⟨?_⟩
   refine v_condS _ rfl ?_ ?_
   ·intro hc1
    refine v_region ?_; intro K23 k23
    refine zMove ⟨?_⟩
    refine zLoad ⟨?_⟩
    refine zBuildSlice ⟨?_⟩
    refine zAppend ⟨?_⟩
    refine zAssign ⟨?_⟩
    refine k23 _ ?_
    refine n17 _ ?_
    refine n16 _ _ (weak_keep [0, 7, 8, 17, 18, 19] _) ?_
    refine zk ⟨?_⟩
    refine v_region ?_; intro K24 k24
    refine zBinOpW ⟨?_⟩
    refine zMove ⟨?_⟩
    refine k24 _ ?_
    refine n11 _ (i + 1, acc ++ [(x0, x1)]) ?_ ?_ ?_
    ·refine weak_bothS [0, 7, 8, 17, 18, 19] [0, 5, 2] ⟨?_⟩
     rw [snoc_sig]; rfl
    ·exact ⟨hlt, by show (acc ++ _).length ≤ i + 1; simp; omega, by show acc ++ _ = _; rw [hst, ← hR, hzo]; simp [hc1]⟩
    ·show _ < _; show lv.length - (i + 1) < lv.length - i; omega
   ·intro hc1
    refine v_skip ?_
    refine n17 _ ?_
    refine n16 _ _ (weak_keep [0, 7, 8, 17, 18, 19] _) ?_
    refine zk ⟨?_⟩
    refine v_region ?_; intro K25 k25
    refine zBinOpW ⟨?_⟩
    refine zMove ⟨?_⟩
    refine k25 _ ?_
    refine n11 _ (i + 1, acc) ?_ ?_ ?_
    ·refine weak_bothS [0, 7, 8, 17, 18, 19] [0, 1, 2] ⟨?_⟩
     rfl
    ·exact ⟨hlt, by show acc.length ≤ i + 1; omega, by show acc = _; rw [hst, ← hR, hzo]; simp [hc1]⟩
    ·show _ < _; show lv.length - (i + 1) < lv.length - i; omega
  ·intro hc0
   refine v_exit ?_
   refine e14 _ _ ?_
   refine e11 _ _ ?_
   refine x10 _ ?_
   refine n7 _ _ (weak_keep [8] _) ?_
   refine zk ⟨?_⟩
   refine v_seq ?_; intro Q26 n26 e26 r26
   refine v_region ?_; intro K27 k27
   refine zMove ⟨?_⟩
   refine zAssign ⟨?_⟩
   refine k27 _ ?_
   refine n26 _ _ (weak_keep [6] _) ?_
   refine zk ⟨?_⟩
   refine v_ret ?_
   refine r0 _ ?_
   refine zf ⟨?_⟩
   have hend : acc = lv.filter (fun x => !decide (zoneOf l x ∈ zs)) := by rw [hR, List.take_of_length_le (by omega)]
   rw [← hend]
   exact ret_ref rfl (.inl rfl)
end Go.Proofs.Ytdgenniiidgimaa
