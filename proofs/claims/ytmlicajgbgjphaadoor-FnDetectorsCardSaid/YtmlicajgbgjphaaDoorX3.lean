/- What functions compute. No condition. -/
import Derived.Test.YtmlicajgbgjphaaDoorUty
import Derived.Test.YtmlicajgbgjphaaDoorUmG
import Derived.Test.YtmlicajgbgjphaaDoorX2
import Derived.Test.YtmlicajgbgjphaaDoorX1
set_option linter.unusedSimpArgs false
set_option linter.unusedVariables false
set_option linter.defProp false
namespace Go.Proofs.YtmlicajgbgjphaaDoor
open Go Go.Vm

theorem findD_first (n : Int) : ∀ (l : List (Int × Int × Int × Bool)) (i : Nat), firstP (fun d => decide (d.1 = n)) i l = findD n i l
  | [], _ => rfl
  | d :: l, i => by
    rw [firstP, findD, findD_first n l (i + 1)]
    by_cases h : d.1 = n <;> simp [h]

set_option maxHeartbeats 1000000 in
theorem detectorAt1_con (x0 : Int) (x1 : Int) (x2 : Int) (x3 : Bool) (n : Int) : Con Tryd.prog 208 [.agg [V.int .i64 x0, V.int .i64 x1, V.int .i64 x2, V.bool x3], .pv [.int .i64 n] 0 0] [] (.bool (decide (x0 = n))) [] := by
 refine v_con [.tmp 3] [] Tryd.func208 rfl rfl rfl (by simp [Tryd.ntmps208]) ?_
 intro Q0 n0 r0
 simp only [Tryd.ntmps208, envFrom, Nat.reduceAdd]
 have T := Tys.mk (And.intro Ty.t3 (And.intro Ty.t4 Ty.t61))
 have F := Fc.mk True.intro
 refine v_seqR [1,2] ?_; intro K1 k1
 refine zBox ⟨?_⟩
 refine zAssign ⟨?_⟩
 refine k1 _ ?_
 refine zk ⟨?_⟩
 refine v_seqR [3] ?_; intro K2 k2
 refine zFieldAddr ⟨?_⟩
 refine zLoad ⟨?_⟩
 refine zLoad ⟨?_⟩
 refine zBinOp ⟨?_⟩
 refine zAssign ⟨?_⟩
 refine k2 _ ?_
 refine zk ⟨?_⟩
 refine v_ret ?_
 refine r0 _ ?_
 refine zf ⟨?_⟩
 exact ret_pure rfl (by first | rfl | simp) (.inl rfl)
set_option maxHeartbeats 1000000 in
theorem detectorAt_con (l : List (Int × Int × Int × Bool)) (n : Int) (hl : l.length ≤ 1048576) : Con Tryd.prog 124 [.sl (l.map (fun t : Int × Int × Int × Bool => V.agg [V.int .i64 t.1, V.int .i64 t.2.1, V.int .i64 t.2.2.1, V.bool t.2.2.2])), .int .i64 n] [] (.int .i64 (findD n 0 l)) [] := by
 refine v_con [.tmp 4] [] Tryd.func124 rfl rfl rfl (by simp [Tryd.ntmps124]) ?_
 intro Q0 n0 r0
 simp only [Tryd.ntmps124, envFrom, Nat.reduceAdd]
 have T := Tys.mk (And.intro Ty.t3 (And.intro Ty.t4 (And.intro Ty.t33 Ty.t61)))
 have F := Fc.mk True.intro
 refine v_seqR [0,3] ?_; intro K1 k1
 refine zBox ⟨?_⟩
 refine zAssign ⟨?_⟩
 refine k1 _ ?_
 refine zk ⟨?_⟩
 refine v_seqR [4] ?_; intro K2 k2
 refine zMove ⟨?_⟩
 refine zMakeFunc ⟨?_⟩
 refine zc (indexFuncDetector_con l _ _ (fun d => decide (d.1 = n)) hl (.pv _ .nil) (fun x0 x1 x2 x3 _ => detectorAt1_con x0 x1 x2 x3 n)) ⟨?_⟩
 refine zAssign ⟨?_⟩
 refine k2 _ ?_
 refine zk ⟨?_⟩
 refine v_ret ?_
 refine r0 _ ?_
 refine zf ⟨?_⟩
 exact ret_pure rfl (by rw [findD_first]) (.inl rfl)
set_option maxHeartbeats 1000000 in
theorem liveSignals1_con (x0 : Int) (x1 : Int) (l : List (Int × Int × Int × Bool)) (hl : l.length ≤ 1048576) : Con Tryd.prog 246 [.agg [V.int .i64 x0, V.int .i64 x1], .pv [.sl (l.map (fun t : Int × Int × Int × Bool => V.agg [V.int .i64 t.1, V.int .i64 t.2.1, V.int .i64 t.2.2.1, V.bool t.2.2.2]))] 0 0] [] (.bool (!liveB l (x0, x1))) [] := by
 refine v_con [.tmp 3] [] Tryd.func246 rfl rfl rfl (by simp [Tryd.ntmps246]) ?_
 intro Q0 n0 r0
 simp only [Tryd.ntmps246, envFrom, Nat.reduceAdd]
 have T := Tys.mk (And.intro Ty.t3 (And.intro Ty.t4 (And.intro Ty.t33 (And.intro Ty.t61 Ty.t65))))
 have F := Fc.mk True.intro
 rcases findD_det x1 l 0 with ⟨hf1, hf2⟩ | ⟨j, ⟨y0, y1, y2, y3⟩, hf1, hy, hf2⟩
 ·skip
  have hneg : decide (findD x1 0 l < (0 : Int)) = true := by rw [hf1]; rfl
  refine v_seqR [1,2] ?_; intro K1 k1
  have F := Fc.mk (And.intro hneg (And.intro @Bool.true_or (And.intro @Bool.not_true @Bool.false_and)))
  refine zBox ⟨?_⟩
  refine zAssign ⟨?_⟩
  refine k1 _ ?_
  refine zk ⟨?_⟩
  refine v_seqR [1,4] ?_; intro K2 k2
  refine zLoad ⟨?_⟩
  refine zFieldAddr ⟨?_⟩
  refine zLoad ⟨?_⟩
  refine zc (detectorAt_con l x1 hl) ⟨?_⟩
  refine zAssign ⟨?_⟩
  refine k2 _ ?_
  refine zk ⟨?_⟩
  refine v_seqR [3] ?_; intro K3 k3
  refine zMove ⟨?_⟩
  refine zBinOp ⟨?_⟩
  refine zMove ⟨?_⟩
  refine zgLoad ⟨?_⟩
  refine zgMove ⟨?_⟩
  refine zgIndexAddr ⟨?_⟩
  refine zgFieldAddr ⟨?_⟩
  refine zgLoad ⟨?_⟩
  refine zPick ⟨?_⟩
  refine zAssign ⟨?_⟩
  refine k3 _ ?_
  refine zk ⟨?_⟩
  refine v_ret ?_
  refine r0 _ ?_
  refine zf ⟨?_⟩
  exact ret_pure rfl (by simp only [liveB, hf2]; simp) (.inl rfl)
 ·skip
  rw [Nat.zero_add] at hf1
  have hneg : decide (findD x1 0 l < (0 : Int)) = false := by rw [hf1]; simp
  have hidx : (findD x1 0 l).toNat = j := by rw [hf1]; simp
  have hjl : j < l.length := (List.getElem?_eq_some_iff.1 hy).1
  refine v_seqR [1,2] ?_; intro K4 k4
  have F := Fc.mk (And.intro hneg (And.intro hidx (fun f => getD_map (f := f) hy)))
  refine zBox ⟨?_⟩
  refine zAssign ⟨?_⟩
  refine k4 _ ?_
  refine zk ⟨?_⟩
  refine v_seqR [1,4] ?_; intro K5 k5
  refine zLoad ⟨?_⟩
  refine zFieldAddr ⟨?_⟩
  refine zLoad ⟨?_⟩
  refine zc (detectorAt_con l x1 hl) ⟨?_⟩
  refine zAssign ⟨?_⟩
  refine k5 _ ?_
  refine zk ⟨?_⟩
  refine v_seqR [3] ?_; intro K6 k6
  refine zMove ⟨?_⟩
  refine zBinOp ⟨?_⟩
  refine zMove ⟨?_⟩
  refine zgLoad ⟨?_⟩
  refine zgMove ⟨?_⟩
  refine zgIndexAddr ⟨?_⟩
  refine zgFieldAddr ⟨?_⟩
  refine zgLoad ⟨?_⟩
  refine zPick ⟨?_⟩
  refine zAssign ⟨?_⟩
  refine k6 _ ?_
  refine zk ⟨?_⟩
  refine v_ret ?_
  refine r0 _ ?_
  refine zf ⟨?_⟩
  exact ret_pure rfl (by simp only [liveB, hf2]; simp) (.inl rfl)
set_option maxHeartbeats 1000000 in
theorem liveSignals_con (l : List (Int × Int × Int × Bool)) (s : List (Int × Int)) (hl : l.length ≤ 1048576) (hs : s.length ≤ 1048576) : Con Tryd.prog 211 [.sl (l.map (fun t : Int × Int × Int × Bool => V.agg [V.int .i64 t.1, V.int .i64 t.2.1, V.int .i64 t.2.2.1, V.bool t.2.2.2])), .sl (s.map (fun t : Int × Int => V.agg [V.int .i64 t.1, V.int .i64 t.2]))] [] (.ref 0) [.arr ((s.filter (liveB l)).map (fun t : Int × Int => V.agg [V.int .i64 t.1, V.int .i64 t.2])) .thin] := by
 refine v_con [.tmp 4] [(210, [0])] Tryd.func211 rfl rfl rfl (by simp [Tryd.ntmps211]) ?_
 intro Q0 n0 r0
 simp only [Tryd.ntmps211, envFrom, Nat.reduceAdd]
 have T := Tys.mk (And.intro Ty.t3 (And.intro Ty.t4 (And.intro Ty.t33 (And.intro Ty.t51 (And.intro Ty.t61 Ty.t65)))))
 have F := Fc.mk True.intro
 refine v_seqR [1,2] ?_; intro K1 k1
 refine zBox ⟨?_⟩
 refine zAssign ⟨?_⟩
 refine k1 _ ?_
 refine zk ⟨?_⟩
 refine v_seq ?_; intro Q2 n2 e2 r2
 refine v_region ?_; intro K3 k3
 refine zMove ⟨?_⟩
 refine zc ((cloneSignal_con s hs).thin) ⟨?_⟩
 refine zMakeFunc ⟨?_⟩
 refine zcl (deleteFuncSignal_con s _ _ (fun x => !liveB l x) hs (.pv _ .nil) (fun x0 x1 _ => liveSignals1_con x0 x1 l hl)) ⟨?_⟩
 refine zAssign ⟨?_⟩
 refine k3 _ ?_
 apply n2
 ·apply weak_trans (weak_keep [4] _)
  simp only [keep_mk, keepE_nil, keepE_cons, look_cons, look_nil, Nat.reduceEqDiff, reduceIte]
  exact weak_narrow 2 ((s.filter fun x => !!liveB l x).length) 4 (((s.filter fun x => !!liveB l x).map (fun t : Int × Int => V.agg [V.int .i64 t.1, V.int .i64 t.2]) ++ List.replicate (s.length - (s.filter fun x => !!liveB l x).length) (V.agg [V.int .i64 0, V.int .i64 0]))) .thin (Nat.zero_le _) rfl (.inr rfl) (by simp [Blk.kindIs]) rfl (by simp [V.only])
 try simp only [atSlot_cons, atSlot_nil, Nat.reduceEqDiff, reduceIte, List.set_cons_zero, List.set_cons_succ]
 refine v_ret ?_
 refine r0 _ ?_
 refine zf ⟨?_⟩
 exact ret_refK (kd := .thin) rfl rfl (by simp [List.take_append_of_le_length])
def handB (l : List (Int × Int × Int × Bool)) (s : (Int × Int)) : Bool := match detOf l s.2 with | some d => decide (d.2.2.1 = 2) | none => false
def confZ (within : Int) (s t : (Int × Int)) : Bool := !decide (t.2 = s.2) && decide (IntKind.i64.wrap (s.1 - t.1) ≤ within)
def hitZ (l : List (Int × Int × Int × Bool)) (within : Int) (pre : List (Int × Int)) (s : (Int × Int)) : Bool := handB l s || pre.any (confZ within s)
def inZ (l : List (Int × Int × Int × Bool)) (zone : Int) (s : (Int × Int)) : Bool := decide (zoneOf l s = zone)
def aP (l : List (Int × Int × Int × Bool)) (zone within : Int) : List (Int × Int) → List (Int × Int) → Int
  | _, [] => -1
  | pre, s :: r => if hitB l zone within pre s = true then s.1 else aP l zone within (pre ++ [s]) r
def zP (l : List (Int × Int × Int × Bool)) (within : Int) : List (Int × Int) → List (Int × Int) → Int
  | _, [] => -1
  | pre, s :: r => if hitZ l within pre s = true then s.1 else zP l within (pre ++ [s]) r
theorem zP_step {l : List (Int × Int × Int × Bool)} {within : Int} {z : List (Int × Int)} {i : Nat} {x : (Int × Int)} (h : z[i]? = some x) : zP l within (z.take i) (z.drop i) = if hitZ l within (z.take i) x = true then x.1 else zP l within (z.take (i + 1)) (z.drop (i + 1)) := by
  rw [getElem_drop_cons h, zP, List.take_add_one, h]; rfl
theorem zP_end {l : List (Int × Int × Int × Bool)} {within : Int} {z : List (Int × Int)} {i : Nat} (h : z.length ≤ i) : zP l within (z.take i) (z.drop i) = -1 := by
  rw [List.drop_of_length_le h, zP]
theorem zP_hit {l : List (Int × Int × Int × Bool)} {within : Int} {z : List (Int × Int)} {i : Nat} {x : (Int × Int)} (h : z[i]? = some x) (hh : hitZ l within (z.take i) x = true) : zP l within (z.take i) (z.drop i) = x.1 := by rw [zP_step h, if_pos hh]
theorem alarmFrom_aP (l : List (Int × Int × Int × Bool)) (zone within : Int) (lv : List (Int × Int)) : ∀ (n k : Nat), n = lv.length - k → alarmFrom l zone within lv k (lv.drop k) = aP l zone within (lv.take k) (lv.drop k) := by
  intro n
  induction n with
  | zero => intro k h; rw [alarm_end (by omega), List.drop_of_length_le (by omega), aP]
  | succ n ih =>
    intro k h
    obtain ⟨x, hx⟩ : ∃ x, lv[k]? = some x := ⟨lv[k]'(by omega), List.getElem?_eq_getElem (by omega)⟩
    rw [alarm_step hx, getElem_drop_cons hx, aP, ih (k + 1) (by omega), List.take_add_one, hx]
    rfl
theorem aP_zP (l : List (Int × Int × Int × Bool)) (zone within : Int) : ∀ (r pre : List (Int × Int)), (∀ x ∈ r, liveB l x = true) → aP l zone within pre r = zP l within (pre.filter (inZ l zone)) (r.filter (inZ l zone))
  | [], pre, _ => by rw [aP, List.filter_nil, zP]
  | s :: r, pre, h => by
    have ih := aP_zP l zone within r (pre ++ [s]) fun x hx => h x (List.mem_cons_of_mem _ hx)
    obtain ⟨j, d, _, _, hd⟩ := live_det (h s (List.mem_cons_self ..))
    have hz : zoneOf l s = d.2.1 := by simp only [zoneOf, hd]
    rw [aP, List.filter_cons]
    by_cases q : d.2.1 = zone
    · have hin : inZ l zone s = true := by simp [inZ, hz, q]
      have hh : hitB l zone within pre s = hitZ l within (pre.filter (inZ l zone)) s := by
        simp only [hitB, hitZ, handB, hd, q, decide_true, Bool.true_and, List.any_filter]
        congr 2
        funext t
        simp only [confB, confZ, inZ]
        cases decide (t.2 = s.2) <;> simp
      rw [if_pos hin, zP, hh, ih, List.filter_append, List.filter_cons, if_pos hin, List.filter_nil]
    · have hin : ¬ inZ l zone s = true := by simp [inZ, hz, q]
      have hh : ¬ hitB l zone within pre s = true := by simp [hitB, hd, q]
      rw [if_neg hin, if_neg hh, ih, List.filter_append, List.filter_cons, if_neg hin, List.filter_nil, List.append_nil]
def zlOf (l : List (Int × Int × Int × Bool)) (s : List (Int × Int)) (zone : Int) : List (Int × Int) := (s.filter (liveB l)).filter (inZ l zone)
theorem alarm_zP (l : List (Int × Int × Int × Bool)) (s : List (Int × Int)) (zone within : Int) : alarmOf l s zone within = zP l within [] (zlOf l s zone) := by
  have h1 := alarmFrom_aP l zone within (s.filter (liveB l)) _ 0 rfl
  have h2 := aP_zP l zone within (s.filter (liveB l)) [] fun x hx => (List.mem_filter.1 hx).2
  rw [List.drop_zero, List.take_zero] at h1
  exact h1.trans h2
theorem zP_cases (l : List (Int × Int × Int × Bool)) (within : Int) : ∀ (r pre : List (Int × Int)), zP l within pre r = -1 ∨ ∃ x ∈ r, zP l within pre r = x.1
  | [], pre => .inl rfl
  | s :: r, pre => by
    rw [zP]
    by_cases h : hitZ l within pre s = true
    · rw [if_pos h]; exact .inr ⟨s, List.mem_cons_self .., rfl⟩
    · rw [if_neg h]
      rcases zP_cases l within r (pre ++ [s]) with q | ⟨x, hx, q⟩
      · exact .inl q
      · exact .inr ⟨x, List.mem_cons_of_mem _ hx, q⟩

set_option maxHeartbeats 1000000 in
theorem zoneAlarm1_con (x0 : Int) (x1 : Int) (l : List (Int × Int × Int × Bool)) (zone : Int) (hl : l.length ≤ 1048576) (hlv : liveB l (x0, x1) = true) : Con Tryd.prog 270 [.agg [V.int .i64 x0, V.int .i64 x1], .pv [.sl (l.map (fun t : Int × Int × Int × Bool => V.agg [V.int .i64 t.1, V.int .i64 t.2.1, V.int .i64 t.2.2.1, V.bool t.2.2.2]))] 0 0, .pv [.int .i64 zone] 0 0] [] (.bool (!inZ l zone (x0, x1))) [] := by
 obtain ⟨jd, ⟨d0, d1, d2, d3⟩, hf1, hd, hf2⟩ := live_det hlv
 simp only [] at hf1 hf2
 have hidx : (findD x1 0 l).toNat = jd := by rw [hf1]; simp
 have hjl : jd < l.length := (List.getElem?_eq_some_iff.1 hd).1
 refine v_con [.tmp 4] [] Tryd.func270 rfl rfl rfl (by simp [Tryd.ntmps270]) ?_
 intro Q0 n0 r0
 simp only [Tryd.ntmps270, envFrom, Nat.reduceAdd]
 have T := Tys.mk (And.intro Ty.t3 (And.intro Ty.t4 (And.intro Ty.t33 (And.intro Ty.t61 Ty.t65))))
 have F := Fc.mk True.intro
 refine v_seqR [1,2,3] ?_; intro K1 k1
 have F := Fc.mk (And.intro hidx (fun f => getD_map (f := f) hd))
 refine zBox ⟨?_⟩
 refine zAssign ⟨?_⟩
 refine k1 _ ?_
 refine zk ⟨?_⟩
 refine v_seq ?_; intro Q2 n2 e2 r2
 refine v_draw (by kernel_rfl) ?_; intro K3 q3 k3
 show aAny _ _ _ _ 11 (Array.replicate 11 false) _
 refine zdLoad q3 true 0 5 ?_
 refine zdLoad q3 true 1 6 ?_
 refine zdFieldAddr q3 true 2 7 ?_
 refine zdLoad q3 true 3 8 ?_
 refine zdLoad q3 true 8 13 ?_
 refine zoc 4 (detectorAt_con l x1 hl) ⟨?_⟩
 refine zdIndexAddr q3 true 5 10 ?_
 refine zdFieldAddr q3 true 6 11 ?_
 refine zdLoad q3 true 7 12 ?_
 refine zdBinOp q3 true 9 14 ?_
 refine zoAssign 10 ⟨?_⟩
 refine aAny_done (by kernel_rfl) ?_
 refine k3 _ ?_
 refine n2 _ _ (weak_keep [4] _) ?_
 refine zk ⟨?_⟩
 refine v_ret ?_
 refine r0 _ ?_
 refine zf ⟨?_⟩
 exact ret_pure rfl (by simp only [inZ, zoneOf, hf2]) (.inl rfl)
set_option maxHeartbeats 1000000 in
theorem zoneAlarm2_con (y0 : Int) (y1 : Int) (x0 : Int) (x1 : Int) (within : Int) : Con Tryd.prog 271 [.agg [V.int .i64 y0, V.int .i64 y1], .pv [.agg [V.int .i64 x0, V.int .i64 x1]] 0 0, .pv [.int .i64 within] 0 0] [] (.bool (confZ within (x0, x1) (y0, y1))) [] := by
 refine v_con [.tmp 4] [] Tryd.func271 rfl rfl rfl (by simp [Tryd.ntmps271]) ?_
 intro Q0 n0 r0
 simp only [Tryd.ntmps271, envFrom, Nat.reduceAdd]
 have T := Tys.mk (And.intro Ty.t3 Ty.t65)
 have F := Fc.mk True.intro
 refine v_seqR [1,2,3] ?_; intro K1 k1
 refine zBox ⟨?_⟩
 refine zAssign ⟨?_⟩
 refine k1 _ ?_
 refine zk ⟨?_⟩
 refine v_seqR [4] ?_; intro K2 k2
 refine zFieldAddr ⟨?_⟩
 refine zLoad ⟨?_⟩
 refine zFieldAddr ⟨?_⟩
 refine zLoad ⟨?_⟩
 refine zBinOp ⟨?_⟩
 refine zMove ⟨?_⟩
 refine zgFieldAddr ⟨?_⟩
 refine zgLoad ⟨?_⟩
 refine zgFieldAddr ⟨?_⟩
 refine zgLoad ⟨?_⟩
 refine zgBinOpW ⟨?_⟩
 refine zgLoad ⟨?_⟩
 refine zgBinOp ⟨?_⟩
 refine zPick ⟨?_⟩
 refine zAssign ⟨?_⟩
 refine k2 _ ?_
 refine zk ⟨?_⟩
 refine v_ret ?_
 refine r0 _ ?_
 refine zf ⟨?_⟩
 exact ret_pure rfl (by simp only [confZ]; cases decide (y1 = x1) <;> simp) (.inl rfl)
set_option maxHeartbeats 1000000 in
theorem zoneAlarm_con (l : List (Int × Int × Int × Bool)) (s : List (Int × Int)) (zone within : Int) (hl : l.length ≤ 1048576) (hs : s.length ≤ 1048576) (hpos : ∀ x ∈ s, 0 ≤ x.1) : Con Tryd.prog 243 [.sl (l.map (fun t : Int × Int × Int × Bool => V.agg [V.int .i64 t.1, V.int .i64 t.2.1, V.int .i64 t.2.2.1, V.bool t.2.2.2])), .sl (s.map (fun t : Int × Int => V.agg [V.int .i64 t.1, V.int .i64 t.2])), .int .i64 zone, .int .i64 within] [] (.tup [.int .i64 (if 0 ≤ alarmOf l s zone within then alarmOf l s zone within else 0), .bool (decide (0 ≤ alarmOf l s zone within))]) [] := by
 have hlvl : (s.filter (liveB l)).length ≤ 1048576 := Nat.le_trans (List.length_filter_le ..) hs
 obtain ⟨zl, hzl⟩ : ∃ zl, zl = zlOf l s zone := ⟨_, rfl⟩
 have hzf : List.filter (fun x => !!inZ l zone x) (List.filter (liveB l) s) = zl := by simp [hzl, zlOf]
 have hA : zP l within [] zl = alarmOf l s zone within := by rw [hzl, alarm_zP]
 have hzll : zl.length ≤ 1048576 := by rw [hzl]; exact Nat.le_trans (List.length_filter_le ..) hlvl
 have hall : ∀ x ∈ zl, liveB l x = true ∧ 0 ≤ x.1 := by intro x hx; rw [hzl, zlOf] at hx; have q := List.mem_filter.1 (List.mem_filter.1 hx).1; exact ⟨q.2, hpos x q.1⟩
 refine v_con [.tmp 8, .tmp 9] [(210, [0])] Tryd.func243 rfl rfl rfl (by simp [Tryd.ntmps243]) ?_
 intro Q0 n0 r0
 simp only [Tryd.ntmps243, envFrom, Nat.reduceAdd]
 have T := Tys.mk (And.intro Ty.t3 (And.intro Ty.t4 (And.intro Ty.t33 (And.intro Ty.t51 (And.intro Ty.t61 Ty.t65)))))
 have F := Fc.mk True.intro
 refine v_seqR [1,4,6,7] ?_; intro K1 k1
 refine zBox ⟨?_⟩
 refine zBox ⟨?_⟩
 refine zBox ⟨?_⟩
 refine zAssign ⟨?_⟩
 refine zAssign ⟨?_⟩
 refine k1 _ ?_
 refine zk ⟨?_⟩
 refine v_seq ?_; intro Q2 n2 e2 r2
 refine v_region ?_; intro K3 k3
 refine zLoad ⟨?_⟩
 refine zMove ⟨?_⟩
 refine zc (liveSignals_con l s hl hs) ⟨?_⟩
 refine zMakeFunc ⟨?_⟩
 refine zcl (deleteFuncSignal_con (s.filter (liveB l)) _ _ (fun x => !inZ l zone x) hlvl (.pv _ (.pv _ .nil)) (fun x0 x1 hm => zoneAlarm1_con x0 x1 l zone hl (List.mem_filter.1 hm).2)) ⟨?_⟩
 refine zAssign ⟨?_⟩
 refine k3 _ ?_
 apply n2
 ·apply weak_trans (weak_keep [4, 7, 10] _)
  simp only [keep_mk, keepE_nil, keepE_cons, look_cons, look_nil, Nat.reduceEqDiff, reduceIte]
  exact weak_narrow 3 (((s.filter (liveB l)).filter fun x => !!inZ l zone x).length) 10 ((((s.filter (liveB l)).filter fun x => !!inZ l zone x).map (fun t : Int × Int => V.agg [V.int .i64 t.1, V.int .i64 t.2]) ++ List.replicate ((s.filter (liveB l)).length - ((s.filter (liveB l)).filter fun x => !!inZ l zone x).length) (V.agg [V.int .i64 0, V.int .i64 0]))) .thin (Nat.zero_le _) rfl (.inr rfl) (by simp [Blk.kindIs]) rfl (by simp [V.only])
 try simp only [atSlot_cons, atSlot_nil, Nat.reduceEqDiff, reduceIte, List.set_cons_zero, List.set_cons_succ, hzf, take_map_len]
 refine v_seq ?_; intro Q4 n4 e4 r4
 refine v_seqR [4,7,10,19,20,21] ?_; intro K5 k5
 refine zMove ⟨?_⟩
 refine zLen ⟨?_⟩
 refine zMove ⟨?_⟩
 refine k5 _ ?_
 refine zk ⟨?_⟩
 refine v_block ?_; intro Q6 n6 x6 e6 r6
 refine v_loop (fun i => ⟨[(4, .ptr 0 0 0), (7, .ptr 1 0 0), (10, .ref 2), (19, .ref 2), (20, .int .i64 zl.length), (21, .int .i64 (Nat.cast i))], [.box (.sl (l.map (fun t : Int × Int × Int × Bool => V.agg [V.int .i64 t.1, V.int .i64 t.2.1, V.int .i64 t.2.2.1, V.bool t.2.2.2]))) .shal, .box (.int .i64 within) .flat, .arr (zl.map (fun t : Int × Int => V.agg [V.int .i64 t.1, V.int .i64 t.2])) .thin], false, 46, 0⟩) (fun i => i ≤ zl.length ∧ zP l within (zl.take i) (zl.drop i) = alarmOf l s zone within) (fun i => zl.length - i) 0 ?_ ?_ ?_
 ·refine weak_bothS [4, 7, 10, 19, 20, 21] [0, 2, 3] ⟨?_⟩
  rfl
 ·exact ⟨Nat.zero_le _, hA⟩
 ·rintro i hok7 Q7 n7 e7 r7
  obtain ⟨hi1, hR⟩ := hok7
  refine v_seqR [4,7,10,19,20,21,22] ?_; intro K8 k8
  refine zBinOp ⟨?_⟩
  refine k8 _ ?_
  refine zk ⟨?_⟩
  refine v_seq ?_; intro Q9 n9 e9 r9
  refine v_condS _ rfl ?_ ?_
  ·intro hc0
   have hlt : i < zl.length := by omega
   obtain ⟨⟨x0, x1⟩, hx⟩ : ∃ x : Int × Int, zl[i]? = some x := ⟨zl[i]'(by omega), List.getElem?_eq_getElem (by omega)⟩
   have hlv := (hall _ (List.mem_of_getElem? hx)).1
   have hx0 := (hall _ (List.mem_of_getElem? hx)).2
   simp only [] at hx0
   obtain ⟨jd, ⟨d0, d1, d2, d3⟩, hf1, hd, hf2⟩ := live_det hlv
   simp only [] at hf1 hf2
   have hidx : (findD x1 0 l).toNat = jd := by rw [hf1]; simp
   have hjl : jd < l.length := (List.getElem?_eq_some_iff.1 hd).1
   have hst := zP_step (l := l) (within := within) hx
   have hzt : (zl.take i).length ≤ 1048576 := Nat.le_trans (by rw [List.length_take]; omega) hzll
   have hhit : hitZ l within (zl.take i) (x0, x1) = (decide (d2 = 2) || (zl.take i).any (confZ within (x0, x1))) := by simp only [hitZ, handB, hf2]
   refine v_skip ?_
   refine n9 _ _ (weak_keep [4, 7, 10, 19, 20, 21] _) ?_
   refine zk ⟨?_⟩
   refine v_seq ?_; intro Q11 n11 e11 r11
   refine v_block ?_; intro Q12 n12 x12 e12 r12
   refine v_seqR [4,7,10,11,12,19,20,21] ?_; intro K13 k13
   have F := Fc.mk (And.intro (fun f => getD_map (f := f) hx) (And.intro hidx (fun f => getD_map (f := f) hd)))
   refine zMove ⟨?_⟩
   refine zIndexAddr ⟨?_⟩
   refine zLoad ⟨?_⟩
   refine zAlloc ⟨?_⟩
   refine zAssign ⟨?_⟩
   refine zStore ⟨?_⟩
   refine k13 _ ?_
   refine zk ⟨?_⟩
   refine v_seqR [4,7,10,11,12,13,19,20,21] ?_; intro K14 k14
   refine zMakeFunc ⟨?_⟩
   refine zAssign ⟨?_⟩
   refine k14 _ ?_
   refine zk ⟨?_⟩
   refine v_seq ?_; intro Q15 n15 e15 r15
   refine v_draw (by kernel_rfl) ?_; intro K16 q16 k16
   show aAny _ _ _ _ 16 (Array.replicate 16 false) _
   refine zdLoad q16 true 0 27 ?_
   refine zdLoad q16 true 1 28 ?_
   refine zdFieldAddr q16 true 2 29 ?_
   refine zdLoad q16 true 3 30 ?_
   refine zoc 4 (detectorAt_con l x1 hl) ⟨?_⟩
   refine zdIndexAddr q16 true 5 32 ?_
   refine zdFieldAddr q16 true 6 33 ?_
   refine zdLoad q16 true 7 34 ?_
   refine zdBinOp q16 true 8 35 ?_
   refine zdMove q16 true 9 36 ?_
   refine zdgMove q16 true 10 37 ?_
   refine zdgMove q16 true 11 38 ?_
   refine zdgSlice q16 true 12 39 ?_
   refine zdgMove q16 true 13 40 ?_
   first
   |refine zogc 14 (containsFuncSignal_con (zl.take i) _ _ (confZ within (x0, x1)) hzt (.pv _ (.pv _ .nil)) (fun y0 y1 _ => zoneAlarm2_con y0 y1 x0 x1 within)) ⟨?_⟩
   |(refine aAny_pass 14 41 9 false rfl rfl (show 41 < 46 by decide) (by kernel_rfl) rfl ?_ ?_; (focus first | rfl | (simp only [zV, guardV, Nat.reduceEqDiff, reduceIte]; done)); simp only [zW, set_some, Nat.reduceEqDiff, reduceIte])
   refine zdPick q16 true 15 42 ?_
   refine aAny_done (by kernel_rfl) ?_
   refine k16 _ ?_
   refine n15 _ _ (weak_keep [4, 7, 10, 12, 19, 20, 21, 42] _) ?_
   refine zk ⟨?_⟩
   refine v_condS _ rfl ?_ ?_
   ·intro hc1
    refine v_seqR [8,9] ?_; intro K18 k18
    refine zFieldAddr ⟨?_⟩
    refine zLoad ⟨?_⟩
    refine zAssign ⟨?_⟩
    refine zAssign ⟨?_⟩
    refine k18 _ ?_
    refine zk ⟨?_⟩
    refine v_ret ?_
    refine r12 _ ?_
    refine r11 _ ?_
    refine r7 _ ?_
    refine r6 _ ?_
    refine r4 _ ?_
    refine r0 _ ?_
    refine zf ⟨?_⟩
    have hval : alarmOf l s zone within = x0 := by rw [← hR, hst, if_pos (by rw [hhit]; simpa using hc1)]
    exact ret_pure rfl (by rw [hval, if_pos hx0, decide_eq_true hx0]) (.inl rfl)
   ·intro hc1
    refine v_skip ?_
    refine n12 _ ?_
    refine n11 _ _ (weak_keep [4, 7, 10, 19, 20, 21] _) ?_
    refine zk ⟨?_⟩
    refine v_region ?_; intro K19 k19
    refine zBinOpW ⟨?_⟩
    refine zMove ⟨?_⟩
    refine k19 _ ?_
    refine n7 _ (i + 1) ?_ ?_ ?_
    ·refine weak_bothS [4, 7, 10, 19, 20, 21] [0, 1, 2] ⟨?_⟩
     rfl
    ·exact ⟨by omega, by rw [← hR, hst, if_neg (by rw [hhit]; simpa using hc1)]⟩
    ·show _ < _; omega
  ·intro hc0
   refine v_exit ?_
   refine e9 _ _ ?_
   refine e7 _ _ ?_
   refine x6 _ ?_
   refine n4 _ _ (weak_keep [] _) ?_
   refine zk ⟨?_⟩
   refine v_seqR [8,9] ?_; intro K20 k20
   refine zAssign ⟨?_⟩
   refine zAssign ⟨?_⟩
   refine k20 _ ?_
   refine zk ⟨?_⟩
   refine v_ret ?_
   refine r0 _ ?_
   refine zf ⟨?_⟩
   have hval : alarmOf l s zone within = -1 := by rw [← hR, zP_end (by omega)]
   exact ret_pure rfl (by rw [hval]; simp) (.inl rfl)
theorem ssB_pos {s : List (Int × Int)} (h : ssB s = true) : ∀ x ∈ s, 0 ≤ x.1 := by
  intro x hx
  rw [ssB, Bool.and_eq_true] at h
  have := chain_ok h.1 x hx
  simp [sOne] at this
  omega
def firstF (l : List (Int × Int × Int × Bool)) (s : List (Int × Int)) (within : Int) (p : Int × Int) (z : Int) : Int × Int := if p.1 = 0 ∨ alarmOf l s z within < p.2 then (z, alarmOf l s z within) else p
theorem foldl_step {α β : Type} {f : β → α → β} {b : β} {l : List α} {i : Nat} {x : α} (h : l[i]? = some x) : (l.take (i + 1)).foldl f b = f ((l.take i).foldl f b) x := by
  rw [List.take_add_one, h, List.foldl_append]; rfl
theorem firstTo_fold (l : List (Int × Int × Int × Bool)) (s : List (Int × Int)) (within : Int) : ∀ n : Nat, firstTo l s within n = (zonesTo l s within n).foldl (firstF l s within) (0, 0)
  | 0 => rfl
  | n + 1 => by
    rw [firstTo, zonesTo, List.foldl_append, ← firstTo_fold l s within n]
    by_cases h : 0 ≤ alarmOf l s ((n : Int) + 1) within
    · rw [if_pos h]
      simp only [h, true_and, List.foldl_cons, List.foldl_nil, firstF]
    · rw [if_neg h, if_neg (fun q => h q.1)]; rfl
theorem zonesTo_len (l : List (Int × Int × Int × Bool)) (s : List (Int × Int)) (within : Int) : ∀ n : Nat, (zonesTo l s within n).length ≤ n
  | 0 => Nat.le_refl _
  | n + 1 => by
    have := zonesTo_len l s within n
    rw [zonesTo, List.length_append]
    split <;> simp <;> omega
theorem zonesTo_pos (l : List (Int × Int × Int × Bool)) (s : List (Int × Int)) (within : Int) : ∀ (n : Nat) (z : Int), z ∈ zonesTo l s within n → 0 ≤ alarmOf l s z within
  | 0, z, h => by cases h
  | n + 1, z, h => by
    rw [zonesTo, List.mem_append] at h
    rcases h with h | h
    · exact zonesTo_pos l s within n z h
    · split at h
      · rw [List.mem_singleton] at h; subst h; assumption
      · cases h

set_option maxHeartbeats 1000000 in
theorem alarmZones_con (l : List (Int × Int × Int × Bool)) (s : List (Int × Int)) (within : Int) (hl : l.length ≤ 1048576) (hs : s.length ≤ 1048576) (hpos : ∀ x ∈ s, 0 ≤ x.1) : Con Tryd.prog 209 [.sl (l.map (fun t : Int × Int × Int × Bool => V.agg [V.int .i64 t.1, V.int .i64 t.2.1, V.int .i64 t.2.2.1, V.bool t.2.2.2])), .sl (s.map (fun t : Int × Int => V.agg [V.int .i64 t.1, V.int .i64 t.2])), .int .i64 within] [] (.ref 0) [.arr ((zonesTo l s within 9).map (V.int .i64)) .flat] := by
 refine v_con [.tmp 6] [] Tryd.func209 rfl rfl rfl (by simp [Tryd.ntmps209]) ?_
 intro Q0 n0 r0
 simp only [Tryd.ntmps209, envFrom, Nat.reduceAdd]
 have T := Tys.mk (And.intro Ty.t3 (And.intro Ty.t4 (And.intro Ty.t33 (And.intro Ty.t48 (And.intro Ty.t51 (And.intro Ty.t61 Ty.t65))))))
 have F := Fc.mk True.intro
 refine v_seqR [0,1,2] ?_; intro K1 k1
 refine zAssign ⟨?_⟩
 refine k1 _ ?_
 refine zk ⟨?_⟩
 refine v_seqR [0,1,2,7] ?_; intro K2 k2
 refine zAssign ⟨?_⟩
 refine k2 _ ?_
 refine zk ⟨?_⟩
 refine v_seq ?_; intro Q3 n3 e3 r3
 refine v_seqR [0,1,2,7,8] ?_; intro K4 k4
 refine zAssign ⟨?_⟩
 refine k4 _ ?_
 refine zk ⟨?_⟩
 refine v_block ?_; intro Q5 n5 x5 e5 r5
 refine v_loop (fun p => ⟨[(0, .sl (l.map (fun t : Int × Int × Int × Bool => V.agg [V.int .i64 t.1, V.int .i64 t.2.1, V.int .i64 t.2.2.1, V.bool t.2.2.2]))), (1, .sl (s.map (fun t : Int × Int => V.agg [V.int .i64 t.1, V.int .i64 t.2]))), (2, .int .i64 within), (7, .ref 0), (8, .int .i64 ((p.1 : Int) + 1))], [.arr (p.2.map (V.int .i64)) .flat], false, 29, 0⟩) (fun p => p.1 ≤ 9 ∧ p.2.length ≤ p.1 ∧ p.2 = zonesTo l s within p.1) (fun p => 9 - p.1) ((0, []) : Nat × List Int) ?_ ?_ ?_
 ·refine weak_bothS [0, 1, 2, 7, 8] [1] ⟨?_⟩
  rfl
 ·exact ⟨Nat.zero_le _, Nat.le_refl _, rfl⟩
 ·rintro ⟨i, acc⟩ hok6 Q6 n6 e6 r6
  obtain ⟨hi1, hal, hR⟩ := hok6
  simp only [] at hi1 hal hR ⊢
  refine v_seq ?_; intro Q7 n7 e7 r7
  refine v_seqR [0,1,2,7,8,12] ?_; intro K8 k8
  refine zMove ⟨?_⟩
  refine zBinOp ⟨?_⟩
  refine k8 _ ?_
  refine zk ⟨?_⟩
  refine v_condS _ rfl ?_ ?_
  ·intro hc0
   have hlt : i < 9 := by omega
   refine v_skip ?_
   refine n7 _ _ (weak_keep [0, 1, 2, 7, 8] _) ?_
   refine zk ⟨?_⟩
   refine v_seq ?_; intro Q10 n10 e10 r10
   refine v_block ?_; intro Q11 n11 x11 e11 r11
   refine v_seqR [0,1,2,7,8,10] ?_; intro K12 k12
   refine zMove ⟨?_⟩
   refine zMove ⟨?_⟩
   refine zMove ⟨?_⟩
   refine zMove ⟨?_⟩
   refine zc (zoneAlarm_con l s ((i : Int) + 1) within hl hs hpos) ⟨?_⟩
   refine zMove ⟨?_⟩
   refine zExtract ⟨?_⟩
   refine zExtract ⟨?_⟩
   refine zAssign ⟨?_⟩
   refine zAssign ⟨?_⟩
   refine k12 _ ?_
   refine zk ⟨?_⟩
   refine v_seqR [0,1,2,7,8,23] ?_; intro K13 k13
   refine zMove ⟨?_⟩
   refine k13 _ ?_
   refine zk ⟨?_⟩
   refine v_condS _ rfl ?_ ?_
   ·intro hc1
    refine v_region ?_; intro K15 k15
    refine zMove ⟨?_⟩
    refine zMove ⟨?_⟩
    refine zBuildSlice ⟨?_⟩
    refine zAppend ⟨?_⟩
    refine zAssign ⟨?_⟩
    refine k15 _ ?_
    refine n11 _ ?_
    refine n10 _ _ (weak_keep [0, 1, 2, 7, 8] _) ?_
    refine zk ⟨?_⟩
    refine v_region ?_; intro K16 k16
    refine zMove ⟨?_⟩
    refine zBinOpW ⟨?_⟩
    refine zAssign ⟨?_⟩
    refine k16 _ ?_
    refine n6 _ (i + 1, acc ++ [(i : Int) + 1]) ?_ ?_ ?_
    ·refine weak_bothS [0, 1, 2, 7, 8] [2] ⟨?_⟩
     rw [snoc_zone]; rfl
    ·exact ⟨hlt, by show (acc ++ _).length ≤ i + 1; simp; omega, by show acc ++ _ = zonesTo l s within (i + 1); rw [zonesTo, ← hR, if_pos (show 0 ≤ alarmOf l s ((i : Int) + 1) within from hc1)]⟩
    ·show _ < _; show 9 - (i + 1) < 9 - i; omega
   ·intro hc1
    refine v_skip ?_
    refine n11 _ ?_
    refine n10 _ _ (weak_keep [0, 1, 2, 7, 8] _) ?_
    refine zk ⟨?_⟩
    refine v_region ?_; intro K17 k17
    refine zMove ⟨?_⟩
    refine zBinOpW ⟨?_⟩
    refine zAssign ⟨?_⟩
    refine k17 _ ?_
    refine n6 _ (i + 1, acc) ?_ ?_ ?_
    ·refine weak_bothS [0, 1, 2, 7, 8] [0] ⟨?_⟩
     rfl
    ·exact ⟨hlt, by show acc.length ≤ i + 1; omega, by show acc = zonesTo l s within (i + 1); rw [zonesTo, ← hR, if_neg (show ¬ 0 ≤ alarmOf l s ((i : Int) + 1) within from Int.not_le.2 hc1), List.append_nil]⟩
    ·show _ < _; show 9 - (i + 1) < 9 - i; omega
  ·intro hc0
   refine v_exit ?_
   refine e7 _ _ ?_
   refine e6 _ _ ?_
   refine x5 _ ?_
   refine n3 _ _ (weak_keep [7] _) ?_
   refine zk ⟨?_⟩
   refine v_seqR [6] ?_; intro K18 k18
   refine zMove ⟨?_⟩
   refine zAssign ⟨?_⟩
   refine k18 _ ?_
   refine zk ⟨?_⟩
   refine v_ret ?_
   refine r0 _ ?_
   refine zf ⟨?_⟩
   have hend : i = 9 := by omega
   subst hend
   rw [← hR]
   exact ret_ref rfl (.inl rfl)
def falseOf (l : List (Int × Int × Int × Bool)) (s : List (Int × Int)) (within : Int) : List (Int × Int) := (s.filter (liveB l)).filter fun x => !decide (zoneOf l x ∈ zonesTo l s within 9)
def falseR (l : List (Int × Int × Int × Bool)) (s : List (Int × Int)) (within : Int) : List (Int × Int) := if askB l s within = true then falseOf l s within else []
theorem falseOf_len (l : List (Int × Int × Int × Bool)) (s : List (Int × Int)) (within : Int) : (falseOf l s within).length ≤ s.length := Nat.le_trans (List.length_filter_le ..) (List.length_filter_le ..)
theorem falseR_len (l : List (Int × Int × Int × Bool)) (s : List (Int × Int)) (within : Int) : (falseR l s within).length ≤ s.length := by
  rw [falseR]
  split
  · exact falseOf_len l s within
  · exact Nat.zero_le _
theorem filter_step {α : Type} {p : α → Bool} {l : List α} {i : Nat} {x : α} (h : l[i]? = some x) : (l.take (i + 1)).filter p = (l.take i).filter p ++ (if p x = true then [x] else []) := by
  rw [List.take_add_one, h, Option.toList_some, List.filter_append]
  congr 1
  by_cases q : p x = true
  · simp [q]
  · simp [q]

set_option maxHeartbeats 1000000 in
theorem falseSignals1_con (x0 : Int) (x1 : Int) (zs : List Int) (l : List (Int × Int × Int × Bool)) (hl : l.length ≤ 1048576) (hz : zs.length ≤ 1048576) (hlv : liveB l (x0, x1) = true) : Con Tryd.prog 212 [.agg [V.int .i64 x0, V.int .i64 x1], .pv [.sl (zs.map (V.int .i64))] 0 0, .pv [.sl (l.map (fun t : Int × Int × Int × Bool => V.agg [V.int .i64 t.1, V.int .i64 t.2.1, V.int .i64 t.2.2.1, V.bool t.2.2.2]))] 0 0] [] (.bool (decide (zoneOf l (x0, x1) ∈ zs))) [] := by
 obtain ⟨jd, ⟨d0, d1, d2, d3⟩, hf1, hd, hf2⟩ := live_det hlv
 simp only [] at hf1 hf2
 have hidx : (findD x1 0 l).toNat = jd := by rw [hf1]; simp
 have hjl : jd < l.length := (List.getElem?_eq_some_iff.1 hd).1
 refine v_con [.tmp 4] [] Tryd.func212 rfl rfl rfl (by simp [Tryd.ntmps212]) ?_
 intro Q0 n0 r0
 simp only [Tryd.ntmps212, envFrom, Nat.reduceAdd]
 have T := Tys.mk (And.intro Ty.t3 (And.intro Ty.t4 (And.intro Ty.t33 (And.intro Ty.t48 (And.intro Ty.t61 Ty.t65)))))
 have F := Fc.mk True.intro
 refine v_seqR [1,2,3] ?_; intro K1 k1
 have F := Fc.mk (And.intro hidx (fun f => getD_map (f := f) hd))
 refine zBox ⟨?_⟩
 refine zAssign ⟨?_⟩
 refine k1 _ ?_
 refine zk ⟨?_⟩
 refine v_seq ?_; intro Q2 n2 e2 r2
 refine v_draw (by kernel_rfl) ?_; intro K3 q3 k3
 show aAny _ _ _ _ 11 (Array.replicate 11 false) _
 refine zdLoad q3 true 0 5 ?_
 refine zdLoad q3 true 1 6 ?_
 refine zdLoad q3 true 2 7 ?_
 refine zdFieldAddr q3 true 3 8 ?_
 refine zdLoad q3 true 4 9 ?_
 refine zoc 5 (detectorAt_con l x1 hl) ⟨?_⟩
 refine zdIndexAddr q3 true 6 11 ?_
 refine zdFieldAddr q3 true 7 12 ?_
 refine zdLoad q3 true 8 13 ?_
 refine zoc 9 (slContains_con zs d1 hz) ⟨?_⟩
 refine zoAssign 10 ⟨?_⟩
 refine aAny_done (by kernel_rfl) ?_
 refine k3 _ ?_
 refine n2 _ _ (weak_keep [4] _) ?_
 refine zk ⟨?_⟩
 refine v_ret ?_
 refine r0 _ ?_
 refine zf ⟨?_⟩
 exact ret_pure rfl (by simp only [zoneOf, hf2]) (.inl rfl)
set_option maxHeartbeats 1000000 in
theorem falseSignals_con (l : List (Int × Int × Int × Bool)) (s : List (Int × Int)) (within : Int) (hl : l.length ≤ 1048576) (hs : s.length ≤ 1048576) (hpos : ∀ x ∈ s, 0 ≤ x.1) : Con Tryd.prog 131 [.sl (l.map (fun t : Int × Int × Int × Bool => V.agg [V.int .i64 t.1, V.int .i64 t.2.1, V.int .i64 t.2.2.1, V.bool t.2.2.2])), .sl (s.map (fun t : Int × Int => V.agg [V.int .i64 t.1, V.int .i64 t.2])), .int .i64 within] [] (.ref 0) [.arr ((falseOf l s within).map (fun t : Int × Int => V.agg [V.int .i64 t.1, V.int .i64 t.2])) .thin] := by
 have hlvl : (s.filter (liveB l)).length ≤ 1048576 := Nat.le_trans (List.length_filter_le ..) hs
 have hzl : (zonesTo l s within 9).length ≤ 1048576 := Nat.le_trans (zonesTo_len l s within 9) (by omega)
 refine v_con [.tmp 6] [(210, [0])] Tryd.func131 rfl rfl rfl (by simp [Tryd.ntmps131]) ?_
 intro Q0 n0 r0
 simp only [Tryd.ntmps131, envFrom, Nat.reduceAdd]
 have T := Tys.mk (And.intro Ty.t3 (And.intro Ty.t4 (And.intro Ty.t33 (And.intro Ty.t48 (And.intro Ty.t51 (And.intro Ty.t61 Ty.t65))))))
 have F := Fc.mk True.intro
 refine v_seqR [1,2,3] ?_; intro K1 k1
 refine zBox ⟨?_⟩
 refine zAssign ⟨?_⟩
 refine k1 _ ?_
 refine zk ⟨?_⟩
 refine v_seq ?_; intro Q2 n2 e2 r2
 refine v_region ?_; intro K3 k3
 refine zLoad ⟨?_⟩
 refine zMove ⟨?_⟩
 refine zMove ⟨?_⟩
 refine zc (alarmZones_con l s within hl hs hpos) ⟨?_⟩
 refine zAlloc ⟨?_⟩
 refine zStore ⟨?_⟩
 refine k3 _ ?_
 apply n2
 ·apply weak_trans (weak_keep [1, 3, 7] _)
  simp only [keep_mk, keepE_nil, keepE_cons, look_cons, look_nil, Nat.reduceEqDiff, reduceIte]
  exact weak_freeze 4 2 ((zonesTo l s within 9).map (V.int .i64)) .flat rfl rfl (.inl rfl) (by decide)
 try simp only [atSlot_cons, atSlot_nil, Nat.reduceEqDiff, reduceIte, List.set_cons_zero, List.set_cons_succ]
 refine v_seq ?_; intro Q4 n4 e4 r4
 refine v_region ?_; intro K5 k5
 refine zLoad ⟨?_⟩
 refine zMove ⟨?_⟩
 refine zc (liveSignals_con l s hl hs) ⟨?_⟩
 refine zMakeFunc ⟨?_⟩
 refine zcl (deleteFuncSignal_con (s.filter (liveB l)) _ _ (fun x => decide (zoneOf l x ∈ zonesTo l s within 9)) hlvl (.pv _ (.pv _ .nil)) (fun x0 x1 hm => falseSignals1_con x0 x1 (zonesTo l s within 9) l hl hzl (List.mem_filter.1 hm).2)) ⟨?_⟩
 refine zAssign ⟨?_⟩
 refine k5 _ ?_
 apply n4
 ·apply weak_trans (weak_keep [6] _)
  simp only [keep_mk, keepE_nil, keepE_cons, look_cons, look_nil, Nat.reduceEqDiff, reduceIte]
  exact weak_narrow 5 (((s.filter (liveB l)).filter (fun x => !decide (zoneOf l x ∈ zonesTo l s within 9))).length) 6 ((((s.filter (liveB l)).filter (fun x => !decide (zoneOf l x ∈ zonesTo l s within 9))).map (fun t : Int × Int => V.agg [V.int .i64 t.1, V.int .i64 t.2]) ++ List.replicate ((s.filter (liveB l)).length - ((s.filter (liveB l)).filter (fun x => !decide (zoneOf l x ∈ zonesTo l s within 9))).length) (V.agg [V.int .i64 0, V.int .i64 0]))) .thin (Nat.zero_le _) rfl (.inr rfl) (by simp [Blk.kindIs]) rfl (by simp [V.only])
 try simp only [atSlot_cons, atSlot_nil, Nat.reduceEqDiff, reduceIte, List.set_cons_zero, List.set_cons_succ]
 refine v_ret ?_
 refine r0 _ ?_
 refine zf ⟨?_⟩
 exact ret_refK (kd := .thin) rfl rfl (by rw [take_map_len]; rfl)
set_option maxHeartbeats 1000000 in
theorem alFalse_con (l : List (Int × Int × Int × Bool)) (s : List (Int × Int)) (within : Int) (hl : l.length ≤ 1048576) (hs : s.length ≤ 1048576) : Con Tryd.prog 134 [.sl (l.map (fun t : Int × Int × Int × Bool => V.agg [V.int .i64 t.1, V.int .i64 t.2.1, V.int .i64 t.2.2.1, V.bool t.2.2.2])), .sl (s.map (fun t : Int × Int => V.agg [V.int .i64 t.1, V.int .i64 t.2])), .int .i64 within] [] (.ref 0) [.arr ((falseOf l s within).map (fun t : Int × Int => V.agg [V.int .i64 t.1, V.int .i64 t.2])) .flat] := by
 obtain ⟨lv, hlv⟩ : ∃ lv, lv = s.filter (liveB l) := ⟨_, rfl⟩
 have hall : ∀ x ∈ lv, liveB l x = true := by intro x hx; rw [hlv] at hx; exact (List.mem_filter.1 hx).2
 have hlvl : lv.length ≤ 1048576 := by rw [hlv]; exact Nat.le_trans (List.length_filter_le ..) hs
 obtain ⟨zs, hzs⟩ : ∃ zs, zs = zonesTo l s within 9 := ⟨_, rfl⟩
 have hzl : zs.length ≤ 1048576 := by rw [hzs]; exact Nat.le_trans (zonesTo_len l s within 9) (by omega)
 have hF : falseOf l s within = lv.filter (fun x => !decide (zoneOf l x ∈ zs)) := by rw [falseOf, hlv, hzs]
 rw [hF]
 refine v_con [.tmp 6] [] Tryd.func134 rfl rfl rfl (by simp [Tryd.ntmps134]) ?_
 intro Q0 n0 r0
 simp only [Tryd.ntmps134, envFrom, Nat.reduceAdd]
 have T := Tys.mk (And.intro Ty.t3 (And.intro Ty.t4 (And.intro Ty.t33 (And.intro Ty.t48 (And.intro Ty.t51 (And.intro Ty.t61 Ty.t65))))))
 have F := Fc.mk True.intro
 refine v_seqR [0,1,2] ?_; intro K1 k1
 refine zAssign ⟨?_⟩
 refine k1 _ ?_
 refine zk ⟨?_⟩
 refine v_seqR [0,1,7] ?_; intro K2 k2
 refine zMove ⟨?_⟩
 refine zMove ⟨?_⟩
 refine zMove ⟨?_⟩
 refine zc ((hzs ▸ alZones_con l s within hl hs : Con _ _ _ _ _ [.arr (zs.map (V.int .i64)) .flat])) ⟨?_⟩
 refine zAssign ⟨?_⟩
 refine k2 _ ?_
 refine zk ⟨?_⟩
 refine v_seqR [0,1,7,8] ?_; intro K3 k3
 refine zAssign ⟨?_⟩
 refine k3 _ ?_
 refine zk ⟨?_⟩
 refine v_seq ?_; intro Q4 n4 e4 r4
 refine v_seqR [0,7,8,17,18,19] ?_; intro K5 k5
 refine zMove ⟨?_⟩
 refine zMove ⟨?_⟩
 refine zc ((hlv ▸ alLive_con l s hl hs : Con _ _ _ _ _ [.arr (lv.map (fun t : Int × Int => V.agg [V.int .i64 t.1, V.int .i64 t.2])) .flat])) ⟨?_⟩
 refine zLen ⟨?_⟩
 refine zMove ⟨?_⟩
 refine k5 _ ?_
 refine zk ⟨?_⟩
 refine v_block ?_; intro Q6 n6 x6 e6 r6
 refine v_loop (fun p => ⟨[(0, .sl (l.map (fun t : Int × Int × Int × Bool => V.agg [V.int .i64 t.1, V.int .i64 t.2.1, V.int .i64 t.2.2.1, V.bool t.2.2.2]))), (7, .ref 0), (8, .ref 1), (17, .ref 2), (18, .int .i64 lv.length), (19, .int .i64 (Nat.cast p.1))], [.arr (zs.map (V.int .i64)) .flat, .arr (p.2.map (fun t : Int × Int => V.agg [V.int .i64 t.1, V.int .i64 t.2])) .flat, .arr (lv.map (fun t : Int × Int => V.agg [V.int .i64 t.1, V.int .i64 t.2])) .flat], false, 40, 0⟩) (fun p => p.1 ≤ lv.length ∧ p.2.length ≤ p.1 ∧ p.2 = (lv.take p.1).filter (fun x => !decide (zoneOf l x ∈ zs))) (fun p => lv.length - p.1) ((0, []) : Nat × List (Int × Int)) ?_ ?_ ?_
 ·refine weak_bothS [0, 7, 8, 17, 18, 19] [1, 2, 3] ⟨?_⟩
  rfl
 ·exact ⟨Nat.zero_le _, Nat.le_refl _, rfl⟩
 ·rintro ⟨i, acc⟩ hok7 Q7 n7 e7 r7
  obtain ⟨hi1, hal, hR⟩ := hok7
  simp only [] at hi1 hal hR ⊢
  refine v_seqR [0,7,8,17,18,19,20] ?_; intro K8 k8
  refine zBinOp ⟨?_⟩
  refine k8 _ ?_
  refine zk ⟨?_⟩
  refine v_seq ?_; intro Q9 n9 e9 r9
  refine v_condS _ rfl ?_ ?_
  ·intro hc0
   have hlt : i < lv.length := by omega
   obtain ⟨⟨x0, x1⟩, hx⟩ : ∃ x : Int × Int, lv[i]? = some x := ⟨lv[i]'(by omega), List.getElem?_eq_getElem (by omega)⟩
   obtain ⟨jd, ⟨d0, d1, d2, d3⟩, hf1, hd, hf2⟩ := live_det (hall _ (List.mem_of_getElem? hx))
   simp only [] at hf1 hf2
   have hidx : (findD x1 0 l).toNat = jd := by rw [hf1]; simp
   have hjl : jd < l.length := (List.getElem?_eq_some_iff.1 hd).1
   have hzo : zoneOf l (x0, x1) = d1 := by simp only [zoneOf, hf2]
   have hst := filter_step (p := fun x => !decide (zoneOf l x ∈ zs)) hx
   refine v_skip ?_
   refine n9 _ _ (weak_keep [0, 7, 8, 17, 18, 19] _) ?_
   refine zk ⟨?_⟩
   refine v_seq ?_; intro Q11 n11 e11 r11
   refine v_block ?_; intro Q12 n12 x12 e12 r12
   refine v_seqR [0,7,8,10,17,18,19] ?_; intro K13 k13
   have F := Fc.mk (And.intro (fun f => getD_map (f := f) hx) (And.intro hidx (fun f => getD_map (f := f) hd)))
   refine zIndexAddr ⟨?_⟩
   refine zLoad ⟨?_⟩
   refine zAlloc ⟨?_⟩
   refine zStore ⟨?_⟩
   refine k13 _ ?_
   refine zk ⟨?_⟩
   refine v_seqR [0,7,8,10,17,18,19,33] ?_; intro K14 k14
   refine zMove ⟨?_⟩
   refine zMove ⟨?_⟩
   refine zMove ⟨?_⟩
   refine zFieldAddr ⟨?_⟩
   refine zLoad ⟨?_⟩
   refine zc (alFind_con l x1 hl) ⟨?_⟩
   refine zIndexAddr ⟨?_⟩
   refine zFieldAddr ⟨?_⟩
   refine zLoad ⟨?_⟩
   refine zc (l1Has_con zs d1 hzl) ⟨?_⟩
   refine zUnOp ⟨?_⟩
   refine k14 _ ?_
   refine zk ⟨?_⟩
   refine v_condS _ rfl ?_ ?_
   ·intro hc1
    refine v_region ?_; intro K16 k16
    refine zMove ⟨?_⟩
    refine zLoad ⟨?_⟩
    refine zBuildSlice ⟨?_⟩
    refine zAppend ⟨?_⟩
    refine zAssign ⟨?_⟩
    refine k16 _ ?_
    refine n12 _ ?_
    refine n11 _ _ (weak_keep [0, 7, 8, 17, 18, 19] _) ?_
    refine zk ⟨?_⟩
    refine v_region ?_; intro K17 k17
    refine zBinOpW ⟨?_⟩
    refine zMove ⟨?_⟩
    refine k17 _ ?_
    refine n7 _ (i + 1, acc ++ [(x0, x1)]) ?_ ?_ ?_
    ·refine weak_bothS [0, 7, 8, 17, 18, 19] [0, 5, 2] ⟨?_⟩
     rw [snoc_sig]; rfl
    ·exact ⟨hlt, by show (acc ++ _).length ≤ i + 1; simp; omega, by show acc ++ _ = _; rw [hst, ← hR, hzo]; simp [hc1]⟩
    ·show _ < _; show lv.length - (i + 1) < lv.length - i; omega
   ·intro hc1
    refine v_skip ?_
    refine n12 _ ?_
    refine n11 _ _ (weak_keep [0, 7, 8, 17, 18, 19] _) ?_
    refine zk ⟨?_⟩
    refine v_region ?_; intro K18 k18
    refine zBinOpW ⟨?_⟩
    refine zMove ⟨?_⟩
    refine k18 _ ?_
    refine n7 _ (i + 1, acc) ?_ ?_ ?_
    ·refine weak_bothS [0, 7, 8, 17, 18, 19] [0, 1, 2] ⟨?_⟩
     rfl
    ·exact ⟨hlt, by show acc.length ≤ i + 1; omega, by show acc = _; rw [hst, ← hR, hzo]; simp [hc1]⟩
    ·show _ < _; show lv.length - (i + 1) < lv.length - i; omega
  ·intro hc0
   refine v_exit ?_
   refine e9 _ _ ?_
   refine e7 _ _ ?_
   refine x6 _ ?_
   refine n4 _ _ (weak_keep [8] _) ?_
   refine zk ⟨?_⟩
   refine v_seqR [6] ?_; intro K19 k19
   refine zMove ⟨?_⟩
   refine zAssign ⟨?_⟩
   refine k19 _ ?_
   refine zk ⟨?_⟩
   refine v_ret ?_
   refine r0 _ ?_
   refine zf ⟨?_⟩
   have hend : acc = lv.filter (fun x => !decide (zoneOf l x ∈ zs)) := by rw [hR, List.take_of_length_le (by omega)]
   rw [← hend]
   exact ret_ref rfl (.inl rfl)
set_option maxHeartbeats 1000000 in
theorem specFalseSignals_con (l : List (Int × Int × Int × Bool)) (s : List (Int × Int)) (within : Int) (hl : l.length ≤ 1048576) (hs : s.length ≤ 1048576) : Con Tryd.prog 40 [.sl (l.map (fun t : Int × Int × Int × Bool => V.agg [V.int .i64 t.1, V.int .i64 t.2.1, V.int .i64 t.2.2.1, V.bool t.2.2.2])), .sl (s.map (fun t : Int × Int => V.agg [V.int .i64 t.1, V.int .i64 t.2])), .int .i64 within] [] (.tup [.ref 0, .bool (askB l s within)]) [.arr ((falseR l s within).map (fun t : Int × Int => V.agg [V.int .i64 t.1, V.int .i64 t.2])) .flat] := by
 refine v_con [.tmp 6, .tmp 7] [] Tryd.func40 rfl rfl rfl (by simp [Tryd.ntmps40]) ?_
 intro Q0 n0 r0
 simp only [Tryd.ntmps40, envFrom, Nat.reduceAdd]
 have T := Tys.mk (And.intro Ty.t3 (And.intro Ty.t4 (And.intro Ty.t33 (And.intro Ty.t51 (And.intro Ty.t61 Ty.t65)))))
 have F := Fc.mk True.intro
 refine v_seqR [0,1,2] ?_; intro K1 k1
 refine zAssign ⟨?_⟩
 refine zAssign ⟨?_⟩
 refine k1 _ ?_
 refine zk ⟨?_⟩
 refine v_seq ?_; intro Q2 n2 e2 r2
 refine v_seqR [0,1,2,12] ?_; intro K3 k3
 refine zMove ⟨?_⟩
 refine zMove ⟨?_⟩
 refine zMove ⟨?_⟩
 refine zc (alAsked_con l s within hl hs) ⟨?_⟩
 refine zUnOp ⟨?_⟩
 refine k3 _ ?_
 refine zk ⟨?_⟩
 refine v_condS _ rfl ?_ ?_
 ·intro hc0
  refine v_seqR [6,7] ?_; intro K5 k5
  refine zAssign ⟨?_⟩
  refine zAssign ⟨?_⟩
  refine k5 _ ?_
  refine zk ⟨?_⟩
  refine v_ret ?_
  refine r2 _ ?_
  refine r0 _ ?_
  refine zf ⟨?_⟩
  rw [show falseR l s within = [] by rw [falseR, hc0]; rfl, hc0]
  exact ret_ref_tup rfl rfl rfl (.inl rfl)
 ·intro hc0
  refine v_skip ?_
  refine n2 _ _ (weak_keep [0, 1, 2] _) ?_
  refine zk ⟨?_⟩
  refine v_seqR [6,7] ?_; intro K6 k6
  refine zMove ⟨?_⟩
  refine zMove ⟨?_⟩
  refine zMove ⟨?_⟩
  refine zc (alFalse_con l s within hl hs) ⟨?_⟩
  refine zAssign ⟨?_⟩
  refine zAssign ⟨?_⟩
  refine k6 _ ?_
  refine zk ⟨?_⟩
  refine v_ret ?_
  refine r0 _ ?_
  refine zf ⟨?_⟩
  rw [show falseR l s within = falseOf l s within by rw [falseR, hc0]; rfl, hc0]
  exact ret_ref_tup rfl rfl rfl (.inl rfl)
end Go.Proofs.YtmlicajgbgjphaaDoor
