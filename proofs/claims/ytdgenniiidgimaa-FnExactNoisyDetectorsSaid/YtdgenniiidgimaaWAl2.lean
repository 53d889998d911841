/- What functions compute (Al2). No condition. -/
import Derived.Test.YtdgenniiidgimaaTy
import Derived.Test.YtdgenniiidgimaaVmG
import Derived.Test.YtdgenniiidgimaaWLem
import Derived.Test.YtdgenniiidgimaaWAlarm
import Derived.Test.YtdgenniiidgimaaWSlDetector
import Derived.Test.YtdgenniiidgimaaWSlSignal
import Derived.Test.YtdgenniiidgimaaWZones
import Derived.Test.YtdgenniiidgimaaWZoneAlarm
import Derived.Test.YtdgenniiidgimaaWLive
import Derived.Test.YtdgenniiidgimaaWHas
set_option linter.unusedSimpArgs false
set_option linter.unusedVariables false
set_option linter.defProp false
namespace Go.Proofs.Ytdgenniiidgimaa
open Go Go.Vm

theorem findD_first (n : Int) : ∀ (l : List (Int × Int × Int × Bool)) (i : Nat), firstP (fun d => decide (d.1 = n)) i l = findD n i l
  | [], _ => rfl
  | d :: l, i => by
    rw [firstP, findD, findD_first n l (i + 1)]
    by_cases h : d.1 = n <;> simp [h]

set_option maxHeartbeats 1000000 in
theorem detectorAt1_con (x0 : Int) (x1 : Int) (x2 : Int) (x3 : Bool) (n : Int) : Con Try.prog 196 [.agg [V.int .i64 x0, V.int .i64 x1, V.int .i64 x2, V.bool x3], .pv [.int .i64 n] 0 0] [] (.bool (decide (x0 = n))) [] := by
 refine v_con [.tmp 3] [] Try.func196 rfl rfl rfl (by simp [Try.ntmps196]) ?_
 intro Q0 n0 r0
 simp only [Try.ntmps196, envFrom, Nat.reduceAdd]
 have T := Tys.mk (And.intro Ty.t3 (And.intro Ty.t4 Ty.t59))
 have F := Fc.mk True.intro
 refine v_seq ?_; intro Q1 n1 e1 r1
 refine v_region ?_; intro K2 k2
 refine zBox ⟨?_⟩
 refine zAssign ⟨?_⟩
 refine k2 _ ?_
 refine n1 _ _ (weak_keep [1, 2] _) ?_
 refine zk ⟨?_⟩
 refine v_seq ?_; intro Q3 n3 e3 r3
 refine v_region ?_; intro K4 k4
 refine zFieldAddr ⟨?_⟩
 refine zLoad ⟨?_⟩
 refine zLoad ⟨?_⟩
 refine zBinOp ⟨?_⟩
 refine zAssign ⟨?_⟩
 refine k4 _ ?_
 refine n3 _ _ (weak_keep [3] _) ?_
 refine zk ⟨?_⟩
 refine v_ret ?_
 refine r0 _ ?_
 refine zf ⟨?_⟩
 exact ret_pure rfl (by first | rfl | simp) (.inl rfl)
set_option maxHeartbeats 1000000 in
theorem detectorAt_con (l : List (Int × Int × Int × Bool)) (n : Int) (hl : l.length ≤ 1048576) : Con Try.prog 145 [.sl (l.map (fun t : Int × Int × Int × Bool => V.agg [V.int .i64 t.1, V.int .i64 t.2.1, V.int .i64 t.2.2.1, V.bool t.2.2.2])), .int .i64 n] [] (.int .i64 (findD n 0 l)) [] := by
 refine v_con [.tmp 4] [] Try.func145 rfl rfl rfl (by simp [Try.ntmps145]) ?_
 intro Q0 n0 r0
 simp only [Try.ntmps145, envFrom, Nat.reduceAdd]
 have T := Tys.mk (And.intro Ty.t3 (And.intro Ty.t4 (And.intro Ty.t29 Ty.t59)))
 have F := Fc.mk True.intro
 refine v_seq ?_; intro Q1 n1 e1 r1
 refine v_region ?_; intro K2 k2
 refine zBox ⟨?_⟩
 refine zAssign ⟨?_⟩
 refine k2 _ ?_
 refine n1 _ _ (weak_keep [0, 3] _) ?_
 refine zk ⟨?_⟩
 refine v_seq ?_; intro Q3 n3 e3 r3
 refine v_region ?_; intro K4 k4
 refine zMove ⟨?_⟩
 refine zMakeFunc ⟨?_⟩
 refine zc (indexFuncDetector_con l _ _ (fun d => decide (d.1 = n)) hl (.pv _ .nil) (fun x0 x1 x2 x3 _ => detectorAt1_con x0 x1 x2 x3 n)) ⟨?_⟩
 refine zAssign ⟨?_⟩
 refine k4 _ ?_
 refine n3 _ _ (weak_keep [4] _) ?_
 refine zk ⟨?_⟩
 refine v_ret ?_
 refine r0 _ ?_
 refine zf ⟨?_⟩
 exact ret_pure rfl (by rw [findD_first]) (.inl rfl)
set_option maxHeartbeats 1000000 in
theorem liveSignals1_con (x0 : Int) (x1 : Int) (l : List (Int × Int × Int × Bool)) (hl : l.length ≤ 1048576) : Con Try.prog 152 [.agg [V.int .i64 x0, V.int .i64 x1], .pv [.sl (l.map (fun t : Int × Int × Int × Bool => V.agg [V.int .i64 t.1, V.int .i64 t.2.1, V.int .i64 t.2.2.1, V.bool t.2.2.2]))] 0 0] [] (.bool (!liveB l (x0, x1))) [] := by
 refine v_con [.tmp 3] [] Try.func152 rfl rfl rfl (by simp [Try.ntmps152]) ?_
 intro Q0 n0 r0
 simp only [Try.ntmps152, envFrom, Nat.reduceAdd]
 have T := Tys.mk (And.intro Ty.t3 (And.intro Ty.t4 (And.intro Ty.t29 (And.intro Ty.t57 Ty.t59))))
 have F := Fc.mk True.intro
 rcases findD_det x1 l 0 with ⟨hf1, hf2⟩ | ⟨j, ⟨y0, y1, y2, y3⟩, hf1, hy, hf2⟩
 ·skip
  have hneg : decide (findD x1 0 l < (0 : Int)) = true := by rw [hf1]; rfl
  refine v_seq ?_; intro Q1 n1 e1 r1
  refine v_region ?_; intro K2 k2
  have F := Fc.mk (And.intro hneg (And.intro @Bool.true_or (And.intro @Bool.not_true @Bool.false_and)))
  refine zBox ⟨?_⟩
  refine zAssign ⟨?_⟩
  refine k2 _ ?_
  refine n1 _ _ (weak_keep [1, 2] _) ?_
  refine zk ⟨?_⟩
  refine v_seq ?_; intro Q3 n3 e3 r3
  refine v_region ?_; intro K4 k4
  refine zLoad ⟨?_⟩
  refine zFieldAddr ⟨?_⟩
  refine zLoad ⟨?_⟩
  refine zc (detectorAt_con l x1 hl) ⟨?_⟩
  refine zAssign ⟨?_⟩
  refine k4 _ ?_
  refine n3 _ _ (weak_keep [1, 4] _) ?_
  refine zk ⟨?_⟩
  refine v_seq ?_; intro Q5 n5 e5 r5
  refine v_region ?_; intro K6 k6
  refine zMove ⟨?_⟩
  refine zBinOp ⟨?_⟩
  refine zMove ⟨?_⟩
  refine zgLoad ⟨?_⟩
  refine zgMove ⟨?_⟩
  refine zgIndexAddr ⟨?_⟩
  refine zgFieldAddr ⟨?_⟩
  refine zgLoad ⟨?_⟩
  refine zPick ⟨?_⟩
  refine zAssign ⟨?_⟩
  refine k6 _ ?_
  refine n5 _ _ (weak_keep [3] _) ?_
  refine zk ⟨?_⟩
  refine v_ret ?_
  refine r0 _ ?_
  refine zf ⟨?_⟩
  exact ret_pure rfl (by simp only [liveB, hf2]; simp) (.inl rfl)
 ·skip
  rw [Nat.zero_add] at hf1
  have hneg : decide (findD x1 0 l < (0 : Int)) = false := by rw [hf1]; simp
  have hidx : (findD x1 0 l).toNat = j := by rw [hf1]; simp
  have hjl : j < l.length := (List.getElem?_eq_some_iff.1 hy).1
  refine v_seq ?_; intro Q7 n7 e7 r7
  refine v_region ?_; intro K8 k8
  have F := Fc.mk (And.intro hneg (And.intro hidx (fun f => getD_map (f := f) hy)))
  refine zBox ⟨?_⟩
  refine zAssign ⟨?_⟩
  refine k8 _ ?_
  refine n7 _ _ (weak_keep [1, 2] _) ?_
  refine zk ⟨?_⟩
  refine v_seq ?_; intro Q9 n9 e9 r9
  refine v_region ?_; intro K10 k10
  refine zLoad ⟨?_⟩
  refine zFieldAddr ⟨?_⟩
  refine zLoad ⟨?_⟩
  refine zc (detectorAt_con l x1 hl) ⟨?_⟩
  refine zAssign ⟨?_⟩
  refine k10 _ ?_
  refine n9 _ _ (weak_keep [1, 4] _) ?_
  refine zk ⟨?_⟩
  refine v_seq ?_; intro Q11 n11 e11 r11
  refine v_region ?_; intro K12 k12
  refine zMove ⟨?_⟩
  refine zBinOp ⟨?_⟩
  refine zMove ⟨?_⟩
  refine zgLoad ⟨?_⟩
  refine zgMove ⟨?_⟩
  refine zgIndexAddr ⟨?_⟩
  refine zgFieldAddr ⟨?_⟩
  refine zgLoad ⟨?_⟩
  refine zPick ⟨?_⟩
  refine zAssign ⟨?_⟩
  refine k12 _ ?_
  refine n11 _ _ (weak_keep [3] _) ?_
  refine zk ⟨?_⟩
  refine v_ret ?_
  refine r0 _ ?_
  refine zf ⟨?_⟩
  exact ret_pure rfl (by simp only [liveB, hf2]; simp) (.inl rfl)
set_option maxHeartbeats 1000000 in
theorem liveSignals_con (l : List (Int × Int × Int × Bool)) (s : List (Int × Int)) (hl : l.length ≤ 1048576) (hs : s.length ≤ 1048576) : Con Try.prog 88 [.sl (l.map (fun t : Int × Int × Int × Bool => V.agg [V.int .i64 t.1, V.int .i64 t.2.1, V.int .i64 t.2.2.1, V.bool t.2.2.2])), .sl (s.map (fun t : Int × Int => V.agg [V.int .i64 t.1, V.int .i64 t.2]))] [] (.ref 0) [.arr ((s.filter (liveB l)).map (fun t : Int × Int => V.agg [V.int .i64 t.1, V.int .i64 t.2])) .thin] := by
 refine v_con [.tmp 4] [(142, [0])] Try.func88 rfl rfl rfl (by simp [Try.ntmps88]) ?_
 intro Q0 n0 r0
 simp only [Try.ntmps88, envFrom, Nat.reduceAdd]
 have T := Tys.mk (And.intro Ty.t3 (And.intro Ty.t4 (And.intro Ty.t29 (And.intro Ty.t31 (And.intro Ty.t57 Ty.t59)))))
 have F := Fc.mk True.intro
 refine v_seq ?_; intro Q1 n1 e1 r1
 refine v_region ?_; intro K2 k2
 refine zBox ⟨?_⟩
 refine zAssign ⟨?_⟩
 refine k2 _ ?_
 refine n1 _ _ (weak_keep [1, 2] _) ?_
 refine zk ⟨?_⟩
 refine v_seq ?_; intro Q3 n3 e3 r3
 refine v_region ?_; intro K4 k4
 refine zMove ⟨?_⟩
 refine zc ((cloneSignal_con s hs).thin) ⟨?_⟩
 refine zMakeFunc ⟨?_⟩
 refine zcl (deleteFuncSignal_con s _ _ (fun x => !liveB l x) hs (.pv _ .nil) (fun x0 x1 _ => liveSignals1_con x0 x1 l hl)) ⟨?_⟩
 refine zAssign ⟨?_⟩
 refine k4 _ ?_
 apply n3
 ·apply weak_trans (weak_keep [4] _)
  simp only [keep_mk, keepE_nil, keepE_cons, look_cons, look_nil, Nat.reduceEqDiff, reduceIte]
  exact weak_narrow 2 ((s.filter fun x => !!liveB l x).length) 4 (((s.filter fun x => !!liveB l x).map (fun t : Int × Int => V.agg [V.int .i64 t.1, V.int .i64 t.2]) ++ List.replicate (s.length - (s.filter fun x => !!liveB l x).length) (V.agg [V.int .i64 0, V.int .i64 0]))) .thin (Nat.zero_le _) rfl (.inr rfl) (by simp [Blk.kindIs]) rfl (by simp [V.only])
 try simp only [atSlot_cons, atSlot_nil, Nat.reduceEqDiff, reduceIte, List.set_cons_zero, List.set_cons_succ]
 refine v_ret ?_
 refine r0 _ ?_
 refine zf ⟨?_⟩
 exact ret_refK (kd := .thin) rfl rfl (by simp [List.take_append_of_le_length])
def handB (l : List (Int × Int × Int × Bool)) (s : (Int × Int)) : Bool := match detOf l s.2 with | some d => decide (d.2.2.1 = 2) | none => false
def confZ (within : Int) (s t : (Int × Int)) : Bool := !decide (t.2 = s.2) && decide (IntKind.i64.wrap (s.1 - t.1) ≤ within)
def hitZ (l : List (Int × Int × Int × Bool)) (within : Int) (pre : List (Int × Int)) (s : (Int × Int)) : Bool := handB l s || pre.any (confZ within s)
def inZ (l : List (Int × Int × Int × Bool)) (zone : Int) (s : (Int × Int)) : Bool := decide (zoneOf l s = zone)
def aP (l : List (Int × Int × Int × Bool)) (zone within : Int) : List (Int × Int) → List (Int × Int) → Int
  | _, [] => -1
  | pre, s :: r => if hitB l zone within pre s = true then s.1 else aP l zone within (pre ++ [s]) r
def zP (l : List (Int × Int × Int × Bool)) (within : Int) : List (Int × Int) → List (Int × Int) → Int
  | _, [] => -1
  | pre, s :: r => if hitZ l within pre s = true then s.1 else zP l within (pre ++ [s]) r
theorem zP_step {l : List (Int × Int × Int × Bool)} {within : Int} {z : List (Int × Int)} {i : Nat} {x : (Int × Int)} (h : z[i]? = some x) : zP l within (z.take i) (z.drop i) = if hitZ l within (z.take i) x = true then x.1 else zP l within (z.take (i + 1)) (z.drop (i + 1)) := by
  rw [getElem_drop_cons h, zP, List.take_add_one, h]; rfl
theorem zP_end {l : List (Int × Int × Int × Bool)} {within : Int} {z : List (Int × Int)} {i : Nat} (h : z.length ≤ i) : zP l within (z.take i) (z.drop i) = -1 := by
  rw [List.drop_of_length_le h, zP]
theorem zP_hit {l : List (Int × Int × Int × Bool)} {within : Int} {z : List (Int × Int)} {i : Nat} {x : (Int × Int)} (h : z[i]? = some x) (hh : hitZ l within (z.take i) x = true) : zP l within (z.take i) (z.drop i) = x.1 := by rw [zP_step h, if_pos hh]
theorem alarmFrom_aP (l : List (Int × Int × Int × Bool)) (zone within : Int) (lv : List (Int × Int)) : ∀ (n k : Nat), n = lv.length - k → alarmFrom l zone within lv k (lv.drop k) = aP l zone within (lv.take k) (lv.drop k) := by
  intro n
  induction n with
  | zero => intro k h; rw [alarm_end (by omega), List.drop_of_length_le (by omega), aP]
  | succ n ih =>
    intro k h
    obtain ⟨x, hx⟩ : ∃ x, lv[k]? = some x := ⟨lv[k]'(by omega), List.getElem?_eq_getElem (by omega)⟩
    rw [alarm_step hx, getElem_drop_cons hx, aP, ih (k + 1) (by omega), List.take_add_one, hx]
    rfl
theorem aP_zP (l : List (Int × Int × Int × Bool)) (zone within : Int) : ∀ (r pre : List (Int × Int)), (∀ x ∈ r, liveB l x = true) → aP l zone within pre r = zP l within (pre.filter (inZ l zone)) (r.filter (inZ l zone))
  | [], pre, _ => by rw [aP, List.filter_nil, zP]
  | s :: r, pre, h => by
    have ih := aP_zP l zone within r (pre ++ [s]) fun x hx => h x (List.mem_cons_of_mem _ hx)
    obtain ⟨j, d, _, _, hd⟩ := live_det (h s (List.mem_cons_self ..))
    have hz : zoneOf l s = d.2.1 := by simp only [zoneOf, hd]
    rw [aP, List.filter_cons]
    by_cases q : d.2.1 = zone
    · have hin : inZ l zone s = true := by simp [inZ, hz, q]
      have hh : hitB l zone within pre s = hitZ l within (pre.filter (inZ l zone)) s := by
        simp only [hitB, hitZ, handB, hd, q, decide_true, Bool.true_and, List.any_filter]
        congr 2
        funext t
        simp only [confB, confZ, inZ]
        cases decide (t.2 = s.2) <;> simp
      rw [if_pos hin, zP, hh, ih, List.filter_append, List.filter_cons, if_pos hin, List.filter_nil]
    · have hin : ¬ inZ l zone s = true := by simp [inZ, hz, q]
      have hh : ¬ hitB l zone within pre s = true := by simp [hitB, hd, q]
      rw [if_neg hin, if_neg hh, ih, List.filter_append, List.filter_cons, if_neg hin, List.filter_nil, List.append_nil]
def zlOf (l : List (Int × Int × Int × Bool)) (s : List (Int × Int)) (zone : Int) : List (Int × Int) := (s.filter (liveB l)).filter (inZ l zone)
theorem alarm_zP (l : List (Int × Int × Int × Bool)) (s : List (Int × Int)) (zone within : Int) : alarmOf l s zone within = zP l within [] (zlOf l s zone) := by
  have h1 := alarmFrom_aP l zone within (s.filter (liveB l)) _ 0 rfl
  have h2 := aP_zP l zone within (s.filter (liveB l)) [] fun x hx => (List.mem_filter.1 hx).2
  rw [List.drop_zero, List.take_zero] at h1
  exact h1.trans h2
theorem zP_cases (l : List (Int × Int × Int × Bool)) (within : Int) : ∀ (r pre : List (Int × Int)), zP l within pre r = -1 ∨ ∃ x ∈ r, zP l within pre r = x.1
  | [], pre => .inl rfl
  | s :: r, pre => by
    rw [zP]
    by_cases h : hitZ l within pre s = true
    · rw [if_pos h]; exact .inr ⟨s, List.mem_cons_self .., rfl⟩
    · rw [if_neg h]
      rcases zP_cases l within r (pre ++ [s]) with q | ⟨x, hx, q⟩
      · exact .inl q
      · exact .inr ⟨x, List.mem_cons_of_mem _ hx, q⟩

set_option maxHeartbeats 1000000 in
theorem zoneAlarm1_con (x0 : Int) (x1 : Int) (l : List (Int × Int × Int × Bool)) (zone : Int) (hl : l.length ≤ 1048576) (hlv : liveB l (x0, x1) = true) : Con Try.prog 148 [.agg [V.int .i64 x0, V.int .i64 x1], .pv [.sl (l.map (fun t : Int × Int × Int × Bool => V.agg [V.int .i64 t.1, V.int .i64 t.2.1, V.int .i64 t.2.2.1, V.bool t.2.2.2]))] 0 0, .pv [.int .i64 zone] 0 0] [] (.bool (!inZ l zone (x0, x1))) [] := by
 obtain ⟨jd, ⟨d0, d1, d2, d3⟩, hf1, hd, hf2⟩ := live_det hlv
 simp only [] at hf1 hf2
 have hidx : (findD x1 0 l).toNat = jd := by rw [hf1]; simp
 have hjl : jd < l.length := (List.getElem?_eq_some_iff.1 hd).1
 refine v_con [.tmp 4] [] Try.func148 rfl rfl rfl (by simp [Try.ntmps148]) ?_
 intro Q0 n0 r0
 simp only [Try.ntmps148, envFrom, Nat.reduceAdd]
 have T := Tys.mk (And.intro Ty.t3 (And.intro Ty.t4 (And.intro Ty.t29 (And.intro Ty.t57 Ty.t59))))
 have F := Fc.mk True.intro
 refine v_seq ?_; intro Q1 n1 e1 r1
 refine v_region ?_; intro K2 k2
 have F := Fc.mk (And.intro hidx (fun f => getD_map (f := f) hd))
 refine zBox ⟨?_⟩
 refine zAssign ⟨?_⟩
 refine k2 _ ?_
 refine n1 _ _ (weak_keep [1, 2, 3] _) ?_
 refine zk ⟨?_⟩
 refine v_seq ?_; intro Q3 n3 e3 r3
 refine v_draw (by kernel_rfl) ?_; intro K4 q4 k4
 show aAny _ _ _ _ 11 (Array.replicate 11 false) _
 refine zdLoad q4 true 0 5 ?_
 refine zdLoad q4 true 1 6 ?_
 refine zdFieldAddr q4 true 2 7 ?_
 refine zdLoad q4 true 3 8 ?_
 refine zdLoad q4 true 8 13 ?_
 refine zoc 4 (detectorAt_con l x1 hl) ⟨?_⟩
 refine zdIndexAddr q4 true 5 10 ?_
 refine zdFieldAddr q4 true 6 11 ?_
 refine zdLoad q4 true 7 12 ?_
 refine zdBinOp q4 true 9 14 ?_
 refine zoAssign 10 ⟨?_⟩
 refine aAny_done (by kernel_rfl) ?_
 refine k4 _ ?_
 refine n3 _ _ (weak_keep [4] _) ?_
 refine zk ⟨?_⟩
 refine v_ret ?_
 refine r0 _ ?_
 refine zf ⟨?_⟩
 exact ret_pure rfl (by simp only [inZ, zoneOf, hf2]) (.inl rfl)
set_option maxHeartbeats 1000000 in
theorem zoneAlarm2_con (y0 : Int) (y1 : Int) (x0 : Int) (x1 : Int) (within : Int) : Con Try.prog 149 [.agg [V.int .i64 y0, V.int .i64 y1], .pv [.agg [V.int .i64 x0, V.int .i64 x1]] 0 0, .pv [.int .i64 within] 0 0] [] (.bool (confZ within (x0, x1) (y0, y1))) [] := by
 refine v_con [.tmp 4] [] Try.func149 rfl rfl rfl (by simp [Try.ntmps149]) ?_
 intro Q0 n0 r0
 simp only [Try.ntmps149, envFrom, Nat.reduceAdd]
 have T := Tys.mk (And.intro Ty.t3 Ty.t57)
 have F := Fc.mk True.intro
 refine v_seq ?_; intro Q1 n1 e1 r1
 refine v_region ?_; intro K2 k2
 refine zBox ⟨?_⟩
 refine zAssign ⟨?_⟩
 refine k2 _ ?_
 refine n1 _ _ (weak_keep [1, 2, 3] _) ?_
 refine zk ⟨?_⟩
 refine v_seq ?_; intro Q3 n3 e3 r3
 refine v_region ?_; intro K4 k4
 refine zFieldAddr ⟨?_⟩
 refine zLoad ⟨?_⟩
 refine zFieldAddr ⟨?_⟩
 refine zLoad ⟨?_⟩
 refine zBinOp ⟨?_⟩
 refine zMove ⟨?_⟩
 refine zgFieldAddr ⟨?_⟩
 refine zgLoad ⟨?_⟩
 refine zgFieldAddr ⟨?_⟩
 refine zgLoad ⟨?_⟩
 refine zgBinOpW ⟨?_⟩
 refine zgLoad ⟨?_⟩
 refine zgBinOp ⟨?_⟩
 refine zPick ⟨?_⟩
 refine zAssign ⟨?_⟩
 refine k4 _ ?_
 refine n3 _ _ (weak_keep [4] _) ?_
 refine zk ⟨?_⟩
 refine v_ret ?_
 refine r0 _ ?_
 refine zf ⟨?_⟩
 exact ret_pure rfl (by simp only [confZ]; cases decide (y1 = x1) <;> simp) (.inl rfl)
set_option maxHeartbeats 1000000 in
theorem zoneAlarm_con (l : List (Int × Int × Int × Bool)) (s : List (Int × Int)) (zone within : Int) (hl : l.length ≤ 1048576) (hs : s.length ≤ 1048576) (hpos : ∀ x ∈ s, 0 ≤ x.1) : Con Try.prog 85 [.sl (l.map (fun t : Int × Int × Int × Bool => V.agg [V.int .i64 t.1, V.int .i64 t.2.1, V.int .i64 t.2.2.1, V.bool t.2.2.2])), .sl (s.map (fun t : Int × Int => V.agg [V.int .i64 t.1, V.int .i64 t.2])), .int .i64 zone, .int .i64 within] [] (.tup [.int .i64 (if 0 ≤ alarmOf l s zone within then alarmOf l s zone within else 0), .bool (decide (0 ≤ alarmOf l s zone within))]) [] := by
 have hlvl : (s.filter (liveB l)).length ≤ 1048576 := Nat.le_trans (List.length_filter_le ..) hs
 obtain ⟨zl, hzl⟩ : ∃ zl, zl = zlOf l s zone := ⟨_, rfl⟩
 have hzf : List.filter (fun x => !!inZ l zone x) (List.filter (liveB l) s) = zl := by simp [hzl, zlOf]
 have hA : zP l within [] zl = alarmOf l s zone within := by rw [hzl, alarm_zP]
 have hzll : zl.length ≤ 1048576 := by rw [hzl]; exact Nat.le_trans (List.length_filter_le ..) hlvl
 have hall : ∀ x ∈ zl, liveB l x = true ∧ 0 ≤ x.1 := by intro x hx; rw [hzl, zlOf] at hx; have q := List.mem_filter.1 (List.mem_filter.1 hx).1; exact ⟨q.2, hpos x q.1⟩
 refine v_con [.tmp 8, .tmp 9] [(142, [0])] Try.func85 rfl rfl rfl (by simp [Try.ntmps85]) ?_
 intro Q0 n0 r0
 simp only [Try.ntmps85, envFrom, Nat.reduceAdd]
 have T := Tys.mk (And.intro Ty.t3 (And.intro Ty.t4 (And.intro Ty.t29 (And.intro Ty.t31 (And.intro Ty.t57 Ty.t59)))))
 have F := Fc.mk True.intro
 refine v_seq ?_; intro Q1 n1 e1 r1
 refine v_region ?_; intro K2 k2
 refine zBox ⟨?_⟩
 refine zBox ⟨?_⟩
 refine zBox ⟨?_⟩
 refine zAssign ⟨?_⟩
 refine zAssign ⟨?_⟩
 refine k2 _ ?_
 refine n1 _ _ (weak_keep [1, 4, 6, 7] _) ?_
 refine zk ⟨?_⟩
 refine v_seq ?_; intro Q3 n3 e3 r3
 refine v_region ?_; intro K4 k4
 refine zLoad ⟨?_⟩
 refine zMove ⟨?_⟩
 refine zc (liveSignals_con l s hl hs) ⟨?_⟩
 refine zMakeFunc ⟨?_⟩
 refine zcl (deleteFuncSignal_con (s.filter (liveB l)) _ _ (fun x => !inZ l zone x) hlvl (.pv _ (.pv _ .nil)) (fun x0 x1 hm => zoneAlarm1_con x0 x1 l zone hl (List.mem_filter.1 hm).2)) ⟨?_⟩
 refine zAssign ⟨?_⟩
 refine k4 _ ?_
 apply n3
 ·apply weak_trans (weak_keep [4, 7, 10] _)
  simp only [keep_mk, keepE_nil, keepE_cons, look_cons, look_nil, Nat.reduceEqDiff, reduceIte]
  exact weak_narrow 3 (((s.filter (liveB l)).filter fun x => !!inZ l zone x).length) 10 ((((s.filter (liveB l)).filter fun x => !!inZ l zone x).map (fun t : Int × Int => V.agg [V.int .i64 t.1, V.int .i64 t.2]) ++ List.replicate ((s.filter (liveB l)).length - ((s.filter (liveB l)).filter fun x => !!inZ l zone x).length) (V.agg [V.int .i64 0, V.int .i64 0]))) .thin (Nat.zero_le _) rfl (.inr rfl) (by simp [Blk.kindIs]) rfl (by simp [V.only])
 try simp only [atSlot_cons, atSlot_nil, Nat.reduceEqDiff, reduceIte, List.set_cons_zero, List.set_cons_succ, hzf, take_map_len]
 refine v_seq ?_; intro Q5 n5 e5 r5
 refine v_seq ?_; intro Q6 n6 e6 r6
 refine v_region ?_; intro K7 k7
 refine zMove ⟨?_⟩
 refine zLen ⟨?_⟩
 refine zMove ⟨?_⟩
 refine k7 _ ?_
 refine n6 _ _ (weak_keep [4, 7, 10, 19, 20, 21] _) ?_
 refine zk ⟨?_⟩
 refine v_block ?_; intro Q8 n8 x8 e8 r8
 refine v_loop (fun i => ⟨[(4, .ptr 0 0 0), (7, .ptr 1 0 0), (10, .ref 2), (19, .ref 2), (20, .int .i64 zl.length), (21, .int .i64 (Nat.cast i))], [.box (.sl (l.map (fun t : Int × Int × Int × Bool => V.agg [V.int .i64 t.1, V.int .i64 t.2.1, V.int .i64 t.2.2.1, V.bool t.2.2.2]))) .shal, .box (.int .i64 within) .flat, .arr (zl.map (fun t : Int × Int => V.agg [V.int .i64 t.1, V.int .i64 t.2])) .thin], false, 46, 0⟩) (fun i => i ≤ zl.length ∧ zP l within (zl.take i) (zl.drop i) = alarmOf l s zone within) (fun i => zl.length - i) 0 ?_ ?_ ?_
 ·refine weak_bothS [4, 7, 10, 19, 20, 21] [0, 2, 3] ⟨?_⟩
  rfl
 ·exact ⟨Nat.zero_le _, hA⟩
 ·rintro i hok9 Q9 n9 e9 r9
  obtain ⟨hi1, hR⟩ := hok9
  refine v_seq ?_; intro Q10 n10 e10 r10
  refine v_region ?_; intro K11 k11
  refine zBinOp ⟨?_⟩
  refine k11 _ ?_
  refine n10 _ _ (weak_keep [4, 7, 10, 19, 20, 21, 22] _) ?_
  refine zk ⟨?_⟩
  refine v_seq ?_; intro Q12 n12 e12 r12
  refine v_condS _ rfl ?_ ?_
  ·intro hc0
   have hlt : i < zl.length := by omega
   obtain ⟨⟨x0, x1⟩, hx⟩ : ∃ x : Int × Int, zl[i]? = some x := ⟨zl[i]'(by omega), List.getElem?_eq_getElem (by omega)⟩
   have hlv := (hall _ (List.mem_of_getElem? hx)).1
   have hx0 := (hall _ (List.mem_of_getElem? hx)).2
   simp only [] at hx0
   obtain ⟨jd, ⟨d0, d1, d2, d3⟩, hf1, hd, hf2⟩ := live_det hlv
   simp only [] at hf1 hf2
   have hidx : (findD x1 0 l).toNat = jd := by rw [hf1]; simp
   have hjl : jd < l.length := (List.getElem?_eq_some_iff.1 hd).1
   have hst := zP_step (l := l) (within := within) hx
   have hzt : (zl.take i).length ≤ 1048576 := Nat.le_trans (by rw [List.length_take]; omega) hzll
   have hhit : hitZ l within (zl.take i) (x0, x1) = (decide (d2 = 2) || (zl.take i).any (confZ within (x0, x1))) := by simp only [hitZ, handB, hf2]
   refine v_skip ?_
   refine n12 _ _ (weak_keep [4, 7, 10, 19, 20, 21] _) ?_
   refine zk ⟨?_⟩
   refine v_seq ?_; intro Q14 n14 e14 r14
   refine v_block ?_; intro Q15 n15 x15 e15 r15
   refine v_seq ?_; intro Q16 n16 e16 r16
   refine v_region ?_; intro K17 k17
   have F := Fc.mk (And.intro (fun f => getD_map (f := f) hx) (And.intro hidx (fun f => getD_map (f := f) hd)))
   refine zMove ⟨?_⟩
   refine zIndexAddr ⟨?_⟩
   refine zLoad ⟨?_⟩
   refine zAlloc ⟨?_⟩
   refine zAssign ⟨?_⟩
   refine zStore ⟨?_⟩
   refine k17 _ ?_
   refine n16 _ _ (weak_keep [4, 7, 10, 11, 12, 19, 20, 21] _) ?_
   refine zk ⟨?_⟩
   refine v_seq ?_; intro Q18 n18 e18 r18
   refine v_region ?_; intro K19 k19
   refine zMakeFunc ⟨?_⟩
   refine zAssign ⟨?_⟩
   refine k19 _ ?_
   refine n18 _ _ (weak_keep [4, 7, 10, 11, 12, 13, 19, 20, 21] _) ?_
   refine zk ⟨?_⟩
   refine v_seq ?_; intro Q20 n20 e20 r20
   refine v_draw (by kernel_rfl) ?_; intro K21 q21 k21
   show aAny _ _ _ _ 16 (Array.replicate 16 false) _
   refine zdLoad q21 true 0 27 ?_
   refine zdLoad q21 true 1 28 ?_
   refine zdFieldAddr q21 true 2 29 ?_
   refine zdLoad q21 true 3 30 ?_
   refine zoc 4 (detectorAt_con l x1 hl) ⟨?_⟩
   refine zdIndexAddr q21 true 5 32 ?_
   refine zdFieldAddr q21 true 6 33 ?_
   refine zdLoad q21 true 7 34 ?_
   refine zdBinOp q21 true 8 35 ?_
   refine zdMove q21 true 9 36 ?_
   refine zdgMove q21 true 10 37 ?_
   refine zdgMove q21 true 11 38 ?_
   refine zdgSlice q21 true 12 39 ?_
   refine zdgMove q21 true 13 40 ?_
   refine zogc 14 (containsFuncSignal_con (zl.take i) _ _ (confZ within (x0, x1)) hzt (.pv _ (.pv _ .nil)) (fun y0 y1 _ => zoneAlarm2_con y0 y1 x0 x1 within)) ⟨?_⟩
   refine zdPick q21 true 15 42 ?_
   refine aAny_done (by kernel_rfl) ?_
   refine k21 _ ?_
   refine n20 _ _ (weak_keep [4, 7, 10, 12, 19, 20, 21, 42] _) ?_
   refine zk ⟨?_⟩
   refine v_condS _ rfl ?_ ?_
   ·intro hc1
    refine v_seq ?_; intro Q23 n23 e23 r23
    refine v_region ?_; intro K24 k24
    refine zFieldAddr ⟨?_⟩
    refine zLoad ⟨?_⟩
    refine zAssign ⟨?_⟩
    refine zAssign ⟨?_⟩
    refine k24 _ ?_
    refine n23 _ _ (weak_keep [8, 9] _) ?_
    refine zk ⟨?_⟩
    refine v_ret ?_
    refine r15 _ ?_
    refine r14 _ ?_
    refine r9 _ ?_
    refine r8 _ ?_
    refine r5 _ ?_
    refine r0 _ ?_
    refine zf ⟨?_⟩
    have hval : alarmOf l s zone within = x0 := by rw [← hR, hst, if_pos (by rw [hhit]; simpa using hc1)]
    exact ret_pure rfl (by rw [hval, if_pos hx0, decide_eq_true hx0]) (.inl rfl)
   ·intro hc1
    refine v_skip ?_
    refine n15 _ ?_
    refine n14 _ _ (weak_keep [4, 7, 10, 19, 20, 21] _) ?_
    refine zk ⟨?_⟩
    refine v_region ?_; intro K25 k25
    refine zBinOpW ⟨?_⟩
    refine zMove ⟨?_⟩
    refine k25 _ ?_
    refine n9 _ (i + 1) ?_ ?_ ?_
    ·refine weak_bothS [4, 7, 10, 19, 20, 21] [0, 1, 2] ⟨?_⟩
     rfl
    ·exact ⟨by omega, by rw [← hR, hst, if_neg (by rw [hhit]; simpa using hc1)]⟩
    ·show _ < _; omega
  ·intro hc0
   refine v_exit ?_
   refine e12 _ _ ?_
   refine e9 _ _ ?_
   refine x8 _ ?_
   refine n5 _ _ (weak_keep [] _) ?_
   refine zk ⟨?_⟩
   refine v_seq ?_; intro Q26 n26 e26 r26
   refine v_region ?_; intro K27 k27
   refine zAssign ⟨?_⟩
   refine zAssign ⟨?_⟩
   refine k27 _ ?_
   refine n26 _ _ (weak_keep [8, 9] _) ?_
   refine zk ⟨?_⟩
   refine v_ret ?_
   refine r0 _ ?_
   refine zf ⟨?_⟩
   have hval : alarmOf l s zone within = -1 := by rw [← hR, zP_end (by omega)]
   exact ret_pure rfl (by rw [hval]; simp) (.inl rfl)
end Go.Proofs.Ytdgenniiidgimaa
