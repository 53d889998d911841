/- What functions compute (Extra). No condition. -/
import Derived.Test.YtdgenniiidgimaaTy
import Derived.Test.YtdgenniiidgimaaVmG
import Derived.Test.YtdgenniiidgimaaWPick
import Derived.Test.YtdgenniiidgimaaWAtt
import Derived.Test.YtdgenniiidgimaaWDisp
import Derived.Test.YtdgenniiidgimaaWTown
import Derived.Test.YtdgenniiidgimaaWNeed
import Derived.Test.YtdgenniiidgimaaWTimes14
set_option linter.unusedSimpArgs false
set_option linter.unusedVariables false
set_option linter.defProp false
namespace Go.Proofs.Ytdgenniiidgimaa
open Go Go.Vm

theorem most_step {fl : List (ByteArray × Int × Int × Int × Int)} {ts order : List Int} {i : Nat} {y : Int} (h : order[i]? = some y) : mostOf fl ts (order.take (i + 1)) = max (mostOf fl ts (order.take i)) (keyOf fl ts y) := by
  rw [mostOf, List.take_add_one, h, Option.toList, List.foldl_append]; rfl
theorem fold_bounds {α : Type} {f : α → Int} {B : Int} : ∀ (l : List α) (a : Int), 0 ≤ a ∧ a ≤ B → (∀ x ∈ l, f x ≤ B) → 0 ≤ l.foldl (fun m x => max m (f x)) a ∧ l.foldl (fun m x => max m (f x)) a ≤ B
  | [], a, h, _ => h
  | x :: l, a, h, hf => by
    have := hf x (List.mem_cons_self ..)
    have h2 : 0 ≤ max a (f x) ∧ max a (f x) ≤ B := by omega
    exact fold_bounds l (max a (f x)) h2 fun y hy => hf y (List.mem_cons_of_mem _ hy)
theorem key_le {fl : List (ByteArray × Int × Int × Int × Int)} {ts : List Int} (h : ∀ v, -1 ≤ Tm.at_ ts v ∧ Tm.at_ ts v ≤ 4608000) (i : Int) : keyOf fl ts i ≤ 4608000 := by
  rw [keyOf]; split
  · exact (h _).2
  · omega
theorem most_bounds {fl : List (ByteArray × Int × Int × Int × Int)} {ts : List Int} (h : ∀ v, -1 ≤ Tm.at_ ts v ∧ Tm.at_ ts v ≤ 4608000) (order : List Int) : 0 ≤ mostOf fl ts order ∧ mostOf fl ts order ≤ 4608000 :=
  fold_bounds order 0 (by omega) fun i _ => key_le h i
theorem att_bounds {fl : List (ByteArray × Int × Int × Int × Int)} {ts : List Int} (h : ∀ v, -1 ≤ Tm.at_ ts v ∧ Tm.at_ ts v ≤ 4608000) (names : List ByteArray) : 0 ≤ attV fl ts names ∧ attV fl ts names ≤ 4608000 := by
  refine fold_bounds names 0 (by omega) fun s _ => ?_
  rw [attOne]; split
  · omega
  · exact key_le h _
def extraB (n : Int) (ss : List (Int × Int × Int)) (fl : List (ByteArray × Int × Int × Int × Int)) (node : Int) (need : List Int) (names : List ByteArray) : Bool :=
  askD n ss fl node && need4 need && (attR n ss fl node names && (!decide (((choiceL n ss fl node need).2.length : Int) = 0) && decide ((names.length : Int) = ((choiceL n ss fl node need).2.length : Int))))
def extraV (n : Int) (ss : List (Int × Int × Int)) (fl : List (ByteArray × Int × Int × Int × Int)) (node : Int) (need : List Int) (names : List ByteArray) : Int :=
  if extraB n ss fl node need names = true then attV fl (tmL n ss node) names - mostOf fl (tmL n ss node) (choiceL n ss fl node need).2 else 0
theorem choice_facts {n : Int} {ss : List (Int × Int × Int)} {fl : List (ByteArray × Int × Int × Int × Int)} {node : Int} {need : List Int} (hn : need.length = 4 ∧ ∀ x ∈ need, 0 ≤ x ∧ x ≤ 6) :
    (choiceL n ss fl node need).2.length ≤ fl.length ∧ (choiceL n ss fl node need).2.Nodup ∧ ∀ i ∈ (choiceL n ss fl node need).2, ∃ (k : Nat) (x : (ByteArray × Int × Int × Int × Int)), i = (k : Int) ∧ k < fl.length ∧ fl[k]? = some x ∧ 0 ≤ keyOf fl (tmL n ss node) i := by
  have hp := pick_facts (fl := fl) hn (readyL fl (tmL n ss node))
  refine ⟨Nat.le_trans hp.2.2.1 (readyL_len ..), hp.2.2.2.nodup (readyL_nodup ..), fun i hi => ?_⟩
  obtain ⟨k, x, h1, h2, h3, h4⟩ := readyL_mem (hp.2.2.2.subset hi)
  refine ⟨k, x, h1, h2, h3, ?_⟩
  rw [readyP, Bool.and_eq_true, decide_eq_true_eq] at h4
  rw [h1, keyOf, Int.toNat_natCast, h3]
  exact h4.2
theorem best_facts {n : Int} {ss : List (Int × Int × Int)} {fl : List (ByteArray × Int × Int × Int × Int)} {node : Int} {need : List Int} (hd : DsFacts n ss fl) (hask : askD n ss fl node = true) (hn : need.length = 4 ∧ ∀ x ∈ need, 0 ≤ x ∧ x ≤ 6) :
    (sentTo fl (choiceL n ss fl node need).2 fl.length).length = (choiceL n ss fl node need).2.length ∧ attR n ss fl node (sentTo fl (choiceL n ss fl node need).2 fl.length) = !decide (((choiceL n ss fl node need).2.length : Int) = 0) ∧
    (¬ ((choiceL n ss fl node need).2.length : Int) = 0 → attW n ss fl node (sentTo fl (choiceL n ss fl node need).2 fl.length) = mostOf fl (tmL n ss node) (choiceL n ss fl node need).2) := by
  obtain ⟨_, c2, c3⟩ := choice_facts (n := n) (ss := ss) (fl := fl) (node := node) hn
  obtain ⟨s1, s2, s3⟩ := sent_facts (ts := tmL n ss node) hd.hinc c2 fun i hi => by obtain ⟨k, x, h1, h2, _, h4⟩ := c3 i hi; exact ⟨k, h1, h2, h4⟩
  have hR : attR n ss fl node (sentTo fl (choiceL n ss fl node need).2 fl.length) = !decide (((choiceL n ss fl node need).2.length : Int) = 0) := by rw [attR, hask, s3]; rfl
  refine ⟨s1, hR, fun h0 => ?_⟩
  rw [attW, hR, decide_eq_false h0, if_pos (by rfl), s2]

set_option maxRecDepth 8000 in
set_option maxHeartbeats 1000000 in
theorem implExtra_con (n : Int) (ss : List (Int × Int × Int)) (fl : List (ByteArray × Int × Int × Int × Int)) (node : Int) (need : List Int) (names : List ByteArray) (hs : ss.length ≤ 1048576) (hl : fl.length ≤ 1048576) (hls : ∀ t ∈ fl, t.1.size ≤ 9223372036854775807) (hne : need.length ≤ 1048576) (hnl : names.length ≤ 1048576) : Con Try.prog 69 [.agg [.int .i64 n, .sl (ss.map (fun t : Int × Int × Int => V.agg [V.int .i64 t.1, V.int .i64 t.2.1, V.int .i64 t.2.2]))], .sl (fl.map (fun t : ByteArray × Int × Int × Int × Int => V.agg [V.str t.1, V.int .i64 t.2.1, V.int .i64 t.2.2.1, V.int .i64 t.2.2.2.1, V.int .i64 t.2.2.2.2])), .int .i64 node, .sl (need.map (V.int .i64)), .sl (names.map V.str)] [] (.tup [.int .i64 (extraV n ss fl node need names), .bool (extraB n ss fl node need names)]) [] := by
 refine v_con [.tmp 10, .tmp 11] [] Try.func69 rfl rfl rfl (by simp [Try.ntmps69]) ?_
 intro Q0 n0 r0
 simp only [Try.ntmps69, envFrom, Nat.reduceAdd]
 have T := Tys.mk (And.intro Ty.t3 (And.intro Ty.t4 (And.intro Ty.t9 (And.intro Ty.t26 (And.intro Ty.t70 (And.intro Ty.t72 (And.intro Ty.t74 (And.intro Ty.t93 (And.intro Ty.t141 (And.intro Ty.t144 Ty.t182))))))))))
 have F := Fc.mk True.intro
 refine v_seq ?_; intro Q1 n1 e1 r1
 refine v_region ?_; intro K2 k2
 refine zBox ⟨?_⟩
 refine zAssign ⟨?_⟩
 refine zAssign ⟨?_⟩
 refine k2 _ ?_
 refine n1 _ _ (weak_keep [1, 2, 3, 4, 5] _) ?_
 refine zk ⟨?_⟩
 refine v_seq ?_; intro Q3 n3 e3 r3
 refine v_seq ?_; intro Q4 n4 e4 r4
 refine v_region ?_; intro K5 k5
 refine zMove ⟨?_⟩
 refine zc (dispatchFits_con n ss fl hs hl hls) ⟨?_⟩
 refine zUnOp ⟨?_⟩
 refine zMove ⟨?_⟩
 refine zgMove ⟨?_⟩
 refine zgc (tHas_con n ss node) ⟨?_⟩
 refine zgUnOp ⟨?_⟩
 refine zPick ⟨?_⟩
 refine zMove ⟨?_⟩
 refine zgMove ⟨?_⟩
 refine zgc (isNeed_con need hne) ⟨?_⟩
 refine zgUnOp ⟨?_⟩
 refine zPick ⟨?_⟩
 refine k5 _ ?_
 refine n4 _ _ (weak_keep [1, 2, 3, 4, 5, 31] _) ?_
 refine zk ⟨?_⟩
 refine v_condS _ rfl ?_ ?_
 ·intro hc0
  have hh : extraB n ss fl node need names = false := by cases hq : extraB n ss fl node need names with | false => rfl | true => (exfalso; simp [extraB, askD] at hq; first | (simp_all; done) | (simp_all [askD]; done) | (simp_all; omega))
  have hw0 : extraV n ss fl node need names = 0 := by rw [extraV, hh]; rfl
  refine v_seq ?_; intro Q7 n7 e7 r7
  refine v_region ?_; intro K8 k8
  refine zAssign ⟨?_⟩
  refine zAssign ⟨?_⟩
  refine k8 _ ?_
  refine n7 _ _ (weak_keep [10, 11] _) ?_
  refine zk ⟨?_⟩
  refine v_ret ?_
  refine r3 _ ?_
  refine r0 _ ?_
  refine zf ⟨?_⟩
  rw [hh, hw0]
  exact ret_pure rfl rfl (.inl rfl)
 ·intro hc0
  have hH : askD n ss fl node = true ∧ need4 need = true := by first | exact hc0 | (simp [askD] at hc0 ⊢; first | exact hc0 | (simp_all; done))
  obtain ⟨hask, hnd⟩ := hH
  have hn := need4_facts hnd
  obtain ⟨hd, hu⟩ := ask_facts hask
  have hfl := hd.hfl
  have hbst := best_facts hd hask hn
  have hcf := choice_facts (n := n) (ss := ss) (fl := fl) (node := node) hn
  have htb := tm_facts hd.hn hu hd.hss hd.hsl
  have hn14 := hd.hn
  have hmb := most_bounds (fl := fl) htb
  have hab := att_bounds (fl := fl) htb names
  have hEB : extraB n ss fl node need names = (attR n ss fl node names && (!decide (((choiceL n ss fl node need).2.length : Int) = 0) && decide ((names.length : Int) = ((choiceL n ss fl node need).2.length : Int)))) := by rw [extraB, hask, hnd]; rfl
  obtain ⟨co, hco⟩ : ∃ co, co = (choiceL n ss fl node need).2 := ⟨_, rfl⟩
  obtain ⟨ts, hts⟩ : ∃ ts, ts = tmL n ss node := ⟨_, rfl⟩
  have htl : ts.length = n.toNat := by rw [hts, times_len]
  rw [← hco] at hbst hcf hEB
  rw [← hts] at htb hmb hab hbst hcf
  have hmo := hmb co
  have hEV : extraB n ss fl node need names = true → extraV n ss fl node need names = attV fl ts names - mostOf fl ts co := fun h => by rw [extraV, if_pos h, ← hts, ← hco]
  have hEN : extraB n ss fl node need names = false → extraV n ss fl node need names = 0 := fun h => by rw [extraV, h]; rfl
  have hAW : attR n ss fl node names = true → attW n ss fl node names = attV fl ts names := fun h => by rw [attW, if_pos h, ← hts]
  have hval : ∀ {y : Int}, y ∈ co → ∃ (k : Nat) (x : (ByteArray × Int × Int × Int × Int)) (w : Nat), y = (k : Int) ∧ fl[k]? = some x ∧ x.2.2.1 = (w : Int) ∧ w < ts.length := by
   intro y hy
   obtain ⟨k, x, h1, h2, h3, _⟩ := hcf.2.2 y hy
   have hap := hd.hap _ (List.mem_of_getElem? h3)
   obtain ⟨w, hw⟩ := Int.eq_ofNat_of_zero_le hap.2.1
   exact ⟨k, x, w, h1, h3, hw, by rw [htl]; omega⟩
  have hcl := hcf.1
  refine v_skip ?_
  refine n3 _ _ (weak_keep [1, 2, 3, 4, 5] _) ?_
  refine zk ⟨?_⟩
  refine v_seq ?_; intro Q9 n9 e9 r9
  refine v_region ?_; intro K10 k10
  refine zMove ⟨?_⟩
  refine zc ((hts ▸ tTimes_con n ss node hd.hn hu hd.hss hd.hsl : Con _ _ _ _ _ [.arr (ts.map (V.int .i64)) .flat])) ⟨?_⟩
  refine zAssign ⟨?_⟩
  refine zAssign ⟨?_⟩
  refine k10 _ ?_
  refine n9 _ _ (weak_keep [1, 2, 3, 4, 5, 12, 13] _) ?_
  refine zk ⟨?_⟩
  refine v_seq ?_; intro Q11 n11 e11 r11
  refine v_region ?_; intro K12 k12
  refine zMove ⟨?_⟩
  refine zMove ⟨?_⟩
  refine zMove ⟨?_⟩
  refine zc ((hco ▸ choose_con n ss fl node need hd hu hn : Con _ _ _ _ _ [.arr (co.map (V.int .i64)) .flat])) ⟨?_⟩
  refine zAssign ⟨?_⟩
  refine k12 _ ?_
  refine n11 _ _ (weak_keep [1, 2, 4, 5, 12, 13, 14] _) ?_
  refine zk ⟨?_⟩
  refine v_seq ?_; intro Q13 n13 e13 r13
  refine v_seq ?_; intro Q14 n14 e14 r14
  refine v_region ?_; intro K15 k15
  refine zMove ⟨?_⟩
  refine zLen ⟨?_⟩
  refine zMove ⟨?_⟩
  refine k15 _ ?_
  refine n14 _ _ (weak_keep [1, 2, 4, 5, 12, 13, 14, 38, 39, 40] _) ?_
  refine zk ⟨?_⟩
  refine v_block ?_; intro Q16 n16 x16 e16 r16
  refine v_loop (fun q => ⟨[(1, .sl (fl.map (fun t : ByteArray × Int × Int × Int × Int => V.agg [V.str t.1, V.int .i64 t.2.1, V.int .i64 t.2.2.1, V.int .i64 t.2.2.2.1, V.int .i64 t.2.2.2.2]))), (2, .int .i64 node), (4, .sl (names.map V.str)), (5, .ptr 0 0 0), (12, .ref 1), (13, .int .i64 q.2), (14, .ref 2), (38, .ref 2), (39, .int .i64 co.length), (40, .int .i64 (Nat.cast q.1))], [.box (.agg [.int .i64 n, .sl (ss.map (fun t : Int × Int × Int => V.agg [V.int .i64 t.1, V.int .i64 t.2.1, V.int .i64 t.2.2]))]) .shal, .arr (ts.map (V.int .i64)) .flat, .arr (co.map (V.int .i64)) .flat], false, 80, 0⟩) (fun q => q.1 ≤ co.length ∧ mostOf fl ts (co.take q.1) = q.2) (fun q => co.length - q.1) ((0, 0) : Nat × Int) ?_ ?_ ?_
  ·refine weak_bothS [1, 2, 4, 5, 12, 13, 14, 38, 39, 40] [0, 1, 2] ⟨?_⟩
   rfl
  ·exact ⟨Nat.zero_le _, rfl⟩
  ·rintro ⟨i, most⟩ hok17 Q17 n17 e17 r17
   obtain ⟨hi1, hR⟩ := hok17
   simp only [] at hi1 hR ⊢
   have hmi := hmb (co.take i)
   rw [hR] at hmi
   refine v_seq ?_; intro Q18 n18 e18 r18
   refine v_region ?_; intro K19 k19
   refine zBinOp ⟨?_⟩
   refine k19 _ ?_
   refine n18 _ _ (weak_keep [1, 2, 4, 5, 12, 13, 14, 38, 39, 40, 41] _) ?_
   refine zk ⟨?_⟩
   refine v_seq ?_; intro Q20 n20 e20 r20
   refine v_condS _ rfl ?_ ?_
   ·intro hc1
    have hlt : i < co.length := by omega
    obtain ⟨y, hy⟩ : ∃ y, co[i]? = some y := ⟨_, List.getElem?_eq_getElem hlt⟩
    have hv := hval (List.mem_of_getElem? hy)
    have hst := most_step (fl := fl) (ts := ts) hy
    obtain ⟨k, ⟨x0, x1, x2, x3, x4⟩, w, rfl, hx, hvw, hvl⟩ := hv
    simp only [] at hvw
    subst hvw
    obtain ⟨p, hp⟩ : ∃ p, ts[w]? = some p := ⟨_, List.getElem?_eq_getElem hvl⟩
    have hkl : k < fl.length := (List.getElem?_eq_some_iff.1 hx).1
    have ek := key_is (ts := ts) hx rfl hp
    rw [ek] at hst
    refine v_skip ?_
    refine n20 _ _ (weak_keep [1, 2, 4, 5, 12, 13, 14, 38, 39, 40] _) ?_
    refine zk ⟨?_⟩
    refine v_seq ?_; intro Q22 n22 e22 r22
    refine v_block ?_; intro Q23 n23 x23 e23 r23
    refine v_seq ?_; intro Q24 n24 e24 r24
    refine v_region ?_; intro K25 k25
    have F := Fc.mk (And.intro (fun f => getD_map (f := f) hx) (And.intro (fun f => getD_map (f := f) hy) (fun f => getD_map (f := f) hp)))
    refine zIndexAddr ⟨?_⟩
    refine zLoad ⟨?_⟩
    refine zAssign ⟨?_⟩
    refine k25 _ ?_
    refine n24 _ _ (weak_keep [1, 2, 4, 5, 12, 13, 14, 16, 38, 39, 40] _) ?_
    refine zk ⟨?_⟩
    refine v_region ?_; intro K26 k26
    refine zMove ⟨?_⟩
    refine zMove ⟨?_⟩
    refine zMove ⟨?_⟩
    refine zMove ⟨?_⟩
    refine zIndexAddr ⟨?_⟩
    refine zFieldAddr ⟨?_⟩
    refine zLoad ⟨?_⟩
    refine zIndexAddr ⟨?_⟩
    refine zLoad ⟨?_⟩
    refine zMax ⟨?_⟩
    refine zAssign ⟨?_⟩
    refine k26 _ ?_
    refine n23 _ ?_
    refine n22 _ _ (weak_keep [1, 2, 4, 5, 12, 13, 14, 38, 39, 40] _) ?_
    refine zk ⟨?_⟩
    refine v_region ?_; intro K27 k27
    refine zBinOpW ⟨?_⟩
    refine zMove ⟨?_⟩
    refine k27 _ ?_
    refine n17 _ (i + 1, if p > most then p else most) ?_ ?_ ?_
    ·refine weak_bothS [1, 2, 4, 5, 12, 13, 14, 38, 39, 40] [0, 1, 2] ⟨?_⟩
     rfl
    ·exact ⟨hlt, by show mostOf fl ts (co.take (i + 1)) = (if p > most then p else most); rw [hst, hR]; split <;> omega⟩
    ·show _ < _; show co.length - (i + 1) < co.length - i; omega
   ·intro hc1
    have hend : i = co.length := by omega
    subst hend
    rw [List.take_length] at hR
    refine v_exit ?_
    refine e20 _ _ ?_
    refine e17 _ _ ?_
    refine x16 _ ?_
    refine n13 _ _ (weak_keep [1, 2, 4, 5, 13, 14] _) ?_
    refine zk ⟨?_⟩
    refine v_seq ?_; intro Q28 n28 e28 r28
    refine v_region ?_; intro K29 k29
    refine zLoad ⟨?_⟩
    refine zMove ⟨?_⟩
    refine zMove ⟨?_⟩
    refine zMove ⟨?_⟩
    refine zc (implAtt_con n ss fl node names hs hl hls hnl) ⟨?_⟩
    refine zMove ⟨?_⟩
    refine zExtract ⟨?_⟩
    refine zExtract ⟨?_⟩
    refine zAssign ⟨?_⟩
    refine zAssign ⟨?_⟩
    refine k29 _ ?_
    refine n28 _ _ (weak_keep [4, 13, 14, 17, 18] _) ?_
    refine zk ⟨?_⟩
    refine v_seq ?_; intro Q30 n30 e30 r30
    refine v_seq ?_; intro Q31 n31 e31 r31
    refine v_region ?_; intro K32 k32
    refine zMove ⟨?_⟩
    refine zUnOp ⟨?_⟩
    refine zMove ⟨?_⟩
    refine zgMove ⟨?_⟩
    refine zgLen ⟨?_⟩
    refine zgBinOp ⟨?_⟩
    refine zPick ⟨?_⟩
    refine zMove ⟨?_⟩
    refine zgMove ⟨?_⟩
    refine zgLen ⟨?_⟩
    refine zgMove ⟨?_⟩
    refine zgLen ⟨?_⟩
    refine zgBinOp ⟨?_⟩
    refine zPick ⟨?_⟩
    refine k32 _ ?_
    refine n31 _ _ (weak_keep [13, 17, 76] _) ?_
    refine zk ⟨?_⟩
    refine v_condS _ rfl ?_ ?_
    ·intro hc2
     have hB : extraB n ss fl node need names = false := by
      rw [hEB]
      generalize (co.length : Int) = cl at hc2 ⊢
      generalize (names.length : Int) = nl at hc2 ⊢
      cases hq : attR n ss fl node names with
      |false => rfl
      |true => (simp [hq] at hc2; simp; first | omega | (intros; omega))
     refine v_seq ?_; intro Q34 n34 e34 r34
     refine v_region ?_; intro K35 k35
     refine zAssign ⟨?_⟩
     refine zAssign ⟨?_⟩
     refine k35 _ ?_
     refine n34 _ _ (weak_keep [10, 11] _) ?_
     refine zk ⟨?_⟩
     refine v_ret ?_
     refine r30 _ ?_
     refine r0 _ ?_
     refine zf ⟨?_⟩
     rw [hB, hEN hB]
     exact ret_pure rfl rfl (.inl rfl)
    ·intro hc2
     have hRA : attR n ss fl node names = true := by first | exact hc2.1.1 | exact hc2.1 | (cases hq : attR n ss fl node names with | true => rfl | false => (simp [hq] at hc2))
     have hAV := hAW hRA
     have hB : extraB n ss fl node need names = true := by
      rw [hEB, hRA]
      generalize (co.length : Int) = cl at hc2 ⊢
      generalize (names.length : Int) = nl at hc2 ⊢
      simp [hRA] at hc2
      simp
      first | omega | (constructor <;> omega)
     have hmm : most = mostOf fl ts co := hR.symm
     refine v_skip ?_
     refine n30 _ _ (weak_keep [13, 17] _) ?_
     refine zk ⟨?_⟩
     refine v_seq ?_; intro Q36 n36 e36 r36
     refine v_region ?_; intro K37 k37
     have F := Fc.mk hAV
     refine zMove ⟨?_⟩
     refine zMove ⟨?_⟩
     refine zBinOpW ⟨?_⟩
     refine zAssign ⟨?_⟩
     refine zAssign ⟨?_⟩
     refine k37 _ ?_
     refine n36 _ _ (weak_keep [10, 11] _) ?_
     refine zk ⟨?_⟩
     refine v_ret ?_
     refine r0 _ ?_
     refine zf ⟨?_⟩
     rw [hB, hEV hB]
     exact ret_pure rfl (by rw [hmm]) (.inl rfl)
set_option maxRecDepth 8000 in
set_option maxHeartbeats 1000000 in
theorem specExtra_con (n : Int) (ss : List (Int × Int × Int)) (fl : List (ByteArray × Int × Int × Int × Int)) (node : Int) (need : List Int) (names : List ByteArray) (hs : ss.length ≤ 1048576) (hl : fl.length ≤ 1048576) (hls : ∀ t ∈ fl, t.1.size ≤ 9223372036854775807) (hne : need.length ≤ 1048576) (hnl : names.length ≤ 1048576) : Con Try.prog 68 [.agg [.int .i64 n, .sl (ss.map (fun t : Int × Int × Int => V.agg [V.int .i64 t.1, V.int .i64 t.2.1, V.int .i64 t.2.2]))], .sl (fl.map (fun t : ByteArray × Int × Int × Int × Int => V.agg [V.str t.1, V.int .i64 t.2.1, V.int .i64 t.2.2.1, V.int .i64 t.2.2.2.1, V.int .i64 t.2.2.2.2])), .int .i64 node, .sl (need.map (V.int .i64)), .sl (names.map V.str)] [] (.tup [.int .i64 (extraV n ss fl node need names), .bool (extraB n ss fl node need names)]) [] := by
 refine v_con [.tmp 10, .tmp 11] [] Try.func68 rfl rfl rfl (by simp [Try.ntmps68]) ?_
 intro Q0 n0 r0
 simp only [Try.ntmps68, envFrom, Nat.reduceAdd]
 have T := Tys.mk (And.intro Ty.t3 (And.intro Ty.t4 (And.intro Ty.t9 (And.intro Ty.t26 (And.intro Ty.t70 (And.intro Ty.t72 (And.intro Ty.t74 (And.intro Ty.t93 (And.intro Ty.t141 Ty.t182)))))))))
 have F := Fc.mk True.intro
 refine v_seq ?_; intro Q1 n1 e1 r1
 refine v_region ?_; intro K2 k2
 refine zBox ⟨?_⟩
 refine zAssign ⟨?_⟩
 refine zAssign ⟨?_⟩
 refine k2 _ ?_
 refine n1 _ _ (weak_keep [1, 2, 3, 4, 5] _) ?_
 refine zk ⟨?_⟩
 refine v_seq ?_; intro Q3 n3 e3 r3
 refine v_seq ?_; intro Q4 n4 e4 r4
 refine v_region ?_; intro K5 k5
 refine zLoad ⟨?_⟩
 refine zMove ⟨?_⟩
 refine zMove ⟨?_⟩
 refine zc (dsAsked_con n ss fl node hs hl hls) ⟨?_⟩
 refine zUnOp ⟨?_⟩
 refine zMove ⟨?_⟩
 refine zgMove ⟨?_⟩
 refine zgc (tbNeed_con need hne) ⟨?_⟩
 refine zgUnOp ⟨?_⟩
 refine zPick ⟨?_⟩
 refine k5 _ ?_
 refine n4 _ _ (weak_keep [1, 2, 3, 4, 5, 30] _) ?_
 refine zk ⟨?_⟩
 refine v_condS _ rfl ?_ ?_
 ·intro hc0
  have hh : extraB n ss fl node need names = false := by cases hq : extraB n ss fl node need names with | false => rfl | true => (exfalso; simp [extraB, askD] at hq; first | (simp_all; done) | (simp_all [askD]; done) | (simp_all; omega))
  have hw0 : extraV n ss fl node need names = 0 := by rw [extraV, hh]; rfl
  refine v_seq ?_; intro Q7 n7 e7 r7
  refine v_region ?_; intro K8 k8
  refine zAssign ⟨?_⟩
  refine zAssign ⟨?_⟩
  refine k8 _ ?_
  refine n7 _ _ (weak_keep [10, 11] _) ?_
  refine zk ⟨?_⟩
  refine v_ret ?_
  refine r3 _ ?_
  refine r0 _ ?_
  refine zf ⟨?_⟩
  rw [hh, hw0]
  exact ret_pure rfl rfl (.inl rfl)
 ·intro hc0
  have hH : askD n ss fl node = true ∧ need4 need = true := by first | exact hc0 | (simp [askD] at hc0 ⊢; first | exact hc0 | (simp_all; done))
  obtain ⟨hask, hnd⟩ := hH
  have hn := need4_facts hnd
  obtain ⟨hd, hu⟩ := ask_facts hask
  have hfl := hd.hfl
  have hbst := best_facts hd hask hn
  have hcf := choice_facts (n := n) (ss := ss) (fl := fl) (node := node) hn
  have htb := tm_facts hd.hn hu hd.hss hd.hsl
  have hn14 := hd.hn
  have hmb := most_bounds (fl := fl) htb
  have hab := att_bounds (fl := fl) htb names
  have hEB : extraB n ss fl node need names = (attR n ss fl node names && (!decide (((choiceL n ss fl node need).2.length : Int) = 0) && decide ((names.length : Int) = ((choiceL n ss fl node need).2.length : Int)))) := by rw [extraB, hask, hnd]; rfl
  obtain ⟨co, hco⟩ : ∃ co, co = (choiceL n ss fl node need).2 := ⟨_, rfl⟩
  obtain ⟨ts, hts⟩ : ∃ ts, ts = tmL n ss node := ⟨_, rfl⟩
  have htl : ts.length = n.toNat := by rw [hts, times_len]
  rw [← hco] at hbst hcf hEB
  rw [← hts] at htb hmb hab hbst hcf
  have hmo := hmb co
  have hEV : extraB n ss fl node need names = true → extraV n ss fl node need names = attV fl ts names - mostOf fl ts co := fun h => by rw [extraV, if_pos h, ← hts, ← hco]
  have hEN : extraB n ss fl node need names = false → extraV n ss fl node need names = 0 := fun h => by rw [extraV, h]; rfl
  have hAW : attR n ss fl node names = true → attW n ss fl node names = attV fl ts names := fun h => by rw [attW, if_pos h, ← hts]
  have hval : ∀ {y : Int}, y ∈ co → ∃ (k : Nat) (x : (ByteArray × Int × Int × Int × Int)) (w : Nat), y = (k : Int) ∧ fl[k]? = some x ∧ x.2.2.1 = (w : Int) ∧ w < ts.length := by
   intro y hy
   obtain ⟨k, x, h1, h2, h3, _⟩ := hcf.2.2 y hy
   have hap := hd.hap _ (List.mem_of_getElem? h3)
   obtain ⟨w, hw⟩ := Int.eq_ofNat_of_zero_le hap.2.1
   exact ⟨k, x, w, h1, h3, hw, by rw [htl]; omega⟩
  have hcl := hcf.1
  have hsb : (sentTo fl co fl.length).length ≤ 1048576 := by have := sent_len fl co fl.length; omega
  refine v_skip ?_
  refine n3 _ _ (weak_keep [1, 2, 3, 4, 5] _) ?_
  refine zk ⟨?_⟩
  refine v_seq ?_; intro Q9 n9 e9 r9
  refine v_region ?_; intro K10 k10
  refine zLoad ⟨?_⟩
  refine zMove ⟨?_⟩
  refine zMove ⟨?_⟩
  refine zMove ⟨?_⟩
  refine zc ((hco ▸ hts ▸ dsPick_con n ss fl node need hd hu hn : Con _ _ _ _ _ [.arr (co.map (V.int .i64)) .flat, .arr ((choiceL n ss fl node need).1.map (V.int .i64)) .flat, .arr ((allT fl ts).map (V.int .i64)) .flat])) ⟨?_⟩
  refine zMove ⟨?_⟩
  refine zExtract ⟨?_⟩
  refine zExtract ⟨?_⟩
  refine zExtract ⟨?_⟩
  refine zAssign ⟨?_⟩
  refine zAssign ⟨?_⟩
  refine zAssign ⟨?_⟩
  refine k10 _ ?_
  refine n9 _ _ (weak_keep [1, 2, 4, 5, 12] _) ?_
  refine zk ⟨?_⟩
  refine v_seq ?_; intro Q11 n11 e11 r11
  refine v_region ?_; intro K12 k12
  refine zMove ⟨?_⟩
  refine zMove ⟨?_⟩
  refine zc (dsSend_con fl co hl (by omega)) ⟨?_⟩
  refine zMove ⟨?_⟩
  refine zExtract ⟨?_⟩
  refine zExtract ⟨?_⟩
  refine zAssign ⟨?_⟩
  refine zAssign ⟨?_⟩
  refine k12 _ ?_
  refine n11 _ _ (weak_keep [1, 2, 4, 5, 16] _) ?_
  refine zk ⟨?_⟩
  refine v_seq ?_; intro Q13 n13 e13 r13
  refine v_region ?_; intro K14 k14
  refine zLoad ⟨?_⟩
  refine zMove ⟨?_⟩
  refine zMove ⟨?_⟩
  refine zMove ⟨?_⟩
  refine zc (specAtt_con n ss fl node (sentTo fl co fl.length) hs hl hls hsb) ⟨?_⟩
  refine zMove ⟨?_⟩
  refine zExtract ⟨?_⟩
  refine zExtract ⟨?_⟩
  refine zAssign ⟨?_⟩
  refine zAssign ⟨?_⟩
  refine k14 _ ?_
  refine n13 _ _ (weak_keep [1, 2, 4, 5, 16, 17, 18] _) ?_
  refine zk ⟨?_⟩
  refine v_seq ?_; intro Q15 n15 e15 r15
  refine v_region ?_; intro K16 k16
  refine zLoad ⟨?_⟩
  refine zMove ⟨?_⟩
  refine zMove ⟨?_⟩
  refine zMove ⟨?_⟩
  refine zc (specAtt_con n ss fl node names hs hl hls hnl) ⟨?_⟩
  refine zMove ⟨?_⟩
  refine zExtract ⟨?_⟩
  refine zExtract ⟨?_⟩
  refine zAssign ⟨?_⟩
  refine zAssign ⟨?_⟩
  refine k16 _ ?_
  refine n15 _ _ (weak_keep [4, 16, 17, 18, 19, 20] _) ?_
  refine zk ⟨?_⟩
  refine v_seq ?_; intro Q17 n17 e17 r17
  refine v_seq ?_; intro Q18 n18 e18 r18
  refine v_region ?_; intro K19 k19
  refine zMove ⟨?_⟩
  refine zUnOp ⟨?_⟩
  refine zMove ⟨?_⟩
  refine zgMove ⟨?_⟩
  refine zgUnOp ⟨?_⟩
  refine zPick ⟨?_⟩
  refine zMove ⟨?_⟩
  refine zgMove ⟨?_⟩
  refine zgLen ⟨?_⟩
  refine zgMove ⟨?_⟩
  refine zgLen ⟨?_⟩
  refine zgBinOp ⟨?_⟩
  refine zPick ⟨?_⟩
  refine k19 _ ?_
  refine n18 _ _ (weak_keep [17, 19, 74] _) ?_
  refine zk ⟨?_⟩
  refine v_condS _ rfl ?_ ?_
  ·intro hc1
   have hB : extraB n ss fl node need names = false := by
    rw [hEB]
    rw [hbst.1, hbst.2.1] at hc1
    generalize (co.length : Int) = cl at hc1 ⊢
    generalize (names.length : Int) = nl at hc1 ⊢
    cases hq : attR n ss fl node names with
    |false => rfl
    |true => (simp [hq] at hc1; simp; first | omega | (intros; omega))
   refine v_seq ?_; intro Q21 n21 e21 r21
   refine v_region ?_; intro K22 k22
   refine zAssign ⟨?_⟩
   refine zAssign ⟨?_⟩
   refine k22 _ ?_
   refine n21 _ _ (weak_keep [10, 11] _) ?_
   refine zk ⟨?_⟩
   refine v_ret ?_
   refine r17 _ ?_
   refine r0 _ ?_
   refine zf ⟨?_⟩
   rw [hB, hEN hB]
   exact ret_pure rfl rfl (.inl rfl)
  ·intro hc1
   rw [hbst.1, hbst.2.1] at hc1
   have hRA : attR n ss fl node names = true := by cases hq : attR n ss fl node names with | true => rfl | false => (simp [hq] at hc1)
   have hAV := hAW hRA
   have hB : extraB n ss fl node need names = true := by
    rw [hEB, hRA]
    generalize (co.length : Int) = cl at hc1 ⊢
    generalize (names.length : Int) = nl at hc1 ⊢
    simp [hRA] at hc1
    simp
    first | omega | (constructor <;> omega)
   have hc0 : ¬ (co.length : Int) = 0 := by intro h0; rw [hEB, decide_eq_true h0] at hB; simp at hB
   have hBV := hbst.2.2 hc0
   refine v_skip ?_
   refine n17 _ _ (weak_keep [17, 19] _) ?_
   refine zk ⟨?_⟩
   refine v_seq ?_; intro Q23 n23 e23 r23
   refine v_region ?_; intro K24 k24
   have F := Fc.mk (And.intro hAV hBV)
   refine zMove ⟨?_⟩
   refine zMove ⟨?_⟩
   refine zBinOpW ⟨?_⟩
   refine zAssign ⟨?_⟩
   refine zAssign ⟨?_⟩
   refine k24 _ ?_
   refine n23 _ _ (weak_keep [10, 11] _) ?_
   refine zk ⟨?_⟩
   refine v_ret ?_
   refine r0 _ ?_
   refine zf ⟨?_⟩
   rw [hB, hEV hB]
   exact ret_pure rfl rfl (.inl rfl)
end Go.Proofs.Ytdgenniiidgimaa
