/- What functions compute. No condition. -/
import Derived.Test.YtmlicajgbgjphaaDoorUty
import Derived.Test.YtmlicajgbgjphaaDoorUmG
import Derived.Test.YtmlicajgbgjphaaDoorX3
import Derived.Test.YtmlicajgbgjphaaDoorX1
import Derived.Test.YtmlicajgbgjphaaDoorX5
import Derived.Test.YtmlicajgbgjphaaDoorX2
set_option linter.unusedSimpArgs false
set_option linter.unusedVariables false
set_option linter.defProp false
namespace Go.Proofs.YtmlicajgbgjphaaDoor
open Go Go.Vm

theorem chainFrom_pair {α : Type} {ok : α → Bool} {bf : α → α → Bool} (tr : ∀ x y z, bf x y = true → bf y z = true → bf x z = true) : ∀ (l : List α) (p : Option α), chainFrom ok bf p l = true → (∀ q, p = some q → ∀ x ∈ l, bf q x = true) ∧ l.Pairwise fun x y => bf x y = true
  | [], _, _ => ⟨fun _ _ x hx => (by cases hx), List.Pairwise.nil⟩
  | x :: l, p, h => by
    have h2 : chainFrom ok bf (some x) l = true ∧ ∀ q, p = some q → bf q x = true := by
      cases p with
      | none => simp [chainFrom] at h; exact ⟨h.2, fun q e => by cases e⟩
      | some r => simp [chainFrom] at h; exact ⟨h.2, fun q e => by cases e; exact h.1.2⟩
    obtain ⟨a1, a2⟩ := chainFrom_pair tr l (some x) h2.1
    refine ⟨fun q e y hy => ?_, List.pairwise_cons.2 ⟨fun y hy => a1 x rfl y hy, a2⟩⟩
    rcases List.mem_cons.1 hy with rfl | hy
    · exact h2.2 q e
    · exact tr q x y (h2.2 q e) (a1 x rfl y hy)
theorem chain_pair {α : Type} {ok : α → Bool} {bf : α → α → Bool} (tr : ∀ x y z, bf x y = true → bf y z = true → bf x z = true) {l : List α} (h : chainAt ok bf l 0 = true) : l.Pairwise fun x y => bf x y = true := (chainFrom_pair tr l none (by simpa [chainAt] using h)).2
theorem ds_pair {l : List (Int × Int × Int × Bool)} (h : dsB l = true) : l.Pairwise fun x y => x.1 < y.1 := by
  rw [dsB, Bool.and_eq_true] at h
  refine (chain_pair ?_ h.1).imp ?_
  · intro x y z a b; simp only [dBefore, decide_eq_true_eq] at *; omega
  · intro x y a; simpa [dBefore] using a
theorem ss_pair {l : List (Int × Int)} (h : ssB l = true) : l.Pairwise fun x y => x.1 ≤ y.1 := by
  rw [ssB, Bool.and_eq_true] at h
  refine (chain_pair ?_ h.1).imp ?_
  · intro x y z a b; simp only [sBefore, decide_eq_true_eq] at *; omega
  · intro x y a; simpa [sBefore] using a
theorem det_mem {n : Int} {d : (Int × Int × Int × Bool)} : ∀ {l : List (Int × Int × Int × Bool)}, l.Pairwise (fun x y => x.1 < y.1) → d ∈ l → d.1 = n → detOf l n = some d
  | e :: l, hp, hd, hn => by
    rw [List.pairwise_cons] at hp
    rw [detOf, List.find?_cons]
    rcases List.mem_cons.1 hd with rfl | hd
    · simp [hn]
    · have := hp.1 d hd
      have hne : ¬ e.1 = n := by omega
      simp only [hne, decide_false]
      exact det_mem hp.2 hd hn
theorem zones_mem (l : List (Int × Int × Int × Bool)) (s : List (Int × Int)) (within z : Int) : ∀ n : Nat, z ∈ zonesTo l s within n ↔ (1 ≤ z ∧ z ≤ n) ∧ 0 ≤ alarmOf l s z within
  | 0 => by simp [zonesTo]; omega
  | n + 1 => by
    rw [zonesTo, List.mem_append, zones_mem l s within z n]
    by_cases h : 0 ≤ alarmOf l s ((n : Int) + 1) within
    · rw [if_pos h, List.mem_singleton]
      constructor
      · rintro (q | rfl)
        · exact ⟨by omega, q.2⟩
        · exact ⟨by omega, h⟩
      · rintro ⟨q1, q2⟩
        by_cases e : z = (n : Int) + 1
        · exact .inr e
        · exact .inl ⟨by omega, q2⟩
    · rw [if_neg h]
      constructor
      · rintro (q | q)
        · exact ⟨by omega, q.2⟩
        · cases q
      · rintro ⟨q1, q2⟩
        by_cases e : z = (n : Int) + 1
        · subst e; exact absurd q2 h
        · exact .inl ⟨by omega, q2⟩
theorem first_all (l : List (Int × Int × Int × Bool)) (s : List (Int × Int)) (within : Int) : ∀ n : Nat, (0 ≤ (firstTo l s within n).1 ∧ ((firstTo l s within n).1 = 0 ↔ zonesTo l s within n = [])) ∧
    ((firstTo l s within n).1 ≠ 0 → ∀ z : Int, 1 ≤ z → z ≤ n → 0 ≤ alarmOf l s z within → (firstTo l s within n).2 ≤ alarmOf l s z within ∧ (alarmOf l s z within = (firstTo l s within n).2 → (firstTo l s within n).1 ≤ z))
  | 0 => by
    refine ⟨⟨Int.le_refl 0, by simp [firstTo, zonesTo]⟩, fun h => absurd rfl h⟩
  | n + 1 => by
    obtain ⟨⟨h0, h1⟩, h2⟩ := first_all l s within n
    have hz := zones_mem l s within
    rw [firstTo, zonesTo]
    by_cases hA : 0 ≤ alarmOf l s ((n : Int) + 1) within
    · by_cases hB : (firstTo l s within n).1 = 0 ∨ alarmOf l s ((n : Int) + 1) within < (firstTo l s within n).2
      · rw [if_pos ⟨hA, hB⟩, if_pos hA]
        refine ⟨⟨by show (0 : Int) ≤ (n : Int) + 1; omega, by simp; omega⟩, fun _ z z1 z2 z3 => ?_⟩
        show alarmOf l s ((n : Int) + 1) within ≤ alarmOf l s z within ∧ (_ → (n : Int) + 1 ≤ z)
        by_cases e : z = (n : Int) + 1
        · subst e; exact ⟨Int.le_refl _, fun _ => Int.le_refl _⟩
        · rcases hB with hB | hB
          · have hm := (hz z n).2 ⟨⟨z1, by omega⟩, z3⟩
            rw [h1.1 hB] at hm; cases hm
          · by_cases hF : (firstTo l s within n).1 = 0
            · have hm := (hz z n).2 ⟨⟨z1, by omega⟩, z3⟩
              rw [h1.1 hF] at hm; cases hm
            · have := (h2 hF z z1 (by omega) z3).1
              exact ⟨by omega, fun q => by have := this; omega⟩
      · rw [if_neg (fun q => hB q.2), if_pos hA]
        have hF : (firstTo l s within n).1 ≠ 0 := fun q => hB (.inl q)
        refine ⟨⟨h0, by simp [hF]⟩, fun _ z z1 z2 z3 => ?_⟩
        by_cases e : z = (n : Int) + 1
        · subst e
          have hle : (firstTo l s within n).2 ≤ alarmOf l s ((n : Int) + 1) within := by
            rcases Int.lt_or_le (alarmOf l s ((n : Int) + 1) within) (firstTo l s within n).2 with q | q
            · exact absurd (.inr q) hB
            · exact q
          refine ⟨hle, fun _ => ?_⟩
          have hb : (firstTo l s within n).1 ≤ n := firstTo_le l s within n
          omega
        · exact h2 hF z z1 (by omega) z3
    · rw [if_neg (fun q => hA q.1), if_neg hA, List.append_nil]
      refine ⟨⟨h0, h1⟩, fun hF z z1 z2 z3 => ?_⟩
      by_cases e : z = (n : Int) + 1
      · subst e; exact absurd z3 hA
      · exact h2 hF z z1 (by omega) z3
where
  firstTo_le (l : List (Int × Int × Int × Bool)) (s : List (Int × Int)) (within : Int) : ∀ n : Nat, (firstTo l s within n).1 ≤ n
    | 0 => Int.le_refl 0
    | n + 1 => by
      have := firstTo_le l s within n
      rw [firstTo]
      split
      · show (n : Int) + 1 ≤ ((n + 1 : Nat) : Int); omega
      · omega
theorem hit_mono {l : List (Int × Int × Int × Bool)} {zone w : Int} {pre : List (Int × Int)} {s : (Int × Int)} (h : hitB l zone w pre s = true) : hitB l zone (w + 1) pre s = true := by
  unfold hitB at h ⊢
  cases hd : detOf l s.2 with
  | none => rw [hd] at h; cases h
  | some d =>
    rw [hd] at h
    simp only [Bool.and_eq_true, Bool.or_eq_true, List.any_eq_true] at h ⊢
    refine ⟨h.1, h.2.imp id ?_⟩
    rintro ⟨t, ht, hc⟩
    refine ⟨t, ht, ?_⟩
    simp only [confB, Bool.and_eq_true, decide_eq_true_eq] at hc ⊢
    exact ⟨hc.1, by omega⟩
theorem alarmFrom_mem (l : List (Int × Int × Int × Bool)) (zone w : Int) (lv : List (Int × Int)) : ∀ (r : List (Int × Int)) (k : Nat), 0 ≤ alarmFrom l zone w lv k r → ∃ x ∈ r, alarmFrom l zone w lv k r = x.1
  | [], k, h => by rw [alarmFrom] at h; omega
  | s :: r, k, h => by
    rw [alarmFrom] at h ⊢
    by_cases q : hitB l zone w (lv.take k) s = true
    · rw [if_pos q]; exact ⟨s, List.mem_cons_self .., rfl⟩
    · rw [if_neg q] at h ⊢
      obtain ⟨x, hx, e⟩ := alarmFrom_mem l zone w lv r (k + 1) h
      exact ⟨x, List.mem_cons_of_mem _ hx, e⟩
theorem alarmFrom_mono (l : List (Int × Int × Int × Bool)) (zone w : Int) (lv : List (Int × Int)) : ∀ (r : List (Int × Int)) (k : Nat), (∀ x ∈ r, 0 ≤ x.1) → r.Pairwise (fun x y => x.1 ≤ y.1) → 0 ≤ alarmFrom l zone w lv k r → 0 ≤ alarmFrom l zone (w + 1) lv k r ∧ alarmFrom l zone (w + 1) lv k r ≤ alarmFrom l zone w lv k r
  | [], k, _, _, h => by rw [alarmFrom] at h; omega
  | s :: r, k, h0, hp, h => by
    rw [List.pairwise_cons] at hp
    have hs := h0 s (List.mem_cons_self ..)
    rw [alarmFrom] at h ⊢
    rw [alarmFrom]
    by_cases q : hitB l zone w (lv.take k) s = true
    · rw [if_pos q, if_pos (hit_mono q)]; exact ⟨hs, Int.le_refl _⟩
    · rw [if_neg q] at h ⊢
      by_cases q2 : hitB l zone (w + 1) (lv.take k) s = true
      · rw [if_pos q2]
        obtain ⟨x, hx, e⟩ := alarmFrom_mem l zone w lv r (k + 1) h
        exact ⟨hs, by rw [e]; exact hp.1 x hx⟩
      · rw [if_neg q2]
        exact alarmFrom_mono l zone w lv r (k + 1) (fun x hx => h0 x (List.mem_cons_of_mem _ hx)) hp.2 h
theorem alarm_mono {l : List (Int × Int × Int × Bool)} {s : List (Int × Int)} {zone w : Int} (hs : ssB s = true) (h : 0 ≤ alarmOf l s zone w) : 0 ≤ alarmOf l s zone (w + 1) ∧ alarmOf l s zone (w + 1) ≤ alarmOf l s zone w :=
  alarmFrom_mono l zone w _ _ 0 (fun x hx => ssB_pos hs x (List.mem_filter.1 hx).1) ((ss_pair hs).filter _) h
theorem zonesR_len (l : List (Int × Int × Int × Bool)) (s : List (Int × Int)) (within : Int) : (zonesR l s within).length ≤ 9 := by
  unfold zonesR
  split
  · exact zonesTo_len l s within 9
  · exact Nat.zero_le _
def zaB (l : List (Int × Int × Int × Bool)) (s : List (Int × Int)) (zone within : Int) : Bool := askB l s within && (decide (1 ≤ zone) && decide (zone ≤ 9)) && decide (0 ≤ alarmOf l s zone within)
def zaV (l : List (Int × Int × Int × Bool)) (s : List (Int × Int)) (zone within : Int) : Int := if zaB l s zone within = true then alarmOf l s zone within else 0
def liveR (l : List (Int × Int × Int × Bool)) (s : List (Int × Int)) : List (Int × Int) := if (dsB l && ssB s) = true then s.filter (liveB l) else []
theorem liveR_len (l : List (Int × Int × Int × Bool)) (s : List (Int × Int)) : (liveR l s).length ≤ s.length := by
  unfold liveR
  split
  · exact List.length_filter_le ..
  · exact Nat.zero_le _
theorem ask_parts {l : List (Int × Int × Int × Bool)} {s : List (Int × Int)} {within : Int} (h : askB l s within = true) : dsB l = true ∧ ssB s = true ∧ 0 ≤ within ∧ within ≤ 3600 := by
  simpa [askB, and_assoc] using h
theorem first_dec (l : List (Int × Int × Int × Bool)) (s : List (Int × Int)) (within : Int) : decide (0 < (firstR l s within).1) = (askB l s within && decide (0 < ((zonesR l s within).length : Int))) := by
  unfold firstR zonesR
  cases h : askB l s within with
  | false => rfl
  | true =>
    simp only [if_true, Bool.true_and]
    have := (first_all l s within 9).1
    apply decide_eq_decide.2
    constructor
    · intro q
      have : zonesTo l s within 9 ≠ [] := fun e => by have := this.2.2 e; omega
      have := List.length_pos_iff.2 this
      omega
    · intro q
      rcases Int.lt_or_le 0 (firstTo l s within 9).1 with z | z
      · exact z
      · have h0 : (firstTo l s within 9).1 = 0 := by omega
        rw [this.2.1 h0] at q; simp at q
theorem zone_has {l : List (Int × Int × Int × Bool)} {s : List (Int × Int)} {within z : Int} (ha : askB l s within = true) (h1 : 1 ≤ z) (h9 : z ≤ 9) : zaB l s z within = decide (z ∈ zonesR l s within) := by
  rw [zaB, ha, zonesR, if_pos ha, decide_eq_true h1, decide_eq_true h9]
  simp only [Bool.and_self, Bool.true_and]
  apply decide_eq_decide.2
  rw [zones_mem]
  exact ⟨fun q => ⟨⟨h1, h9⟩, q⟩, fun q => q.2⟩
theorem zone_first {l : List (Int × Int × Int × Bool)} {s : List (Int × Int)} {within z : Int} (ha : askB l s within = true) (h1 : 1 ≤ z) (h9 : z ≤ 9) (h : zaB l s z within = true) : ¬ (zaV l s z within < (firstR l s within).2) ∧ ¬ (zaV l s z within = (firstR l s within).2 ∧ z < (firstR l s within).1) := by
  have hA : 0 ≤ alarmOf l s z within := by simp [zaB] at h; exact h.2
  rw [zaV, if_pos h, firstR, if_pos ha]
  obtain ⟨⟨a0, a1⟩, a2⟩ := first_all l s within 9
  have hm := (zones_mem l s within z 9).2 ⟨⟨h1, h9⟩, hA⟩
  have hF : (firstTo l s within 9).1 ≠ 0 := fun e => by rw [a1.1 e] at hm; cases hm
  have := a2 hF z h1 h9 hA
  omega
theorem wrong_len {l : List (Int × Int × Int × Bool)} {s : List (Int × Int)} {within : Int} (ha : askB l s within = true) : (falseR l s within).length ≤ (liveR l s).length := by
  have h := ask_parts ha
  rw [falseR, if_pos ha, liveR, h.1, h.2.1]
  exact List.length_filter_le ..
theorem wrong_det {l : List (Int × Int × Int × Bool)} {s : List (Int × Int)} {within : Int} (ha : askB l s within = true) {x : (Int × Int)} (hx : x ∈ falseR l s within) {d : (Int × Int × Int × Bool)} (hd : d ∈ l) (hn : d.1 = x.2) : d.2.2.2 = false ∧ d.2.1 ∉ zonesR l s within := by
  have h := ask_parts ha
  rw [falseR, if_pos ha, falseOf, List.mem_filter, List.mem_filter] at hx
  have hdet := det_mem (ds_pair h.1) hd hn
  obtain ⟨⟨_, h1⟩, h2⟩ := hx
  simp only [liveB, hdet] at h1
  simp only [zoneOf, hdet, Bool.not_eq_true', decide_eq_false_iff_not] at h2
  rw [zonesR, if_pos ha]
  exact ⟨by simpa using h1, h2⟩
theorem wider {l : List (Int × Int × Int × Bool)} {s : List (Int × Int)} {zone most : Int} (h : zaB l s zone most = true) (hm : most < 3600) : zaB l s zone (most + 1) = true ∧ zaV l s zone (most + 1) ≤ zaV l s zone most := by
  have h' := h
  simp only [zaB, Bool.and_eq_true, decide_eq_true_eq] at h
  have hp := ask_parts h.1.1
  have hmo := alarm_mono hp.2.1 h.2
  have hb : zaB l s zone (most + 1) = true := by
    simp only [zaB, askB, Bool.and_eq_true, decide_eq_true_eq]
    exact ⟨⟨⟨⟨hp.1, hp.2.1⟩, by omega, by omega⟩, h.1.2⟩, hmo.1⟩
  refine ⟨hb, ?_⟩
  rw [zaV, zaV, if_pos hb, if_pos h']
  exact hmo.2

set_option maxHeartbeats 1000000 in
theorem implAreDetectors_con (l : List (Int × Int × Int × Bool)) (hl : l.length ≤ 1048576) : Con Tryd.prog 37 [.sl (l.map (fun t : Int × Int × Int × Bool => V.agg [V.int .i64 t.1, V.int .i64 t.2.1, V.int .i64 t.2.2.1, V.bool t.2.2.2]))] [] (.bool (dsB l)) [] := by
 refine v_con [.tmp 2] [] Tryd.func37 rfl rfl rfl (by simp [Tryd.ntmps37]) ?_
 intro Q0 n0 r0
 simp only [Tryd.ntmps37, envFrom, Nat.reduceAdd]
 have T := Tys.mk (And.intro Ty.t3 (And.intro Ty.t4 (And.intro Ty.t33 Ty.t61)))
 have F := Fc.mk True.intro
 refine v_seqR [0] ?_; intro K1 k1
 refine zAssign ⟨?_⟩
 refine k1 _ ?_
 refine zk ⟨?_⟩
 refine v_seqR [2] ?_; intro K2 k2
 refine zMove ⟨?_⟩
 refine zc (areDetectors_con l hl) ⟨?_⟩
 refine zAssign ⟨?_⟩
 refine k2 _ ?_
 refine zk ⟨?_⟩
 refine v_ret ?_
 refine r0 _ ?_
 refine zf ⟨?_⟩
 exact ret_pure rfl rfl (.inl rfl)
set_option maxHeartbeats 1000000 in
theorem implAreSignals_con (s : List (Int × Int)) (hs : s.length ≤ 1048576) : Con Tryd.prog 38 [.sl (s.map (fun t : Int × Int => V.agg [V.int .i64 t.1, V.int .i64 t.2]))] [] (.bool (ssB s)) [] := by
 refine v_con [.tmp 2] [] Tryd.func38 rfl rfl rfl (by simp [Tryd.ntmps38]) ?_
 intro Q0 n0 r0
 simp only [Tryd.ntmps38, envFrom, Nat.reduceAdd]
 have T := Tys.mk (And.intro Ty.t3 (And.intro Ty.t4 (And.intro Ty.t51 Ty.t65)))
 have F := Fc.mk True.intro
 refine v_seqR [0] ?_; intro K1 k1
 refine zAssign ⟨?_⟩
 refine k1 _ ?_
 refine zk ⟨?_⟩
 refine v_seqR [2] ?_; intro K2 k2
 refine zMove ⟨?_⟩
 refine zc (areSignals_con s hs) ⟨?_⟩
 refine zAssign ⟨?_⟩
 refine k2 _ ?_
 refine zk ⟨?_⟩
 refine v_ret ?_
 refine r0 _ ?_
 refine zf ⟨?_⟩
 exact ret_pure rfl rfl (.inl rfl)
set_option maxHeartbeats 1000000 in
theorem qInts_con (l : List (Int)) (hl : l.length ≤ 1048576) : Con Tryd.prog 36 [.sl (l.map (V.int .i64)), .sl (l.map (V.int .i64))] [] (.bool true) [] := by
 refine v_con [.tmp 4] [] Tryd.func36 rfl rfl rfl (by simp [Tryd.ntmps36]) ?_
 intro Q0 n0 r0
 simp only [Tryd.ntmps36, envFrom, Nat.reduceAdd]
 have T := Tys.mk (And.intro Ty.t3 Ty.t48)
 have F := Fc.mk True.intro
 refine v_seqR [0,1] ?_; intro K1 k1
 refine zAssign ⟨?_⟩
 refine k1 _ ?_
 refine zk ⟨?_⟩
 refine v_seq ?_; intro Q2 n2 e2 r2
 refine v_seqR [0,1,10] ?_; intro K3 k3
 refine zMove ⟨?_⟩
 refine zLen ⟨?_⟩
 refine zMove ⟨?_⟩
 refine zLen ⟨?_⟩
 refine zBinOp ⟨?_⟩
 refine k3 _ ?_
 refine zk ⟨?_⟩
 refine v_cond _ rfl ?_ ?_
 ·intro hc0
  exfalso; simp at hc0
 ·intro hc0
  try simp only [zC, reduceCtorEq] at hc0
  refine v_skip ?_
  refine n2 _ _ (weak_keep [0, 1] _) ?_
  refine zk ⟨?_⟩
  refine v_seq ?_; intro Q5 n5 e5 r5
  refine v_seqR [0,1,12,13] ?_; intro K6 k6
  refine zMove ⟨?_⟩
  refine zLen ⟨?_⟩
  refine zMove ⟨?_⟩
  refine k6 _ ?_
  refine zk ⟨?_⟩
  refine v_block ?_; intro Q7 n7 x7 e7 r7
  refine v_loop (fun i => ⟨[(0, .sl (l.map (V.int .i64))), (1, .sl (l.map (V.int .i64))), (12, .int .i64 l.length), (13, .int .i64 (Nat.cast i))], [], false, 26, 0⟩) (fun i => i ≤ l.length) (fun i => l.length - i) 0 ?_ ?_ ?_
  ·refine weak_of [0, 1, 12, 13] ?_
   simp only [keep_mk, keepE_nil, keepE_cons, look_cons, look_nil, Nat.reduceEqDiff, reduceIte]
   rfl
  ·exact Nat.zero_le _
  ·rintro i hok8 Q8 n8 e8 r8
   have hi1 : i ≤ l.length := hok8
   refine v_seqR [0,1,12,13,14] ?_; intro K9 k9
   refine zBinOp ⟨?_⟩
   refine k9 _ ?_
   refine zk ⟨?_⟩
   refine v_seq ?_; intro Q10 n10 e10 r10
   refine v_condS _ rfl ?_ ?_
   ·intro hc1
    have hlt : i < l.length := by omega
    obtain ⟨x, hx⟩ : ∃ x, l[i]? = some x := ⟨l[i], List.getElem?_eq_getElem hlt⟩
    refine v_skip ?_
    refine n10 _ _ (weak_keep [0, 1, 12, 13] _) ?_
    refine zk ⟨?_⟩
    refine v_seq ?_; intro Q12 n12 e12 r12
    refine v_block ?_; intro Q13 n13 x13 e13 r13
    refine v_seqR [0,1,5,12,13] ?_; intro K14 k14
    have F := Fc.mk (fun f => getD_map (f := f) hx)
    refine zMove ⟨?_⟩
    refine zAssign ⟨?_⟩
    refine k14 _ ?_
    refine zk ⟨?_⟩
    refine v_seq ?_; intro Q15 n15 e15 r15
    refine v_draw (by kernel_rfl) ?_; intro K16 q16 k16
    show aAny _ _ _ _ 9 (Array.replicate 9 false) _
    refine zdMove q16 true 0 16 ?_
    refine zdMove q16 true 1 17 ?_
    refine zdIndexAddr q16 true 2 18 ?_
    refine zdLoad q16 true 3 19 ?_
    refine zdMove q16 true 4 20 ?_
    refine zdMove q16 true 5 21 ?_
    refine zdIndexAddr q16 true 6 22 ?_
    refine zdLoad q16 true 7 23 ?_
    refine zdBinOp q16 true 8 24 ?_
    refine aAny_done (by kernel_rfl) ?_
    refine k16 _ ?_
    refine n15 _ _ (weak_keep [0, 1, 12, 13, 24] _) ?_
    refine zk ⟨?_⟩
    refine v_cond _ rfl ?_ ?_
    ·intro hc2
     exfalso; simp at hc2
    ·intro hc2
     try simp only [zC, reduceCtorEq] at hc2
     refine v_skip ?_
     refine n13 _ ?_
     refine n12 _ _ (weak_keep [0, 1, 12, 13] _) ?_
     refine zk ⟨?_⟩
     refine v_region ?_; intro K18 k18
     refine zBinOpW ⟨?_⟩
     refine zMove ⟨?_⟩
     refine k18 _ ?_
     refine n8 _ (i + 1) ?_ ?_ ?_
     ·refine weak_bothS [0, 1, 12, 13] [] ⟨?_⟩
      rfl
     ·exact hlt
     ·show _ < _; omega
   ·intro hc1
    refine v_exit ?_
    refine e10 _ _ ?_
    refine e8 _ _ ?_
    refine x7 _ ?_
    refine n5 _ _ (weak_keep [] _) ?_
    refine zk ⟨?_⟩
    refine v_seqR [4] ?_; intro K19 k19
    refine zAssign ⟨?_⟩
    refine k19 _ ?_
    refine zk ⟨?_⟩
    refine v_ret ?_
    refine r0 _ ?_
    refine zf ⟨?_⟩
    exact ret_pure rfl rfl (.inl rfl)
set_option maxHeartbeats 1000000 in
theorem qHas_con (l : List Int) (x : Int) (hl : l.length ≤ 1048576) : Con Tryd.prog 41 [.sl (l.map (V.int .i64)), .int .i64 x] [] (.bool (decide (x ∈ l))) [] := by
 refine v_con [.tmp 4] [] Tryd.func41 rfl rfl rfl (by simp [Tryd.ntmps41]) ?_
 intro Q0 n0 r0
 simp only [Tryd.ntmps41, envFrom, Nat.reduceAdd]
 have T := Tys.mk (And.intro Ty.t3 Ty.t48)
 have F := Fc.mk True.intro
 refine v_seqR [0,1] ?_; intro K1 k1
 refine zAssign ⟨?_⟩
 refine k1 _ ?_
 refine zk ⟨?_⟩
 refine v_seq ?_; intro Q2 n2 e2 r2
 refine v_seqR [1,7,8,9] ?_; intro K3 k3
 refine zMove ⟨?_⟩
 refine zLen ⟨?_⟩
 refine zMove ⟨?_⟩
 refine k3 _ ?_
 refine zk ⟨?_⟩
 refine v_block ?_; intro Q4 n4 x4 e4 r4
 refine v_loop (fun i => ⟨[(1, .int .i64 x), (7, .sl (l.map (V.int .i64))), (8, .int .i64 l.length), (9, .int .i64 (Nat.cast i))], [], false, 17, 0⟩) (fun i => i ≤ l.length ∧ (x ∈ l.drop i ↔ x ∈ l)) (fun i => l.length - i) 0 ?_ ?_ ?_
 ·refine weak_of [1, 7, 8, 9] ?_
  simp only [keep_mk, keepE_nil, keepE_cons, look_cons, look_nil, Nat.reduceEqDiff, reduceIte]
  rfl
 ·exact ⟨Nat.zero_le _, Iff.rfl⟩
 ·rintro i hok5 Q5 n5 e5 r5
  obtain ⟨hi1, hR⟩ := hok5
  refine v_seqR [1,7,8,9,10] ?_; intro K6 k6
  refine zBinOp ⟨?_⟩
  refine k6 _ ?_
  refine zk ⟨?_⟩
  refine v_seq ?_; intro Q7 n7 e7 r7
  refine v_condS _ rfl ?_ ?_
  ·intro hc0
   have hlt : i < l.length := by omega
   obtain ⟨y, hy⟩ : ∃ y, l[i]? = some y := ⟨l[i], List.getElem?_eq_getElem hlt⟩
   have hst : x ∈ l.drop i ↔ (x = y ∨ x ∈ l.drop (i + 1)) := by rw [getElem_drop_cons hy, List.mem_cons]
   refine v_skip ?_
   refine n7 _ _ (weak_keep [1, 7, 8, 9] _) ?_
   refine zk ⟨?_⟩
   refine v_seq ?_; intro Q9 n9 e9 r9
   refine v_block ?_; intro Q10 n10 x10 e10 r10
   refine v_seqR [1,6,7,8,9] ?_; intro K11 k11
   have F := Fc.mk (fun f => getD_map (f := f) hy)
   refine zIndexAddr ⟨?_⟩
   refine zLoad ⟨?_⟩
   refine zAssign ⟨?_⟩
   refine k11 _ ?_
   refine zk ⟨?_⟩
   refine v_seqR [1,7,8,9,15] ?_; intro K12 k12
   refine zMove ⟨?_⟩
   refine zMove ⟨?_⟩
   refine zBinOp ⟨?_⟩
   refine k12 _ ?_
   refine zk ⟨?_⟩
   refine v_condS _ rfl ?_ ?_
   ·intro hc1
    refine v_seqR [4] ?_; intro K14 k14
    refine zAssign ⟨?_⟩
    refine k14 _ ?_
    refine zk ⟨?_⟩
    refine v_ret ?_
    refine r10 _ ?_
    refine r9 _ ?_
    refine r5 _ ?_
    refine r4 _ ?_
    refine r2 _ ?_
    refine r0 _ ?_
    refine zf ⟨?_⟩
    exact ret_pure rfl (by rw [decide_eq_true (hR.1 (hst.2 (.inl hc1.symm)))]) (.inl rfl)
   ·intro hc1
    refine v_skip ?_
    refine n10 _ ?_
    refine n9 _ _ (weak_keep [1, 7, 8, 9] _) ?_
    refine zk ⟨?_⟩
    refine v_region ?_; intro K15 k15
    refine zBinOpW ⟨?_⟩
    refine zMove ⟨?_⟩
    refine k15 _ ?_
    refine n5 _ (i + 1) ?_ ?_ ?_
    ·refine weak_of [1, 7, 8, 9] ?_
     simp only [keep_mk, keepE_nil, keepE_cons, look_cons, look_nil, Nat.reduceEqDiff, reduceIte]
     rfl
    ·exact ⟨by omega, hR.symm.trans (hst.trans ⟨fun h => h.elim (fun q => absurd q.symm hc1) id, .inr⟩) |>.symm⟩
    ·show _ < _; omega
  ·intro hc0
   refine v_exit ?_
   refine e7 _ _ ?_
   refine e5 _ _ ?_
   refine x4 _ ?_
   refine n2 _ _ (weak_keep [] _) ?_
   refine zk ⟨?_⟩
   refine v_seqR [4] ?_; intro K16 k16
   refine zAssign ⟨?_⟩
   refine k16 _ ?_
   refine zk ⟨?_⟩
   refine v_ret ?_
   refine r0 _ ?_
   refine zf ⟨?_⟩
   exact ret_pure rfl (by rw [decide_eq_false (fun h => by have := hR.2 h; rw [List.drop_of_length_le (by omega)] at this; cases this)]) (.inl rfl)
set_option maxHeartbeats 1000000 in
theorem qDetectors_con (l : List (Int × Int × Int × Bool)) (hl : l.length ≤ 1048576) : Con Tryd.prog 35 [.sl (l.map (fun t : Int × Int × Int × Bool => V.agg [V.int .i64 t.1, V.int .i64 t.2.1, V.int .i64 t.2.2.1, V.bool t.2.2.2])), .sl (l.map (fun t : Int × Int × Int × Bool => V.agg [V.int .i64 t.1, V.int .i64 t.2.1, V.int .i64 t.2.2.1, V.bool t.2.2.2]))] [] (.bool true) [] := by
 refine v_con [.tmp 4] [] Tryd.func35 rfl rfl rfl (by simp [Tryd.ntmps35]) ?_
 intro Q0 n0 r0
 simp only [Tryd.ntmps35, envFrom, Nat.reduceAdd]
 have T := Tys.mk (And.intro Ty.t3 (And.intro Ty.t4 (And.intro Ty.t33 Ty.t61)))
 have F := Fc.mk True.intro
 refine v_seqR [0,1] ?_; intro K1 k1
 refine zAssign ⟨?_⟩
 refine k1 _ ?_
 refine zk ⟨?_⟩
 refine v_seq ?_; intro Q2 n2 e2 r2
 refine v_seqR [0,1,10] ?_; intro K3 k3
 refine zMove ⟨?_⟩
 refine zLen ⟨?_⟩
 refine zMove ⟨?_⟩
 refine zLen ⟨?_⟩
 refine zBinOp ⟨?_⟩
 refine k3 _ ?_
 refine zk ⟨?_⟩
 refine v_cond _ rfl ?_ ?_
 ·intro hc0
  exfalso; simp at hc0
 ·intro hc0
  try simp only [zC, reduceCtorEq] at hc0
  refine v_skip ?_
  refine n2 _ _ (weak_keep [0, 1] _) ?_
  refine zk ⟨?_⟩
  refine v_seq ?_; intro Q5 n5 e5 r5
  refine v_seqR [0,1,12,13] ?_; intro K6 k6
  refine zMove ⟨?_⟩
  refine zLen ⟨?_⟩
  refine zMove ⟨?_⟩
  refine k6 _ ?_
  refine zk ⟨?_⟩
  refine v_block ?_; intro Q7 n7 x7 e7 r7
  refine v_loop (fun i => ⟨[(0, .sl (l.map (fun t : Int × Int × Int × Bool => V.agg [V.int .i64 t.1, V.int .i64 t.2.1, V.int .i64 t.2.2.1, V.bool t.2.2.2]))), (1, .sl (l.map (fun t : Int × Int × Int × Bool => V.agg [V.int .i64 t.1, V.int .i64 t.2.1, V.int .i64 t.2.2.1, V.bool t.2.2.2]))), (12, .int .i64 l.length), (13, .int .i64 (Nat.cast i))], [], false, 26, 0⟩) (fun i => i ≤ l.length) (fun i => l.length - i) 0 ?_ ?_ ?_
  ·refine weak_of [0, 1, 12, 13] ?_
   simp only [keep_mk, keepE_nil, keepE_cons, look_cons, look_nil, Nat.reduceEqDiff, reduceIte]
   rfl
  ·exact Nat.zero_le _
  ·rintro i hok8 Q8 n8 e8 r8
   have hi1 : i ≤ l.length := hok8
   refine v_seqR [0,1,12,13,14] ?_; intro K9 k9
   refine zBinOp ⟨?_⟩
   refine k9 _ ?_
   refine zk ⟨?_⟩
   refine v_seq ?_; intro Q10 n10 e10 r10
   refine v_condS _ rfl ?_ ?_
   ·intro hc1
    have hlt : i < l.length := by omega
    obtain ⟨⟨x0, x1, x2, x3⟩, hx⟩ : ∃ x : Int × Int × Int × Bool, l[i]? = some x := ⟨l[i]'(by omega), List.getElem?_eq_getElem (by omega)⟩
    refine v_skip ?_
    refine n10 _ _ (weak_keep [0, 1, 12, 13] _) ?_
    refine zk ⟨?_⟩
    refine v_seq ?_; intro Q12 n12 e12 r12
    refine v_block ?_; intro Q13 n13 x13 e13 r13
    refine v_seqR [0,1,5,12,13] ?_; intro K14 k14
    have F := Fc.mk (fun f => getD_map (f := f) hx)
    refine zMove ⟨?_⟩
    refine zAssign ⟨?_⟩
    refine k14 _ ?_
    refine zk ⟨?_⟩
    refine v_seq ?_; intro Q15 n15 e15 r15
    refine v_draw (by kernel_rfl) ?_; intro K16 q16 k16
    show aAny _ _ _ _ 9 (Array.replicate 9 false) _
    refine zdMove q16 true 0 16 ?_
    refine zdMove q16 true 1 17 ?_
    refine zdIndexAddr q16 true 2 18 ?_
    refine zdLoad q16 true 3 19 ?_
    refine zdMove q16 true 4 20 ?_
    refine zdMove q16 true 5 21 ?_
    refine zdIndexAddr q16 true 6 22 ?_
    refine zdLoad q16 true 7 23 ?_
    refine zdBinOp q16 true 8 24 ?_
    refine aAny_done (by kernel_rfl) ?_
    refine k16 _ ?_
    refine n15 _ _ (weak_keep [0, 1, 12, 13, 24] _) ?_
    refine zk ⟨?_⟩
    refine v_cond _ rfl ?_ ?_
    ·intro hc2
     exfalso; simp at hc2
    ·intro hc2
     try simp only [zC, reduceCtorEq] at hc2
     refine v_skip ?_
     refine n13 _ ?_
     refine n12 _ _ (weak_keep [0, 1, 12, 13] _) ?_
     refine zk ⟨?_⟩
     refine v_region ?_; intro K18 k18
     refine zBinOpW ⟨?_⟩
     refine zMove ⟨?_⟩
     refine k18 _ ?_
     refine n8 _ (i + 1) ?_ ?_ ?_
     ·refine weak_bothS [0, 1, 12, 13] [] ⟨?_⟩
      rfl
     ·exact hlt
     ·show _ < _; omega
   ·intro hc1
    refine v_exit ?_
    refine e10 _ _ ?_
    refine e8 _ _ ?_
    refine x7 _ ?_
    refine n5 _ _ (weak_keep [] _) ?_
    refine zk ⟨?_⟩
    refine v_seqR [4] ?_; intro K19 k19
    refine zAssign ⟨?_⟩
    refine k19 _ ?_
    refine zk ⟨?_⟩
    refine v_ret ?_
    refine r0 _ ?_
    refine zf ⟨?_⟩
    exact ret_pure rfl rfl (.inl rfl)
theorem u8_all {c : List Int} (h : ∀ a ∈ c, (Lit.int .u8 a).wf = true) : ∀ x ∈ c, 0 ≤ x ∧ x ≤ 255 := by
  intro x hx
  have := h x hx
  simp [Lit.wf, IntKind.min, IntKind.max, IntKind.signed, IntKind.bits] at this
  omega

def swD (off : Bool) (x : (Int × Int × Int × Bool)) : (Int × Int × Int × Bool) := (x.1, x.2.1, x.2.2.1, off)
def swAt (l : List (Int × Int × Int × Bool)) (j : Nat) (off : Bool) : List (Int × Int × Int × Bool) := match l[j]? with
  | some d => l.set j (swD off d)
  | none => l
def swB (l : List (Int × Int × Int × Bool)) (n : Int) : Bool := dsB l && decide (0 ≤ findD n 0 l)
def swR (l : List (Int × Int × Int × Bool)) (n : Int) (off : Bool) : List (Int × Int × Int × Bool) := if swB l n = true then swAt l (findD n 0 l).toNat off else []
theorem swAt_len (l : List (Int × Int × Int × Bool)) (j : Nat) (off : Bool) : (swAt l j off).length = l.length := by
  unfold swAt; split <;> simp
theorem swR_len (l : List (Int × Int × Int × Bool)) (n : Int) (off : Bool) : (swR l n off).length ≤ l.length := by
  unfold swR
  split
  · rw [swAt_len]; exact Nat.le_refl _
  · exact Nat.zero_le _
def openZ (l : List (Int × Int × Int × Bool)) (z : Int) : Bool := l.any (fun d => decide (d.2.1 = z)) && !l.any (fun d => decide (d.2.1 = z) && !d.2.2.2)
def openTo (l : List (Int × Int × Int × Bool)) : Nat → List Int
  | 0 => []
  | n + 1 => openTo l n ++ (if openZ l ((n : Int) + 1) = true then [(n : Int) + 1] else [])
theorem openTo_len (l : List (Int × Int × Int × Bool)) : ∀ n : Nat, (openTo l n).length ≤ n
  | 0 => Nat.le_refl 0
  | n + 1 => by
    have := openTo_len l n
    rw [openTo, List.length_append]
    split <;> simp <;> omega
def ozR (l : List (Int × Int × Int × Bool)) : List Int := if dsB l = true then openTo l 9 else []
theorem ozR_len (l : List (Int × Int × Int × Bool)) : (ozR l).length ≤ 9 := by
  unfold ozR
  split
  · exact openTo_len l 9
  · exact Nat.zero_le _
def cntZ (l : List (Int × Int × Int × Bool)) (z : Int) : Nat := (l.filter fun d => decide (d.2.1 = z)).length
def cntO (l : List (Int × Int × Int × Bool)) (z : Int) : Nat := (l.filter fun d => decide (d.2.1 = z) && d.2.2.2).length
theorem cntZ_step {l : List (Int × Int × Int × Bool)} {z : Int} {i : Nat} {x : (Int × Int × Int × Bool)} (h : l[i]? = some x) : cntZ (l.take (i + 1)) z = cntZ (l.take i) z + (if x.2.1 = z then 1 else 0) := by
  rw [cntZ, filter_step h, List.length_append, cntZ]
  by_cases q : x.2.1 = z <;> simp [q]
theorem cntO_step {l : List (Int × Int × Int × Bool)} {z : Int} {i : Nat} {x : (Int × Int × Int × Bool)} (h : l[i]? = some x) : cntO (l.take (i + 1)) z = cntO (l.take i) z + (if x.2.1 = z ∧ x.2.2.2 = true then 1 else 0) := by
  rw [cntO, filter_step h, List.length_append, cntO]
  by_cases q : x.2.1 = z <;> by_cases q2 : x.2.2.2 = true <;> simp [q, q2]
theorem cnt_open : ∀ (l : List (Int × Int × Int × Bool)) (z : Int), cntO l z ≤ cntZ l z ∧ (cntZ l z = cntO l z ↔ l.any (fun d => decide (d.2.1 = z) && !d.2.2.2) = false) ∧ (0 < cntZ l z ↔ l.any (fun d => decide (d.2.1 = z)) = true)
  | [], z => by simp [cntO, cntZ]
  | d :: l, z => by
    obtain ⟨h1, h2, h3⟩ := cnt_open l z
    have eZ : cntZ (d :: l) z = (if d.2.1 = z then 1 else 0) + cntZ l z := by
      unfold cntZ; by_cases q : d.2.1 = z <;> simp [q]; omega
    have eO : cntO (d :: l) z = (if d.2.1 = z ∧ d.2.2.2 = true then 1 else 0) + cntO l z := by
      unfold cntO; by_cases q : d.2.1 = z <;> by_cases q2 : d.2.2.2 = true <;> simp [q, q2]; omega
    rw [eZ, eO, List.any_cons, List.any_cons]
    by_cases q : d.2.1 = z
    · cases q2 : d.2.2.2 with
      | true => simp only [q, decide_true, Bool.not_true, Bool.and_false, Bool.false_or, Bool.true_or, and_self, if_true, iff_true]; refine ⟨by omega, ⟨fun e => h2.1 (by omega), fun e => by have := h2.2 e; omega⟩, by omega⟩
      | false => simp only [q, decide_true, Bool.not_false, Bool.and_true, Bool.true_or, Bool.false_eq_true, and_false, if_true, if_false, iff_false, iff_true, reduceCtorEq]; refine ⟨by omega, by omega, by omega⟩
    · simp only [q, decide_false, Bool.false_and, Bool.false_or, false_and, if_false]
      exact ⟨by omega, by rw [Nat.zero_add, Nat.zero_add]; exact h2, by rw [Nat.zero_add]; exact h3⟩
theorem openZ_cnt (l : List (Int × Int × Int × Bool)) (z : Int) : openZ l z = (decide (0 < cntZ l z) && decide (cntZ l z = cntO l z)) := by
  obtain ⟨_, h2, h3⟩ := cnt_open l z
  rw [openZ]
  congr 1
  · cases h : l.any (fun d => decide (d.2.1 = z)) with
    | true => rw [decide_eq_true (h3.2 h)]
    | false => rw [decide_eq_false (fun q => by rw [h3.1 q] at h; cases h)]
  · cases h : l.any (fun d => decide (d.2.1 = z) && !d.2.2.2) with
    | false => rw [decide_eq_true (h2.2 h)]; rfl
    | true => rw [decide_eq_false (fun q => by rw [h2.1 q] at h; cases h)]; rfl
theorem any_step {α : Type} {p : α → Bool} {l : List α} {i : Nat} {x : α} (h : l[i]? = some x) : (l.take (i + 1)).any p = ((l.take i).any p || p x) := by
  rw [List.take_add_one, h, Option.toList_some, List.any_append]; simp

set_option maxHeartbeats 1000000 in
theorem implSwitch_con (l : List (Int × Int × Int × Bool)) (n : Int) (off : Bool) (hl : l.length ≤ 1048576) : Con Tryd.prog 26 [.sl (l.map (fun t : Int × Int × Int × Bool => V.agg [V.int .i64 t.1, V.int .i64 t.2.1, V.int .i64 t.2.2.1, V.bool t.2.2.2])), .int .i64 n, .bool off] [] (.tup [.ref 0, .bool (swB l n)]) [.arr ((swR l n off).map (fun t : Int × Int × Int × Bool => V.agg [V.int .i64 t.1, V.int .i64 t.2.1, V.int .i64 t.2.2.1, V.bool t.2.2.2])) .flat] := by
 have hns : (l.map (fun t : Int × Int × Int × Bool => V.agg [V.int .i64 t.1, V.int .i64 t.2.1, V.int .i64 t.2.2.1, V.bool t.2.2.2])).all V.noSl = true := by rw [List.all_map, List.all_eq_true]; intro a _; rfl
 refine v_con [.tmp 6, .tmp 7] [] Tryd.func26 rfl rfl rfl (by simp [Tryd.ntmps26]) ?_
 intro Q0 n0 r0
 simp only [Tryd.ntmps26, envFrom, Nat.reduceAdd]
 have T := Tys.mk (And.intro Ty.t3 (And.intro Ty.t4 (And.intro Ty.t33 Ty.t61)))
 have F := Fc.mk True.intro
 refine v_seqR [0,1,2] ?_; intro K1 k1
 have F := Fc.mk hns
 refine zAssign ⟨?_⟩
 refine zAssign ⟨?_⟩
 refine k1 _ ?_
 refine zk ⟨?_⟩
 refine v_seqR [0,2,8] ?_; intro K2 k2
 refine zMove ⟨?_⟩
 refine zMove ⟨?_⟩
 refine zc (detectorAt_con l n hl) ⟨?_⟩
 refine zAssign ⟨?_⟩
 refine k2 _ ?_
 refine zk ⟨?_⟩
 refine v_seq ?_; intro Q3 n3 e3 r3
 refine v_seqR [0,2,8,19] ?_; intro K4 k4
 refine zMove ⟨?_⟩
 refine zc (areDetectors_con l hl) ⟨?_⟩
 refine zUnOp ⟨?_⟩
 refine zMove ⟨?_⟩
 refine zgMove ⟨?_⟩
 refine zgBinOp ⟨?_⟩
 refine zPick ⟨?_⟩
 refine k4 _ ?_
 refine zk ⟨?_⟩
 refine v_condS _ rfl ?_ ?_
 ·intro hc0
  have hB : swB l n = false := by
   cases hq : swB l n with
   |false => rfl
   |true =>
    exfalso
    simp only [swB, Bool.and_eq_true, decide_eq_true_eq] at hq
    first | (simp [hq.1] at hc0; omega) | (simp [hq.1, hq.2] at hc0; done)
  have hS : swR l n off = [] := by rw [swR, hB]; rfl
  refine v_seqR [6,7] ?_; intro K6 k6
  refine zAssign ⟨?_⟩
  refine zAssign ⟨?_⟩
  refine k6 _ ?_
  refine zk ⟨?_⟩
  refine v_ret ?_
  refine r3 _ ?_
  refine r0 _ ?_
  refine zf ⟨?_⟩
  rw [hS, hB]
  exact ret_ref_tup rfl rfl rfl (.inl rfl)
 ·intro hc0
  have hg : dsB l = true ∧ 0 ≤ findD n 0 l := by first | (simp at hc0; exact hc0) | exact hc0
  have hB : swB l n = true := by rw [swB, hg.1, decide_eq_true hg.2]; rfl
  obtain ⟨j, ⟨x0, x1, x2, x3⟩, hf1, hx⟩ : ∃ (j : Nat) (d : (Int × Int × Int × Bool)), findD n 0 l = (j : Int) ∧ l[j]? = some d := by
   rcases findD_det n l 0 with ⟨q, _⟩ | ⟨j, d, q1, q2, _⟩
   ·omega
   ·exact ⟨j, d, by rw [q1, Nat.zero_add], q2⟩
  have hidx : (findD n 0 l).toNat = j := by rw [hf1]; simp
  have hjl : j < l.length := (List.getElem?_eq_some_iff.1 hx).1
  have hS : swR l n off = l.set j (x0, x1, x2, off) := by rw [swR, hB, hidx, swAt, hx]; rfl
  refine v_skip ?_
  refine n3 _ _ (weak_keep [0, 2, 8] _) ?_
  refine zk ⟨?_⟩
  refine v_seqR [2,8,9] ?_; intro K7 k7
  have F := Fc.mk (And.intro hns (And.intro hidx (And.intro (fun f => getD_map (f := f) hx) @setat_Detector)))
  refine zMove ⟨?_⟩
  refine zc (cloneDetector_con l hl) ⟨?_⟩
  refine zAssign ⟨?_⟩
  refine k7 _ ?_
  refine zk ⟨?_⟩
  refine v_seqR [9] ?_; intro K8 k8
  refine zMove ⟨?_⟩
  refine zMove ⟨?_⟩
  refine zMove ⟨?_⟩
  refine zIndexAddr ⟨?_⟩
  refine zFieldAddr ⟨?_⟩
  refine zStore ⟨?_⟩
  refine k8 _ ?_
  refine zk ⟨?_⟩
  refine v_seqR [6,7] ?_; intro K9 k9
  refine zMove ⟨?_⟩
  refine zAssign ⟨?_⟩
  refine zAssign ⟨?_⟩
  refine k9 _ ?_
  refine zk ⟨?_⟩
  refine v_ret ?_
  refine r0 _ ?_
  refine zf ⟨?_⟩
  rw [hS, hB]
  exact ret_ref_tup rfl rfl rfl (.inl rfl)
set_option maxHeartbeats 1000000 in
theorem specSwitch_con (l : List (Int × Int × Int × Bool)) (n : Int) (off : Bool) (hl : l.length ≤ 1048576) : Con Tryd.prog 27 [.sl (l.map (fun t : Int × Int × Int × Bool => V.agg [V.int .i64 t.1, V.int .i64 t.2.1, V.int .i64 t.2.2.1, V.bool t.2.2.2])), .int .i64 n, .bool off] [] (.tup [.ref 0, .bool (swB l n)]) [.arr ((swR l n off).map (fun t : Int × Int × Int × Bool => V.agg [V.int .i64 t.1, V.int .i64 t.2.1, V.int .i64 t.2.2.1, V.bool t.2.2.2])) .flat] := by
 have hns : (l.map (fun t : Int × Int × Int × Bool => V.agg [V.int .i64 t.1, V.int .i64 t.2.1, V.int .i64 t.2.2.1, V.bool t.2.2.2])).all V.noSl = true := by rw [List.all_map, List.all_eq_true]; intro a _; rfl
 refine v_con [.tmp 6, .tmp 7] [] Tryd.func27 rfl rfl rfl (by simp [Tryd.ntmps27]) ?_
 intro Q0 n0 r0
 simp only [Tryd.ntmps27, envFrom, Nat.reduceAdd]
 have T := Tys.mk (And.intro Ty.t3 (And.intro Ty.t4 (And.intro Ty.t33 Ty.t61)))
 have F := Fc.mk True.intro
 refine v_seqR [0,1,2] ?_; intro K1 k1
 have F := Fc.mk hns
 refine zAssign ⟨?_⟩
 refine zAssign ⟨?_⟩
 refine k1 _ ?_
 refine zk ⟨?_⟩
 refine v_seqR [0,2,8] ?_; intro K2 k2
 refine zMove ⟨?_⟩
 refine zMove ⟨?_⟩
 refine zc (alFind_con l n hl) ⟨?_⟩
 refine zAssign ⟨?_⟩
 refine k2 _ ?_
 refine zk ⟨?_⟩
 refine v_seq ?_; intro Q3 n3 e3 r3
 refine v_seqR [0,2,8,20] ?_; intro K4 k4
 refine zMove ⟨?_⟩
 refine zc (alGood_con l hl) ⟨?_⟩
 refine zUnOp ⟨?_⟩
 refine zMove ⟨?_⟩
 refine zgMove ⟨?_⟩
 refine zgBinOp ⟨?_⟩
 refine zPick ⟨?_⟩
 refine k4 _ ?_
 refine zk ⟨?_⟩
 refine v_condS _ rfl ?_ ?_
 ·intro hc0
  have hB : swB l n = false := by
   cases hq : swB l n with
   |false => rfl
   |true =>
    exfalso
    simp only [swB, Bool.and_eq_true, decide_eq_true_eq] at hq
    first | (simp [hq.1] at hc0; omega) | (simp [hq.1, hq.2] at hc0; done)
  have hS : swR l n off = [] := by rw [swR, hB]; rfl
  refine v_seqR [6,7] ?_; intro K6 k6
  refine zAssign ⟨?_⟩
  refine zAssign ⟨?_⟩
  refine k6 _ ?_
  refine zk ⟨?_⟩
  refine v_ret ?_
  refine r3 _ ?_
  refine r0 _ ?_
  refine zf ⟨?_⟩
  rw [hS, hB]
  exact ret_ref_tup rfl rfl rfl (.inl rfl)
 ·intro hc0
  have hg : dsB l = true ∧ 0 ≤ findD n 0 l := by first | (simp at hc0; exact hc0) | exact hc0
  have hB : swB l n = true := by rw [swB, hg.1, decide_eq_true hg.2]; rfl
  obtain ⟨j, ⟨x0, x1, x2, x3⟩, hf1, hx⟩ : ∃ (j : Nat) (d : (Int × Int × Int × Bool)), findD n 0 l = (j : Int) ∧ l[j]? = some d := by
   rcases findD_det n l 0 with ⟨q, _⟩ | ⟨j, d, q1, q2, _⟩
   ·omega
   ·exact ⟨j, d, by rw [q1, Nat.zero_add], q2⟩
  have hidx : (findD n 0 l).toNat = j := by rw [hf1]; simp
  have hjl : j < l.length := (List.getElem?_eq_some_iff.1 hx).1
  have hS : swR l n off = l.set j (x0, x1, x2, off) := by rw [swR, hB, hidx, swAt, hx]; rfl
  refine v_skip ?_
  refine n3 _ _ (weak_keep [0, 2, 8] _) ?_
  refine zk ⟨?_⟩
  refine v_seqR [2,8,9] ?_; intro K7 k7
  have F := Fc.mk (And.intro hns (And.intro hidx (And.intro (fun f => getD_map (f := f) hx) @setat_Detector)))
  refine zBuildSlice ⟨?_⟩
  refine zMove ⟨?_⟩
  refine zAppend ⟨?_⟩
  refine zAssign ⟨?_⟩
  refine k7 _ ?_
  refine zk ⟨?_⟩
  refine v_seqR [2,8,9,10] ?_; intro K8 k8
  refine zMove ⟨?_⟩
  refine zMove ⟨?_⟩
  refine zIndexAddr ⟨?_⟩
  refine zLoad ⟨?_⟩
  refine zAlloc ⟨?_⟩
  refine zStore ⟨?_⟩
  refine k8 _ ?_
  refine zk ⟨?_⟩
  refine v_seqR [8,9,10] ?_; intro K9 k9
  refine zMove ⟨?_⟩
  refine zFieldAddr ⟨?_⟩
  refine zStore ⟨?_⟩
  refine k9 _ ?_
  refine zk ⟨?_⟩
  refine v_seqR [9] ?_; intro K10 k10
  refine zMove ⟨?_⟩
  refine zMove ⟨?_⟩
  refine zLoad ⟨?_⟩
  refine zIndexAddr ⟨?_⟩
  refine zStore ⟨?_⟩
  refine k10 _ ?_
  refine zk ⟨?_⟩
  refine v_seqR [6,7] ?_; intro K11 k11
  refine zMove ⟨?_⟩
  refine zAssign ⟨?_⟩
  refine zAssign ⟨?_⟩
  refine k11 _ ?_
  refine zk ⟨?_⟩
  refine v_ret ?_
  refine r0 _ ?_
  refine zf ⟨?_⟩
  rw [hS, hB]
  exact ret_ref_tup rfl rfl rfl (.inl rfl)
set_option maxHeartbeats 1000000 in
theorem implOpenZones_con (l : List (Int × Int × Int × Bool)) (hl : l.length ≤ 1048576) : Con Tryd.prog 28 [.sl (l.map (fun t : Int × Int × Int × Bool => V.agg [V.int .i64 t.1, V.int .i64 t.2.1, V.int .i64 t.2.2.1, V.bool t.2.2.2]))] [] (.tup [.ref 0, .bool (dsB l)]) [.arr ((ozR l).map (V.int .i64)) .flat] := by
 refine v_con [.tmp 2, .tmp 3] [] Tryd.func28 rfl rfl rfl (by simp [Tryd.ntmps28]) ?_
 intro Q0 n0 r0
 simp only [Tryd.ntmps28, envFrom, Nat.reduceAdd]
 have T := Tys.mk (And.intro Ty.t3 (And.intro Ty.t4 (And.intro Ty.t33 (And.intro Ty.t48 Ty.t61))))
 have F := Fc.mk True.intro
 refine v_seqR [0] ?_; intro K1 k1
 refine zAssign ⟨?_⟩
 refine zAssign ⟨?_⟩
 refine k1 _ ?_
 refine zk ⟨?_⟩
 refine v_seq ?_; intro Q2 n2 e2 r2
 refine v_seqR [0,12] ?_; intro K3 k3
 refine zMove ⟨?_⟩
 refine zc (areDetectors_con l hl) ⟨?_⟩
 refine zUnOp ⟨?_⟩
 refine k3 _ ?_
 refine zk ⟨?_⟩
 refine v_condS _ rfl ?_ ?_
 ·intro hc0
  refine v_seqR [2,3] ?_; intro K5 k5
  refine zAssign ⟨?_⟩
  refine zAssign ⟨?_⟩
  refine k5 _ ?_
  refine zk ⟨?_⟩
  refine v_ret ?_
  refine r2 _ ?_
  refine r0 _ ?_
  refine zf ⟨?_⟩
  rw [show ozR l = [] by rw [ozR, hc0]; rfl, hc0]
  exact ret_ref_tup rfl rfl rfl (.inl rfl)
 ·intro hc0
  refine v_skip ?_
  refine n2 _ _ (weak_keep [0] _) ?_
  refine zk ⟨?_⟩
  refine v_seqR [0,4] ?_; intro K6 k6
  refine zAssign ⟨?_⟩
  refine k6 _ ?_
  refine zk ⟨?_⟩
  refine v_seq ?_; intro Q7 n7 e7 r7
  refine v_seqR [0,4,5] ?_; intro K8 k8
  refine zAssign ⟨?_⟩
  refine k8 _ ?_
  refine zk ⟨?_⟩
  refine v_block ?_; intro Q9 n9 x9 e9 r9
  refine v_loop (fun p => ⟨[(0, .sl (l.map (fun t : Int × Int × Int × Bool => V.agg [V.int .i64 t.1, V.int .i64 t.2.1, V.int .i64 t.2.2.1, V.bool t.2.2.2]))), (4, .ref 0), (5, .int .i64 ((p.1 : Int) + 1))], [.arr (p.2.map (V.int .i64)) .flat], false, 46, 0⟩) (fun p => p.1 ≤ 9 ∧ p.2.length ≤ p.1 ∧ p.2 = openTo l p.1) (fun p => 9 - p.1) ((0, []) : Nat × List Int) ?_ ?_ ?_
  ·refine weak_bothS [0, 4, 5] [1] ⟨?_⟩
   rfl
  ·exact ⟨Nat.zero_le _, Nat.le_refl _, rfl⟩
  ·rintro ⟨i, acc⟩ hok10 Q10 n10 e10 r10
   obtain ⟨hi1, hal, hR⟩ := hok10
   simp only [] at hi1 hal hR ⊢
   refine v_seq ?_; intro Q11 n11 e11 r11
   refine v_seqR [0,4,5,14] ?_; intro K12 k12
   refine zMove ⟨?_⟩
   refine zBinOp ⟨?_⟩
   refine k12 _ ?_
   refine zk ⟨?_⟩
   refine v_condS _ rfl ?_ ?_
   ·intro hc1
    have hlt : i < 9 := by omega
    refine v_skip ?_
    refine n11 _ _ (weak_keep [0, 4, 5] _) ?_
    refine zk ⟨?_⟩
    refine v_seq ?_; intro Q14 n14 e14 r14
    refine v_block ?_; intro Q15 n15 x15 e15 r15
    refine v_seqR [0,4,5,6,7] ?_; intro K16 k16
    refine zAssign ⟨?_⟩
    refine zAssign ⟨?_⟩
    refine k16 _ ?_
    refine zk ⟨?_⟩
    refine v_seq ?_; intro Q17 n17 e17 r17
    refine v_seqR [0,4,5,6,7,17,18,19] ?_; intro K18 k18
    refine zMove ⟨?_⟩
    refine zLen ⟨?_⟩
    refine zMove ⟨?_⟩
    refine k18 _ ?_
    refine zk ⟨?_⟩
    refine v_block ?_; intro Q19 n19 x19 e19 r19
    refine v_loop (fun q => ⟨[(0, .sl (l.map (fun t : Int × Int × Int × Bool => V.agg [V.int .i64 t.1, V.int .i64 t.2.1, V.int .i64 t.2.2.1, V.bool t.2.2.2]))), (4, .ref 0), (5, .int .i64 ((i : Int) + 1)), (6, .int .i64 (Nat.cast q.2.1)), (7, .int .i64 (Nat.cast q.2.2)), (17, .sl (l.map (fun t : Int × Int × Int × Bool => V.agg [V.int .i64 t.1, V.int .i64 t.2.1, V.int .i64 t.2.2.1, V.bool t.2.2.2]))), (18, .int .i64 l.length), (19, .int .i64 (Nat.cast q.1))], [.arr (acc.map (V.int .i64)) .flat], false, 46, 0⟩) (fun q => q.1 ≤ l.length ∧ (q.2.1 ≤ q.1 ∧ q.2.2 ≤ q.1) ∧ q.2.1 = cntZ (l.take q.1) ((i : Int) + 1) ∧ q.2.2 = cntO (l.take q.1) ((i : Int) + 1)) (fun q => l.length - q.1) ((0, 0, 0) : Nat × Nat × Nat) ?_ ?_ ?_
    ·refine weak_bothS [0, 4, 5, 6, 7, 17, 18, 19] [0] ⟨?_⟩
     rfl
    ·exact ⟨Nat.zero_le _, ⟨Nat.le_refl _, Nat.le_refl _⟩, rfl, rfl⟩
    ·rintro ⟨j, n, m⟩ hok20 Q20 n20 e20 r20
     obtain ⟨hj1, hb, hn, hm⟩ := hok20
     simp only [] at hj1 hb hn hm ⊢
     refine v_seqR [0,4,5,6,7,17,18,19,20] ?_; intro K21 k21
     refine zBinOp ⟨?_⟩
     refine k21 _ ?_
     refine zk ⟨?_⟩
     refine v_seq ?_; intro Q22 n22 e22 r22
     refine v_condS _ rfl ?_ ?_
     ·intro hc2
      have hlj : j < l.length := by omega
      obtain ⟨⟨x0, x1, x2, x3⟩, hx⟩ : ∃ x : Int × Int × Int × Bool, l[j]? = some x := ⟨l[j]'(by omega), List.getElem?_eq_getElem (by omega)⟩
      have hz1 := cntZ_step (z := ((i : Int) + 1)) hx
      have hz2 := cntO_step (z := ((i : Int) + 1)) hx
      refine v_skip ?_
      refine n22 _ _ (weak_keep [0, 4, 5, 6, 7, 17, 18, 19] _) ?_
      refine zk ⟨?_⟩
      refine v_seq ?_; intro Q24 n24 e24 r24
      refine v_block ?_; intro Q25 n25 x25 e25 r25
      refine v_seqR [0,4,5,6,7,9,17,18,19] ?_; intro K26 k26
      have F := Fc.mk (fun f => getD_map (f := f) hx)
      refine zIndexAddr ⟨?_⟩
      refine zLoad ⟨?_⟩
      refine zAlloc ⟨?_⟩
      refine zStore ⟨?_⟩
      refine k26 _ ?_
      refine zk ⟨?_⟩
      refine v_seqR [0,4,5,6,7,9,17,18,19,26] ?_; intro K27 k27
      refine zFieldAddr ⟨?_⟩
      refine zLoad ⟨?_⟩
      refine zMove ⟨?_⟩
      refine zBinOp ⟨?_⟩
      refine k27 _ ?_
      refine zk ⟨?_⟩
      refine v_condS _ rfl ?_ ?_
      ·intro hc3
       refine v_seqR [0,4,5,6,7,9,17,18,19] ?_; intro K29 k29
       refine zMove ⟨?_⟩
       refine zBinOpW ⟨?_⟩
       refine zAssign ⟨?_⟩
       refine k29 _ ?_
       refine zk ⟨?_⟩
       refine v_seqR [0,4,5,6,7,17,18,19,30] ?_; intro K30 k30
       refine zFieldAddr ⟨?_⟩
       refine zLoad ⟨?_⟩
       refine k30 _ ?_
       refine zk ⟨?_⟩
       refine v_condS _ rfl ?_ ?_
       ·intro hc4
        refine v_region ?_; intro K32 k32
        refine zMove ⟨?_⟩
        refine zBinOpW ⟨?_⟩
        refine zAssign ⟨?_⟩
        refine k32 _ ?_
        refine n25 _ ?_
        refine n24 _ _ (weak_keep [0, 4, 5, 6, 7, 17, 18, 19] _) ?_
        refine zk ⟨?_⟩
        refine v_region ?_; intro K33 k33
        refine zBinOpW ⟨?_⟩
        refine zMove ⟨?_⟩
        refine k33 _ ?_
        refine n20 _ (j + 1, n + 1, m + 1) ?_ ?_ ?_
        ·refine weak_bothS [0, 4, 5, 6, 7, 17, 18, 19] [0] ⟨?_⟩
         rfl
        ·exact ⟨hlj, by show n + 1 ≤ j + 1 ∧ m + 1 ≤ j + 1; omega, by show n + 1 = _; rw [hz1, ← hn, if_pos hc3], by show m + 1 = _; rw [hz2, ← hm, if_pos ⟨hc3, hc4⟩]⟩
        ·show _ < _; show l.length - (j + 1) < l.length - j; omega
       ·intro hc4
        refine v_skip ?_
        refine n25 _ ?_
        refine n24 _ _ (weak_keep [0, 4, 5, 6, 7, 17, 18, 19] _) ?_
        refine zk ⟨?_⟩
        refine v_region ?_; intro K34 k34
        refine zBinOpW ⟨?_⟩
        refine zMove ⟨?_⟩
        refine k34 _ ?_
        refine n20 _ (j + 1, n + 1, m) ?_ ?_ ?_
        ·refine weak_bothS [0, 4, 5, 6, 7, 17, 18, 19] [0] ⟨?_⟩
         rfl
        ·exact ⟨hlj, by show n + 1 ≤ j + 1 ∧ m ≤ j + 1; omega, by show n + 1 = _; rw [hz1, ← hn, if_pos hc3], by show m = _; rw [hz2, ← hm, if_neg (by rintro ⟨_, z⟩; first | exact hc4 z | (rw [z] at hc4; cases hc4) | simp_all)]; rfl⟩
        ·show _ < _; show l.length - (j + 1) < l.length - j; omega
      ·intro hc3
       refine v_skip ?_
       refine n25 _ ?_
       refine n24 _ _ (weak_keep [0, 4, 5, 6, 7, 17, 18, 19] _) ?_
       refine zk ⟨?_⟩
       refine v_region ?_; intro K35 k35
       refine zBinOpW ⟨?_⟩
       refine zMove ⟨?_⟩
       refine k35 _ ?_
       refine n20 _ (j + 1, n, m) ?_ ?_ ?_
       ·refine weak_bothS [0, 4, 5, 6, 7, 17, 18, 19] [0] ⟨?_⟩
        rfl
       ·exact ⟨hlj, by show n ≤ j + 1 ∧ m ≤ j + 1; omega, by show n = _; rw [hz1, ← hn, if_neg hc3]; rfl, by show m = _; rw [hz2, ← hm, if_neg (fun q => hc3 q.1)]; rfl⟩
       ·show _ < _; show l.length - (j + 1) < l.length - j; omega
     ·intro hc2
      have hzz : openZ l ((i : Int) + 1) = (decide (0 < n) && decide (n = m)) := by rw [openZ_cnt, hn, hm, List.take_of_length_le (by omega)]
      refine v_exit ?_
      refine e22 _ _ ?_
      refine e20 _ _ ?_
      refine x19 _ ?_
      refine n17 _ _ (weak_keep [0, 4, 5, 6, 7] _) ?_
      refine zk ⟨?_⟩
      refine v_seqR [0,4,5,40] ?_; intro K36 k36
      refine zMove ⟨?_⟩
      refine zBinOp ⟨?_⟩
      refine zMove ⟨?_⟩
      refine zgMove ⟨?_⟩
      refine zgMove ⟨?_⟩
      refine zgBinOp ⟨?_⟩
      refine zPick ⟨?_⟩
      refine k36 _ ?_
      refine zk ⟨?_⟩
      refine v_condS _ rfl ?_ ?_
      ·intro hc5
       have hoz : openZ l ((i : Int) + 1) = true := by rw [hzz]; simp at hc5 ⊢; omega
       refine v_region ?_; intro K38 k38
       refine zMove ⟨?_⟩
       refine zMove ⟨?_⟩
       refine zBuildSlice ⟨?_⟩
       refine zAppend ⟨?_⟩
       refine zAssign ⟨?_⟩
       refine k38 _ ?_
       refine n15 _ ?_
       refine n14 _ _ (weak_keep [0, 4, 5] _) ?_
       refine zk ⟨?_⟩
       refine v_region ?_; intro K39 k39
       refine zMove ⟨?_⟩
       refine zBinOpW ⟨?_⟩
       refine zAssign ⟨?_⟩
       refine k39 _ ?_
       refine n10 _ (i + 1, acc ++ [((i : Int) + 1)]) ?_ ?_ ?_
       ·refine weak_bothS [0, 4, 5] [2] ⟨?_⟩
        rw [snoc_zone]; rfl
       ·exact ⟨hlt, by show (acc ++ _).length ≤ i + 1; simp; omega, by show acc ++ _ = openTo l (i + 1); rw [openTo, ← hR, if_pos hoz]⟩
       ·show _ < _; show 9 - (i + 1) < 9 - i; omega
      ·intro hc5
       have hoz : ¬ openZ l ((i : Int) + 1) = true := by rw [hzz]; simp at hc5 ⊢; omega
       refine v_skip ?_
       refine n15 _ ?_
       refine n14 _ _ (weak_keep [0, 4, 5] _) ?_
       refine zk ⟨?_⟩
       refine v_region ?_; intro K40 k40
       refine zMove ⟨?_⟩
       refine zBinOpW ⟨?_⟩
       refine zAssign ⟨?_⟩
       refine k40 _ ?_
       refine n10 _ (i + 1, acc) ?_ ?_ ?_
       ·refine weak_bothS [0, 4, 5] [0] ⟨?_⟩
        rfl
       ·exact ⟨hlt, by show acc.length ≤ i + 1; omega, by show acc = openTo l (i + 1); rw [openTo, ← hR, if_neg hoz, List.append_nil]⟩
       ·show _ < _; show 9 - (i + 1) < 9 - i; omega
   ·intro hc1
    refine v_exit ?_
    refine e11 _ _ ?_
    refine e10 _ _ ?_
    refine x9 _ ?_
    refine n7 _ _ (weak_keep [4] _) ?_
    refine zk ⟨?_⟩
    refine v_seqR [2,3] ?_; intro K41 k41
    refine zMove ⟨?_⟩
    refine zAssign ⟨?_⟩
    refine zAssign ⟨?_⟩
    refine k41 _ ?_
    refine zk ⟨?_⟩
    refine v_ret ?_
    refine r0 _ ?_
    refine zf ⟨?_⟩
    have hend : i = 9 := by omega
    subst hend
    rw [show ozR l = acc by rw [ozR, hc0, hR]; rfl, hc0]
    exact ret_ref_tup rfl rfl rfl (.inl rfl)
set_option maxHeartbeats 1000000 in
theorem specOpenZones_con (l : List (Int × Int × Int × Bool)) (hl : l.length ≤ 1048576) : Con Tryd.prog 29 [.sl (l.map (fun t : Int × Int × Int × Bool => V.agg [V.int .i64 t.1, V.int .i64 t.2.1, V.int .i64 t.2.2.1, V.bool t.2.2.2]))] [] (.tup [.ref 0, .bool (dsB l)]) [.arr ((ozR l).map (V.int .i64)) .flat] := by
 refine v_con [.tmp 2, .tmp 3] [] Tryd.func29 rfl rfl rfl (by simp [Tryd.ntmps29]) ?_
 intro Q0 n0 r0
 simp only [Tryd.ntmps29, envFrom, Nat.reduceAdd]
 have T := Tys.mk (And.intro Ty.t3 (And.intro Ty.t4 (And.intro Ty.t33 (And.intro Ty.t48 Ty.t61))))
 have F := Fc.mk True.intro
 refine v_seqR [0] ?_; intro K1 k1
 refine zAssign ⟨?_⟩
 refine zAssign ⟨?_⟩
 refine k1 _ ?_
 refine zk ⟨?_⟩
 refine v_seq ?_; intro Q2 n2 e2 r2
 refine v_seqR [0,12] ?_; intro K3 k3
 refine zMove ⟨?_⟩
 refine zc (alGood_con l hl) ⟨?_⟩
 refine zUnOp ⟨?_⟩
 refine k3 _ ?_
 refine zk ⟨?_⟩
 refine v_condS _ rfl ?_ ?_
 ·intro hc0
  refine v_seqR [2,3] ?_; intro K5 k5
  refine zAssign ⟨?_⟩
  refine zAssign ⟨?_⟩
  refine k5 _ ?_
  refine zk ⟨?_⟩
  refine v_ret ?_
  refine r2 _ ?_
  refine r0 _ ?_
  refine zf ⟨?_⟩
  rw [show ozR l = [] by rw [ozR, hc0]; rfl, hc0]
  exact ret_ref_tup rfl rfl rfl (.inl rfl)
 ·intro hc0
  refine v_skip ?_
  refine n2 _ _ (weak_keep [0] _) ?_
  refine zk ⟨?_⟩
  refine v_seqR [0,4] ?_; intro K6 k6
  refine zAssign ⟨?_⟩
  refine k6 _ ?_
  refine zk ⟨?_⟩
  refine v_seq ?_; intro Q7 n7 e7 r7
  refine v_seqR [0,4,5] ?_; intro K8 k8
  refine zAssign ⟨?_⟩
  refine k8 _ ?_
  refine zk ⟨?_⟩
  refine v_block ?_; intro Q9 n9 x9 e9 r9
  refine v_loop (fun p => ⟨[(0, .sl (l.map (fun t : Int × Int × Int × Bool => V.agg [V.int .i64 t.1, V.int .i64 t.2.1, V.int .i64 t.2.2.1, V.bool t.2.2.2]))), (4, .ref 0), (5, .int .i64 ((p.1 : Int) + 1))], [.arr (p.2.map (V.int .i64)) .flat], false, 44, 0⟩) (fun p => p.1 ≤ 9 ∧ p.2.length ≤ p.1 ∧ p.2 = openTo l p.1) (fun p => 9 - p.1) ((0, []) : Nat × List Int) ?_ ?_ ?_
  ·refine weak_bothS [0, 4, 5] [1] ⟨?_⟩
   rfl
  ·exact ⟨Nat.zero_le _, Nat.le_refl _, rfl⟩
  ·rintro ⟨i, acc⟩ hok10 Q10 n10 e10 r10
   obtain ⟨hi1, hal, hR⟩ := hok10
   simp only [] at hi1 hal hR ⊢
   refine v_seq ?_; intro Q11 n11 e11 r11
   refine v_seqR [0,4,5,14] ?_; intro K12 k12
   refine zMove ⟨?_⟩
   refine zBinOp ⟨?_⟩
   refine k12 _ ?_
   refine zk ⟨?_⟩
   refine v_condS _ rfl ?_ ?_
   ·intro hc1
    have hlt : i < 9 := by omega
    refine v_skip ?_
    refine n11 _ _ (weak_keep [0, 4, 5] _) ?_
    refine zk ⟨?_⟩
    refine v_seq ?_; intro Q14 n14 e14 r14
    refine v_block ?_; intro Q15 n15 x15 e15 r15
    refine v_seqR [0,4,5,6,7] ?_; intro K16 k16
    refine zAssign ⟨?_⟩
    refine zAssign ⟨?_⟩
    refine k16 _ ?_
    refine zk ⟨?_⟩
    refine v_seq ?_; intro Q17 n17 e17 r17
    refine v_seqR [0,4,5,6,7,17,18,19] ?_; intro K18 k18
    refine zMove ⟨?_⟩
    refine zLen ⟨?_⟩
    refine zMove ⟨?_⟩
    refine k18 _ ?_
    refine zk ⟨?_⟩
    refine v_block ?_; intro Q19 n19 x19 e19 r19
    refine v_loop (fun q => ⟨[(0, .sl (l.map (fun t : Int × Int × Int × Bool => V.agg [V.int .i64 t.1, V.int .i64 t.2.1, V.int .i64 t.2.2.1, V.bool t.2.2.2]))), (4, .ref 0), (5, .int .i64 ((i : Int) + 1)), (6, .bool q.2.1), (7, .bool q.2.2), (17, .sl (l.map (fun t : Int × Int × Int × Bool => V.agg [V.int .i64 t.1, V.int .i64 t.2.1, V.int .i64 t.2.2.1, V.bool t.2.2.2]))), (18, .int .i64 l.length), (19, .int .i64 (Nat.cast q.1))], [.arr (acc.map (V.int .i64)) .flat], false, 44, 0⟩) (fun q => q.1 ≤ l.length ∧ q.2.1 = (l.take q.1).any (fun d => decide (d.2.1 = ((i : Int) + 1))) ∧ q.2.2 = (l.take q.1).any (fun d => decide (d.2.1 = ((i : Int) + 1)) && !d.2.2.2)) (fun q => l.length - q.1) ((0, false, false) : Nat × Bool × Bool) ?_ ?_ ?_
    ·refine weak_bothS [0, 4, 5, 6, 7, 17, 18, 19] [0] ⟨?_⟩
     rfl
    ·exact ⟨Nat.zero_le _, rfl, rfl⟩
    ·rintro ⟨j, sm, lv⟩ hok20 Q20 n20 e20 r20
     obtain ⟨hj1, hn, hm⟩ := hok20
     simp only [] at hj1 hn hm ⊢
     refine v_seqR [0,4,5,6,7,17,18,19,20] ?_; intro K21 k21
     refine zBinOp ⟨?_⟩
     refine k21 _ ?_
     refine zk ⟨?_⟩
     refine v_seq ?_; intro Q22 n22 e22 r22
     refine v_condS _ rfl ?_ ?_
     ·intro hc2
      have hlj : j < l.length := by omega
      obtain ⟨⟨x0, x1, x2, x3⟩, hx⟩ : ∃ x : Int × Int × Int × Bool, l[j]? = some x := ⟨l[j]'(by omega), List.getElem?_eq_getElem (by omega)⟩
      have hz1 := any_step (p := fun d : (Int × Int × Int × Bool) => decide (d.2.1 = ((i : Int) + 1))) hx
      have hz2 := any_step (p := fun d : (Int × Int × Int × Bool) => decide (d.2.1 = ((i : Int) + 1)) && !d.2.2.2) hx
      refine v_skip ?_
      refine n22 _ _ (weak_keep [0, 4, 5, 6, 7, 17, 18, 19] _) ?_
      refine zk ⟨?_⟩
      refine v_seq ?_; intro Q24 n24 e24 r24
      refine v_block ?_; intro Q25 n25 x25 e25 r25
      refine v_seqR [0,4,5,6,7,9,17,18,19] ?_; intro K26 k26
      have F := Fc.mk (fun f => getD_map (f := f) hx)
      refine zIndexAddr ⟨?_⟩
      refine zLoad ⟨?_⟩
      refine zAlloc ⟨?_⟩
      refine zStore ⟨?_⟩
      refine k26 _ ?_
      refine zk ⟨?_⟩
      refine v_seqR [0,4,5,6,7,9,17,18,19,26] ?_; intro K27 k27
      refine zFieldAddr ⟨?_⟩
      refine zLoad ⟨?_⟩
      refine zMove ⟨?_⟩
      refine zBinOp ⟨?_⟩
      refine k27 _ ?_
      refine zk ⟨?_⟩
      refine v_condS _ rfl ?_ ?_
      ·intro hc3
       refine v_seqR [0,4,5,6,7,9,17,18,19] ?_; intro K29 k29
       refine zAssign ⟨?_⟩
       refine k29 _ ?_
       refine zk ⟨?_⟩
       refine v_region ?_; intro K30 k30
       refine zMove ⟨?_⟩
       refine zMove ⟨?_⟩
       refine zgFieldAddr ⟨?_⟩
       refine zgLoad ⟨?_⟩
       refine zgUnOp ⟨?_⟩
       refine zPick ⟨?_⟩
       refine zAssign ⟨?_⟩
       refine k30 _ ?_
       refine n25 _ ?_
       refine n24 _ _ (weak_keep [0, 4, 5, 6, 7, 17, 18, 19] _) ?_
       refine zk ⟨?_⟩
       refine v_region ?_; intro K31 k31
       refine zBinOpW ⟨?_⟩
       refine zMove ⟨?_⟩
       refine k31 _ ?_
       refine n20 _ (j + 1, true, lv || !x3) ?_ ?_ ?_
       ·refine weak_bothS [0, 4, 5, 6, 7, 17, 18, 19] [0] ⟨?_⟩
        rfl
       ·exact ⟨hlj, by show true = _; rw [hz1]; simp [show x1 = _ from hc3], by show (lv || !x3) = _; rw [hz2, ← hm]; simp [show x1 = _ from hc3]⟩
       ·show _ < _; show l.length - (j + 1) < l.length - j; omega
      ·intro hc3
       refine v_skip ?_
       refine n25 _ ?_
       refine n24 _ _ (weak_keep [0, 4, 5, 6, 7, 17, 18, 19] _) ?_
       refine zk ⟨?_⟩
       refine v_region ?_; intro K32 k32
       refine zBinOpW ⟨?_⟩
       refine zMove ⟨?_⟩
       refine k32 _ ?_
       refine n20 _ (j + 1, sm, lv) ?_ ?_ ?_
       ·refine weak_bothS [0, 4, 5, 6, 7, 17, 18, 19] [0] ⟨?_⟩
        rfl
       ·exact ⟨hlj, by show sm = _; rw [hz1, ← hn]; simp [show ¬ x1 = _ from hc3], by show lv = _; rw [hz2, ← hm]; simp [show ¬ x1 = _ from hc3]⟩
       ·show _ < _; show l.length - (j + 1) < l.length - j; omega
     ·intro hc2
      have hzz : openZ l ((i : Int) + 1) = (sm && !lv) := by rw [openZ, hn, hm, List.take_of_length_le (by omega)]
      refine v_exit ?_
      refine e22 _ _ ?_
      refine e20 _ _ ?_
      refine x19 _ ?_
      refine n17 _ _ (weak_keep [0, 4, 5, 6, 7] _) ?_
      refine zk ⟨?_⟩
      refine v_seqR [0,4,5,38] ?_; intro K33 k33
      refine zMove ⟨?_⟩
      refine zMove ⟨?_⟩
      refine zgMove ⟨?_⟩
      refine zgUnOp ⟨?_⟩
      refine zPick ⟨?_⟩
      refine k33 _ ?_
      refine zk ⟨?_⟩
      refine v_condS _ rfl ?_ ?_
      ·intro hc4
       have hoz : openZ l ((i : Int) + 1) = true := by rw [hzz]; simpa using hc4
       refine v_region ?_; intro K35 k35
       refine zMove ⟨?_⟩
       refine zMove ⟨?_⟩
       refine zBuildSlice ⟨?_⟩
       refine zAppend ⟨?_⟩
       refine zAssign ⟨?_⟩
       refine k35 _ ?_
       refine n15 _ ?_
       refine n14 _ _ (weak_keep [0, 4, 5] _) ?_
       refine zk ⟨?_⟩
       refine v_region ?_; intro K36 k36
       refine zMove ⟨?_⟩
       refine zBinOpW ⟨?_⟩
       refine zAssign ⟨?_⟩
       refine k36 _ ?_
       refine n10 _ (i + 1, acc ++ [((i : Int) + 1)]) ?_ ?_ ?_
       ·refine weak_bothS [0, 4, 5] [2] ⟨?_⟩
        rw [snoc_zone]; rfl
       ·exact ⟨hlt, by show (acc ++ _).length ≤ i + 1; simp; omega, by show acc ++ _ = openTo l (i + 1); rw [openTo, ← hR, if_pos hoz]⟩
       ·show _ < _; show 9 - (i + 1) < 9 - i; omega
      ·intro hc4
       have hoz : ¬ openZ l ((i : Int) + 1) = true := by rw [hzz]; simpa using hc4
       refine v_skip ?_
       refine n15 _ ?_
       refine n14 _ _ (weak_keep [0, 4, 5] _) ?_
       refine zk ⟨?_⟩
       refine v_region ?_; intro K37 k37
       refine zMove ⟨?_⟩
       refine zBinOpW ⟨?_⟩
       refine zAssign ⟨?_⟩
       refine k37 _ ?_
       refine n10 _ (i + 1, acc) ?_ ?_ ?_
       ·refine weak_bothS [0, 4, 5] [0] ⟨?_⟩
        rfl
       ·exact ⟨hlt, by show acc.length ≤ i + 1; omega, by show acc = openTo l (i + 1); rw [openTo, ← hR, if_neg hoz, List.append_nil]⟩
       ·show _ < _; show 9 - (i + 1) < 9 - i; omega
   ·intro hc1
    refine v_exit ?_
    refine e11 _ _ ?_
    refine e10 _ _ ?_
    refine x9 _ ?_
    refine n7 _ _ (weak_keep [4] _) ?_
    refine zk ⟨?_⟩
    refine v_seqR [2,3] ?_; intro K38 k38
    refine zMove ⟨?_⟩
    refine zAssign ⟨?_⟩
    refine zAssign ⟨?_⟩
    refine k38 _ ?_
    refine zk ⟨?_⟩
    refine v_ret ?_
    refine r0 _ ?_
    refine zf ⟨?_⟩
    have hend : i = 9 := by omega
    subst hend
    rw [show ozR l = acc by rw [ozR, hc0, hR]; rfl, hc0]
    exact ret_ref_tup rfl rfl rfl (.inl rfl)
set_option maxHeartbeats 1000000 in
theorem specAreSignals_con (s : List (Int × Int)) (hs : s.length ≤ 1048576) : Con Tryd.prog 39 [.sl (s.map (fun t : Int × Int => V.agg [V.int .i64 t.1, V.int .i64 t.2]))] [] (.bool (ssB s)) [] := by
 refine v_con [.tmp 2] [] Tryd.func39 rfl rfl rfl (by simp [Tryd.ntmps39]) ?_
 intro Q0 n0 r0
 simp only [Tryd.ntmps39, envFrom, Nat.reduceAdd]
 have T := Tys.mk (And.intro Ty.t3 (And.intro Ty.t4 (And.intro Ty.t51 Ty.t65)))
 have F := Fc.mk True.intro
 refine v_seqR [0] ?_; intro K1 k1
 refine zAssign ⟨?_⟩
 refine k1 _ ?_
 refine zk ⟨?_⟩
 refine v_seqR [2] ?_; intro K2 k2
 refine zMove ⟨?_⟩
 refine zc (alSignals_con s hs) ⟨?_⟩
 refine zAssign ⟨?_⟩
 refine k2 _ ?_
 refine zk ⟨?_⟩
 refine v_ret ?_
 refine r0 _ ?_
 refine zf ⟨?_⟩
 exact ret_pure rfl rfl (.inl rfl)
end Go.Proofs.YtmlicajgbgjphaaDoor
