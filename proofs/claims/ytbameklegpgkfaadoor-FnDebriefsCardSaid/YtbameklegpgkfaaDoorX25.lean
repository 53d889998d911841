/- What functions compute. No condition. -/
import Derived.Test.YtbameklegpgkfaaDoorUty
import Derived.Test.YtbameklegpgkfaaDoorUmG
import Derived.Test.YtbameklegpgkfaaDoorX15
set_option linter.unusedSimpArgs false
set_option linter.unusedVariables false
set_option linter.defProp false
namespace Go.Proofs.YtbameklegpgkfaaDoor
open Go Go.Vm

theorem chainFrom_pair {α : Type} {ok : α → Bool} {bf : α → α → Bool} (tr : ∀ x y z, bf x y = true → bf y z = true → bf x z = true) : ∀ (l : List α) (p : Option α), chainFrom ok bf p l = true → (∀ q, p = some q → ∀ x ∈ l, bf q x = true) ∧ l.Pairwise fun x y => bf x y = true
  | [], _, _ => ⟨fun _ _ x hx => (by cases hx), List.Pairwise.nil⟩
  | x :: l, p, h => by
    have h2 : chainFrom ok bf (some x) l = true ∧ ∀ q, p = some q → bf q x = true := by
      cases p with
      | none => simp [chainFrom] at h; exact ⟨h.2, fun q e => by cases e⟩
      | some r => simp [chainFrom] at h; exact ⟨h.2, fun q e => by cases e; exact h.1.2⟩
    obtain ⟨a1, a2⟩ := chainFrom_pair tr l (some x) h2.1
    refine ⟨fun q e y hy => ?_, List.pairwise_cons.2 ⟨fun y hy => a1 x rfl y hy, a2⟩⟩
    rcases List.mem_cons.1 hy with rfl | hy
    · exact h2.2 q e
    · exact tr q x y (h2.2 q e) (a1 x rfl y hy)
theorem chain_pair {α : Type} {ok : α → Bool} {bf : α → α → Bool} (tr : ∀ x y z, bf x y = true → bf y z = true → bf x z = true) {l : List α} (h : chainAt ok bf l 0 = true) : l.Pairwise fun x y => bf x y = true := (chainFrom_pair tr l none (by simpa [chainAt] using h)).2
theorem ds_pair {l : List (Int × Int × Int × Bool)} (h : dsB l = true) : l.Pairwise fun x y => x.1 < y.1 := by
  rw [dsB, Bool.and_eq_true] at h
  refine (chain_pair ?_ h.1).imp ?_
  · intro x y z a b; simp only [dBefore, decide_eq_true_eq] at *; omega
  · intro x y a; simpa [dBefore] using a
theorem ss_pair {l : List (Int × Int)} (h : ssB l = true) : l.Pairwise fun x y => x.1 ≤ y.1 := by
  rw [ssB, Bool.and_eq_true] at h
  refine (chain_pair ?_ h.1).imp ?_
  · intro x y z a b; simp only [sBefore, decide_eq_true_eq] at *; omega
  · intro x y a; simpa [sBefore] using a
theorem det_mem {n : Int} {d : (Int × Int × Int × Bool)} : ∀ {l : List (Int × Int × Int × Bool)}, l.Pairwise (fun x y => x.1 < y.1) → d ∈ l → d.1 = n → detOf l n = some d
  | e :: l, hp, hd, hn => by
    rw [List.pairwise_cons] at hp
    rw [detOf, List.find?_cons]
    rcases List.mem_cons.1 hd with rfl | hd
    · simp [hn]
    · have := hp.1 d hd
      have hne : ¬ e.1 = n := by omega
      simp only [hne, decide_false]
      exact det_mem hp.2 hd hn
theorem zones_mem (l : List (Int × Int × Int × Bool)) (s : List (Int × Int)) (within z : Int) : ∀ n : Nat, z ∈ zonesTo l s within n ↔ (1 ≤ z ∧ z ≤ n) ∧ 0 ≤ alarmOf l s z within
  | 0 => by simp [zonesTo]; omega
  | n + 1 => by
    rw [zonesTo, List.mem_append, zones_mem l s within z n]
    by_cases h : 0 ≤ alarmOf l s ((n : Int) + 1) within
    · rw [if_pos h, List.mem_singleton]
      constructor
      · rintro (q | rfl)
        · exact ⟨by omega, q.2⟩
        · exact ⟨by omega, h⟩
      · rintro ⟨q1, q2⟩
        by_cases e : z = (n : Int) + 1
        · exact .inr e
        · exact .inl ⟨by omega, q2⟩
    · rw [if_neg h]
      constructor
      · rintro (q | q)
        · exact ⟨by omega, q.2⟩
        · cases q
      · rintro ⟨q1, q2⟩
        by_cases e : z = (n : Int) + 1
        · subst e; exact absurd q2 h
        · exact .inl ⟨by omega, q2⟩
theorem first_all (l : List (Int × Int × Int × Bool)) (s : List (Int × Int)) (within : Int) : ∀ n : Nat, (0 ≤ (firstTo l s within n).1 ∧ ((firstTo l s within n).1 = 0 ↔ zonesTo l s within n = [])) ∧
    ((firstTo l s within n).1 ≠ 0 → ∀ z : Int, 1 ≤ z → z ≤ n → 0 ≤ alarmOf l s z within → (firstTo l s within n).2 ≤ alarmOf l s z within ∧ (alarmOf l s z within = (firstTo l s within n).2 → (firstTo l s within n).1 ≤ z))
  | 0 => by
    refine ⟨⟨Int.le_refl 0, by simp [firstTo, zonesTo]⟩, fun h => absurd rfl h⟩
  | n + 1 => by
    obtain ⟨⟨h0, h1⟩, h2⟩ := first_all l s within n
    have hz := zones_mem l s within
    rw [firstTo, zonesTo]
    by_cases hA : 0 ≤ alarmOf l s ((n : Int) + 1) within
    · by_cases hB : (firstTo l s within n).1 = 0 ∨ alarmOf l s ((n : Int) + 1) within < (firstTo l s within n).2
      · rw [if_pos ⟨hA, hB⟩, if_pos hA]
        refine ⟨⟨by show (0 : Int) ≤ (n : Int) + 1; omega, by simp; omega⟩, fun _ z z1 z2 z3 => ?_⟩
        show alarmOf l s ((n : Int) + 1) within ≤ alarmOf l s z within ∧ (_ → (n : Int) + 1 ≤ z)
        by_cases e : z = (n : Int) + 1
        · subst e; exact ⟨Int.le_refl _, fun _ => Int.le_refl _⟩
        · rcases hB with hB | hB
          · have hm := (hz z n).2 ⟨⟨z1, by omega⟩, z3⟩
            rw [h1.1 hB] at hm; cases hm
          · by_cases hF : (firstTo l s within n).1 = 0
            · have hm := (hz z n).2 ⟨⟨z1, by omega⟩, z3⟩
              rw [h1.1 hF] at hm; cases hm
            · have := (h2 hF z z1 (by omega) z3).1
              exact ⟨by omega, fun q => by have := this; omega⟩
      · rw [if_neg (fun q => hB q.2), if_pos hA]
        have hF : (firstTo l s within n).1 ≠ 0 := fun q => hB (.inl q)
        refine ⟨⟨h0, by simp [hF]⟩, fun _ z z1 z2 z3 => ?_⟩
        by_cases e : z = (n : Int) + 1
        · subst e
          have hle : (firstTo l s within n).2 ≤ alarmOf l s ((n : Int) + 1) within := by
            rcases Int.lt_or_le (alarmOf l s ((n : Int) + 1) within) (firstTo l s within n).2 with q | q
            · exact absurd (.inr q) hB
            · exact q
          refine ⟨hle, fun _ => ?_⟩
          have hb : (firstTo l s within n).1 ≤ n := firstTo_le l s within n
          omega
        · exact h2 hF z z1 (by omega) z3
    · rw [if_neg (fun q => hA q.1), if_neg hA, List.append_nil]
      refine ⟨⟨h0, h1⟩, fun hF z z1 z2 z3 => ?_⟩
      by_cases e : z = (n : Int) + 1
      · subst e; exact absurd z3 hA
      · exact h2 hF z z1 (by omega) z3
where
  firstTo_le (l : List (Int × Int × Int × Bool)) (s : List (Int × Int)) (within : Int) : ∀ n : Nat, (firstTo l s within n).1 ≤ n
    | 0 => Int.le_refl 0
    | n + 1 => by
      have := firstTo_le l s within n
      rw [firstTo]
      split
      · show (n : Int) + 1 ≤ ((n + 1 : Nat) : Int); omega
      · omega
theorem hit_mono {l : List (Int × Int × Int × Bool)} {zone w : Int} {pre : List (Int × Int)} {s : (Int × Int)} (h : hitB l zone w pre s = true) : hitB l zone (w + 1) pre s = true := by
  unfold hitB at h ⊢
  cases hd : detOf l s.2 with
  | none => rw [hd] at h; cases h
  | some d =>
    rw [hd] at h
    simp only [Bool.and_eq_true, Bool.or_eq_true, List.any_eq_true] at h ⊢
    refine ⟨h.1, h.2.imp id ?_⟩
    rintro ⟨t, ht, hc⟩
    refine ⟨t, ht, ?_⟩
    simp only [confB, Bool.and_eq_true, decide_eq_true_eq] at hc ⊢
    exact ⟨hc.1, by omega⟩
theorem alarmFrom_mem (l : List (Int × Int × Int × Bool)) (zone w : Int) (lv : List (Int × Int)) : ∀ (r : List (Int × Int)) (k : Nat), 0 ≤ alarmFrom l zone w lv k r → ∃ x ∈ r, alarmFrom l zone w lv k r = x.1
  | [], k, h => by rw [alarmFrom] at h; omega
  | s :: r, k, h => by
    rw [alarmFrom] at h ⊢
    by_cases q : hitB l zone w (lv.take k) s = true
    · rw [if_pos q]; exact ⟨s, List.mem_cons_self .., rfl⟩
    · rw [if_neg q] at h ⊢
      obtain ⟨x, hx, e⟩ := alarmFrom_mem l zone w lv r (k + 1) h
      exact ⟨x, List.mem_cons_of_mem _ hx, e⟩
theorem alarmFrom_mono (l : List (Int × Int × Int × Bool)) (zone w : Int) (lv : List (Int × Int)) : ∀ (r : List (Int × Int)) (k : Nat), (∀ x ∈ r, 0 ≤ x.1) → r.Pairwise (fun x y => x.1 ≤ y.1) → 0 ≤ alarmFrom l zone w lv k r → 0 ≤ alarmFrom l zone (w + 1) lv k r ∧ alarmFrom l zone (w + 1) lv k r ≤ alarmFrom l zone w lv k r
  | [], k, _, _, h => by rw [alarmFrom] at h; omega
  | s :: r, k, h0, hp, h => by
    rw [List.pairwise_cons] at hp
    have hs := h0 s (List.mem_cons_self ..)
    rw [alarmFrom] at h ⊢
    rw [alarmFrom]
    by_cases q : hitB l zone w (lv.take k) s = true
    · rw [if_pos q, if_pos (hit_mono q)]; exact ⟨hs, Int.le_refl _⟩
    · rw [if_neg q] at h ⊢
      by_cases q2 : hitB l zone (w + 1) (lv.take k) s = true
      · rw [if_pos q2]
        obtain ⟨x, hx, e⟩ := alarmFrom_mem l zone w lv r (k + 1) h
        exact ⟨hs, by rw [e]; exact hp.1 x hx⟩
      · rw [if_neg q2]
        exact alarmFrom_mono l zone w lv r (k + 1) (fun x hx => h0 x (List.mem_cons_of_mem _ hx)) hp.2 h
theorem alarm_mono {l : List (Int × Int × Int × Bool)} {s : List (Int × Int)} {zone w : Int} (hs : ssB s = true) (h : 0 ≤ alarmOf l s zone w) : 0 ≤ alarmOf l s zone (w + 1) ∧ alarmOf l s zone (w + 1) ≤ alarmOf l s zone w :=
  alarmFrom_mono l zone w _ _ 0 (fun x hx => ssB_pos hs x (List.mem_filter.1 hx).1) ((ss_pair hs).filter _) h
theorem zonesR_len (l : List (Int × Int × Int × Bool)) (s : List (Int × Int)) (within : Int) : (zonesR l s within).length ≤ 9 := by
  unfold zonesR
  split
  · exact zonesTo_len l s within 9
  · exact Nat.zero_le _
def zaB (l : List (Int × Int × Int × Bool)) (s : List (Int × Int)) (zone within : Int) : Bool := askB l s within && (decide (1 ≤ zone) && decide (zone ≤ 9)) && decide (0 ≤ alarmOf l s zone within)
def zaV (l : List (Int × Int × Int × Bool)) (s : List (Int × Int)) (zone within : Int) : Int := if zaB l s zone within = true then alarmOf l s zone within else 0
def liveR (l : List (Int × Int × Int × Bool)) (s : List (Int × Int)) : List (Int × Int) := if (dsB l && ssB s) = true then s.filter (liveB l) else []
theorem liveR_len (l : List (Int × Int × Int × Bool)) (s : List (Int × Int)) : (liveR l s).length ≤ s.length := by
  unfold liveR
  split
  · exact List.length_filter_le ..
  · exact Nat.zero_le _
theorem ask_parts {l : List (Int × Int × Int × Bool)} {s : List (Int × Int)} {within : Int} (h : askB l s within = true) : dsB l = true ∧ ssB s = true ∧ 0 ≤ within ∧ within ≤ 3600 := by
  simpa [askB, and_assoc] using h
theorem first_dec (l : List (Int × Int × Int × Bool)) (s : List (Int × Int)) (within : Int) : decide (0 < (firstR l s within).1) = (askB l s within && decide (0 < ((zonesR l s within).length : Int))) := by
  unfold firstR zonesR
  cases h : askB l s within with
  | false => rfl
  | true =>
    simp only [if_true, Bool.true_and]
    have := (first_all l s within 9).1
    apply decide_eq_decide.2
    constructor
    · intro q
      have : zonesTo l s within 9 ≠ [] := fun e => by have := this.2.2 e; omega
      have := List.length_pos_iff.2 this
      omega
    · intro q
      rcases Int.lt_or_le 0 (firstTo l s within 9).1 with z | z
      · exact z
      · have h0 : (firstTo l s within 9).1 = 0 := by omega
        rw [this.2.1 h0] at q; simp at q
theorem zone_has {l : List (Int × Int × Int × Bool)} {s : List (Int × Int)} {within z : Int} (ha : askB l s within = true) (h1 : 1 ≤ z) (h9 : z ≤ 9) : zaB l s z within = decide (z ∈ zonesR l s within) := by
  rw [zaB, ha, zonesR, if_pos ha, decide_eq_true h1, decide_eq_true h9]
  simp only [Bool.and_self, Bool.true_and]
  apply decide_eq_decide.2
  rw [zones_mem]
  exact ⟨fun q => ⟨⟨h1, h9⟩, q⟩, fun q => q.2⟩
theorem zone_first {l : List (Int × Int × Int × Bool)} {s : List (Int × Int)} {within z : Int} (ha : askB l s within = true) (h1 : 1 ≤ z) (h9 : z ≤ 9) (h : zaB l s z within = true) : ¬ (zaV l s z within < (firstR l s within).2) ∧ ¬ (zaV l s z within = (firstR l s within).2 ∧ z < (firstR l s within).1) := by
  have hA : 0 ≤ alarmOf l s z within := by simp [zaB] at h; exact h.2
  rw [zaV, if_pos h, firstR, if_pos ha]
  obtain ⟨⟨a0, a1⟩, a2⟩ := first_all l s within 9
  have hm := (zones_mem l s within z 9).2 ⟨⟨h1, h9⟩, hA⟩
  have hF : (firstTo l s within 9).1 ≠ 0 := fun e => by rw [a1.1 e] at hm; cases hm
  have := a2 hF z h1 h9 hA
  omega
theorem wrong_len {l : List (Int × Int × Int × Bool)} {s : List (Int × Int)} {within : Int} (ha : askB l s within = true) : (falseR l s within).length ≤ (liveR l s).length := by
  have h := ask_parts ha
  rw [falseR, if_pos ha, liveR, h.1, h.2.1]
  exact List.length_filter_le ..
theorem wrong_det {l : List (Int × Int × Int × Bool)} {s : List (Int × Int)} {within : Int} (ha : askB l s within = true) {x : (Int × Int)} (hx : x ∈ falseR l s within) {d : (Int × Int × Int × Bool)} (hd : d ∈ l) (hn : d.1 = x.2) : d.2.2.2 = false ∧ d.2.1 ∉ zonesR l s within := by
  have h := ask_parts ha
  rw [falseR, if_pos ha, falseOf, List.mem_filter, List.mem_filter] at hx
  have hdet := det_mem (ds_pair h.1) hd hn
  obtain ⟨⟨_, h1⟩, h2⟩ := hx
  simp only [liveB, hdet] at h1
  simp only [zoneOf, hdet, Bool.not_eq_true', decide_eq_false_iff_not] at h2
  rw [zonesR, if_pos ha]
  exact ⟨by simpa using h1, h2⟩
theorem wider {l : List (Int × Int × Int × Bool)} {s : List (Int × Int)} {zone most : Int} (h : zaB l s zone most = true) (hm : most < 3600) : zaB l s zone (most + 1) = true ∧ zaV l s zone (most + 1) ≤ zaV l s zone most := by
  have h' := h
  simp only [zaB, Bool.and_eq_true, decide_eq_true_eq] at h
  have hp := ask_parts h.1.1
  have hmo := alarm_mono hp.2.1 h.2
  have hb : zaB l s zone (most + 1) = true := by
    simp only [zaB, askB, Bool.and_eq_true, decide_eq_true_eq]
    exact ⟨⟨⟨⟨hp.1, hp.2.1⟩, by omega, by omega⟩, h.1.2⟩, hmo.1⟩
  refine ⟨hb, ?_⟩
  rw [zaV, zaV, if_pos hb, if_pos h']
  exact hmo.2

end Go.Proofs.YtbameklegpgkfaaDoor
