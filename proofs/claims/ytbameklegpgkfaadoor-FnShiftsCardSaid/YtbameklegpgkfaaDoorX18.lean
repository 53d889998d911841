/- What functions compute. No condition. -/
import Derived.Test.YtbameklegpgkfaaDoorUty
import Derived.Test.YtbameklegpgkfaaDoorUmG
import Derived.Test.YtbameklegpgkfaaDoorX14
import Derived.Test.YtbameklegpgkfaaDoorX7
import Derived.Test.YtbameklegpgkfaaDoorX6
import Derived.Test.YtbameklegpgkfaaDoorX12
import Derived.Test.YtbameklegpgkfaaDoorX16
import Derived.Test.YtbameklegpgkfaaDoorX4
import Derived.Test.YtbameklegpgkfaaDoorX10
set_option linter.unusedSimpArgs false
set_option linter.unusedVariables false
set_option linter.defProp false
namespace Go.Proofs.YtbameklegpgkfaaDoor
open Go Go.Vm

/-- By key, then by number. -/
def byKN (key : Int → Int) (a b : Int) : Prop := key a < key b ∨ (key a = key b ∧ a < b)
theorem byKN_trans {key : Int → Int} {a b c : Int} (h : byKN key a b) (k : byKN key b c) : byKN key a c := by unfold byKN at *; omega
/-- All behind the place are later. -/
theorem insPos_behind {key : Int → Int} {x : Int} {p : List Int} : ∀ k, k ≤ p.length → ∀ j y, insPos (fun a b => decide (key a < key b)) x p k ≤ j → j < k → p[j]? = some y → key x < key y
  | 0, _, j, y, _, h, _ => by omega
  | k + 1, hk, j, y, h1, h2, hy => by
    obtain ⟨z, hz⟩ : ∃ z, p[k]? = some z := ⟨p[k], List.getElem?_eq_getElem (by omega)⟩
    by_cases q : key x < key z
    · have e := insPos_yes (lt := fun a b => decide (key a < key b)) (x := x) hz (by simpa using q)
      rw [e] at h1
      rcases Nat.lt_or_ge j k with r | r
      · exact insPos_behind k (by omega) j y h1 r hy
      · have : j = k := by omega
        subst this
        rw [hz] at hy
        cases hy; exact q
    · have e := insPos_no (lt := fun a b => decide (key a < key b)) (x := x) hz (by simpa using q)
      omega
theorem insPos_front {key : Int → Int} {x : Int} {p : List Int} : ∀ k, k ≤ p.length → ∀ j y, insPos (fun a b => decide (key a < key b)) x p k = j + 1 → p[j]? = some y → key y ≤ key x
  | 0, _, j, y, h, _ => by simp [insPos] at h
  | k + 1, hk, j, y, h, hy => by
    obtain ⟨z, hz⟩ : ∃ z, p[k]? = some z := ⟨p[k], List.getElem?_eq_getElem (by omega)⟩
    by_cases q : key x < key z
    · have e := insPos_yes (lt := fun a b => decide (key a < key b)) (x := x) hz (by simpa using q)
      rw [e] at h
      exact insPos_front k (by omega) j y h hy
    · have e := insPos_no (lt := fun a b => decide (key a < key b)) (x := x) hz (by simpa using q)
      have : j = k := by omega
      subst this
      rw [hz] at hy
      cases hy; omega
theorem insR_sorted {key : Int → Int} {p : List Int} {x : Int} (hp : p.Pairwise (byKN key)) (hx : ∀ y ∈ p, y < x) : (insR (fun a b => decide (key a < key b)) p x).Pairwise (byKN key) := by
  have hle := insPos_le (fun a b => decide (key a < key b)) x p p.length
  rw [insR, List.pairwise_append, List.pairwise_cons]
  have front : ∀ y ∈ p.take (insPos (fun a b => decide (key a < key b)) x p p.length), byKN key y x := by
    intro y hy
    cases hq : insPos (fun a b => decide (key a < key b)) x p p.length with
    | zero => rw [hq] at hy; simp at hy
    | succ q =>
      rw [hq] at hy
      obtain ⟨z, hz⟩ : ∃ z, p[q]? = some z := ⟨p[q]'(by omega), List.getElem?_eq_getElem (by omega)⟩
      have hzx := insPos_front p.length (Nat.le_refl _) q z hq hz
      obtain ⟨j, hj, rfl⟩ := List.getElem_of_mem hy
      rw [List.length_take] at hj
      rw [List.getElem_take]
      have hyx := hx p[j] (List.getElem_mem _)
      rcases Nat.lt_or_ge j q with r | r
      · have := (List.pairwise_iff_getElem.1 hp) j q (by omega) (by omega) r
        have ez : p[q]'(by omega) = z := (List.getElem?_eq_some_iff.1 hz).2
        rw [ez] at this
        unfold byKN at *; omega
      · have : j = q := by omega
        subst this
        have ez : p[j]'(by omega) = z := (List.getElem?_eq_some_iff.1 hz).2
        rw [ez] at hyx ⊢
        unfold byKN; omega
  have behind : ∀ y ∈ p.drop (insPos (fun a b => decide (key a < key b)) x p p.length), byKN key x y := by
    intro y hy
    obtain ⟨j, hj, rfl⟩ := List.getElem_of_mem hy
    rw [List.length_drop] at hj
    rw [List.getElem_drop]
    exact .inl (insPos_behind p.length (Nat.le_refl _) _ _ (Nat.le_add_right ..) (by omega) (List.getElem?_eq_getElem (by omega)))
  refine ⟨hp.sublist (List.take_sublist ..), ⟨behind, hp.sublist (List.drop_sublist ..)⟩, ?_⟩
  intro a ha b hb
  rcases List.mem_cons.1 hb with rfl | hb
  · exact front a ha
  · exact byKN_trans (front a ha) (behind b hb)
theorem isort_sorted {key : Int → Int} : ∀ (l acc : List Int), acc.Pairwise (byKN key) → (∀ x ∈ acc, ∀ y ∈ l, x < y) → l.Pairwise (· < ·) → (l.foldl (insR fun a b => decide (key a < key b)) acc).Pairwise (byKN key)
  | [], _, h, _, _ => h
  | x :: l, acc, h, h2, h3 => by
    obtain ⟨a, b⟩ := List.pairwise_cons.1 h3
    refine isort_sorted l _ (insR_sorted h fun y hy => h2 y hy x (List.mem_cons_self ..)) (fun y hy z hz => ?_) b
    rcases insR_mem.1 hy with rfl | hy
    · exact a z hz
    · exact h2 y hy z (List.mem_cons_of_mem _ hz)
/-- The best of those that are not taken. -/
def bestF (key : Int → Int) (taken : List Int) (best i : Int) : Int := if i ∉ taken ∧ (best < 0 ∨ key i < key best) then i else best
theorem best_fold {key : Int → Int} {taken : List Int} : ∀ (l : List Int) (b : Int), l.Pairwise (· < ·) → (∀ i ∈ l, 0 ≤ i) → (b = -1 ∨ (0 ≤ b ∧ b ∉ taken ∧ ∀ i ∈ l, b < i)) →
    (l.foldl (bestF key taken) b = -1 ∧ b = -1 ∧ ∀ i ∈ l, i ∈ taken) ∨
    (0 ≤ l.foldl (bestF key taken) b ∧ l.foldl (bestF key taken) b ∉ taken ∧ (l.foldl (bestF key taken) b = b ∨ l.foldl (bestF key taken) b ∈ l) ∧ (b ≠ -1 → l.foldl (bestF key taken) b = b ∨ byKN key (l.foldl (bestF key taken) b) b) ∧
      ∀ i ∈ l, i ∉ taken → l.foldl (bestF key taken) b = i ∨ byKN key (l.foldl (bestF key taken) b) i)
  | [], b, _, _, hb => by
    rcases hb with hb | ⟨h1, h2, _⟩
    · exact .inl ⟨hb, hb, fun i hi => by cases hi⟩
    · exact .inr ⟨h1, h2, .inl rfl, fun _ => .inl rfl, fun i hi => by cases hi⟩
  | x :: l, b, hl, hp, hb => by
    obtain ⟨p1, p2⟩ := List.pairwise_cons.1 hl
    have hx0 := hp x (List.mem_cons_self ..)
    have hp' : ∀ i ∈ l, 0 ≤ i := fun i hi => hp i (List.mem_cons_of_mem _ hi)
    rw [List.foldl_cons]
    by_cases hc : x ∉ taken ∧ (b < 0 ∨ key x < key b)
    · have e : bestF key taken b x = x := by rw [bestF, if_pos hc]
      rw [e]
      rcases best_fold l x p2 hp' (.inr ⟨hx0, hc.1, p1⟩) with ⟨_, h, _⟩ | ⟨r1, r2, r3, r4, r5⟩
      · omega
      · have r6 := r4 (by omega)
        refine .inr ⟨r1, r2, .inr ?_, fun hbn => .inr ?_, fun i hi hit => ?_⟩
        · rcases r3 with r3 | r3
          · rw [r3]; exact List.mem_cons_self ..
          · exact List.mem_cons_of_mem _ r3
        · have hxb : byKN key x b := by
            rcases hb with hb | hb
            · exact absurd hb hbn
            · exact .inl (by omega)
          rcases r6 with r6 | r6
          · rw [r6]; exact hxb
          · exact byKN_trans r6 hxb
        · rcases List.mem_cons.1 hi with rfl | hi
          · exact r6
          · exact r5 i hi hit
    · have e : bestF key taken b x = b := by rw [bestF, if_neg hc]
      rw [e]
      have hb' : b = -1 ∨ (0 ≤ b ∧ b ∉ taken ∧ ∀ i ∈ l, b < i) := hb.imp id fun h => ⟨h.1, h.2.1, fun i hi => h.2.2 i (List.mem_cons_of_mem _ hi)⟩
      rcases best_fold l b p2 hp' hb' with ⟨r1, r2, r3⟩ | ⟨r1, r2, r3, r4, r5⟩
      · refine .inl ⟨r1, r2, fun i hi => ?_⟩
        rcases List.mem_cons.1 hi with rfl | hi
        · exact Classical.byContradiction fun q => hc ⟨q, .inl (by omega)⟩
        · exact r3 i hi
      · refine .inr ⟨r1, r2, r3.imp id (List.mem_cons_of_mem _), r4, fun i hi hit => ?_⟩
        rcases List.mem_cons.1 hi with rfl | hi
        · have hbn : ¬ b < 0 := fun q => hc ⟨hit, .inl q⟩
          have hk : ¬ key i < key b := fun q => hc ⟨hit, .inr q⟩
          have hbi : byKN key b i := by
            rcases hb with hb | hb
            · omega
            · have := hb.2.2 i (List.mem_cons_self ..)
              unfold byKN; omega
          rcases r4 (by omega) with r | r
          · rw [r]; exact .inr hbi
          · exact .inr (byKN_trans r hbi)
        · exact r5 i hi hit
/-- THE BEST THAT IS NOT TAKEN IS THE NEXT ONE IN ORDER. -/
theorem best_is_next {key : Int → Int} {l s taken : List Int} {k : Nat} (hl : l.Pairwise (· < ·)) (hp : ∀ i ∈ l, 0 ≤ i) (hs : s.Pairwise (byKN key)) (hm : ∀ i, i ∈ s ↔ i ∈ l) (ht : ∀ i, i ∈ taken ↔ i ∈ s.take k) :
    l.foldl (bestF key taken) (-1) = match s[k]? with | some y => y | none => -1 := by
  have irr : ∀ a, ¬ byKN key a a := fun a h => by unfold byKN at h; omega
  rcases best_fold l (-1) hl hp (.inl rfl) with ⟨r1, _, r3⟩ | ⟨r1, r2, r3, _, r5⟩
  · rw [r1]
    cases hk : s[k]? with
    | none => rfl
    | some y =>
      exfalso
      have hy := (ht y).1 (r3 y ((hm y).1 (List.mem_of_getElem? hk)))
      obtain ⟨j, hj, e⟩ := List.getElem_of_mem hy
      rw [List.length_take] at hj
      rw [List.getElem_take] at e
      obtain ⟨hkl, ek⟩ := List.getElem?_eq_some_iff.1 hk
      have := (List.pairwise_iff_getElem.1 hs) j k (by omega) hkl (by omega)
      rw [e, ek] at this
      exact irr y this
  · generalize l.foldl (bestF key taken) (-1) = r at *
    have hrl : r ∈ l := by
      rcases r3 with r3 | r3
      · omega
      · exact r3
    obtain ⟨m, hml, em⟩ := List.getElem_of_mem ((hm r).2 hrl)
    have hmk : k ≤ m := by
      rcases Nat.lt_or_ge m k with q | q
      · exact absurd ((ht r).2 (by rw [← em]; exact List.mem_take_iff_getElem.2 ⟨m, by omega, rfl⟩)) r2
      · exact q
    have hkl : k < s.length := by omega
    rw [List.getElem?_eq_getElem hkl]
    show r = s[k]
    have hnt : s[k] ∉ taken := fun h => by
      obtain ⟨j, hj, e⟩ := List.getElem_of_mem ((ht _).1 h)
      rw [List.length_take] at hj
      rw [List.getElem_take] at e
      have := (List.pairwise_iff_getElem.1 hs) j k (by omega) hkl (by omega)
      rw [e] at this
      exact irr _ this
    rcases r5 s[k] ((hm _).1 (List.getElem_mem _)) hnt with q | q
    · exact q
    · rcases Nat.lt_or_ge k m with z | z
      · have := (List.pairwise_iff_getElem.1 hs) k m hkl hml z
        rw [em] at this
        exact absurd (byKN_trans q this) (irr r)
      · have : k = m := by omega
        subst this
        exact em.symm

theorem sortLR_sorted (zs : List Int) : (sortL zs).Pairwise fun x y => decide (x ≤ y) = true :=
  List.pairwise_mergeSort (fun a b c h1 h2 => by simp at h1 h2 ⊢; omega) (fun a b => by simp; omega) zs
theorem sortLR_perm (zs : List Int) : (sortL zs).Perm zs := List.mergeSort_perm zs _
/-- Strictly rising rows with the same members are the same. -/
theorem rising_ext : ∀ {a b : List Int}, a.Pairwise (· < ·) → b.Pairwise (· < ·) → (∀ x, x ∈ a ↔ x ∈ b) → a = b
  | [], [], _, _, _ => rfl
  | [], y :: b, _, _, h => by have := (h y).2 (List.mem_cons_self ..); cases this
  | x :: a, [], _, _, h => by have := (h x).1 (List.mem_cons_self ..); cases this
  | x :: a, y :: b, ha, hb, h => by
    obtain ⟨a1, a2⟩ := List.pairwise_cons.1 ha
    obtain ⟨b1, b2⟩ := List.pairwise_cons.1 hb
    have e : x = y := by
      rcases List.mem_cons.1 ((h x).1 (List.mem_cons_self ..)) with q | q
      · exact q
      · rcases List.mem_cons.1 ((h y).2 (List.mem_cons_self ..)) with r | r
        · exact r.symm
        · have := a1 y r; have := b1 x q; omega
    subst e
    congr 1
    refine rising_ext a2 b2 fun z => ⟨fun hz => ?_, fun hz => ?_⟩
    · rcases List.mem_cons.1 ((h z).1 (List.mem_cons_of_mem _ hz)) with q | q
      · have := a1 z hz; omega
      · exact q
    · rcases List.mem_cons.1 ((h z).2 (List.mem_cons_of_mem _ hz)) with q | q
      · have := b1 z hz; omega
      · exact q
/-- Where a number is put into a rising row. -/
def putPos (l : List Int) (n : Int) (k : Nat) : Nat := k + ((l.drop k).takeWhile fun y => decide (y < n)).length
def putL (l : List Int) (n : Int) : List Int := if l[putPos l n 0]? = some n then l else l.take (putPos l n 0) ++ n :: l.drop (putPos l n 0)
theorem putPos_step {l : List Int} {n y : Int} {k : Nat} (hy : l[k]? = some y) (h : y < n) : putPos l n k = putPos l n (k + 1) := by
  have hk : k < l.length := (List.getElem?_eq_some_iff.1 hy).1
  have hd : l.drop k = y :: l.drop (k + 1) := by
    rw [List.drop_eq_getElem_cons hk]
    congr 1
    exact (List.getElem?_eq_some_iff.1 hy).2
  rw [putPos, hd, List.takeWhile_cons, if_pos (by simpa using h), putPos, List.length_cons]; omega
theorem putPos_stop {l : List Int} {n y : Int} {k : Nat} (hy : l[k]? = some y) (h : ¬ y < n) : putPos l n k = k := by
  have hk : k < l.length := (List.getElem?_eq_some_iff.1 hy).1
  have hd : l.drop k = y :: l.drop (k + 1) := by
    rw [List.drop_eq_getElem_cons hk]
    congr 1
    exact (List.getElem?_eq_some_iff.1 hy).2
  rw [putPos, hd, List.takeWhile_cons, if_neg (by simpa using h)]; rfl
theorem putPos_end {l : List Int} {n : Int} {k : Nat} (h : l.length ≤ k) : putPos l n k = k := by
  rw [putPos, List.drop_of_length_le h]; rfl
theorem put_facts {l : List Int} {n : Int} (hl : l.Pairwise (· < ·)) : putPos l n 0 ≤ l.length ∧ (∀ y ∈ l.take (putPos l n 0), y < n) ∧ (∀ y ∈ l.drop (putPos l n 0), n ≤ y) := by
  have e : putPos l n 0 = (l.takeWhile fun y => decide (y < n)).length := by rw [putPos, List.drop_zero, Nat.zero_add]
  have hsp : l.takeWhile (fun y => decide (y < n)) ++ l.dropWhile (fun y => decide (y < n)) = l := List.takeWhile_append_dropWhile
  have ht : l.take (putPos l n 0) = l.takeWhile fun y => decide (y < n) := by
    have q : ∀ a b : List Int, a ++ b = l → l.take a.length = a := fun a b h => by rw [← h, List.take_left' rfl]
    rw [e]; exact q _ _ hsp
  have hdr : l.drop (putPos l n 0) = l.dropWhile fun y => decide (y < n) := by
    have q : ∀ a b : List Int, a ++ b = l → l.drop a.length = b := fun a b h => by rw [← h, List.drop_left' rfl]
    rw [e]; exact q _ _ hsp
  refine ⟨?_, fun y hy => ?_, fun y hy => ?_⟩
  · rw [e]; exact (List.takeWhile_prefix _).length_le
  · rw [ht] at hy
    have := List.all_takeWhile (p := fun y => decide (y < n)) (l := l)
    rw [List.all_eq_true] at this
    simpa using this y hy
  · rw [hdr] at hy
    cases hq : l.dropWhile (fun y => decide (y < n)) with
    | nil => rw [hq] at hy; cases hy
    | cons z r =>
      have hz : ¬ z < n := by
        have := List.head?_dropWhile_not (fun y => decide (y < n)) l
        rw [hq] at this
        simpa using this
      rw [hq] at hy
      rcases List.mem_cons.1 hy with rfl | hy
      · omega
      · have hp : (l.dropWhile fun y => decide (y < n)).Pairwise (· < ·) := hl.sublist (List.dropWhile_sublist _)
        rw [hq] at hp
        have := (List.pairwise_cons.1 hp).1 y hy
        omega
theorem put_new {l : List Int} {n : Int} (hl : l.Pairwise (· < ·)) (hn : n ∉ l) : (putL l n).Pairwise (· < ·) ∧ (∀ x, x ∈ putL l n ↔ x = n ∨ x ∈ l) ∧ (putL l n).length = l.length + 1 := by
  obtain ⟨h0, h1, h2⟩ := put_facts (n := n) hl
  have hne : ¬ l[putPos l n 0]? = some n := fun h => hn (List.mem_of_getElem? h)
  have hsplit : ∀ x, x ∈ l ↔ x ∈ l.take (putPos l n 0) ∨ x ∈ l.drop (putPos l n 0) := fun x => by rw [← List.mem_append, List.take_append_drop]
  have h3 : ∀ y ∈ l.drop (putPos l n 0), n < y := fun y hy => by
    have := h2 y hy
    have : y ≠ n := fun e => hn (e ▸ List.mem_of_mem_drop hy)
    omega
  rw [putL, if_neg hne]
  refine ⟨?_, fun x => ?_, ?_⟩
  · rw [List.pairwise_append, List.pairwise_cons]
    refine ⟨hl.sublist (List.take_sublist ..), ⟨h3, hl.sublist (List.drop_sublist ..)⟩, fun a ha b hb => ?_⟩
    rcases List.mem_cons.1 hb with rfl | hb
    · exact h1 a ha
    · have := h1 a ha; have := h3 b hb; omega
  · rw [List.mem_append, List.mem_cons, hsplit x]
    constructor
    · rintro (h | h | h)
      · exact .inr (.inl h)
      · exact .inl h
      · exact .inr (.inr h)
    · rintro (h | h | h)
      · exact .inr (.inl h)
      · exact .inl h
      · exact .inr (.inr h)
  · rw [List.length_append, List.length_cons, List.length_take, List.length_drop]; omega
def candTo (may : Int → Bool) : Nat → List Int
  | 0 => []
  | m + 1 => if may (m : Int) = true then candTo may m ++ [(m : Int)] else candTo may m
theorem cand_mem {may : Int → Bool} : ∀ (m : Nat) (i : Int), i ∈ candTo may m ↔ (0 ≤ i ∧ i < m ∧ may i = true)
  | 0, i => by simp [candTo]; omega
  | m + 1, i => by
    rw [candTo]
    by_cases h : may (m : Int) = true
    · rw [if_pos h, List.mem_append, List.mem_singleton, cand_mem m i]
      constructor
      · rintro (q | q)
        · exact ⟨q.1, by omega, q.2.2⟩
        · subst q; exact ⟨by omega, by omega, h⟩
      · rintro ⟨q1, q2, q3⟩
        by_cases e : i = (m : Int)
        · exact .inr e
        · exact .inl ⟨q1, by omega, q3⟩
    · rw [if_neg h, cand_mem m i]
      constructor
      · exact fun q => ⟨q.1, by omega, q.2.2⟩
      · rintro ⟨q1, q2, q3⟩
        refine ⟨q1, ?_, q3⟩
        have : i ≠ (m : Int) := fun e => h (e ▸ q3)
        omega
theorem cand_rising {may : Int → Bool} : ∀ m : Nat, (candTo may m).Pairwise (· < ·)
  | 0 => List.Pairwise.nil
  | m + 1 => by
    rw [candTo]
    split
    · rw [List.pairwise_append]
      refine ⟨cand_rising m, List.pairwise_singleton .., fun a ha b hb => ?_⟩
      have := ((cand_mem m a).1 ha).2.1
      rw [List.mem_singleton] at hb
      omega
    · exact cand_rising m
theorem cand_len {may : Int → Bool} : ∀ m : Nat, (candTo may m).length ≤ m
  | 0 => Nat.le_refl _
  | m + 1 => by
    have := cand_len (may := may) m
    rw [candTo]; split <;> simp <;> omega
def bestTo (key : Int → Int) (taken : List Int) (may : Int → Bool) (m : Nat) : Int := (candTo may m).foldl (bestF key taken) (-1)
theorem bestTo_step {key : Int → Int} {taken : List Int} {may : Int → Bool} {m : Nat} : bestTo key taken may (m + 1) = if may (m : Int) = true then bestF key taken (bestTo key taken may m) (m : Int) else bestTo key taken may m := by
  rw [bestTo, candTo]
  split
  · rw [List.foldl_append]; rfl
  · rfl
def byK (key : Int → Int) (a b : Int) : Bool := decide (key a < key b)
def ordL (key : Int → Int) (may : Int → Bool) (p : Nat) : List Int := isort (byK key) (candTo may p)
theorem ord_sorted {key : Int → Int} {may : Int → Bool} {p : Nat} : (ordL key may p).Pairwise (byKN key) :=
  isort_sorted (candTo may p) [] List.Pairwise.nil (fun x hx => by cases hx) (cand_rising p)
theorem ord_len {key : Int → Int} {may : Int → Bool} {p : Nat} : (ordL key may p).length = (candTo may p).length := isort_len ..
theorem ord_mem {key : Int → Int} {may : Int → Bool} {p : Nat} {i : Int} : i ∈ ordL key may p ↔ i ∈ candTo may p := isort_mem
theorem ord_nodup {key : Int → Int} {may : Int → Bool} {p : Nat} : (ordL key may p).Nodup := ord_sorted.imp fun h e => by subst e; unfold byKN at h; omega
/-- The shift after k choices. -/
def shiftK (key : Int → Int) (may : Int → Bool) (p k : Nat) : List Int := sortL ((ordL key may p).take k)
theorem sortL_rising {l : List Int} (h : l.Nodup) : (sortL l).Pairwise (· < ·) := by
  have h1 := sortLR_sorted l
  have h2 : (sortL l).Nodup := (sortLR_perm l).symm.nodup h
  rw [List.Nodup, List.pairwise_iff_getElem] at h2
  rw [List.pairwise_iff_getElem] at h1 ⊢
  intro i j hi hj hij
  have a := h1 i j hi hj hij
  have b := h2 i j hi hj hij
  simp at a
  omega
theorem shift_mem {key : Int → Int} {may : Int → Bool} {p k : Nat} {i : Int} : i ∈ shiftK key may p k ↔ i ∈ (ordL key may p).take k := (sortLR_perm _).mem_iff
theorem shift_rising {key : Int → Int} {may : Int → Bool} {p k : Nat} : (shiftK key may p k).Pairwise (· < ·) := sortL_rising (ord_nodup.sublist (List.take_sublist ..))
theorem shift_len {key : Int → Int} {may : Int → Bool} {p k : Nat} (h : k ≤ (candTo may p).length) : (shiftK key may p k).length = k := by
  rw [shiftK, (sortLR_perm _).length_eq, List.length_take, ord_len]; omega
theorem shift_zero {key : Int → Int} {may : Int → Bool} {p : Nat} : shiftK key may p 0 = [] := by rw [shiftK, List.take_zero]; exact List.length_eq_zero_iff.1 (by rw [(sortLR_perm _).length_eq]; rfl)
theorem shift_next {key : Int → Int} {may : Int → Bool} {p k : Nat} {y : Int} (h : (ordL key may p)[k]? = some y) : putL (shiftK key may p k) y = shiftK key may p (k + 1) := by
  have hy : y ∉ shiftK key may p k := fun hm => by
    rw [shift_mem] at hm
    obtain ⟨j, hj, e⟩ := List.getElem_of_mem hm
    rw [List.length_take] at hj
    rw [List.getElem_take] at e
    obtain ⟨hk, ek⟩ := List.getElem?_eq_some_iff.1 h
    have := (List.pairwise_iff_getElem.1 (ord_nodup (key := key) (may := may) (p := p))) j k (by omega) hk (by omega)
    exact this (e.trans ek.symm)
  obtain ⟨p1, p2, _⟩ := put_new shift_rising hy
  refine rising_ext p1 shift_rising fun x => ?_
  rw [p2, shift_mem, shift_mem, List.take_add_one, h, List.mem_append]
  simp [or_comm]
theorem best_next {key : Int → Int} {may : Int → Bool} {p k : Nat} : bestTo key (shiftK key may p k) may p = match (ordL key may p)[k]? with | some y => y | none => -1 :=
  best_is_next (cand_rising p) (fun i hi => ((cand_mem p i).1 hi).1) ord_sorted (fun _ => ord_mem) (fun _ => shift_mem)
/-- A roster: a shift for each need. -/
def makeR (keyOf : List (List Int) → Int → Int) (may : List (List Int) → Int → Bool) (p : Nat) : List Int → List (List Int) → Option (List (List Int))
  | [], l => some l
  | n :: ns, l => if ((candTo (may l) p).length : Int) < n then none else makeR keyOf may p ns (l ++ [shiftK (keyOf l) (may l) p n.toNat])
def keyS (a : Int) (l : List (List Int)) : Int → Int := fun i => (shiftsOf l a).getD i.toNat 0
def mayS (a b c : Int) (l : List (List Int)) : Int → Bool := fun i => mayB l a b c i
def mkR (a b c : Int) (needs : List Int) : Option (List (List Int)) := makeR (keyS a) (mayS a b c) a.toNat needs []
def mkB (a b c : Int) (needs : List Int) : Bool := (mkR a b c needs).isSome
def mkL (a b c : Int) (needs : List Int) : List (List Int) := (mkR a b c needs).getD []
theorem fillK_0R : fillK 0 = .flat := rfl
structure RF (a : Int) (i : Nat) (l : List (List Int)) : Prop where
  len : l.length = i
  n9 : ∀ s ∈ l, s.length ≤ 9
  mem : ∀ s ∈ l, ∀ y ∈ s, 0 ≤ y ∧ y < a
theorem RF.zero (a : Int) : RF a 0 [] := ⟨rfl, by simp, by simp⟩
theorem shiftK_mem9 {key : Int → Int} {may : Int → Bool} {p k : Nat} {y : Int} (h : y ∈ shiftK key may p k) : 0 ≤ y ∧ y < (p : Int) := by
  have := ord_mem.1 (List.mem_of_mem_take (shift_mem.1 h))
  have := (cand_mem p y).1 this
  omega
theorem shiftK_len9 (key : Int → Int) (may : Int → Bool) (p k : Nat) : (shiftK key may p k).length ≤ p := by
  rw [shiftK, (sortLR_perm _).length_eq, List.length_take, ord_len]
  have := cand_len (may := may) p
  omega
theorem RF.snoc {a : Int} {i : Nat} {l : List (List Int)} (h : RF a i l) {key : Int → Int} {may : Int → Bool} {k : Nat} (ha : 1 ≤ a ∧ a ≤ 9) : RF a (i + 1) (l ++ [shiftK key may a.toNat k]) := by
  refine ⟨by rw [List.length_append, h.len]; rfl, fun s hs => ?_, fun s hs y hy => ?_⟩
  · rcases List.mem_append.1 hs with q | q
    · exact h.n9 s q
    · rw [List.mem_singleton.1 q]
      have := shiftK_len9 key may a.toNat k
      omega
  · rcases List.mem_append.1 hs with q | q
    · exact h.mem s q y hy
    · rw [List.mem_singleton.1 q] at hy
      have := shiftK_mem9 hy
      omega
theorem mk_step {a b c : Int} {needs : List Int} {i : Nat} {n : Int} {l : List (List Int)} (hx : needs[i]? = some n) : makeR (keyS a) (mayS a b c) a.toNat (needs.drop i) l = if ((candTo (mayS a b c l) a.toNat).length : Int) < n then none else makeR (keyS a) (mayS a b c) a.toNat (needs.drop (i + 1)) (l ++ [shiftK (keyS a l) (mayS a b c l) a.toNat n.toNat]) := by
  rw [getElem_drop_cons hx, makeR]
theorem mk_end {a b c : Int} {needs : List Int} {i : Nat} {l : List (List Int)} (h : needs.length ≤ i) : makeR (keyS a) (mayS a b c) a.toNat (needs.drop i) l = some l := by
  rw [List.drop_of_length_le h, makeR]
theorem lt_keyS (a : Int) (l : List (List Int)) : ltOf (fun x y => cmpI ((shiftsOf l a).getD x.toNat 0) ((shiftsOf l a).getD y.toNat 0)) = byK (keyS a l) := by
  funext x y
  rw [ltOf, byK]
  refine decide_eq_decide.2 ?_
  unfold cmpI keyS
  by_cases h : (shiftsOf l a).getD x.toNat 0 < (shiftsOf l a).getD y.toNat 0
  · simp only [h, if_true]; exact ⟨fun _ => trivial, fun _ => by decide⟩
  · simp only [h, if_false, iff_false]
    split <;> omega
theorem need_in {l : List Int} (h : needB l = true) : ∀ x ∈ l, 0 ≤ x ∧ x ≤ 9 := by
  intro x hx
  simp only [needB, Bool.and_eq_true, List.all_eq_true, inR, decide_eq_true_eq] at h
  exact h.1 x hx
theorem bestTo_at {key : Int → Int} {taken : List Int} {may : Int → Bool} : ∀ m : Nat, bestTo key taken may m = -1 ∨ ∃ q : Nat, bestTo key taken may m = (q : Int) ∧ q < m
  | 0 => .inl rfl
  | m + 1 => by
    rw [bestTo_step]
    have ih := bestTo_at (key := key) (taken := taken) (may := may) m
    have keep : bestTo key taken may m = -1 ∨ ∃ q : Nat, bestTo key taken may m = (q : Int) ∧ q < m + 1 := ih.imp id fun ⟨q, h1, h2⟩ => ⟨q, h1, by omega⟩
    split
    · rw [bestF]
      split
      · exact .inr ⟨m, rfl, by omega⟩
      · exact keep
    · exact keep
theorem mk_facts {a b c : Int} (ha : 1 ≤ a ∧ a ≤ 9) : ∀ (needs : List Int) (i : Nat) (l r : List (List Int)), RF a i l → makeR (keyS a) (mayS a b c) a.toNat needs l = some r → RF a (i + needs.length) r
  | [], i, l, r, h, e => by
    rw [makeR] at e; cases e; exact h
  | n :: ns, i, l, r, h, e => by
    rw [makeR] at e
    split at e
    · cases e
    · have := mk_facts ha ns (i + 1) _ r (h.snoc ha) e
      rw [List.length_cons, show i + (ns.length + 1) = i + 1 + ns.length by omega]; exact this
theorem mkL_facts {a b c : Int} (ha : 1 ≤ a ∧ a ≤ 9) (needs : List Int) : (mkL a b c needs).length ≤ needs.length ∧ ∀ s ∈ mkL a b c needs, s.length ≤ 9 := by
  rw [mkL, mkR]
  cases h : makeR (keyS a) (mayS a b c) a.toNat needs [] with
  | none => exact ⟨Nat.zero_le _, by simp⟩
  | some r =>
    have := mk_facts ha needs 0 [] r (RF.zero a) h
    exact ⟨by rw [Option.getD_some, this.len]; omega, this.n9⟩
theorem F2_snoc (l : List (List Int)) (s : List Int) : l.map (fun l : List Int => V.sl (l.map (V.int .i64))) ++ [V.sl (s.map (V.int .i64))] = (l ++ [s]).map (fun l : List Int => V.sl (l.map (V.int .i64))) := by rw [List.map_append]; rfl
theorem cand_yes {may : Int → Bool} {j : Nat} (h : may (j : Int) = true) : candTo may (j + 1) = candTo may j ++ [(j : Int)] := by rw [candTo, if_pos h]
theorem cand_no {may : Int → Bool} {j : Nat} (h : may (j : Int) = false) : candTo may (j + 1) = candTo may j := by rw [candTo, if_neg (by rw [h]; decide)]

set_option maxRecDepth 8000 in
set_option maxHeartbeats 1000000 in
theorem l1Put_con (l : List Int) (n : Int) (hl : l.length ≤ 1048576) (hn : n ∉ l) : Con Tryd.prog 89 [.sl (l.map (V.int .i64)), .int .i64 n] [] (.ref 0) [.arr ((putL l n).map (V.int .i64)) .flat] := by
 refine v_con [.tmp 4] [] Tryd.func89 rfl rfl rfl (by simp [Tryd.ntmps89]) ?_
 intro Q0 n0 r0
 simp only [Tryd.ntmps89, envFrom, Nat.reduceAdd]
 have T := Tys.mk (And.intro Ty.t3 Ty.t36)
 have F := Fc.mk True.intro
 refine v_seqR [0,1] ?_; intro K1 k1
 refine zAssign ⟨?_⟩
 refine k1 _ ?_
 refine zk ⟨?_⟩
 refine v_seqR [0,1,5] ?_; intro K2 k2
 refine zAssign ⟨?_⟩
 refine k2 _ ?_
 refine zk ⟨?_⟩
 refine v_seq ?_; intro Q3 n3 e3 r3
 refine v_block ?_; intro Q4 n4 x4 e4 r4
 refine v_loop (fun k => ⟨[(0, .sl (l.map (V.int .i64))), (1, .int .i64 n), (5, .int .i64 (Nat.cast k))], [], false, 48, 0⟩) (fun k => k ≤ l.length ∧ putPos l n k = putPos l n 0) (fun k => l.length - k) 0 ?_ ?_ ?_
 ·refine weak_bothS [0, 1, 5] [] ⟨?_⟩
  rfl
 ·exact ⟨Nat.zero_le _, rfl⟩
 ·rintro k hok5 Q5 n5 e5 r5
  obtain ⟨hk1, hR⟩ := hok5
  rcases Nat.lt_or_ge k l.length with hkl | hkl
  ·skip
   obtain ⟨y, hy⟩ : ∃ y, l[k]? = some y := ⟨_, List.getElem?_eq_getElem hkl⟩
   have hk0 : (k : Int) < (l.length : Int) := by omega
   have hns : ((l.take k).map (V.int .i64)).all V.noSl = true := by rw [List.all_map, List.all_eq_true]; intro a _; rfl
   have hns2 : ((l.drop k).map (V.int .i64)).all V.noSl = true := by rw [List.all_map, List.all_eq_true]; intro a _; rfl
   have htk : (l.take k).length = k := by rw [List.length_take]; omega
   have hdk : (l.drop k).length = l.length - k := List.length_drop
   have hsn : (l.take k).map (V.int .i64) ++ [V.int .i64 n] = (l.take k ++ [n]).map (V.int .i64) := by rw [List.map_append]; rfl
   have hk1 : (l.take k ++ [n]).length = k + 1 := by rw [List.length_append, htk]; rfl
   refine v_seq ?_; intro Q6 n6 e6 r6
   refine v_seqR [0,1,5,18] ?_; intro K7 k7
   have F := Fc.mk (And.intro hk0 (And.intro @decide_true (And.intro @Bool.and_true (And.intro (fun f => getD_map (f := f) hy) (And.intro hns (And.intro hns2 (And.intro htk (And.intro hdk (And.intro hsn hk1)))))))))
   refine zMove ⟨?_⟩
   refine zMove ⟨?_⟩
   refine zLen ⟨?_⟩
   refine zBinOp ⟨?_⟩
   refine zMove ⟨?_⟩
   refine zgMove ⟨?_⟩
   refine zgMove ⟨?_⟩
   refine zgIndexAddr ⟨?_⟩
   refine zgLoad ⟨?_⟩
   refine zgMove ⟨?_⟩
   refine zgBinOp ⟨?_⟩
   refine zPick ⟨?_⟩
   refine k7 _ ?_
   refine zk ⟨?_⟩
   refine v_condS _ rfl ?_ ?_
   ·intro hc0
    have hyn : y < n := by simpa using hc0
    refine v_skip ?_
    refine n6 _ _ (weak_keep [0, 1, 5] _) ?_
    refine zk ⟨?_⟩
    refine v_block ?_; intro Q9 n9 x9 e9 r9
    refine v_region ?_; intro K10 k10
    refine zMove ⟨?_⟩
    refine zBinOpW ⟨?_⟩
    refine zAssign ⟨?_⟩
    refine k10 _ ?_
    refine n9 _ ?_
    refine n5 _ (k + 1) ?_ ?_ ?_
    ·refine weak_bothS [0, 1, 5] [] ⟨?_⟩
     rfl
    ·exact ⟨by omega, by rw [← hR, ← putPos_step hy hyn]⟩
    ·show _ < _; omega
   ·intro hc0
    have hpk : putPos l n k = k := by
     first
     |exact putPos_end hkl
     |exact putPos_stop hy (by simpa using hc0)
    refine v_exit ?_
    refine e6 _ _ ?_
    refine e5 _ _ ?_
    refine x4 _ ?_
    refine n3 _ _ (weak_keep [0, 1, 5] _) ?_
    refine zk ⟨?_⟩
    refine v_seq ?_; intro Q11 n11 e11 r11
    refine v_seqR [0,1,5,32] ?_; intro K12 k12
    refine zMove ⟨?_⟩
    refine zMove ⟨?_⟩
    refine zLen ⟨?_⟩
    refine zBinOp ⟨?_⟩
    refine zMove ⟨?_⟩
    refine zgMove ⟨?_⟩
    refine zgMove ⟨?_⟩
    refine zgIndexAddr ⟨?_⟩
    refine zgLoad ⟨?_⟩
    refine zgMove ⟨?_⟩
    refine zgBinOp ⟨?_⟩
    refine zPick ⟨?_⟩
    refine k12 _ ?_
    refine zk ⟨?_⟩
    refine v_cond _ rfl ?_ ?_
    ·intro hc1
     exfalso; first
     |(simp at hc1; done)
     |(simp at hc1; exact hn (hc1 ▸ List.mem_of_getElem? hy))
    ·intro hc1
     try simp only [zC, reduceCtorEq] at hc1
     refine v_skip ?_
     refine n11 _ _ (weak_keep [0, 1, 5] _) ?_
     refine zk ⟨?_⟩
     refine v_seqR [0,1,5,6] ?_; intro K14 k14
     refine zBuildSlice ⟨?_⟩
     refine zMove ⟨?_⟩
     refine zMove ⟨?_⟩
     refine zSlice ⟨?_⟩
     refine zAppend ⟨?_⟩
     refine zAssign ⟨?_⟩
     refine k14 _ ?_
     refine zk ⟨?_⟩
     refine v_seqR [0,5,6] ?_; intro K15 k15
     refine zMove ⟨?_⟩
     refine zMove ⟨?_⟩
     refine zBuildSlice ⟨?_⟩
     refine zAppend ⟨?_⟩
     refine zAssign ⟨?_⟩
     refine k15 _ ?_
     refine zk ⟨?_⟩
     refine v_seqR [4] ?_; intro K16 k16
     refine zMove ⟨?_⟩
     refine zMove ⟨?_⟩
     refine zMove ⟨?_⟩
     refine zSlice ⟨?_⟩
     refine zAppend ⟨?_⟩
     refine zAssign ⟨?_⟩
     refine k16 _ ?_
     refine zk ⟨?_⟩
     refine v_ret ?_
     refine r0 _ ?_
     refine zf ⟨?_⟩
     have hne : ¬ l[putPos l n 0]? = some n := fun h => hn (List.mem_of_getElem? h)
     have hpl : putL l n = l.take k ++ n :: l.drop k := by rw [putL, if_neg hne, ← hR, hpk]
     rw [hpl]
     exact ret_refK rfl rfl (by simp)
  ·skip
   have hk0 : ¬ ((k : Int) < (l.length : Int)) := by omega
   have hns : ((l.take k).map (V.int .i64)).all V.noSl = true := by rw [List.all_map, List.all_eq_true]; intro a _; rfl
   have hns2 : ((l.drop k).map (V.int .i64)).all V.noSl = true := by rw [List.all_map, List.all_eq_true]; intro a _; rfl
   have htk : (l.take k).length = k := by rw [List.length_take]; omega
   have hdk : (l.drop k).length = l.length - k := List.length_drop
   have hsn : (l.take k).map (V.int .i64) ++ [V.int .i64 n] = (l.take k ++ [n]).map (V.int .i64) := by rw [List.map_append]; rfl
   have hk1 : (l.take k ++ [n]).length = k + 1 := by rw [List.length_append, htk]; rfl
   refine v_seq ?_; intro Q17 n17 e17 r17
   refine v_seqR [0,1,5,18] ?_; intro K18 k18
   have F := Fc.mk (And.intro hk0 (And.intro @decide_false (And.intro @Bool.and_false (And.intro hns (And.intro hns2 (And.intro htk (And.intro hdk (And.intro hsn hk1))))))))
   refine zMove ⟨?_⟩
   refine zMove ⟨?_⟩
   refine zLen ⟨?_⟩
   refine zBinOp ⟨?_⟩
   refine zMove ⟨?_⟩
   refine zgMove ⟨?_⟩
   refine zgMove ⟨?_⟩
   refine zgIndexAddr ⟨?_⟩
   refine zgLoad ⟨?_⟩
   refine zgMove ⟨?_⟩
   refine zgBinOp ⟨?_⟩
   refine zPick ⟨?_⟩
   refine k18 _ ?_
   refine zk ⟨?_⟩
   refine v_cond _ rfl ?_ ?_
   ·intro hc0
    exfalso; simp at hc0
   ·intro hc0
    try simp only [zC, reduceCtorEq] at hc0
    have hpk : putPos l n k = k := by
     first
     |exact putPos_end hkl
     |exact putPos_stop hy (by simpa using hc0)
    refine v_exit ?_
    refine e17 _ _ ?_
    refine e5 _ _ ?_
    refine x4 _ ?_
    refine n3 _ _ (weak_keep [0, 1, 5] _) ?_
    refine zk ⟨?_⟩
    refine v_seq ?_; intro Q20 n20 e20 r20
    refine v_seqR [0,1,5,32] ?_; intro K21 k21
    refine zMove ⟨?_⟩
    refine zMove ⟨?_⟩
    refine zLen ⟨?_⟩
    refine zBinOp ⟨?_⟩
    refine zMove ⟨?_⟩
    refine zgMove ⟨?_⟩
    refine zgMove ⟨?_⟩
    refine zgIndexAddr ⟨?_⟩
    refine zgLoad ⟨?_⟩
    refine zgMove ⟨?_⟩
    refine zgBinOp ⟨?_⟩
    refine zPick ⟨?_⟩
    refine k21 _ ?_
    refine zk ⟨?_⟩
    refine v_cond _ rfl ?_ ?_
    ·intro hc1
     exfalso; first
     |(simp at hc1; done)
     |(simp at hc1; exact hn (hc1 ▸ List.mem_of_getElem? hy))
    ·intro hc1
     try simp only [zC, reduceCtorEq] at hc1
     refine v_skip ?_
     refine n20 _ _ (weak_keep [0, 1, 5] _) ?_
     refine zk ⟨?_⟩
     refine v_seqR [0,1,5,6] ?_; intro K23 k23
     refine zBuildSlice ⟨?_⟩
     refine zMove ⟨?_⟩
     refine zMove ⟨?_⟩
     refine zSlice ⟨?_⟩
     refine zAppend ⟨?_⟩
     refine zAssign ⟨?_⟩
     refine k23 _ ?_
     refine zk ⟨?_⟩
     refine v_seqR [0,5,6] ?_; intro K24 k24
     refine zMove ⟨?_⟩
     refine zMove ⟨?_⟩
     refine zBuildSlice ⟨?_⟩
     refine zAppend ⟨?_⟩
     refine zAssign ⟨?_⟩
     refine k24 _ ?_
     refine zk ⟨?_⟩
     refine v_seqR [4] ?_; intro K25 k25
     refine zMove ⟨?_⟩
     refine zMove ⟨?_⟩
     refine zMove ⟨?_⟩
     refine zSlice ⟨?_⟩
     refine zAppend ⟨?_⟩
     refine zAssign ⟨?_⟩
     refine k25 _ ?_
     refine zk ⟨?_⟩
     refine v_ret ?_
     refine r0 _ ?_
     refine zf ⟨?_⟩
     have hne : ¬ l[putPos l n 0]? = some n := fun h => hn (List.mem_of_getElem? h)
     have hpl : putL l n = l.take k ++ n :: l.drop k := by rw [putL, if_neg hne, ← hR, hpk]
     rw [hpl]
     exact ret_refK rfl rfl (by simp)
set_option maxRecDepth 100000 in
set_option maxHeartbeats 8000000 in
theorem duMake_con (needs : List Int) (a b c : Int) (hnl : needs.length ≤ 1048576) (ha : 1 ≤ a ∧ a ≤ 9) (hc : 0 ≤ c ∧ c ≤ 5) : Con Tryd.prog 144 [.sl (needs.map (V.int .i64)), .agg [.int .i64 a, .int .i64 b, .int .i64 c]] [] (.tup [.ref 0, .bool (mkB a b c needs)]) [.arr ((mkL a b c needs).map (fun l : List Int => V.sl (l.map (V.int .i64)))) (fillK (mkL a b c needs).length)] := by
 refine v_con [.tmp 4, .tmp 5] [] Tryd.func144 rfl rfl rfl (by simp [Tryd.ntmps144]) ?_
 intro Q0 n0 r0
 simp only [Tryd.ntmps144, envFrom, Nat.reduceAdd]
 have T := Tys.mk (And.intro Ty.t3 (And.intro Ty.t4 (And.intro Ty.t23 (And.intro Ty.t25 Ty.t36))))
 have F := Fc.mk True.intro
 refine v_seqR [0,3] ?_; intro K1 k1
 refine zBox ⟨?_⟩
 refine zAssign ⟨?_⟩
 refine zAssign ⟨?_⟩
 refine k1 _ ?_
 refine zk ⟨?_⟩
 refine v_seqR [0,3,6] ?_; intro K2 k2
 refine zAssign ⟨?_⟩
 refine k2 _ ?_
 refine zk ⟨?_⟩
 refine v_seq ?_; intro Q3 n3 e3 r3
 refine v_seqR [3,6,13,14,15] ?_; intro K4 k4
 refine zMove ⟨?_⟩
 refine zLen ⟨?_⟩
 refine zMove ⟨?_⟩
 refine k4 _ ?_
 refine zk ⟨?_⟩
 refine v_block ?_; intro Q5 n5 x5 e5 r5
 refine v_loop (fun p => ⟨[(3, .ptr 0 0 0), (6, .ref 1), (13, .sl (needs.map (V.int .i64))), (14, .int .i64 needs.length), (15, .int .i64 (Nat.cast p.1))], [.box (.agg [.int .i64 a, .int .i64 b, .int .i64 c]) .flat, .arr (p.2.map (fun l : List Int => V.sl (l.map (V.int .i64)))) (fillK p.1)], false, 70, 0⟩) (fun p => p.1 ≤ needs.length ∧ RF a p.1 p.2 ∧ makeR (keyS a) (mayS a b c) a.toNat (needs.drop p.1) p.2 = mkR a b c needs) (fun p => needs.length - p.1) ((0, []) : Nat × List (List Int)) ?_ ?_ ?_
 ·refine weak_bothS [3, 6, 13, 14, 15] [0, 2] ⟨?_⟩
  rfl
 ·exact ⟨Nat.zero_le _, RF.zero a, rfl⟩
 ·rintro ⟨i, l⟩ hok6 Q6 n6 e6 r6
  obtain ⟨hi1, hRF, hR⟩ := hok6
  simp only [] at hi1 hRF hR ⊢
  refine v_seqR [3,6,13,14,15,16] ?_; intro K7 k7
  refine zBinOp ⟨?_⟩
  refine k7 _ ?_
  refine zk ⟨?_⟩
  refine v_seq ?_; intro Q8 n8 e8 r8
  refine v_condS _ rfl ?_ ?_
  ·intro hc0
   have hlt : i < needs.length := by omega
   obtain ⟨n, hx⟩ : ∃ n, needs[i]? = some n := ⟨_, List.getElem?_eq_getElem hlt⟩
   have hll : ∀ s ∈ l, s.length ≤ 1048576 := fun s hs => Nat.le_trans (hRF.n9 s hs) (by omega)
   have hld : l.length ≤ 1048576 := by rw [hRF.len]; omega
   have hcsl := shiftsOf_len l a
   obtain ⟨nn, hnn⟩ : ∃ nn : Nat, n.toNat = nn := ⟨_, rfl⟩
   have hsz := shift_zero (key := (keyS a l)) (may := (mayS a b c l)) (p := a.toNat)
   refine v_skip ?_
   refine n8 _ _ (weak_keep [3, 6, 13, 14, 15] _) ?_
   refine zk ⟨?_⟩
   refine v_seq ?_; intro Q10 n10 e10 r10
   refine v_block ?_; intro Q11 n11 x11 e11 r11
   refine v_seqR [3,6,8,13,14,15] ?_; intro K12 k12
   have F := Fc.mk (fun f => getD_map (f := f) hx)
   refine zIndexAddr ⟨?_⟩
   refine zLoad ⟨?_⟩
   refine zAssign ⟨?_⟩
   refine k12 _ ?_
   refine zk ⟨?_⟩
   refine v_seqR [3,6,8,9,13,14,15] ?_; intro K13 k13
   refine zMove ⟨?_⟩
   refine zFieldAddr ⟨?_⟩
   refine zLoad ⟨?_⟩
   refine zc (duShifts_con l a hld hll ha.1 ha.2 hRF.mem) ⟨?_⟩
   refine zAssign ⟨?_⟩
   refine k13 _ ?_
   refine zk ⟨?_⟩
   refine v_seqR [3,6,8,9,10,13,14,15] ?_; intro K14 k14
   refine zAssign ⟨?_⟩
   refine k14 _ ?_
   refine zk ⟨?_⟩
   refine v_seq ?_; intro Q15 n15 e15 r15
   refine v_block ?_; intro Q16 n16 x16 e16 r16
   refine v_loop (fun k => ⟨[(3, .ptr 0 0 0), (6, .ref 1), (8, .int .i64 n), (9, .ref 2), (10, .ref 3), (13, .sl (needs.map (V.int .i64))), (14, .int .i64 needs.length), (15, .int .i64 (Nat.cast i))], [.box (.agg [.int .i64 a, .int .i64 b, .int .i64 c]) .flat, .arr (l.map (fun l : List Int => V.sl (l.map (V.int .i64)))) (fillK i), .arr ((shiftsOf l a).map (V.int .i64)) .flat, .arr ((shiftK (keyS a l) (mayS a b c l) a.toNat k).map (V.int .i64)) .flat], false, 70, 0⟩) (fun k => k ≤ nn ∧ k ≤ (candTo (mayS a b c l) a.toNat).length) (fun k => nn - k) 0 ?_ ?_ ?_
   ·refine weak_bothS [3, 6, 8, 9, 10, 13, 14, 15] [0, 1, 2, 3] ⟨?_⟩
    rw [hsz]; rfl
   ·exact ⟨Nat.zero_le _, Nat.zero_le _⟩
   ·rintro k hok17 Q17 n17 e17 r17
    obtain ⟨hk1, hk2⟩ := hok17
    refine v_seq ?_; intro Q18 n18 e18 r18
    refine v_seqR [3,6,8,9,10,13,14,15,26] ?_; intro K19 k19
    refine zMove ⟨?_⟩
    refine zLen ⟨?_⟩
    refine zMove ⟨?_⟩
    refine zBinOp ⟨?_⟩
    refine k19 _ ?_
    refine zk ⟨?_⟩
    refine v_condS _ rfl ?_ ?_
    ·intro hc1
     have hsl := shift_len (key := (keyS a l)) (may := (mayS a b c l)) (p := a.toNat) hk2
     have hkn : k < nn := by omega
     have hcl := cand_len (may := (mayS a b c l)) a.toNat
     refine v_skip ?_
     refine n18 _ _ (weak_keep [3, 6, 8, 9, 10, 13, 14, 15] _) ?_
     refine zk ⟨?_⟩
     refine v_block ?_; intro Q21 n21 x21 e21 r21
     refine v_seqR [3,6,8,9,10,11,13,14,15] ?_; intro K22 k22
     refine zAssign ⟨?_⟩
     refine k22 _ ?_
     refine zk ⟨?_⟩
     refine v_seq ?_; intro Q23 n23 e23 r23
     refine v_seqR [3,6,8,9,10,11,12,13,14,15] ?_; intro K24 k24
     refine zAssign ⟨?_⟩
     refine k24 _ ?_
     refine zk ⟨?_⟩
     refine v_block ?_; intro Q25 n25 x25 e25 r25
     refine v_loop (fun m => ⟨[(3, .ptr 0 0 0), (6, .ref 1), (8, .int .i64 n), (9, .ref 2), (10, .ref 3), (11, .int .i64 (bestTo (keyS a l) (shiftK (keyS a l) (mayS a b c l) a.toNat k) (mayS a b c l) m)), (12, .int .i64 (Nat.cast m)), (13, .sl (needs.map (V.int .i64))), (14, .int .i64 needs.length), (15, .int .i64 (Nat.cast i))], [.box (.agg [.int .i64 a, .int .i64 b, .int .i64 c]) .flat, .arr (l.map (fun l : List Int => V.sl (l.map (V.int .i64)))) (fillK i), .arr ((shiftsOf l a).map (V.int .i64)) .flat, .arr ((shiftK (keyS a l) (mayS a b c l) a.toNat k).map (V.int .i64)) .flat], false, 70, 0⟩) (fun m => m ≤ a.toNat) (fun m => a.toNat - m) 0 ?_ ?_ ?_
     ·refine weak_bothS [3, 6, 8, 9, 10, 11, 12, 13, 14, 15] [0, 1, 2, 3] ⟨?_⟩
      rfl
     ·exact Nat.zero_le _
     ·rintro m hok26 Q26 n26 e26 r26
      have hm1 : m ≤ a.toNat := hok26
      refine v_seq ?_; intro Q27 n27 e27 r27
      refine v_seqR [3,6,8,9,10,11,12,13,14,15,30] ?_; intro K28 k28
      refine zMove ⟨?_⟩
      refine zFieldAddr ⟨?_⟩
      refine zLoad ⟨?_⟩
      refine zBinOp ⟨?_⟩
      refine k28 _ ?_
      refine zk ⟨?_⟩
      refine v_condS _ rfl ?_ ?_
      ·intro hc2
       have hml : m < a.toNat := by omega
       obtain ⟨v, hv⟩ : ∃ v, (shiftsOf l a)[m]? = some v := ⟨_, List.getElem?_eq_getElem (by omega)⟩
       have hkv : (keyS a l) (m : Int) = v := by rw [keyS, List.getD_eq_getElem?_getD, Int.toNat_natCast, hv]; rfl
       have hbs := bestTo_step (key := (keyS a l)) (taken := (shiftK (keyS a l) (mayS a b c l) a.toNat k)) (may := (mayS a b c l)) (m := m)
       rcases bestTo_at (key := (keyS a l)) (taken := (shiftK (keyS a l) (mayS a b c l) a.toNat k)) (may := (mayS a b c l)) m with hb | ⟨q, hb, hq⟩
       ·skip
        have hb0 : (-1 : Int) < 0 := by decide
        refine v_skip ?_
        refine n27 _ _ (weak_keep [3, 6, 8, 9, 10, 11, 12, 13, 14, 15] _) ?_
        refine zk ⟨?_⟩
        refine v_seq ?_; intro Q30 n30 e30 r30
        refine v_block ?_; intro Q31 n31 x31 e31 r31
        refine v_seq ?_; intro Q32 n32 e32 r32
        refine v_draw (by kernel_rfl) ?_; intro K33 q33 k33
        show aAny _ _ _ _ 25 (Array.replicate 25 false) _
        have F := Fc.mk (And.intro (fun f => getD_map (f := f) hx) (And.intro (fun f => getD_map (f := f) hv) (And.intro hcsl (And.intro @Int.toNat_natCast (And.intro hb (And.intro hb0 @decide_true))))))
        refine zdMove q33 true 0 33 ?_
        refine zdMove q33 true 1 34 ?_
        refine zoc 2 (l1Has_con (shiftK (keyS a l) (mayS a b c l) a.toNat k) (m : Int) (by omega)) ⟨?_⟩
        refine zdUnOp q33 true 3 36 ?_
        refine zdMove q33 true 4 37 ?_
        refine zdgMove q33 true 5 38 ?_
        refine zdgLoad q33 true 6 39 ?_
        refine zdgMove q33 true 7 40 ?_
        first
        |refine zogc 8 (duMay_con l a b c (m : Int) hld hll ha.1 ha.2 hc hRF.mem (by omega)) ⟨?_⟩
        |(refine aAny_pass 8 41 4 true rfl rfl (show 41 < 70 by decide) (by kernel_rfl) rfl ?_ ?_; (focus first | rfl | (simp only [zV, guardV, Nat.reduceEqDiff, reduceIte]; done)); simp only [zW, set_some, Nat.reduceEqDiff, reduceIte])
        refine zdPick q33 true 9 42 ?_
        refine zdMove q33 true 10 43 ?_
        refine zdgMove q33 true 11 44 ?_
        refine zdgBinOp q33 true 12 45 ?_
        refine zdgMove q33 true 13 46 ?_
        refine zdgMove q33 true 14 47 ?_
        refine zdgMove q33 true 15 48 ?_
        refine zdgIndexAddr q33 true 16 49 ?_
        refine zdgLoad q33 true 17 50 ?_
        refine zdgMove q33 true 18 51 ?_
        refine zdgMove q33 true 19 52 ?_
        refine zdgIndexAddr q33 true 20 53 ?_
        refine zdgLoad q33 true 21 54 ?_
        refine zdgBinOp q33 true 22 55 ?_
        refine zdgPick q33 true 23 56 ?_
        refine zdPick q33 true 24 57 ?_
        refine aAny_done (by kernel_rfl) ?_
        refine k33 _ ?_
        refine n32 _ _ (weak_keep [3, 6, 8, 9, 10, 11, 12, 13, 14, 15, 57] _) ?_
        refine zk ⟨?_⟩
        refine v_condS _ rfl ?_ ?_
        ·intro hc3
         have hnx : (bestTo (keyS a l) (shiftK (keyS a l) (mayS a b c l) a.toNat k) (mayS a b c l) (m + 1)) = (m : Int) := by
          rw [hbs, hb]
          simp only [mayS, bestF, hkv, Bool.and_eq_true, decide_eq_true_eq, Bool.not_eq_true', decide_eq_false_iff_not] at hc3 ⊢
          first
          |(rw [if_pos hc3.2, if_pos ⟨hc3.1, .inl (by decide)⟩]; done)
          |(rw [hku, if_pos hc3.1.2, if_pos ⟨hc3.1.1, .inr hc3.2⟩]; done)
          |(simp_all; done)
         refine v_region ?_; intro K35 k35
         refine zMove ⟨?_⟩
         refine zAssign ⟨?_⟩
         refine k35 _ ?_
         refine n31 _ ?_
         refine n30 _ _ (weak_keep [3, 6, 8, 9, 10, 11, 12, 13, 14, 15] _) ?_
         refine zk ⟨?_⟩
         refine v_region ?_; intro K36 k36
         refine zMove ⟨?_⟩
         refine zBinOpW ⟨?_⟩
         refine zAssign ⟨?_⟩
         refine k36 _ ?_
         refine n26 _ (m + 1) ?_ ?_ ?_
         ·refine weak_bothS [3, 6, 8, 9, 10, 11, 12, 13, 14, 15] [0, 1, 2, 3] ⟨?_⟩
          first | (rw [hnx]; rfl) | (rw [hnx, hb]; rfl)
         ·exact hml
         ·show _ < _; omega
        ·intro hc3
         have hnx : (bestTo (keyS a l) (shiftK (keyS a l) (mayS a b c l) a.toNat k) (mayS a b c l) (m + 1)) = (bestTo (keyS a l) (shiftK (keyS a l) (mayS a b c l) a.toNat k) (mayS a b c l) m) := by
          rw [hbs]
          split
          ·rename_i hmm
           rw [bestF, if_neg]
           rintro ⟨h1, h2⟩
           rw [hb, hkv] at h2
           (try rw [hku] at h2)
           simp only [mayS] at hmm
           simp [h1, hmm] at hc3 <;> omega
          ·rfl
         refine v_skip ?_
         refine n31 _ ?_
         refine n30 _ _ (weak_keep [3, 6, 8, 9, 10, 11, 12, 13, 14, 15] _) ?_
         refine zk ⟨?_⟩
         refine v_region ?_; intro K37 k37
         refine zMove ⟨?_⟩
         refine zBinOpW ⟨?_⟩
         refine zAssign ⟨?_⟩
         refine k37 _ ?_
         refine n26 _ (m + 1) ?_ ?_ ?_
         ·refine weak_bothS [3, 6, 8, 9, 10, 11, 12, 13, 14, 15] [0, 1, 2, 3] ⟨?_⟩
          first | (rw [hnx]; rfl) | (rw [hnx, hb]; rfl)
         ·exact hml
         ·show _ < _; omega
       ·skip
        have hb0 : ¬ ((q : Int) < 0) := by omega
        obtain ⟨u, hu⟩ : ∃ u, (shiftsOf l a)[q]? = some u := ⟨_, List.getElem?_eq_getElem (by omega)⟩
        have hku : (keyS a l) (q : Int) = u := by rw [keyS, List.getD_eq_getElem?_getD, Int.toNat_natCast, hu]; rfl
        refine v_skip ?_
        refine n27 _ _ (weak_keep [3, 6, 8, 9, 10, 11, 12, 13, 14, 15] _) ?_
        refine zk ⟨?_⟩
        refine v_seq ?_; intro Q38 n38 e38 r38
        refine v_block ?_; intro Q39 n39 x39 e39 r39
        refine v_seq ?_; intro Q40 n40 e40 r40
        refine v_draw (by kernel_rfl) ?_; intro K41 q41 k41
        show aAny _ _ _ _ 25 (Array.replicate 25 false) _
        have F := Fc.mk (And.intro (fun f => getD_map (f := f) hx) (And.intro (fun f => getD_map (f := f) hv) (And.intro hcsl (And.intro @Int.toNat_natCast (And.intro hb (And.intro hb0 (And.intro @decide_false (fun f => getD_map (f := f) hu))))))))
        refine zdMove q41 true 0 33 ?_
        refine zdMove q41 true 1 34 ?_
        refine zoc 2 (l1Has_con (shiftK (keyS a l) (mayS a b c l) a.toNat k) (m : Int) (by omega)) ⟨?_⟩
        refine zdUnOp q41 true 3 36 ?_
        refine zdMove q41 true 4 37 ?_
        refine zdgMove q41 true 5 38 ?_
        refine zdgLoad q41 true 6 39 ?_
        refine zdgMove q41 true 7 40 ?_
        first
        |refine zogc 8 (duMay_con l a b c (m : Int) hld hll ha.1 ha.2 hc hRF.mem (by omega)) ⟨?_⟩
        |(refine aAny_pass 8 41 4 true rfl rfl (show 41 < 70 by decide) (by kernel_rfl) rfl ?_ ?_; (focus first | rfl | (simp only [zV, guardV, Nat.reduceEqDiff, reduceIte]; done)); simp only [zW, set_some, Nat.reduceEqDiff, reduceIte])
        refine zdPick q41 true 9 42 ?_
        refine zdMove q41 true 10 43 ?_
        refine zdgMove q41 true 11 44 ?_
        refine zdgBinOp q41 true 12 45 ?_
        refine zdgMove q41 true 13 46 ?_
        refine zdgMove q41 true 14 47 ?_
        refine zdgMove q41 true 15 48 ?_
        refine zdgIndexAddr q41 true 16 49 ?_
        refine zdgLoad q41 true 17 50 ?_
        refine zdgMove q41 true 18 51 ?_
        refine zdgMove q41 true 19 52 ?_
        refine zdgIndexAddr q41 true 20 53 ?_
        refine zdgLoad q41 true 21 54 ?_
        refine zdgBinOp q41 true 22 55 ?_
        refine zdgPick q41 true 23 56 ?_
        refine zdPick q41 true 24 57 ?_
        refine aAny_done (by kernel_rfl) ?_
        refine k41 _ ?_
        refine n40 _ _ (weak_keep [3, 6, 8, 9, 10, 11, 12, 13, 14, 15, 57] _) ?_
        refine zk ⟨?_⟩
        refine v_condS _ rfl ?_ ?_
        ·intro hc3
         have hnx : (bestTo (keyS a l) (shiftK (keyS a l) (mayS a b c l) a.toNat k) (mayS a b c l) (m + 1)) = (m : Int) := by
          rw [hbs, hb]
          simp only [mayS, bestF, hkv, Bool.and_eq_true, decide_eq_true_eq, Bool.not_eq_true', decide_eq_false_iff_not] at hc3 ⊢
          first
          |(rw [if_pos hc3.2, if_pos ⟨hc3.1, .inl (by decide)⟩]; done)
          |(rw [hku, if_pos hc3.1.2, if_pos ⟨hc3.1.1, .inr hc3.2⟩]; done)
          |(simp_all; done)
         refine v_region ?_; intro K43 k43
         refine zMove ⟨?_⟩
         refine zAssign ⟨?_⟩
         refine k43 _ ?_
         refine n39 _ ?_
         refine n38 _ _ (weak_keep [3, 6, 8, 9, 10, 11, 12, 13, 14, 15] _) ?_
         refine zk ⟨?_⟩
         refine v_region ?_; intro K44 k44
         refine zMove ⟨?_⟩
         refine zBinOpW ⟨?_⟩
         refine zAssign ⟨?_⟩
         refine k44 _ ?_
         refine n26 _ (m + 1) ?_ ?_ ?_
         ·refine weak_bothS [3, 6, 8, 9, 10, 11, 12, 13, 14, 15] [0, 1, 2, 3] ⟨?_⟩
          first | (rw [hnx]; rfl) | (rw [hnx, hb]; rfl)
         ·exact hml
         ·show _ < _; omega
        ·intro hc3
         have hnx : (bestTo (keyS a l) (shiftK (keyS a l) (mayS a b c l) a.toNat k) (mayS a b c l) (m + 1)) = (bestTo (keyS a l) (shiftK (keyS a l) (mayS a b c l) a.toNat k) (mayS a b c l) m) := by
          rw [hbs]
          split
          ·rename_i hmm
           rw [bestF, if_neg]
           rintro ⟨h1, h2⟩
           rw [hb, hkv] at h2
           (try rw [hku] at h2)
           simp only [mayS] at hmm
           simp [h1, hmm] at hc3 <;> omega
          ·rfl
         refine v_skip ?_
         refine n39 _ ?_
         refine n38 _ _ (weak_keep [3, 6, 8, 9, 10, 11, 12, 13, 14, 15] _) ?_
         refine zk ⟨?_⟩
         refine v_region ?_; intro K45 k45
         refine zMove ⟨?_⟩
         refine zBinOpW ⟨?_⟩
         refine zAssign ⟨?_⟩
         refine k45 _ ?_
         refine n26 _ (m + 1) ?_ ?_ ?_
         ·refine weak_bothS [3, 6, 8, 9, 10, 11, 12, 13, 14, 15] [0, 1, 2, 3] ⟨?_⟩
          first | (rw [hnx]; rfl) | (rw [hnx, hb]; rfl)
         ·exact hml
         ·show _ < _; omega
      ·intro hc2
       have hme : m = a.toNat := by omega
       have hbn := best_next (key := (keyS a l)) (may := (mayS a b c l)) (p := a.toNat) (k := k)
       subst hme
       refine v_exit ?_
       refine e27 _ _ ?_
       refine e26 _ _ ?_
       refine x25 _ ?_
       refine n23 _ _ (weak_keep [3, 6, 8, 9, 10, 11, 13, 14, 15] _) ?_
       refine zk ⟨?_⟩
       refine v_seq ?_; intro Q46 n46 e46 r46
       refine v_seqR [3,6,8,9,10,11,13,14,15,60] ?_; intro K47 k47
       refine zMove ⟨?_⟩
       refine zBinOp ⟨?_⟩
       refine k47 _ ?_
       refine zk ⟨?_⟩
       refine v_condS _ rfl ?_ ?_
       ·intro hc4
        have hno : (ordL (keyS a l) (mayS a b c l) a.toNat)[k]? = none := by
         rw [hbn] at hc4
         cases hq : (ordL (keyS a l) (mayS a b c l) a.toNat)[k]? with
         |none => rfl
         |some y =>
          rw [hq] at hc4
          have := (cand_mem a.toNat y).1 (ord_mem.1 (List.mem_of_getElem? hq))
          simp only [] at hc4
          omega
        have hfew : ((candTo (mayS a b c l) a.toNat).length : Int) < n := by
         have h1 := List.getElem?_eq_none_iff.1 hno
         rw [ord_len] at h1
         omega
        refine v_seqR [4,5] ?_; intro K49 k49
        refine zAssign ⟨?_⟩
        refine zAssign ⟨?_⟩
        refine k49 _ ?_
        refine zk ⟨?_⟩
        refine v_ret ?_
        refine r46 _ ?_
        refine r21 _ ?_
        refine r17 _ ?_
        refine r16 _ ?_
        refine r15 _ ?_
        refine r11 _ ?_
        refine r10 _ ?_
        refine r6 _ ?_
        refine r5 _ ?_
        refine r3 _ ?_
        refine r0 _ ?_
        refine zf ⟨?_⟩
        have hN : mkR a b c needs = none := by rw [← hR, mk_step hx, if_pos hfew]
        simp only [mkB, mkL, hN, Option.isSome_none, Option.getD_none, List.map_nil, List.length_nil, fillK_0R]
        exact ret_all rfl (by first | decide | simp [newIds, refsOf, refs2, refs1]) (by simp) rfl (by simp [newIds, refsOf, refs2, refs1]) (by simp [Blk.kindIs, fillK_fd]) rfl
       ·intro hc4
        obtain ⟨y, hy⟩ : ∃ y, (ordL (keyS a l) (mayS a b c l) a.toNat)[k]? = some y := by
         cases hq : (ordL (keyS a l) (mayS a b c l) a.toNat)[k]? with
         |some y => exact ⟨y, rfl⟩
         |none =>
          rw [hbn, hq] at hc4
          simp at hc4
        have hby : (bestTo (keyS a l) (shiftK (keyS a l) (mayS a b c l) a.toNat k) (mayS a b c l) a.toNat) = y := by rw [hbn, hy]
        have hpn := shift_next hy
        have hyl : k < (ordL (keyS a l) (mayS a b c l) a.toNat).length := (List.getElem?_eq_some_iff.1 hy).1
        rw [ord_len] at hyl
        have hny : y ∉ (shiftK (keyS a l) (mayS a b c l) a.toNat k) := fun hm => by
         rw [shift_mem] at hm
         obtain ⟨j, hj, e⟩ := List.getElem_of_mem hm
         rw [List.length_take] at hj
         rw [List.getElem_take] at e
         obtain ⟨hkk, ek⟩ := List.getElem?_eq_some_iff.1 hy
         have := (List.pairwise_iff_getElem.1 (ord_nodup (key := (keyS a l)) (may := (mayS a b c l)) (p := a.toNat))) j k (by omega) hkk (by omega)
         exact this (e.trans ek.symm)
        refine v_skip ?_
        refine n46 _ _ (weak_keep [3, 6, 8, 9, 10, 11, 13, 14, 15] _) ?_
        refine zk ⟨?_⟩
        refine v_region ?_; intro K50 k50
        have F := Fc.mk (And.intro (fun f => getD_map (f := f) hx) (And.intro hby hpn))
        refine zMove ⟨?_⟩
        refine zMove ⟨?_⟩
        refine zc (l1Put_con (shiftK (keyS a l) (mayS a b c l) a.toNat k) y (by omega) hny) ⟨?_⟩
        refine zAssign ⟨?_⟩
        refine k50 _ ?_
        refine n21 _ ?_
        refine n17 _ (k + 1) ?_ ?_ ?_
        ·refine weak_both [3, 6, 8, 9, 10, 13, 14, 15] [0, 1, 2, 4] (by decide) (by simp) ?_ ?_ ?_
         ·simp [keep_mk, keepE_nil, keepE_cons, look_cons, V.only, V.onlyL, idx] <;> (first | rfl | decide)
         ·simp [Blk.kindIs, fillK_mix]
         simp only [keep_mk, keepE_nil, keepE_cons, look_cons, look_nil, Nat.reduceEqDiff, reduceIte, St.comp, List.map_cons, List.map_nil, V.ren, V.renL, idx, List.getD_cons_zero, List.getD_cons_succ, Nat.reduceBEq, cond_true, cond_false, Option.map_some, Option.getD_some, Nat.reduceAdd, Nat.beq_eq_true_eq]
         all_goals rfl
        ·exact ⟨hkn, by omega⟩
        ·show _ < _; omega
    ·intro hc1
     have hsl := shift_len (key := (keyS a l)) (may := (mayS a b c l)) (p := a.toNat) hk2
     have hkn : k = nn := by omega
     have hfew : ¬ ((candTo (mayS a b c l) a.toNat).length : Int) < n := by omega
     refine v_exit ?_
     refine e18 _ _ ?_
     refine e17 _ _ ?_
     refine x16 _ ?_
     refine n15 _ _ (weak_keep [3, 6, 10, 13, 14, 15] _) ?_
     refine zk ⟨?_⟩
     refine v_region ?_; intro K51 k51
     refine zMove ⟨?_⟩
     refine zMove ⟨?_⟩
     refine zBuildSlice ⟨?_⟩
     refine zAppend ⟨?_⟩
     refine zAssign ⟨?_⟩
     refine k51 _ ?_
     refine n11 _ ?_
     refine n10 _ _ (weak_keep [3, 6, 13, 14, 15] _) ?_
     refine zk ⟨?_⟩
     refine v_region ?_; intro K52 k52
     refine zBinOpW ⟨?_⟩
     refine zMove ⟨?_⟩
     refine k52 _ ?_
     refine n6 _ (i + 1, l ++ [(shiftK (keyS a l) (mayS a b c l) a.toNat k)]) ?_ ?_ ?_
     ·refine weak_bothS [3, 6, 13, 14, 15] [0, 5] ⟨?_⟩
      simp only [F2_snoc]; rfl
     ·exact ⟨hlt, hRF.snoc ha, by show makeR _ _ _ (needs.drop (i + 1)) _ = _; rw [← hR, mk_step hx, if_neg hfew, hnn, hkn]⟩
     ·show _ < _; show needs.length - (i + 1) < needs.length - i; omega
  ·intro hc0
   have hend : i = needs.length := by omega
   refine v_exit ?_
   refine e8 _ _ ?_
   refine e6 _ _ ?_
   refine x5 _ ?_
   refine n3 _ _ (weak_keep [6] _) ?_
   refine zk ⟨?_⟩
   refine v_seqR [4,5] ?_; intro K53 k53
   refine zMove ⟨?_⟩
   refine zAssign ⟨?_⟩
   refine zAssign ⟨?_⟩
   refine k53 _ ?_
   refine zk ⟨?_⟩
   refine v_ret ?_
   refine r0 _ ?_
   refine zf ⟨?_⟩
   have hN : mkR a b c needs = some l := by rw [← hR, mk_end (by omega)]
   simp only [mkB, mkL, hN, Option.isSome_some, Option.getD_some]
   rw [hRF.len]
   exact ret_all rfl (by first | decide | simp [newIds, refsOf, refs2, refs1]) (by simp) rfl (by simp [newIds, refsOf, refs2, refs1]) (by simp [Blk.kindIs, fillK_fd]) rfl
theorem totSS_le9 : ∀ {l : List (List Int)}, (∀ s ∈ l, s.length ≤ 9) → totSS l ≤ 9 * l.length
  | [], _ => Int.le_refl _
  | s :: l, h => by
    have h1 := totSS_le9 (l := l) fun x hx => h x (List.mem_cons_of_mem _ hx)
    have h2 := h s (List.mem_cons_self ..)
    rw [totSS, List.length_cons]; omega
def mkG (a b c : Int) (needs : List Int) : Bool := needB needs && dutyB a b c
def mkR2 (a b c : Int) (needs : List Int) : List (List Int) := orNil (mkG a b c needs) (mkL a b c needs)
def mkB2 (a b c : Int) (needs : List Int) : Bool := mkG a b c needs && mkB a b c needs
theorem mkR2_facts (a b c : Int) (needs : List Int) : (mkR2 a b c needs).length ≤ needs.length ∧ ∀ s ∈ mkR2 a b c needs, s.length ≤ 9 := by
  rw [mkR2]
  cases h : mkG a b c needs with
  | false => exact ⟨Nat.zero_le _, by simp [orNil]⟩
  | true =>
    have h2 := h
    rw [mkG, Bool.and_eq_true] at h2
    have hd := duty_in h2.2
    exact mkL_facts ⟨hd.1, hd.2.1⟩ needs
def fewK (ok : Nat → Bool) : Nat → Option Nat
  | 0 => none
  | k + 1 => if ok (9 - k) = true then some (9 - k) else fewK ok k
theorem few_step {ok : Nat → Bool} {p : Nat} (h1 : 1 ≤ p) (h : p ≤ 9) : fewK ok (10 - p) = if ok p = true then some p else fewK ok (10 - (p + 1)) := by
  rw [show 10 - p = (9 - p) + 1 by omega, fewK, show 9 - (9 - p) = p by omega, show 10 - (p + 1) = 9 - p by omega]
theorem few_guard {ok : Nat → Bool} {G : Bool} : ∀ k, fewK (fun p => G && ok p) k = if G = true then fewK ok k else none
  | 0 => by cases G <;> rfl
  | k + 1 => by
    rw [fewK, few_guard k]
    cases G with
    | false => simp
    | true => simp [fewK]
def fewI (o : Option Nat) : Int := match o with | some p => (p : Int) | none => 0
def few (b c : Int) (needs : List Int) : Option Nat := if mkG 1 b c needs = true then fewK (fun p => mkB (p : Int) b c needs) 9 else none
theorem mkG_any {a b c : Int} {needs : List Int} (h : 1 ≤ a ∧ a ≤ 9) : mkG a b c needs = mkG 1 b c needs := by
  have : dutyB a b c = dutyB 1 b c := by
    rw [dutyB, dutyB, decide_eq_true h.1, decide_eq_true h.2]; rfl
  rw [mkG, mkG, this]

theorem idx_at {x : Int} : ∀ {l : List Int} (i : Nat), x ∈ l → ∃ p : Nat, l[p]? = some x ∧ idxFrom x i l = ((i + p : Nat) : Int)
  | [], _, h => by cases h
  | y :: l, i, h => by
    rw [idxFrom]
    by_cases q : x = y
    · rw [if_pos q]
      exact ⟨0, by simp [q], by simp⟩
    · rw [if_neg q]
      obtain ⟨p, h1, h2⟩ := idx_at (l := l) (i + 1) ((List.mem_cons.1 h).resolve_left q)
      exact ⟨p + 1, by simpa using h1, by rw [h2]; congr 1; omega⟩
theorem rising_pw {lo hi : Int} : ∀ {l : List Int} {p : Option Int}, risingFrom lo hi p l = true → l.Pairwise (· < ·) ∧ ∀ q, p = some q → ∀ x ∈ l, q < x
  | [], _, _ => ⟨List.Pairwise.nil, fun _ _ x hx => by cases hx⟩
  | y :: l, p, h => by
    have h2 : risingFrom lo hi (some y) l = true := by
      cases p <;> simp [risingFrom] at h <;> simp [h]
    obtain ⟨h3, h4⟩ := rising_pw h2
    refine ⟨List.pairwise_cons.2 ⟨h4 y rfl, h3⟩, fun q hq x hx => ?_⟩
    subst hq
    have h5 : q < y := by
      simp [risingFrom] at h; exact h.1.2
    rcases List.mem_cons.1 hx with e | e
    · rw [e]; exact h5
    · have := h4 y rfl x e; omega
theorem roster_rising {d : List (List Int)} {n : Int} (h : rosterB d n = true) : ∀ l ∈ d, l.Pairwise (· < ·) := by
  simp only [rosterB, Bool.and_eq_true, List.all_eq_true] at h
  intro l hl
  have := h.1.1 l hl
  exact (rising_pw (by simpa [risingAt] using this)).1
theorem rising_split {l : List Int} {p : Nat} {x : Int} (hl : l.Pairwise (· < ·)) (h : l[p]? = some x) : l = l.take p ++ x :: l.drop (p + 1) ∧ (∀ z ∈ l.take p, z < x) ∧ (∀ z ∈ l.drop (p + 1), x < z) := by
  have e : l = l.take p ++ x :: l.drop (p + 1) := by rw [← take_cons_drop h, List.take_append_drop]
  have hl2 := hl
  rw [e, List.pairwise_append, List.pairwise_cons] at hl2
  exact ⟨e, fun z hz => hl2.2.2 z hz x (List.mem_cons_self ..), hl2.2.1.1⟩
theorem without_split {l : List Int} {p : Nat} {x : Int} (hl : l.Pairwise (· < ·)) (h : l[p]? = some x) : l.filter (fun z => decide (z ≠ x)) = l.take p ++ l.drop (p + 1) := by
  obtain ⟨e, h1, h2⟩ := rising_split hl h
  have f1 : (l.take p).filter (fun z => decide (z ≠ x)) = l.take p := List.filter_eq_self.2 fun z hz => by have := h1 z hz; simp; omega
  have f2 : (l.drop (p + 1)).filter (fun z => decide (z ≠ x)) = l.drop (p + 1) := List.filter_eq_self.2 fun z hz => by have := h2 z hz; simp; omega
  have : (l.take p ++ x :: l.drop (p + 1)).filter (fun z => decide (z ≠ x)) = l.take p ++ l.drop (p + 1) := by
    rw [List.filter_append, List.filter_cons, if_neg (by simp), f1, f2]
  rw [← e] at this
  exact this
def excR (l : List Int) (x y : Int) : List Int := sortL (l.set (idxFrom x 0 l).toNat y)
def wthR (l : List Int) (x : Int) : List Int := l.filter fun z => decide (z ≠ x)
theorem wth_not {l : List Int} {x y : Int} (h : y ∉ l) : y ∉ wthR l x := fun q => h (List.mem_filter.1 q).1
/-- TO EXCHANGE AND TO SORT IS TO TAKE OUT AND TO PUT IN. -/
theorem exc_put {l : List Int} {x y : Int} (hl : l.Pairwise (· < ·)) (hx : x ∈ l) (hy : y ∉ l) : excR l x y = putL (wthR l x) y := by
  obtain ⟨p, hp, hi⟩ := idx_at 0 hx
  have hpl : p < l.length := (List.getElem?_eq_some_iff.1 hp).1
  have e0 : (idxFrom x 0 l).toNat = p := by rw [hi, Nat.zero_add, Int.toNat_natCast]
  have e1 : l.set p y = l.take p ++ y :: l.drop (p + 1) := by rw [List.set_eq_take_append_cons_drop, if_pos hpl]
  have hw := without_split hl hp
  have hpm : (l.set p y).Perm (y :: wthR l x) := by
    rw [e1, wthR, hw]; exact List.perm_middle
  have hwr : (wthR l x).Pairwise (· < ·) := hl.sublist List.filter_sublist
  have hyw := wth_not (x := x) hy
  have hnd : (y :: wthR l x).Nodup := List.nodup_cons.2 ⟨hyw, hwr.imp fun h e => by omega⟩
  obtain ⟨p1, p2, _⟩ := put_new hwr hyw
  rw [excR, e0]
  refine rising_ext (sortL_rising (hpm.symm.nodup hnd)) p1 fun z => ?_
  rw [(sortLR_perm _).mem_iff, hpm.mem_iff, p2, List.mem_cons]
theorem exc_len {l : List Int} {x y : Int} : (excR l x y).length = l.length := by
  rw [excR, (sortLR_perm _).length_eq, List.length_set]
theorem exc_mem {l : List Int} {x y z : Int} (h : z ∈ excR l x y) : z = y ∨ z ∈ l := by
  rw [excR, (sortLR_perm _).mem_iff] at h
  exact (List.mem_or_eq_of_mem_set h).symm
def exsR (d : List (List Int)) (i j : Nat) (la lb : List Int) (x y : Int) : List (List Int) := (d.set i (excR la x y)).set j (excR lb y x)
def exG (d : List (List Int)) (a b c sa sb : Int) : Bool := dutyB a b c && rosterB d a && (decide (0 ≤ sa) && decide (sa ≤ (d.length : Int) - 1)) && (decide (0 ≤ sb) && decide (sb ≤ (d.length : Int) - 1))
def exM (la lb : List Int) (x y : Int) : Bool := decide (x ∈ la) && !decide (x ∈ lb) && decide (y ∈ lb) && !decide (y ∈ la)
def exL (d : List (List Int)) (sa sb x y : Int) : List (List Int) := exsR d sa.toNat sb.toNat (d.getD sa.toNat []) (d.getD sb.toNat []) x y
def exOK (d : List (List Int)) (a b c sa sb x y : Int) : Bool := exG d a b c sa sb && (exM (d.getD sa.toNat []) (d.getD sb.toNat []) x y && !(breachOf (exL d sa sb x y) a b c).isSome)
theorem exG_facts {d : List (List Int)} {a b c sa sb : Int} (h : exG d a b c sa sb = true) : dutyB a b c = true ∧ rosterB d a = true ∧ (0 ≤ sa ∧ sa < d.length) ∧ (0 ≤ sb ∧ sb < d.length) := by
  simp only [exG, Bool.and_eq_true, decide_eq_true_eq] at h
  exact ⟨h.1.1.1, h.1.1.2, by omega, by omega⟩
theorem exM_facts {la lb : List Int} {x y : Int} (h : exM la lb x y = true) : x ∈ la ∧ x ∉ lb ∧ y ∈ lb ∧ y ∉ la := by
  simp only [exM, Bool.and_eq_true, decide_eq_true_eq, Bool.not_eq_true', decide_eq_false_iff_not] at h
  exact ⟨h.1.1.1, h.1.1.2, h.1.2, h.2⟩
theorem exsR_len (d : List (List Int)) (i j : Nat) (la lb : List Int) (x y : Int) : (exsR d i j la lb x y).length = d.length := by rw [exsR, List.length_set, List.length_set]
theorem exsR_mem {d : List (List Int)} {i j : Nat} {la lb : List Int} {x y : Int} {s : List Int} (h : s ∈ exsR d i j la lb x y) : s = excR lb y x ∨ s = excR la x y ∨ s ∈ d := by
  rw [exsR] at h
  rcases List.mem_or_eq_of_mem_set h with q | q
  · rcases List.mem_or_eq_of_mem_set q with r | r
    · exact .inr (.inr r)
    · exact .inr (.inl r)
  · exact .inl q
theorem exsR_lens {d : List (List Int)} {i j : Nat} {la lb : List Int} {x y : Int} {n : Nat} (hla : la ∈ d) (hlb : lb ∈ d) (h : ∀ s ∈ d, s.length ≤ n) : ∀ s ∈ exsR d i j la lb x y, s.length ≤ n := by
  intro s hs
  rcases exsR_mem hs with q | q | q
  · rw [q, exc_len]; exact h lb hlb
  · rw [q, exc_len]; exact h la hla
  · exact h s q
theorem exsR_in {d : List (List Int)} {i j : Nat} {la lb : List Int} {x y a : Int} (hla : la ∈ d) (hlb : lb ∈ d) (hx : x ∈ la) (hy : y ∈ lb) (h : ∀ s ∈ d, ∀ z ∈ s, 0 ≤ z ∧ z < a) : ∀ s ∈ exsR d i j la lb x y, ∀ z ∈ s, 0 ≤ z ∧ z < a := by
  intro s hs z hz
  rcases exsR_mem hs with q | q | q
  · rw [q] at hz
    rcases exc_mem hz with r | r
    · rw [r]; exact h la hla x hx
    · exact h lb hlb z r
  · rw [q] at hz
    rcases exc_mem hz with r | r
    · rw [r]; exact h lb hlb y hy
    · exact h la hla z r
  · exact h s q z hz
theorem row_getN {α : Type} {ll : List (List α)} {N i : Nat} {l : List α} (h : ll[i]? = some l) (he : l.isEmpty = false) : (rowsF N ll).getD i .any = .ref (N + i) := by
  rw [List.getD_eq_getElem?_getD, rowsF_get ll N i l h, rowV, he]; rfl
theorem news_get2 {f : Int → V} {b b' : Blk} {ll : List (List Int)} {i : Nat} {l : List Int} (h : ll[i]? = some l) (hne : l.isEmpty = false) : (b :: b' :: newsF f ll)[2 + i]? = some (.arr (l.map f) .flat) := by
  rw [show 2 + i = i + 1 + 1 by omega, List.getElem?_cons_succ, List.getElem?_cons_succ, newsF, List.getElem?_map, h]
  simp [rowB, hne]
theorem news_set2 {f : Int → V} {b b' : Blk} {ll : List (List Int)} {i : Nat} {l : List Int} (hne : l.isEmpty = false) : (b :: b' :: newsF f ll).set (2 + i) (.arr (l.map f) .flat) = b :: b' :: newsF f (ll.set i l) := by
  rw [show 2 + i = i + 1 + 1 by omega, List.set_cons_succ, List.set_cons_succ, newsF, newsF, List.map_set]
  simp [rowB, hne]
theorem ne_set {l : List Int} {p : Nat} {x y : Int} (h : l[p]? = some x) : l.isEmpty = false ∧ (l.set p y).isEmpty = false := by
  cases l with
  | nil => simp at h
  | cons a l => cases p <;> exact ⟨rfl, rfl⟩
theorem ne_len {l l' : List Int} (h : l'.length = l.length) (he : l.isEmpty = false) : l'.isEmpty = false := by
  cases l with
  | nil => cases he
  | cons a l => cases l' with
    | nil => simp at h
    | cons b l' => rfl
theorem weak_O {m : Nat} {s : St} (O' : List Blk) (e : s.O = O') : Weak m s { s with O := O' } := by subst e; exact weak_refl m s
theorem set4 {α : Type} {d : List α} {i j : Nat} {x1 y1 x2 y2 : α} (h : i ≠ j) : (((d.set i x1).set j y1).set i x2).set j y2 = (d.set i x2).set j y2 := by
  rw [List.set_comm y1 x2 (Ne.symm h), List.set_set, List.set_set]

end Go.Proofs.YtbameklegpgkfaaDoor
