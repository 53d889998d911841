/- What functions compute. No condition. -/
import Derived.Test.YtbameklegpgkfaaDoorUty
import Derived.Test.YtbameklegpgkfaaDoorUmG
import Derived.Test.YtbameklegpgkfaaDoorX8
import Derived.Test.YtbameklegpgkfaaDoorX13
import Derived.Test.YtbameklegpgkfaaDoorX11
import Derived.Test.YtbameklegpgkfaaDoorX9
import Derived.Test.YtbameklegpgkfaaDoorX22
import Derived.Test.YtbameklegpgkfaaDoorX5
import Derived.Test.YtbameklegpgkfaaDoorX25
import Derived.Test.YtbameklegpgkfaaDoorX7
set_option linter.unusedSimpArgs false
set_option linter.unusedVariables false
set_option linter.defProp false
namespace Go.Proofs.YtbameklegpgkfaaDoor
open Go Go.Vm

theorem least_le : ∀ (l : List Int) (m : Int), leastL l m ≤ m ∧ ∀ x ∈ l, leastL l m ≤ x
  | [], m => ⟨Int.le_refl _, by simp⟩
  | y :: l, m => by
    have h := least_le l (if y < m then y else m)
    have e : leastL (y :: l) m = leastL l (if y < m then y else m) := rfl
    rw [e]
    have h1 := h.1
    refine ⟨by split at h1 <;> rename_i q <;> simp only [q, if_true, if_false] at h1 ⊢ <;> omega, fun x hx => ?_⟩
    rcases List.mem_cons.1 hx with rfl | hx
    · split at h1 <;> rename_i q <;> simp only [q, if_true, if_false] at h1 ⊢ <;> omega
    · exact h.2 x hx
theorem most_ge : ∀ (l : List Int) (m : Int), m ≤ mostL l m ∧ ∀ x ∈ l, x ≤ mostL l m
  | [], m => ⟨Int.le_refl _, by simp⟩
  | y :: l, m => by
    have h := most_ge l (if y > m then y else m)
    have e : mostL (y :: l) m = mostL l (if y > m then y else m) := rfl
    rw [e]
    have h1 := h.1
    refine ⟨by split at h1 <;> rename_i q <;> simp only [q, if_true, if_false] at h1 ⊢ <;> omega, fun x hx => ?_⟩
    rcases List.mem_cons.1 hx with rfl | hx
    · split at h1 <;> rename_i q <;> simp only [q, if_true, if_false] at h1 ⊢ <;> omega
    · exact h.2 x hx
theorem sumW_sum : ∀ (l : List Int) (a : Int), (∀ x ∈ l, 0 ≤ x ∧ x ≤ 1000000) → 0 ≤ a → a + 1000000 * (l.length : Int) < 1000000000000 → sumW l a = a + l.sum
  | [], a, _, _, _ => by simp [sumW]
  | y :: l, a, h, h0, hb => by
    have hy := h y (List.mem_cons_self ..)
    rw [List.length_cons] at hb
    have e : sumW (y :: l) a = sumW l (IntKind.i64.wrap (a + y)) := rfl
    rw [e, wrap64 (by omega) (by omega), sumW_sum l (a + y) (fun x hx => h x (List.mem_cons_of_mem _ hx)) (by omega) (by omega), List.sum_cons]
    omega
theorem sum_between : ∀ (l : List Int) (lo hi : Int), (∀ x ∈ l, lo ≤ x ∧ x ≤ hi) → lo * (l.length : Int) ≤ l.sum ∧ l.sum ≤ hi * (l.length : Int)
  | [], lo, hi, _ => by simp
  | y :: l, lo, hi, h => by
    have hy := h y (List.mem_cons_self ..)
    have ih := sum_between l lo hi fun x hx => h x (List.mem_cons_of_mem _ hx)
    have e : ∀ z : Int, z * ((y :: l).length : Int) = z * (l.length : Int) + z := fun z => by
      rw [List.length_cons, Int.natCast_add, Int.mul_add]; simp
    rw [e, e, List.sum_cons]
    omega
theorem deb_mean {l : List (Int × ByteArray × Int × Int)} (h : hasT l = true) {x : Int} {tl : List Int} (ht : l.map tTime = x :: tl) : leastL (l.map tTime) x ≤ meanV l ∧ meanV l ≤ mostL (l.map tTime) x := by
  have h0 := h
  rw [hasT, Bool.and_eq_true] at h
  have hl : (l.map tTime).length = l.length := List.length_map _
  have hlen : 0 < l.length := by rw [← hl, ht]; simp
  have hl15 := tshare_len h.1
  have hb : ∀ z ∈ l.map tTime, 0 ≤ z ∧ z ≤ 1000000 := fun z hz => by
    obtain ⟨y, hy, rfl⟩ := List.mem_map.1 hz
    have := (tText_facts h.1 hy).2.2.1
    omega
  rw [meanV, if_pos h0, sumW_sum _ _ hb (Int.le_refl _) (by rw [hl]; omega), Int.zero_add]
  have b1 := sum_between (l.map tTime) 0 1000000 hb
  have b2 := sum_between (l.map tTime) (leastL (l.map tTime) x) (mostL (l.map tTime) x) fun z hz => ⟨(least_le _ x).2 z hz, (most_ge _ x).2 z hz⟩
  rw [hl] at b1 b2
  have hn : (0 : Int) < (l.length : Int) := by omega
  generalize (l.map tTime).sum = S at b1 b2 ⊢
  have hS : 0 ≤ S := by omega
  rw [Int.tdiv_eq_ediv_of_nonneg hS]
  have c1 : 0 ≤ S / (l.length : Int) := Int.ediv_nonneg hS (by omega)
  have c2 : S / (l.length : Int) ≤ 1000000 := Int.ediv_le_of_le_mul hn b1.2
  rw [wrap64 (by omega) (by omega)]
  exact ⟨Int.le_ediv_of_mul_le hn b2.1, Int.ediv_le_of_le_mul hn b2.2⟩
theorem deb_share {l : List (Int × ByteArray × Int × Int)} {share : Int} (hb : tshareB l share = true) : share * (l.length : Int) ≤ 100 * (cntLe (tshareV l share) (l.map tTime) : Int) ∧ 100 * (cntLe (tshareV l share - 1) (l.map tTime) : Int) < share * (l.length : Int) := by
  have h0 := hb
  simp only [tshareB, Bool.and_eq_true, decide_eq_true_eq, Bool.not_eq_true', decide_eq_false_iff_not] at hb
  have hl := tshare_len hb.1.1
  obtain ⟨q1, q2, q3, q4⟩ := place_in (n := l.length) (share := share) (by omega) (by omega) hb.1.2.1 hb.1.2.2
  have hsl : (sortL (l.map tTime)).length = l.length := by rw [(sortL_perm _).length_eq, List.length_map]
  obtain ⟨v, hv⟩ : ∃ v, (sortL (l.map tTime))[(placeN l.length share).toNat]? = some v := ⟨_, List.getElem?_eq_getElem (by omega)⟩
  have e : tshareV l share = v := by rw [tshareV, if_pos h0]; exact tshare_is h0 hv
  obtain ⟨c1, c2⟩ := sorted_cnt (sortL_sorted _) hv
  rw [cnt_sort] at c1
  have c3 := c2 (v - 1) (by omega)
  rw [cnt_sort] at c3
  rw [e]
  constructor <;> omega
theorem cnt_stepU {lim : Int} {l : List Int} {i : Nat} {x : Int} (h : l[i]? = some x) : cntLe lim (l.take (i + 1)) = cntLe lim (l.take i) + (if x ≤ lim then 1 else 0) := by
  rw [List.take_add_one, h, Option.toList_some, cntLe, List.countP_append, cntLe]
  by_cases q : x ≤ lim <;> simp [q]
theorem deb_percent {u : List (Int × ByteArray × Int × Int)} {lim : Int} (h : hasS u lim = true) : (turnsB u && (decide (0 ≤ lim) && decide (lim ≤ 36000))) = true ∧ ¬ (u.length : Int) = 0 ∧ (lateR u lim).length ≤ u.length ∧ u.length ≤ 15 ∧ shareV u lim = IntKind.i64.wrap ((100 * ((u.length : Int) - ((lateR u lim).length : Int))).tdiv u.length) := by
  have h0 := h
  simp only [hasS, limB, Bool.and_eq_true, Bool.not_eq_true', decide_eq_true_eq, decide_eq_false_iff_not] at h
  have hg : (turnsB u && (decide (0 ≤ lim) && decide (lim ≤ 36000))) = true := by rw [h.1.1, decide_eq_true h.1.2.1, decide_eq_true h.1.2.2]; rfl
  have hc := cnt_late lim u 0
  have hl : lateR u lim = lateFrom lim 0 u := by rw [lateR, if_pos hg]
  refine ⟨hg, h.2, lateR_len u lim, tshare_len h.1.1, ?_⟩
  rw [shareV, if_pos h0, hl, show (cntLe lim (u.map tTime) : Int) = (u.length : Int) - ((lateFrom lim 0 u).length : Int) by omega]
def PairOK (l : List (Int × ByteArray × Int × Int)) (p : List Int) : Prop := ∃ (i k : Nat) (a b : (Int × ByteArray × Int × Int)), p = [(i : Int), (k : Int)] ∧ i < k ∧ l[i]? = some a ∧ l[k]? = some b ∧ a.2.1 = b.2.1 ∧ ¬ a.1 = b.1
theorem busyIn_at (L : List (Int × ByteArray × Int × Int)) (a : (Int × ByteArray × Int × Int)) (i : Nat) (ha : L[i]? = some a) : ∀ (l : List (Int × ByteArray × Int × Int)) (k : Nat), (∀ j b, l[j]? = some b → L[k + j]? = some b) → i < k → ∀ p ∈ busyIn a i k l, PairOK L p
  | [], _, _, _, p, h => by cases h
  | b :: l, k, hL, hik, p, h => by
    have hb := hL 0 b rfl
    rw [Nat.add_zero] at hb
    have ih := busyIn_at L a i ha l (k + 1) (fun j c hc => by have := hL (j + 1) c (by simpa using hc); rwa [show k + 1 + j = k + (j + 1) by omega]) (by omega)
    rw [busyIn] at h
    split at h
    · rename_i q
      rcases List.mem_cons.1 h with e | e
      · simp only [busyB, Bool.and_eq_true, decide_eq_true_eq, Bool.not_eq_true', decide_eq_false_iff_not] at q
        exact ⟨i, k, a, b, e, hik, ha, hb, q.1.1.1, q.1.1.2⟩
      · exact ih p e
    · exact ih p h
theorem busyFrom_at (L : List (Int × ByteArray × Int × Int)) : ∀ (l : List (Int × ByteArray × Int × Int)) (i : Nat), (∀ j b, l[j]? = some b → L[i + j]? = some b) → ∀ p ∈ busyFrom i l, PairOK L p
  | [], _, _, p, h => by cases h
  | a :: l, i, hL, p, h => by
    have ha := hL 0 a rfl
    rw [Nat.add_zero] at ha
    have hL2 : ∀ j c, l[j]? = some c → L[i + 1 + j]? = some c := fun j c hc => by have := hL (j + 1) c (by simpa using hc); rwa [show i + 1 + j = i + (j + 1) by omega]
    rw [busyFrom] at h
    rcases List.mem_append.1 h with e | e
    · exact busyIn_at L a i ha l (i + 1) hL2 (by omega) p e
    · exact busyFrom_at L l (i + 1) hL2 p e
theorem busy_at {l : List (Int × ByteArray × Int × Int)} {p : List Int} (h : p ∈ busyR l) : PairOK l p := by
  unfold busyR at h
  split at h
  · exact busyFrom_at l l 0 (fun j b hb => by rwa [Nat.zero_add]) p h
  · cases h
theorem chainFrom_weak {α : Type} {ok : α → Bool} {bf bf' : α → α → Bool} (hw : ∀ x y, bf x y = true → bf' x y = true) : ∀ (l : List α) (p : Option α), chainFrom ok bf p l = true → chainFrom ok bf' p l = true
  | [], p, _ => by cases p <;> rfl
  | x :: l, p, h => by
    have ih := chainFrom_weak (ok := ok) hw l (some x)
    cases p with
    | none => simp [chainFrom] at h ⊢; exact ⟨h.1, ih h.2⟩
    | some q => simp [chainFrom] at h ⊢; exact ⟨⟨h.1.1, hw _ _ h.1.2⟩, ih h.2⟩
theorem turns_called {l : List (Int × ByteArray × Int × Int)} (h : turnsB l = true) : l.Pairwise fun x y => x.2.2.1 ≤ y.2.2.1 := by
  rw [turnsB, Bool.and_eq_true] at h
  have h1 : chainFrom tOne tBefore none l = true := by simpa [chainAt] using h.1
  have h2 := chainFrom_weak (bf' := fun x y : (Int × ByteArray × Int × Int) => decide (x.2.2.1 ≤ y.2.2.1)) (fun x y q => by
    unfold tBefore at q
    split at q
    · simp at q ⊢; omega
    · rename_i z; simp at z ⊢; omega) l none h1
  exact ((chainFrom_pair (fun x y z a b => by simp at *; omega) l none h2).2).imp fun {x y} q => by simpa using q
theorem fa_after {inc : Int} : ∀ (l : List (Int × ByteArray × Int × Int)) (s : Option (ByteArray × Int × Int)), (∀ x ∈ l, x.2.2.1 ≤ x.2.2.2) → (l.Pairwise fun x y => x.2.2.1 ≤ y.2.2.1) → (∀ q, s = some q → q.2.1 ≤ q.2.2 ∧ ∀ x ∈ l, q.2.1 ≤ x.2.2.1) → ∀ q, l.foldl (faStep inc) s = some q → q.2.1 ≤ q.2.2
  | [], s, _, _, hs, q, h => (hs q h).1
  | x :: l, s, ho, hp, hs, q, h => by
    rw [List.pairwise_cons] at hp
    have hx := ho x (List.mem_cons_self ..)
    rw [List.foldl_cons] at h
    refine fa_after l _ (fun y hy => ho y (List.mem_cons_of_mem _ hy)) hp.2 ?_ q h
    intro r hr
    unfold faStep at hr
    split at hr
    · cases s with
      | none =>
        simp only [Option.some.injEq] at hr
        subst hr
        exact ⟨hx, hp.1⟩
      | some z =>
        have hz := hs z rfl
        have hzx := hz.2 x (List.mem_cons_self ..)
        simp only [] at hr
        split at hr
        · simp only [Option.some.injEq] at hr
          subst hr
          exact ⟨by show z.2.1 ≤ x.2.2.2; omega, fun y hy => hz.2 y (List.mem_cons_of_mem _ hy)⟩
        · simp only [Option.some.injEq] at hr
          subst hr
          exact ⟨hz.1, fun y hy => hz.2 y (List.mem_cons_of_mem _ hy)⟩
    · have hz := hs r hr
      exact ⟨hz.1, fun y hy => hz.2 y (List.mem_cons_of_mem _ hy)⟩
theorem fa_mem {inc : Int} : ∀ (l : List (Int × ByteArray × Int × Int)) (s : Option (ByteArray × Int × Int)) (B : Int), (∀ x ∈ l, 0 ≤ x.2.2.1 ∧ x.2.2.2 ≤ B) → (∀ q, s = some q → 0 ≤ q.2.1 ∧ q.2.2 ≤ B) → ∀ q, l.foldl (faStep inc) s = some q → 0 ≤ q.2.1 ∧ q.2.2 ≤ B
  | [], s, B, _, hs, q, h => hs q h
  | x :: l, s, B, ho, hs, q, h => by
    have hx := ho x (List.mem_cons_self ..)
    rw [List.foldl_cons] at h
    refine fa_mem l _ B (fun y hy => ho y (List.mem_cons_of_mem _ hy)) ?_ q h
    intro r hr
    unfold faStep at hr
    split at hr
    · cases s with
      | none => simp only [Option.some.injEq] at hr; subst hr; exact hx
      | some z =>
        have hz := hs z rfl
        simp only [] at hr
        split at hr
        · simp only [Option.some.injEq] at hr; subst hr; exact ⟨hz.1, hx.2⟩
        · simp only [Option.some.injEq] at hr; subst hr; exact hz
    · exact hs r hr
theorem fa_pos {l : List (Int × ByteArray × Int × Int)} {inc : Int} : ¬ faT (faR l inc) < 0 := by
  unfold faR
  split
  · rename_i hg
    have ht : turnsB l = true := by rw [Bool.and_eq_true] at hg; exact hg.1
    have ho : ∀ x ∈ l, (0 ≤ x.2.2.1 ∧ x.2.2.1 ≤ x.2.2.2) ∧ x.2.2.2 ≤ 999999 := fun x hx => by
      have h2 := ht
      simp only [turnsB, Bool.and_eq_true] at h2
      have h3 := chain_ok h2.1 x hx
      simp only [tOne, Bool.and_eq_true, decide_eq_true_eq] at h3
      omega
    cases e : faOf inc l with
    | none => show ¬ (0 : Int) < 0; omega
    | some q =>
      have h1 := fa_after l none (fun x hx => (ho x hx).1.2) (turns_called ht) (fun q e => by cases e) q e
      have h2 := fa_mem l none 999999 (fun x hx => ⟨(ho x hx).1.1, (ho x hx).2⟩) (fun q e => by cases e) q e
      show ¬ IntKind.i64.wrap (q.2.2 - q.2.1) < 0
      rw [wrap64 (by omega) (by omega)]
      omega
  · show ¬ (0 : Int) < 0; omega

end Go.Proofs.YtbameklegpgkfaaDoor
