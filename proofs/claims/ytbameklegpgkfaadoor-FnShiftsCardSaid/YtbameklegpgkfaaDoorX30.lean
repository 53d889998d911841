/- What functions compute. No condition. -/
import Derived.Test.YtbameklegpgkfaaDoorUty
import Derived.Test.YtbameklegpgkfaaDoorUmG
import Derived.Test.YtbameklegpgkfaaDoorX18
import Derived.Test.YtbameklegpgkfaaDoorX28
import Derived.Test.YtbameklegpgkfaaDoorX6
import Derived.Test.YtbameklegpgkfaaDoorX23
import Derived.Test.YtbameklegpgkfaaDoorX5
import Derived.Test.YtbameklegpgkfaaDoorX4
import Derived.Test.YtbameklegpgkfaaDoorX12
set_option linter.unusedSimpArgs false
set_option linter.unusedVariables false
set_option linter.defProp false
namespace Go.Proofs.YtbameklegpgkfaaDoor
open Go Go.Vm

theorem ex_row {l : List Int} {x y : Int} (hl : l.Pairwise (· < ·)) (hx : x ∈ l) (hy : y ∉ l) : (excR l x y).Pairwise (· < ·) ∧ ∀ z, z ∈ excR l x y ↔ z = y ∨ (z ∈ l ∧ z ≠ x) := by
  rw [exc_put hl hx hy]
  have hp := put_new ((hl.sublist List.filter_sublist : (wthR l x).Pairwise (· < ·))) (wth_not (x := x) hy)
  refine ⟨hp.1, fun z => ?_⟩
  rw [hp.2.1, wthR, List.mem_filter, decide_eq_true_eq]
theorem ex_undo {l : List Int} {x y : Int} (hl : l.Pairwise (· < ·)) (hx : x ∈ l) (hy : y ∉ l) : y ∈ excR l x y ∧ x ∉ excR l x y ∧ excR (excR l x y) y x = l := by
  obtain ⟨h1, h2⟩ := ex_row hl hx hy
  have hxy : x ≠ y := fun e => hy (e ▸ hx)
  have hy2 : y ∈ excR l x y := (h2 y).2 (.inl rfl)
  have hx2 : x ∉ excR l x y := fun q => ((h2 x).1 q).elim hxy fun q => q.2 rfl
  refine ⟨hy2, hx2, ?_⟩
  obtain ⟨h3, h4⟩ := ex_row h1 hy2 hx2
  refine rising_ext h3 hl fun z => ?_
  rw [h4, h2]
  constructor
  · rintro (q | ⟨q | q, r⟩)
    · rw [q]; exact hx
    · exact absurd q r
    · exact q.1
  · intro q
    by_cases e : z = x
    · exact .inl e
    · exact .inr ⟨.inr ⟨q, e⟩, fun r => hy (r ▸ q)⟩
theorem exOK_facts {d : List (List Int)} {a b c sa sb x y : Int} (h : exOK d a b c sa sb x y = true) : ∃ (na nb : Nat) (la lb : List Int), sa = na ∧ sb = nb ∧ d[na]? = some la ∧ d[nb]? = some lb ∧ na ≠ nb ∧ exL d sa sb x y = exsR d na nb la lb x y ∧ dutyB a b c = true ∧ rosterB d a = true ∧ (x ∈ la ∧ x ∉ lb ∧ y ∈ lb ∧ y ∉ la) ∧ breachOf (exL d sa sb x y) a b c = none := by
  rw [exOK, Bool.and_eq_true, Bool.and_eq_true] at h
  obtain ⟨hG, hM, hB⟩ := h
  obtain ⟨q1, q2, q3, q4⟩ := exG_facts hG
  obtain ⟨na, rfl⟩ := Int.eq_ofNat_of_zero_le q3.1
  obtain ⟨nb, rfl⟩ := Int.eq_ofNat_of_zero_le q4.1
  have hna : na < d.length := by omega
  have hnb : nb < d.length := by omega
  have hxa : d[na]? = some d[na] := List.getElem?_eq_getElem hna
  have hxb : d[nb]? = some d[nb] := List.getElem?_eq_getElem hnb
  have hga : d.getD (na : Int).toNat [] = d[na] := by rw [Int.toNat_natCast, List.getD_eq_getElem?_getD, hxa]; rfl
  have hgb : d.getD (nb : Int).toNat [] = d[nb] := by rw [Int.toNat_natCast, List.getD_eq_getElem?_getD, hxb]; rfl
  rw [hga, hgb] at hM
  obtain ⟨m1, m2, m3, m4⟩ := exM_facts hM
  refine ⟨na, nb, d[na], d[nb], rfl, rfl, hxa, hxb, fun e => ?_, by rw [exL, hga, hgb, Int.toNat_natCast, Int.toNat_natCast], q1, q2, ⟨m1, m2, m3, m4⟩, by simpa using hB⟩
  subst e; exact m2 m1
theorem roster_ex {d : List (List Int)} {a : Int} {na nb : Nat} {la lb : List Int} {x y : Int} (hr : rosterB d a = true) (hla : d[na]? = some la) (hlb : d[nb]? = some lb) (h : x ∈ la ∧ x ∉ lb ∧ y ∈ lb ∧ y ∉ la) : rosterB (exsR d na nb la lb x y) a = true := by
  have hro := roster_in hr
  have hri := roster_rising hr
  have hla2 := List.mem_of_getElem? hla
  have hlb2 := List.mem_of_getElem? hlb
  have hin := exsR_in (i := na) (j := nb) hla2 hlb2 h.1 h.2.2.1 hro.2.2
  have hlen := roster_len hr
  have hel := exsR_len d na nb la lb x y
  simp only [rosterB, Bool.and_eq_true, decide_eq_true_eq, List.all_eq_true]
  refine ⟨⟨fun s hs => ?_, hro.1, hro.2.1⟩, by omega⟩
  have hp : s.Pairwise (· < ·) := by
    rcases exsR_mem hs with q | q | q
    · rw [q]; exact (ex_row (hri lb hlb2) h.2.2.1 h.2.1).1
    · rw [q]; exact (ex_row (hri la hla2) h.1 h.2.2.2).1
    · exact hri s q
  rw [wrap64 (by omega) (by omega)]
  have := risingFrom_of (lo := 0) (hi := a - 1) s none hp (fun z hz => by have := hin s hs z hz; omega) (fun q e => by cases e)
  simpa [risingAt] using this
theorem ex_keeps {d : List (List Int)} {a b c sa sb x y : Int} (h : exOK d a b c sa sb x y = true) : dutyB a b c = true ∧ rosterB d a = true ∧ rosterB (exL d sa sb x y) a = true ∧ breachR (exL d sa sb x y) a b c = none := by
  obtain ⟨na, nb, la, lb, rfl, rfl, hla, hlb, hab, he, hd, hr, hm, hb⟩ := exOK_facts h
  have hr2 := roster_ex hr hla hlb hm
  rw [← he] at hr2
  exact ⟨hd, hr, hr2, by rw [breachR, hd, hr2]; exact hb⟩
theorem ex_back {d : List (List Int)} {a b c sa sb x y : Int} (h : exOK d a b c sa sb x y = true) (hk : breachR d a b c = none) : exOK (exL d sa sb x y) a b c sa sb y x = true ∧ exL (exL d sa sb x y) sa sb y x = d := by
  obtain ⟨na, nb, la, lb, rfl, rfl, hla, hlb, hab, he, hd, hr, hm, hb⟩ := exOK_facts h
  have hri := roster_rising hr
  have hla2 := List.mem_of_getElem? hla
  have hlb2 := List.mem_of_getElem? hlb
  have ua := ex_undo (hri la hla2) hm.1 hm.2.2.2
  have ub := ex_undo (hri lb hlb2) hm.2.2.1 hm.2.1
  have hr2 := roster_ex hr hla hlb hm
  have hna := (List.getElem?_eq_some_iff.1 hla).1
  have hnb := (List.getElem?_eq_some_iff.1 hlb).1
  have hel := exsR_len d na nb la lb x y
  have ea : (exsR d na nb la lb x y)[na]? = some (excR la x y) := by rw [exsR, List.getElem?_set_ne (Ne.symm hab)]; exact List.getElem?_set_self hna
  have eb : (exsR d na nb la lb x y)[nb]? = some (excR lb y x) := by rw [exsR]; exact List.getElem?_set_self (by rw [List.length_set]; exact hnb)
  have hL : exL (exL d (na : Int) (nb : Int) x y) (na : Int) (nb : Int) y x = d := by
    rw [he, exL, Int.toNat_natCast, Int.toNat_natCast, List.getD_eq_getElem?_getD, List.getD_eq_getElem?_getD, ea, eb]
    show exsR _ na nb (excR la x y) (excR lb y x) y x = d
    rw [exsR, ua.2.2, ub.2.2, exsR, set4 hab]
    have s1 : d.set na la = d := by
      obtain ⟨q1, q2⟩ := List.getElem?_eq_some_iff.1 hla
      rw [← q2]; exact List.set_getElem_self q1
    have s2 : d.set nb lb = d := by
      obtain ⟨q1, q2⟩ := List.getElem?_eq_some_iff.1 hlb
      rw [← q2]; exact List.set_getElem_self q1
    rw [s1, s2]
  refine ⟨?_, hL⟩
  rw [exOK, hL]
  have hbo : breachOf d a b c = none := by rw [breachR, hd, hr] at hk; exact hk
  rw [hbo, he, exG, hd, hr2, Int.toNat_natCast, Int.toNat_natCast, List.getD_eq_getElem?_getD, List.getD_eq_getElem?_getD, ea, eb, hel]
  simp only [Option.getD_some, exM, ua.1, ua.2.1, ub.1, ub.2.1, Option.isSome_none, decide_true, decide_false, Bool.not_false, Bool.and_self, Bool.true_and, Bool.and_true, Bool.and_eq_true, decide_eq_true_eq]
  omega
theorem breach_at {M : Nat → Int → Bool} : ∀ (d : List (List Int)) (i k : Nat) (x : Int), breachFrom M i d = some (k, x) → ∃ j s, k = i + j ∧ d[j]? = some s ∧ x ∈ s
  | [], _, _, _, h => by cases h
  | s :: d, i, k, x, h => by
    rw [breachFrom] at h
    cases e : s.find? (fun x => !M i x) with
    | some z =>
      rw [e] at h
      simp only [Option.some.injEq, Prod.mk.injEq] at h
      obtain ⟨rfl, rfl⟩ := h
      exact ⟨0, s, rfl, rfl, List.mem_of_find?_eq_some e⟩
    | none =>
      rw [e] at h
      obtain ⟨j, t, h1, h2, h3⟩ := breach_at d (i + 1) k x h
      exact ⟨j + 1, t, by omega, by simpa using h2, h3⟩
theorem breach_in {d : List (List Int)} {a b c : Int} (h : (breachR d a b c).isSome = true) : ∃ (k : Nat) (s : List Int), brI (breachR d a b c) = k ∧ d[k]? = some s ∧ brX (breachR d a b c) ∈ s := by
  obtain ⟨⟨k, x⟩, e⟩ := Option.isSome_iff_exists.1 h
  rw [e]
  rw [breachR] at e
  split at e
  · obtain ⟨j, s, h1, h2, h3⟩ := breach_at d 0 k x e
    rw [Nat.zero_add] at h1
    subst h1
    exact ⟨k, s, rfl, h2, h3⟩
  · cases e
def big15 : Int := 1000000000000000
theorem bump_get {c : List Int} {x : Int} (h : 0 ≤ x ∧ x < c.length) (hb : 0 ≤ c.getD x.toNat 0 ∧ c.getD x.toNat 0 < big15) (p : Nat) : (bump c x).getD p 0 = c.getD p 0 + (if x = (p : Int) then 1 else 0) := by
  have hb2 : 0 ≤ c.getD x.toNat 0 ∧ c.getD x.toNat 0 < 1000000000000000 := hb
  rw [bump, wrap64 (by omega) (by omega)]
  by_cases e : x = (p : Int)
  · subst e
    rw [if_pos rfl, Int.toNat_natCast, List.getD_eq_getElem?_getD, List.getElem?_set_self (by omega)]; rfl
  · rw [if_neg e, List.getD_eq_getElem?_getD, List.getElem?_set_ne (by omega), ← List.getD_eq_getElem?_getD, Int.add_zero]
theorem bumps_get : ∀ (l c : List Int), (∀ x ∈ l, 0 ≤ x ∧ x < c.length) → (∀ p : Nat, 0 ≤ c.getD p 0 ∧ c.getD p 0 + l.length < big15) → ∀ p : Nat, (l.foldl bump c).getD p 0 = c.getD p 0 + (l.count (p : Int) : Nat)
  | [], c, _, _, p => by simp
  | x :: l, c, hx, hc, p => by
    have h0 := hx x (List.mem_cons_self ..)
    have hb : ∀ q : Nat, 0 ≤ c.getD q 0 ∧ c.getD q 0 + l.length + 1 < big15 := fun q => by have := hc q; rw [List.length_cons] at this; omega
    have hg := bump_get h0 (by have := hb x.toNat; omega)
    rw [List.foldl_cons, bumps_get l (bump c x) (fun y hy => by rw [bump_len]; exact hx y (List.mem_cons_of_mem _ hy)) (fun q => by
      rw [hg]; have := hb q; split <;> omega) p, hg, List.count_cons]
    by_cases e : x = (p : Int)
    · simp [e]; omega
    · simp [e]
theorem bumps_sum : ∀ (l c : List Int), (∀ x ∈ l, 0 ≤ x ∧ x < c.length) → (∀ p : Nat, 0 ≤ c.getD p 0 ∧ c.getD p 0 + l.length < big15) → (l.foldl bump c).sum = c.sum + l.length
  | [], c, _, _ => by simp
  | x :: l, c, hx, hc => by
    have h0 := hx x (List.mem_cons_self ..)
    have hb : ∀ q : Nat, 0 ≤ c.getD q 0 ∧ c.getD q 0 + l.length + 1 < big15 := fun q => by have := hc q; rw [List.length_cons] at this; omega
    have hb0 := hb x.toNat
    have hg := bump_get h0 (by omega)
    have hs : ∀ (c : List Int) (i : Nat) (v : Int), i < c.length → (c.set i v).sum = c.sum - c.getD i 0 + v := by
      intro c
      induction c with
      | nil => intro i v h; simp at h
      | cons z c ih =>
        intro i v h
        cases i with
        | zero => simp; omega
        | succ i => simp only [List.set_cons_succ, List.sum_cons, List.getD_cons_succ]; rw [ih i v (by simpa using h)]; omega
    have hb2 : c.getD x.toNat 0 + l.length + 1 < 1000000000000000 := hb0.2
    rw [List.foldl_cons, bumps_sum l (bump c x) (fun y hy => by rw [bump_len]; exact hx y (List.mem_cons_of_mem _ hy)) (fun q => by
      rw [hg]; have := hb q; split <;> omega), bump, wrap64 (by omega) (by omega), hs _ _ _ (by omega), List.length_cons]
    omega
theorem shifts_flat (d : List (List Int)) (c : List Int) : shiftsL d c = d.flatten.foldl bump c := by
  induction d generalizing c with
  | nil => rfl
  | cons l d ih => rw [List.flatten_cons, List.foldl_append, ← ih]; rfl
theorem flat_in {d : List (List Int)} {a : Int} (h : ∀ s ∈ d, ∀ z ∈ s, 0 ≤ z ∧ z < a) : ∀ x ∈ d.flatten, 0 ≤ x ∧ x < ((List.replicate a.toNat (0 : Int)).length : Int) := by
  intro x hx
  obtain ⟨s, hs, hz⟩ := List.mem_flatten.1 hx
  have := h s hs x hz
  rw [List.length_replicate]; omega
theorem zeros_get (n p : Nat) : (List.replicate n (0 : Int)).getD p 0 = 0 := by
  rw [List.getD_eq_getElem?_getD, List.getElem?_replicate]; split <;> rfl
theorem shiftsOf_get {d : List (List Int)} {a : Int} (h : ∀ s ∈ d, ∀ z ∈ s, 0 ≤ z ∧ z < a) (hl : d.flatten.length ≤ 1000000) (p : Nat) : (shiftsOf d a).getD p 0 = (d.flatten.count (p : Int) : Nat) := by
  rw [shiftsOf, shifts_flat, bumps_get _ _ (flat_in h) (fun q => by rw [zeros_get]; show 0 ≤ 0 ∧ 0 + _ < (1000000000000000 : Int); omega), zeros_get, Int.zero_add]
theorem shiftsOf_sum {d : List (List Int)} {a : Int} (h : ∀ s ∈ d, ∀ z ∈ s, 0 ≤ z ∧ z < a) (hl : d.flatten.length ≤ 1000000) : (shiftsOf d a).sum = d.flatten.length := by
  rw [shiftsOf, shifts_flat, bumps_sum _ _ (flat_in h) (fun q => by rw [zeros_get]; show 0 ≤ 0 ∧ 0 + _ < (1000000000000000 : Int); omega)]
  have : ∀ n : Nat, (List.replicate n (0 : Int)).sum = 0 := fun n => by induction n with
    | zero => rfl
    | succ n ih => rw [List.replicate_succ, List.sum_cons, ih]; rfl
  rw [this, Int.zero_add]
theorem flat_len : ∀ (d : List (List Int)) (n : Nat), (∀ s ∈ d, s.length ≤ n) → d.flatten.length ≤ d.length * n
  | [], _, _ => by simp
  | s :: d, n, h => by
    have h1 := flat_len d n fun x hx => h x (List.mem_cons_of_mem _ hx)
    have h2 := h s (List.mem_cons_self ..)
    rw [List.flatten_cons, List.length_append, List.length_cons, Nat.add_mul]; omega
theorem count_set {x : Int} (y p : Int) : ∀ (l : List Int) (i : Nat), l[i]? = some x → (l.set i y).count p + (if x = p then 1 else 0) = l.count p + (if y = p then 1 else 0)
  | [], _, h => by simp at h
  | z :: l, 0, h => by
    simp only [List.getElem?_cons_zero, Option.some.injEq] at h
    subst h
    simp only [List.set_cons_zero, List.count_cons, beq_iff_eq]
    omega
  | z :: l, i + 1, h => by
    have ih := count_set y p l i (by simpa using h)
    simp only [List.set_cons_succ, List.count_cons]
    omega
theorem count_exc {l : List Int} {x : Int} (y p : Int) (h : x ∈ l) : (excR l x y).count p + (if x = p then 1 else 0) = l.count p + (if y = p then 1 else 0) := by
  obtain ⟨i, h1, h2⟩ := idx_at 0 h
  rw [Nat.zero_add] at h2
  rw [excR, (sortLR_perm _).count_eq, h2, Int.toNat_natCast, count_set y p l i h1]
theorem flat_set {s r : List Int} (p : Int) : ∀ (d : List (List Int)) (i : Nat), d[i]? = some s → (d.set i r).flatten.count p + s.count p = d.flatten.count p + r.count p
  | [], _, h => by simp at h
  | z :: d, 0, h => by
    simp only [List.getElem?_cons_zero, Option.some.injEq] at h
    subst h
    simp only [List.set_cons_zero, List.flatten_cons, List.count_append]
    omega
  | z :: d, i + 1, h => by
    have ih := flat_set (r := r) p d i (by simpa using h)
    simp only [List.set_cons_succ, List.flatten_cons, List.count_append]
    omega
theorem ex_count {d : List (List Int)} {na nb : Nat} {la lb : List Int} {x y : Int} (hla : d[na]? = some la) (hlb : d[nb]? = some lb) (hab : na ≠ nb) (hx : x ∈ la) (hy : y ∈ lb) (p : Int) : (exsR d na nb la lb x y).flatten.count p = d.flatten.count p := by
  have h1 := flat_set (r := excR la x y) p d na hla
  have h2 := flat_set (r := excR lb y x) p (d.set na (excR la x y)) nb (by rw [List.getElem?_set_ne hab]; exact hlb)
  have h3 := count_exc y p hx
  have h4 := count_exc x p hy
  rw [exsR]
  omega
theorem ex_shifts {d : List (List Int)} {a b c sa sb x y : Int} (h : exOK d a b c sa sb x y = true) (hl : d.length ≤ 22) (hs : ∀ s ∈ d, s.length ≤ 9) : shiftsOf (exL d sa sb x y) a = shiftsOf d a := by
  obtain ⟨na, nb, la, lb, rfl, rfl, hla, hlb, hab, he, hd, hr, hm, hb⟩ := exOK_facts h
  have hr2 := roster_ex hr hla hlb hm
  rw [he]
  have f1 := flat_len d 9 hs
  have hel := exsR_len d na nb la lb x y
  have f2 := flat_len (exsR d na nb la lb x y) 9 (exsR_lens (List.mem_of_getElem? hla) (List.mem_of_getElem? hlb) hs)
  rw [hel] at f2
  have f3 : d.length * 9 ≤ 22 * 9 := Nat.mul_le_mul_right 9 hl
  have g1 := shiftsOf_get (roster_in hr).2.2 (by omega)
  have g2 := shiftsOf_get (roster_in hr2).2.2 (by omega)
  apply List.ext_getElem (by rw [shiftsOf_len, shiftsOf_len])
  intro p p1 p2
  have e1 : (shiftsOf d a)[p] = (shiftsOf d a).getD p 0 := by rw [List.getD_eq_getElem?_getD, List.getElem?_eq_getElem p2]; rfl
  have e2 : (shiftsOf (exsR d na nb la lb x y) a)[p] = (shiftsOf (exsR d na nb la lb x y) a).getD p 0 := by rw [List.getD_eq_getElem?_getD, List.getElem?_eq_getElem p1]; rfl
  rw [e1, e2, g1, g2, ex_count hla hlb hab hm.1 hm.2.2.1]
theorem cat_len9 : ∀ (l : List Int), (∀ x ∈ l, 0 ≤ x ∧ x < 10) → (catB (numS l)).size = l.length
  | [], _ => rfl
  | x :: l, h => by
    have h0 := h x (List.mem_cons_self ..)
    have ih := cat_len9 l fun y hy => h y (List.mem_cons_of_mem _ hy)
    have e : catB (numS (x :: l)) = numB x.toNat ++ catB (numS l) := by
      show catB (numB x.toNat :: numS l) = _
      rw [catB, List.foldl_cons, foldB_acc, ByteArray.empty_append]
    have e1 : (numB x.toNat).size = 1 := by rw [numB_lt (by omega)]; rfl
    rw [e, ByteArray.size_append, ih, e1, List.length_cons]; omega
theorem text_len : ∀ (d : List (List Int)) (s : ByteArray), (∀ l ∈ d, ∀ x ∈ l, 0 ≤ x ∧ x < 10) → (d.foldl rStep s).size = s.size + d.flatten.length + d.length
  | [], s, _ => by simp
  | l :: d, s, h => by
    have hc := cat_len9 l (h l (List.mem_cons_self ..))
    have e : ∀ b : UInt8, (ByteArray.mk #[b]).size = 1 := fun _ => rfl
    rw [List.foldl_cons, text_len d _ fun x hx => h x (List.mem_cons_of_mem _ hx), rStep, ByteArray.size_append, ByteArray.size_append, hc, e, List.flatten_cons, List.length_append, List.length_cons]
    omega
theorem roster_text {d : List (List Int)} {n : Int} (h : rosterB d n = true) : (rTextR d n).size = d.flatten.length + d.length := by
  rw [rTextR, if_pos h, rTexts, text_len d _ fun l hl x hx => by have q := roster_in h; have := q.2.2 l hl x hx; omega]
  show 0 + _ + _ = _
  omega
theorem sum_take {l : List Int} {i : Nat} {x : Int} (h : l[i]? = some x) : (l.take (i + 1)).sum = (l.take i).sum + x := by
  rw [List.take_add_one, h, Option.toList_some, List.sum_append]; simp
theorem flat_take {d : List (List Int)} {i : Nat} {x : List Int} (h : d[i]? = some x) : (d.take (i + 1)).flatten.length = (d.take i).flatten.length + x.length := by
  rw [List.take_add_one, h, Option.toList_some, List.flatten_append, List.length_append]; simp
theorem shifts_bound {d : List (List Int)} {a : Int} (h : ∀ s ∈ d, ∀ z ∈ s, 0 ≤ z ∧ z < a) (hl : d.flatten.length ≤ 1000000) : ∀ x ∈ shiftsOf d a, 0 ≤ x ∧ x ≤ (d.flatten.length : Int) := by
  intro x hx
  obtain ⟨p, hp, e⟩ := List.getElem_of_mem hx
  have g := shiftsOf_get h hl p
  rw [List.getD_eq_getElem?_getD, List.getElem?_eq_getElem hp, e] at g
  have : d.flatten.count (p : Int) ≤ d.flatten.length := List.count_le_length
  simp only [Option.getD_some] at g
  omega
theorem breach_duty {d : List (List Int)} {a b c : Int} (h : (breachR d a b c).isSome = true) : dutyB a b c = true ∧ rosterB d a = true := by
  rw [breachR] at h
  split at h
  · rename_i q; simpa using q
  · cases h
theorem spread_ext {d : List (List Int)} {n : Int} {x : Int} {l : List Int} (h : shiftsOf d n = x :: l) : spreadV d n = IntKind.i64.wrap (mostL (shiftsOf d n) x - leastL (shiftsOf d n) x) := by
  rw [spreadV, h, most_cons, least_cons]

theorem nbeq (b : Bool) : (!b == b) = false := by cases b <;> rfl

end Go.Proofs.YtbameklegpgkfaaDoor
