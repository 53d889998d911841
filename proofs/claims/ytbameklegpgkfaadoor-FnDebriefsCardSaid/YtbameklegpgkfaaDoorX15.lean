/- What functions compute. No condition. -/
import Derived.Test.YtbameklegpgkfaaDoorUty
import Derived.Test.YtbameklegpgkfaaDoorUmG
import Derived.Test.YtbameklegpgkfaaDoorX13
set_option linter.unusedSimpArgs false
set_option linter.unusedVariables false
set_option linter.defProp false
namespace Go.Proofs.YtbameklegpgkfaaDoor
open Go Go.Vm

def handB (l : List (Int × Int × Int × Bool)) (s : (Int × Int)) : Bool := match detOf l s.2 with | some d => decide (d.2.2.1 = 2) | none => false
def confZ (within : Int) (s t : (Int × Int)) : Bool := !decide (t.2 = s.2) && decide (IntKind.i64.wrap (s.1 - t.1) ≤ within)
def hitZ (l : List (Int × Int × Int × Bool)) (within : Int) (pre : List (Int × Int)) (s : (Int × Int)) : Bool := handB l s || pre.any (confZ within s)
def inZ (l : List (Int × Int × Int × Bool)) (zone : Int) (s : (Int × Int)) : Bool := decide (zoneOf l s = zone)
def aP (l : List (Int × Int × Int × Bool)) (zone within : Int) : List (Int × Int) → List (Int × Int) → Int
  | _, [] => -1
  | pre, s :: r => if hitB l zone within pre s = true then s.1 else aP l zone within (pre ++ [s]) r
def zP (l : List (Int × Int × Int × Bool)) (within : Int) : List (Int × Int) → List (Int × Int) → Int
  | _, [] => -1
  | pre, s :: r => if hitZ l within pre s = true then s.1 else zP l within (pre ++ [s]) r
theorem zP_step {l : List (Int × Int × Int × Bool)} {within : Int} {z : List (Int × Int)} {i : Nat} {x : (Int × Int)} (h : z[i]? = some x) : zP l within (z.take i) (z.drop i) = if hitZ l within (z.take i) x = true then x.1 else zP l within (z.take (i + 1)) (z.drop (i + 1)) := by
  rw [getElem_drop_cons h, zP, List.take_add_one, h]; rfl
theorem zP_end {l : List (Int × Int × Int × Bool)} {within : Int} {z : List (Int × Int)} {i : Nat} (h : z.length ≤ i) : zP l within (z.take i) (z.drop i) = -1 := by
  rw [List.drop_of_length_le h, zP]
theorem zP_hit {l : List (Int × Int × Int × Bool)} {within : Int} {z : List (Int × Int)} {i : Nat} {x : (Int × Int)} (h : z[i]? = some x) (hh : hitZ l within (z.take i) x = true) : zP l within (z.take i) (z.drop i) = x.1 := by rw [zP_step h, if_pos hh]
theorem alarmFrom_aP (l : List (Int × Int × Int × Bool)) (zone within : Int) (lv : List (Int × Int)) : ∀ (n k : Nat), n = lv.length - k → alarmFrom l zone within lv k (lv.drop k) = aP l zone within (lv.take k) (lv.drop k) := by
  intro n
  induction n with
  | zero => intro k h; rw [alarm_end (by omega), List.drop_of_length_le (by omega), aP]
  | succ n ih =>
    intro k h
    obtain ⟨x, hx⟩ : ∃ x, lv[k]? = some x := ⟨lv[k]'(by omega), List.getElem?_eq_getElem (by omega)⟩
    rw [alarm_step hx, getElem_drop_cons hx, aP, ih (k + 1) (by omega), List.take_add_one, hx]
    rfl
theorem aP_zP (l : List (Int × Int × Int × Bool)) (zone within : Int) : ∀ (r pre : List (Int × Int)), (∀ x ∈ r, liveB l x = true) → aP l zone within pre r = zP l within (pre.filter (inZ l zone)) (r.filter (inZ l zone))
  | [], pre, _ => by rw [aP, List.filter_nil, zP]
  | s :: r, pre, h => by
    have ih := aP_zP l zone within r (pre ++ [s]) fun x hx => h x (List.mem_cons_of_mem _ hx)
    obtain ⟨j, d, _, _, hd⟩ := live_det (h s (List.mem_cons_self ..))
    have hz : zoneOf l s = d.2.1 := by simp only [zoneOf, hd]
    rw [aP, List.filter_cons]
    by_cases q : d.2.1 = zone
    · have hin : inZ l zone s = true := by simp [inZ, hz, q]
      have hh : hitB l zone within pre s = hitZ l within (pre.filter (inZ l zone)) s := by
        simp only [hitB, hitZ, handB, hd, q, decide_true, Bool.true_and, List.any_filter]
        congr 2
        funext t
        simp only [confB, confZ, inZ]
        cases decide (t.2 = s.2) <;> simp
      rw [if_pos hin, zP, hh, ih, List.filter_append, List.filter_cons, if_pos hin, List.filter_nil]
    · have hin : ¬ inZ l zone s = true := by simp [inZ, hz, q]
      have hh : ¬ hitB l zone within pre s = true := by simp [hitB, hd, q]
      rw [if_neg hin, if_neg hh, ih, List.filter_append, List.filter_cons, if_neg hin, List.filter_nil, List.append_nil]
def zlOf (l : List (Int × Int × Int × Bool)) (s : List (Int × Int)) (zone : Int) : List (Int × Int) := (s.filter (liveB l)).filter (inZ l zone)
theorem alarm_zP (l : List (Int × Int × Int × Bool)) (s : List (Int × Int)) (zone within : Int) : alarmOf l s zone within = zP l within [] (zlOf l s zone) := by
  have h1 := alarmFrom_aP l zone within (s.filter (liveB l)) _ 0 rfl
  have h2 := aP_zP l zone within (s.filter (liveB l)) [] fun x hx => (List.mem_filter.1 hx).2
  rw [List.drop_zero, List.take_zero] at h1
  exact h1.trans h2
theorem zP_cases (l : List (Int × Int × Int × Bool)) (within : Int) : ∀ (r pre : List (Int × Int)), zP l within pre r = -1 ∨ ∃ x ∈ r, zP l within pre r = x.1
  | [], pre => .inl rfl
  | s :: r, pre => by
    rw [zP]
    by_cases h : hitZ l within pre s = true
    · rw [if_pos h]; exact .inr ⟨s, List.mem_cons_self .., rfl⟩
    · rw [if_neg h]
      rcases zP_cases l within r (pre ++ [s]) with q | ⟨x, hx, q⟩
      · exact .inl q
      · exact .inr ⟨x, List.mem_cons_of_mem _ hx, q⟩

theorem ssB_pos {s : List (Int × Int)} (h : ssB s = true) : ∀ x ∈ s, 0 ≤ x.1 := by
  intro x hx
  rw [ssB, Bool.and_eq_true] at h
  have := chain_ok h.1 x hx
  simp [sOne] at this
  omega
def firstF (l : List (Int × Int × Int × Bool)) (s : List (Int × Int)) (within : Int) (p : Int × Int) (z : Int) : Int × Int := if p.1 = 0 ∨ alarmOf l s z within < p.2 then (z, alarmOf l s z within) else p
theorem foldl_step {α β : Type} {f : β → α → β} {b : β} {l : List α} {i : Nat} {x : α} (h : l[i]? = some x) : (l.take (i + 1)).foldl f b = f ((l.take i).foldl f b) x := by
  rw [List.take_add_one, h, List.foldl_append]; rfl
theorem firstTo_fold (l : List (Int × Int × Int × Bool)) (s : List (Int × Int)) (within : Int) : ∀ n : Nat, firstTo l s within n = (zonesTo l s within n).foldl (firstF l s within) (0, 0)
  | 0 => rfl
  | n + 1 => by
    rw [firstTo, zonesTo, List.foldl_append, ← firstTo_fold l s within n]
    by_cases h : 0 ≤ alarmOf l s ((n : Int) + 1) within
    · rw [if_pos h]
      simp only [h, true_and, List.foldl_cons, List.foldl_nil, firstF]
    · rw [if_neg h, if_neg (fun q => h q.1)]; rfl
theorem zonesTo_len (l : List (Int × Int × Int × Bool)) (s : List (Int × Int)) (within : Int) : ∀ n : Nat, (zonesTo l s within n).length ≤ n
  | 0 => Nat.le_refl _
  | n + 1 => by
    have := zonesTo_len l s within n
    rw [zonesTo, List.length_append]
    split <;> simp <;> omega
theorem zonesTo_pos (l : List (Int × Int × Int × Bool)) (s : List (Int × Int)) (within : Int) : ∀ (n : Nat) (z : Int), z ∈ zonesTo l s within n → 0 ≤ alarmOf l s z within
  | 0, z, h => by cases h
  | n + 1, z, h => by
    rw [zonesTo, List.mem_append] at h
    rcases h with h | h
    · exact zonesTo_pos l s within n z h
    · split at h
      · rw [List.mem_singleton] at h; subst h; assumption
      · cases h

def falseOf (l : List (Int × Int × Int × Bool)) (s : List (Int × Int)) (within : Int) : List (Int × Int) := (s.filter (liveB l)).filter fun x => !decide (zoneOf l x ∈ zonesTo l s within 9)
def falseR (l : List (Int × Int × Int × Bool)) (s : List (Int × Int)) (within : Int) : List (Int × Int) := if askB l s within = true then falseOf l s within else []
theorem falseOf_len (l : List (Int × Int × Int × Bool)) (s : List (Int × Int)) (within : Int) : (falseOf l s within).length ≤ s.length := Nat.le_trans (List.length_filter_le ..) (List.length_filter_le ..)
theorem falseR_len (l : List (Int × Int × Int × Bool)) (s : List (Int × Int)) (within : Int) : (falseR l s within).length ≤ s.length := by
  rw [falseR]
  split
  · exact falseOf_len l s within
  · exact Nat.zero_le _
theorem filter_step {α : Type} {p : α → Bool} {l : List α} {i : Nat} {x : α} (h : l[i]? = some x) : (l.take (i + 1)).filter p = (l.take i).filter p ++ (if p x = true then [x] else []) := by
  rw [List.take_add_one, h, Option.toList_some, List.filter_append]
  congr 1
  by_cases q : p x = true
  · simp [q]
  · simp [q]

end Go.Proofs.YtbameklegpgkfaaDoor
