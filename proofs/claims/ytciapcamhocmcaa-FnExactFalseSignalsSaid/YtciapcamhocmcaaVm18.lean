/- The value machine, part 18: a law's arguments, and what closes a law. -/
import Derived.Test.YtciapcamhocmcaaVm17
import Derived.ProofKit
import Derived.OpenShut
import Derived.JoinedCond
import Derived.Carry
set_option linter.unusedSimpArgs false
set_option linter.unusedVariables false
namespace Go.Vm
open Go

/-- What a type's cells hold. -/
inductive Sh where
  | int (k : IntKind)
  | bool
  | str
  | sl (agg : Bool) (cs : List Sh)

def shFs (P : Program) (g : TypeId → Option (List Sh)) (tot : Nat) : List Field → Nat → Option (List Sh)
  | [], o => if o = tot then some [] else none
  | f :: fs, o => if f.offset = o then match g f.type, shFs P g tot fs (o + P.cellsOf f.type) with
    | some a, some b => some (a ++ b)
    | _, _ => none
    else none

def shC (P : Program) : Nat → TypeId → Option (List Sh)
  | 0, _ => none
  | n + 1, t => match P.underlying t with
    | some .bool => some [.bool]
    | some (.int k) => some [.int k]
    | some .string => some [.str]
    | some (.slice e) => if 0 < P.cellsOf e then (shC P n e).map fun cs => [.sl (Program.isAggT P e) cs] else none
    | some (.struct fs) => shFs P (shC P n) (P.cellsOf t) fs.toList 0
    | _ => none

mutual
def Sh.has : Sh → V → Prop
  | .int k, v => ∃ n, v = .int k n ∧ (Lit.int k n).wf = true
  | .bool, v => ∃ b, v = .bool b
  | .str, v => ∃ s, v = .str s ∧ s.size ≤ maxLen
  | .sl agg cs, v => ∃ xs, v = .sl xs ∧ xs.length ≤ maxLen ∧ ∀ x ∈ xs, if agg then ∃ l, x = .agg l ∧ Sh.hasL cs l else Sh.hasL cs [x]
def Sh.hasL : List Sh → List V → Prop
  | [], [] => True
  | s :: ss, v :: vs => s.has v ∧ Sh.hasL ss vs
  | _, _ => False
end

theorem hasL_append : ∀ {a : List Sh} {l : List V} {b : List Sh} {k : List V}, Sh.hasL a l → Sh.hasL b k → Sh.hasL (a ++ b) (l ++ k)
  | [], [], _, _, _, h => h
  | s :: ss, v :: vs, _, _, h, k => by
    rw [Sh.hasL] at h
    rw [List.cons_append, List.cons_append, Sh.hasL]
    exact ⟨h.1, hasL_append h.2 k⟩
  | [], _ :: _, _, _, h, _ => by simp [Sh.hasL] at h
  | _ :: _, [], _, _, h, _ => by simp [Sh.hasL] at h

theorem hasL_one {s : Sh} : ∀ {l : List V}, Sh.hasL [s] l → ∃ v, l = [v] ∧ s.has v
  | [v], h => by rw [Sh.hasL] at h; exact ⟨v, rfl, h.1⟩
  | [], h => by simp [Sh.hasL] at h
  | v :: u :: l, h => by rw [Sh.hasL] at h; simp [Sh.hasL] at h

theorem has_cells {s : Sh} {v : V} (h : s.has v) : v.cells = [v] := by
  cases s with
  | int k => rw [Sh.has] at h; obtain ⟨n, rfl, _⟩ := h; rfl
  | bool => rw [Sh.has] at h; obtain ⟨n, rfl⟩ := h; rfl
  | str => rw [Sh.has] at h; obtain ⟨n, rfl, _⟩ := h; rfl
  | sl a cs => rw [Sh.has] at h; obtain ⟨n, rfl, _⟩ := h; rfl

theorem shC_one {P : Program} {n : Nat} {t : TypeId} {sh : List Sh} (h : shC P n t = some sh) (ha : Program.isAggT P t = false) : ∃ s, sh = [s] := by
  cases n with
  | zero => simp [shC] at h
  | succ n =>
    unfold shC at h
    unfold Program.isAggT at ha
    split at h
    · simp at h; exact ⟨_, h.symm⟩
    · simp at h; exact ⟨_, h.symm⟩
    · simp at h; exact ⟨_, h.symm⟩
    · split at h
      · simp only [Option.map_eq_some_iff] at h
        obtain ⟨cs, _, e⟩ := h
        exact ⟨_, e.symm⟩
      · cases h
    · rename_i e; rw [e] at ha; simp at ha
    · cases h

section
variable {H : Type} {enc : TypeId × Value → H} {P : Program} {w : World} {spare : Nat → Bool} {held : Bool}

theorem addr_add_add (a : Addr) (i j : Nat) : (a.add i).add j = a.add (i + j) := by
  unfold Addr.add
  by_cases h : i = 0
  · subst h; simp
  · by_cases h2 : j = 0
    · subst h2; simp
    · simp [h, h2, Nat.add_assoc]

/-- A row of values, seen. -/
structure Seen (w : World) (sh : List Sh) (vs : List Value) (l : List V) : Prop where
  rep : ∃ bl, RepL w M0 l vs bl ∧ ∀ b ∈ bl, b < w.heap.size
  has : Sh.hasL sh l
  one : ∀ c ∈ vs, c.oneCell' = true

theorem seen_struct {m n : Nat} {tot : Nat} {cs : List Value} (ih : ∀ (t : TypeId) (cs : List Value) x sh, shC P n t = some sh → DataW.trod enc P w 0 spare held m t cs = some x → ∃ l, Seen w sh cs l) (hlen : cs.length = tot) :
    ∀ (fs : List Field) (o : Nat) (sh : List Sh), shFs P (shC P n) tot fs o = some sh → (∀ f ∈ fs, ∃ x, DataW.trod enc P w 0 spare held m f.type ((cs.drop f.offset).take (P.cellsOf f.type)) = some x) → o ≤ tot → ∃ l, Seen w sh (cs.drop o) l
  | [], o, sh, h, _, _ => by
    simp only [shFs] at h
    split at h
    · rename_i e
      subst e
      cases h
      rw [List.drop_of_length_le (by omega)]
      exact ⟨[], ⟨[], .nil, by simp⟩, trivial, by simp⟩
    · cases h
  | f :: fs, o, sh, h, hx, ho => by
    simp only [shFs] at h
    split at h
    · rename_i e
      split at h
      · rename_i a b ha hb
        cases h
        obtain ⟨x, hx0⟩ := hx f (List.mem_cons_self ..)
        rw [e] at hx0
        have hle : o + P.cellsOf f.type ≤ tot := by
          rcases Nat.lt_or_ge tot (o + P.cellsOf f.type) with q | q
          · have : ∀ (fs : List Field) o sh, tot < o → shFs P (shC P n) tot fs o = some sh → False := by
              intro fs
              induction fs with
              | nil => intro o sh hlt he; simp only [shFs] at he; split at he <;> simp_all
              | cons f fs ih2 =>
                intro o sh hlt he
                simp only [shFs] at he
                split at he
                · split at he
                  · rename_i hb'; exact ih2 _ _ (by omega) hb'
                  · cases he
                · cases he
            exact (this fs _ _ q hb).elim
          · exact q
        obtain ⟨l1, ⟨b1, r1, k1⟩, h1, o1⟩ := ih _ _ _ _ ha hx0
        obtain ⟨l2, ⟨b2, r2, k2⟩, h2, o2⟩ := seen_struct ih hlen fs _ b hb (fun f hf => hx f (List.mem_cons_of_mem _ hf)) hle
        have hcut : cs.drop o = (cs.drop o).take (P.cellsOf f.type) ++ cs.drop (o + P.cellsOf f.type) := by
          rw [← List.drop_drop, List.take_append_drop]
        refine ⟨l1 ++ l2, ⟨b1 ++ b2, by rw [hcut]; exact r1.append r2, fun b hb => (List.mem_append.1 hb).elim (k1 b) (k2 b)⟩, hasL_append h1 h2, ?_⟩
        rw [hcut]
        exact fun c hc => (List.mem_append.1 hc).elim (o1 c) (o2 c)
      · cases h
    · cases h

theorem seen_slice {m n : Nat} {e : TypeId} {sh : List Sh} {a : Addr} {len : Nat} (hsh : shC P n e = some sh)
    (ih : ∀ (cs : List Value) x, DataW.trod enc P w 0 spare held m e cs = some x → ∃ l, Seen w sh cs l)
    (hall : ∀ i, i < len → ∃ cs x, w.cells? 0 (a.add (i * P.cellsOf e)) (P.cellsOf e) = some cs ∧ DataW.trod enc P w 0 spare held m e cs = some x) :
    ∀ i, i ≤ len → ∃ (Ls : List (List V)) (vs : List Value) (bl : List Nat), Ls.length = i ∧ (∀ L ∈ Ls, L.length = P.cellsOf e ∧ Sh.hasL sh L) ∧ RepL w M0 Ls.flatten vs bl ∧ (∀ b ∈ bl, b < w.heap.size) ∧ (∀ c ∈ vs, c.oneCell' = true) ∧
      vs.length = i * P.cellsOf e ∧ ∀ j x, vs[j]? = some x → w.cell? (a.add j) = some x := by
  intro i
  induction i with
  | zero => exact fun _ => ⟨[], [], [], rfl, by simp, .nil, by simp, by simp, by simp, by simp⟩
  | succ i ihi =>
    intro hi
    obtain ⟨Ls, vs, bl, h1, h2, h3, h4, h5, h6, h7⟩ := ihi (by omega)
    obtain ⟨cs, x, c1, c2⟩ := hall i (by omega)
    obtain ⟨l, ⟨bl', r1, r2⟩, hh, ho⟩ := ih cs x c2
    obtain ⟨_, d1, d2⟩ := World.cells?_some c1
    refine ⟨Ls ++ [l], vs ++ cs, bl ++ bl', by simp [h1], ?_, ?_, fun b hb => (List.mem_append.1 hb).elim (h4 b) (r2 b), fun c hc => (List.mem_append.1 hc).elim (h5 c) (ho c), ?_, ?_⟩
    · intro L hL
      rcases List.mem_append.1 hL with q | q
      · exact h2 L q
      · simp only [List.mem_singleton] at q
        subst q
        exact ⟨r1.length.trans d1, hh⟩
    · rw [List.flatten_append, List.flatten_cons, List.flatten_nil, List.append_nil]
      exact h3.append r1
    · rw [List.length_append, h6, d1, Nat.add_mul, Nat.one_mul]
    · intro j x hj
      by_cases q : j < vs.length
      · rw [List.getElem?_append_left q] at hj; exact h7 j x hj
      · rw [List.getElem?_append_right (by omega)] at hj
        have hjl : j - vs.length < cs.length := by
          rcases Nat.lt_or_ge (j - vs.length) cs.length with z | z
          · exact z
          · rw [List.getElem?_eq_none z] at hj; cases hj
        have := d2 (j - vs.length) (by omega)
        rw [hj] at this
        rw [← this, addr_add_add]
        congr 2
        rw [h6] at q ⊢
        generalize i * P.cellsOf e = z at q ⊢
        omega

theorem room_of {a : Addr} {sz cap : Nat} {cs : List Value} (h0 : 0 < cap) (hs : 0 < sz) (h : w.cells? 0 (a.add ((cap - 1) * sz)) sz = some cs) : Room w a.block (a.off + cap * sz) := by
  obtain ⟨_, d1, d2⟩ := World.cells?_some h
  have h1 := d2 (sz - 1) (by omega)
  obtain ⟨x, hx⟩ : ∃ x, cs[sz - 1]? = some x := ⟨cs[sz - 1]'(by omega), List.getElem?_eq_getElem (by omega)⟩
  rw [hx, addr_add_add] at h1
  have e : (cap - 1) * sz + (sz - 1) = cap * sz - 1 := by
    have : cap * sz = (cap - 1) * sz + sz := by rw [← Nat.succ_mul]; congr 1; omega
    omega
  rw [e] at h1
  unfold World.cell? at h1
  have hblk : (a.add (cap * sz - 1)).block = a.block := by unfold Addr.add; split <;> rfl
  rw [hblk] at h1
  split at h1
  · rename_i c t fr hc
    split at h1
    · cases h1
    · have hoff : (a.add (cap * sz - 1)).off = a.off + (cap * sz - 1) := by
        unfold Addr.add
        split
        · rename_i q; rw [q]; rfl
        · rfl
      rw [hoff] at h1
      have := (Array.getElem?_eq_some_iff.1 h1).1
      have hpos : 0 < cap * sz := Nat.mul_pos h0 hs
      exact ⟨c, t, fr, hc, by omega⟩
  · cases h1

theorem seen (hspare : ∀ b, spare b = true) : ∀ (m : Nat) (t : TypeId) (cs : List Value) (x : DataW H × List MemPlace) (n : Nat) (sh : List Sh), shC P n t = some sh → DataW.trod enc P w 0 spare held m t cs = some x → ∃ l, Seen w sh cs l := by
  intro m
  induction m with
  | zero => intro t cs x n sh _ h; simp [DataW.trod] at h
  | succ m ih =>
    intro t cs x n sh hsh h
    cases n with
    | zero => simp [shC] at hsh
    | succ n =>
      unfold shC at hsh
      split at hsh
      · rename_i hu
        cases hsh
        obtain ⟨b, rfl, _⟩ := DataW.trod_bool hu h
        exact ⟨[.bool b], ⟨[], .cons _ _ [] _ _ [] (.bool b) .nil, by simp⟩, by simp [Sh.hasL, Sh.has], by simp [Value.oneCell']⟩
      · rename_i k hu
        cases hsh
        obtain ⟨b, rfl, _, hw⟩ := DataW.trod_int hu h
        exact ⟨[.int k b], ⟨[], .cons _ _ [] _ _ [] (.int k b) .nil, by simp⟩, by simp [Sh.hasL, Sh.has, hw], by simp [Value.oneCell']⟩
      · rename_i hu
        cases hsh
        obtain ⟨b, rfl, _, hw⟩ := DataW.trod_string hu h
        exact ⟨[.str b], ⟨[], .cons _ _ [] _ _ [] (.str b) .nil, by simp⟩, by simp [Sh.hasL, Sh.has, hw], by simp [Value.oneCell']⟩
      · rename_i e hu
        split at hsh
        · rename_i hpos
          simp only [Option.map_eq_some_iff] at hsh
          obtain ⟨she, hse, rfl⟩ := hsh
          rcases DataW.trod_slice hu h with ⟨rfl, _⟩ | ⟨a, len, cap, elems, rest, m', hm, rfl, _, _, hlc, hcm, hel, hall, hrest, _⟩
          · exact ⟨[.sl []], ⟨[], .cons _ _ [] _ _ [] (.sl0 none 0) .nil, by simp⟩, by simp [Sh.hasL, Sh.has], by simp [Value.oneCell']⟩
          · cases hm
            obtain ⟨Ls, vs, bl, h1, h2, h3, h4, h5, h6, h7⟩ := seen_slice hse (fun cs x hx => ih e cs x n she hse hx) (a := a) (len := len) (fun i hi => by
              have := hall i hi
              obtain ⟨y, hy⟩ : ∃ y, elems[i]? = some y := ⟨elems[i]'(by omega), by simp [List.getElem?_eq_getElem, hel, hi]⟩
              rw [hy, Option.bind_eq_some_iff] at this
              obtain ⟨cs, q1, q2⟩ := this
              exact ⟨cs, y, q1, q2⟩) len (Nat.le_refl _)
            let wrap : List V → V := fun L => bif Program.isAggT P e then .agg L else L.headD .any
            have hwc : ∀ L ∈ Ls, (wrap L).cells = L := by
              intro L hL
              cases hg : Program.isAggT P e with
              | true => simp [wrap, hg, V.cells]
              | false =>
                obtain ⟨s, rfl⟩ := shC_one hse hg
                obtain ⟨v, rfl, hv⟩ := hasL_one (h2 L hL).2
                simp only [wrap, hg, cond_false, List.headD_cons]
                exact has_cells hv
            have hflat : (Ls.map wrap).flatMap V.cells = Ls.flatten := by
              clear h1 h2 h3 h6 h7
              induction Ls with
              | nil => rfl
              | cons L Ls ih3 => rw [List.map_cons, List.flatMap_cons, List.flatten_cons, hwc L (List.mem_cons_self ..), ih3 fun L hL => hwc L (List.mem_cons_of_mem _ hL)]
            have hhas : ∀ x ∈ Ls.map wrap, if Program.isAggT P e then ∃ l, x = .agg l ∧ Sh.hasL she l else Sh.hasL she [x] := by
              intro x hx
              obtain ⟨L, hL, rfl⟩ := List.mem_map.1 hx
              cases hg : Program.isAggT P e with
              | true => simp only [if_true]; exact ⟨L, by simp [wrap, hg], (h2 L hL).2⟩
              | false =>
                obtain ⟨s, rfl⟩ := shC_one hse hg
                obtain ⟨v, rfl, hv⟩ := hasL_one (h2 L hL).2
                simp only [Bool.false_eq_true, if_false]
                simpa [wrap, hg] using (h2 _ hL).2
            have hsh : Sh.has (.sl (Program.isAggT P e) she) (.sl (Ls.map wrap)) := by
              rw [Sh.has]
              exact ⟨_, rfl, by rw [List.length_map, h1]; omega, hhas⟩
            by_cases h0 : len = 0
            · subst h0
              have : Ls = [] := List.length_eq_zero_iff.1 h1
              subst this
              exact ⟨[.sl []], ⟨[], .cons _ _ [] _ _ [] (.sl0 (some a) cap) .nil, by simp⟩, by rw [Sh.hasL]; exact ⟨hsh, trivial⟩, by simp [Value.oneCell']⟩
            · have hv0 : ∃ x, vs[0]? = some x := ⟨vs[0]'(by rw [h6]; exact Nat.mul_pos (by omega) hpos), by simp⟩
              obtain ⟨x0, hx0⟩ := hv0
              have hc0 := h7 0 x0 hx0
              have hspot : a.spot = none := by
                unfold World.cell? at hc0
                split at hc0
                · split at hc0
                  · cases hc0
                  · rename_i q; simpa [Addr.add] using q
                · cases hc0
              have ha : a = ⟨a.block, a.off, none⟩ := by cases a; simp_all
              have hblk : a.block < w.heap.size := by simpa [Addr.add] using World.block_lt_of_cell? w _ hc0
              have hrep : Rep w M0 (.sl (Ls.map wrap)) (.slice (some ⟨a.block, a.off, none⟩) (Ls.map wrap).length cap) (a.block :: bl) := by
                refine .sl (Ls.map wrap) a.block a.off cap (P.cellsOf e) vs bl ?_ ?_ hpos ?_ (by rw [hflat]; exact h3) h5 ?_
                · intro q
                  have := congrArg List.length q
                  simp [h1] at this
                  exact h0 this
                · refine ⟨by rw [List.length_map, h1]; exact hlc, ?_⟩
                  by_cases hq : cap = len
                  · have hlast := hall (len - 1) (by omega)
                    obtain ⟨y, hy⟩ : ∃ y, elems[len - 1]? = some y := ⟨elems[len - 1]'(by omega), List.getElem?_eq_getElem (by omega)⟩
                    rw [hy, Option.bind_eq_some_iff] at hlast
                    obtain ⟨cs', q1, _⟩ := hlast
                    exact room_of (by omega) hpos (by rw [hq]; exact q1)
                  · obtain ⟨r1, r2⟩ := hrest (hspare _)
                    have hlast := r2 (cap - 1 - len) (by omega)
                    obtain ⟨y, hy⟩ : ∃ y, rest[cap - 1 - len]? = some y := ⟨rest[cap - 1 - len]'(by omega), List.getElem?_eq_getElem (by omega)⟩
                    rw [hy, Option.bind_eq_some_iff] at hlast
                    obtain ⟨cs', q1, _⟩ := hlast
                    have e : len + (cap - 1 - len) = cap - 1 := by omega
                    rw [e] at q1
                    exact room_of (by omega) hpos q1
                · intro x hx
                  obtain ⟨L, hL, rfl⟩ := List.mem_map.1 hx
                  rw [hwc L hL]; exact (h2 L hL).1
                · intro j x hj
                  have := h7 j x hj
                  rw [ha, Addr.add_none] at this
                  exact this
              rw [List.length_map, h1, ← ha] at hrep
              exact ⟨[.sl (Ls.map wrap)], ⟨(a.block :: bl) ++ [], .cons _ _ _ _ _ [] hrep .nil, by simpa using ⟨hblk, h4⟩⟩, by rw [Sh.hasL]; exact ⟨hsh, trivial⟩, by simp [Value.oneCell']⟩
        · cases hsh
      · rename_i fs hu
        obtain ⟨xs, m', hm, _, hlen, hxl, hall⟩ := DataW.trod_struct hu h
        cases hm
        have := seen_struct (cs := cs) (fun t cs x sh hs hx => ih t cs x n sh hs hx) hlen fs.toList 0 sh hsh (fun f hf => by
          obtain ⟨i, hi, hfi⟩ := List.getElem_of_mem hf
          have := hall i f (by rw [← Array.getElem?_toList, List.getElem?_eq_getElem hi, hfi])
          have hxi : i < xs.length := by simpa [hxl] using hi
          exact ⟨_, this.trans (List.getElem?_eq_getElem hxi)⟩) (Nat.zero_le _)
        simpa using this
      · cases hsh

end
end Go.Vm
