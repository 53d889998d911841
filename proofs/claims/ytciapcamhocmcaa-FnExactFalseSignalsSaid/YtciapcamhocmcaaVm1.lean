/- The value machine, part 1: abstract values, what a value of the model stands for, and that this survives changes of other memory. -/
import Derived.WalkKit
set_option linter.unusedSimpArgs false
set_option linter.unusedVariables false
namespace Go.Vm
open Go

/-- An abstract value. 'sl': a slice that is only read (its elements); 'nsl': a slice of length and capacity 0; 'ref': a slice that the running call owns, by number; 'sub': a part of one; 'ptr': a pointer into an owned block (element, cell); 'pv': a pointer into memory that is only read; 'opt': a value that is there if the Bool is true. -/
inductive V where
  | int (k : IntKind) (n : Int)
  | bool (b : Bool)
  | str (s : ByteArray)
  | nsl
  | sl (xs : List V)
  | ref (id : Nat)
  | sub (id lo n : Nat)
  | ptr (id i off : Nat)
  | pv (xs : List V) (i off : Nat)
  | npt
  | fn (f : FuncId) (cs : List V)
  | nfn
  | agg (cs : List V)
  | tup (vs : List V)
  | opt (g : Bool) (v : V)
  | any
  deriving Inhabited

def V.cells : V → List V
  | .agg cs => cs
  | v => [v]

/-- Where an owned block lies: its block in memory, its first cell, the cells of an element, how many elements it has and can have. -/
structure Loc where
  b : Nat
  off : Nat
  sz : Nat
  n : Nat
  cap : Nat
  real : Bool

inductive Hd (l : Loc) : Value → Prop
  | real (h : l.real = true) : Hd l (.slice (some ⟨l.b, l.off, none⟩) l.n l.cap)
  | nil (a : Option Addr) (h : l.real = false) (h0 : l.n = 0) : Hd l (.slice a 0 0)

def Row (w : World) (b off : Nat) (vs : List Value) : Prop := ∀ j x, vs[j]? = some x → w.cell? ⟨b, off + j, none⟩ = some x

/-- The block has so many cells. -/
def Room (w : World) (b n : Nat) : Prop := ∃ cs t fr, w.heap[b]? = some (.cells cs t fr) ∧ n ≤ cs.size
theorem Room.keep {w w' : World} {b n : Nat} (h : Room w b n) (hb : w'.heap[b]? = w.heap[b]?) : Room w' b n := by
  obtain ⟨cs, t, fr, h1, h2⟩ := h
  exact ⟨cs, t, fr, hb.trans h1, h2⟩
theorem Room.le {w : World} {b n m : Nat} (h : Room w b n) (hm : m ≤ n) : Room w b m := by
  obtain ⟨cs, t, fr, h1, h2⟩ := h
  exact ⟨cs, t, fr, h1, Nat.le_trans hm h2⟩

/-- A block of cells that nobody has made fast. -/
def Live (w : World) (b : Nat) : Prop := ∃ c t, w.heap[b]? = some (.cells c t (0, 0))
theorem Live.lt {w : World} {b : Nat} (h : Live w b) : b < w.heap.size := by
  obtain ⟨c, t, e⟩ := h
  rcases Nat.lt_or_ge b w.heap.size with q | q
  · exact q
  · rw [Array.getElem?_eq_none q] at e; cases e
theorem Live.keep {w w' : World} {b : Nat} (h : Live w b) (hb : w'.heap[b]? = w.heap[b]?) : Live w' b := by
  obtain ⟨c, t, e⟩ := h
  exact ⟨c, t, hb.trans e⟩
theorem Live.setRow {w : World} {g b : Nat} {cs : Array Value} (h : Live w b) : Live (w.setRow g cs) b := by
  obtain ⟨c, t, e⟩ := h
  by_cases q : b = g
  · subst q; exact ⟨cs, t, setRow_heap w b c cs t _ e⟩
  · exact ⟨c, t, (setRow_other w g b cs q).trans e⟩

/-- No owned block. -/
def M0 : Nat → Option Loc := fun _ => none

mutual
inductive Rep (w : World) : (Nat → Option Loc) → V → Value → List Nat → Prop
  | int {μ : Nat → Option Loc} (k : IntKind) (n : Int) : Rep w μ (.int k n) (.int k n) []
  | bool {μ : Nat → Option Loc} (b : Bool) : Rep w μ (.bool b) (.bool b) []
  | str {μ : Nat → Option Loc} (s : ByteArray) : Rep w μ (.str s) (.string s) []
  | nsl {μ : Nat → Option Loc} (a : Option Addr) : Rep w μ .nsl (.slice a 0 0) []
  | sl0 {μ : Nat → Option Loc} (a : Option Addr) (c : Nat) : Rep w μ (.sl []) (.slice a 0 c) []
  | sl {μ : Nat → Option Loc} (xs : List V) (b off c sz : Nat) (vs : List Value) (bl : List Nat) (h0 : xs ≠ []) (hc : xs.length ≤ c ∧ Room w b (off + c * sz)) (hs : 0 < sz)
      (hz : ∀ x ∈ xs, x.cells.length = sz) (hl : RepL w M0 (xs.flatMap V.cells) vs bl) (h1 : ∀ x ∈ vs, x.oneCell' = true) (hr : Row w b off vs) :
      Rep w μ (.sl xs) (.slice (some ⟨b, off, none⟩) xs.length c) (b :: bl)
  | ref {μ : Nat → Option Loc} (id : Nat) (l : Loc) (v : Value) (h : μ id = some l) (hd : Hd l v) : Rep w μ (.ref id) v []
  | sub {μ : Nat → Option Loc} (id lo n : Nat) (l : Loc) (h : μ id = some l) (hr : l.real = true) (hn : lo + n ≤ l.n) :
      Rep w μ (.sub id lo n) (.slice (some ⟨l.b, l.off + lo * l.sz, none⟩) n (l.cap - lo)) []
  | sub0 {μ : Nat → Option Loc} (id lo : Nat) (l : Loc) (a : Option Addr) (h : μ id = some l) (hn : lo ≤ l.n) : Rep w μ (.sub id lo 0) (.slice a 0 0) []
  | ptr {μ : Nat → Option Loc} (id i off : Nat) (l : Loc) (h : μ id = some l) (hi : i < l.n) : Rep w μ (.ptr id i off) (.pointer (some ⟨l.b, l.off + (i * l.sz + off), none⟩)) []
  | pv {μ : Nat → Option Loc} (xs : List V) (i off b o sz : Nat) (vs : List Value) (bl : List Nat) (hi : i < xs.length) (hs : 0 < sz)
      (hz : ∀ x ∈ xs, x.cells.length = sz) (hl : RepL w M0 (xs.flatMap V.cells) vs bl) (h1 : ∀ x ∈ vs, x.oneCell' = true) (hr : Row w b o vs) :
      Rep w μ (.pv xs i off) (.pointer (some ⟨b, o + (i * sz + off), none⟩)) (b :: bl)
  | npt {μ : Nat → Option Loc} : Rep w μ .npt (.pointer none) []
  | fn {μ : Nat → Option Loc} (f : FuncId) (cs : List V) (vs : List Value) (bl : List Nat) (hl : RepL w μ cs vs bl) : Rep w μ (.fn f cs) (.func (.func f) #[] vs.toArray) bl
  | nfn {μ : Nat → Option Loc} : Rep w μ .nfn .nilFunc []
  | agg {μ : Nat → Option Loc} (cs : List V) (vs : List Value) (bl : List Nat) (hl : RepL w μ cs vs bl) (h1 : ∀ x ∈ vs, x.oneCell' = true) : Rep w μ (.agg cs) (.agg vs.toArray) bl
  | tup {μ : Nat → Option Loc} (cs : List V) (vs : List Value) (bl : List Nat) (hl : RepL w μ cs vs bl) : Rep w μ (.tup cs) (.tuple vs.toArray) bl
  | optT {μ : Nat → Option Loc} (v : V) (x : Value) (bl : List Nat) (h : Rep w μ v x bl) : Rep w μ (.opt true v) x bl
  | optF {μ : Nat → Option Loc} (v : V) : Rep w μ (.opt false v) undef []
  | any {μ : Nat → Option Loc} (x : Value) : Rep w μ .any x []
inductive RepL (w : World) : (Nat → Option Loc) → List V → List Value → List Nat → Prop
  | nil {μ : Nat → Option Loc} : RepL w μ [] [] []
  | cons {μ : Nat → Option Loc} (v : V) (x : Value) (bl : List Nat) (vs : List V) (xs : List Value) (bl' : List Nat) (h : Rep w μ v x bl) (ht : RepL w μ vs xs bl') :
      RepL w μ (v :: vs) (x :: xs) (bl ++ bl')
end

/-- The map of places grows. -/
def MLe (μ μ' : Nat → Option Loc) : Prop := ∀ id l, μ id = some l → μ' id = some l
theorem MLe.zero (μ : Nat → Option Loc) : MLe M0 μ := fun _ _ h => by cases h
theorem MLe.refl (μ : Nat → Option Loc) : MLe μ μ := fun _ _ h => h
theorem MLe.trans {a b c : Nat → Option Loc} (h : MLe a b) (k : MLe b c) : MLe a c := fun id l e => k id l (h id l e)

theorem Row.keep {w w' : World} {b off : Nat} {vs : List Value} (h : Row w b off vs) (hb : w'.heap[b]? = w.heap[b]?) : Row w' b off vs := by
  intro j x hj
  have := h j x hj
  simpa [World.cell?, hb] using this

mutual
theorem Rep.keep {w w' : World} : ∀ {μ μ' : Nat → Option Loc} (_ : MLe μ μ') {v : V} {x : Value} {bl : List Nat}, Rep w μ v x bl → (∀ b ∈ bl, w'.heap[b]? = w.heap[b]?) → Rep w' μ' v x bl
  | _, _, hm, _, _, _, .int k n, _ => .int k n
  | _, _, hm, _, _, _, .bool b, _ => .bool b
  | _, _, hm, _, _, _, .str s, _ => .str s
  | _, _, hm, _, _, _, .nsl a, _ => .nsl a
  | _, _, hm, _, _, _, .sl0 a c, _ => .sl0 a c
  | _, _, hm, _, _, _, .sl xs b off c sz vs bl h0 hc hs hz hl h1 hr, hb =>
    .sl xs b off c sz vs bl h0 ⟨hc.1, hc.2.keep (hb b (List.mem_cons_self ..))⟩ hs hz (RepL.keep (MLe.refl M0) hl fun x hx => hb x (List.mem_cons_of_mem _ hx)) h1 (hr.keep (hb b (List.mem_cons_self ..)))
  | _, _, hm, _, _, _, .ref id l v h hd, _ => .ref id l v (hm _ _ h) hd
  | _, _, hm, _, _, _, .sub id lo n l h hr hn, _ => .sub id lo n l (hm _ _ h) hr hn
  | _, _, hm, _, _, _, .sub0 id lo l a h hn, _ => .sub0 id lo l a (hm _ _ h) hn
  | _, _, hm, _, _, _, .ptr id i off l h hi, _ => .ptr id i off l (hm _ _ h) hi
  | _, _, hm, _, _, _, .pv xs i off b o sz vs bl hi hs hz hl h1 hr, hb =>
    .pv xs i off b o sz vs bl hi hs hz (RepL.keep (MLe.refl M0) hl fun x hx => hb x (List.mem_cons_of_mem _ hx)) h1 (hr.keep (hb b (List.mem_cons_self ..)))
  | _, _, hm, _, _, _, .npt, _ => .npt
  | _, _, hm, _, _, _, .fn f cs vs bl hl, hb => .fn f cs vs bl (RepL.keep hm hl hb)
  | _, _, hm, _, _, _, .nfn, _ => .nfn
  | _, _, hm, _, _, _, .agg cs vs bl hl h1, hb => .agg cs vs bl (RepL.keep hm hl hb) h1
  | _, _, hm, _, _, _, .tup cs vs bl hl, hb => .tup cs vs bl (RepL.keep hm hl hb)
  | _, _, hm, _, _, _, .optT v x bl h, hb => .optT v x bl (Rep.keep hm h hb)
  | _, _, hm, _, _, _, .optF v, _ => .optF v
  | _, _, hm, _, _, _, .any x, _ => .any x
theorem RepL.keep {w w' : World} : ∀ {μ μ' : Nat → Option Loc} (_ : MLe μ μ') {vs : List V} {xs : List Value} {bl : List Nat}, RepL w μ vs xs bl → (∀ b ∈ bl, w'.heap[b]? = w.heap[b]?) → RepL w' μ' vs xs bl
  | _, _, hm, _, _, _, .nil, _ => .nil
  | _, _, hm, _, _, _, .cons v x bl vs xs bl' h ht, hb =>
    .cons v x bl vs xs bl' (Rep.keep hm h fun b m => hb b (List.mem_append_left _ m)) (RepL.keep hm ht fun b m => hb b (List.mem_append_right _ m))
end

theorem RepL.length {w : World} {μ : Nat → Option Loc} : ∀ {vs : List V} {xs : List Value} {bl : List Nat}, RepL w μ vs xs bl → vs.length = xs.length
  | _, _, _, .nil => rfl
  | _, _, _, .cons _ _ _ _ _ _ _ ht => by simp [ht.length]

theorem RepL.append {w : World} {μ : Nat → Option Loc} : ∀ {vs : List V} {xs : List Value} {bl : List Nat} {vs' : List V} {xs' : List Value} {bl' : List Nat},
    RepL w μ vs xs bl → RepL w μ vs' xs' bl' → RepL w μ (vs ++ vs') (xs ++ xs') (bl ++ bl')
  | _, _, _, _, _, _, .nil, k => k
  | _, _, _, _, _, _, .cons v x bl vs xs bl' h ht, k => by
    rw [List.append_assoc]
    exact .cons v x bl _ _ _ h (ht.append k)

theorem RepL.split {w : World} {μ : Nat → Option Loc} : ∀ (vs vs' : List V) {xs : List Value} {bl : List Nat}, RepL w μ (vs ++ vs') xs bl →
    ∃ xs1 xs2 b1 b2, xs = xs1 ++ xs2 ∧ bl = b1 ++ b2 ∧ RepL w μ vs xs1 b1 ∧ RepL w μ vs' xs2 b2
  | [], _, xs, bl, h => ⟨[], xs, [], bl, rfl, rfl, .nil, h⟩
  | v :: vs, vs', _, _, .cons _ x bl _ xs bl' h ht => by
    obtain ⟨xs1, xs2, b1, b2, rfl, rfl, h1, h2⟩ := RepL.split vs vs' ht
    exact ⟨x :: xs1, xs2, bl ++ b1, b2, rfl, by simp, .cons _ _ _ _ _ _ h h1, h2⟩

theorem RepL.get {w : World} {μ : Nat → Option Loc} : ∀ {vs : List V} {xs : List Value} {bl : List Nat}, RepL w μ vs xs bl → ∀ (i : Nat) (v : V), vs[i]? = some v →
    ∃ x b, xs[i]? = some x ∧ Rep w μ v x b ∧ (∀ y ∈ b, y ∈ bl)
  | _, _, _, .nil, i, v, h => by simp at h
  | _, _, _, .cons _ x bl _ xs bl' h ht, 0, v, e => by
    simp at e; subst e
    exact ⟨x, bl, rfl, h, fun y hy => List.mem_append_left _ hy⟩
  | _, _, _, .cons _ x bl _ xs bl' h ht, i + 1, v, e => by
    obtain ⟨y, b, h1, h2, h3⟩ := ht.get i v (by simpa using e)
    exact ⟨y, b, by simpa using h1, h2, fun z hz => List.mem_append_right _ (h3 z hz)⟩

/-- A reading's blocks are there. -/
theorem Row.lt {w : World} {b off : Nat} {x : Value} {vs : List Value} (h : Row w b off (x :: vs)) : b < w.heap.size := by
  have := h 0 x rfl
  exact block_lt_of_cell this

theorem flatMap_cells_ne {xs : List V} {sz : Nat} (h0 : xs ≠ []) (hs : 0 < sz) (hz : ∀ x ∈ xs, x.cells.length = sz) : xs.flatMap V.cells ≠ [] := by
  cases xs with
  | nil => exact absurd rfl h0
  | cons x xs =>
    intro h
    have := hz x (List.mem_cons_self ..)
    simp at h
    simp [h.1] at this
    omega

mutual
theorem Rep.lt {w : World} : ∀ {μ : Nat → Option Loc} {v : V} {x : Value} {bl : List Nat}, Rep w μ v x bl → ∀ b ∈ bl, b < w.heap.size
  | _, _, _, _, .sl xs b off c sz vs bl h0 hc hs hz hl h1 hr, y, hy => by
    cases List.mem_cons.1 hy with
    | inl e =>
      subst e
      have hne := flatMap_cells_ne h0 hs hz
      have hlen := hl.length
      cases vs with
      | nil => exact absurd (List.length_eq_zero_iff.1 hlen) hne
      | cons v vs => exact hr.lt
    | inr e => exact RepL.lt hl y e
  | _, _, _, _, .pv xs i off b o sz vs bl hi hs hz hl h1 hr, y, hy => by
    cases List.mem_cons.1 hy with
    | inl e =>
      subst e
      have hne := flatMap_cells_ne (xs := xs) (by intro e; subst e; simp at hi) hs hz
      have hlen := hl.length
      cases vs with
      | nil => exact absurd (List.length_eq_zero_iff.1 hlen) hne
      | cons v vs => exact hr.lt
    | inr e => exact RepL.lt hl y e
  | _, _, _, _, .fn f cs vs bl hl, y, hy => RepL.lt hl y hy
  | _, _, _, _, .agg cs vs bl hl h1, y, hy => RepL.lt hl y hy
  | _, _, _, _, .tup cs vs bl hl, y, hy => RepL.lt hl y hy
  | _, _, _, _, .optT v x bl h, y, hy => Rep.lt h y hy
  | _, _, _, _, .int .., y, hy | _, _, _, _, .bool .., y, hy | _, _, _, _, .str .., y, hy | _, _, _, _, .nsl .., y, hy | _, _, _, _, .sl0 .., y, hy
  | _, _, _, _, .ref .., y, hy | _, _, _, _, .sub .., y, hy | _, _, _, _, .sub0 .., y, hy | _, _, _, _, .ptr .., y, hy | _, _, _, _, .npt, y, hy
  | _, _, _, _, .nfn, y, hy | _, _, _, _, .optF .., y, hy | _, _, _, _, .any .., y, hy => by simp at hy
theorem RepL.lt {w : World} : ∀ {μ : Nat → Option Loc} {vs : List V} {xs : List Value} {bl : List Nat}, RepL w μ vs xs bl → ∀ b ∈ bl, b < w.heap.size
  | _, _, _, _, .nil, y, hy => by simp at hy
  | _, _, _, _, .cons v x bl vs xs bl' h ht, y, hy => (List.mem_append.1 hy).elim (Rep.lt h y) (RepL.lt ht y)
end

end Go.Vm
