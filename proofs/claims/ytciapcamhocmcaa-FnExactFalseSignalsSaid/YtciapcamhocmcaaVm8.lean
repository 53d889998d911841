/- The value machine, part 8: contracts of functions, and what a call does to the caller's state. -/
import Derived.Test.YtciapcamhocmcaaVm7
set_option linter.unusedSimpArgs false
set_option linter.unusedVariables false
namespace Go.Vm
open Go

def Blk.kindIs (p : Kd → Bool) : Blk → Bool
  | .dead => true
  | .arr _ k => p k
  | .box _ k => p k

/-- What a call finds. -/
structure Inp (w : World) (vals : Array Value) (args : List V) (O : List Blk) (μ : Nat → Option Loc) (ow : Ow) (vis : Nat → Prop) : Prop where
  sz : vals.size = args.length
  arg : ∀ i V, args[i]? = some V → ∃ bl, Rep w μ V (vals.getD i undef) bl ∧ ∀ b ∈ bl, ow b = none ∧ vis b
  blk : ∀ id bk, O[id]? = some bk → BlkOK ⟨w, fun b => ow b ≠ none, vis, μ⟩ w μ ow false id bk
  dom : ∀ id, O.length ≤ id → μ id = none
  owl : ∀ b, ow b ≠ none → Live w b

/-- What a call leaves. -/
structure Out (w : World) (O : List Blk) (μ : Nat → Option Loc) (ow : Ow) (vis : Nat → Prop) (r : V) (O' : List Blk) (v : Value) (w' : World) (μ' : Nat → Option Loc) (ow' : Ow) : Prop where
  rep : ∃ bl, Rep w' μ' r v bl ∧ ∀ b ∈ bl, ow' b = none ∧ (vis b ∨ ow b ≠ none ∨ w.heap.size ≤ b)
  blk : ∀ id bk, O'[id]? = some bk → BlkOK ⟨w, fun b => ow b ≠ none, vis, μ⟩ w' μ' ow' false id bk
  nomix : ∀ bk ∈ O', bk.kindIs (fun k => k != .mix) = true
  same : MLe μ μ'
  len : O.length ≤ O'.length
  dom : ∀ id, O'.length ≤ id → μ' id = none
  owl : ∀ b, ow' b ≠ none → Live w' b
  own : ∀ b, ow' b ≠ none → ow b ≠ none ∨ w.heap.size ≤ b
  frm : Frame ⟨w, fun b => ow b ≠ none, vis, μ⟩ w'

theorem cells_room {w : World} {μ : Nat → Option Loc} {l : Loc} {xs : List V} {bl : List Nat} (h : Cells w μ l xs bl) {n : Nat} (hn : n ≤ l.off + l.cap * l.sz) : Room w l.b n := by
  obtain ⟨cc, tt, _, g1, g2, _⟩ := h.row
  exact ⟨cc, tt, _, g1, by omega⟩

/-- THE CONTRACT: called with such arguments, lent such blocks, the function returns such a value and leaves such blocks. -/
def Con (P : Program) (f : FuncId) (args : List V) (O : List Blk) (r : V) (O' : List Blk) : Prop :=
  (∃ fn, P.funcs[f]? = some fn ∧ (fn.name == "runtime.NumGoroutine") = false ∧ fn.body.isNone = false) ∧ ∀ (w : World) (vals : Array Value) (μ : Nat → Option Loc) (ow : Ow) (vis : Nat → Prop), Inp w vals args O μ ow vis →
    Calls P f vals w fun e w' => ∃ v μ' ow', e = .returned v ∧ Out w O μ ow vis r O' v w' μ' ow'

mutual
def V.ren (ρ : Nat → Nat) : V → V
  | .ref id => .ref (ρ id)
  | .sub id lo n => .sub (ρ id) lo n
  | .ptr id i off => .ptr (ρ id) i off
  | .fn f cs => .fn f (V.renL ρ cs)
  | .agg cs => .agg (V.renL ρ cs)
  | .tup cs => .tup (V.renL ρ cs)
  | .opt g v => .opt g (V.ren ρ v)
  | .int k n => .int k n
  | .bool b => .bool b
  | .str b => .str b
  | .nsl => .nsl
  | .sl xs => .sl xs
  | .pv xs i off => .pv xs i off
  | .npt => .npt
  | .nfn => .nfn
  | .any => .any
def V.renL (ρ : Nat → Nat) : List V → List V
  | [] => []
  | v :: vs => V.ren ρ v :: V.renL ρ vs
end

mutual
theorem Rep.ren {w : World} {μ μ2 : Nat → Option Loc} {ρ : Nat → Nat} (h2 : ∀ id l, μ id = some l → μ2 (ρ id) = some l) : ∀ {v : V} {x : Value} {bl : List Nat}, Rep w μ v x bl → Rep w μ2 (v.ren ρ) x bl
  | _, _, _, .int k n => by rw [V.ren]; exact .int k n
  | _, _, _, .bool b => by rw [V.ren]; exact .bool b
  | _, _, _, .str s => by rw [V.ren]; exact .str s
  | _, _, _, .nsl a => by rw [V.ren]; exact .nsl a
  | _, _, _, .sl0 a c => by rw [V.ren]; exact .sl0 a c
  | _, _, _, .sl xs b off c sz vs bl h0 hc hs hz hl h1 hr => by rw [V.ren]; exact .sl xs b off c sz vs bl h0 hc hs hz hl h1 hr
  | _, _, _, .ref id l v h hd => by rw [V.ren]; exact .ref _ l v (h2 _ _ h) hd
  | _, _, _, .sub id lo n l h hr hn => by rw [V.ren]; exact .sub _ lo n l (h2 _ _ h) hr hn
  | _, _, _, .sub0 id lo l a h hn => by rw [V.ren]; exact .sub0 _ lo l a (h2 _ _ h) hn
  | _, _, _, .ptr id i off l h hi => by rw [V.ren]; exact .ptr _ i off l (h2 _ _ h) hi
  | _, _, _, .pv xs i off b o sz vs bl hi hs hz hl h1 hr => by rw [V.ren]; exact .pv xs i off b o sz vs bl hi hs hz hl h1 hr
  | _, _, _, .npt => by rw [V.ren]; exact .npt
  | _, _, _, .fn f cs vs bl hl => by rw [V.ren]; exact .fn f _ vs bl (RepL.ren h2 hl)
  | _, _, _, .nfn => by rw [V.ren]; exact .nfn
  | _, _, _, .agg cs vs bl hl h1 => by rw [V.ren]; exact .agg _ vs bl (RepL.ren h2 hl) h1
  | _, _, _, .tup cs vs bl hl => by rw [V.ren]; exact .tup _ vs bl (RepL.ren h2 hl)
  | _, _, _, .optT v x bl h => by rw [V.ren]; exact .optT _ x bl (Rep.ren h2 h)
  | _, _, _, .optF v => by rw [V.ren]; exact .optF _
  | _, _, _, .any x => by rw [V.ren]; exact .any x
theorem RepL.ren {w : World} {μ μ2 : Nat → Option Loc} {ρ : Nat → Nat} (h2 : ∀ id l, μ id = some l → μ2 (ρ id) = some l) : ∀ {vs : List V} {xs : List Value} {bl : List Nat}, RepL w μ vs xs bl → RepL w μ2 (V.renL ρ vs) xs bl
  | _, _, _, .nil => by rw [V.renL]; exact .nil
  | _, _, _, .cons v x bl vs xs bl' h ht => by rw [V.renL]; exact .cons _ x bl _ xs bl' (Rep.ren h2 h) (RepL.ren h2 ht)
end

/-- The place of a number among those lent. -/
def idx (ls : List Nat) (id : Nat) : Option Nat := match ls with
  | [] => none
  | x :: l => bif Nat.beq x id then some 0 else (idx l id).map (· + 1)

theorem idx_cons (x : Nat) (l : List Nat) (id : Nat) : idx (x :: l) id = bif Nat.beq x id then some 0 else (idx l id).map (· + 1) := rfl

theorem idx_spec : ∀ {ls : List Nat} {id j : Nat}, idx ls id = some j → ls[j]? = some id
  | [], _, _, h => by simp [idx] at h
  | x :: l, id, j, h => by
    unfold idx at h
    cases e : Nat.beq x id with
    | true =>
      rw [e] at h
      simp only [cond_true, Option.some.injEq] at h
      subst h
      simp [Nat.eq_of_beq_eq_true e]
    | false =>
      rw [e] at h
      simp only [cond_false, Option.map_eq_some_iff] at h
      obtain ⟨k, h1, rfl⟩ := h
      simpa using idx_spec h1

theorem idx_mem : ∀ {ls : List Nat} {id : Nat}, id ∈ ls → (idx ls id).isSome = true
  | [], _, h => by simp at h
  | x :: l, id, h => by
    unfold idx
    cases e : Nat.beq x id with
    | true => rfl
    | false =>
      have hne : ¬ x = id := fun q => by rw [q, Nat.beq_refl] at e; cases e
      have := idx_mem (ls := l) (id := id) ((List.mem_cons.1 h).resolve_left fun q => hne q.symm)
      simpa using this

/-- A cell of an argument, as the callee sees it: an owned block that is lent keeps a number, another one is read only. -/
def toCell (s : St) (ls : List Nat) : V → Option V
  | .ref id => match idx ls id with
    | some j => some (.ref j)
    | none => match s.row id with
      | some (xs, k) => bif k != .mix then some (.sl xs) else none
      | none => none
  | .sub id lo n => match idx ls id with
    | some _ => none
    | none => match s.row id with
      | some (xs, k) => bif k != .mix then some (.sl ((xs.drop lo).take n)) else none
      | none => none
  | .ptr id i off => match idx ls id with
    | some j => some (.ptr j i off)
    | none => match s.row id with
      | some (xs, k) => bif k != .mix then some (.pv xs i off) else none
      | none => none
  | .nsl => some (.sl [])
  | .agg _ | .tup _ | .opt _ _ | .any | .fn _ _ => none
  | v => some v

def toCells (s : St) (ls : List Nat) : List V → Option (List V)
  | [] => some []
  | c :: cs => match toCell s ls c, toCells s ls cs with
    | some c', some cs' => some (c' :: cs')
    | _, _ => none

/-- An argument. -/
def toArg (s : St) (ls : List Nat) : V → Option V
  | .agg cs => (toCells s ls cs).map .agg
  | .fn f cs => (toCells s ls cs).map (.fn f)
  | .ptr id 0 off => match toCell s ls (.ptr id 0 off) with
    | some v => some v
    | none => match ls, s.row id with
      | [], some ([.agg cs], _) => (toCells s [] cs).map fun cs' => .pv [.agg cs'] 0 off
      | _, _ => none
  | v => toCell s ls v

def toArgs (s : St) (ls : List Nat) : List V → Option (List V)
  | [] => some []
  | c :: cs => match toArg s ls c, toArgs s ls cs with
    | some c', some cs' => some (c' :: cs')
    | _, _ => none

/-- Nothing that only reads stands in a result. -/
def V.clean : V → Bool
  | .tup vs => vs.all V.noSl
  | v => v.noSl

def V.cold : V → Bool
  | .ref _ | .sub _ _ _ | .ptr _ _ _ | .opt _ _ | .tup _ => false
  | .agg cs => cs.all fun c => match c with | .ref _ | .sub _ _ _ | .ptr _ _ _ | .opt _ _ | .tup _ | .agg _ | .fn _ _ => false | _ => true
  | .fn _ cs => cs.all fun c => match c with | .ref _ | .sub _ _ _ | .ptr _ _ _ | .opt _ _ | .tup _ | .agg _ | .fn _ _ => false | _ => true
  | _ => true

def rho (ls : List Nat) (nid : Nat) (j : Nat) : Nat := if j < ls.length then ls.getD j 0 else nid + (j - ls.length)

/-- The caller's blocks after the call. -/
def setBlks (O : List Blk) (ls : List Nat) (O' : List Blk) : List Blk :=
  match ls, O' with
  | id :: ls, bk :: O' => setBlks (O.set id bk) ls O'
  | _, _ => O

/-- The call of a function, its arguments known. -/
def aCall (P : Program) (s : St) (f : FuncId) (ls : List Nat) (args : List V) (K : V → St → Prop) : Prop :=
  ∃ args' Ols r O', toArgs s ls args = some args' ∧ ls.mapM (fun id => s.O[id]?) = some Ols ∧ ls.Nodup ∧ (∀ bk ∈ Ols, bk.kindIs (fun k => k != .mix) = true ∧ bk ≠ .dead) ∧
    (s.vw = false ∨ ∀ bk ∈ Ols, bk.kindIs (fun k => k == .flat) = true) ∧
    Con P f args' Ols r O' ∧
    ((r.clean = true ∧ ∀ bk ∈ O', bk.kindIs (fun k => k != .shal && k != .mix) = true) ∨ (ls = [] ∧ ∀ x ∈ args, x.cold = true)) ∧
    K (r.ren (rho ls s.O.length)) { s with O := setBlks s.O ls O' ++ O'.drop ls.length }


theorem idx_get : ∀ {ls : List Nat} {j id : Nat}, ls.Nodup → ls[j]? = some id → idx ls id = some j
  | [], _, _, _, h => by simp at h
  | x :: l, 0, id, _, h => by
    simp only [List.getElem?_cons_zero, Option.some.injEq] at h
    subst h
    simp [idx]
  | x :: l, j + 1, id, hn, h => by
    have hn' := List.nodup_cons.1 hn
    have h' : l[j]? = some id := by simpa using h
    have hne : Nat.beq x id = false := by
      cases e : Nat.beq x id with
      | false => rfl
      | true => rw [Nat.eq_of_beq_eq_true e] at hn'; exact absurd (List.mem_of_getElem? h') hn'.1
    unfold idx
    rw [hne, cond_false, idx_get hn'.2 h']
    rfl

theorem idx_none {ls : List Nat} {id : Nat} (h : idx ls id = none) : id ∉ ls := fun hm => by
  have := idx_mem hm
  rw [h] at this; cases this

theorem setBlks_get : ∀ (ls : List Nat) (O O' : List Blk) (id : Nat), ls.Nodup → (∀ x ∈ ls, x < O.length) →
    (setBlks O ls O')[id]? = match idx ls id with | some j => (match O'[j]? with | some bk => some bk | none => O[id]?) | none => O[id]?
  | [], O, O', id, _, _ => by simp [setBlks, idx]
  | x :: ls, O, [], id, _, _ => by
    simp only [setBlks, List.getElem?_nil]
    cases idx (x :: ls) id <;> rfl
  | x :: ls, O, bk :: O', id, hn, hl => by
    have hn' := List.nodup_cons.1 hn
    have ih := setBlks_get ls (O.set x bk) O' id hn'.2 fun y hy => by simpa using hl y (List.mem_cons_of_mem _ hy)
    have hx := hl x (List.mem_cons_self ..)
    rw [setBlks, ih, idx_cons]
    cases e : Nat.beq x id with
    | true =>
      have e' := Nat.eq_of_beq_eq_true e
      subst e'
      simp only [cond_true]
      cases q : idx ls x with
      | none => simp [hx]
      | some j => exact absurd (List.mem_of_getElem? (idx_spec q)) hn'.1
    | false =>
      have hne : ¬ x = id := fun q => by rw [q, Nat.beq_refl] at e; cases e
      simp only [cond_false]
      cases q : idx ls id with
      | none => simp [hne]
      | some j => simp [hne]

theorem setBlks_len : ∀ (ls : List Nat) (O O' : List Blk), (setBlks O ls O').length = O.length
  | [], O, O' => by simp [setBlks]
  | x :: ls, O, [] => by simp [setBlks]
  | x :: ls, O, bk :: O' => by rw [setBlks, setBlks_len]; simp

section
variable {P : Program} {cx : Cx} {s : St} {a : Act} {w : World} {μ : Nat → Option Loc} {ow : Ow}

def deepAt (s : St) (id : Nat) : Bool := match s.row id with | some (_, k) => k == .deep | none => false

/-- What the callee is told of ownership. -/
def owC (s : St) (ls : List Nat) (ow : Ow) : Ow := fun b => match ow b with
  | some (true, id) => (idx ls id).map fun j => (true, j)
  | some (false, id) => bif deepAt s id then (idx ls id).map fun j => (false, j) else none
  | none => none

def muC (ls : List Nat) (μ : Nat → Option Loc) : Nat → Option Loc := fun j => (ls[j]?).bind μ

theorem owC_ne {ls : List Nat} {b : Nat} (h : owC s ls ow b ≠ none) : ∃ r id j, ow b = some (r, id) ∧ idx ls id = some j ∧ owC s ls ow b = some (r, j) ∧ (r = false → deepAt s id = true) := by
  unfold owC at *
  split at h
  · rename_i id e
    cases q : idx ls id with
    | none => simp [q] at h
    | some j => exact ⟨true, id, j, e, q, by simp [e, q], by simp⟩
  · rename_i id e
    cases q2 : deepAt s id with
    | false => simp [q2] at h
    | true =>
      cases q : idx ls id with
      | none => simp [q, q2] at h
      | some j => exact ⟨false, id, j, e, q, by simp [e, q, q2], fun _ => q2⟩
  · exact absurd rfl h

/-- A view is nothing that is lent. -/
theorem owC_view {ls : List Nat} {b : Nat} (hv : VOK cx ow s.vw b) (hf : s.vw = false ∨ ∀ id ∈ ls, deepAt s id = false) : owC s ls ow b = none := by
  cases e : owC s ls ow b with
  | none => rfl
  | some q =>
    obtain ⟨r, id, j, h1, h2, _, h4⟩ := owC_ne (s := s) (ow := ow) (ls := ls) (b := b) (by rw [e]; simp)
    rcases hv.1 with h | ⟨hvw, id', h⟩
    · rw [h] at h1; cases h1
    · rw [h] at h1
      simp only [Option.some.injEq, Prod.mk.injEq] at h1
      obtain ⟨rfl, rfl⟩ := h1
      rcases hf with hf | hf
      · rw [hvw] at hf; cases hf
      · have := hf id' (List.mem_of_getElem? (idx_spec h2))
        rw [h4 rfl] at this; cases this

/-- A block that is not lent, seen as a slice that is only read. -/
theorem snap (h : Sup cx s a w μ ow) {ls : List Nat} {id : Nat} {xs : List V} {k : Kd} (hr : s.row id = some (xs, k)) (hk : k ≠ .mix) (hn : idx ls id = none)
    (hf : s.vw = false ∨ ∀ id ∈ ls, deepAt s id = false) :
    ∃ l, μ id = some l ∧ l.n = xs.length ∧ ((l.real = false ∧ xs = []) ∨ (l.real = true ∧ ∃ bl, Cells w M0 l xs bl ∧ ∀ b ∈ l.b :: bl, owC s ls ow b = none)) := by
  obtain ⟨l, h1, h2, h3⟩ := h.row hr
  refine ⟨l, h1, h2, ?_⟩
  rcases h3 with h3 | ⟨h3, h4, bl, h5, h6, h7⟩
  · exact .inl h3
  · right
    have hmu : k.mu μ = M0 := by cases k <;> first | rfl | exact absurd rfl hk
    rw [hmu] at h5
    refine ⟨h3, bl, h5, fun b hb => ?_⟩
    cases List.mem_cons.1 hb with
    | inl e => subst e; simp [owC, h4, hn]
    | inr e =>
      cases k with
      | flat | thin => have : bl = [] := h6; subst this; simp at e
      | deep => simp [owC, h6.2 b e, hn]
      | shal => exact owC_view (h6 b e) hf
      | mix => exact absurd rfl hk

theorem Cells.slRep {l : Loc} {xs : List V} {bl : List Nat} (h : Cells w M0 l xs bl) (lo n : Nat) (hn : lo + n ≤ xs.length) (hl : l.n = xs.length) :
    ∃ bl', Rep w μ (.sl ((xs.drop lo).take n)) (.slice (some ⟨l.b, l.off + lo * l.sz, none⟩) n (l.cap - lo)) bl' ∧ ∀ b ∈ bl', b ∈ l.b :: bl := by
  obtain ⟨vs, c1, c2, c3⟩ := h.rowOf
  have hle := h.le
  have hlen : ((xs.drop lo).take n).length = n := by rw [List.length_take, List.length_drop]; omega
  by_cases h0 : n = 0
  · subst h0
    refine ⟨[], ?_, by simp⟩
    rw [List.take_zero]
    exact .sl0 _ _
  · obtain ⟨b', p1, p2⟩ := c1.part (lo * l.sz) (n * l.sz)
    have hz := h.each
    have hflat : ((xs.drop lo).take n).flatMap V.cells = ((xs.flatMap V.cells).drop (lo * l.sz)).take (n * l.sz) := by
      rw [flatMap_take _ l.sz (fun y hy => hz y (List.mem_of_mem_drop hy)), flatMap_drop _ l.sz hz]
    refine ⟨l.b :: b', ?_, fun b hb => ?_⟩
    · have := Rep.sl (w := w) (μ := μ) ((xs.drop lo).take n) l.b (l.off + lo * l.sz) (l.cap - lo) l.sz ((vs.drop (lo * l.sz)).take (n * l.sz)) b'
        (by intro e; rw [e] at hlen; simp at hlen; omega) ⟨by rw [hlen]; omega, cells_room h (by have e : lo * l.sz + (l.cap - lo) * l.sz = l.cap * l.sz := (by rw [← Nat.add_mul]; congr 1; omega); omega)⟩ h.sz (fun y hy => hz y (List.mem_of_mem_drop (List.mem_of_mem_take hy))) (by rw [hflat]; exact p1)
        (fun y hy => c2 y (List.mem_of_mem_drop (List.mem_of_mem_take hy)))
        (by
          intro j y hj
          have hjl : j < n * l.sz := by
            rcases Nat.lt_or_ge j (n * l.sz) with q | q
            · exact q
            · rw [List.getElem?_eq_none (by rw [List.length_take]; omega)] at hj; cases hj
          rw [List.getElem?_take_of_lt hjl, List.getElem?_drop] at hj
          rw [Nat.add_assoc]
          exact c3 _ y hj)
      rwa [hlen] at this
    · cases List.mem_cons.1 hb with
      | inl e => subst e; exact List.mem_cons_self ..
      | inr e => exact List.mem_cons_of_mem _ (p2 b e)

theorem toCell_rep (h : Sup cx s a w μ ow) {ls : List Nat} (hls : ∀ id ∈ ls, id < s.O.length) (hf : s.vw = false ∨ ∀ id ∈ ls, deepAt s id = false) {v v' : V} {x : Value} {bl : List Nat}
    (hr : Rep w μ v x bl) (hb : ∀ b ∈ bl, VOK cx ow s.vw b) (ht : toCell s ls v = some v') :
    ∃ bl', Rep w (muC ls μ) v' x bl' ∧ (∀ b ∈ bl', owC s ls ow b = none) ∧ ((match v with | .ref _ | .sub _ _ _ | .ptr _ _ _ => false | _ => true) = true → ∀ b ∈ bl', b ∈ bl) := by
  have hmu : ∀ {id j : Nat} {l : Loc}, idx ls id = some j → μ id = some l → muC ls μ j = some l := by
    intro id j l h1 h2
    simp [muC, idx_spec h1, h2]
  have plain : v' = v → Rep w (muC ls μ) v x bl → ∃ bl', Rep w (muC ls μ) v' x bl' ∧ (∀ b ∈ bl', owC s ls ow b = none) ∧ ((match v with | .ref _ | .sub _ _ _ | .ptr _ _ _ => false | _ => true) = true → ∀ b ∈ bl', b ∈ bl) :=
    fun e q => ⟨bl, by rw [e]; exact q, fun b hbb => owC_view (hb b hbb) hf, fun _ _ hbb => hbb⟩
  cases v with
  | int k n => cases hr; exact plain (by simpa [toCell, eq_comm] using ht) (.int k n)
  | bool t => cases hr; exact plain (by simpa [toCell, eq_comm] using ht) (.bool t)
  | str t => cases hr; exact plain (by simpa [toCell, eq_comm] using ht) (.str t)
  | npt => cases hr; exact plain (by simpa [toCell, eq_comm] using ht) .npt
  | nfn => cases hr; exact plain (by simpa [toCell, eq_comm] using ht) .nfn
  | sl xs =>
    refine plain (by simpa [toCell, eq_comm] using ht) ?_
    cases hr with
    | sl0 q c => exact .sl0 q c
    | sl _ b off c sz vs bl h0 hc hs hz hl h1 hr' => exact .sl _ b off c sz vs bl h0 hc hs hz hl h1 hr'
  | pv xs i off =>
    refine plain (by simpa [toCell, eq_comm] using ht) ?_
    cases hr with
    | pv _ _ _ b o sz vs bl hi hs hz hl h1 hr' => exact .pv _ _ _ b o sz vs bl hi hs hz hl h1 hr'
  | nsl =>
    cases hr with
    | nsl q =>
      simp only [toCell, Option.some.injEq] at ht
      subst ht
      exact ⟨[], .sl0 q 0, by simp, by simp⟩
  | agg => simp [toCell] at ht
  | tup => simp [toCell] at ht
  | opt => simp [toCell] at ht
  | any => simp [toCell] at ht
  | fn => simp [toCell] at ht
  | ref id =>
    simp only [toCell] at ht
    cases q : idx ls id with
    | some j =>
      rw [q] at ht
      simp only [Option.some.injEq] at ht
      subst ht
      cases hr with
      | ref _ l _ hl hd => exact ⟨[], .ref j l _ (hmu q hl) hd, by simp, by simp⟩
    | none =>
      rw [q] at ht
      cases hrow : s.row id with
      | none => rw [hrow] at ht; cases ht
      | some xk =>
        obtain ⟨xs, k⟩ := xk
        rw [hrow] at ht
        simp only at ht
        cases hk : (k != .mix) with
        | false => rw [hk] at ht; cases ht
        | true =>
          rw [hk, cond_true] at ht
          simp only [Option.some.injEq] at ht
          subst ht
          obtain ⟨l, h1, h2, h3⟩ := snap h hrow (by simpa using hk) q hf
          cases hr with
          | ref _ l' _ hl hd =>
            rw [hl] at h1; cases h1
            rcases h3 with ⟨h3, h4⟩ | ⟨h3, bl, h4, h5⟩
            · subst h4
              cases hd with
              | nil q2 _ _ => exact ⟨[], .sl0 q2 0, by simp, by simp⟩
              | real hreal => rw [hreal] at h3; cases h3
            · cases hd with
              | nil _ hf' _ => rw [h3] at hf'; cases hf'
              | real _ =>
                obtain ⟨bl', r1, r2⟩ := h4.slRep (μ := muC ls μ) 0 xs.length (by omega) h2
                simp only [List.drop_zero, List.take_length, Nat.zero_mul, Nat.add_zero, Nat.sub_zero] at r1
                rw [← h2] at r1
                exact ⟨bl', r1, fun b hbb => h5 b (r2 b hbb), by simp⟩
  | sub id lo n =>
    simp only [toCell] at ht
    cases q : idx ls id with
    | some j => rw [q] at ht; cases ht
    | none =>
      rw [q] at ht
      cases hrow : s.row id with
      | none => rw [hrow] at ht; cases ht
      | some xk =>
        obtain ⟨xs, k⟩ := xk
        rw [hrow] at ht
        simp only at ht
        cases hk : (k != .mix) with
        | false => rw [hk] at ht; cases ht
        | true =>
          rw [hk, cond_true] at ht
          simp only [Option.some.injEq] at ht
          subst ht
          obtain ⟨l, h1, h2, h3⟩ := snap h hrow (by simpa using hk) q hf
          cases hr with
          | sub0 _ _ l' q2 hl hn =>
            exact ⟨[], by rw [List.take_zero]; exact .sl0 q2 0, by simp, by simp⟩
          | sub _ _ _ l' hl hreal hn =>
            rw [hl] at h1; cases h1
            rcases h3 with ⟨h3, _⟩ | ⟨h3, bl, h4, h5⟩
            · rw [hreal] at h3; cases h3
            · obtain ⟨bl', r1, r2⟩ := h4.slRep (μ := muC ls μ) lo n (by omega) h2
              exact ⟨bl', r1, fun b hbb => h5 b (r2 b hbb), by simp⟩
  | ptr id i off =>
    simp only [toCell] at ht
    cases q : idx ls id with
    | some j =>
      rw [q] at ht
      simp only [Option.some.injEq] at ht
      subst ht
      cases hr with
      | ptr _ _ _ l hl hi => exact ⟨[], .ptr j i off l (hmu q hl) hi, by simp, by simp⟩
    | none =>
      rw [q] at ht
      cases hrow : s.row id with
      | none => rw [hrow] at ht; cases ht
      | some xk =>
        obtain ⟨xs, k⟩ := xk
        rw [hrow] at ht
        simp only at ht
        cases hk : (k != .mix) with
        | false => rw [hk] at ht; cases ht
        | true =>
          rw [hk, cond_true] at ht
          simp only [Option.some.injEq] at ht
          subst ht
          obtain ⟨l, h1, h2, h3⟩ := snap h hrow (by simpa using hk) q hf
          cases hr with
          | ptr _ _ _ l' hl hi =>
            rw [hl] at h1; cases h1
            rcases h3 with ⟨h3, h4⟩ | ⟨h3, bl, h4, h5⟩
            · subst h4; simp at h2; omega
            · obtain ⟨vs, c1, c2, c3⟩ := h4.rowOf
              exact ⟨l.b :: bl, .pv xs i off l.b l.off l.sz vs bl (by omega) h4.sz h4.each c1 c2 c3, h5, by simp⟩


theorem toCells_rep (h : Sup cx s a w μ ow) {ls : List Nat} (hls : ∀ id ∈ ls, id < s.O.length) (hf : s.vw = false ∨ ∀ id ∈ ls, deepAt s id = false) : ∀ {cs cs' : List V} {vs : List Value} {bl : List Nat},
    RepL w μ cs vs bl → (∀ b ∈ bl, VOK cx ow s.vw b) → toCells s ls cs = some cs' →
    ∃ bl', RepL w (muC ls μ) cs' vs bl' ∧ (∀ b ∈ bl', owC s ls ow b = none) ∧
      ((cs.all fun c => match c with | .ref _ | .sub _ _ _ | .ptr _ _ _ | .opt _ _ | .tup _ | .agg _ | .fn _ _ => false | _ => true) = true → ∀ b ∈ bl', b ∈ bl)
  | [], cs', _, _, hr, _, ht => by
    cases hr
    simp only [toCells, Option.some.injEq] at ht
    subst ht
    exact ⟨[], .nil, by simp, by simp⟩
  | c :: cs, cs', _, _, hr, hb, ht => by
    cases hr with
    | cons _ x b1 _ xs b2 hc hrest =>
      unfold toCells at ht
      cases q1 : toCell s ls c with
      | none => rw [q1] at ht; cases ht
      | some c' =>
        cases q2 : toCells s ls cs with
        | none => rw [q1, q2] at ht; cases ht
        | some cs2 =>
          rw [q1, q2] at ht
          simp only [Option.some.injEq] at ht
          subst ht
          obtain ⟨d1, e1, e2, e3⟩ := toCell_rep h hls hf hc (fun b hbb => hb b (List.mem_append_left _ hbb)) q1
          obtain ⟨d2, g1, g2, g3⟩ := toCells_rep h hls hf hrest (fun b hbb => hb b (List.mem_append_right _ hbb)) q2
          refine ⟨d1 ++ d2, .cons _ _ _ _ _ _ e1 g1, fun b hbb => (List.mem_append.1 hbb).elim (e2 b) (g2 b), fun hall b hbb => ?_⟩
          rw [List.all_cons, Bool.and_eq_true] at hall
          rcases List.mem_append.1 hbb with q | q
          · refine List.mem_append_left _ (e3 ?_ b q)
            have := hall.1
            cases c <;> first | rfl | (simp at this; done)
          · exact List.mem_append_right _ (g3 hall.2 b q)

theorem toArg_rep (h : Sup cx s a w μ ow) {ls : List Nat} (hls : ∀ id ∈ ls, id < s.O.length) (hf : s.vw = false ∨ ∀ id ∈ ls, deepAt s id = false) {v v' : V} {x : Value} {bl : List Nat}
    (hr : Rep w μ v x bl) (hb : ∀ b ∈ bl, VOK cx ow s.vw b) (ht : toArg s ls v = some v') :
    ∃ bl', Rep w (muC ls μ) v' x bl' ∧ (∀ b ∈ bl', owC s ls ow b = none) ∧ (v.cold = true → ∀ b ∈ bl', b ∈ bl) := by
  have plain : toCell s ls v = some v' → (∀ cs, v ≠ .agg cs) → (∀ f cs, v ≠ .fn f cs) → ∃ bl', Rep w (muC ls μ) v' x bl' ∧ (∀ b ∈ bl', owC s ls ow b = none) ∧ (v.cold = true → ∀ b ∈ bl', b ∈ bl) := by
    intro q n1 n2
    obtain ⟨bl', r1, r2, r3⟩ := toCell_rep h hls hf hr hb q
    refine ⟨bl', r1, r2, fun hc => r3 ?_⟩
    cases v <;> first | rfl | (simp [V.cold] at hc; done)
  cases v with
  | agg cs =>
    simp only [toArg, Option.map_eq_some_iff] at ht
    obtain ⟨cs', q, rfl⟩ := ht
    cases hr with
    | agg _ vs _ hl h1 =>
      obtain ⟨bl', r1, r2, r3⟩ := toCells_rep h hls hf hl hb q
      exact ⟨bl', .agg _ _ _ r1 h1, r2, r3⟩
  | fn f cs =>
    simp only [toArg, Option.map_eq_some_iff] at ht
    obtain ⟨cs', q, rfl⟩ := ht
    cases hr with
    | fn _ _ vs _ hl =>
      obtain ⟨bl', r1, r2, r3⟩ := toCells_rep h hls hf hl hb q
      exact ⟨bl', .fn _ _ _ _ r1, r2, r3⟩
  | ptr id i off =>
    cases i with
    | succ i => exact plain (by simpa [toArg] using ht) (by simp) (by simp)
    | zero =>
      cases q : toCell s ls (.ptr id 0 off) with
      | some v2 =>
        simp only [toArg, q, Option.some.injEq] at ht
        subst ht
        exact plain q (by simp) (by simp)
      | none =>
        simp only [toArg, q] at ht
        split at ht
        · rename_i cs kd hrow
          simp only [Option.map_eq_some_iff] at ht
          obtain ⟨cs', q2, rfl⟩ := ht
          have hkd : kd = .mix := by
            cases e : (kd != .mix) with
            | false => simpa using e
            | true => simp [toCell, idx, hrow, e] at q
          subst hkd
          have hno : ∀ b, owC s [] ow b = none := by
            intro b
            cases e : owC s [] ow b with
            | none => rfl
            | some z =>
              obtain ⟨_, _, _, _, e2, _⟩ := owC_ne (s := s) (ow := ow) (ls := []) (b := b) (by rw [e]; simp)
              simp [idx] at e2
          have hM : muC [] μ = M0 := by funext j; simp [muC, M0]
          obtain ⟨l, h1, h2, h3⟩ := h.row hrow
          cases hr with
          | ptr _ _ _ l' hl hi =>
            rw [hl] at h1
            obtain rfl := Option.some.inj h1
            rcases h3 with ⟨_, h3⟩ | ⟨h3, h4, bl, h5, h6, h7⟩
            · cases h3
            · obtain ⟨vs, c1, c2, c3⟩ := h5.rowOf
              have c1' : RepL w μ cs vs bl := by
                have q9 : RepL w (Kd.mix.mu μ) cs vs bl := by simpa [V.cells] using c1
                exact q9
              have hcl := h5.each _ (List.mem_cons_self ..)
              obtain ⟨bl2, g1, g2, _⟩ := toCells_rep (ls := []) h (by simp) (.inr (by simp)) c1' h6 q2
              rw [hM] at g1
              have hc2 : cs'.length = cs.length := by have := g1.length; have := c1'.length; omega
              have hpv := fun b o sz (hz : (V.agg cs').cells.length = sz) (hs : 0 < sz) (hrow : Row w b o vs) => Rep.pv (w := w) (μ := muC [] μ) [.agg cs'] 0 off b o sz vs bl2 (by simp) hs (by
                intro y hy; simp at hy; subst hy; exact hz) (by simpa [V.cells] using g1) c2 hrow
              exact ⟨_, hpv _ _ _ (by simp only [V.cells] at hcl ⊢; omega) h5.sz c3, fun b _ => hno b, by simp [V.cold]⟩
        · cases ht
  | _ => exact plain (by simpa [toArg] using ht) (by simp) (by simp)

end
end Go.Vm
