/- The value machine, part 7: slice expressions, min and max, literals of structs. -/
import Derived.Test.YtciapcamhocmcaaVm6
set_option linter.unusedSimpArgs false
set_option linter.unusedVariables false
namespace Go.Vm
open Go

theorem flatMap_take : ∀ (xs : List V) (sz : Nat) (_ : ∀ x ∈ xs, x.cells.length = sz) (n : Nat), (xs.take n).flatMap V.cells = (xs.flatMap V.cells).take (n * sz)
  | [], _, _, n => by simp
  | x :: xs, sz, hz, 0 => by simp
  | x :: xs, sz, hz, n + 1 => by
    have hx := hz x (List.mem_cons_self ..)
    have e : (n + 1) * sz = x.cells.length + n * sz := by rw [hx, Nat.add_mul]; omega
    rw [List.take_succ_cons, List.flatMap_cons, List.flatMap_cons, flatMap_take xs sz (fun y hy => hz y (List.mem_cons_of_mem _ hy)) n, e, List.take_length_add_append]

theorem flatMap_drop : ∀ (xs : List V) (sz : Nat) (_ : ∀ x ∈ xs, x.cells.length = sz) (n : Nat), (xs.drop n).flatMap V.cells = (xs.flatMap V.cells).drop (n * sz)
  | [], _, _, n => by simp
  | x :: xs, sz, hz, 0 => by simp
  | x :: xs, sz, hz, n + 1 => by
    have hx := hz x (List.mem_cons_self ..)
    have e : (n + 1) * sz = x.cells.length + n * sz := by rw [hx, Nat.add_mul]; omega
    rw [List.drop_succ_cons, List.flatMap_cons, flatMap_drop xs sz (fun y hy => hz y (List.mem_cons_of_mem _ hy)) n, e, ← List.drop_drop, List.drop_left]

section
variable {P : Program} {cx : Cx} {s : St} {nid : Nat} {a : Act} {w : World} {μ : Nat → Option Loc} {ow : Ow} {o : Oper} {K : KV}

/-- A bound as the model reads it. -/
def BoundOf (d : Int) (v : Option Value) (n : Int) : Prop := (v = none ∧ n = d) ∨ ∃ k, v = some (.int k n)

theorem bound_of (h : Sup cx s a w μ ow) (d : Int) (x : Option Operand) (n : Int) (hg : ∀ y, x = some y → (s.ev y).gd = true) (hb : bound d (x.map fun y => (s.ev y).un) = some n) : BoundOf d (x.map a.eval) n := by
  cases x with
  | none => left; simpa [bound, eq_comm] using hb
  | some y =>
    right
    obtain ⟨_, r, _⟩ := h.evu y (hg y rfl)
    simp only [Option.map_some] at hb ⊢
    generalize (s.ev y).un = v at *
    cases v <;> simp [bound] at hb
    subst hb
    exact ⟨_, congrArg some r.int_inv⟩

theorem run_bounds {isSlice : Bool} {len cap : Nat} {lo hi : Option Value} {l h : Int} (hl : BoundOf 0 lo l) (hh : BoundOf len hi h) (h0 : 0 ≤ l) (h1 : l ≤ h) (h2 : h ≤ cap) :
    (Instr.sliceBounds isSlice len cap lo hi none).run P w = .ok (l.toNat, h.toNat, cap) w := by
  rcases hl with ⟨rfl, rfl⟩ | ⟨k, rfl⟩ <;> rcases hh with ⟨rfl, rfl⟩ | ⟨k', rfl⟩
  · simp [Instr.sliceBounds]
  · have e := fun code => run_sliceBound (P := P) w k' h cap code (by omega) h2
    simp [Instr.sliceBounds, e]
  · have e := fun code => run_sliceBound (P := P) w k l len code h0 (by omega)
    simp [Instr.sliceBounds, e]
  · have e := fun code => run_sliceBound (P := P) w k' h cap code (by omega) h2
    have e2 := fun code => run_sliceBound (P := P) w k l h.toNat code h0 (by omega)
    simp [Instr.sliceBounds, e, e2]

theorem run_sliceS {t e : TypeId} {ad : Option Addr} {len cap : Nat} {lo hi : Option Value} {l h : Int} (ht : P.underlying t = some (.slice e)) (hp : 0 < P.cellsOf e)
    (hl : BoundOf 0 lo l) (hh : BoundOf len hi h) (h0 : 0 ≤ l) (h1 : l ≤ h) (h2 : h ≤ cap) :
    (Instr.sliceAt t (.slice ad len cap) lo hi none).run P w = .ok (.slice (if cap = l.toNat then ad else ad.map (·.add (l.toNat * P.cellsOf e))) (h.toNat - l.toNat) (cap - l.toNat)) w := by
  simp only [Instr.sliceAt, Instr.slice, Sem.run_bind, run_underlying ht, Result.andThen_ok, run_bounds hl hh h0 h1 h2, run_sizeOf hp, Sem.run_pure]

theorem run_sliceStr {t : TypeId} {b : ByteArray} {lo hi : Option Value} {l h : Int} (ht : P.underlying t = some .string)
    (hl : BoundOf 0 lo l) (hh : BoundOf b.size hi h) (h0 : 0 ≤ l) (h1 : l ≤ h) (h2 : h ≤ b.size) :
    (Instr.sliceAt t (.string b) lo hi none).run P w = .ok (.string (b.extract l.toNat h.toNat)) w := by
  have hb := run_bounds (P := P) (w := w) (isSlice := false) (len := b.size) (cap := b.size) hl hh h0 h1 h2
  simp [Instr.sliceAt, Instr.slice, Sem.run_bind, run_underlying ht, hb]

theorem slice_sound (h : Sup cx s a w μ ow) (t : TypeId) (x : Operand) (lo hi : Option Operand) (ho : o.op = .slice t x lo hi none) (hg : (s.ev x).gd = true)
    (hgl : ∀ y, lo = some y → (s.ev y).gd = true) (hgh : ∀ y, hi = some y → (s.ev y).gd = true)
    (hk : aSlice P s t true K (s.ev x).un (lo.map fun y => (s.ev y).un) (hi.map fun y => (s.ev y).un)) : QV P cx s nid w μ ow o a K := by
  obtain ⟨bx, rx, hb⟩ := h.evu x hg
  have hlo := fun d n => bound_of h d lo n hgl
  have hhi := fun d n => bound_of h d hi n hgh
  have fin : ∀ {v : Value} {val : V} {bl : List Nat}, (Instr.sliceAt t (a.eval x) (lo.map a.eval) (hi.map a.eval) none).run P w = .ok v w → Rep w μ val v bl → (∀ b ∈ bl, VOK cx ow s.vw b) → K val [] s.vw → QV P cx s nid w μ ow o a K :=
    fun h1 h2 h3 h4 => QV.pure h (run_op_v (by unfold execOp; rw [ho]; rfl) h1) h2 h3 (fun q => q) h4
  generalize (s.ev x).un = vx at *
  generalize (lo.map fun y => (s.ev y).un) = vlo at *
  generalize (hi.map fun y => (s.ev y).un) = vhi at *
  generalize lo.map a.eval = alo at *
  generalize hi.map a.eval = ahi at *
  generalize hax : a.eval x = ax at *
  unfold aSlice at hk
  split at hk
  · rename_i b
    obtain ⟨ht, hk⟩ := hk
    split at hk
    · rename_i l h' e1 e2
      obtain ⟨hc, hk⟩ := hk
      obtain ⟨h0, h1, h2⟩ := hc rfl
      have := rx.str_inv
      subst this
      exact fin (run_sliceStr ht (hlo _ _ e1) (hhi _ _ e2) h0 h1 h2) (.str _) (by simp) hk
    · exact hk.elim
  · rename_i xs
    obtain ⟨⟨e, ht, hp, hc⟩, hk⟩ := hk
    split at hk
    · rename_i l h' e1 e2
      obtain ⟨hc', hk⟩ := hk
      obtain ⟨h0, h1, h2⟩ := hc' rfl
      cases rx with
      | sl0 q c =>
        have hb2 : BoundOf ((0 : Nat) : Int) ahi h' := by have := hhi _ _ e2; simpa using this
        have hh0 : h' = 0 := by simp at h2; omega
        have hl0 : l = 0 := by omega
        refine fin (run_sliceS ht hp (hlo _ _ e1) hb2 h0 h1 (by omega)) ?_ (bl := []) (by simp) hk
        subst hh0; subst hl0
        simp only [List.take_nil, List.drop_nil]
        exact .sl0 _ _
      | sl _ b off c sz vs bl hne hcap hs hz hl hone hr =>
        have hes : sz = P.cellsOf e := by
          cases xs with
          | nil => exact absurd rfl hne
          | cons y ys => rw [← hz y (List.mem_cons_self ..), hc y (List.mem_cons_self ..)]
        have hrun := run_sliceS (P := P) (w := w) (ad := some ⟨b, off, none⟩) (cap := c) ht hp (hlo _ _ e1) (hhi _ _ e2) h0 h1 (by omega)
        by_cases hlt : l < h'
        · rw [if_neg (by omega)] at hrun
          simp only [Option.map_some, Addr.add_none] at hrun
          have hlen : ((xs.take h'.toNat).drop l.toNat).length = h'.toNat - l.toNat := by rw [List.length_drop, List.length_take, Nat.min_eq_left (by omega)]
          obtain ⟨b', p1, p2⟩ := hl.part (l.toNat * sz) ((h'.toNat - l.toNat) * sz)
          refine fin hrun (bl := b :: b') ?_ ?_ hk
          · have hflat : ((xs.take h'.toNat).drop l.toNat).flatMap V.cells = ((xs.flatMap V.cells).drop (l.toNat * sz)).take ((h'.toNat - l.toNat) * sz) := by
              rw [flatMap_drop _ sz (fun y hy => hz y (List.mem_of_mem_take hy)), flatMap_take _ sz hz, List.drop_take]
              congr 1
              rw [Nat.sub_mul]
            have := Rep.sl (w := w) (μ := μ) ((xs.take h'.toNat).drop l.toNat) b (off + l.toNat * sz) (c - l.toNat) sz ((vs.drop (l.toNat * sz)).take ((h'.toNat - l.toNat) * sz)) b'
              (by intro e; rw [e] at hlen; simp at hlen; omega) ⟨by rw [hlen]; have := hcap.1; omega, hcap.2.le (by have := hcap.1; have e : l.toNat * sz + (c - l.toNat) * sz = c * sz := by { rw [← Nat.add_mul]; congr 1; omega }; omega)⟩ hs (fun y hy => hz y (List.mem_of_mem_take (List.mem_of_mem_drop hy))) (by rw [hflat]; exact p1)
              (fun y hy => hone y (List.mem_of_mem_drop (List.mem_of_mem_take hy)))
              (by
                intro j y hj
                have hjl : j < (h'.toNat - l.toNat) * sz := by
                  rcases Nat.lt_or_ge j ((h'.toNat - l.toNat) * sz) with q | q
                  · exact q
                  · rw [List.getElem?_eq_none (by rw [List.length_take]; omega)] at hj; cases hj
                rw [List.getElem?_take_of_lt hjl, List.getElem?_drop] at hj
                rw [Nat.add_assoc]
                exact hr _ y hj)
            rw [hlen] at this
            rw [← hes]
            exact this
          · intro y hy
            cases List.mem_cons.1 hy with
            | inl q => subst q; exact hb _ (List.mem_cons_self ..)
            | inr q => exact hb _ (List.mem_cons_of_mem _ (p2 y q))
        · have heq : h'.toNat - l.toNat = 0 := by omega
          rw [heq] at hrun
          refine fin hrun (bl := []) ?_ (by simp) hk
          have : (xs.take h'.toNat).drop l.toNat = [] := List.drop_of_length_le (by rw [List.length_take]; omega)
          rw [this]
          exact .sl0 _ _
    · exact hk.elim
  · rename_i id
    cases hrow : s.row id with
    | none => rw [hrow] at hk; exact hk.elim
    | some xk =>
      obtain ⟨xs, kd⟩ := xk
      rw [hrow] at hk
      obtain ⟨⟨e, ht, hp, hc⟩, hk⟩ := hk
      split at hk
      · rename_i l h' e1 e2
        obtain ⟨hc', hk⟩ := hk
        obtain ⟨h0, h1, h2⟩ := hc' rfl
        obtain ⟨l', q1, q2, q3⟩ := h.row hrow
        cases rx with
        | ref _ loc _ hloc hd =>
          rw [hloc] at q1; cases q1
          cases hd with
          | nil q hf hn0 =>
            have hx0 : xs.length = 0 := by omega
            have hh0 : h' = 0 := by omega
            have hl0 : l = 0 := by omega
            have hb2 : BoundOf ((0 : Nat) : Int) ahi h' := by have := hhi _ _ e2; rwa [hx0] at this
            refine fin (run_sliceS (cap := 0) ht hp (hlo _ _ e1) hb2 h0 h1 (by omega)) (bl := []) ?_ (by simp) hk
            subst hh0; subst hl0
            exact .sub0 id 0 l' _ hloc (by omega)
          | real hreal =>
            have hb2 : BoundOf ((l'.n : Nat) : Int) ahi h' := by have := hhi _ _ e2; rwa [← q2] at this
            rcases q3 with ⟨q3, _⟩ | ⟨q3, q4, bl, q5, q6, q7⟩
            · rw [hreal] at q3; cases q3
            · have hle := q5.le
              refine fin (run_sliceS ht hp (hlo _ _ e1) hb2 h0 h1 (by omega)) (bl := []) ?_ (by simp) hk
              by_cases hce : l'.cap = l.toNat
              · rw [if_pos hce]
                have h3 : h'.toNat - l.toNat = 0 := by omega
                have h4 : l'.cap - l.toNat = 0 := by omega
                rw [h3, h4]
                exact .sub0 id _ l' _ hloc (by omega)
              · rw [if_neg hce]
                simp only [Option.map_some, Addr.add_none]
                have hpos : 0 < xs.length ∨ xs.length = 0 := by omega
                rcases hpos with hpos | hpos
                · have hes : l'.sz = P.cellsOf e := sizeOf_pos q5.each hpos hc
                  rw [← hes]
                  exact .sub id l.toNat (h'.toNat - l.toNat) l' hloc q3 (by omega)
                · have h5 : l = 0 := by omega
                  have h6 : h' = 0 := by omega
                  subst h5; subst h6
                  simp only [Int.toNat_zero, Nat.zero_mul, Nat.add_zero, Nat.sub_zero]
                  have := Rep.sub (w := w) (μ := μ) id 0 0 l' hloc q3 (by omega)
                  simpa using this
      · exact hk.elim
  · rename_i id lo0 n
    cases hrow : s.row id with
    | none => rw [hrow] at hk; exact hk.elim
    | some xk =>
      obtain ⟨xs, kd⟩ := xk
      rw [hrow] at hk
      obtain ⟨⟨e, ht, hp, hc⟩, hk⟩ := hk
      split at hk
      · rename_i l h' e1 e2
        obtain ⟨hc', hk⟩ := hk
        obtain ⟨h0, h1, h2⟩ := hc' rfl
        obtain ⟨l', q1, q2, q3⟩ := h.row hrow
        cases rx with
        | sub0 _ _ loc q hloc hn =>
          rw [hloc] at q1; cases q1
          have hh0 : h' = 0 := by omega
          have hl0 : l = 0 := by omega
          refine fin (run_sliceS (cap := 0) ht hp (hlo _ _ e1) (by simpa using hhi _ _ e2) h0 h1 (by omega)) (bl := []) ?_ (by simp) hk
          subst hh0; subst hl0
          exact .sub0 id _ l' _ hloc (by simpa using hn)
        | sub _ _ _ loc hloc hreal hn =>
          rw [hloc] at q1; cases q1
          rcases q3 with ⟨q3, _⟩ | ⟨q3, q4, bl, q5, q6, q7⟩
          · rw [hreal] at q3; cases q3
          · have hle := q5.le
            refine fin (run_sliceS ht hp (hlo _ _ e1) (hhi _ _ e2) h0 h1 (by omega)) (bl := []) ?_ (by simp) hk
            by_cases hce : l'.cap - lo0 = l.toNat
            · rw [if_pos hce]
              have h3 : h'.toNat - l.toNat = 0 := by omega
              have h4 : l'.cap - lo0 - l.toNat = 0 := by omega
              rw [h3, h4]
              exact .sub0 id _ l' _ hloc (by omega)
            · rw [if_neg hce]
              simp only [Option.map_some, Addr.add_none]
              have hpos : 0 < xs.length ∨ xs.length = 0 := by omega
              rcases hpos with hpos | hpos
              · have hes : l'.sz = P.cellsOf e := sizeOf_pos q5.each hpos hc
                rw [← hes]
                have := Rep.sub (w := w) (μ := μ) id (lo0 + l.toNat) (h'.toNat - l.toNat) l' hloc q3 (by omega)
                rwa [Nat.add_mul, ← Nat.add_assoc, ← Nat.sub_sub] at this
              · have h5 : l = 0 := by omega
                have h6 : h' = 0 := by omega
                have h7 : lo0 = 0 := by omega
                subst h5; subst h6; subst h7
                have := Rep.sub (w := w) (μ := μ) id 0 0 l' hloc q3 (by omega)
                simpa using this
      · exact hk.elim
  · exact hk.elim

theorem minmax_sound (mx : Bool) (h : Sup cx s a w μ ow) (c : Call) (ho : o.op = .call c) (hcal : c.callee = .builtin (if mx then .max else .min)) (hg : ∀ x ∈ c.args.toList, (s.ev x).gd = true)
    (hk : aMinMax mx s.vw K (c.args.toList.map fun x => (s.ev x).un)) : QV P cx s nid w μ ow o a K := by
  obtain ⟨callee, args, tys⟩ := c
  obtain ⟨l⟩ := args
  simp only at hcal hg hk
  cases l with
  | nil => simp [aMinMax] at hk
  | cons x l =>
    cases l with
    | nil => simp [aMinMax] at hk
    | cons y l =>
      cases l with
      | cons z l => simp [aMinMax] at hk
      | nil =>
        obtain ⟨_, rx, _⟩ := h.evu x (hg x (by simp))
        obtain ⟨_, ry, _⟩ := h.evu y (hg y (by simp))
        simp only [List.map_cons, List.map_nil] at hk
        generalize (s.ev x).un = vx at *
        generalize (s.ev y).un = vy at *
        unfold aMinMax at hk
        split at hk
        · rename_i k m k' n heq
          simp only [List.cons.injEq, and_true] at heq
          obtain ⟨rfl, rfl⟩ := heq
          obtain ⟨rfl, hk⟩ := hk
          have e1 := rx.int_inv
          have e2 := ry.int_inv
          refine QV.pure (v := .int k (if mx then (if n > m then n else m) else (if n < m then n else m))) h ?_ (.int _ _) (by simp) (fun q => q) hk
          unfold execOp
          rw [ho]
          subst hcal
          cases mx <;> simp [resolve, invoke, builtin, e1, e2, Builtin.max_, Builtin.min_, Builtin.max2, Builtin.min2]
        · exact hk.elim


theorem fill_rep (places : Nat → Option (Nat × Nat)) {cx : Cx} {ow : Ow} {vw : Bool} : ∀ (ps : List (Nat × V)) (vs : List (Nat × Value)) (cs : List V) (cells : Array Value) (bl : List Nat) (cs' : List V),
    ps.map (·.1) = vs.map (·.1) → (∀ (j : Nat) (p : Nat × V) (v : Nat × Value), ps[j]? = some p → vs[j]? = some v → p.2.isVal = true ∧ ∃ b, Rep w μ p.2 v.2 b ∧ ∀ y ∈ b, VOK cx ow vw y) →
    RepL w μ cs cells.toList bl → (∀ b ∈ bl, VOK cx ow vw b) → (∀ c ∈ cells.toList, c.oneCell' = true) → fillV places cs ps = some cs' →
    ∃ cells' bl', Instr.fill places cells vs = some cells' ∧ RepL w μ cs' cells'.toList bl' ∧ (∀ b ∈ bl', VOK cx ow vw b) ∧ ∀ c ∈ cells'.toList, c.oneCell' = true
  | [], [], cs, cells, bl, cs', _, _, hr, hb, h1, hf => by
    simp only [fillV, Option.some.injEq] at hf
    subst hf
    exact ⟨cells, bl, rfl, hr, hb, h1⟩
  | [], v :: vs, _, _, _, _, e, _, _, _, _, _ => by simp at e
  | p :: ps, [], _, _, _, _, e, _, _, _, _, _ => by simp at e
  | (i, x) :: ps, (i', v) :: vs, cs, cells, bl, cs', e, hrep, hr, hb, h1, hf => by
    simp only [List.map_cons, List.cons.injEq] at e
    obtain ⟨rfl, e⟩ := e
    obtain ⟨hv, bx, rx, vx⟩ := hrep 0 (i, x) (i, v) rfl rfl
    unfold fillV at hf
    cases hpl : places i with
    | none => rw [hpl] at hf; cases hf
    | some q =>
      obtain ⟨off, size⟩ := q
      rw [hpl] at hf
      simp only at hf
      split at hf
      · rename_i hsz
        obtain ⟨c1, c2⟩ := rx.cells hv
        have hlen := hr.length
        have hxl := c1.length
        simp only [Array.length_toList] at hlen hxl
        have hle : off + v.cells.size ≤ cells.size := by omega
        have hsg := seg cells off v.cells hle
        obtain ⟨b1, t1, t2⟩ := hr.take off
        obtain ⟨b2, d1, d2⟩ := hr.drop (off + size)
        have hnew : RepL w μ (cs.take off ++ x.cells ++ cs.drop (off + size)) (v.cells.zipIdx.foldl (init := cells) fun cs (c, j) => cs.setIfInBounds (off + j) c).toList (b1 ++ bx ++ b2) := by
          rw [hsg, show off + v.cells.size = off + size by omega]
          exact (t1.append c1).append d1
        have hone : ∀ c ∈ (v.cells.zipIdx.foldl (init := cells) fun cs (c, j) => cs.setIfInBounds (off + j) c).toList, c.oneCell' = true := by
          intro c hc
          rw [hsg, List.mem_append, List.mem_append] at hc
          rcases hc with (hc | hc) | hc
          · exact h1 c (List.mem_of_mem_take hc)
          · exact c2 c hc
          · exact h1 c (List.mem_of_mem_drop hc)
        obtain ⟨cells', bl', f1, f2, f3, f4⟩ := fill_rep places ps vs _ _ _ cs' e (fun j p v h2 h3 => hrep (j + 1) p v (by simpa using h2) (by simpa using h3)) hnew
          (fun b hbb => by
            rw [List.mem_append, List.mem_append] at hbb
            rcases hbb with (q | q) | q
            · exact hb b (t2 b q)
            · exact vx b q
            · exact hb b (d2 b q)) hone hf
        refine ⟨cells', bl', ?_, f2, f3, f4⟩
        unfold Instr.fill
        rw [hpl]
        have c3 : (v.cells.size ≠ size || off + v.cells.size > cells.size) = false := by
          have : v.cells.size = size := by omega
          simp [this]; omega
        simp only [c3, Bool.false_eq_true, if_false]
        exact f1
      · cases hf

theorem build_sound (h : Sup cx s a w μ ow) (T : TypeId) (ps : Array (Nat × Operand)) (fs : Array Field) (z : Value) (cs : List V) (ho : o.op = .build T ps) (hu : P.underlying T = some (.struct fs))
    (hz : Program.zeroOf P T = some z) (hf : fillV (fun i => (fs[i]?).map fun f => (f.offset, P.cellsOf f.type)) (V.ofValue z).cells (ps.toList.map fun p => (p.1, (s.ev p.2).un)) = some cs)
    (hp : ∀ f ∈ fs.toList, 0 < P.cellsOf f.type) (hv : (V.ofValue z).isVal = true) (hg : ∀ p ∈ ps.toList, (s.ev p.2).gd = true ∧ (s.ev p.2).un.isVal = true) (hk : K (.agg cs) [] s.vw) : QV P cx s nid w μ ow o a K := by
  have rz := Rep.ofValue (w := w) (μ := μ) z
  obtain ⟨z1, z2⟩ := rz.cells hv
  obtain ⟨cells', bl', f1, f2, f3, f4⟩ := fill_rep (cx := cx) (ow := ow) (vw := s.vw) _ _ (ps.toList.map fun p => (p.1, a.eval p.2)) _ z.cells [] cs (by simp)
    (by
      intro j p v h1 h2
      rw [List.getElem?_map] at h1 h2
      cases q : ps.toList[j]? with
      | none => rw [q] at h1; cases h1
      | some x =>
        rw [q] at h1 h2
        simp only [Option.map_some, Option.some.injEq] at h1 h2
        subst h1; subst h2
        have hx := hg x (List.mem_of_getElem? q)
        obtain ⟨b, r1, r2⟩ := h.evu x.2 hx.1
        exact ⟨hx.2, b, r1, r2⟩) z1 (by simp) z2 hf
  have hplaces : fs.toList.mapM (fun f => (P.info? f.type).map fun i => (f.offset, i.size)) = some (fs.toList.map fun f => (f.offset, P.cellsOf f.type)) := by
    generalize fs.toList = L at hp
    induction L with
    | nil => rfl
    | cons f L ih =>
      obtain ⟨i, h1, h2⟩ := info_of_cells (hp f (List.mem_cons_self ..))
      have := ih fun g hg => hp g (List.mem_cons_of_mem _ hg)
      rw [List.mapM_cons, this, h1]
      simp [h2]
  have hit : ∃ it, P.info? T = some it ∧ it.zero = some z := by
    unfold Program.zeroOf at hz
    cases q : P.info? T with
    | none => simp [q] at hz
    | some it => exact ⟨it, rfl, by simpa [q] using hz⟩
  obtain ⟨it, hi1, hi2⟩ := hit
  have hbuilt : P.built T (ps.map fun p => (p.1, a.eval p.2)).toList = some cells' := by
    unfold Program.built
    rw [hi1, hu]
    simp only [hi2, hplaces, Array.toList_map]
    have hfun : (fun (i : Nat) => ((fs.toList.map fun f => (f.offset, P.cellsOf f.type)).toArray[i]? : Option (Nat × Nat))) = fun i => (fs[i]?).map fun (f : Field) => (f.offset, P.cellsOf f.type) := by
      funext i
      simp
    rw [hfun]
    exact f1
  refine QV.pure (v := .agg cells') (bl := bl') h (run_op_v (by unfold execOp; rw [ho]) (run_build w T _ cells' hbuilt)) ?_ f3 (fun q => q) hk
  have := Rep.agg _ _ _ f2 f4
  simpa using this

end
end Go.Vm
