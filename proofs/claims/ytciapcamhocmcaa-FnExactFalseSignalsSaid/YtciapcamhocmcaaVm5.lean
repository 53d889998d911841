/- The value machine, part 5: the operations that look into memory or make some. -/
import Derived.Test.YtciapcamhocmcaaVm4
set_option linter.unusedSimpArgs false
set_option linter.unusedVariables false
namespace Go.Vm
open Go

theorem Addr.add_none (b off n : Nat) : (⟨b, off, none⟩ : Addr).add n = ⟨b, off + n, none⟩ := by
  unfold Addr.add
  split
  · rename_i h; subst h; rfl
  · rfl

theorem RepL.drop {w : World} {μ : Nat → Option Loc} : ∀ {cs : List V} {vs : List Value} {bl : List Nat}, RepL w μ cs vs bl → ∀ o : Nat,
    ∃ b', RepL w μ (cs.drop o) (vs.drop o) b' ∧ ∀ b ∈ b', b ∈ bl
  | _, _, _, .nil, o => ⟨[], by simpa using RepL.nil, by simp⟩
  | _, _, _, .cons v x bl vs xs bl' h ht, 0 => ⟨bl ++ bl', .cons v x bl vs xs bl' h ht, fun _ h => h⟩
  | _, _, _, .cons v x bl vs xs bl' h ht, o + 1 =>
    let ⟨b', h1, h2⟩ := ht.drop o
    ⟨b', h1, fun b hb => List.mem_append_right _ (h2 b hb)⟩

theorem RepL.take {w : World} {μ : Nat → Option Loc} : ∀ {cs : List V} {vs : List Value} {bl : List Nat}, RepL w μ cs vs bl → ∀ n : Nat,
    ∃ b', RepL w μ (cs.take n) (vs.take n) b' ∧ ∀ b ∈ b', b ∈ bl
  | _, _, _, .nil, n => ⟨[], by simpa using RepL.nil, by simp⟩
  | _, _, _, .cons v x bl vs xs bl' h ht, 0 => ⟨[], .nil, by simp⟩
  | _, _, _, .cons v x bl vs xs bl' h ht, n + 1 =>
    let ⟨b', h1, h2⟩ := ht.take n
    ⟨bl ++ b', .cons v x bl _ _ b' h h1, fun b hb => (List.mem_append.1 hb).elim (fun q => List.mem_append_left _ q) (fun q => List.mem_append_right _ (h2 b q))⟩

theorem RepL.part {w : World} {μ : Nat → Option Loc} {cs : List V} {vs : List Value} {bl : List Nat} (h : RepL w μ cs vs bl) (o n : Nat) :
    ∃ b', RepL w μ ((cs.drop o).take n) ((vs.drop o).take n) b' ∧ ∀ b ∈ b', b ∈ bl :=
  let ⟨b1, h1, k1⟩ := h.drop o
  let ⟨b2, h2, k2⟩ := h1.take n
  ⟨b2, h2, fun b hb => k1 b (k2 b hb)⟩

theorem flatMap_elem : ∀ (xs : List V) (sz : Nat) (_ : ∀ x ∈ xs, x.cells.length = sz) (i : Nat), i < xs.length →
    ((xs.flatMap V.cells).drop (i * sz)).take sz = (xs.getD i .any).cells
  | [], _, _, i, hi => by simp at hi
  | x :: xs, sz, hz, 0, _ => by
    have hx := hz x (List.mem_cons_self ..)
    simp [List.flatMap_cons, ← hx]
  | x :: xs, sz, hz, i + 1, hi => by
    have hx := hz x (List.mem_cons_self ..)
    have ih := flatMap_elem xs sz (fun y hy => hz y (List.mem_cons_of_mem _ hy)) i (by simpa using hi)
    have e : (i + 1) * sz = x.cells.length + i * sz := by rw [hx, Nat.add_mul]; omega
    rw [List.flatMap_cons, e, ← List.drop_drop, List.drop_left]
    simpa using ih

theorem flatMap_len : ∀ (xs : List V) (sz : Nat) (_ : ∀ x ∈ xs, x.cells.length = sz), (xs.flatMap V.cells).length = xs.length * sz
  | [], _, _ => by simp
  | x :: xs, sz, hz => by
    rw [List.flatMap_cons, List.length_append, hz x (List.mem_cons_self ..), flatMap_len xs sz fun y hy => hz y (List.mem_cons_of_mem _ hy), List.length_cons, Nat.add_mul]
    omega

theorem take_drop_drop {α : Type} (l : List α) (o n k m : Nat) (h : k + m ≤ n) : (((l.drop o).take n).drop k).take m = (l.drop (o + k)).take m := by
  rw [List.drop_take, List.take_take, List.drop_drop, Nat.min_eq_left (by omega)]

section
variable {P : Program} {cx : Cx} {s : St} {nid : Nat} {a : Act} {w : World} {μ : Nat → Option Loc} {ow : Ow} {o : Oper} {K : KV}

theorem info_of_cells {T : TypeId} (h : 0 < P.cellsOf T) : ∃ i, P.info? T = some i ∧ i.size = P.cellsOf T := by
  unfold Program.cellsOf at *
  cases e : P.info? T with
  | none => simp [e] at h
  | some i => exact ⟨i, rfl, by simp⟩

theorem run_isAgg {T : TypeId} (h : (P.underlying T).isSome = true) : (isAgg T).run P w = .ok (Program.isAggT P T) w := by
  obtain ⟨d, hd⟩ := Option.isSome_iff_exists.1 h
  unfold isAgg
  rw [Sem.run_bind, run_underlying hd w]
  unfold Program.isAggT
  rw [hd]
  cases d <;> rfl

theorem run_sizeOf {T : TypeId} (h : 0 < P.cellsOf T) : (sizeOf T).run P w = .ok (P.cellsOf T) w := by
  obtain ⟨i, h1, h2⟩ := info_of_cells h
  simp [sizeOf, typeInfo, h1, h2]

/-- A part of an element, read. -/
theorem load_row {xs : List V} {sz : Nat} {vs : List Value} {bl : List Nat} {b base i off : Nat} {T : TypeId} (hi : i < xs.length) (hz : ∀ x ∈ xs, x.cells.length = sz)
    (hl : RepL w μ (xs.flatMap V.cells) vs bl) (h1 : ∀ x ∈ vs, x.oneCell' = true) (hr : Row w b base vs) (hT : PartOK P T (xs.getD i .any).cells.length off) :
    ∃ v b', (Instr.loadAt T (.pointer (some ⟨b, base + (i * sz + off), none⟩))).run P w = .ok v w ∧ Rep w μ (part P T (xs.getD i .any) off) v b' ∧ ∀ y ∈ b', y ∈ bl := by
  obtain ⟨hs, hpos, hle⟩ := hT
  have hxlen : (xs.getD i .any).cells.length = sz := hz _ (by simp [hi])
  have hcut : ((xs.flatMap V.cells).drop (i * sz + off)).take (P.cellsOf T) = ((xs.getD i .any).cells.drop off).take (P.cellsOf T) := by
    rw [← flatMap_elem xs sz hz i hi, take_drop_drop _ _ _ _ _ (by omega)]
  obtain ⟨b', hp, hb⟩ := hl.part (i * sz + off) (P.cellsOf T)
  rw [hcut] at hp
  have hlen : ((vs.drop (i * sz + off)).take (P.cellsOf T)).length = P.cellsOf T := by
    rw [← hp.length, List.length_take, List.length_drop]; omega
  have hcell : ∀ j v, ((vs.drop (i * sz + off)).take (P.cellsOf T))[j]? = some v → w.cell? ((⟨b, base + (i * sz + off), none⟩ : Addr).add j) = some v := by
    intro j v hj
    have hjl : j < P.cellsOf T := by
      rcases Nat.lt_or_ge j (P.cellsOf T) with q | q
      · exact q
      · rw [List.getElem?_eq_none (by omega)] at hj; cases hj
    rw [List.getElem?_take_of_lt hjl, List.getElem?_drop] at hj
    rw [Addr.add_none, Nat.add_assoc]
    exact hr _ v hj
  unfold part
  cases hA : Program.isAggT P T with
  | true =>
    refine ⟨.agg ((vs.drop (i * sz + off)).take (P.cellsOf T)).toArray, b', ?_, ?_, hb⟩
    · have := run_loadCells_list (P := P) w ⟨b, base + (i * sz + off), none⟩ _ hcell
      rw [hlen] at this
      simp only [Instr.loadAt, Instr.sureAddr, Sem.run_bind, Sem.run_pure, Result.andThen_ok, loadVar, run_isAgg hs, hA, if_true, run_sizeOf hpos, this]
    · refine .agg _ _ _ hp fun x hx => h1 x ?_
      exact List.mem_of_mem_drop (List.mem_of_mem_take hx)
  | false =>
    have hne : ∃ v0 rest, (vs.drop (i * sz + off)).take (P.cellsOf T) = v0 :: rest := by
      cases e : (vs.drop (i * sz + off)).take (P.cellsOf T) with
      | nil => rw [e] at hlen; simp at hlen; omega
      | cons v0 rest => exact ⟨v0, rest, rfl⟩
    obtain ⟨v0, rest, e⟩ := hne
    obtain ⟨c0, crest, ec⟩ : ∃ c0 crest, ((xs.getD i .any).cells.drop off).take (P.cellsOf T) = c0 :: crest := by
      cases e2 : ((xs.getD i .any).cells.drop off).take (P.cellsOf T) with
      | nil => rw [e2, e] at hp; cases hp
      | cons c0 crest => exact ⟨c0, crest, rfl⟩
    have hhead : ((xs.getD i .any).cells.drop off).headD .any = c0 := by
      cases e3 : (xs.getD i .any).cells.drop off with
      | nil => rw [e3] at ec; simp at ec
      | cons q r => rw [e3] at ec; obtain ⟨n, hn⟩ : ∃ n, P.cellsOf T = n + 1 := ⟨P.cellsOf T - 1, by omega⟩; rw [hn] at ec; simp at ec; simp [ec.1]
    rw [ec, e] at hp
    cases hp with
    | cons _ _ b1 _ _ b2 h ht =>
      refine ⟨v0, b1, ?_, by simp only [cond_false, hhead]; exact h, fun y hy => hb y (List.mem_append_left _ hy)⟩
      have hc := hcell 0 v0 (by rw [e]; rfl)
      rw [Addr.add_none, Nat.add_zero] at hc
      simp only [Instr.loadAt, Instr.sureAddr, Sem.run_bind, Sem.run_pure, Result.andThen_ok, loadVar, run_isAgg hs, hA, Bool.false_eq_true, if_false, run_load, hc]

theorem noSl_cells : ∀ {cs : List V} {vs : List Value} {bl : List Nat}, RepL w μ cs vs bl →
    (cs.all fun c => match c with | .sl _ | .pv _ _ _ | .opt _ _ | .tup _ | .agg _ | .fn _ _ => false | _ => true) = true → bl = []
  | _, _, _, .nil, _ => rfl
  | _, _, _, .cons c x b1 _ xs b2 hc ht, hn => by
    rw [List.all_cons, Bool.and_eq_true] at hn
    have h2 := noSl_cells ht hn.2
    have h3 : b1 = [] := by
      have hn1 := hn.1
      cases hc <;> first | rfl | (simp at hn1; done)
    rw [h2, h3]; rfl

theorem noSl_nil {v : V} {x : Value} {bl : List Nat} (h : Rep w μ v x bl) (hn : v.noSl = true) : bl = [] := by
  cases v <;> first | (simp [V.noSl] at hn; done) | skip
  case fn f cs =>
    have : cs = [] := by simpa [V.noSl] using hn
    subst this
    cases h with
    | fn _ _ _ _ hl => cases hl; rfl
  case agg cs =>
    cases h with
    | agg _ _ _ hl h1 => exact noSl_cells hl hn
  all_goals (cases h <;> rfl)

theorem Cells.rowOf {μ : Nat → Option Loc} {l : Loc} {xs : List V} {bl : List Nat} (h : Cells w μ l xs bl) : ∃ vs, RepL w μ (xs.flatMap V.cells) vs bl ∧ (∀ v ∈ vs, v.oneCell' = true) ∧ Row w l.b l.off vs := by
  obtain ⟨_, _, _, c, t, vs, h4, h5, h6, h7, h8⟩ := h
  exact ⟨vs, h6, h7, fun j x hj => by rw [cell_of_row w l.b _ c t _ h4]; exact h8 j x hj⟩

/-- What is inside an owned block is seen by a load. -/
theorem Sup.row (h : Sup cx s a w μ ow) {id : Nat} {xs : List V} {k : Kd} (hr : s.row id = some (xs, k)) : RowOK cx w μ ow s.vw id xs k := by
  unfold St.row at hr
  cases e : s.O[id]? with
  | none => simp [e] at hr
  | some bk =>
    have := h.blk id bk e
    cases bk <;> simp [e, Blk.row] at hr
    · obtain ⟨rfl, rfl⟩ := hr; exact this
    · obtain ⟨rfl, rfl⟩ := hr; exact this

theorem load_sound (h : Sup cx s a w μ ow) (T : TypeId) (p : Operand) (ho : o.op = .load T p) (hg : (s.ev p).gd = true) (hk : aLoad P s T true K (s.ev p).un) : QV P cx s nid w μ ow o a K := by
  obtain ⟨bx, rx, hb⟩ := h.evu p hg
  generalize (s.ev p).un = vx at *
  unfold aLoad at hk
  split at hk
  · rename_i id i off
    obtain ⟨l, hl, hi, e⟩ := rx.ptr_inv
    cases hrow : s.row id with
    | none => rw [hrow] at hk; exact hk.elim
    | some xk =>
      obtain ⟨xs, k⟩ := xk
      rw [hrow] at hk
      obtain ⟨hT, hk⟩ := hk
      obtain ⟨l', h1, h2, h3⟩ := h.row hrow
      rw [hl] at h1
      cases h1
      rcases h3 with ⟨_, h3⟩ | ⟨_, h4, bl, h5, h6, h7⟩
      · subst h3; simp at h2; omega
      · obtain ⟨vs, c1, c2, c3⟩ := h5.rowOf
        obtain ⟨v, b', r1, r2, r3⟩ := load_row (P := P) (T := T) (off := off) (i := i) (by omega) h5.each c1 c2 c3 (hT rfl)
        refine QV.pure (v := v) h (run_op_v (by unfold execOp; rw [ho]) (by rw [e]; exact r1)) (r2.keep (k.mu_le μ) fun _ _ => rfl) ?_ (fun hv => by simp [hv]) hk
        intro y hy
        have hyb := r3 y hy
        cases k with
        | flat | thin => have : bl = [] := h6; subst this; simp at hyb
        | deep =>
          have hn : (part P T (xs.getD i .any) off).noSl = false := by
            cases hq : (part P T (xs.getD i .any) off).noSl with
            | false => rfl
            | true => have := noSl_nil r2 hq; subst this; simp at hy
          have hown := h6.2 y hyb
          refine ⟨.inr ⟨by rw [hn]; simp, id, hown⟩, ?_⟩
          exact .inr (h.own y (by rw [hown]; simp))
        | shal => exact (h6 y hyb).mono rfl (fun hv => by simp [hv])
        | mix => exact (h6 y hyb).mono rfl (fun hv => by simp [hv])
  · rename_i xs i off
    obtain ⟨hT, hk⟩ := hk
    obtain ⟨b, o', sz, vs, bl', hi, hs, hz, hl, h1, hr, rfl, e⟩ := rx.pv_inv
    obtain ⟨v, b', r1, r2, r3⟩ := load_row (P := P) (T := T) (off := off) hi hz hl h1 hr (hT rfl)
    exact QV.pure (v := v) h (run_op_v (by unfold execOp; rw [ho]) (by rw [e]; exact r1)) (r2.keep (MLe.zero μ) fun _ _ => rfl) (fun y hy => hb y (List.mem_cons_of_mem _ (r3 y hy))) id hk
  · exact hk.elim


theorem unByte_map : ∀ {xs : List V} {ns : List Int}, unByte xs = some ns → xs = ns.map (V.int .u8)
  | [], ns, h => by simp [unByte] at h; subst h; rfl
  | x :: xs, ns, h => by
    unfold unByte at h
    split at h
    · rename_i e; cases e
    · rename_i n l e
      cases e
      rw [Option.map_eq_some_iff] at h
      obtain ⟨m, h1, h2⟩ := h
      subst h2
      rw [unByte_map h1]; rfl
    · cases h
theorem rep_bytes {μ : Nat → Option Loc} : ∀ (ns : List Int) {vs : List Value} {bl : List Nat}, RepL w μ ((ns.map (V.int .u8)).flatMap V.cells) vs bl → vs = ns.map (Value.int .u8)
  | [], vs, bl, h => by cases h; rfl
  | n :: ns, vs, bl, h => by
    simp only [List.map_cons, List.flatMap_cons, V.cells, List.cons_append, List.nil_append] at h
    cases h with
    | cons _ x bl _ xs bl' h1 h2 =>
      have := rep_bytes ns h2
      rw [this, h1.int_inv]; rfl

theorem convert_sound (h : Sup cx s a w μ ow) (src dst : TypeId) (x : Operand) (ho : o.op = .convert src dst x) (hg : (s.ev x).gd = true) (hs : (P.underlying src).isSome = true)
    (hk : match P.underlying dst, (s.ev x).un with
      | some (.int k), .int _ n => K (.int k (k.wrap n)) [] s.vw
      | some .string, .ref id => match (s.row id).bind (fun r => unByte r.1) with
        | some ns => (∃ e, P.underlying src = some (.slice e) ∧ P.underlying e = some (.int .u8)) ∧ K (.str (strOf ns)) [] s.vw
        | none => False
      | _, _ => False) : QV P cx s nid w μ ow o a K := by
  split at hk
  · rename_i k k' n hd hx
    exact convertInt_sound h src dst x ho hg hs k k' n hd hx hk
  · rename_i id hd hx
    obtain ⟨bx, rx, hb⟩ := h.evu x hg
    rw [hx] at rx
    cases hrow : s.row id with
    | none => rw [hrow] at hk; exact hk.elim
    | some xk =>
      obtain ⟨xs, k⟩ := xk
      rw [hrow, Option.bind_some] at hk
      cases hn : unByte xs with
      | none => simp only [hn] at hk
      | some ns =>
        simp only [hn] at hk
        obtain ⟨⟨e, hsrc, he⟩, hk⟩ := hk
        obtain ⟨l', h1, h2, h3⟩ := h.row hrow
        have hxs := unByte_map hn
        have hrun : (convert src dst (a.eval x)).run P w = .ok (.string (strOf ns)) w := by
          generalize a.eval x = vx at rx ⊢
          cases rx with
          | ref _ l _ hl hd' =>
            rw [hl] at h1
            cases h1
            cases hd' with
            | real hreal =>
              rcases h3 with ⟨q, _⟩ | ⟨_, _, bl, h5, _⟩
              · rw [hreal] at q; cases q
              · obtain ⟨vs, c1, c2, c3⟩ := h5.rowOf
                rw [hxs] at c1
                have hvs := rep_bytes ns c1
                subst hvs
                rw [run_convert_bytes_string w src dst e _ _ _ hsrc he hd]
                refine run_bytesToString w _ _ _ ns ?_
                have hl2 : l'.n = (ns.map (Value.int .u8)).length := by rw [h2, hxs]; simp
                rw [hl2]
                exact run_loadCells_list w _ _ (fun j v hj => by rw [Addr.add_none]; exact c3 j v hj)
            | nil ad _ h0 =>
              have hz : ns = [] := by
                have : xs.length = 0 := by omega
                rw [hxs] at this
                simpa using this
              subst hz
              rw [run_convert_bytes_string w src dst e _ _ _ hsrc he hd]
              cases ad with
              | none => rfl
              | some ad => exact run_bytesToString w ad 0 0 [] (run_loadCells_list w ad [] (by simp))
        exact QV.pure (v := .string (strOf ns)) h (run_op_v (by unfold execOp; rw [ho]) hrun) (.str _) (by simp) (fun h => h) hk
  · exact hk.elim

theorem sizeOf_pos {T : TypeId} {xs : List V} {sz i : Nat} (hz : ∀ x ∈ xs, x.cells.length = sz) (hi : i < xs.length) (hc : ∀ x ∈ xs, x.cells.length = P.cellsOf T) : sz = P.cellsOf T := by
  have hm : xs.getD i .any ∈ xs := by simp [hi]
  rw [← hz _ hm, hc _ hm]

theorem run_indexAt {t e : TypeId} {ad : Addr} {n c : Nat} {k : IntKind} {i : Int} (ht : P.underlying t = some (.slice e)) (h0 : 0 ≤ i) (h1 : i < n) (hp : 0 < P.cellsOf e) :
    (Instr.indexAt t (.slice (some ad) n c) (.int k i)).run P w = .ok (.pointer (some (ad.add (i.toNat * P.cellsOf e)))) w := by
  have he : P.elem t = e := by simp [Program.elem, ht]
  rw [run_indexAt_slice w t ad n c k i (by rw [he]; exact ht), if_pos ⟨h0, h1⟩, he, run_sizeOf hp]
  rfl

theorem indexAddr_sound (h : Sup cx s a w μ ow) (t : TypeId) (x y : Operand) (ho : o.op = .indexAddr t x y) (hg : (s.ev x).gd = true ∧ (s.ev y).gd = true)
    (hk : aIndexAddr P s t true K (s.ev x).un (s.ev y).un) : QV P cx s nid w μ ow o a K := by
  obtain ⟨bx, rx, hb⟩ := h.evu x hg.1
  obtain ⟨_, ry, _⟩ := h.evu y hg.2
  generalize (s.ev x).un = vx at *
  generalize (s.ev y).un = vy at *
  generalize hax : a.eval x = ax at *
  generalize hay : a.eval y = ay at *
  have fin : ∀ {ad : Addr} {val : V} {bl : List Nat}, (Instr.indexAt t ax ay).run P w = .ok (.pointer (some ad)) w → Rep w μ val (.pointer (some ad)) bl → (∀ b ∈ bl, VOK cx ow s.vw b) → K val [] s.vw → QV P cx s nid w μ ow o a K :=
    fun h1 h2 h3 h4 => QV.pure h (run_op_v (by unfold execOp; rw [ho]) (by rw [hax, hay]; exact h1)) h2 h3 id h4
  unfold aIndexAddr at hk
  split at hk
  · rename_i xs k i
    obtain ⟨⟨e, ht, hc⟩, hi, hk⟩ := hk
    obtain ⟨h0, h1⟩ := hi rfl
    have hy := ry.int_inv
    subst hy
    have hi' : i.toNat < xs.length := by omega
    cases rx with
    | sl0 => simp at hi'
    | sl _ b off c sz vs bl hne hcap hs hz hl hone hr =>
      have es : sz = P.cellsOf e := sizeOf_pos hz hi' hc
      have hrun := run_indexAt (P := P) (w := w) (ad := ⟨b, off, none⟩) (c := c) (k := k) ht h0 h1 (by omega)
      rw [Addr.add_none, ← es] at hrun
      exact fin hrun (by have := Rep.pv (w := w) (μ := μ) xs i.toNat 0 b off sz vs bl hi' hs hz hl hone hr; rwa [Nat.add_zero] at this) hb hk
  · rename_i id k i
    cases hrow : s.row id with
    | none => rw [hrow] at hk; exact hk.elim
    | some xk =>
      obtain ⟨xs, kd⟩ := xk
      rw [hrow] at hk
      obtain ⟨⟨e, ht, hc⟩, hi, hk⟩ := hk
      obtain ⟨h0, h1⟩ := hi rfl
      have hy := ry.int_inv
      subst hy
      have hi' : i.toNat < xs.length := by omega
      obtain ⟨l', q1, q2, q3⟩ := h.row hrow
      cases rx with
      | ref _ l _ hl hd =>
        rw [hl] at q1; cases q1
        rcases q3 with ⟨_, q3⟩ | ⟨q3, q4, bl, q5, q6, q7⟩
        · subst q3; simp at hi'
        · cases hd with
          | nil _ hf _ => rw [q3] at hf; cases hf
          | real _ =>
            have es : l'.sz = P.cellsOf e := sizeOf_pos q5.each hi' hc
            have hrun := run_indexAt (P := P) (w := w) (ad := ⟨l'.b, l'.off, none⟩) (n := l'.n) (c := l'.cap) (k := k) ht h0 (by omega) (by have := q5.sz; omega)
            rw [Addr.add_none, ← es] at hrun
            exact fin hrun (by have := Rep.ptr (w := w) (μ := μ) id i.toNat 0 l' hl (by omega); rwa [Nat.add_zero] at this) (by simp) hk
  · rename_i id lo n k i
    cases hrow : s.row id with
    | none => rw [hrow] at hk; exact hk.elim
    | some xk =>
      obtain ⟨xs, kd⟩ := xk
      rw [hrow] at hk
      obtain ⟨⟨e, ht, hc⟩, hi, hk⟩ := hk
      obtain ⟨h0, h1⟩ := hi rfl
      have hy := ry.int_inv
      subst hy
      obtain ⟨l', q1, q2, q3⟩ := h.row hrow
      cases rx with
      | sub0 => omega
      | sub _ _ _ l hl hreal hn =>
        rw [hl] at q1; cases q1
        have hi' : lo + i.toNat < xs.length := by omega
        rcases q3 with ⟨_, q3⟩ | ⟨q3, q4, bl, q5, q6, q7⟩
        · subst q3; simp at hi'
        · have es : l'.sz = P.cellsOf e := sizeOf_pos q5.each hi' hc
          have hrun := run_indexAt (P := P) (w := w) (ad := ⟨l'.b, l'.off + lo * l'.sz, none⟩) (n := n) (c := l'.cap - lo) (k := k) ht h0 h1 (by have := q5.sz; omega)
          rw [Addr.add_none, ← es] at hrun
          refine fin hrun ?_ (bl := []) (by simp) hk
          have := Rep.ptr (w := w) (μ := μ) id (lo + i.toNat) 0 l' hl (by omega)
          rwa [Nat.add_zero, Nat.add_mul, ← Nat.add_assoc] at this
  · exact hk.elim

theorem fieldAddr_sound (h : Sup cx s a w μ ow) (t : TypeId) (x : Operand) (f : Nat) (ho : o.op = .fieldAddr t x f) (hg : (s.ev x).gd = true) (hk : aFieldAddr P t f s.vw K (s.ev x).un) : QV P cx s nid w μ ow o a K := by
  obtain ⟨bx, rx, hb⟩ := h.evu x hg
  generalize (s.ev x).un = vx at *
  generalize hax : a.eval x = ax at *
  unfold aFieldAddr at hk
  split at hk
  · rename_i fs hu
    split at hk
    · rename_i fd hf
      obtain ⟨hp, hk⟩ := hk
      have hz : ¬ P.cellsOf fd.type = 0 := by omega
      have run : ∀ (b off : Nat), (Instr.fieldAt t (.pointer (some ⟨b, off, none⟩)) f).run P w = .ok (.pointer (some ⟨b, off + fd.offset, none⟩)) w := by
        intro b off
        simp only [Instr.fieldAt, Sem.run_bind, run_underlying hu, Result.andThen_ok, hf, Instr.sureAddr, Sem.run_pure, fieldPlace, run_sizeOf hp, hz, if_false, Addr.add_none]
      split at hk
      · rename_i id i off
        obtain ⟨l, hl, hi, e⟩ := rx.ptr_inv
        subst e
        refine QV.pure h (run_op_v (by unfold execOp; rw [ho]) (by rw [hax]; exact run _ _)) (bl := []) ?_ (by simp) (fun q => q) hk
        have := Rep.ptr (w := w) (μ := μ) id i (off + fd.offset) l hl hi
        rwa [← Nat.add_assoc (i * l.sz), ← Nat.add_assoc l.off] at this
      · rename_i xs i off
        cases rx with
        | pv _ _ _ b o' sz vs bl hi hs hz' hl h1 hr =>
          refine QV.pure h (run_op_v (by unfold execOp; rw [ho]) (by rw [hax]; exact run _ _)) (bl := b :: bl) ?_ hb id hk
          have := Rep.pv (w := w) (μ := μ) xs i (off + fd.offset) b o' sz vs bl hi hs hz' hl h1 hr
          rwa [← Nat.add_assoc (i * sz), ← Nat.add_assoc o'] at this
      · exact hk.elim
    · exact hk.elim
  · exact hk.elim

theorem run_part {T : TypeId} {cs : Array Value} {off : Nat} {v0 : Value} (hs : (P.underlying T).isSome = true) (hp : 0 < P.cellsOf T) (h0 : Program.isAggT P T = false → cs[off]? = some v0) :
    (Go.part T cs off).run P w = .ok (if Program.isAggT P T = true then .agg (cs.extract off (off + P.cellsOf T)) else v0) w := by
  unfold Go.part
  rw [Sem.run_bind, run_isAgg hs]
  cases hA : Program.isAggT P T with
  | true => simp only [Result.andThen_ok, if_true, Sem.run_bind, run_sizeOf hp, Sem.run_pure]
  | false => simp only [Result.andThen_ok, Bool.false_eq_true, if_false, h0 hA, Sem.run_pure]

theorem field_sound (h : Sup cx s a w μ ow) (t : TypeId) (x : Operand) (f : Nat) (ho : o.op = .field t x f) (hg : (s.ev x).gd = true) (hk : aField P t f true s.vw K (s.ev x).un) : QV P cx s nid w μ ow o a K := by
  obtain ⟨bx, rx, hb⟩ := h.evu x hg
  generalize (s.ev x).un = vx at *
  generalize hax : a.eval x = ax at *
  unfold aField at hk
  split at hk
  · rename_i cs
    split at hk
    · rename_i fs hu
      split at hk
      · rename_i fd hf
        obtain ⟨hT, hk⟩ := hk
        obtain ⟨hs, hp, hle⟩ := hT rfl
        cases rx with
        | agg _ vs _ hl h1 =>
          obtain ⟨b', r1, r2⟩ := hl.part fd.offset (P.cellsOf fd.type)
          have hlen := hl.length
          cases hA : Program.isAggT P fd.type with
          | true =>
            refine QV.pure (v := .agg ((vs.drop fd.offset).take (P.cellsOf fd.type)).toArray) (bl := b') h (run_op_v (by unfold execOp; rw [ho]) ?_) ?_ (fun y hy => hb y (r2 y hy)) id hk
            · rw [hax]
              simp only [Instr.field, Sem.run_bind, run_underlying hu, Result.andThen_ok, hf, asAgg, Sem.run_pure]
              rw [run_part (v0 := .nilFunc) hs hp (by rw [hA]; intro e; cases e), if_pos hA]
              congr 2
              apply Array.ext'
              simp [Array.toList_extract, List.extract_eq_take_drop]
            · unfold part; rw [hA, cond_true]
              exact .agg _ _ _ r1 fun y hy => h1 y (List.mem_of_mem_drop (List.mem_of_mem_take hy))
          | false =>
            have hlt : fd.offset < vs.length := by omega
            obtain ⟨v, b2, g1, g2, g3⟩ := hl.get fd.offset (cs.getD fd.offset .any) (by simp [show fd.offset < cs.length by omega])
            refine QV.pure (v := v) (bl := b2) h (run_op_v (by unfold execOp; rw [ho]) ?_) ?_ (fun y hy => hb y (g3 y hy)) id hk
            · rw [hax]
              simp only [Instr.field, Sem.run_bind, run_underlying hu, Result.andThen_ok, hf, asAgg, Sem.run_pure]
              rw [run_part (v0 := v) hs hp (by intro _; simpa using g1), if_neg (by rw [hA]; simp)]
            · unfold part; rw [hA, cond_false]
              have : ((V.agg cs).cells.drop fd.offset).headD .any = cs.getD fd.offset .any := by
                show (cs.drop fd.offset).headD .any = _
                rw [List.headD_eq_head?_getD, List.head?_drop, List.getD_eq_getElem?_getD]
              rw [this]; exact g2
      · exact hk.elim
    · exact hk.elim
  · exact hk.elim

theorem len_sound (h : Sup cx s a w μ ow) (x : Operand) (t : TypeId) (c : Call) (ho : o.op = .call c) (hcal : c.callee = .builtin .len) (hargs : c.args = #[x]) (hty : c.argTypes = #[t])
    (ht : lenOK (P.underlying t) (s.ev x).un)
    (hg : (s.ev x).gd = true) (hk : aLen s s.vw K (s.ev x).un) : QV P cx s nid w μ ow o a K := by
  obtain ⟨bx, rx, hb⟩ := h.evu x hg
  have run : ∀ {v : Value}, (Builtin.len_ #[t] o.type #[a.eval x]).run P w = .ok v w → (execOp a.eval o).run P w = .ok (.value v) w := by
    intro v hv
    unfold execOp
    rw [ho]
    simp only [Sem.run_bind, resolve, hcal, hargs, hty, Sem.run_pure, Result.andThen_ok, invoke, builtin, List.map_toArray, List.map_cons, List.map_nil]
    rw [hv]; rfl
  generalize (s.ev x).un = vx at *
  generalize hax : a.eval x = ax at *
  have slice : ∀ {e : TypeId} (q : Option Addr) (n c : Nat), P.underlying t = some (.slice e) → (Builtin.len_ #[t] o.type #[.slice q n c]).run P w = .ok (.int .i64 n) w := by
    intro e q n c he
    have h0 : P.elem t = e := by simp [Program.elem, he]
    exact run_len_slice w t o.type q n c (by rw [h0]; exact he)
  unfold aLen at hk
  split at hk
  · rename_i xs
    cases hu : P.underlying t with
    | none => simp [hu, lenOK] at ht
    | some d =>
      cases d <;> simp only [hu, lenOK] at ht <;> try exact ht.elim
      cases rx with
      | sl0 q c => exact QV.pure h (run (slice q 0 c hu)) (by simpa using Rep.int .i64 0) (by simp) id hk
      | sl _ b off c sz vs bl hne hcap hs hz hl hone hr => exact QV.pure h (run (slice _ _ c hu)) (.int _ _) (by simp) id hk
  · cases hu : P.underlying t with
    | none => simp [hu, lenOK] at ht
    | some d =>
      cases d <;> simp only [hu, lenOK] at ht <;> try exact ht.elim
      cases rx with
      | nsl q => exact QV.pure h (run (slice q 0 0 hu)) (by simpa using Rep.int .i64 0) (by simp) id hk
  · rename_i b
    have := rx.str_inv
    subst this
    cases hu : P.underlying t with
    | none => simp [hu, lenOK] at ht
    | some d =>
      cases d <;> simp only [hu, lenOK] at ht <;> try exact ht.elim
      exact QV.pure h (run (by simp [Builtin.len_, run_underlying hu, goInt])) (.int _ _) (by simp) id hk
  · rename_i id
    cases hrow : s.row id with
    | none => rw [hrow] at hk; exact hk.elim
    | some xk =>
      obtain ⟨xs, kd⟩ := xk
      rw [hrow] at hk
      obtain ⟨l', q1, q2, q3⟩ := h.row hrow
      cases hu : P.underlying t with
      | none => simp [hu, lenOK] at ht
      | some d =>
        cases d <;> simp only [hu, lenOK] at ht <;> try exact ht.elim
        cases rx with
        | ref _ l _ hl hd =>
          rw [hl] at q1; cases q1
          cases hd with
          | real _ => exact QV.pure h (run (slice _ _ _ hu)) (by rw [q2]; exact .int _ _) (by simp) (fun q => q) hk
          | nil q hf h0 =>
            refine QV.pure (bl := []) h (run (slice q 0 0 hu)) ?_ (fun _ hb => by cases hb) (fun q => q) hk
            have : xs.length = 0 := by omega
            rw [this]; exact .int _ _
  · rename_i lo n
    cases hu : P.underlying t with
    | none => simp [hu, lenOK] at ht
    | some d =>
      cases d <;> simp only [hu, lenOK] at ht <;> try exact ht.elim
      cases rx with
      | sub0 _ _ l q hl hn => exact QV.pure h (run (slice q 0 0 hu)) (.int _ _) (by simp) id hk
      | sub _ _ _ l hl hreal hn => exact QV.pure h (run (slice _ _ _ hu)) (.int _ _) (by simp) id hk
  · exact hk.elim

theorem index_sound (h : Sup cx s a w μ ow) (t : TypeId) (x y : Operand) (ho : o.op = .index t x y) (hg : (s.ev x).gd = true ∧ (s.ev y).gd = true) (ht : P.underlying t = some .string)
    (hk : aIndex s true K (s.ev x).un (s.ev y).un) : QV P cx s nid w μ ow o a K := by
  obtain ⟨bx, rx, hb⟩ := h.evu x hg.1
  obtain ⟨_, ry, _⟩ := h.evu y hg.2
  generalize (s.ev x).un = vx at *
  generalize (s.ev y).un = vy at *
  unfold aIndex at hk
  split at hk
  · rename_i b k i
    obtain ⟨hi, hk⟩ := hk
    obtain ⟨h0, h1⟩ := hi rfl
    have e1 := rx.str_inv
    have e2 := ry.int_inv
    refine QV.pure (v := .int .u8 (byteAt b i.toNat)) h (run_op_v (by unfold execOp; rw [ho]) ?_) (.int _ _) (by simp) id hk
    rw [e1, e2]
    have hlt : i.toNat < b.size := by omega
    have hlt' : i.toNat < b.data.size := hlt
    have hget : b[i.toNat]? = some (b.data.toList.getD i.toNat 0) := by
      have h3 : b.data.toList[i.toNat]? = some b.data[i.toNat] := by simp [hlt']
      rw [getElem?_pos b i.toNat hlt, List.getD_eq_getElem?_getD, h3]
      rfl
    simp only [Instr.index, Sem.run_bind, run_underlying ht, asIntOf, Sem.run_pure, Result.andThen_ok, h0, if_true, hget, byteAt]
  · exact hk.elim

end
end Go.Vm
