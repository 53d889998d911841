/- The value machine, part 25: 'clear' of a part of an owned row; a slice beside nil. -/
import Derived.Test.YtciapcamhocmcaaVm13
set_option linter.unusedSimpArgs false
set_option linter.unusedVariables false
namespace Go.Vm
open Go

/-- 'clear' of a part of an owned row. -/
def aClear (P : Program) (s : St) (t : TypeId) (K : St → Prop) (v : V) : Prop :=
  match v with
  | .sub id lo n => match P.underlying t, s.O[id]? with
    | some (.slice e), some (.arr xs k) => match Program.zeroOf P e with
      | some z => (k ≠ .mix ∧ 0 < P.cellsOf e ∧ (V.ofValue z).isVal = true ∧ (V.ofValue z).cells.length = P.cellsOf e ∧ (content (V.ofValue z)).noRef = true ∧ (∀ x ∈ xs, x.cells.length = P.cellsOf e)) ∧
          K { s with O := s.O.set id (.arr (xs.take lo ++ List.replicate n (content (V.ofValue z)) ++ xs.drop (lo + n)) k) }
      | none => False
    | _, _ => False
  | _ => False

section
variable {P : Program} {cx : Cx} {s : St} {a : Act} {w : World} {μ : Nat → Option Loc} {ow : Ow} {o : Oper}

theorem KdOK.sub {vw : Bool} {id : Nat} {bl bl' : List Nat} {k : Kd} (h : KdOK cx ow vw id bl k) (hs : List.Sublist bl' bl) : KdOK cx ow vw id bl' k := by
  cases k with
  | flat | thin => have e : bl = [] := h; subst e; exact List.sublist_nil.1 hs
  | deep => exact ⟨h.1.sublist hs, fun b hb => h.2 b (hs.subset hb)⟩
  | shal | mix => exact fun b hb => h b (hs.subset hb)

theorem St.O_same {s : St} {id : Nat} {bk : Blk} (h : s.O[id]? = some bk) : ({ s with O := s.O.set id bk } : St) = s := by
  have hlt : id < s.O.length := by
    rcases Nat.lt_or_ge id s.O.length with q | q
    · exact q
    · rw [List.getElem?_eq_none q] at h; cases h
  have : s.O.set id bk = s.O := by
    apply List.ext_getElem?
    intro j
    by_cases e : j = id
    · subst e; rw [List.getElem?_set_self hlt, h]
    · rw [List.getElem?_set_ne (fun q => e q.symm)]
  rw [this]

theorem clear_sound (h : Rel cx s a w μ ow) {K : St → Prop} (t : TypeId) (x : Operand) (c : Call) (ho : o.op = .call c) (hcal : c.callee = .builtin .clear) (hargs : c.args = #[x]) (hty : c.argTypes = #[t])
    (hgx : (s.ev x).gd = true) (hk : aClear P s t K (s.ev x).un) :
    ∃ w' s' μ' ow', (execOp a.eval o).run P w = .ok (.value (.tuple #[])) w' ∧ Rel cx s' a w' μ' ow' ∧ s'.n = s.n ∧ K s' := by
  have hsup := h.sup
  obtain ⟨bx, rx, _⟩ := hsup.evu x hgx
  have run : ∀ {w' : World}, (Builtin.clear_ #[t] o.type #[a.eval x]).run P w = .ok (.tuple #[]) w' → (execOp a.eval o).run P w = .ok (.value (.tuple #[])) w' := by
    intro w' hv
    unfold execOp
    rw [ho]
    simp only [Sem.run_bind, resolve, hcal, hargs, hty, Sem.run_pure, Result.andThen_ok, invoke, builtin, List.map_toArray, List.map_cons, List.map_nil]
    rw [hv]; rfl
  generalize (s.ev x).un = vx at *
  generalize a.eval x = ax at *
  unfold aClear at hk
  split at hk
  case h_2 => exact hk.elim
  rename_i id lo n
  split at hk
  case h_2 => exact hk.elim
  rename_i e xs k ht hO
  split at hk
  case h_2 => exact hk.elim
  rename_i z hz
  obtain ⟨⟨hmix, hp, hv, hlen, hnr, hcs⟩, hK⟩ := hk
  have still : n = 0 → (Builtin.clear_ #[t] o.type #[ax]).run P w = .ok (.tuple #[]) w → ∃ w' s' μ' ow', (execOp a.eval o).run P w = .ok (.value (.tuple #[])) w' ∧ Rel cx s' a w' μ' ow' ∧ s'.n = s.n ∧ K s' := by
    intro h0 hr
    subst h0
    refine ⟨w, s, μ, ow, run hr, h, rfl, ?_⟩
    rw [List.replicate_zero, List.append_nil, Nat.add_zero, List.take_append_drop, St.O_same hO] at hK
    exact hK
  cases rx with
  | sub0 _ _ l q hl hn =>
    refine still rfl ?_
    cases q <;> simp [Builtin.clear_, run_underlying ht]
  | sub _ _ _ l hl hreal hn =>
    by_cases h0 : n = 0
    · subst h0
      exact still rfl (by simp [Builtin.clear_, run_underlying ht])
    obtain ⟨l', q1, q2, q3⟩ := h.blk id _ hO
    rw [hl] at q1
    obtain rfl := Option.some.inj q1
    rcases q3 with ⟨q3, _⟩ | ⟨q3, q4, bl, q5, q6, q7⟩
    · rw [hreal] at q3; cases q3
    rw [mu_ne_mix hmix] at q5
    have hz' := q5.each
    obtain ⟨c0, tc, vs, g4, g5, g6, g7, g8⟩ := q5.row
    have hxne : xs ≠ [] := by intro q; subst q; simp at q2; omega
    have hsz : l.sz = P.cellsOf e := by
      cases xs with
      | nil => exact absurd rfl hxne
      | cons y ys' => rw [← hz' y (List.mem_cons_self ..), hcs y (List.mem_cons_self ..)]
    have rz := Rep.ofValue (w := w) (μ := μ) z
    obtain ⟨y1, y2⟩ := (content_rep rz).cells (content_isVal hv)
    have hzs : z.cells.size = P.cellsOf e := by have := (rz.cells hv).1.length; simp at this; omega
    have hle : lo + n ≤ xs.length := by omega
    have hvl : vs.length = xs.length * l.sz := by rw [← g6.length, flatMap_len xs l.sz hz']
    -- the new row
    let zs := List.replicate n (content (V.ofValue z))
    let xs' := xs.take lo ++ zs ++ xs.drop (lo + n)
    let news := (List.replicate n z.cells.toList).flatten
    have hnl : news.length = n * l.sz := by simp [news, hzs, hsz]
    have hzl : (content (V.ofValue z)).cells.length = l.sz := by rw [content_cells_len, hlen, hsz]
    have rnews0 : RepL w μ (zs.flatMap V.cells) news [] := by
      show RepL w μ ((List.replicate n (content (V.ofValue z))).flatMap V.cells) _ []
      rw [replicate_cells]
      exact RepL.replicate y1 n
    have rnews := noRef_all rnews0 (by rw [List.all_eq_true]; intro x hx; rw [List.eq_of_mem_replicate hx]; exact hnr)
    have onews : ∀ v ∈ news, v.oneCell' = true := by
      intro v hv'
      obtain ⟨l', hl', hvl⟩ := List.mem_flatten.1 hv'
      rw [List.eq_of_mem_replicate hl'] at hvl
      exact y2 v hvl
    have hmul : (lo + n) * l.sz ≤ xs.length * l.sz := Nat.mul_le_mul_right _ hle
    rw [Nat.add_mul] at hmul
    have hcap : xs.length * l.sz ≤ l.cap * l.sz := Nat.mul_le_mul_right _ (by have := q5.le; omega)
    have e3 : xs.flatMap V.cells = (xs.flatMap V.cells).take (lo * l.sz) ++ (((xs.flatMap V.cells).drop (lo * l.sz)).take (n * l.sz) ++ (xs.flatMap V.cells).drop (lo * l.sz + n * l.sz)) := by
      rw [show (xs.flatMap V.cells).drop (lo * l.sz + n * l.sz) = ((xs.flatMap V.cells).drop (lo * l.sz)).drop (n * l.sz) by rw [List.drop_drop], List.take_append_drop, List.take_append_drop]
    have hL : (xs.flatMap V.cells).length = xs.length * l.sz := flatMap_len xs l.sz hz'
    have g6' := g6
    rw [e3] at g6'
    obtain ⟨x1, x23, b1, b23, ev1, eb1, r1, r23⟩ := RepL.split _ _ g6'
    obtain ⟨x2, x3, b2, b3, ev2, eb2, r2, r3⟩ := RepL.split _ _ r23
    have hx1 : x1.length = lo * l.sz := by rw [← r1.length, List.length_take]; omega
    have hx2 : x2.length = n * l.sz := by rw [← r2.length, List.length_take, List.length_drop]; omega
    have etake : vs.take (lo * l.sz) = x1 := by rw [ev1, ← hx1, List.take_left]
    have edrop : vs.drop (lo * l.sz + n * l.sz) = x3 := by rw [ev1, ev2, ← hx1, ← List.drop_drop, List.drop_left, ← hx2, List.drop_left]
    have hsub : List.Sublist (b1 ++ ([] ++ b3)) bl := by
      rw [eb1, eb2]
      exact List.Sublist.append_left (List.Sublist.append_right (List.nil_sublist _) _) _
    have hlen' : xs'.length = xs.length := by simp [xs', zs]; omega
    have hflat : xs'.flatMap V.cells = (xs.flatMap V.cells).take (lo * l.sz) ++ (zs.flatMap V.cells ++ (xs.flatMap V.cells).drop (lo * l.sz + n * l.sz)) := by
      show (xs.take lo ++ zs ++ xs.drop (lo + n)).flatMap V.cells = _
      rw [List.flatMap_append, List.flatMap_append, flatMap_take _ l.sz hz', flatMap_drop _ l.sz hz', Nat.add_mul, List.append_assoc]
    have hvs' : vs.take (lo * l.sz) ++ news ++ vs.drop (lo * l.sz + news.length) = x1 ++ (news ++ x3) := by rw [etake, hnl, edrop, List.append_assoc]
    have hcells := cells_put (w := w) (μ' := M0) (l := l) (xs' := xs') (bl' := b1 ++ ([] ++ b3)) (o := lo * l.sz) (news := news) (vs := vs) (vs' := x1 ++ (news ++ x3)) c0 tc g4 g5 q5.sz g7 g8
      (by rw [hlen']; have := q5.le; omega) (by rw [hnl]; omega)
      (by
        intro y hy
        rcases List.mem_append.1 hy with hy | hy
        · rcases List.mem_append.1 hy with hy | hy
          · exact hz' y (List.mem_of_mem_take hy)
          · rw [List.eq_of_mem_replicate hy]; exact hzl
        · exact hz' y (List.mem_of_mem_drop hy)) onews
      (by rw [hflat]; exact r1.append (rnews.append r3)) (by rw [hvs', List.take_length]) (by omega)
      (by
        intro b hb e
        subst e
        have hb' := hsub.subset hb
        cases k with
        | flat | thin => have : bl = [] := q6; rw [this] at hb'; cases hb'
        | deep => have := q6.2 _ hb'; rw [q4] at this; cases this
        | shal => exact (q6 _ hb').not_root q4
        | mix => exact absurd rfl hmix)
    have hlset : ({ l with n := xs'.length } : Loc) = l := by rw [hlen', ← q2]
    rw [hlset] at hcells
    obtain ⟨ie, hi1, hi2⟩ := info_of_cells hp
    have hzero : ie.zero = some z := by simpa [Program.zeroOf, hi1] using hz
    have hzc : (Builtin.zeroCells z.cells n).toList = news := madeCells_list z.cells n (by omega)
    have hst := run_storeCells_at P l.b (l.off + lo * l.sz) tc news 0 c0 w g4 (by omega) onews
    have hrun : (Builtin.clear_ #[t] o.type #[.slice (some ⟨l.b, l.off + lo * l.sz, none⟩) n (l.cap - lo)]).run P w = .ok (.tuple #[]) (w.setRow l.b (c0.toList.take (l.off + lo * l.sz) ++ news ++ c0.toList.drop (l.off + lo * l.sz + news.length)).toArray) := by
      rw [Nat.add_zero] at hst
      obtain ⟨m, rfl⟩ : ∃ m, n = m + 1 := ⟨n - 1, by omega⟩
      simp [Builtin.clear_, run_underlying ht, zeroValue, typeInfo, hi1, hzero, hzc]
      rw [hst]
      simp
    have hlid : id < s.O.length := by
      rcases Nat.lt_or_ge id s.O.length with q | q
      · exact q
      · rw [List.getElem?_eq_none q] at hO; cases hO
    refine ⟨_, { s with O := s.O.set id (.arr xs' k) }, μ, ow, run hrun, ?_, rfl, hK⟩
    refine h.mut (O' := s.O.set id (.arr xs' k)) (fun j => j = id) (MLe.refl μ) ?_ ?_ ?_ rfl rfl rfl (fun x _ => frozen_setRow _ _ _ x) ?_ ?_ ?_ ?_ ?_
    · intro j hj
      rw [List.length_set] at hj
      exact h.dom j hj
    · simp
    · intro b hb hnt
      refine setRow_other w l.b b _ fun e => ?_
      subst e
      exact hnt id q4 rfl
    · exact fun b _ e => e
    · exact fun b j e => .inr ⟨j, e⟩
    · intro j bk e
      by_cases hjid : j = id
      · subst hjid
        rw [List.getElem?_set_self hlid] at e
        simp only [Option.some.injEq] at e
        subst e
        right
        refine ⟨l, hl, by rw [hlen']; exact q2, .inr ⟨q3, q4, _, by rw [mu_ne_mix hmix]; exact hcells, q6.sub hsub, fun _ q => hxne (List.length_eq_zero_iff.1 (by rw [← hlen', q]; rfl))⟩⟩
      · left
        rw [List.getElem?_set_ne (fun q => hjid q.symm)] at e
        exact ⟨e, hjid, fun _ _ _ => rfl⟩
    · intro b hb
      exact (h.owl b hb).setRow
    · exact fun b hb => .inl hb

theorem row_nonempty {id : Nat} {xs : List V} {k : Kd} {l : Loc} (h : Sup cx s a w μ ow) (hrow : s.row id = some (xs, k)) (hl : μ id = some l) {x : Value} (hd : Hd l x) (hx : xs ≠ []) : ∃ ad n c, x = .slice (some ad) n c := by
  obtain ⟨l', h1, h2, h3⟩ := h.row hrow
  rw [hl] at h1
  obtain rfl := Option.some.inj h1
  rcases h3 with ⟨_, q⟩ | ⟨hr, _⟩
  · exact absurd q hx
  · cases hd with
    | real _ => exact ⟨_, _, _, rfl⟩
    | nil _ hf _ => rw [hr] at hf; cases hf

/-- A SLICE BESIDE nil. -/
theorem nilcmp_sound {K : KV} {nid : Nat} (h : Sup cx s a w μ ow) (op : BinOp) (xt yt : TypeId) (x y : Operand) (ho : o.op = .binOp op xt x y yt) (hx : (s.ev x).gd = true) (hy : isNil y = true) (hk : aNil P s op xt K (s.ev x).un) : QV P cx s nid w μ ow o a K := by
  obtain ⟨bx, rx, _⟩ := h.evu x hx
  obtain ⟨⟨e, he⟩, hop, hk⟩ := hk
  have hye : a.eval y = .slice none 0 0 := by
    unfold isNil at hy
    split at hy
    · rfl
    · cases hy
  have fin : ∀ (b : Bool) (q : Option Addr) (n c : Nat), a.eval x = .slice q n c → b = q.isNone → K (.bool (bif op == .neq then !b else b)) [] s.vw → QV P cx s nid w μ ow o a K := by
    intro b q n c hq hb hK
    refine QV.pure h (run_bin op xt yt x y ho (by rw [hq]; simp) (by rw [hq]; simp) (r := .bool (bif op == .neq then !b else b)) ?_) (.bool _) (by simp) id hK
    have he' : (Op.equal xt (.slice q n c) (.slice none 0 0)).run P w = .ok q.isNone w := by
      have key : ∀ d, (Op.equalIn (d + 1) xt (.slice q n c) (.slice none 0 0)).run P w = .ok q.isNone w := by
        intro d
        cases q with
        | none => simp [Op.equalIn, run_underlying he]
        | some ad => simp [Op.equalIn, run_underlying he]
      exact key 9999
    rw [hq, hye]
    rcases hop with rfl | rfl
    · have e1 : binOp .eql xt (.slice q n c) (.slice none 0 0) = (do pure (.bool (← Op.equal xt (.slice q n c) (.slice none 0 0)))) := rfl
      rw [e1, Sem.run_bind, he', hb]; rfl
    · have e1 : binOp .neq xt (.slice q n c) (.slice none 0 0) = (do pure (.bool (!(← Op.equal xt (.slice q n c) (.slice none 0 0))))) := rfl
      rw [e1, Sem.run_bind, he', hb]; rfl
  generalize (s.ev x).un = vx at *
  cases vx <;> simp only at hk
  case sl xs =>
    generalize hax : a.eval x = ax at *
    cases rx with
    | sl0 q c => exact fin q.isNone q 0 c rfl rfl (hk _ (by simp))
    | sl _ b off c sz vs bl h0 => exact fin false (some ⟨b, off, none⟩) xs.length c rfl rfl (hk false (fun _ => rfl))
  case nsl =>
    generalize hax : a.eval x = ax at *
    cases rx with
    | nsl q => exact fin q.isNone q 0 0 rfl rfl (hk _)
  case ref id =>
    generalize hax : a.eval x = ax at *
    cases hrow : s.row id with
    | none => rw [hrow] at hk; exact hk.elim
    | some xk =>
      obtain ⟨xs, k⟩ := xk
      rw [hrow] at hk
      simp only at hk
      cases rx with
      | ref _ l _ hl hd =>
        by_cases hxs : xs = []
        · cases hd with
          | real hr => exact fin false (some ⟨l.b, l.off, none⟩) l.n l.cap rfl rfl (hk false (fun q => absurd hxs q))
          | nil q _ _ => exact fin q.isNone q 0 0 rfl rfl (hk _ (fun z => absurd hxs z))
        · obtain ⟨ad, n, c, rfl⟩ := row_nonempty h hrow hl hd hxs
          exact fin false (some ad) n c rfl rfl (hk false fun _ => rfl)
  case sub id lo n =>
    generalize hax : a.eval x = ax at *
    cases rx with
    | sub _ _ _ l hl hr hn => exact fin false (some ⟨l.b, l.off + lo * l.sz, none⟩) n (l.cap - lo) rfl rfl (hk false fun _ => rfl)
    | sub0 _ _ l q hl hn => exact fin q.isNone q 0 0 rfl rfl (hk _ (by simp))

end
end Go.Vm
