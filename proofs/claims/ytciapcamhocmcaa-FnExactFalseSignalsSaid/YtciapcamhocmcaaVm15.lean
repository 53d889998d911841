/- The value machine, part 15: regions in the order of the text, code, functions. -/
import Derived.Test.YtciapcamhocmcaaVm14
set_option linter.unusedSimpArgs false
set_option linter.unusedVariables false
namespace Go.Vm
open Go

section
variable {P : Program} {L : Lend} {cx : Cx} {s : St} {nid : Nat} {a : Act} {w : World} {μ : Nat → Option Loc} {ow : Ow} {o : Oper}

theorem aBin_some {G : Bool} {op : BinOp} {t : TypeId} {vw : Bool} {K : KV} {x y : V} (h : aBin P G op t vw K x y) : ∃ v new vw', K v new vw' := by
  unfold aBin at h
  split at h
  · obtain ⟨_, h⟩ := h
    cases op <;> simp only [] at h <;> first | exact ⟨_, _, _, h⟩ | exact ⟨_, _, _, h.2⟩ | exact h.elim
  · cases op <;> simp only [] at h <;> first | exact ⟨_, _, _, h⟩ | exact ⟨_, _, _, h.2⟩ | exact h.elim
  · obtain ⟨_, h⟩ := h
    cases op <;> simp only [] at h <;> first | exact ⟨_, _, _, h⟩ | exact h.elim
  · exact h.elim

theorem aop_some {G : Bool} {op : Op} {K : KV} (h : aop P s nid G op K) : ∃ v new vw', K v new vw' := by
  cases op <;> simp only [aop] at h
  case move => exact ⟨_, _, _, h⟩
  case assign => exact ⟨_, _, _, h⟩
  case pick =>
    split at h
    · exact ⟨_, _, _, h.2⟩
    · exact h.elim
  case alloc =>
    split at h
    · exact ⟨_, _, _, h.2.2⟩
    · exact h.elim
  case box => exact ⟨_, _, _, h.2.2⟩
  case build =>
    split at h
    · split at h
      · exact ⟨_, _, _, h.2.2.2⟩
      · exact h.elim
    · exact h.elim
  case buildSlice =>
    split at h
    · exact ⟨_, _, _, h.2.2.2.2⟩
    · exact h.elim
  case load =>
    obtain ⟨_, h⟩ := h
    unfold aLoad at h
    split at h
    · split at h
      · exact ⟨_, _, _, h.2⟩
      · exact h.elim
    · exact ⟨_, _, _, h.2⟩
    · exact h.elim
  case nilCheck =>
    obtain ⟨_, h⟩ := h
    split at h
    · exact ⟨_, _, _, h⟩
    · exact ⟨_, _, _, h⟩
    · exact h.elim
  case binOp op xt x y yt =>
    obtain ⟨_, h⟩ := h
    cases hn : isNil y with
    | false => rw [hn, cond_false] at h; exact aBin_some h
    | true =>
      rw [hn, cond_true] at h
      obtain ⟨_, _, h⟩ := h
      cases hv : (s.ev x).un <;> rw [hv] at h <;> simp only at h
      case sl xs => exact ⟨_, _, _, h false fun _ => rfl⟩
      case nsl => exact ⟨_, _, _, h false⟩
      case ref id =>
        split at h
        · exact ⟨_, _, _, h false fun _ => rfl⟩
        · exact h.elim
      case sub id lo n => exact ⟨_, _, _, h false fun _ => rfl⟩
  case unOp =>
    obtain ⟨_, h⟩ := h
    unfold aUn at h
    split at h
    · exact ⟨_, _, _, h.2⟩
    · exact ⟨_, _, _, h.2⟩
    · exact h.elim
  case convert =>
    obtain ⟨_, _, h⟩ := h
    split at h
    · exact ⟨_, _, _, h⟩
    · split at h
      · exact ⟨_, _, _, h.2⟩
      · exact h.elim
    · exact h.elim
  case makeFunc fn first cap =>
    cases fn <;> try exact h.elim
    exact ⟨_, _, _, h.2⟩
  case makeSlice =>
    split at h
    · split at h
      · exact ⟨_, _, _, h.2.2.2.2.2.2.2⟩
      · exact h.elim
    · exact h.elim
  case slice =>
    obtain ⟨_, _, h⟩ := h
    unfold aSlice at h
    split at h
    · obtain ⟨_, h⟩ := h
      split at h
      · exact ⟨_, _, _, h.2⟩
      · exact h.elim
    · obtain ⟨_, h⟩ := h
      split at h
      · exact ⟨_, _, _, h.2⟩
      · exact h.elim
    · split at h
      · obtain ⟨_, h⟩ := h
        split at h
        · exact ⟨_, _, _, h.2⟩
        · exact h.elim
      · exact h.elim
    · split at h
      · obtain ⟨_, h⟩ := h
        split at h
        · exact ⟨_, _, _, h.2⟩
        · exact h.elim
      · exact h.elim
    · exact h.elim
  case fieldAddr =>
    obtain ⟨_, h⟩ := h
    unfold aFieldAddr at h
    split at h
    · split at h
      · obtain ⟨_, h⟩ := h
        split at h
        · exact ⟨_, _, _, h⟩
        · exact ⟨_, _, _, h⟩
        · exact h.elim
      · exact h.elim
    · exact h.elim
  case field =>
    obtain ⟨_, h⟩ := h
    unfold aField at h
    split at h
    · split at h
      · split at h
        · exact ⟨_, _, _, h.2⟩
        · exact h.elim
      · exact h.elim
    · exact h.elim
  case indexAddr =>
    obtain ⟨_, h⟩ := h
    unfold aIndexAddr at h
    split at h
    · exact ⟨_, _, _, h.2.2⟩
    · split at h
      · exact ⟨_, _, _, h.2.2⟩
      · exact h.elim
    · split at h
      · exact ⟨_, _, _, h.2.2⟩
      · exact h.elim
    · exact h.elim
  case index =>
    obtain ⟨_, _, h⟩ := h
    unfold aIndex at h
    split at h
    · exact ⟨_, _, _, h.2⟩
    · exact h.elim
  case extract =>
    obtain ⟨_, h⟩ := h
    unfold aExtract at h
    split at h
    · exact ⟨_, _, _, h.2⟩
    · exact h.elim
  case call c =>
    obtain ⟨callee, args, tys⟩ := c
    cases callee <;> try exact h.elim
    rename_i b
    cases b <;> try exact h.elim
    case len =>
      obtain ⟨_, _, _, _, h⟩ := h
      unfold aLen at h
      split at h
      · exact ⟨_, _, _, h⟩
      · exact ⟨_, _, _, h⟩
      · exact ⟨_, _, _, h⟩
      · split at h
        · exact ⟨_, _, _, h⟩
        · exact h.elim
      · exact ⟨_, _, _, h⟩
      · exact h.elim
    all_goals
      obtain ⟨_, h⟩ := h
      unfold aMinMax at h
      split at h
      · exact ⟨_, _, _, h.2⟩
      · exact h.elim
  all_goals exact h.elim

theorem rep_wrap_true {v : V} {x : Value} {bl : List Nat} (h : Rep w μ v x bl) : Rep w μ (v.wrap true) x bl := by
  cases v with
  | opt g v => simpa [V.wrap] using h
  | _ => exact .optT _ _ _ h

theorem rep_wrap_false (v : V) : Rep w μ (v.wrap false) undef [] := by
  cases v with
  | opt g v => simp only [V.wrap, Bool.false_and]; exact .optF _
  | _ => exact .optF _

theorem Gives.wrap {v : Value} {w' : World} {val : V} {new : List Blk} {vw' : Bool} (g : Gives cx s nid w μ ow v w' val new vw') : Gives cx s nid w μ ow v w' (val.wrap true) new vw' := by
  obtain ⟨g1, g2, locs, ow', h1, h2, h3, h4, h5⟩ := g
  refine ⟨g1, g2, locs, ow', h1, h2, h3, h4, fun μ' hm hl => ?_⟩
  obtain ⟨⟨bl, r1, r2⟩, k⟩ := h5 μ' hm hl
  exact ⟨⟨bl, rep_wrap_true r1, r2⟩, k⟩

theorem St.put_nil (s : St) (d : Option Nat) (v : V) : s.put d v [] s.vw = s.set d v := by cases d <;> simp [St.put, St.set]
theorem St.O_nil (s : St) : ({ s with O := s.O ++ [] } : St) = s := by simp

theorem Rel.optTrue {d : Option Nat} {v : V} (h : Rel cx (s.set d v) a w μ ow) : Rel cx (s.set d (.opt true v)) a w μ ow := by
  refine ⟨h.dfr, by cases d <;> exact h.sz, fun t => ?_, by cases d <;> exact h.blk, by cases d <;> exact h.dom, h.owl, h.own, h.frm, h.mu⟩
  cases d with
  | none => exact h.env t
  | some d =>
    obtain ⟨bl, r1, r2⟩ := h.env t
    by_cases e : Nat.beq t d = true
    · have e1 : (s.set (some d) v).get t = v := by simp [St.get, St.set, look, e]
      have e2 : (s.set (some d) (.opt true v)).get t = .opt true v := by simp [St.get, St.set, look, e]
      rw [e1] at r1
      rw [e2]
      exact ⟨bl, .optT _ _ _ r1, r2⟩
    · have e0 : Nat.beq t d = false := Bool.eq_false_iff.2 e
      have e1 : (s.set (some d) v).get t = s.get t := by simp [St.get, St.set, look, e0]
      have e2 : (s.set (some d) (.opt true v)).get t = s.get t := by simp [St.get, St.set, look, e0]
      rw [e1] at r1
      rw [e2]
      exact ⟨bl, r1, r2⟩

theorem guard_sound (h : ∀ t, ∃ bl, Rep w μ (s.get t) (a.tmps.getD t undef) bl ∧ ∀ b ∈ bl, VOK cx ow s.vw b) {rg : Array Oper} {j : Nat} {want G : Bool} (hg : guardV s rg j want = some G) (ho : o.guard = some (j, want)) :
    Region.wanted o (yielded rg a.tmps) = G := by
  unfold guardV at hg
  unfold Region.wanted
  rw [ho]
  simp only
  unfold yielded
  cases hd : (rg[j]?).bind (·.dst) with
  | none => rw [hd] at hg; cases hg
  | some d =>
    rw [hd] at hg
    obtain ⟨bl, r, _⟩ := h d
    simp only [Option.bind_some]
    have hx : ∀ b, a.tmps.getD d undef = .bool b → a.tmps[d]? = some (.bool b) := by
      intro b e
      rw [Array.getD_eq_getD_getElem?] at e
      cases q : a.tmps[d]? with
      | none => rw [q] at e; cases e
      | some v => rw [q] at e; simp at e; rw [e]
    simp only at hg
    generalize hv : s.get d = v at *
    split at hg
    · rename_i b
      simp only [Option.some.injEq] at hg
      subst hg
      rw [hx b r.bool_inv]
      cases b <;> cases want <;> rfl
    · rename_i g b
      simp only [Option.some.injEq] at hg
      subst hg
      cases g with
      | false =>
        have e : a.tmps.getD d undef = undef := by
          generalize a.tmps.getD d undef = x at r
          cases r; rfl
        rw [Array.getD_eq_getD_getElem?] at e
        cases q : a.tmps[d]? with
        | none => rfl
        | some v => rw [q] at e; simp at e; subst e; rfl
      | true =>
        have e : a.tmps.getD d undef = .bool b := by
          generalize a.tmps.getD d undef = x at r
          cases r with
          | optT _ _ _ r => exact r.bool_inv
        rw [hx b e]
        cases b <;> cases want <;> rfl
    · cases hg

/-- A STEP IN THE ORDER OF THE TEXT. -/
theorem aStepM_sound (h : Rel cx s a w μ ow) {rg : Array Oper} {K : St → Prop} (hk : aStepM P L rg o s K) {next : Act → World → Prop} {Q : Exit → Act → World → Prop}
    (hnext : ∀ s' a' w' μ' ow', Rel cx s' a' w' μ' ow' → s'.n = s.n → K s' → next a' w') :
    if Region.wanted o (yielded rg a.tmps) then o.wp P a w next Q else next (a.put o.dst undef) w := by
  obtain ⟨hd, hk⟩ := hk
  have setn : ∀ (s' : St) d v, (s'.set d v).n = s'.n := by intro s' d v; cases d <;> rfl
  cases hg : o.guard with
  | none =>
    rw [hg] at hk
    have : Region.wanted o (yielded rg a.tmps) = true := by simp [Region.wanted, hg]
    rw [if_pos this]
    exact aExec_sound h hd hk fun v val s' w' μ' ow' hrel hn hK => hnext _ _ _ _ _ hrel ((setn _ _ _).trans hn) hK
  | some jw =>
    obtain ⟨j, want⟩ := jw
    rw [hg] at hk
    simp only at hk
    cases hv : guardV s rg j want with
    | none => rw [hv] at hk; exact hk.elim
    | some G =>
      rw [hv] at hk
      simp only at hk
      have hw := guard_sound (o := o) h.env hv hg
      rw [hw]
      have both : ((G = true → aExec P L s o fun v s' => K (s'.set o.dst v)) ∧ (G = false → K (s.set o.dst (.opt false .any)))) → if G = true then o.wp P a w next Q else next (a.put o.dst undef) w := by
        rintro ⟨h1, h2⟩
        cases G with
        | true =>
          rw [if_pos rfl]
          exact aExec_sound h hd (h1 rfl) fun v val s' w' μ' ow' hrel hn hK => hnext _ _ _ _ _ hrel ((setn _ _ _).trans hn) hK
        | false =>
          rw [if_neg (by simp)]
          exact hnext _ _ _ _ _ (h.set hd ⟨[], .optF _, by simp⟩) (setn _ _ _) (h2 rfl)
      cases ht : optable o.op with
      | true =>
        rw [ht, cond_true] at hk
        cases G with
        | true =>
          rw [if_pos rfl]
          obtain ⟨v, w', val, new, vw', hrun, g, e1, e2, hK⟩ := aop_sound h.sup hk
          subst e1; subst e2
          obtain ⟨μ', ow', hrel⟩ := h.put (d := o.dst) (fun t e => by rw [e] at hd; exact hd) g.wrap
          rw [St.put_nil] at hrel
          unfold Oper.wp
          rw [hrun, Oper.upon_value]
          exact hnext _ _ _ _ _ hrel (setn _ _ _) hK
        | false =>
          rw [if_neg (by simp)]
          obtain ⟨v, new, vw', _, _, hK⟩ := aop_some hk
          exact hnext _ _ _ _ _ (h.set hd ⟨[], rep_wrap_false v, by simp⟩) (setn _ _ _) hK
      | false =>
        rw [ht, cond_false] at hk
        split at hk
        · cases hs : scalarT P o.type with
          | true =>
            rw [hs, cond_true] at hk
            obtain ⟨r, h1, h2⟩ := hk
            cases G with
            | true =>
              rw [if_pos rfl]
              refine aExec_sound h hd (h1 rfl) fun v val s' w' μ' ow' hrel hn hK => ?_
              obtain ⟨rfl, rfl⟩ := hK
              rw [St.O_nil] at hrel
              exact hnext _ _ _ _ _ hrel.optTrue (setn _ _ _) h2
            | false =>
              rw [if_neg (by simp)]
              exact hnext _ _ _ _ _ (h.set hd ⟨[], .optF _, by simp⟩) (setn _ _ _) h2
          | false =>
            rw [hs, cond_false] at hk
            exact both hk
        · exact both hk

theorem aStep_sound (h : Rel cx s a w μ ow) {rg : Array Oper} {K : St → Prop} (hk : aStep P L rg o s K) {next : Act → World → Prop} {Q : Exit → Act → World → Prop}
    (hnext : ∀ s' a' w' μ' ow', Rel cx s' a' w' μ' ow' → s'.n = s.n → K s' → next a' w') :
    if Region.wanted o (yielded rg a.tmps) then o.wp P a w next Q else next (a.put o.dst undef) w := by
  rcases hk with hk | ⟨hd, j, want, hg, hv, hk⟩
  · exact aStepM_sound h hk hnext
  · rw [guard_sound (o := o) h.env hv hg, if_neg (by simp)]
    exact hnext _ _ _ _ _ (h.set hd ⟨[], .optF _, by simp⟩) (by cases o.dst <;> rfl) hk

theorem aOps_sound {rg : Array Oper} {K : St → Prop} {Q : Exit → Act → World → Prop} : ∀ (l : List Oper) {s : St} {a : Act} {w : World} {μ : Nat → Option Loc} {ow : Ow}, Rel cx s a w μ ow → aOps P L rg K l s →
    (∀ s' a' w' μ' ow', Rel cx s' a' w' μ' ow' → s'.n = s.n → K s' → Q .normal a' w') → wpList P rg Q l a w
  | [], s, a, w, μ, ow, h, hk, hq => hq s a w μ ow h rfl hk
  | o :: rest, s, a, w, μ, ow, h, hk, hq => by
    have hstep := aStep_sound (next := wpList P rg Q rest) (Q := Q) h hk fun s' a' w' μ' ow' hrel hn hK => aOps_sound rest hrel hK fun s2 a2 w2 μ2 ow2 r2 n2 k2 => hq s2 a2 w2 μ2 ow2 r2 (n2.trans hn) k2
    unfold wpList
    split
    · rename_i hw
      rw [if_pos hw] at hstep
      exact .inl hstep
    · rename_i hw
      rw [if_neg hw] at hstep
      exact hstep

theorem look_filter (p : Nat → Bool) : ∀ (l : List (Nat × V)) (t : Nat), look t (l.filter fun q => p q.1) = if p t then look t l else .any
  | [], t => by simp [look]
  | (k, v) :: l, t => by
    have ih := look_filter p l t
    rw [List.filter_cons]
    by_cases hk : p k = true
    · rw [if_pos hk]
      cases e : Nat.beq t k with
      | true =>
        have := Nat.eq_of_beq_eq_true e
        subst this
        simp [look, hk]
      | false =>
        simp only [look, e, cond_false]
        exact ih
    · rw [if_neg hk]
      cases e : Nat.beq t k with
      | true =>
        have := Nat.eq_of_beq_eq_true e
        subst this
        rw [ih]; simp [hk]
      | false =>
        simp only [look, e, cond_false]
        exact ih

/-- Forgetting. -/
theorem Rel.forget {env' : List (Nat × V)} (h : Rel cx s a w μ ow) (he : ∀ t, look t env' = s.get t ∨ look t env' = .any) {m : Nat} : Rel cx { s with env := env', mask := m } a w μ ow := by
  refine ⟨h.dfr, h.sz, fun t => ?_, h.blk, h.dom, h.owl, h.own, h.frm, h.mu⟩
  rcases he t with e | e
  · obtain ⟨bl, r1, r2⟩ := h.env t
    exact ⟨bl, by show Rep w μ (look t env') _ bl; rw [e]; exact r1, r2⟩
  · exact ⟨[], by show Rep w μ (look t env') _ []; rw [e]; exact .any _, by simp⟩

theorem Rel.trim (h : Rel cx s a w μ ow) : Rel cx s.trim a w μ ow := by
  refine h.forget (m := s.mask) fun t => ?_
  rw [look_filter]
  by_cases q : Nat.testBit s.mask t = true
  · left; rw [if_pos q]; rfl
  · right; rw [if_neg q]

theorem Rel.drew (h : Rel cx s a w μ ow) : ∃ μ' ow', Rel cx s a { w with drawn := w.drawn + 1 } μ' ow' := by
  have g : Gives cx s s.O.length w μ ow undef { w with drawn := w.drawn + 1 } .any [] s.vw :=
    ⟨Ext.drew w, id, [], ow, rfl, fun _ _ => rfl, fun _ _ => rfl, h.owl, fun μ' _ _ => ⟨⟨[], .any _, by simp⟩, by simp⟩⟩
  obtain ⟨μ', ow', hr⟩ := h.put (d := none) (fun t e => by cases e) g
  refine ⟨μ', ow', ?_⟩
  rw [St.put_nil] at hr
  exact hr

theorem aAny_sound {rg : Array Oper} {K : St → Prop} {Q : Exit → Act → World → Prop} : ∀ (fuel : Nat) (listed : Array Bool) {s : St} {a : Act} {w : World} {μ : Nat → Option Loc} {ow : Ow}, Rel cx s a w μ ow → aAny P L rg K fuel listed s →
    (∀ s' a' w' μ' ow', Rel cx s' a' w' μ' ow' → K s' → Q .normal a' w') → wpAny P .any rg Q fuel listed a w := by
  intro fuel
  induction fuel with
  | zero => intro listed s a w μ ow h hk hq; exact ⟨hk.1, hq _ _ _ _ _ h hk.2⟩
  | succ fuel ih =>
    intro listed s a w μ ow h hk hq
    refine ⟨fun h0 => hq _ _ _ _ _ h (hk.1 h0), fun i hi => ?_⟩
    unfold wpOp
    cases ho : rg[i]? with
    | none =>
      obtain ⟨_, o, ho', _⟩ := mem_ready.1 hi
      rw [ho] at ho'; cases ho'
    | some o =>
      have := aStep_sound (next := wpAny P .any rg Q fuel (listed.setIfInBounds i true)) (Q := Q) h (hk.2 i hi o ho) fun s' a' w' μ' ow' hrel _ hK => ih _ hrel hK hq
      simp only
      split
      · rename_i hw; rw [if_pos hw] at this; exact .inl this
      · rename_i hw; rw [if_neg hw] at this; exact this

def toExit : AEx → Exit
  | .normal => .normal
  | .exit id => .exit id
  | .ret => .ret

/-- THE CODE DOES WHAT 'awp' SAYS. -/
theorem awp_sound {m : Nat} (hm : ∀ id, m ≤ id → cx.mu0 id = none) : ∀ (c : Code) {Q : AEx → St → Prop} {Q' : Exit → Act → World → Prop} {s : St} {a : Act} {w : World} {μ : Nat → Option Loc} {ow : Ow}, Rel cx s a w μ ow → awp P L m c Q s →
    (∀ e s' a' w' μ' ow', Rel cx s' a' w' μ' ow' → Q e s' → Q' (toExit e) a' w') → c.wp P Q' a w := by
  intro c
  induction c with
  | skip => intro Q Q' s a w μ ow h hk hq; exact wp_skip (hq .normal s a w μ ow h hk)
  | region id ops draw =>
    intro Q Q' s a w μ ow h hk hq
    cases draw with
    | true =>
      simp only [awp] at hk
      obtain ⟨hmx, hk⟩ := hk
      obtain ⟨μ', ow', h'⟩ := h.drew
      refine wp_region_any hmx (aAny_sound _ _ h' hk fun s' a' w' μ' ow' hrel hK => ?_)
      obtain ⟨s₁, hw, hK⟩ := hK
      obtain ⟨μ₁, ow₁, hrel₁⟩ := hw _ _ _ _ _ hm hrel
      exact hq .normal _ _ _ _ _ hrel₁ hK
    | false =>
      simp only [awp] at hk
      exact wp_region_list (aOps_sound ops.toList h hk fun s' a' w' μ' ow' hrel _ hK => hq .normal _ _ _ _ _ hrel hK)
  | seq x y ihx ihy =>
    intro Q Q' s a w μ ow h hk hq
    simp only [awp] at hk
    refine wp_seq (ihx h hk fun e s' a' w' μ' ow' hrel hK => ?_)
    cases e with
    | normal =>
      obtain ⟨s₁, hw, hK⟩ := hK
      obtain ⟨μ₁, ow₁, hrel₁⟩ := hw _ _ _ _ _ hm hrel
      exact ihy hrel₁ hK hq
    | exit id => exact hq _ _ _ _ _ _ hrel hK
    | ret => exact hq _ _ _ _ _ _ hrel hK
  | cond c x y ihx ihy =>
    intro Q Q' s a w μ ow h hk hq
    simp only [awp] at hk
    split at hk
    · rename_i b hc
      obtain ⟨bl, r, _⟩ := h.sup.ev c
      rw [hc] at r
      exact wp_cond_split r.bool_inv (fun e => ihx h (hk.1 e) hq) (fun e => ihy h (hk.2 e) hq)
    · exact hk.elim
  | block id x ih =>
    intro Q Q' s a w μ ow h hk hq
    simp only [awp] at hk
    refine wp_block (ih h hk fun e s' a' w' μ' ow' hrel hK => ?_)
    cases e with
    | normal => exact hq _ _ _ _ _ _ hrel hK
    | ret => exact hq _ _ _ _ _ _ hrel hK
    | exit i =>
      simp only [toExit, Exit.inBlock]
      by_cases e : i = id
      · rw [if_pos e]
        simp only [e, if_true] at hK
        exact hq _ _ _ _ _ _ hrel hK
      · rw [if_neg e]
        simp only [e, if_false] at hK
        exact hq (.exit i) _ _ _ _ _ hrel hK
  | loop x ih =>
    intro Q Q' s a w μ ow h hk hq
    simp only [awp] at hk
    obtain ⟨n, hk⟩ := hk
    -- how many rounds are left at most
    let I : Act → World → Nat → Prop := fun a w n => ∃ s μ ow, Rel cx s a w μ ow ∧ loopN m (awp P L m x) Q n s
    intro b k cs
    have key : ∀ n a w, I a w n → ∃ e a' w', Q' e a' w' ∧ Arrives P (lone (b.at a (.code x :: .inLoop x :: k)) cs w) b k cs e a' w' := by
      intro n
      induction n with
      | zero => rintro a w ⟨s, μ, ow, _, hk⟩; exact hk.elim
      | succ n ihn =>
        rintro a w ⟨s₀, μ₀, ow₀, h₀, s, hw, hk⟩
        obtain ⟨μ, ow, h⟩ := hw _ _ _ _ _ hm h₀
        have h1 : x.wp P (Exit.then (fun a' w' => I a' w' n) Q') a w := ih h hk fun e s' a' w' μ' ow' hrel hK => by
          cases e with
          | normal => exact ⟨s', μ', ow', hrel, hK⟩
          | exit id => exact hq _ _ _ _ _ _ hrel hK
          | ret => exact hq _ _ _ _ _ _ hrel hK
        obtain ⟨e, a₁, w₁, hq₁, harr⟩ := h1 b (.inLoop x :: k) cs
        cases e with
        | normal =>
          obtain ⟨e₂, a₂, w₂, hq₂, harr₂⟩ := ihn a₁ w₁ hq₁
          exact ⟨e₂, a₂, w₂, hq₂, .of_steps (Steps.trans harr (.one step_inLoop)) harr₂⟩
        | exit id => exact ⟨_, a₁, w₁, hq₁, .pass (x := .inLoop x) rfl (fun _ _ => .inl (by simp)) harr⟩
        | goto l => exact ⟨_, a₁, w₁, hq₁, .pass (x := .inLoop x) rfl (fun _ _ => .inl (by simp)) harr⟩
        | ret => exact ⟨_, a₁, w₁, hq₁, .pass (x := .inLoop x) rfl (fun _ _ => .inl (by simp)) harr⟩
        | panic ch => exact ⟨_, a₁, w₁, hq₁, .pass (x := .inLoop x) rfl (fun _ _ => .inl (by simp)) harr⟩
        | outgrown => exact ⟨_, a₁, w₁, hq₁, .pass (x := .inLoop x) rfl (fun _ _ => .inl (by simp)) harr⟩
    obtain ⟨e, a', w', hq', harr⟩ := key n a w ⟨s, μ, ow, h, hk⟩
    exact ⟨e, a', w', hq', .of_steps (.one step_loop) harr⟩
  | exit id => intro Q Q' s a w μ ow h hk hq; exact wp_exit (hq (.exit id) s a w μ ow h hk)
  | ret => intro Q Q' s a w μ ow h hk hq; exact wp_ret (hq .ret s a w μ ow h hk)
  | rangeFunc => intro Q Q' s a w μ ow h hk hq; exact hk.elim
  | scope => intro Q Q' s a w μ ow h hk hq; exact hk.elim
  | label => intro Q Q' s a w μ ow h hk hq; exact hk.elim
  | goto => intro Q Q' s a w μ ow h hk hq; exact hk.elim
  | refuse => intro Q Q' s a w μ ow h hk hq; exact hk.elim

end
end Go.Vm
