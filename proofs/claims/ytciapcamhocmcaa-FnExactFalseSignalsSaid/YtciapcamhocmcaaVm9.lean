/- The value machine, part 9: a call in the caller's state. -/
import Derived.Test.YtciapcamhocmcaaVm8
set_option linter.unusedSimpArgs false
set_option linter.unusedVariables false
namespace Go.Vm
open Go

section
variable {P : Program} {cx : Cx} {s : St} {a : Act} {w : World} {μ : Nat → Option Loc} {ow : Ow}

theorem toArgs_get : ∀ {args args' : List V} {ls : List Nat}, toArgs s ls args = some args' → args.length = args'.length ∧ ∀ (i : Nat) (v' : V), args'[i]? = some v' → ∃ v, args[i]? = some v ∧ toArg s ls v = some v'
  | [], args', ls, h => by
    simp only [toArgs, Option.some.injEq] at h
    subst h
    exact ⟨rfl, fun i v' e => by simp at e⟩
  | c :: cs, args', ls, h => by
    unfold toArgs at h
    cases q1 : toArg s ls c with
    | none => rw [q1] at h; cases h
    | some c' =>
      cases q2 : toArgs s ls cs with
      | none => rw [q1, q2] at h; cases h
      | some cs2 =>
        rw [q1, q2] at h
        simp only [Option.some.injEq] at h
        subst h
        obtain ⟨l1, l2⟩ := toArgs_get q2
        refine ⟨by simp [l1], fun i v' e => ?_⟩
        cases i with
        | zero => simp only [List.getElem?_cons_zero, Option.some.injEq] at e; subst e; exact ⟨c, rfl, q1⟩
        | succ i => simpa using l2 i v' (by simpa using e)

theorem mapM_get {α : Type} {f : Nat → Option α} : ∀ {ls : List Nat} {r : List α}, ls.mapM f = some r → ls.length = r.length ∧ ∀ (j : Nat) (y : α), r[j]? = some y → ∃ id, ls[j]? = some id ∧ f id = some y
  | [], r, h => by
    simp at h; subst h
    exact ⟨rfl, fun j y e => by simp at e⟩
  | x :: ls, r, h => by
    rw [List.mapM_cons] at h
    cases q1 : f x with
    | none => rw [q1] at h; simp at h
    | some y0 =>
      cases q2 : ls.mapM f with
      | none => rw [q1, q2] at h; simp at h
      | some r2 =>
        rw [q1, q2] at h
        simp at h
        subst h
        obtain ⟨l1, l2⟩ := mapM_get q2
        refine ⟨by simp [l1], fun j y e => ?_⟩
        cases j with
        | zero => simp only [List.getElem?_cons_zero, Option.some.injEq] at e; subst e; exact ⟨x, rfl, q1⟩
        | succ j => simpa using l2 j y (by simpa using e)

theorem noSl_list : ∀ {cs : List V} {vs : List Value} {bl : List Nat}, RepL w μ cs vs bl → cs.all V.noSl = true → bl = []
  | _, _, _, .nil, _ => rfl
  | _, _, _, .cons c x b1 _ xs b2 hc ht, hn => by
    rw [List.all_cons, Bool.and_eq_true] at hn
    rw [noSl_nil hc hn.1, noSl_list ht hn.2]; rfl

theorem clean_nil {r : V} {v : Value} {bl : List Nat} (h : Rep w μ r v bl) (hc : r.clean = true) : bl = [] := by
  cases r with
  | tup vs => cases h with
    | tup _ xs _ hl => exact noSl_list hl hc
  | _ => exact noSl_nil h hc

theorem row_of_blk {id : Nat} {bk : Blk} (h : s.O[id]? = some bk) : s.row id = bk.row := by simp [St.row, h]

theorem call_state {K : V → St → Prop} (h : Rel cx s a w μ ow) (f : FuncId) (ls : List Nat) (args : List V) (vals : Array Value) (hv : vals.size = args.length)
    (hrep : ∀ i V, args[i]? = some V → ∃ bl, Rep w μ V (vals.getD i undef) bl ∧ ∀ b ∈ bl, VOK cx ow s.vw b) (hk : aCall P s f ls args K) :
    Calls P f vals w fun e w' => ∃ v, e = .returned v ∧ ∃ val s' μ2 ow2, Rel cx s' a w' μ2 ow2 ∧ s'.n = s.n ∧ (∃ bl, Rep w' μ2 val v bl ∧ ∀ b ∈ bl, VOK cx ow2 s'.vw b) ∧ K val s' := by
  obtain ⟨args', Ols, r, O', hargs, hOls, hnd, hOk, hfl, hcon, hclean, hK⟩ := hk
  obtain ⟨la, ga⟩ := toArgs_get hargs
  obtain ⟨lo, go⟩ := mapM_get hOls
  have hsup := h.sup
  have hlt : ∀ id ∈ ls, id < s.O.length := by
    intro id hid
    obtain ⟨j, hj⟩ := List.getElem?_of_mem hid
    have hjl : j < Ols.length := by
      rw [← lo]
      rcases Nat.lt_or_ge j ls.length with q | q
      · exact q
      · rw [List.getElem?_eq_none q] at hj; cases hj
    obtain ⟨id', h1, h2⟩ := go j _ (List.getElem?_eq_getElem hjl)
    rw [hj] at h1
    simp only [Option.some.injEq] at h1
    subst h1
    rcases Nat.lt_or_ge id s.O.length with q | q
    · exact q
    · rw [List.getElem?_eq_none q] at h2; cases h2
  have hlent : ∀ (j id : Nat), ls[j]? = some id → ∃ bk, s.O[id]? = some bk ∧ Ols[j]? = some bk ∧ bk ∈ Ols := by
    intro j id hj
    have hjl : j < Ols.length := by
      rw [← lo]
      rcases Nat.lt_or_ge j ls.length with q | q
      · exact q
      · rw [List.getElem?_eq_none q] at hj; cases hj
    obtain ⟨id', h1, h2⟩ := go j _ (List.getElem?_eq_getElem hjl)
    rw [hj] at h1
    simp only [Option.some.injEq] at h1
    subst h1
    exact ⟨_, h2, List.getElem?_eq_getElem hjl, List.getElem_mem hjl⟩
  have hf : s.vw = false ∨ ∀ id ∈ ls, deepAt s id = false := by
    refine hfl.imp (fun q => q) fun q id hid => ?_
    obtain ⟨j, hj⟩ := List.getElem?_of_mem hid
    obtain ⟨bk, h1, _, h3⟩ := hlent j id hj
    have := q bk h3
    have hne := (hOk bk h3).2
    unfold deepAt
    rw [row_of_blk h1]
    cases bk with
    | dead => exact absurd rfl hne
    | arr xs k => have hk : k = .flat := by simpa [Blk.kindIs] using this
                  subst hk; rfl
    | box x k => have hk : k = .flat := by simpa [Blk.kindIs] using this
                 subst hk; rfl
  -- what may be read
  let vis : Nat → Prop := fun b => (ls = [] ∧ ∀ x ∈ args, x.cold = true) → VOK cx ow s.vw b
  have hinp : Inp w vals args' Ols (muC ls μ) (owC s ls ow) vis := by
    refine ⟨by rw [hv, la], ?_, ?_, ?_, ?_⟩
    · intro i v' e
      obtain ⟨v, e1, e2⟩ := ga i v' e
      obtain ⟨bl, r1, r2⟩ := hrep i v e1
      obtain ⟨bl', k1, k2, k3⟩ := toArg_rep hsup hlt hf r1 r2 e2
      exact ⟨bl', k1, fun b hb => ⟨k2 b hb, fun hc => r2 b (k3 (hc.2 v (List.mem_of_getElem? e1)) b hb)⟩⟩
    · intro j bk e
      obtain ⟨id, h1, h2⟩ := go j bk e
      have hb := h.blk id bk h2
      have hok := hOk bk (List.mem_of_getElem? e)
      have hmu : muC ls μ j = μ id := by simp [muC, h1]
      have hidx := idx_get hnd h1
      have key : ∀ xs k, k ≠ .mix → s.row id = some (xs, k) → (s.vw = true → k = .flat) → RowOK cx w μ ow s.vw id xs k → RowOK ⟨w, fun b => owC s ls ow b ≠ none, vis, muC ls μ⟩ w (muC ls μ) (owC s ls ow) false j xs k := by
        intro xs k hk hrow hvk ⟨l, q1, q2, q3⟩
        refine ⟨l, by rw [hmu]; exact q1, q2, ?_⟩
        rcases q3 with q3 | ⟨q3, q4, bl, q5, q6, q7⟩
        · exact .inl q3
        · refine .inr ⟨q3, by simp [owC, q4, hidx], bl, ?_, ?_, q7⟩
          · have e1 : k.mu μ = M0 := by cases k <;> first | rfl | exact absurd rfl hk
            have e2 : k.mu (muC ls μ) = M0 := by cases k <;> first | rfl | exact absurd rfl hk
            rw [e2, ← e1]; exact q5
          · cases k with
            | flat | thin => exact q6
            | deep =>
              have hd : deepAt s id = true := by simp [deepAt, hrow]
              exact ⟨q6.1, fun b hb => by simp [owC, q6.2 b hb, hidx, hd]⟩
            | shal =>
              intro b hb
              have hvw : s.vw = false := by
                cases e : s.vw with
                | false => rfl
                | true => have := hvk e; cases this
              refine ⟨.inl (owC_view (q6 b hb) (.inl hvw)), .inl fun _ => q6 b hb⟩
            | mix => exact absurd rfl hk
      have hvk : ∀ k, bk.row = some (bk.row.map (·.1) |>.getD [], k) → s.vw = true → k = .flat := by
        intro k hk hvw
        rcases hfl with q | q
        · rw [hvw] at q; cases q
        · have := q bk (List.mem_of_getElem? e)
          cases bk with
          | dead => exact absurd rfl hok.2
          | arr xs k' => simp [Blk.kindIs, Blk.row] at this hk; rw [← hk]; exact this
          | box x k' => simp [Blk.kindIs, Blk.row] at this hk; rw [← hk]; exact this
      cases bk with
      | dead => trivial
      | arr xs k => exact key xs k (by simpa [Blk.kindIs] using hok.1) (by rw [row_of_blk h2]; rfl) (hvk k rfl) hb
      | box x k => exact key [x] k (by simpa [Blk.kindIs] using hok.1) (by rw [row_of_blk h2]; rfl) (hvk k rfl) hb
    · intro j hj
      have : ls[j]? = none := List.getElem?_eq_none (by omega)
      simp [muC, this]
    · intro b hb
      obtain ⟨r', id, j, q1, _⟩ := owC_ne hb
      exact h.owl b (by rw [q1]; simp)
  refine (hcon.2 w vals _ _ vis hinp).mono ?_
  rintro e w' ⟨v, μ', ow', rfl, hout⟩
  refine ⟨v, rfl, r.ren (rho ls s.O.length), { s with O := setBlks s.O ls O' ++ O'.drop ls.length }, ?_⟩
  obtain ⟨⟨bl, rr, rv⟩, oblk, onomix, osame, olen, odom, oowl, oown, ofrm⟩ := hout
  let m := ls.length
  have hm : m = Ols.length := lo
  let nid := s.O.length
  let μ2 : Nat → Option Loc := fun id => if nid ≤ id then μ' (id - nid + m) else μ id
  let ow2 : Ow := fun b => match ow' b with
    | some (r', j) => some (r', rho ls nid j)
    | none => if owC s ls ow b = none then ow b else none
  -- what was not lent is as it was
  have hkeep : ∀ b, b < w.heap.size → owC s ls ow b = none → w'.heap[b]? = w.heap[b]? ∧ ow2 b = ow b := by
    intro b hb hn
    refine ⟨ofrm.old b hb (by simp [hn]), ?_⟩
    have h0 : ow' b = none := by
      cases q : ow' b with
      | none => rfl
      | some z =>
        rcases oown b (by rw [q]; simp) with q1 | q1
        · exact absurd hn q1
        · omega
    simp [ow2, h0, hn]
  have hμ2 : MLe μ μ2 := by
    intro id l e
    have : ¬ nid ≤ id := fun q => by rw [h.dom id q] at e; cases e
    simp [μ2, this, e]
  have hren : ∀ id l, μ' id = some l → μ2 (rho ls nid id) = some l := by
    intro id l e
    unfold rho
    by_cases hid : id < ls.length
    · rw [if_pos hid]
      have hg : ls[id]? = some (ls.getD id 0) := by simp [hid]
      have hlt' : ls.getD id 0 < nid := hlt _ (List.mem_of_getElem? hg)
      have hsome : ∃ l', muC ls μ id = some l' := by
        obtain ⟨bk, h1, h2, h3⟩ := hlent id _ hg
        have hb := h.blk _ bk h1
        have hne := (hOk bk h3).2
        have hmu : muC ls μ id = μ (ls.getD id 0) := by simp only [muC, hg, Option.bind_some]
        rw [hmu]
        cases bk with
        | dead => exact absurd rfl hne
        | arr xs k => obtain ⟨l', q, _⟩ := hb; exact ⟨l', q⟩
        | box x k => obtain ⟨l', q, _⟩ := hb; exact ⟨l', q⟩
      obtain ⟨l', hl'⟩ := hsome
      have := osame id l' hl'
      rw [e] at this
      simp only [Option.some.injEq] at this
      subst this
      have hmu : muC ls μ id = μ (ls.getD id 0) := by simp only [muC, hg, Option.bind_some]
      rw [hmu] at hl'
      simp only [μ2, if_neg (Nat.not_le.2 hlt'), hl']
    · rw [if_neg hid]
      have e1 : nid ≤ nid + (id - ls.length) := by omega
      have e2 : nid + (id - ls.length) - nid + m = id := by show _ + ls.length = id; omega
      simp only [μ2, e1, if_true, e2, e]
  have hviewKeep : ∀ b, b < w.heap.size → VOK cx ow s.vw b → w'.heap[b]? = w.heap[b]? ∧ ow2 b = ow b := fun b hb hv => hkeep b hb (owC_view hv hf)
  have hfresh : ∀ b, w.heap.size ≤ b → ow b = none := by
    intro b hb
    cases q : ow b with
    | none => rfl
    | some z => have := (h.owl b (by rw [q]; simp)).lt; omega
  -- a view that the callee hands back
  have hback : (ls = [] ∧ ∀ x ∈ args, x.cold = true) → ∀ b, ow' b = none → (vis b ∨ owC s ls ow b ≠ none ∨ w.heap.size ≤ b) → VOK cx ow2 s.vw b := by
    intro hc b h0 hb
    have hno : owC s ls ow b = none := by
      cases q : owC s ls ow b with
      | none => rfl
      | some z =>
        obtain ⟨_, _, _, _, e2, _⟩ := owC_ne (s := s) (ow := ow) (ls := ls) (b := b) (by rw [q]; simp)
        rw [hc.1] at e2; simp [idx] at e2
    have h2 : ow2 b = ow b := by simp [ow2, h0, hno]
    rcases hb with hb | hb | hb
    · exact (hb hc).mono h2 (fun q => q)
    · exact absurd hno hb
    · exact ⟨.inl (h2.trans (hfresh b hb)), .inr (.inr (Nat.le_trans h.frm.size hb))⟩
  refine ⟨μ2, ow2, ⟨h.dfr, h.sz, ?_, ?_, ?_, ?_, ?_, ?_, h.mu.trans hμ2⟩, rfl, ⟨bl, rr.ren hren, ?_⟩, hK⟩
  · intro t
    obtain ⟨bt, k1, k2⟩ := h.env t
    exact ⟨bt, k1.keep hμ2 fun b hb => (hviewKeep b (k1.lt b hb) (k2 b hb)).1, fun b hb => (k2 b hb).mono (hviewKeep b (k1.lt b hb) (k2 b hb)).2 (fun q => q)⟩
  · intro id bk e
    -- a block that the callee left, at its new number
    have move : ∀ (j : Nat), O'[j]? = some bk → rho ls nid j = id → BlkOK cx w' μ2 ow2 s.vw id bk := by
      intro j hj hrho
      have hb := oblk j bk hj
      have hnm := onomix bk (List.mem_of_getElem? hj)
      have key : ∀ xs k, k ≠ .mix → (k ≠ .flat → k ≠ .deep → k ≠ .thin → (ls = [] ∧ ∀ x ∈ args, x.cold = true)) → RowOK ⟨w, fun b => owC s ls ow b ≠ none, vis, muC ls μ⟩ w' μ' ow' false j xs k → RowOK cx w' μ2 ow2 s.vw id xs k := by
        intro xs k hk hcl ⟨l, q1, q2, q3⟩
        have q1' := hren j l q1
        rw [hrho] at q1'
        refine ⟨l, q1', q2, ?_⟩
        rcases q3 with q3 | ⟨q3, q4, bl, q5, q6, q7⟩
        · exact .inl q3
        · refine .inr ⟨q3, by simp [ow2, q4, hrho], bl, ?_, ?_, q7⟩
          · have e1 : k.mu μ' = M0 := by cases k <;> first | rfl | exact absurd rfl hk
            have e2 : k.mu μ2 = M0 := by cases k <;> first | rfl | exact absurd rfl hk
            rw [e2, ← e1]; exact q5
          · cases k with
            | flat | thin => exact q6
            | deep => exact ⟨q6.1, fun b hb => by simp [ow2, q6.2 b hb, hrho]⟩
            | shal =>
              intro b hb
              have hvok := q6 b hb
              have h0 : ow' b = none := by
                rcases hvok.1 with q | ⟨q, _⟩
                · exact q
                · cases q
              exact hback (hcl (by simp) (by simp) (by simp)) b h0 hvok.2
            | mix => exact absurd rfl hk
      have hcl : ∀ k, bk.row = some (bk.row.map (·.1) |>.getD [], k) → k ≠ .flat → k ≠ .deep → k ≠ .thin → (ls = [] ∧ ∀ x ∈ args, x.cold = true) := by
        intro k hk h1 h2 h3
        rcases hclean with ⟨_, q⟩ | q
        · have := q bk (List.mem_of_getElem? hj)
          cases bk with
          | dead => cases hk
          | arr xs k' => simp [Blk.kindIs, Blk.row] at this hk; subst hk; exact absurd this (by cases k' <;> simp_all)
          | box x k' => simp [Blk.kindIs, Blk.row] at this hk; subst hk; exact absurd this (by cases k' <;> simp_all)
        · exact q
      cases bk with
      | dead => trivial
      | arr xs k => exact key xs k (by simpa [Blk.kindIs] using hnm) (hcl k rfl) hb
      | box x k => exact key [x] k (by simpa [Blk.kindIs] using hnm) (hcl k rfl) hb
    -- one that was the caller's and was not lent
    have stay : s.O[id]? = some bk → idx ls id = none → BlkOK cx w' μ2 ow2 s.vw id bk := by
      intro e0 hn
      refine (h.blk id bk e0).keep hμ2 (fun q => q) fun b hb hcase => hkeep b hb ?_
      rcases hcase with q | q | q
      · simp [owC, q, hn]
      · simp [owC, q, hn]
      · exact owC_view q hf
    by_cases hid : id < nid
    · have e1 : (setBlks s.O ls O')[id]? = some bk := by
        rw [List.getElem?_append_left (by rw [setBlks_len]; exact hid)] at e; exact e
      rw [setBlks_get ls s.O O' id hnd hlt] at e1
      cases q : idx ls id with
      | none => rw [q] at e1; exact stay e1 q
      | some j =>
        rw [q] at e1
        have hj := idx_spec q
        have hjl : j < O'.length := by
          have : j < ls.length := by
            rcases Nat.lt_or_ge j ls.length with z | z
            · exact z
            · rw [List.getElem?_eq_none z] at hj; cases hj
          omega
        simp only [List.getElem?_eq_getElem hjl, Option.some.injEq] at e1
        refine move j (by rw [List.getElem?_eq_getElem hjl, e1]) ?_
        have hjl2 : j < ls.length := by
          rcases Nat.lt_or_ge j ls.length with z | z
          · exact z
          · rw [List.getElem?_eq_none z] at hj; cases hj
        unfold rho
        rw [if_pos hjl2]
        simp [hj]
    · have hge : nid ≤ id := Nat.le_of_not_lt hid
      have e1 : (O'.drop ls.length)[id - nid]? = some bk := by
        rw [List.getElem?_append_right (by rw [setBlks_len]; exact hge), setBlks_len] at e; exact e
      rw [List.getElem?_drop] at e1
      refine move _ e1 ?_
      unfold rho
      rw [if_neg (by omega)]
      omega
  · intro id hid
    have hlen : (setBlks s.O ls O' ++ O'.drop ls.length).length = nid + (O'.length - ls.length) := by rw [List.length_append, setBlks_len, List.length_drop]
    have hid' : nid + (O'.length - ls.length) ≤ id := by rw [← hlen]; exact hid
    have h1 : nid ≤ id := by omega
    simp only [μ2, h1, if_true]
    exact odom _ (by show O'.length ≤ id - nid + ls.length; omega)
  · intro b hb
    simp only [ow2] at hb
    split at hb
    · rename_i r' j q
      exact oowl b (by rw [q]; simp)
    · split at hb
      · rename_i hno; exact (h.owl b hb).keep (hkeep b (h.owl b hb).lt hno).1
      · exact absurd rfl hb
  · intro b hb
    simp only [ow2] at hb
    split at hb
    · rename_i r' j q
      rcases oown b (by rw [q]; simp) with z | z
      · obtain ⟨_, _, _, z1, _⟩ := owC_ne z
        exact h.own b (by rw [z1]; simp)
      · exact .inr (Nat.le_trans h.frm.size z)
    · split at hb
      · exact h.own b hb
      · exact absurd rfl hb
  · refine ⟨Nat.le_trans h.frm.size ofrm.size, fun b hb hn => ?_, ofrm.os.trans h.frm.os, ofrm.tape.trans h.frm.tape, ofrm.output.trans h.frm.output, fun x hx => (ofrm.ice x (Nat.lt_of_lt_of_le hx h.frm.size)).trans (h.frm.ice x hx)⟩
    have hlt2 : b < w.heap.size := Nat.lt_of_lt_of_le hb h.frm.size
    have hno : owC s ls ow b = none := by
      cases q : owC s ls ow b with
      | none => rfl
      | some z =>
        obtain ⟨_, _, _, z1, _⟩ := owC_ne (s := s) (ow := ow) (ls := ls) (b := b) (by rw [q]; simp)
        rcases h.own b (by rw [z1]; simp) with y | y
        · exact absurd y hn
        · omega
    exact (hkeep b hlt2 hno).1.trans (h.frm.old b hb hn)
  · intro b hb
    rcases hclean with ⟨q, _⟩ | q
    · have : bl = [] := clean_nil rr q
      subst this; cases hb
    · exact hback q b (rv b hb).1 (rv b hb).2

end
end Go.Vm
