/- The value machine, part 6: the operations that make blocks. -/
import Derived.Test.YtciapcamhocmcaaVm5
set_option linter.unusedSimpArgs false
set_option linter.unusedVariables false
namespace Go.Vm
open Go

theorem foldl_seg (off : Nat) : ∀ (l : List Value) (k : Nat) (cs : Array Value), off + k + l.length ≤ cs.size →
    ((l.zipIdx k).foldl (fun (cs : Array Value) (p : Value × Nat) => cs.setIfInBounds (off + p.2) p.1) cs).toList = cs.toList.take (off + k) ++ l ++ cs.toList.drop (off + k + l.length)
  | [], k, cs, _ => by simp
  | x :: l, k, cs, h => by
    simp only [List.length_cons] at h
    rw [List.zipIdx_cons, List.foldl_cons, foldl_seg off l (k + 1) _ (by simp; omega)]
    have hlt : off + k < cs.toList.length := by simp; omega
    have e1 : (cs.setIfInBounds (off + k) x).toList = cs.toList.set (off + k) x := by simp
    rw [e1]
    have e2 : (cs.toList.set (off + k) x).take (off + (k + 1)) = cs.toList.take (off + k) ++ [x] := by
      rw [show off + (k + 1) = off + k + 1 from rfl, List.take_succ_eq_append_getElem (by simpa using hlt), List.take_set_of_le (Nat.le_refl _)]
      simp
    have e3 : (cs.toList.set (off + k) x).drop (off + (k + 1) + l.length) = cs.toList.drop (off + k + (x :: l).length) := by
      rw [List.drop_set_of_lt (by omega)]
      congr 1
      simp only [List.length_cons]; omega
    rw [e2, e3]
    simp

theorem seg (cs : Array Value) (off : Nat) (vs : Array Value) (h : off + vs.size ≤ cs.size) :
    (vs.zipIdx.foldl (init := cs) fun cs (c, j) => cs.setIfInBounds (off + j) c).toList = cs.toList.take off ++ vs.toList ++ cs.toList.drop (off + vs.size) := by
  have := foldl_seg off vs.toList 0 cs (by simpa using h)
  rw [Nat.add_zero] at this
  rw [← Array.foldl_toList, Array.toList_zipIdx]
  simpa using this

/-- 'fill' with every part in its turn. -/
theorem fill_lit (size : Nat) : ∀ (xs : List Value) (k : Nat) (cells : Array Value), (∀ x ∈ xs, x.cells.size = size) → (k + xs.length) * size = cells.size →
    Instr.fill (fun i => some (i * size, size)) cells ((List.range' k xs.length).zip xs) = some (cells.toList.take (k * size) ++ xs.flatMap fun x => x.cells.toList).toArray
  | [], k, cells, _, h => by
    simp only [List.length_nil, Nat.add_zero] at h
    simp only [List.length_nil, List.range'_zero, List.zip_nil_left, Instr.fill, h, List.flatMap_nil, List.append_nil]
    congr 1
    apply Array.ext'
    exact (List.take_of_length_le (by simp)).symm
  | x :: xs, k, cells, hx, h => by
    have hs := hx x (List.mem_cons_self ..)
    simp only [List.length_cons] at h
    have hle : k * size + x.cells.size ≤ cells.size := by rw [hs, ← h, Nat.add_mul, Nat.add_mul]; omega
    have hsz : (k + 1 + xs.length) * size = cells.size := by rw [← h]; congr 1; omega
    have hsg := seg cells (k * size) x.cells hle
    have hlen : (x.cells.zipIdx.foldl (init := cells) fun cs (c, j) => cs.setIfInBounds (k * size + j) c).size = cells.size := by
      rw [← Array.length_toList, hsg]
      simp; omega
    have ih := fill_lit size xs (k + 1) _ (fun y hy => hx y (List.mem_cons_of_mem _ hy)) (hsz.trans hlen.symm)
    rw [List.length_cons, List.range'_succ, List.zip_cons_cons]
    unfold Instr.fill
    have c1 : (x.cells.size ≠ size || k * size + x.cells.size > cells.size) = false := by simp [hs]; omega
    simp only [c1, Bool.false_eq_true, if_false]
    rw [ih, hsg]
    congr 2
    rw [List.flatMap_cons, ← List.append_assoc]
    congr 1
    have hl : (cells.toList.take (k * size) ++ x.cells.toList).length = (k + 1) * size := by
      rw [List.length_append, List.length_take, Array.length_toList, Array.length_toList, hs, Nat.min_eq_left (by omega), Nat.add_mul]; omega
    rw [← hl]
    exact List.take_left

section
variable {P : Program} {cx : Cx} {s : St} {nid : Nat} {a : Act} {w : World} {μ : Nat → Option Loc} {ow : Ow} {o : Oper} {K : KV}

/-- A value that fills cells. -/
theorem Rep.cells {x : V} {v : Value} {bl : List Nat} (h : Rep w μ x v bl) (hv : x.isVal = true) : RepL w μ x.cells v.cells.toList bl ∧ ∀ c ∈ v.cells.toList, c.oneCell' = true := by
  have one : ∀ {x : V} {v : Value} {bl : List Nat}, Rep w μ x v bl → x.cells = [x] → v.cells = #[v] → v.oneCell' = true → RepL w μ x.cells v.cells.toList bl ∧ ∀ c ∈ v.cells.toList, c.oneCell' = true := by
    intro x v bl h e1 e2 e3
    rw [e1, e2]
    refine ⟨by simpa using RepL.cons _ _ _ _ _ _ h .nil, fun c hc => ?_⟩
    simp at hc; subst hc; exact e3
  cases x with
  | any => simp [V.isVal] at hv
  | opt => simp [V.isVal] at hv
  | tup => simp [V.isVal] at hv
  | agg cs =>
    cases h with
    | agg _ vs _ hl h1 => exact ⟨hl, h1⟩
  | ref id =>
    cases h with
    | ref _ l _ hl hd => cases hd <;> exact one (.ref id l _ hl (by first | exact .real ‹_› | exact .nil _ ‹_› ‹_›)) rfl rfl rfl
  | _ => exact one h rfl (by cases h <;> rfl) (by cases h <;> rfl)

theorem contentL_rep : ∀ {cs : List V} {vs : List Value} {bl : List Nat}, RepL w μ cs vs bl → RepL w μ (contentL cs) vs bl
  | _, _, _, .nil => .nil
  | c :: cs, _, _, .cons _ x b1 _ xs b2 h ht => by
    have ih := contentL_rep ht
    unfold contentL at *
    simp only [List.map_cons]
    cases c <;> try exact .cons _ _ _ _ _ _ h ih
    cases h with
    | nsl q => exact .cons _ _ _ _ _ _ (.sl0 q 0) ih

theorem content_rep {x : V} {v : Value} {bl : List Nat} (h : Rep w μ x v bl) : Rep w μ (content x) v bl := by
  cases x <;> try exact h
  · cases h with
    | nsl q => exact .sl0 q 0
  · cases h with
    | agg _ vs _ hl h1 => exact .agg _ _ _ (contentL_rep hl) h1

theorem content_isVal {x : V} (h : x.isVal = true) : (content x).isVal = true := by cases x <;> first | exact h | rfl
theorem settle_isVal {x : V} : (settle nid x).1.isVal = x.isVal := by cases x <;> rfl

def bindOw (ow : Ow) (b id : Nat) : Ow := fun x => if x = b then some (true, id) else ow x

theorem heap_new (w : World) (ob : Obj) : (w.alloc ob).heap[w.heap.size]? = some ob := by
  show (w.heap.push ob)[w.heap.size]? = _
  rw [Array.getElem?_push, if_pos rfl]

theorem size_alloc (w : World) (ob : Obj) : (w.alloc ob).heap.size = w.heap.size + 1 := by
  show (w.heap.push ob).size = _
  simp

/-- A new block of cells reads as what it was made of. -/
theorem cells_new {μ' : Nat → Option Loc} {xs : List V} {vs : List Value} {bl : List Nat} {sz : Nat} (hne : xs ≠ []) (hm : MLe μ μ') (e : TypeId) (hl : RepL w μ (xs.flatMap V.cells) vs bl)
    (h1 : ∀ v ∈ vs, v.oneCell' = true) (hz : ∀ x ∈ xs, x.cells.length = sz) (hs : 0 < sz) :
    Cells (w.alloc (.cells vs.toArray e)) μ' ⟨w.heap.size, 0, sz, xs.length, xs.length, true⟩ xs bl := by
  refine ⟨Nat.le_refl _, hs, hz, vs.toArray, e, vs, heap_new w _, ?_, ?_, h1, ?_⟩
  · have := flatMap_len xs sz hz
    have h2 := hl.length
    simp only [List.size_toArray, Nat.zero_add]
    omega
  · exact hl.keep hm fun b hb => (Ext.alloc w _ _).old b (hl.lt b hb)
  · intro j x hj
    simpa using hj

theorem noRef_rep {x : V} {v : Value} {bl : List Nat} (h : Rep w μ x v bl) (hn : x.noRef = true) (ha : ∀ cs, x ≠ .agg cs) : Rep w M0 x v bl := by
  cases x <;> first | (simp [V.noRef] at hn; done) | (exact absurd rfl (ha _)) | skip
  case fn f cs =>
    have : cs = [] := by simpa [V.noRef] using hn
    subst this
    cases h with
    | fn _ _ _ _ hl => cases hl; exact .fn f [] [] [] .nil
  all_goals (cases h <;> (constructor <;> assumption))

theorem noRef_cells : ∀ {cs : List V} {vs : List Value} {bl : List Nat}, RepL w μ cs vs bl →
    (cs.all fun c => match c with | .ref _ | .sub _ _ _ | .ptr _ _ _ | .opt _ _ | .tup _ | .agg _ | .fn _ _ => false | _ => true) = true → RepL w M0 cs vs bl
  | _, _, _, .nil, _ => .nil
  | _, _, _, .cons c x b1 _ xs b2 hc ht, hn => by
    rw [List.all_cons, Bool.and_eq_true] at hn
    refine .cons _ _ _ _ _ _ ?_ (noRef_cells ht hn.2)
    have hn1 := hn.1
    refine noRef_rep hc ?_ ?_
    · cases c <;> first | rfl | (simp at hn1; done)
    · intro cs e; subst e; simp at hn1

theorem noRef_all : ∀ {xs : List V} {vs : List Value} {bl : List Nat}, RepL w μ (xs.flatMap V.cells) vs bl → xs.all V.noRef = true → RepL w M0 (xs.flatMap V.cells) vs bl
  | [], _, _, h, _ => by cases h; exact .nil
  | x :: xs, _, _, h, hn => by
    rw [List.all_cons, Bool.and_eq_true] at hn
    rw [List.flatMap_cons] at h ⊢
    obtain ⟨x1, x2, b1, b2, rfl, rfl, h1, h2⟩ := RepL.split _ _ h
    refine RepL.append ?_ (noRef_all h2 hn.2)
    have hx := hn.1
    cases x with
    | agg cs => exact noRef_cells h1 hx
    | _ =>
      cases h1 with
      | cons _ _ _ _ _ _ hc ht => cases ht; exact .cons _ _ _ _ _ _ (noRef_rep hc hx (by simp)) .nil

theorem box_gives (h : Sup cx s a w μ ow) (T : TypeId) {x : V} {v : Value} {bl : List Nat} (hr : Rep w μ x v bl) (hb : ∀ b ∈ bl, VOK cx ow s.vw b)
    (hv : x.isVal = true) (hpos : 0 < (settle nid x).1.cells.length) :
    Gives cx s nid w μ ow (.pointer (some ⟨w.heap.size, 0, none⟩)) (w.alloc (.cells v.cells T)) (.ptr (nid + (settle nid x).2.length) 0 0)
      ((settle nid x).2 ++ [.box (settle nid x).1 (kindOf (settle nid x).1)]) s.vw := by
  have fresh : ow w.heap.size = none := by
    cases e : ow w.heap.size with
    | none => rfl
    | some q => have := (h.owl w.heap.size (by rw [e]; simp)).lt; omega
  let sx := (settle nid x).1
  let pre := (settle nid x).2
  let loc : Loc := ⟨w.heap.size, 0, sx.cells.length, 1, 1, true⟩
  refine ⟨Ext.alloc w _ _, id, List.replicate pre.length nilLoc ++ [loc], bindOw ow w.heap.size (nid + pre.length), by simp [pre], ?_, ?_, ?_, fun μ' hm hl => ?_⟩
  · intro b hb'
    unfold bindOw
    rw [if_neg]
    intro e; subst e; exact hb' fresh
  · intro b hb'
    unfold bindOw
    rw [if_neg (by omega)]
  · intro b hb'
    unfold bindOw at hb'
    split at hb'
    · rename_i q; subst q; exact ⟨_, _, heap_new w _⟩
    · exact (h.owl b hb').keep ((Ext.alloc w _ _).old b (h.owl b hb').lt)
  · have hl' : ∀ j, j < pre.length → μ' (nid + j) = some nilLoc := fun j hj => hl j nilLoc (by
      rw [List.getElem?_append_left (by simpa using hj)]; simp [List.getElem?_replicate, hj])
    have hlast : μ' (nid + pre.length) = some loc := hl pre.length loc (by
      rw [List.getElem?_append_right (by simp)]; simp)
    have hsx := settle_rep hm hr hl'
    refine ⟨⟨[], ?_, by simp⟩, fun j bk e => ?_⟩
    · have := Rep.ptr (w := w.alloc (.cells v.cells T)) (μ := μ') (nid + pre.length) 0 0 loc hlast Nat.one_pos
      simpa [loc] using this
    · rcases Nat.lt_or_ge j pre.length with hj | hj
      · rw [List.getElem?_append_left hj] at e
        rw [settle_new e]
        exact blk_nil (hl' j hj)
      · rw [List.getElem?_append_right hj] at e
        have hj0 : j - pre.length = 0 := by
          cases q : j - pre.length with
          | zero => rfl
          | succ n => rw [q] at e; simp at e
        have hjj : j = pre.length := by omega
        rw [hj0] at e
        simp only [List.getElem?_cons_zero, Option.some.injEq] at e
        subst e
        subst hjj
        obtain ⟨c1, c2⟩ := hsx.cells (settle_isVal.trans hv)
        have c1' : RepL w μ' ([sx].flatMap V.cells) v.cells.toList bl := by simpa using c1
        have hk1 : RepL w ((kindOf sx).mu μ') ([sx].flatMap V.cells) v.cells.toList bl := by
          unfold kindOf kindAll
          by_cases q : [sx].all V.noRef = true
          · rw [if_pos q]; split <;> exact noRef_all c1' q
          · rw [if_neg q]; exact c1'
        have hcells := cells_new (μ := (kindOf sx).mu μ') (μ' := (kindOf sx).mu μ') (xs := [sx]) (vs := v.cells.toList) (sz := sx.cells.length) (by simp) (MLe.refl _) T hk1 c2 (by simp) hpos
        simp only [Array.toArray_toList, List.length_singleton] at hcells
        refine ⟨loc, hlast, rfl, .inr ⟨rfl, by simp [bindOw, loc], bl, hcells, ?_⟩⟩
        have views : ∀ b ∈ bl, VOK cx (bindOw ow w.heap.size (nid + pre.length)) s.vw b := by
          intro b hbb
          refine (hb b hbb).mono ?_ id
          have := hr.lt b hbb
          unfold bindOw
          rw [if_neg (by omega)]
        refine ⟨?_, fun _ => by simp⟩
        show KdOK cx _ s.vw _ bl (kindAll [sx])
        unfold kindAll
        by_cases q : [sx].all V.noRef = true
        · rw [if_pos q]
          by_cases q2 : [sx].all V.noSl = true
          · rw [if_pos q2]
            exact noSl_nil hsx (by simpa using q2)
          · rw [if_neg q2]; exact views
        · rw [if_neg q]; exact views

theorem box_sound (h : Sup cx s a w μ ow) (T : TypeId) (x : Operand) (ho : o.op = .box T x) (hg : (s.ev x).gd = true) (hv : (settle nid (s.ev x).un).1.isVal = true ∧ 0 < (settle nid (s.ev x).un).1.cells.length)
    (hk : K (.ptr (nid + (settle nid (s.ev x).un).2.length) 0 0) ((settle nid (s.ev x).un).2 ++ [.box (settle nid (s.ev x).un).1 (kindOf (settle nid (s.ev x).un).1)]) s.vw) : QV P cx s nid w μ ow o a K := by
  obtain ⟨bl, hr, hb⟩ := h.evu x hg
  exact ⟨_, _, _, _, _, run_op_v (by unfold execOp; rw [ho]) rfl, box_gives h T hr hb (settle_isVal.symm.trans hv.1) hv.2, hk⟩

theorem alloc_sound (h : Sup cx s a w μ ow) (T : TypeId) (ho : o.op = .alloc T) (z : Value) (hz : Program.zeroOf P T = some z)
    (hv : (settle nid (V.ofValue z)).1.isVal = true) (hp : 0 < (settle nid (V.ofValue z)).1.cells.length)
    (hk : K (.ptr (nid + (settle nid (V.ofValue z)).2.length) 0 0) ((settle nid (V.ofValue z)).2 ++ [.box (settle nid (V.ofValue z)).1 (kindOf (settle nid (V.ofValue z)).1)]) s.vw) : QV P cx s nid w μ ow o a K := by
  have hr := Rep.ofValue (w := w) (μ := μ) z
  refine ⟨_, _, _, _, _, run_op_v (by unfold execOp; rw [ho]) ?_, box_gives h T hr (by simp) (settle_isVal.symm.trans hv) hp, hk⟩
  unfold Program.zeroOf at hz
  cases e : P.info? T with
  | none => simp [e] at hz
  | some i =>
    have e2 : i.zero = some z := by simpa [e] using hz
    simp [Instr.alloc, zeroValue, typeInfo, e, e2, newVar, newRow]

theorem kindAll_thin (xs : List V) : kindAll xs ≠ .thin := by
  unfold kindAll
  split
  · split <;> simp
  · simp
theorem arr_gives (h : Sup cx s a w μ ow) (e : TypeId) {xs : List V} {vs : List Value} {bl : List Nat} {sz : Nat} {k : Kd} (hl : RepL w (k.mu μ) (xs.flatMap V.cells) vs bl)
    (h1 : ∀ v ∈ vs, v.oneCell' = true) (hz : ∀ x ∈ xs, x.cells.length = sz) (hs : 0 < sz) (hb : ∀ b ∈ bl, VOK cx ow s.vw b) (hk : k = .flat → bl = []) (hd : k ≠ .deep) (ht : k ≠ .thin) :
    Gives cx s nid w μ ow (.slice (some ⟨w.heap.size, 0, none⟩) xs.length xs.length) (w.alloc (.cells vs.toArray e)) (.ref nid) [.arr xs k] s.vw := by
  have fresh : ow w.heap.size = none := by
    cases q : ow w.heap.size with
    | none => rfl
    | some q' => have := (h.owl w.heap.size (by rw [q]; simp)).lt; omega
  let loc : Loc := ⟨w.heap.size, 0, sz, xs.length, xs.length, decide (0 < xs.length)⟩
  refine ⟨Ext.alloc w _ _, id, [loc], bindOw ow w.heap.size nid, rfl, ?_, ?_, ?_, fun μ' hm hloc => ?_⟩
  · intro b hb'
    unfold bindOw
    rw [if_neg]
    intro e; subst e; exact hb' fresh
  · intro b hb'
    unfold bindOw
    rw [if_neg (by omega)]
  · intro b hb'
    unfold bindOw at hb'
    split at hb'
    · rename_i q; subst q; exact ⟨_, _, heap_new w _⟩
    · exact (h.owl b hb').keep ((Ext.alloc w _ _).old b (h.owl b hb').lt)
  · have hlast : μ' nid = some loc := hloc 0 loc rfl
    refine ⟨⟨[], ?_, by simp⟩, fun j bk ej => ?_⟩
    · refine .ref nid loc _ hlast ?_
      by_cases h0 : 0 < xs.length
      · exact .real (l := loc) (by simp [loc, h0])
      · have : xs.length = 0 := by omega
        rw [this]
        exact .nil _ (by simp [loc, this]) (by simp [loc, this])
    · cases j with
      | succ j => simp at ej
      | zero =>
        simp only [List.getElem?_cons_zero, Option.some.injEq] at ej
        subst ej
        refine ⟨loc, hlast, rfl, ?_⟩
        by_cases h0 : 0 < xs.length
        · right
          have hc := cells_new (μ := k.mu μ) (μ' := k.mu μ') (xs := xs) (sz := sz) (by intro q; rw [q] at h0; simp at h0) (Kd.mu_mono hm) e hl h1 hz hs
          have el : loc = ⟨w.heap.size, 0, sz, xs.length, xs.length, true⟩ := by simp [loc, h0]
          refine ⟨by simp [loc, h0], by simp [bindOw, loc], bl, by rw [el]; exact hc, ?_, fun _ q => by rw [q] at h0; simp at h0⟩
          cases k with
          | flat => exact hk rfl
          | thin => exact absurd rfl ht
          | deep => exact absurd rfl hd
          | shal =>
            intro b hbb
            refine (hb b hbb).mono ?_ id
            have := hl.lt b hbb
            unfold bindOw
            rw [if_neg (by omega)]
          | mix =>
            intro b hbb
            refine (hb b hbb).mono ?_ id
            have := hl.lt b hbb
            unfold bindOw
            rw [if_neg (by omega)]
        · left
          have h00 : xs.length = 0 := by omega
          exact ⟨by simp [loc, h00], List.length_eq_zero_iff.1 h00⟩

theorem noSl_all : ∀ {xs : List V} {vs : List Value} {bl : List Nat}, RepL w μ (xs.flatMap V.cells) vs bl → xs.all V.noSl = true → bl = []
  | [], _, _, h, _ => by cases h; rfl
  | x :: xs, _, _, h, hn => by
    rw [List.all_cons, Bool.and_eq_true] at hn
    rw [List.flatMap_cons] at h
    obtain ⟨x1, x2, b1, b2, rfl, rfl, h1, h2⟩ := RepL.split _ _ h
    rw [noSl_all h2 hn.2, List.append_nil]
    have hx := hn.1
    cases x with
    | agg cs => exact noSl_cells h1 hx
    | fn f cs =>
      have : cs = [] := by simpa [V.noSl] using hx
      subst this
      cases h1 with
      | cons _ _ _ _ _ _ hc ht =>
        cases ht
        cases hc with
        | fn _ _ _ _ hl => cases hl; rfl
    | any => cases h1 with
      | cons _ _ _ _ _ _ hc ht => cases ht; cases hc; rfl
    | _ =>
      first
        | (simp [V.noSl] at hx; done)
        | (cases h1 with
           | cons _ _ _ _ _ _ hc ht => cases ht; cases hc <;> rfl)


theorem litElems_spec {n : Nat} {ps : List (Nat × V)} {xs : List V} (h : litElems n ps = some xs) :
    ps.map (·.1) = List.range n ∧ (∀ p ∈ ps, p.2.isVal = true) ∧ xs = ps.map fun p => content p.2 := by
  unfold litElems at h
  split at h
  · rename_i q
    refine ⟨q.1, fun p hp => List.all_eq_true.1 q.2 _ (List.mem_map_of_mem hp), ?_⟩
    simpa using h.symm
  · cases h

theorem content_cells_len (x : V) : (content x).cells.length = x.cells.length := by
  cases x <;> simp [content, V.cells, contentL]

/-- The operands of a literal, as values. -/
theorem Sup.evs (h : Sup cx s a w μ ow) : ∀ l : List Operand, (∀ x ∈ l, (s.ev x).gd = true ∧ (s.ev x).un.isVal = true) →
    ∃ bl, RepL w μ ((l.map fun x => content (s.ev x).un).flatMap V.cells) ((l.map a.eval).flatMap fun v => v.cells.toList) bl ∧ (∀ b ∈ bl, VOK cx ow s.vw b) ∧
      (∀ c ∈ ((l.map a.eval).flatMap fun v => v.cells.toList), c.oneCell' = true) ∧ ∀ x ∈ l, (a.eval x).cells.size = (s.ev x).un.cells.length
  | [], _ => ⟨[], .nil, by simp, by simp, by simp⟩
  | x :: l, hv => by
    obtain ⟨bl, h1, h2, h3, h4⟩ := h.evs l fun y hy => hv y (List.mem_cons_of_mem _ hy)
    have hx' := hv x (List.mem_cons_self ..)
    have hx := hx'.2
    obtain ⟨bx, r1, r2⟩ := h.evu x hx'.1
    obtain ⟨c1, c2⟩ := (content_rep r1).cells (content_isVal hx)
    obtain ⟨d1, _⟩ := r1.cells hx
    refine ⟨bx ++ bl, ?_, fun b hb => (List.mem_append.1 hb).elim (r2 b) (h2 b), ?_, ?_⟩
    · simp only [List.map_cons, List.flatMap_cons]
      exact c1.append h1
    · intro c hc
      simp only [List.map_cons, List.flatMap_cons, List.mem_append] at hc
      exact hc.elim (c2 c) (h3 c)
    · intro y hy
      cases List.mem_cons.1 hy with
      | inl e => subst e; have := d1.length; simpa using this.symm
      | inr e => exact h4 y e

theorem buildSlice_sound (h : Sup cx s a w μ ow) (T e : TypeId) (n : Nat) (ps : Array (Nat × Operand)) (xs : List V) (ho : o.op = .buildSlice T n ps) (hu : P.underlying T = some (.slice e))
    (hx : litElems n (ps.toList.map fun p => (p.1, (s.ev p.2).un)) = some xs) (hgd : ∀ p ∈ ps.toList, (s.ev p.2).gd = true) (hp : 0 < P.cellsOf e) (hn : n * P.cellsOf e ≤ 16777216) (hz : (Program.zeroOf P e).isSome = true)
    (hlen : ∀ x ∈ xs, x.cells.length = P.cellsOf e) (hk : K (.ref nid) [.arr xs (kindAll xs)] s.vw) : QV P cx s nid w μ ow o a K := by
  obtain ⟨q1, q2, q3⟩ := litElems_spec hx
  rw [List.map_map] at q1 q3
  let l := ps.toList.map (·.2)
  have hl1 : l.length = n := by
    have := congrArg List.length q1
    simpa [l] using this
  have hxs : xs = l.map fun x => content (s.ev x).un := by rw [q3, List.map_map]; rfl
  have hval : ∀ x ∈ l, (s.ev x).gd = true ∧ (s.ev x).un.isVal = true := by
    intro x hx
    obtain ⟨p, hp, rfl⟩ := List.mem_map.1 hx
    exact ⟨hgd p hp, q2 (p.1, (s.ev p.2).un) (List.mem_map.2 ⟨p, hp, rfl⟩)⟩
  obtain ⟨bl, r1, r2, r3, r4⟩ := h.evs l hval
  have hsizes : ∀ v ∈ l.map a.eval, v.cells.size = P.cellsOf e := by
    intro v hv
    obtain ⟨x, hx, rfl⟩ := List.mem_map.1 hv
    rw [r4 x hx, ← content_cells_len]
    exact hlen _ (by rw [hxs]; exact List.mem_map.2 ⟨x, hx, rfl⟩)
  obtain ⟨z, hz'⟩ := Option.isSome_iff_exists.1 hz
  obtain ⟨ie, hi1, hi2⟩ := info_of_cells hp
  have hzero : ie.zero = some z := by simpa [Program.zeroOf, hi1] using hz'
  have hparts : (ps.map fun x => (x.1, a.eval x.2)).toList = (List.range' 0 (l.map a.eval).length).zip (l.map a.eval) := by
    rw [Array.toList_map, List.length_map, hl1, ← List.range_eq_range', ← q1]
    simp only [l, List.map_map]
    generalize ps.toList = L
    induction L with
    | nil => rfl
    | cons p L ih => simp only [List.map_cons, List.zip_cons_cons, ih]; rfl
  have hnz : l.length = n := hl1
  rw [← hxs] at r1
  have hk1 : RepL w ((kindAll xs).mu μ) (xs.flatMap V.cells) ((l.map a.eval).flatMap fun v => v.cells.toList) bl := by
    unfold kindAll
    by_cases q : xs.all V.noRef = true
    · rw [if_pos q]; split <;> exact noRef_all r1 q
    · rw [if_neg q]; exact r1
  have hkf : kindAll xs = .flat → bl = [] := by
    unfold kindAll
    intro hf
    by_cases q : xs.all V.noRef = true
    · rw [if_pos q] at hf
      by_cases q2 : xs.all V.noSl = true
      · exact noSl_all r1 q2
      · rw [if_neg q2] at hf; cases hf
    · rw [if_neg q] at hf; cases hf
  have hkd : kindAll xs ≠ .deep := by unfold kindAll; repeat' split <;> simp
  have fin := arr_gives (nid := nid) h e (xs := xs) (sz := P.cellsOf e) (k := kindAll xs) hk1 r3 hlen hp r2 hkf hkd (kindAll_thin xs)
  have hxl : xs.length = n := by rw [hxs, List.length_map, hl1]
  rw [hxl] at fin
  refine ⟨_, _, _, _, _, run_op_v (by unfold execOp; rw [ho]) ?_, fin, hk⟩
  have hfill : ∀ cells : Array Value, cells.size = n * P.cellsOf e → Instr.fill (fun i => some (i * P.cellsOf e, P.cellsOf e)) cells (ps.map fun x => (x.1, a.eval x.2)).toList = some ((l.map a.eval).flatMap fun x => x.cells.toList).toArray := by
    intro cells hc
    rw [hparts, fill_lit (P.cellsOf e) (l.map a.eval) 0 cells hsizes (by rw [List.length_map, hl1, Nat.zero_add, hc])]
    simp
  have hno : ¬ (2 ^ 24 < n * P.cellsOf e) := by omega
  simp only [Instr.buildSlice, Sem.run_bind, run_underlying hu, Result.andThen_ok, run_sizeOf hp, gt_iff_lt, hno, if_false, Sem.run_pure]
  by_cases hn0 : n * P.cellsOf e = 0
  · simp only [hn0, if_true, Sem.run_bind, Sem.run_pure, Result.andThen_ok]
    rw [hfill _ (by simp [hn0])]
    rfl
  · simp only [hn0, if_false]
    have hzr : (zeroValue e).run P w = .ok z w := by simp [zeroValue, typeInfo, hi1, hzero]
    simp only [Sem.run_bind, hzr, Result.andThen_ok, Sem.run_pure]
    rw [hfill _ (by simp)]
    rfl

theorem replicate_cells (x : V) (n : Nat) : (List.replicate n x).flatMap V.cells = (List.replicate n x.cells).flatten := by
  simp [List.flatMap_replicate]

theorem madeCells_list (z : Array Value) (n : Nat) (hz : 0 < z.size) : (madeCells z (n * z.size)).toList = (List.replicate n z.toList).flatten := by
  apply List.ext_getElem?
  intro i
  have hlen : (List.replicate n z.toList).flatten.length = n * z.size := by simp
  by_cases hi : i < n * z.size
  · have h1 : i % z.size < z.size := Nat.mod_lt _ hz
    have hq : i / z.size < n := Nat.div_lt_of_lt_mul (by rwa [Nat.mul_comm])
    rw [List.getElem?_eq_getElem (by simp [madeCells]; exact hi), List.getElem?_eq_getElem (by rw [hlen]; exact hi)]
    congr 1
    have e1 : (madeCells z (n * z.size)).toList[i]'(by simp [madeCells]; exact hi) = z[i % z.size]! := by simp [madeCells]
    rw [e1]
    have key : ∀ (m j : Nat), j < m * z.size → ∀ hj : j < (List.replicate m z.toList).flatten.length, (List.replicate m z.toList).flatten[j]'hj = z[j % z.size]! := by
      intro m
      induction m with
      | zero => intro j hj; simp at hj
      | succ m ih =>
        intro j hj hj'
        simp only [List.replicate_succ, List.flatten_cons]
        by_cases hjs : j < z.size
        · rw [List.getElem_append_left (by simpa using hjs), Nat.mod_eq_of_lt hjs]
          simp [hjs]
        · have hge : z.size ≤ j := Nat.le_of_not_lt hjs
          rw [List.getElem_append_right (by simpa using hge)]
          have hlt : j - z.size < m * z.size := by rw [Nat.add_mul] at hj; omega
          have := ih (j - z.size) hlt (by simp; exact hlt)
          simp only [Array.length_toList]
          rw [this]
          congr 1
          conv => rhs; rw [← Nat.sub_add_cancel hge, Nat.add_mod_right]
    exact (key n i hi _).symm
  · rw [List.getElem?_eq_none (by simp [madeCells]; omega), List.getElem?_eq_none (by rw [hlen]; omega)]

theorem RepL.replicate {cs : List V} {vs : List Value} (h : RepL w μ cs vs []) : ∀ n : Nat, RepL w μ (List.replicate n cs).flatten (List.replicate n vs).flatten []
  | 0 => .nil
  | n + 1 => by
    simp only [List.replicate_succ, List.flatten_cons]
    exact h.append (RepL.replicate h n)

theorem makeSlice_sound (h : Sup cx s a w μ ow) (t e : TypeId) (l c : Operand) (ho : o.op = .makeSlice t l c) (hu : P.underlying t = some (.slice e)) (kl kc : IntKind) (n : Int)
    (hl : (s.ev l).un = .int kl n) (hc : (s.ev c).un = .int kc n) (hgl : (s.ev l).gd = true) (hgc : (s.ev c).gd = true) (z : Value) (hz : Program.zeroOf P e = some z)
    (h0 : 0 ≤ n) (hb : P.bytesOf e * n ≤ 281474976710656) (h63 : n ≤ 9223372036854775807) (hv : (V.ofValue z).isVal = true) (hlen : (V.ofValue z).cells.length = P.cellsOf e) (hp : 0 < P.cellsOf e)
    (hnr : (content (V.ofValue z)).noRef = true) (hns : (V.ofValue z).noSl = true) (hk : K (.ref nid) [.arr (List.replicate n.toNat (content (V.ofValue z))) .flat] s.vw) : QV P cx s nid w μ ow o a K := by
  obtain ⟨_, rl, _⟩ := h.evu l hgl
  obtain ⟨_, rc, _⟩ := h.evu c hgc
  rw [hl] at rl; rw [hc] at rc
  have el := rl.int_inv
  have ec := rc.int_inv
  obtain ⟨ie, hi1, hi2⟩ := info_of_cells hp
  have hzero : ie.zero = some z := by simpa [Program.zeroOf, hi1] using hz
  have hbytes : (ie.bytes : Int) * n ≤ 281474976710656 := by
    have : P.bytesOf e = ie.bytes := by simp [Program.bytesOf, hi1]
    rwa [this] at hb
  have hrun := run_make (P := P) w t e ie z hu hi1 hzero kl kc n n h0 (Int.le_refl _) hbytes h63
  have rz := Rep.ofValue (w := w) (μ := μ) z
  obtain ⟨z1, z2⟩ := rz.cells hv
  obtain ⟨y1, y2⟩ := (content_rep rz).cells (content_isVal hv)
  have hzs : z.cells.size = P.cellsOf e := by have := z1.length; simp at this; omega
  have hcells : (madeCells z.cells (n.toNat * ie.size)).toList = (List.replicate n.toNat z.cells.toList).flatten := by
    rw [hi2, ← hzs]
    exact madeCells_list z.cells n.toNat (by omega)
  have r1 : RepL w μ ((List.replicate n.toNat (content (V.ofValue z))).flatMap V.cells) (madeCells z.cells (n.toNat * ie.size)).toList [] := by
    rw [hcells, replicate_cells]
    exact RepL.replicate y1 n.toNat
  have r3 : ∀ v ∈ (madeCells z.cells (n.toNat * ie.size)).toList, v.oneCell' = true := by
    intro v hv'
    rw [hcells] at hv'
    obtain ⟨l', hl', hvl⟩ := List.mem_flatten.1 hv'
    rw [List.eq_of_mem_replicate hl'] at hvl
    exact z2 v hvl
  have r1' := noRef_all r1 (by rw [List.all_eq_true]; intro x hx; rw [List.eq_of_mem_replicate hx]; exact hnr)
  have fin := arr_gives (nid := nid) h e (xs := List.replicate n.toNat (content (V.ofValue z))) (sz := P.cellsOf e) (k := .flat) r1' r3
    (by intro x hx; rw [List.eq_of_mem_replicate hx, content_cells_len, hlen]) hp (by simp) (fun _ => rfl) (by simp) (by simp)
  rw [List.length_replicate] at fin
  simp only [Array.toArray_toList] at fin
  exact ⟨_, _, _, _, _, run_op_v (by unfold execOp; rw [ho]) (by rw [el, ec]; exact hrun), fin, hk⟩

end
end Go.Vm
