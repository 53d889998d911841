/- The value machine, part 4: the model's operations yield what part 3 says. -/
import Derived.Test.YtciapcamhocmcaaVm3
set_option linter.unusedSimpArgs false
set_option linter.unusedVariables false
namespace Go.Vm
open Go

/-- What a quiet operation leans on. -/
structure Sup (cx : Cx) (s : St) (a : Act) (w : World) (μ : Nat → Option Loc) (ow : Ow) : Prop where
  env : ∀ t, ∃ bl, Rep w μ (s.get t) (a.tmps.getD t undef) bl ∧ ∀ b ∈ bl, VOK cx ow s.vw b
  blk : ∀ id bk, s.O[id]? = some bk → BlkOK cx w μ ow s.vw id bk
  owl : ∀ b, ow b ≠ none → Live w b
  own : ∀ b, ow b ≠ none → cx.own0 b ∨ cx.w0.heap.size ≤ b
  frm : cx.w0.heap.size ≤ w.heap.size

theorem Rel.sup {cx : Cx} {s : St} {a : Act} {w : World} {μ : Nat → Option Loc} {ow : Ow} (h : Rel cx s a w μ ow) : Sup cx s a w μ ow := ⟨h.env, h.blk, h.owl, h.own, h.frm.size⟩

def QV (P : Program) (cx : Cx) (s : St) (nid : Nat) (w : World) (μ : Nat → Option Loc) (ow : Ow) (o : Oper) (a : Act) (K : KV) : Prop :=
  ∃ v w' val new vw', (execOp a.eval o).run P w = .ok (.value v) w' ∧ Gives cx s nid w μ ow v w' val new vw' ∧ K val new vw'

section
variable {P : Program} {cx : Cx} {s : St} {nid : Nat} {a : Act} {w : World} {μ : Nat → Option Loc} {ow : Ow} {o : Oper} {K : KV}

theorem Rep.ofScalar (v : Value) : Rep w μ (V.ofScalar v) v [] := by
  unfold V.ofScalar
  split <;> first | exact .int _ _ | exact .bool _ | exact .str _ | exact .nsl _ | exact .npt | exact .nfn | exact .any _

theorem RepL.ofScalars : ∀ cs : List Value, RepL w μ (cs.map V.ofScalar) cs []
  | [] => .nil
  | c :: cs => .cons _ _ [] _ _ [] (Rep.ofScalar c) (RepL.ofScalars cs)

theorem Rep.ofValue (v : Value) : Rep w μ (V.ofValue v) v [] := by
  unfold V.ofValue
  split
  · rename_i cs
    split
    · rename_i h
      have := Rep.agg (w := w) (μ := μ) _ _ _ (RepL.ofScalars (w := w) (μ := μ) cs.toList) (fun x hx => List.all_eq_true.1 h x hx)
      simpa using this
    · exact .any _
  · exact Rep.ofScalar v

theorem Sup.ev (h : Sup cx s a w μ ow) (x : Operand) : ∃ bl, Rep w μ (s.ev x) (a.eval x) bl ∧ ∀ b ∈ bl, VOK cx ow s.vw b := by
  cases x with
  | tmp t => exact h.env t
  | const v => exact ⟨[], Rep.ofValue v, by simp⟩
  | global g => exact ⟨[], .any _, by simp⟩
  | func f => exact ⟨[], Rep.fn f [] [] [] .nil, by simp⟩

theorem Rep.un {v : V} {x : Value} {bl : List Nat} (h : Rep w μ v x bl) (hg : v.gd = true) : Rep w μ v.un x bl := by
  cases h <;> first | assumption | (simp [V.gd] at hg; done) | skip
  all_goals simp only [V.un]
  all_goals first | assumption | (constructor <;> assumption) | constructor

theorem Sup.evu (h : Sup cx s a w μ ow) (x : Operand) (hg : (s.ev x).gd = true) : ∃ bl, Rep w μ (s.ev x).un (a.eval x) bl ∧ ∀ b ∈ bl, VOK cx ow s.vw b :=
  let ⟨bl, h1, h2⟩ := h.ev x
  ⟨bl, h1.un hg, h2⟩

theorem Gives.pure (h : Sup cx s a w μ ow) {v : Value} {val : V} {bl : List Nat} {vw : Bool} (hr : Rep w μ val v bl) (hb : ∀ b ∈ bl, VOK cx ow vw b) (hv : s.vw = true → vw = true) :
    Gives cx s nid w μ ow v w val [] vw :=
  ⟨Ext.refl w, hv, [], ow, rfl, fun _ _ => rfl, fun _ _ => rfl, h.owl, fun μ' hm _ => ⟨⟨bl, hr.keep hm fun _ _ => rfl, hb⟩, fun j bk e => by simp at e⟩⟩

theorem run_v (m : Sem Value) {v : Value} {w' : World} (h : m.run P w = .ok v w') : (do Pure.pure (Next.value (← m)) : Sem Next).run P w = .ok (.value v) w' := by
  rw [Sem.run_bind, h]; rfl

theorem QV.pure (h : Sup cx s a w μ ow) {v : Value} {val : V} {bl : List Nat} {vw : Bool} (hrun : (execOp a.eval o).run P w = .ok (.value v) w) (hr : Rep w μ val v bl)
    (hb : ∀ b ∈ bl, VOK cx ow vw b) (hv : s.vw = true → vw = true) (hk : K val [] vw) : QV P cx s nid w μ ow o a K :=
  ⟨v, w, val, [], vw, hrun, Gives.pure h hr hb hv, hk⟩

theorem Rep.bool_inv {t : Bool} {x : Value} {bl : List Nat} (h : Rep w μ (.bool t) x bl) : x = .bool t := by cases h; rfl
theorem Rep.int_inv {k : IntKind} {n : Int} {x : Value} {bl : List Nat} (h : Rep w μ (.int k n) x bl) : x = .int k n := by cases h; rfl
theorem Rep.str_inv {b : ByteArray} {x : Value} {bl : List Nat} (h : Rep w μ (.str b) x bl) : x = .string b := by cases h; rfl
theorem Rep.ptr_inv {id i off : Nat} {x : Value} {bl : List Nat} (h : Rep w μ (.ptr id i off) x bl) :
    ∃ l, μ id = some l ∧ i < l.n ∧ x = .pointer (some ⟨l.b, l.off + (i * l.sz + off), none⟩) := by
  cases h with
  | ptr _ _ _ l h hi => exact ⟨l, h, hi, rfl⟩
theorem Rep.pv_inv {xs : List V} {i off : Nat} {x : Value} {bl : List Nat} (h : Rep w μ (.pv xs i off) x bl) :
    ∃ b o sz vs bl', i < xs.length ∧ 0 < sz ∧ (∀ x ∈ xs, x.cells.length = sz) ∧ RepL w M0 (xs.flatMap V.cells) vs bl' ∧ (∀ x ∈ vs, x.oneCell' = true) ∧ Row w b o vs ∧ bl = b :: bl' ∧ x = .pointer (some ⟨b, o + (i * sz + off), none⟩) := by
  cases h with
  | pv _ _ _ b o sz vs bl hi hs hz hl h1 hr => exact ⟨b, o, sz, vs, bl, hi, hs, hz, hl, h1, hr, rfl, rfl⟩

/- numbers, strings, tests -/
theorem eqGuard_nil (op : BinOp) (t : TypeId) (x y : Operand) (u v : Value) (h : ∀ c, u ≠ .agg c) (hn : u ≠ .nilIface) : (eqGuard op t x y u v).run P w = .ok () w := by
  unfold eqGuard
  cases op <;> first
    | rfl
    | (simp only [Bool.not_true, Bool.false_eq_true, if_false]
       cases u <;> first | rfl | (exact absurd rfl hn) | (exact absurd rfl (h _)) | (cases v <;> rfl))

theorem run_bin (op : BinOp) (xt yt : TypeId) (x y : Operand) (ho : o.op = .binOp op xt x y yt) {r : Value} (h : ∀ c, a.eval x ≠ .agg c) (hn : a.eval x ≠ .nilIface)
    (hr : (binOp op xt (a.eval x) (a.eval y)).run P w = .ok r w) : (execOp a.eval o).run P w = .ok (.value r) w := by
  unfold execOp
  rw [ho]
  refine run_v _ ?_
  rw [Sem.run_bind, eqGuard_nil _ _ _ _ _ _ h hn]
  exact hr

theorem beq_toList (x y : ByteArray) : (x.toList == y.toList) = decide (x = y) := by
  rw [ByteArray.toList_eq, ByteArray.toList_eq]
  by_cases h : x = y
  · subst h; simp
  · rw [decide_eq_false h]
    cases e : (x.data.toList == y.data.toList) with
    | false => rfl
    | true =>
      have h1 : x.data.toList = y.data.toList := beq_iff_eq.1 e
      exact absurd (by cases x; cases y; congr 1; exact Array.ext' h1) h

theorem beq_int (m n : Int) : (m == n) = decide (m = n) := by by_cases q : m = n <;> simp [q]

theorem bin_sound (h : Sup cx s a w μ ow) (op : BinOp) (xt yt : TypeId) (x y : Operand) (ho : o.op = .binOp op xt x y yt) (hx : (s.ev x).gd = true) (hy : (s.ev y).gd = true)
    (hk : aBin P true op xt s.vw K (s.ev x).un (s.ev y).un) : QV P cx s nid w μ ow o a K := by
  obtain ⟨bx, rx, _⟩ := h.evu x hx
  obtain ⟨by_, ry, _⟩ := h.evu y hy
  have fin : ∀ {val : V} {v : Value}, (∀ c, a.eval x ≠ .agg c) → a.eval x ≠ .nilIface → (binOp op xt (a.eval x) (a.eval y)).run P w = .ok v w → Rep w μ val v [] → K val [] s.vw → QV P cx s nid w μ ow o a K :=
    fun h1 h2 h3 h4 h5 => QV.pure h (run_bin op xt yt x y ho h1 h2 h3) h4 (by simp) id h5
  generalize (s.ev x).un = vx at *
  generalize (s.ev y).un = vy at *
  generalize a.eval x = ax at *
  generalize a.eval y = ay at *
  unfold aBin at hk
  split at hk
  · rename_i k m k' n
    cases rx; cases ry
    obtain ⟨rfl, hk⟩ := hk
    cases op <;> simp only [] at hk
    case add => exact fin (v := .int k (k.wrap (m + n))) (by simp) (by simp) (by simp [binOp, Op.intArith]) (.int _ _) hk
    case sub => exact fin (v := .int k (k.wrap (m - n))) (by simp) (by simp) (by simp [binOp, Op.intArith]) (.int _ _) hk
    case mul => exact fin (v := .int k (k.wrap (m * n))) (by simp) (by simp) (by simp [binOp, Op.intArith]) (.int _ _) hk
    case quo => exact fin (v := .int k (k.wrap (m.tdiv n))) (by simp) (by simp) (by simp [binOp, Op.intDiv, hk.1 trivial]) (.int _ _) hk.2
    case rem => exact fin (v := .int k (m.tmod n)) (by simp) (by simp) (by simp [binOp, Op.intDiv, hk.1 trivial]) (.int _ _) hk.2
    case eql => exact fin (v := .bool (decide (m = n))) (by simp) (by simp) (by simp [binOp, Op.intCmp, beq_int]) (.bool _) hk
    case neq => exact fin (v := .bool (!decide (m = n))) (by simp) (by simp) (by simp [binOp, Op.intCmp, bne, beq_int]) (.bool _) hk
    case lss => exact fin (v := .bool (decide (m < n))) (by simp) (by simp) (by simp [binOp, Op.intCmp]) (.bool _) hk
    case leq => exact fin (v := .bool (decide (m ≤ n))) (by simp) (by simp) (by simp [binOp, Op.intCmp]) (.bool _) hk
    case gtr => exact fin (v := .bool (decide (n < m))) (by simp) (by simp) (by simp [binOp, Op.intCmp]) (.bool _) hk
    case geq => exact fin (v := .bool (decide (n ≤ m))) (by simp) (by simp) (by simp [binOp, Op.intCmp]) (.bool _) hk
  · rename_i m n
    cases rx; cases ry
    cases op <;> simp only [] at hk
    case add => exact fin (v := .string (m ++ n)) (by simp) (by simp) (by have := run_string_add_sum (P := P) w m n (hk.1 trivial); simpa [binOp] using this) (.str _) hk.2
    case eql => exact fin (v := .bool (decide (m = n))) (by simp) (by simp) (by simp [binOp, Op.stringOp, beq_toList]) (.bool _) hk
    case neq => exact fin (v := .bool (!decide (m = n))) (by simp) (by simp) (by simp [binOp, Op.stringOp, beq_toList]) (.bool _) hk
    case lss => exact fin (v := .bool (strLt m n)) (by simp) (by simp) (by simp [binOp, Op.stringOp, strLt]) (.bool _) hk
    case leq => exact fin (v := .bool (strLt m n || decide (m = n))) (by simp) (by simp) (by simp [binOp, Op.stringOp, strLt, beq_toList]) (.bool _) hk
    case gtr => exact fin (v := .bool (!(strLt m n || decide (m = n)))) (by simp) (by simp) (by simp [binOp, Op.stringOp, strLt, beq_toList]) (.bool _) hk
    case geq => exact fin (v := .bool (!strLt m n)) (by simp) (by simp) (by simp [binOp, Op.stringOp, strLt]) (.bool _) hk
  · rename_i m n
    cases rx; cases ry
    obtain ⟨ht, hk⟩ := hk
    cases op <;> simp only [] at hk
    case eql => exact fin (by simp) (by simp) (run_eql_bool w xt m n ht) (.bool _) hk
    case neq => exact fin (by simp) (by simp) (run_neq_bool w xt m n ht) (.bool _) hk
  · exact hk.elim


/- the plain ones -/
theorem run_op_v {m : Sem Value} {v : Value} {w' : World} (he : execOp a.eval o = (do Pure.pure (Next.value (← m)) : Sem Next)) (h : m.run P w = .ok v w') :
    (execOp a.eval o).run P w = .ok (.value v) w' := by rw [he]; exact run_v m h

theorem settleL_len : ∀ (cs : List V) (nid : Nat), (settleL nid cs).1.length = cs.length
  | [], _ => rfl
  | c :: cs, nid => by cases c <;> simp [settleL, settleL_len cs]

def nilLoc : Loc := ⟨0, 0, 1, 0, 0, false⟩

theorem settleL_new : ∀ (cs : List V) (nid j : Nat) (bk : Blk), (settleL nid cs).2[j]? = some bk → bk = .arr [] .flat
  | [], _, j, bk, h => by simp [settleL] at h
  | c :: cs, nid, j, bk, h => by
    cases c <;> simp only [settleL] at h <;> try exact settleL_new cs _ j bk h
    cases j with
    | zero => simpa using h.symm
    | succ j => exact settleL_new cs _ j bk (by simpa using h)

theorem settleL_rep {μ' : Nat → Option Loc} (hm : MLe μ μ') : ∀ {cs : List V} {vs : List Value} {bl : List Nat}, RepL w μ cs vs bl → ∀ nid : Nat,
    (∀ j, j < (settleL nid cs).2.length → μ' (nid + j) = some nilLoc) → RepL w μ' (settleL nid cs).1 vs bl
  | _, _, _, .nil, nid, _ => .nil
  | c :: cs, _, _, .cons _ x bl _ xs bl' h ht, nid, hl => by
    cases c <;> simp only [settleL] at hl ⊢ <;> try exact .cons _ _ _ _ _ _ (h.keep hm fun _ _ => rfl) (settleL_rep hm ht nid hl)
    cases h
    refine .cons _ _ [] _ _ _ (.ref nid nilLoc _ (hl 0 (by simp)) (.nil _ rfl rfl)) (settleL_rep hm ht (nid + 1) fun j hj => ?_)
    have := hl (j + 1) (by simpa using hj)
    rwa [Nat.add_assoc, Nat.add_comm 1 j]

theorem settle_new {v : V} {nid j : Nat} {bk : Blk} (h : (settle nid v).2[j]? = some bk) : bk = .arr [] .flat := by
  cases v <;> simp only [settle] at h <;> try (simp at h; done)
  · cases j with
    | zero => simpa using h.symm
    | succ j => simp at h
  · exact settleL_new _ _ _ _ h

theorem settle_rep {μ' : Nat → Option Loc} (hm : MLe μ μ') {v : V} {x : Value} {bl : List Nat} (h : Rep w μ v x bl) (hl : ∀ j, j < (settle nid v).2.length → μ' (nid + j) = some nilLoc) :
    Rep w μ' (settle nid v).1 x bl := by
  cases v <;> simp only [settle] at hl ⊢ <;> try exact h.keep hm fun _ _ => rfl
  · cases h; exact .ref nid nilLoc _ (hl 0 (by simp)) (.nil _ rfl rfl)
  · cases h with
    | agg _ vs _ hl' h1 => exact .agg _ _ _ (settleL_rep hm hl' nid hl) h1

theorem blk_nil {cx : Cx} {w : World} {μ : Nat → Option Loc} {ow : Ow} {vw : Bool} {id : Nat} (h : μ id = some nilLoc) : BlkOK cx w μ ow vw id (.arr [] .flat) :=
  ⟨nilLoc, h, rfl, .inl ⟨rfl, rfl⟩⟩

theorem Gives.settle (h : Sup cx s a w μ ow) {v : Value} {val : V} {bl : List Nat} (hr : Rep w μ val v bl) (hb : ∀ b ∈ bl, VOK cx ow s.vw b) :
    Gives cx s nid w μ ow v w (Vm.settle nid val).1 (Vm.settle nid val).2 s.vw := by
  refine ⟨Ext.refl w, id, List.replicate (Vm.settle nid val).2.length nilLoc, ow, by simp, fun _ _ => rfl, fun _ _ => rfl, h.owl, fun μ' hm hl => ?_⟩
  have hl' : ∀ j, j < (Vm.settle nid val).2.length → μ' (nid + j) = some nilLoc := fun j hj => hl j nilLoc (by simp [List.getElem?_replicate, hj])
  refine ⟨⟨bl, settle_rep hm hr hl', hb⟩, fun j bk e => ?_⟩
  have hj : j < (Vm.settle nid val).2.length := by
    rcases Nat.lt_or_ge j (Vm.settle nid val).2.length with q | q
    · exact q
    · rw [List.getElem?_eq_none q] at e; cases e
  rw [settle_new e]
  exact blk_nil (hl' j hj)

theorem move_sound (h : Sup cx s a w μ ow) (x : Operand) (ho : o.op = .move x) (hk : K (s.ev x) [] s.vw) : QV P cx s nid w μ ow o a K := by
  obtain ⟨bl, hr, hb⟩ := h.ev x
  exact QV.pure h (by unfold execOp; rw [ho]; rfl) hr hb id hk

theorem assign_sound (h : Sup cx s a w μ ow) (x : Operand) (ho : o.op = .assign x) (hk : K (settle nid (s.ev x)).1 (settle nid (s.ev x)).2 s.vw) : QV P cx s nid w μ ow o a K := by
  obtain ⟨bl, hr, hb⟩ := h.ev x
  exact ⟨_, w, _, _, _, by unfold execOp; rw [ho]; rfl, Gives.settle h hr hb, hk⟩

theorem rep_pickV {t : Bool} {x y : V} {u v : Value} {bx by_ : List Nat} (hx : t = true → Rep w μ x u bx) (hy : t = false → Rep w μ y v by_) :
    ∃ bl, Rep w μ (pickV t x y) (if t then u else v) bl ∧ (∀ b ∈ bl, (t = true ∧ b ∈ bx) ∨ (t = false ∧ b ∈ by_)) := by
  cases t with
  | true =>
    have hx := hx rfl
    refine ⟨bx, ?_, fun b hb => .inl ⟨rfl, hb⟩⟩
    cases x <;> cases y <;> exact hx
  | false =>
    have hy := hy rfl
    refine ⟨by_, ?_, fun b hb => .inr ⟨rfl, hb⟩⟩
    cases x <;> cases y <;> exact hy

theorem pick_sound (h : Sup cx s a w μ ow) (c x y : Operand) (t : Bool) (ho : o.op = .pick c x y) (hc : (s.ev c).un = .bool t)
    (hg : (s.ev c).gd = true ∧ (t = true → (s.ev x).gd = true) ∧ (t = false → (s.ev y).gd = true)) (hk : K (pickV t (s.ev x).un (s.ev y).un) [] s.vw) : QV P cx s nid w μ ow o a K := by
  obtain ⟨bc, rc, _⟩ := h.evu c hg.1
  rw [hc] at rc
  have ec : a.eval c = .bool t := rc.bool_inv
  have run : (execOp a.eval o).run P w = .ok (.value (if t then a.eval x else a.eval y)) w := by
    unfold execOp; rw [ho]; simp only [ec]; rfl
  cases t with
  | true =>
    obtain ⟨bx, rx, vx⟩ := h.evu x (hg.2.1 rfl)
    obtain ⟨bl, hr, hb⟩ := rep_pickV (t := true) (y := (s.ev y).un) (v := a.eval y) (by_ := []) (fun _ => rx) (fun e => by cases e)
    refine QV.pure h run hr (fun b hbb => ?_) id hk
    rcases hb b hbb with ⟨_, q⟩ | ⟨q, _⟩
    · exact vx b q
    · cases q
  | false =>
    obtain ⟨bx, rx, vx⟩ := h.evu y (hg.2.2 rfl)
    obtain ⟨bl, hr, hb⟩ := rep_pickV (t := false) (x := (s.ev x).un) (u := a.eval x) (bx := []) (fun e => by cases e) (fun _ => rx)
    refine QV.pure h run hr (fun b hbb => ?_) id hk
    rcases hb b hbb with ⟨q, _⟩ | ⟨_, q⟩
    · cases q
    · exact vx b q

theorem un_sound (h : Sup cx s a w μ ow) (op : UnOp) (t : TypeId) (x : Operand) (ho : o.op = .unOp op t x) (hg : (s.ev x).gd = true) (hk : aUn op s.vw K (s.ev x).un) : QV P cx s nid w μ ow o a K := by
  obtain ⟨bx, rx, _⟩ := h.evu x hg
  generalize (s.ev x).un = vx at *
  unfold aUn at hk
  split at hk
  · obtain ⟨rfl, hk⟩ := hk
    rename_i b
    have e : a.eval x = .bool b := rx.bool_inv
    exact QV.pure (v := .bool (!b)) h (run_op_v (by unfold execOp; rw [ho]) (by rw [e]; rfl)) (.bool _) (by simp) id hk
  · obtain ⟨rfl, hk⟩ := hk
    rename_i k n
    have e : a.eval x = .int k n := rx.int_inv
    exact QV.pure (v := .int k (k.wrap (0 - n))) h (run_op_v (by unfold execOp; rw [ho]) (by rw [e]; rfl)) (.int _ _) (by simp) id hk
  · exact hk.elim

theorem nil_sound (h : Sup cx s a w μ ow) (x : Operand) (ho : o.op = .nilCheck x) (hg : (s.ev x).gd = true)
    (hk : match (s.ev x).un with | .ptr id i off => K (.ptr id i off) [] s.vw | .pv xs i off => K (.pv xs i off) [] s.vw | _ => False) : QV P cx s nid w μ ow o a K := by
  obtain ⟨bx, rx, hb⟩ := h.evu x hg
  generalize (s.ev x).un = vx at *
  split at hk
  · have e : ∃ ad, a.eval x = .pointer (some ad) := by obtain ⟨l, _, _, e⟩ := rx.ptr_inv; exact ⟨_, e⟩
    obtain ⟨ad, e⟩ := e
    exact QV.pure (v := a.eval x) h (by unfold execOp; rw [ho]; simp only [e]; rfl) rx hb id hk
  · have e : ∃ ad, a.eval x = .pointer (some ad) := by obtain ⟨_, _, _, _, _, _, _, _, _, _, _, _, e⟩ := rx.pv_inv; exact ⟨_, e⟩
    obtain ⟨ad, e⟩ := e
    exact QV.pure (v := a.eval x) h (by unfold execOp; rw [ho]; simp only [e]; rfl) rx hb id hk
  · exact hk.elim

theorem convertInt_sound (h : Sup cx s a w μ ow) (src dst : TypeId) (x : Operand) (ho : o.op = .convert src dst x) (hg : (s.ev x).gd = true) (hs : (P.underlying src).isSome = true)
    (k k' : IntKind) (n : Int) (hd : P.underlying dst = some (.int k)) (hx : (s.ev x).un = .int k' n) (hk : K (.int k (k.wrap n)) [] s.vw) : QV P cx s nid w μ ow o a K := by
  obtain ⟨bx, rx, hb⟩ := h.evu x hg
  rw [hx] at rx
  · have e : a.eval x = .int k' n := rx.int_inv
    have hk0 : P.intKind dst = k := by simp [Program.intKind, hd]
    have hr := run_convert_int (P := P) w src dst k' n hs (by rw [hk0]; exact hd)
    rw [hk0] at hr
    exact QV.pure (v := .int k (k.wrap n)) h (run_op_v (by unfold execOp; rw [ho]) (by rw [e]; exact hr)) (.int _ _) (by simp) id hk

theorem makeFunc_sound (h : Sup cx s a w μ ow) (f : FuncId) (first cap : Array Operand) (ho : o.op = .makeFunc (.func f) first cap) (h0 : first.size = 0) (hk : K (.fn f (cap.toList.map s.ev)) [] s.vw) : QV P cx s nid w μ ow o a K := by
  have e : first = #[] := Array.eq_empty_of_size_eq_zero h0
  subst e
  have key : ∀ l : List Operand, ∃ bl, RepL w μ (l.map s.ev) (l.map a.eval) bl ∧ ∀ b ∈ bl, VOK cx ow s.vw b := by
    intro l
    induction l with
    | nil => exact ⟨[], .nil, by simp⟩
    | cons x l ih =>
      obtain ⟨bl, h1, h2⟩ := ih
      obtain ⟨bx, r1, r2⟩ := h.ev x
      exact ⟨bx ++ bl, .cons _ _ _ _ _ _ r1 h1, fun b hb => (List.mem_append.1 hb).elim (r2 b) (h2 b)⟩
  obtain ⟨bl, h1, h2⟩ := key cap.toList
  refine QV.pure (v := .func (.func f) #[] (cap.map a.eval)) h (run_op_v (by unfold execOp; rw [ho]) (by simp [Instr.makeFunc])) (bl := bl) ?_ h2 id hk
  have := Rep.fn (w := w) (μ := μ) f _ _ _ h1
  have e : (List.map a.eval cap.toList).toArray = cap.map a.eval := by rw [← Array.toList_map]
  rwa [e] at this

theorem extract_sound (h : Sup cx s a w μ ow) (x : Operand) (i : Nat) (ho : o.op = .extract x i) (hg : (s.ev x).gd = true) (hk : aExtract s.vw i K (s.ev x).un) : QV P cx s nid w μ ow o a K := by
  obtain ⟨bx, rx, hb⟩ := h.evu x hg
  generalize (s.ev x).un = vx at *
  unfold aExtract at hk
  split at hk
  · rename_i vs
    obtain ⟨hi, hk⟩ := hk
    generalize hq : a.eval x = q at rx
    cases rx with
    | tup _ xs _ hl =>
      obtain ⟨v, b, h1, h2, h3⟩ := hl.get i (vs.getD i .any) (by simp [hi])
      exact QV.pure h (run_op_v (by unfold execOp; rw [ho]) (by rw [hq]; simp [Instr.extract, h1])) h2 (fun y hy => hb y (h3 y hy)) id hk
  · exact hk.elim

end
end Go.Vm
