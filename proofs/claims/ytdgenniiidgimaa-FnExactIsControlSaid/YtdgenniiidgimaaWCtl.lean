/- What functions compute (Ctl). No condition. -/
import Derived.Test.YtdgenniiidgimaaTy
import Derived.Test.YtdgenniiidgimaaVmG
import Derived.Test.YtdgenniiidgimaaWInc
import Derived.Test.YtdgenniiidgimaaWNeed
import Derived.Test.YtdgenniiidgimaaWDisp
import Derived.Test.YtdgenniiidgimaaWExtremes
import Derived.Test.YtdgenniiidgimaaWBase
import Derived.Test.YtdgenniiidgimaaWNeeds
set_option linter.unusedSimpArgs false
set_option linter.unusedVariables false
set_option linter.defProp false
namespace Go.Proofs.Ytdgenniiidgimaa
open Go Go.Vm

def busyA (x : (ByteArray × Int × Int × Int × Int)) : Bool := decide (1 ≤ x.2.2.2.2) && decide (x.2.2.2.2 ≤ 3)
def realNeed (l : List Int) : Bool := need4 l && !l.all (fun x : Int => inR x 0 0)
def wantP (ins : List (Int × Int × Bool × List ByteArray)) (ws : List (Int × List Int)) (i : Nat) : Bool := match ws[i]? with
  | none => true
  | some w => decide (0 ≤ openF ins w.1) && realNeed w.2 && (decide (i = 0) || match ws[i - 1]? with | some y => decide (y.1 < w.1) | none => true)
def inP (n : Int) (fl : List (ByteArray × Int × Int × Int × Int)) (x : (Int × Int × Bool × List ByteArray)) : Bool := hasB n x.2.1 && x.2.2.2.all fun s => decide (0 ≤ findA fl s)
def fleetP (ins : List (Int × Int × Bool × List ByteArray)) (a : (ByteArray × Int × Int × Int × Int)) : Bool := !(busyA a != decide (0 ≤ commF ins a.1))
def ctlH (n : Int) (ss : List (Int × Int × Int)) (fl : List (ByteArray × Int × Int × Int × Int)) (ins : List (Int × Int × Bool × List ByteArray)) (ws : List (Int × List Int)) : Bool := dsB n ss fl && incsB ins && !decide (8 < (ws.length : Int))
def ctlB (n : Int) (ss : List (Int × Int × Int)) (fl : List (ByteArray × Int × Int × Int × Int)) (ins : List (Int × Int × Bool × List ByteArray)) (ws : List (Int × List Int)) : Bool := ctlH n ss fl ins ws && ins.all (inP n fl) && fl.all (fleetP ins) && (List.range ws.length).all (wantP ins ws)
theorem ctl_h {n : Int} {ss : List (Int × Int × Int)} {fl : List (ByteArray × Int × Int × Int × Int)} {ins : List (Int × Int × Bool × List ByteArray)} {ws : List (Int × List Int)} (h : ctlH n ss fl ins ws = false) : ctlB n ss fl ins ws = false := by rw [ctlB, h]; rfl
theorem ctl_i {n : Int} {ss : List (Int × Int × Int)} {fl : List (ByteArray × Int × Int × Int × Int)} {ins : List (Int × Int × Bool × List ByteArray)} {ws : List (Int × List Int)} (h : ins.all (inP n fl) = false) : ctlB n ss fl ins ws = false := by rw [ctlB, h]; simp
theorem ctl_f {n : Int} {ss : List (Int × Int × Int)} {fl : List (ByteArray × Int × Int × Int × Int)} {ins : List (Int × Int × Bool × List ByteArray)} {ws : List (Int × List Int)} (h : fl.all (fleetP ins) = false) : ctlB n ss fl ins ws = false := by rw [ctlB, h]; simp
theorem ctl_w {n : Int} {ss : List (Int × Int × Int)} {fl : List (ByteArray × Int × Int × Int × Int)} {ins : List (Int × Int × Bool × List ByteArray)} {ws : List (Int × List Int)} {i : Nat} (hi : i < ws.length) (h : wantP ins ws i = false) : ctlB n ss fl ins ws = false := by
  have : (List.range ws.length).all (wantP ins ws) = false := by
    rw [List.all_eq_false]
    exact ⟨i, List.mem_range.2 hi, by rw [h]; simp⟩
  rw [ctlB, this]; simp
theorem ctl_yes {n : Int} {ss : List (Int × Int × Int)} {fl : List (ByteArray × Int × Int × Int × Int)} {ins : List (Int × Int × Bool × List ByteArray)} {ws : List (Int × List Int)} {i : Nat} (h1 : ctlH n ss fl ins ws = true) (h2 : ins.all (inP n fl) = true) (h3 : fl.all (fleetP ins) = true) (hi : ws.length ≤ i) (h4 : ∀ j, j < i → wantP ins ws j = true) : ctlB n ss fl ins ws = true := by
  have : (List.range ws.length).all (wantP ins ws) = true := by
    rw [List.all_eq_true]
    intro j hj
    exact h4 j (Nat.lt_of_lt_of_le (List.mem_range.1 hj) hi)
  rw [ctlB, h1, h2, h3, this]; rfl
theorem wantP_zero {ins : List (Int × Int × Bool × List ByteArray)} {ws : List (Int × List Int)} {w : (Int × List Int)} (h : ws[0]? = some w) : wantP ins ws 0 = (decide (0 ≤ openF ins w.1) && realNeed w.2) := by
  rw [wantP, h]; simp
theorem wantP_succ {ins : List (Int × Int × Bool × List ByteArray)} {ws : List (Int × List Int)} {w y : (Int × List Int)} {i : Nat} (h0 : 0 < i) (hy : ws[i - 1]? = some y) (h : ws[i]? = some w) : wantP ins ws i = (decide (0 ≤ openF ins w.1) && realNeed w.2 && decide (y.1 < w.1)) := by
  rw [wantP, h]
  simp only [hy, decide_eq_false (show ¬ i = 0 by omega), Bool.false_or]
theorem ctlh_facts {n : Int} {ss : List (Int × Int × Int)} {fl : List (ByteArray × Int × Int × Int × Int)} {ins : List (Int × Int × Bool × List ByteArray)} {ws : List (Int × List Int)} (h : ctlH n ss fl ins ws = true) : DsFacts n ss fl ∧ (∀ x ∈ ins, 0 ≤ x.2.1) := by
  simp only [ctlH, Bool.and_eq_true] at h
  refine ⟨ds_facts h.1.1, fun x hx => ?_⟩
  obtain ⟨i, hi, rfl⟩ := List.getElem_of_mem hx
  have h2 := h.1.2
  simp only [incsB, Bool.and_eq_true, List.all_eq_true, List.mem_range] at h2
  have h3 := h2.1 i hi
  rw [incP, List.getElem?_eq_getElem hi] at h3
  simp only [Bool.and_eq_true, incOK, decide_eq_true_eq] at h3
  omega
theorem max_zero {x : Int} {l : List Int} (h : need4 (x :: l) = true) : decide (mostL l x = 0) = (x :: l).all (fun x : Int => inR x 0 0) := by
  obtain ⟨_, hb⟩ := need4_facts h
  have key : ∀ (l : List Int) (a : Int), 0 ≤ a → (∀ y ∈ l, 0 ≤ y) → decide (mostL l a = 0) = (decide (a = 0) && l.all (fun x : Int => inR x 0 0)) := by
    intro l
    induction l with
    | nil => intro a _ _; simp [mostL]
    | cons y l ih =>
      intro a ha hl
      have hy := hl y (List.mem_cons_self ..)
      have hs : mostL (y :: l) a = mostL l (if y > a then y else a) := rfl
      rw [hs, ih _ (by split <;> omega) fun z hz => hl z (List.mem_cons_of_mem _ hz), List.all_cons]
      have e : decide ((if y > a then y else a) = 0) = (decide (a = 0) && inR y 0 0) := by
        rw [inR]
        by_cases h1 : y > a
        · rw [if_pos h1, decide_eq_false (show ¬ y = 0 by omega), decide_eq_false (show ¬ y ≤ 0 by omega)]; simp
        · rw [if_neg h1]
          by_cases h2 : a = 0
          · rw [decide_eq_true h2, decide_eq_true (show 0 ≤ y by omega), decide_eq_true (show y ≤ 0 by omega)]; rfl
          · rw [decide_eq_false h2]; rfl
      rw [e, Bool.and_assoc]
  rw [key l x (hb x (List.mem_cons_self ..)).1 fun y hy => (hb y (List.mem_cons_of_mem _ hy)).1, List.all_cons]
  congr 1
  have := (hb x (List.mem_cons_self ..)).1
  rw [inR, decide_eq_true this, Bool.true_and]
  exact decide_eq_decide.2 (by omega)

set_option maxHeartbeats 1000000 in
theorem isBusy_con (x0 : ByteArray) (x1 : Int) (x2 : Int) (x3 : Int) (x4 : Int) : Con Try.prog 116 [.agg [V.str x0, V.int .i64 x1, V.int .i64 x2, V.int .i64 x3, V.int .i64 x4]] [] (.bool (busyA (x0, x1, x2, x3, x4))) [] := by
 refine v_con [.tmp 2] [] Try.func116 rfl rfl rfl (by simp [Try.ntmps116]) ?_
 intro Q0 n0 r0
 simp only [Try.ntmps116, envFrom, Nat.reduceAdd]
 have T := Tys.mk (And.intro Ty.t3 (And.intro Ty.t4 (And.intro Ty.t9 Ty.t141)))
 have F := Fc.mk True.intro
 refine v_seq ?_; intro Q1 n1 e1 r1
 refine v_region ?_; intro K2 k2
 refine zBox ⟨?_⟩
 refine zAssign ⟨?_⟩
 refine k2 _ ?_
 refine n1 _ _ (weak_keep [1] _) ?_
 refine zk ⟨?_⟩
 refine v_seq ?_; intro Q3 n3 e3 r3
 refine v_region ?_; intro K4 k4
 refine zFieldAddr ⟨?_⟩
 refine zLoad ⟨?_⟩
 refine zc (inside_con _ _ _) ⟨?_⟩
 refine zAssign ⟨?_⟩
 refine k4 _ ?_
 refine n3 _ _ (weak_keep [2] _) ?_
 refine zk ⟨?_⟩
 refine v_ret ?_
 refine r0 _ ?_
 refine zf ⟨?_⟩
 exact ret_pure rfl rfl (.inl rfl)
set_option maxHeartbeats 1000000 in
theorem roBusy_con (n : Int) : Con Try.prog 184 [.int .i64 n] [] (.bool (decide (1 ≤ n) && decide (n ≤ 3))) [] := by
 refine v_con [.tmp 2] [] Try.func184 rfl rfl rfl (by simp [Try.ntmps184]) ?_
 intro Q0 n0 r0
 simp only [Try.ntmps184, envFrom, Nat.reduceAdd]
 have T := Tys.mk (And.intro Ty.t3 Ty.t4)
 have F := Fc.mk True.intro
 refine v_seq ?_; intro Q1 n1 e1 r1
 refine v_region ?_; intro K2 k2
 refine zAssign ⟨?_⟩
 refine k2 _ ?_
 refine n1 _ _ (weak_keep [0] _) ?_
 refine zk ⟨?_⟩
 refine v_seq ?_; intro Q3 n3 e3 r3
 refine v_region ?_; intro K4 k4
 refine zMove ⟨?_⟩
 refine zc (l1In_con _ _ _) ⟨?_⟩
 refine zAssign ⟨?_⟩
 refine k4 _ ?_
 refine n3 _ _ (weak_keep [2] _) ?_
 refine zk ⟨?_⟩
 refine v_ret ?_
 refine r0 _ ?_
 refine zf ⟨?_⟩
 exact ret_pure rfl (by first | rfl | simp) (.inl rfl)
set_option maxHeartbeats 1000000 in
theorem roNeed_con (l : List Int) (hl : l.length ≤ 1048576) : Con Try.prog 187 [.sl (l.map (V.int .i64))] [] (.bool (realNeed l)) [] := by
 refine v_con [.tmp 2] [] Try.func187 rfl rfl rfl (by simp [Try.ntmps187]) ?_
 intro Q0 n0 r0
 simp only [Try.ntmps187, envFrom, Nat.reduceAdd]
 have T := Tys.mk (And.intro Ty.t3 (And.intro Ty.t4 Ty.t26))
 have F := Fc.mk True.intro
 refine v_seq ?_; intro Q1 n1 e1 r1
 refine v_region ?_; intro K2 k2
 refine zAssign ⟨?_⟩
 refine k2 _ ?_
 refine n1 _ _ (weak_keep [0] _) ?_
 refine zk ⟨?_⟩
 refine v_seq ?_; intro Q3 n3 e3 r3
 refine v_region ?_; intro K4 k4
 refine zMove ⟨?_⟩
 refine zc (tbNeed_con l hl) ⟨?_⟩
 refine zMove ⟨?_⟩
 refine zgMove ⟨?_⟩
 refine zgc (l1All_con l 0 0 hl) ⟨?_⟩
 refine zgUnOp ⟨?_⟩
 refine zPick ⟨?_⟩
 refine zAssign ⟨?_⟩
 refine k4 _ ?_
 refine n3 _ _ (weak_keep [2] _) ?_
 refine zk ⟨?_⟩
 refine v_ret ?_
 refine r0 _ ?_
 refine zf ⟨?_⟩
 exact ret_pure rfl rfl (.inl rfl)
end Go.Proofs.Ytdgenniiidgimaa
