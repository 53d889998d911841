/- What functions compute. No condition. -/
import Derived.Test.YtdgenniiidgimaaUty
import Derived.Test.YtdgenniiidgimaaUmG
import Derived.Test.YtdgenniiidgimaaX7
import Derived.Test.YtdgenniiidgimaaX6
import Derived.Test.YtdgenniiidgimaaX3
import Derived.Test.YtdgenniiidgimaaX5
import Derived.Test.YtdgenniiidgimaaX4
set_option linter.unusedSimpArgs false
set_option linter.unusedVariables false
set_option linter.defProp false
namespace Go.Proofs.Ytdgenniiidgimaa
open Go Go.Vm

def orNil {α : Type} (b : Bool) (l : List α) : List α := bif b then l else []
theorem orNil_t {α : Type} (l : List α) : orNil true l = l := rfl
theorem orNil_f {α : Type} (l : List α) : orNil false l = [] := rfl
theorem orNil_len {α : Type} {b : Bool} {l : List α} {n : Nat} (h : l.length ≤ n) : (orNil b l).length ≤ n := by
  cases b
  · exact Nat.zero_le _
  · exact h
theorem orNil_all {α : Type} {b : Bool} {l : List α} {P : α → Prop} (h : ∀ x ∈ l, P x) : ∀ x ∈ orNil b l, P x := by
  cases b
  · intro x hx; cases hx
  · exact h
theorem firstP_at {α : Type} {p : α → Bool} {l : List α} (h : 0 ≤ firstP p 0 l) : ∃ (k : Nat) (x : α), l[k]? = some x ∧ p x = true ∧ firstP p 0 l = (k : Int) := by
  obtain ⟨k, _, h2, _, x, h4, h5⟩ := first_some (p := p) (l := l) (i := 0) (by omega)
  exact ⟨k, x, h4, h5, by rw [h2, Nat.zero_add]⟩
theorem findA_at {fl : List (ByteArray × Int × Int × Int × Int)} {s : ByteArray} (h : 0 ≤ findA fl s) : ∃ (k : Nat) (x : (ByteArray × Int × Int × Int × Int)), fl[k]? = some x ∧ x.1 = s ∧ findA fl s = (k : Int) := by
  rcases findA_cases fl s with q | ⟨k, x, h1, h2, h3⟩
  · omega
  · exact ⟨k, x, h2, h3, h1⟩
theorem openF_at {ins : List (Int × Int × Bool × List ByteArray)} {n : Int} (h : 0 ≤ openF ins n) : ∃ (k : Nat) (x : (Int × Int × Bool × List ByteArray)), ins[k]? = some x ∧ (x.1 = n ∧ x.2.2.1 = false) ∧ openF ins n = (k : Int) := by
  obtain ⟨k, x, h1, h2, h3⟩ := firstP_at h
  simp only [Bool.and_eq_true, decide_eq_true_eq, Bool.not_eq_true'] at h2
  exact ⟨k, x, h1, h2, h3⟩
theorem commF_at {ins : List (Int × Int × Bool × List ByteArray)} {s : ByteArray} (h : 0 ≤ commF ins s) : ∃ (k : Nat) (x : (Int × Int × Bool × List ByteArray)), ins[k]? = some x ∧ inS s x.2.2.2 = true ∧ commF ins s = (k : Int) := firstP_at h
structure CtlFacts (n : Int) (ss : List (Int × Int × Int)) (fl : List (ByteArray × Int × Int × Int × Int)) (ins : List (Int × Int × Bool × List ByteArray)) (ws : List (Int × List Int)) : Prop where
  ds : DsFacts n ss fl
  town : townB n ss = true
  ins8 : incsB ins = true
  node : ∀ x ∈ ins, 0 ≤ x.2.1 ∧ x.2.1 < n
  names : ∀ x ∈ ins, ∀ s ∈ x.2.2.2, 0 ≤ findA fl s
  busy : ∀ a ∈ fl, busyA a = decide (0 ≤ commF ins a.1)
  ws8 : ws.length ≤ 8
  want : ∀ w ∈ ws, 0 ≤ openF ins w.1 ∧ realNeed w.2 = true
theorem ctl_facts {n : Int} {ss : List (Int × Int × Int)} {fl : List (ByteArray × Int × Int × Int × Int)} {ins : List (Int × Int × Bool × List ByteArray)} {ws : List (Int × List Int)} (h : ctlB n ss fl ins ws = true) : CtlFacts n ss fl ins ws := by
  simp only [ctlB, ctlH, Bool.and_eq_true, List.all_eq_true, decide_eq_true_eq, Bool.not_eq_true', decide_eq_false_iff_not, List.mem_range] at h
  obtain ⟨⟨⟨⟨⟨h1, h2⟩, h3⟩, h4⟩, h5⟩, h6⟩ := h
  have hd := ds_facts h1
  refine ⟨hd, ?_, h2, fun x hx => ?_, fun x hx s hs => ?_, fun a ha => ?_, by omega, fun w hw => ?_⟩
  · simp only [dsB, Bool.and_eq_true] at h1; exact h1.1.1
  · have := h4 x hx
    rw [inP, Bool.and_eq_true, has_facts hd.hn, Bool.and_eq_true, decide_eq_true_eq, decide_eq_true_eq] at this
    exact this.1
  · have := h4 x hx
    rw [inP, Bool.and_eq_true, List.all_eq_true] at this
    simpa using this.2 s hs
  · have := h5 a ha
    rw [fleetP] at this
    simpa using this
  · obtain ⟨i, hi, rfl⟩ := List.getElem_of_mem hw
    have := h6 i hi
    rw [wantP, List.getElem?_eq_getElem hi] at this
    simp only [Bool.and_eq_true, decide_eq_true_eq] at this
    exact ⟨this.1.1, this.1.2⟩
theorem ctl_town {n : Int} {ss : List (Int × Int × Int)} {fl : List (ByteArray × Int × Int × Int × Int)} {ins : List (Int × Int × Bool × List ByteArray)} {ws : List (Int × List Int)} (h : ctlB n ss fl ins ws = true) : townB n ss = true := (ctl_facts h).town
theorem want_need {n : Int} {ss : List (Int × Int × Int)} {fl : List (ByteArray × Int × Int × Int × Int)} {ins : List (Int × Int × Bool × List ByteArray)} {ws : List (Int × List Int)} (h : CtlFacts n ss fl ins ws) : ∀ w ∈ ws, w.2.length = 4 ∧ ∀ x ∈ w.2, 0 ≤ x ∧ x ≤ 6 := by
  intro w hw
  have := (h.want w hw).2
  rw [realNeed, Bool.and_eq_true] at this
  exact need4_facts this.1
-- new controls
theorem new_ctl (n : Int) (ss : List (Int × Int × Int)) (fl : List (ByteArray × Int × Int × Int × Int)) : ctlB n ss fl [] [] = (dsB n ss fl && !fl.any busyA) := by
  have h1 : ctlH n ss fl [] [] = dsB n ss fl := by simp [ctlH, incsB]
  have h2 : (fl.all (fleetP [])) = !fl.any busyA := by
    rw [List.not_any_eq_all_not]
    congr 1
    funext a
    simp [fleetP, commF, firstP]
  rw [ctlB, h1, h2]
  simp
-- the free ones
def freeTo (fl : List (ByteArray × Int × Int × Int × Int)) (i : Nat) : List ByteArray := ((fl.take i).filter availB).map fun a => a.1
theorem free_yes {fl : List (ByteArray × Int × Int × Int × Int)} {i : Nat} {x : (ByteArray × Int × Int × Int × Int)} (h : fl[i]? = some x) (hp : availB x = true) : freeTo fl (i + 1) = freeTo fl i ++ [x.1] := by
  rw [freeTo, List.take_add_one, h, Option.toList, List.filter_append]; simp [hp, freeTo]
theorem free_no {fl : List (ByteArray × Int × Int × Int × Int)} {i : Nat} {x : (ByteArray × Int × Int × Int × Int)} (h : fl[i]? = some x) (hp : availB x = false) : freeTo fl (i + 1) = freeTo fl i := by
  rw [freeTo, List.take_add_one, h, Option.toList, List.filter_append]; simp [hp, freeTo]
theorem free_len (fl : List (ByteArray × Int × Int × Int × Int)) (i : Nat) : (freeTo fl i).length ≤ i := by
  rw [freeTo, List.length_map]
  exact Nat.le_trans (List.length_filter_le ..) (by rw [List.length_take]; omega)
theorem free_len2 (fl : List (ByteArray × Int × Int × Int × Int)) (i : Nat) : (freeTo fl i).length ≤ fl.length := by
  rw [freeTo, List.length_map]
  exact Nat.le_trans (List.length_filter_le ..) (by rw [List.length_take]; omega)
theorem freeTo_zero (fl : List (ByteArray × Int × Int × Int × Int)) : freeTo fl 0 = [] := rfl
-- states
def stA (fl : List (ByteArray × Int × Int × Int × Int)) (s : ByteArray) : Int := match fl[(findA fl s).toNat]? with | some a => a.2.2.2.2 | none => 0
theorem stA_at {fl : List (ByteArray × Int × Int × Int × Int)} {s : ByteArray} {k : Nat} {x : (ByteArray × Int × Int × Int × Int)} (h : findA fl s = (k : Int)) (hx : fl[k]? = some x) : stA fl s = x.2.2.2.2 := by
  rw [stA, h, Int.toNat_natCast, hx]
def namesAt (ins : List (Int × Int × Bool × List ByteArray)) (n : Int) : List ByteArray := match ins[(openF ins n).toNat]? with | some x => x.2.2.2 | none => []
theorem namesAt_at {ins : List (Int × Int × Bool × List ByteArray)} {n : Int} {k : Nat} {x : (Int × Int × Bool × List ByteArray)} (h : openF ins n = (k : Int)) (hx : ins[k]? = some x) : namesAt ins n = x.2.2.2 := by
  rw [namesAt, h, Int.toNat_natCast, hx]
def atB (n : Int) (ss : List (Int × Int × Int)) (fl : List (ByteArray × Int × Int × Int × Int)) (ins : List (Int × Int × Bool × List ByteArray)) (ws : List (Int × List Int)) (m : Int) : Bool := ctlB n ss fl ins ws && decide (0 ≤ openF ins m)
def statesL (fl : List (ByteArray × Int × Int × Int × Int)) (ins : List (Int × Int × Bool × List ByteArray)) (m : Int) : List Int := (namesAt ins m).map (stA fl)
theorem take_map_step {α β : Type} {f : α → β} {l : List α} {i : Nat} {x : α} (h : l[i]? = some x) : (l.take (i + 1)).map f = (l.take i).map f ++ [f x] := by
  rw [List.take_add_one, h, Option.toList, List.map_append]; rfl
-- sums of wants
def addL : List Int → List Int → List Int
  | a :: xs, b :: ys => (a + b) :: addL xs ys
  | xs, [] => xs
  | [], _ => []
theorem addL_nil : ∀ l : List Int, addL l [] = l
  | [] => rfl
  | _ :: _ => rfl
theorem addL_len : ∀ a b : List Int, (addL a b).length = a.length
  | [], [] => rfl
  | [], _ :: _ => rfl
  | _ :: _, [] => rfl
  | a :: xs, b :: ys => by rw [addL, List.length_cons, List.length_cons, addL_len xs ys]
theorem addL_step : ∀ {acc l : List Int} {k : Nat} {a b : Int}, acc[k]? = some a → l[k]? = some b → (addL acc (l.take k))[k]? = some a ∧ (addL acc (l.take k)).set k (a + b) = addL acc (l.take (k + 1))
  | [], _, _, _, _, h, _ => by simp at h
  | _ :: _, [], _, _, _, _, h => by simp at h
  | x :: acc, y :: l, 0, a, b, h, k => by
    simp at h k
    subst h k
    refine ⟨by simp [addL], ?_⟩
    simp [addL, addL_nil]
  | x :: acc, y :: l, k + 1, a, b, h, q => by
    obtain ⟨h1, h2⟩ := addL_step (acc := acc) (l := l) (k := k) (a := a) (b := b) (by simpa using h) (by simpa using q)
    refine ⟨by simpa [addL] using h1, ?_⟩
    rw [List.take_succ_cons, addL, List.set_cons_succ, h2, List.take_succ_cons, addL]
theorem addL_bound : ∀ {acc l : List Int} {A B : Int}, 0 ≤ B → (∀ x ∈ acc, 0 ≤ x ∧ x ≤ A) → (∀ x ∈ l, 0 ≤ x ∧ x ≤ B) → ∀ x ∈ addL acc l, 0 ≤ x ∧ x ≤ A + B
  | [], [], _, _, _, _, _, x, hx => by cases hx
  | [], _ :: _, _, _, _, _, _, x, hx => by cases hx
  | a :: acc, [], A, B, hB, h1, _, x, hx => by
    have := h1 x hx; omega
  | a :: acc, b :: l, A, B, hB, h1, h2, x, hx => by
    rcases List.mem_cons.1 hx with e | e
    · have q1 := h1 a (List.mem_cons_self ..)
      have q2 := h2 b (List.mem_cons_self ..)
      subst e; omega
    · exact addL_bound hB (fun y hy => h1 y (List.mem_cons_of_mem _ hy)) (fun y hy => h2 y (List.mem_cons_of_mem _ hy)) x e
def sumTo (ws : List (Int × List Int)) (i : Nat) : List Int := (ws.take i).foldl (fun acc w => addL acc w.2) [0, 0, 0, 0]
theorem sumTo_step {ws : List (Int × List Int)} {i : Nat} {w : (Int × List Int)} (h : ws[i]? = some w) : sumTo ws (i + 1) = addL (sumTo ws i) w.2 := by
  rw [sumTo, List.take_add_one, h, Option.toList, List.foldl_append]; rfl
theorem sumTo_len (ws : List (Int × List Int)) : ∀ i, (sumTo ws i).length = 4
  | 0 => rfl
  | i + 1 => by
    cases h : ws[i]? with
    | none => rw [sumTo, List.take_add_one, h]; simp only [Option.toList, List.append_nil]; exact sumTo_len ws i
    | some w => rw [sumTo_step h, addL_len, sumTo_len ws i]
theorem sumTo_bound {ws : List (Int × List Int)} (hw : ∀ w ∈ ws, w.2.length = 4 ∧ ∀ x ∈ w.2, 0 ≤ x ∧ x ≤ 6) : ∀ i, ∀ x ∈ sumTo ws i, 0 ≤ x ∧ x ≤ 6 * (i : Int)
  | 0, x, hx => by
    have : sumTo ws 0 = [0, 0, 0, 0] := rfl
    rw [this] at hx
    simp at hx
    omega
  | i + 1, x, hx => by
    cases h : ws[i]? with
    | none =>
      have e : sumTo ws (i + 1) = sumTo ws i := by rw [sumTo, List.take_add_one, h]; simp only [Option.toList, List.append_nil]; rfl
      rw [e] at hx
      have := sumTo_bound hw i x hx
      omega
    | some w =>
      rw [sumTo_step h] at hx
      have := addL_bound (by omega) (sumTo_bound hw i) (hw w (List.mem_of_getElem? h)).2 x hx
      omega
-- an appliance arrives
def arrB (fl : List (ByteArray × Int × Int × Int × Int)) (s : ByteArray) : Bool := decide (0 ≤ findA fl s) && decide (stA fl s = 2)
def arrF (fl : List (ByteArray × Int × Int × Int × Int)) (ins : List (Int × Int × Bool × List ByteArray)) (s : ByteArray) : List (ByteArray × Int × Int × Int × Int) := match fl[(findA fl s).toNat]?, ins[(commF ins s).toNat]? with
  | some a, some x => fl.set (findA fl s).toNat (a.1, a.2.1, x.2.1, a.2.2.2.1, 3)
  | _, _ => fl
theorem arrF_at {fl : List (ByteArray × Int × Int × Int × Int)} {ins : List (Int × Int × Bool × List ByteArray)} {s : ByteArray} {k m : Nat} {a : (ByteArray × Int × Int × Int × Int)} {x : (Int × Int × Bool × List ByteArray)} (h1 : findA fl s = (k : Int)) (h2 : fl[k]? = some a) (h3 : commF ins s = (m : Int)) (h4 : ins[m]? = some x) : arrF fl ins s = fl.set k (a.1, a.2.1, x.2.1, a.2.2.2.1, 3) := by
  rw [arrF, h1, h3, Int.toNat_natCast, Int.toNat_natCast, h2, h4]
theorem arrF_len (fl : List (ByteArray × Int × Int × Int × Int)) (ins : List (Int × Int × Bool × List ByteArray)) (s : ByteArray) : (arrF fl ins s).length = fl.length := by
  rw [arrF]
  split
  · rw [List.length_set]
  · rfl
theorem arr_comm {n : Int} {ss : List (Int × Int × Int)} {fl : List (ByteArray × Int × Int × Int × Int)} {ins : List (Int × Int × Bool × List ByteArray)} {ws : List (Int × List Int)} (h : CtlFacts n ss fl ins ws) {s : ByteArray} {k : Nat} {a : (ByteArray × Int × Int × Int × Int)} (h1 : fl[k]? = some a) (h2 : a.1 = s) (h3 : a.2.2.2.2 = 2) : 0 ≤ commF ins s := by
  have := h.busy a (List.mem_of_getElem? h1)
  rw [busyA, h3, h2] at this
  simpa using this.symm

set_option maxHeartbeats 1000000 in
theorem implNew_con (n : Int) (ss : List (Int × Int × Int)) (fl : List (ByteArray × Int × Int × Int × Int)) (hs : ss.length ≤ 1048576) (hl : fl.length ≤ 1048576) (hls : ∀ t ∈ fl, t.1.size ≤ 9223372036854775807) : Con Try.prog 55 [.agg [.int .i64 n, .sl (ss.map (fun t : Int × Int × Int => V.agg [V.int .i64 t.1, V.int .i64 t.2.1, V.int .i64 t.2.2]))], .sl (fl.map (fun t : ByteArray × Int × Int × Int × Int => V.agg [V.str t.1, V.int .i64 t.2.1, V.int .i64 t.2.2.1, V.int .i64 t.2.2.2.1, V.int .i64 t.2.2.2.2]))] [] (.tup [.agg [.ref 0, .ref 1, .ref 2], .bool (ctlB n ss fl [] [])]) [.arr ((orNil (ctlB n ss fl [] []) fl).map (fun t : ByteArray × Int × Int × Int × Int => V.agg [V.str t.1, V.int .i64 t.2.1, V.int .i64 t.2.2.1, V.int .i64 t.2.2.2.1, V.int .i64 t.2.2.2.2])) .flat, .arr [] .flat, .arr [] .flat] := by
 refine v_con [.cell 4 87, .tmp 5] [] Try.func55 rfl rfl rfl (by simp [Try.ntmps55]) ?_
 intro Q0 n0 r0
 simp only [Try.ntmps55, envFrom, Nat.reduceAdd]
 have T := Tys.mk (And.intro Ty.t3 (And.intro Ty.t4 (And.intro Ty.t9 (And.intro Ty.t26 (And.intro Ty.t70 (And.intro Ty.t72 (And.intro Ty.t74 (And.intro Ty.t84 (And.intro Ty.t85 (And.intro Ty.t87 (And.intro Ty.t93 (And.intro Ty.t141 (And.intro Ty.t144 (And.intro Ty.t182 (And.intro Ty.t192 Ty.t195)))))))))))))))
 have F := Fc.mk True.intro
 refine v_seqR [1,2,4] ?_; intro K1 k1
 refine zBox ⟨?_⟩
 refine zAlloc ⟨?_⟩
 refine zAssign ⟨?_⟩
 refine k1 _ ?_
 refine zk ⟨?_⟩
 refine v_seq ?_; intro Q2 n2 e2 r2
 refine v_seqR [1,4,12] ?_; intro K3 k3
 refine zMove ⟨?_⟩
 refine zc (dispatchFits_con n ss fl hs hl hls) ⟨?_⟩
 refine zUnOp ⟨?_⟩
 refine zMove ⟨?_⟩
 refine zgMove ⟨?_⟩
 refine zgc (containsFuncAppliance_con fl _ _ busyA hl .nil (fun x0 x1 x2 x3 x4 _ => isBusy_con x0 x1 x2 x3 x4)) ⟨?_⟩
 refine zPick ⟨?_⟩
 refine k3 _ ?_
 refine zk ⟨?_⟩
 refine v_condS _ rfl ?_ ?_
 ·intro hc0
  have hB : (ctlB n ss fl [] []) = false := by
   rw [new_ctl]
   cases h1 : dsB n ss fl <;> cases h2 : fl.any busyA <;> simp [h1, h2] at hc0 ⊢
  refine v_seqR [4,5] ?_; intro K5 k5
  refine zBuild ⟨?_⟩
  refine zStore ⟨?_⟩
  refine zAssign ⟨?_⟩
  refine k5 _ ?_
  refine zk ⟨?_⟩
  refine v_ret ?_
  refine r2 _ ?_
  refine r0 _ ?_
  refine zf ⟨?_⟩
  simp only [zE, zL, zO, zN, aStepM, optable, set_some, Nat.reduceEqDiff, reduceIte, Nat.reduceLT, implies_true, forall_const, reduceCtorEq, V.ofValue, V.ofScalar, V.un, V.gd, aLoad, row_mk, Blk.row, PartOK, Go.Vm.part, V.cells, V.noSl, V.noRef, Nat.reduceAdd, Nat.reduceLeDiff, Nat.reduceMul, Try.underlying74, Ty.c74, Ty.a74, Try.underlying84, Ty.c84, Ty.a84, Try.underlying85, Ty.c85, Ty.a85, Try.underlying87, Ty.c87, Ty.a87]
  rw [hB, orNil_f]
  exact ret_all rfl (by first | decide | simp [newIds, refsOf, refs2, refs1]) (by simp) rfl (by simp [newIds, refsOf, refs2, refs1]) (by simp [Blk.kindIs, fillK_fd]) rfl
 ·intro hc0
  have hB : (ctlB n ss fl [] []) = true := by
   rw [new_ctl]
   cases h1 : dsB n ss fl <;> cases h2 : fl.any busyA <;> simp [h1, h2] at hc0 ⊢
  refine v_skip ?_
  refine n2 _ _ (weak_keep [1, 4] _) ?_
  refine zk ⟨?_⟩
  refine v_seqR [4,5] ?_; intro K6 k6
  refine zMove ⟨?_⟩
  refine zc (cloneAppliance_con fl hl) ⟨?_⟩
  refine zBuild ⟨?_⟩
  refine zStore ⟨?_⟩
  refine zAssign ⟨?_⟩
  refine k6 _ ?_
  refine zk ⟨?_⟩
  refine v_ret ?_
  refine r0 _ ?_
  refine zf ⟨?_⟩
  simp only [zE, zL, zO, zN, aStepM, optable, set_some, Nat.reduceEqDiff, reduceIte, Nat.reduceLT, implies_true, forall_const, reduceCtorEq, V.ofValue, V.ofScalar, V.un, V.gd, aLoad, row_mk, Blk.row, PartOK, Go.Vm.part, V.cells, V.noSl, V.noRef, Nat.reduceAdd, Nat.reduceLeDiff, Nat.reduceMul, Try.underlying74, Ty.c74, Ty.a74, Try.underlying84, Ty.c84, Ty.a84, Try.underlying85, Ty.c85, Ty.a85, Try.underlying87, Ty.c87, Ty.a87]
  rw [hB, orNil_t]
  exact ret_all rfl (by first | decide | simp [newIds, refsOf, refs2, refs1]) (by simp) rfl (by simp [newIds, refsOf, refs2, refs1]) (by simp [Blk.kindIs, fillK_fd]) rfl
set_option maxHeartbeats 1000000 in
theorem roIfNew_yes (n : Int) (ss : List (Int × Int × Int)) (fl : List (ByteArray × Int × Int × Int × Int)) (hs : ss.length ≤ 1048576) (hl : fl.length ≤ 1048576) (hls : ∀ t ∈ fl, t.1.size ≤ 9223372036854775807) (hB : (ctlB n ss fl [] []) = true) : Con Try.prog 114 [.agg [.int .i64 n, .sl (ss.map (fun t : Int × Int × Int => V.agg [V.int .i64 t.1, V.int .i64 t.2.1, V.int .i64 t.2.2]))], .agg [.ref 0, .nsl, .nsl]] [.arr (fl.map (fun t : ByteArray × Int × Int × Int × Int => V.agg [V.str t.1, V.int .i64 t.2.1, V.int .i64 t.2.2.1, V.int .i64 t.2.2.2.1, V.int .i64 t.2.2.2.2])) .flat] (.tup [.agg [.ref 0, .ref 1, .ref 2], .bool true]) [.arr (fl.map (fun t : ByteArray × Int × Int × Int × Int => V.agg [V.str t.1, V.int .i64 t.2.1, V.int .i64 t.2.2.1, V.int .i64 t.2.2.2.1, V.int .i64 t.2.2.2.2])) .flat, .arr [] .flat, .arr [] .flat] := by
 refine v_con [.cell 4 87, .tmp 5] [] Try.func114 rfl rfl rfl (by simp [Try.ntmps114]) ?_
 intro Q0 n0 r0
 simp only [Try.ntmps114, envFrom, Nat.reduceAdd]
 have T := Tys.mk (And.intro Ty.t3 (And.intro Ty.t4 (And.intro Ty.t9 (And.intro Ty.t26 (And.intro Ty.t70 (And.intro Ty.t72 (And.intro Ty.t74 (And.intro Ty.t84 (And.intro Ty.t85 (And.intro Ty.t87 (And.intro Ty.t93 (And.intro Ty.t141 (And.intro Ty.t182 (And.intro Ty.t192 Ty.t195))))))))))))))
 have F := Fc.mk True.intro
 refine v_seqR [2,3,4] ?_; intro K1 k1
 refine zBox ⟨?_⟩
 refine zBox ⟨?_⟩
 refine zAlloc ⟨?_⟩
 refine zAssign ⟨?_⟩
 refine k1 _ ?_
 refine zk ⟨?_⟩
 refine v_seq ?_; intro Q2 n2 e2 r2
 refine v_seqR [3,4,9] ?_; intro K3 k3
 refine zLoad ⟨?_⟩
 refine zLoad ⟨?_⟩
 refine zc (roGood_con n ss fl [] [] hs hl hls (by simp) (by simp) (by simp) (by simp) (by simp)) ⟨?_⟩
 refine zUnOp ⟨?_⟩
 refine k3 _ ?_
 refine zk ⟨?_⟩
 refine v_cond _ rfl ?_ ?_
 ·intro hc0
  exfalso; simp [hB] at hc0
 ·intro hc0
  try simp only [zC, reduceCtorEq] at hc0
  refine v_skip ?_
  refine n2 _ _ (weak_keep [3, 4] _) ?_
  refine zk ⟨?_⟩
  refine v_seqR [4,5] ?_; intro K5 k5
  refine zLoad ⟨?_⟩
  refine zStore ⟨?_⟩
  refine zAssign ⟨?_⟩
  refine k5 _ ?_
  refine zk ⟨?_⟩
  refine v_ret ?_
  refine r0 _ ?_
  refine zf ⟨?_⟩
  simp only [zE, zL, zO, zN, aStepM, optable, set_some, Nat.reduceEqDiff, reduceIte, Nat.reduceLT, implies_true, forall_const, reduceCtorEq, V.ofValue, V.ofScalar, V.un, V.gd, aLoad, row_mk, Blk.row, PartOK, Go.Vm.part, V.cells, V.noSl, V.noRef, Nat.reduceAdd, Nat.reduceLeDiff, Nat.reduceMul, Try.underlying74, Ty.c74, Ty.a74, Try.underlying84, Ty.c84, Ty.a84, Try.underlying85, Ty.c85, Ty.a85, Try.underlying87, Ty.c87, Ty.a87]
  exact ret_all rfl (by first | decide | simp [newIds, refsOf, refs2, refs1]) (by simp) rfl (by simp [newIds, refsOf, refs2, refs1]) (by simp [Blk.kindIs, fillK_fd]) rfl
set_option maxHeartbeats 1000000 in
theorem roIfNew_no (n : Int) (ss : List (Int × Int × Int)) (fl : List (ByteArray × Int × Int × Int × Int)) (hs : ss.length ≤ 1048576) (hl : fl.length ≤ 1048576) (hls : ∀ t ∈ fl, t.1.size ≤ 9223372036854775807) (hB : (ctlB n ss fl [] []) = false) : Con Try.prog 114 [.agg [.int .i64 n, .sl (ss.map (fun t : Int × Int × Int => V.agg [V.int .i64 t.1, V.int .i64 t.2.1, V.int .i64 t.2.2]))], .agg [.ref 0, .nsl, .nsl]] [.arr (fl.map (fun t : ByteArray × Int × Int × Int × Int => V.agg [V.str t.1, V.int .i64 t.2.1, V.int .i64 t.2.2.1, V.int .i64 t.2.2.2.1, V.int .i64 t.2.2.2.2])) .flat] (.tup [.agg [.ref 1, .ref 2, .ref 3], .bool false]) [.arr (fl.map (fun t : ByteArray × Int × Int × Int × Int => V.agg [V.str t.1, V.int .i64 t.2.1, V.int .i64 t.2.2.1, V.int .i64 t.2.2.2.1, V.int .i64 t.2.2.2.2])) .flat, .arr [] .flat, .arr [] .flat, .arr [] .flat] := by
 refine v_con [.cell 4 87, .tmp 5] [] Try.func114 rfl rfl rfl (by simp [Try.ntmps114]) ?_
 intro Q0 n0 r0
 simp only [Try.ntmps114, envFrom, Nat.reduceAdd]
 have T := Tys.mk (And.intro Ty.t3 (And.intro Ty.t4 (And.intro Ty.t9 (And.intro Ty.t26 (And.intro Ty.t70 (And.intro Ty.t72 (And.intro Ty.t74 (And.intro Ty.t84 (And.intro Ty.t85 (And.intro Ty.t87 (And.intro Ty.t93 (And.intro Ty.t141 (And.intro Ty.t182 (And.intro Ty.t192 Ty.t195))))))))))))))
 have F := Fc.mk True.intro
 refine v_seqR [2,3,4] ?_; intro K1 k1
 refine zBox ⟨?_⟩
 refine zBox ⟨?_⟩
 refine zAlloc ⟨?_⟩
 refine zAssign ⟨?_⟩
 refine k1 _ ?_
 refine zk ⟨?_⟩
 refine v_seq ?_; intro Q2 n2 e2 r2
 refine v_seqR [3,4,9] ?_; intro K3 k3
 refine zLoad ⟨?_⟩
 refine zLoad ⟨?_⟩
 refine zc (roGood_con n ss fl [] [] hs hl hls (by simp) (by simp) (by simp) (by simp) (by simp)) ⟨?_⟩
 refine zUnOp ⟨?_⟩
 refine k3 _ ?_
 refine zk ⟨?_⟩
 refine v_cond _ rfl ?_ ?_
 ·intro hc0
  try simp only [zC, reduceCtorEq] at hc0
  refine v_seqR [4,5] ?_; intro K5 k5
  refine zBuild ⟨?_⟩
  refine zStore ⟨?_⟩
  refine zAssign ⟨?_⟩
  refine k5 _ ?_
  refine zk ⟨?_⟩
  refine v_ret ?_
  refine r2 _ ?_
  refine r0 _ ?_
  refine zf ⟨?_⟩
  simp only [zE, zL, zO, zN, aStepM, optable, set_some, Nat.reduceEqDiff, reduceIte, Nat.reduceLT, implies_true, forall_const, reduceCtorEq, V.ofValue, V.ofScalar, V.un, V.gd, aLoad, row_mk, Blk.row, PartOK, Go.Vm.part, V.cells, V.noSl, V.noRef, Nat.reduceAdd, Nat.reduceLeDiff, Nat.reduceMul, Try.underlying74, Ty.c74, Ty.a74, Try.underlying84, Ty.c84, Ty.a84, Try.underlying85, Ty.c85, Ty.a85, Try.underlying87, Ty.c87, Ty.a87]
  exact ret_all rfl (by first | decide | simp [newIds, refsOf, refs2, refs1]) (by simp) rfl (by simp [newIds, refsOf, refs2, refs1]) (by simp [Blk.kindIs, fillK_fd]) rfl
 ·intro hc0
  exfalso; simp [hB] at hc0
set_option maxHeartbeats 1000000 in
theorem specNew_con (n : Int) (ss : List (Int × Int × Int)) (fl : List (ByteArray × Int × Int × Int × Int)) (hs : ss.length ≤ 1048576) (hl : fl.length ≤ 1048576) (hls : ∀ t ∈ fl, t.1.size ≤ 9223372036854775807) : Con Try.prog 54 [.agg [.int .i64 n, .sl (ss.map (fun t : Int × Int × Int => V.agg [V.int .i64 t.1, V.int .i64 t.2.1, V.int .i64 t.2.2]))], .sl (fl.map (fun t : ByteArray × Int × Int × Int × Int => V.agg [V.str t.1, V.int .i64 t.2.1, V.int .i64 t.2.2.1, V.int .i64 t.2.2.2.1, V.int .i64 t.2.2.2.2]))] [] (.tup [.agg [.ref 0, .ref 1, .ref 2], .bool (ctlB n ss fl [] [])]) [.arr ((orNil (ctlB n ss fl [] []) fl).map (fun t : ByteArray × Int × Int × Int × Int => V.agg [V.str t.1, V.int .i64 t.2.1, V.int .i64 t.2.2.1, V.int .i64 t.2.2.2.1, V.int .i64 t.2.2.2.2])) .flat, .arr [] .flat, .arr [] .flat] := by
 have hns : (fl.map (fun t : ByteArray × Int × Int × Int × Int => V.agg [V.str t.1, V.int .i64 t.2.1, V.int .i64 t.2.2.1, V.int .i64 t.2.2.2.1, V.int .i64 t.2.2.2.2])).all V.noSl = true := by rw [List.all_map, List.all_eq_true]; intro a _; rfl
 refine v_con [.cell 4 87, .tmp 5] [(114, [1])] Try.func54 rfl rfl rfl (by simp [Try.ntmps54]) ?_
 intro Q0 n0 r0
 simp only [Try.ntmps54, envFrom, Nat.reduceAdd]
 have T := Tys.mk (And.intro Ty.t3 (And.intro Ty.t4 (And.intro Ty.t9 (And.intro Ty.t26 (And.intro Ty.t70 (And.intro Ty.t72 (And.intro Ty.t74 (And.intro Ty.t84 (And.intro Ty.t85 (And.intro Ty.t87 (And.intro Ty.t93 (And.intro Ty.t141 (And.intro Ty.t182 (And.intro Ty.t192 Ty.t195))))))))))))))
 have F := Fc.mk True.intro
 rcases Bool.eq_false_or_eq_true (ctlB n ss fl [] []) with hB | hB
 ·skip
  have hif := roIfNew_yes n ss fl hs hl hls hB
  refine v_seqR [1,2,4] ?_; intro K1 k1
  have F := Fc.mk hns
  refine zBox ⟨?_⟩
  refine zAlloc ⟨?_⟩
  refine zAssign ⟨?_⟩
  refine k1 _ ?_
  refine zk ⟨?_⟩
  refine v_seq ?_; intro Q2 n2 e2 r2
  refine v_draw (by kernel_rfl) ?_; intro K3 q3 k3
  show aAny _ _ _ _ 10 (Array.replicate 10 false) _
  refine zdMove q3 true 2 8 ?_
  refine aAny_two 0 1 rfl rfl (by kernel_rfl) ?_ ?_
  ·intro K k
   skip
   simp only [zE, zL, zO, zN, aStepM, optable, set_some, Nat.reduceEqDiff, reduceIte, Nat.reduceLT, implies_true, forall_const, reduceCtorEq, V.ofValue, V.ofScalar, V.un, V.gd, aExec, aop, aLoad, row_mk, Blk.row, PartOK, Go.Vm.part, V.cells, V.noSl, V.noRef, Nat.reduceAdd, Nat.reduceLeDiff, Nat.reduceMul, Try.underlying3, Ty.c3, Ty.a3, Try.underlying70, Ty.c70, Ty.a70, Try.underlying72, Ty.c72, Ty.a72, hns]
   repeat (refine And.intro (by first | omega | (intros; omega) | (intros; simp_all; done) | (intros; simp_all; omega)) ?_)
   refine k _ ?_; clear k K
   refine zoBuildSlice 1 ⟨?_⟩
   refine zoAppend 3 ⟨?_⟩
   refine zdBuild q3 true 4 10 ?_
   refine zol 5 (hif) ⟨?_⟩
   refine zdExtract q3 true 6 12 ?_
   refine zdExtract q3 true 7 13 ?_
   refine zoStore 8 ⟨?_⟩
   refine zoAssign 9 ⟨?_⟩
   refine aAny_done (by kernel_rfl) ?_
   refine k3 _ ?_
   refine n2 _ _ (weak_keep [4, 5] _) ?_
   refine zk ⟨?_⟩
   refine v_ret ?_
   refine r0 _ ?_
   refine zf ⟨?_⟩
   simp only [zE, zL, zO, zN, aStepM, optable, set_some, Nat.reduceEqDiff, reduceIte, Nat.reduceLT, implies_true, forall_const, reduceCtorEq, V.ofValue, V.ofScalar, V.un, V.gd, aLoad, row_mk, Blk.row, PartOK, Go.Vm.part, V.cells, V.noSl, V.noRef, Nat.reduceAdd, Nat.reduceLeDiff, Nat.reduceMul, Try.underlying74, Ty.c74, Ty.a74, Try.underlying84, Ty.c84, Ty.a84, Try.underlying85, Ty.c85, Ty.a85, Try.underlying87, Ty.c87, Ty.a87]
   rw [hB, orNil_t]
   exact ret_all rfl (by first | decide | simp [newIds, refsOf, refs2, refs1]) (by simp) rfl (by simp [newIds, refsOf, refs2, refs1]) (by simp [Blk.kindIs, fillK_fd]) rfl
  ·refine zsBuildSlice ⟨?_⟩
   refine aAny_two 0 3 rfl rfl (by kernel_rfl) ?_ ?_
   ·intro K k
    skip
    simp only [zE, zL, zO, zN, aStepM, optable, set_some, Nat.reduceEqDiff, reduceIte, Nat.reduceLT, implies_true, forall_const, reduceCtorEq, V.ofValue, V.ofScalar, V.un, V.gd, aExec, aop, aLoad, row_mk, Blk.row, PartOK, Go.Vm.part, V.cells, V.noSl, V.noRef, Nat.reduceAdd, Nat.reduceLeDiff, Nat.reduceMul, Try.underlying3, Ty.c3, Ty.a3, Try.underlying70, Ty.c70, Ty.a70, Try.underlying72, Ty.c72, Ty.a72, hns]
    repeat (refine And.intro (by first | omega | (intros; omega) | (intros; simp_all; done) | (intros; simp_all; omega)) ?_)
    refine k _ ?_; clear k K
    refine zoAppend 3 ⟨?_⟩
    refine zdBuild q3 true 4 10 ?_
    refine zol 5 (hif) ⟨?_⟩
    refine zdExtract q3 true 6 12 ?_
    refine zdExtract q3 true 7 13 ?_
    refine zoStore 8 ⟨?_⟩
    refine zoAssign 9 ⟨?_⟩
    refine aAny_done (by kernel_rfl) ?_
    refine k3 _ ?_
    refine n2 _ _ (weak_keep [4, 5] _) ?_
    refine zk ⟨?_⟩
    refine v_ret ?_
    refine r0 _ ?_
    refine zf ⟨?_⟩
    simp only [zE, zL, zO, zN, aStepM, optable, set_some, Nat.reduceEqDiff, reduceIte, Nat.reduceLT, implies_true, forall_const, reduceCtorEq, V.ofValue, V.ofScalar, V.un, V.gd, aLoad, row_mk, Blk.row, PartOK, Go.Vm.part, V.cells, V.noSl, V.noRef, Nat.reduceAdd, Nat.reduceLeDiff, Nat.reduceMul, Try.underlying74, Ty.c74, Ty.a74, Try.underlying84, Ty.c84, Ty.a84, Try.underlying85, Ty.c85, Ty.a85, Try.underlying87, Ty.c87, Ty.a87]
    rw [hB, orNil_t]
    exact ret_all rfl (by first | decide | simp [newIds, refsOf, refs2, refs1]) (by simp) rfl (by simp [newIds, refsOf, refs2, refs1]) (by simp [Blk.kindIs, fillK_fd]) rfl
   ·refine zsAppend ⟨?_⟩
    refine zdLoad q3 true 0 6 ?_
    refine zdBuild q3 true 4 10 ?_
    refine zol 5 (hif) ⟨?_⟩
    refine zdExtract q3 true 6 12 ?_
    refine zdExtract q3 true 7 13 ?_
    refine zoStore 8 ⟨?_⟩
    refine zoAssign 9 ⟨?_⟩
    refine aAny_done (by kernel_rfl) ?_
    refine k3 _ ?_
    refine n2 _ _ (weak_keep [4, 5] _) ?_
    refine zk ⟨?_⟩
    refine v_ret ?_
    refine r0 _ ?_
    refine zf ⟨?_⟩
    simp only [zE, zL, zO, zN, aStepM, optable, set_some, Nat.reduceEqDiff, reduceIte, Nat.reduceLT, implies_true, forall_const, reduceCtorEq, V.ofValue, V.ofScalar, V.un, V.gd, aLoad, row_mk, Blk.row, PartOK, Go.Vm.part, V.cells, V.noSl, V.noRef, Nat.reduceAdd, Nat.reduceLeDiff, Nat.reduceMul, Try.underlying74, Ty.c74, Ty.a74, Try.underlying84, Ty.c84, Ty.a84, Try.underlying85, Ty.c85, Ty.a85, Try.underlying87, Ty.c87, Ty.a87]
    rw [hB, orNil_t]
    exact ret_all rfl (by first | decide | simp [newIds, refsOf, refs2, refs1]) (by simp) rfl (by simp [newIds, refsOf, refs2, refs1]) (by simp [Blk.kindIs, fillK_fd]) rfl
 ·skip
  have hif := roIfNew_no n ss fl hs hl hls hB
  refine v_seqR [1,2,4] ?_; intro K4 k4
  have F := Fc.mk hns
  refine zBox ⟨?_⟩
  refine zAlloc ⟨?_⟩
  refine zAssign ⟨?_⟩
  refine k4 _ ?_
  refine zk ⟨?_⟩
  refine v_seq ?_; intro Q5 n5 e5 r5
  refine v_draw (by kernel_rfl) ?_; intro K6 q6 k6
  show aAny _ _ _ _ 10 (Array.replicate 10 false) _
  refine zdMove q6 true 2 8 ?_
  refine aAny_two 0 1 rfl rfl (by kernel_rfl) ?_ ?_
  ·intro K k
   skip
   simp only [zE, zL, zO, zN, aStepM, optable, set_some, Nat.reduceEqDiff, reduceIte, Nat.reduceLT, implies_true, forall_const, reduceCtorEq, V.ofValue, V.ofScalar, V.un, V.gd, aExec, aop, aLoad, row_mk, Blk.row, PartOK, Go.Vm.part, V.cells, V.noSl, V.noRef, Nat.reduceAdd, Nat.reduceLeDiff, Nat.reduceMul, Try.underlying3, Ty.c3, Ty.a3, Try.underlying70, Ty.c70, Ty.a70, Try.underlying72, Ty.c72, Ty.a72, hns]
   repeat (refine And.intro (by first | omega | (intros; omega) | (intros; simp_all; done) | (intros; simp_all; omega)) ?_)
   refine k _ ?_; clear k K
   refine zoBuildSlice 1 ⟨?_⟩
   refine zoAppend 3 ⟨?_⟩
   refine zdBuild q6 true 4 10 ?_
   refine zol 5 (hif) ⟨?_⟩
   refine zdExtract q6 true 6 12 ?_
   refine zdExtract q6 true 7 13 ?_
   refine zoStore 8 ⟨?_⟩
   refine zoAssign 9 ⟨?_⟩
   refine aAny_done (by kernel_rfl) ?_
   refine k6 _ ?_
   refine n5 _ _ (weak_keep [4, 5] _) ?_
   refine zk ⟨?_⟩
   refine v_ret ?_
   refine r0 _ ?_
   refine zf ⟨?_⟩
   simp only [zE, zL, zO, zN, aStepM, optable, set_some, Nat.reduceEqDiff, reduceIte, Nat.reduceLT, implies_true, forall_const, reduceCtorEq, V.ofValue, V.ofScalar, V.un, V.gd, aLoad, row_mk, Blk.row, PartOK, Go.Vm.part, V.cells, V.noSl, V.noRef, Nat.reduceAdd, Nat.reduceLeDiff, Nat.reduceMul, Try.underlying74, Ty.c74, Ty.a74, Try.underlying84, Ty.c84, Ty.a84, Try.underlying85, Ty.c85, Ty.a85, Try.underlying87, Ty.c87, Ty.a87]
   rw [hB, orNil_f]
   exact ret_all rfl (by first | decide | simp [newIds, refsOf, refs2, refs1]) (by simp) rfl (by simp [newIds, refsOf, refs2, refs1]) (by simp [Blk.kindIs, fillK_fd]) rfl
  ·refine zsBuildSlice ⟨?_⟩
   refine aAny_two 0 3 rfl rfl (by kernel_rfl) ?_ ?_
   ·intro K k
    skip
    simp only [zE, zL, zO, zN, aStepM, optable, set_some, Nat.reduceEqDiff, reduceIte, Nat.reduceLT, implies_true, forall_const, reduceCtorEq, V.ofValue, V.ofScalar, V.un, V.gd, aExec, aop, aLoad, row_mk, Blk.row, PartOK, Go.Vm.part, V.cells, V.noSl, V.noRef, Nat.reduceAdd, Nat.reduceLeDiff, Nat.reduceMul, Try.underlying3, Ty.c3, Ty.a3, Try.underlying70, Ty.c70, Ty.a70, Try.underlying72, Ty.c72, Ty.a72, hns]
    repeat (refine And.intro (by first | omega | (intros; omega) | (intros; simp_all; done) | (intros; simp_all; omega)) ?_)
    refine k _ ?_; clear k K
    refine zoAppend 3 ⟨?_⟩
    refine zdBuild q6 true 4 10 ?_
    refine zol 5 (hif) ⟨?_⟩
    refine zdExtract q6 true 6 12 ?_
    refine zdExtract q6 true 7 13 ?_
    refine zoStore 8 ⟨?_⟩
    refine zoAssign 9 ⟨?_⟩
    refine aAny_done (by kernel_rfl) ?_
    refine k6 _ ?_
    refine n5 _ _ (weak_keep [4, 5] _) ?_
    refine zk ⟨?_⟩
    refine v_ret ?_
    refine r0 _ ?_
    refine zf ⟨?_⟩
    simp only [zE, zL, zO, zN, aStepM, optable, set_some, Nat.reduceEqDiff, reduceIte, Nat.reduceLT, implies_true, forall_const, reduceCtorEq, V.ofValue, V.ofScalar, V.un, V.gd, aLoad, row_mk, Blk.row, PartOK, Go.Vm.part, V.cells, V.noSl, V.noRef, Nat.reduceAdd, Nat.reduceLeDiff, Nat.reduceMul, Try.underlying74, Ty.c74, Ty.a74, Try.underlying84, Ty.c84, Ty.a84, Try.underlying85, Ty.c85, Ty.a85, Try.underlying87, Ty.c87, Ty.a87]
    rw [hB, orNil_f]
    exact ret_all rfl (by first | decide | simp [newIds, refsOf, refs2, refs1]) (by simp) rfl (by simp [newIds, refsOf, refs2, refs1]) (by simp [Blk.kindIs, fillK_fd]) rfl
   ·refine zsAppend ⟨?_⟩
    refine zdLoad q6 true 0 6 ?_
    refine zdBuild q6 true 4 10 ?_
    refine zol 5 (hif) ⟨?_⟩
    refine zdExtract q6 true 6 12 ?_
    refine zdExtract q6 true 7 13 ?_
    refine zoStore 8 ⟨?_⟩
    refine zoAssign 9 ⟨?_⟩
    refine aAny_done (by kernel_rfl) ?_
    refine k6 _ ?_
    refine n5 _ _ (weak_keep [4, 5] _) ?_
    refine zk ⟨?_⟩
    refine v_ret ?_
    refine r0 _ ?_
    refine zf ⟨?_⟩
    simp only [zE, zL, zO, zN, aStepM, optable, set_some, Nat.reduceEqDiff, reduceIte, Nat.reduceLT, implies_true, forall_const, reduceCtorEq, V.ofValue, V.ofScalar, V.un, V.gd, aLoad, row_mk, Blk.row, PartOK, Go.Vm.part, V.cells, V.noSl, V.noRef, Nat.reduceAdd, Nat.reduceLeDiff, Nat.reduceMul, Try.underlying74, Ty.c74, Ty.a74, Try.underlying84, Ty.c84, Ty.a84, Try.underlying85, Ty.c85, Ty.a85, Try.underlying87, Ty.c87, Ty.a87]
    rw [hB, orNil_f]
    exact ret_all rfl (by first | decide | simp [newIds, refsOf, refs2, refs1]) (by simp) rfl (by simp [newIds, refsOf, refs2, refs1]) (by simp [Blk.kindIs, fillK_fd]) rfl
end Go.Proofs.Ytdgenniiidgimaa
