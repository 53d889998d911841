/- What functions compute. No condition. -/
import Derived.Test.YtbameklegpgkfaaDoorUty
import Derived.Test.YtbameklegpgkfaaDoorUmG
import Derived.Test.YtbameklegpgkfaaDoorX7
import Derived.Test.YtbameklegpgkfaaDoorX1
import Derived.Test.YtbameklegpgkfaaDoorX8
set_option linter.unusedSimpArgs false
set_option linter.unusedVariables false
set_option linter.defProp false
namespace Go.Proofs.YtbameklegpgkfaaDoor
open Go Go.Vm

def faStep (inc : Int) (s : Option (ByteArray × Int × Int)) (x : (Int × ByteArray × Int × Int)) : Option (ByteArray × Int × Int) := if x.1 = inc then (match s with
  | none => some (x.2.1, x.2.2.1, x.2.2.2)
  | some q => if x.2.2.2 < q.2.2 then some (x.2.1, q.2.1, x.2.2.2) else some q) else s
theorem fa_skip {inc : Int} {s : Option (ByteArray × Int × Int)} {x : (Int × ByteArray × Int × Int)} (h : ¬ x.1 = inc) : faStep inc s x = s := by unfold faStep; rw [if_neg h]
theorem fa_none {inc : Int} {x : (Int × ByteArray × Int × Int)} (h : x.1 = inc) : faStep inc none x = some (x.2.1, x.2.2.1, x.2.2.2) := by unfold faStep; rw [if_pos h]
theorem fa_lt {inc : Int} {q : ByteArray × Int × Int} {x : (Int × ByteArray × Int × Int)} (h : x.1 = inc) (hl : x.2.2.2 < q.2.2) : faStep inc (some q) x = some (x.2.1, q.2.1, x.2.2.2) := by unfold faStep; rw [if_pos h]; exact if_pos hl
theorem fa_ge {inc : Int} {q : ByteArray × Int × Int} {x : (Int × ByteArray × Int × Int)} (h : x.1 = inc) (hl : ¬ x.2.2.2 < q.2.2) : faStep inc (some q) x = some q := by unfold faStep; rw [if_pos h]; exact if_neg hl
def faOf (inc : Int) (l : List (Int × ByteArray × Int × Int)) : Option (ByteArray × Int × Int) := l.foldl (faStep inc) none
theorem fa_step {inc : Int} {l : List (Int × ByteArray × Int × Int)} {i : Nat} {x : (Int × ByteArray × Int × Int)} (h : l[i]? = some x) : faOf inc (l.take (i + 1)) = faStep inc (faOf inc (l.take i)) x := by
  rw [faOf, List.take_add_one, h, Option.toList_some, List.foldl_append]; rfl
def faI (F : Option (ByteArray × Int × Int)) (n : ByteArray) (c a : Int) : Prop := (F = none ∧ n = .empty) ∨ (F = some (n, c, a) ∧ ¬ n = .empty)
def faK (l : List (Int × ByteArray × Int × Int)) (F : Option (ByteArray × Int × Int)) (b c : Int) : Prop := (F = none ∧ b = -1) ∨ (∃ (k : Nat) (y : (Int × ByteArray × Int × Int)), F = some (y.2.1, c, y.2.2.2) ∧ b = (k : Int) ∧ l[k]? = some y)
def faN (o : Option (ByteArray × Int × Int)) : ByteArray := match o with | some q => q.1 | none => .empty
def faT (o : Option (ByteArray × Int × Int)) : Int := match o with | some q => IntKind.i64.wrap (q.2.2 - q.2.1) | none => 0
def faR (l : List (Int × ByteArray × Int × Int)) (inc : Int) : Option (ByteArray × Int × Int) := if (turnsB l && (decide (1 ≤ inc) && decide (inc ≤ 999))) = true then faOf inc l else none
theorem turn_name {l : List (Int × ByteArray × Int × Int)} (h : turnsB l = true) {x : (Int × ByteArray × Int × Int)} (hx : x ∈ l) : ¬ x.2.1 = .empty := by
  simp only [turnsB, Bool.and_eq_true] at h
  have h2 := chain_ok h.1 x hx
  simp only [tOne, nameB, Bool.and_eq_true, decide_eq_true_eq] at h2
  intro e
  have h3 := h2.1.1.2.2.1
  rw [e] at h3
  exact absurd h3 (by decide)

set_option maxHeartbeats 1000000 in
theorem specFirstArrival_con (l : List (Int × ByteArray × Int × Int)) (inc : Int) (hl : l.length ≤ 1048576) (hls : ∀ t ∈ l, t.2.1.size ≤ 9223372036854775807) : Con Tryd.prog 44 [.sl (l.map (fun t : Int × ByteArray × Int × Int => V.agg [V.int .i64 t.1, V.str t.2.1, V.int .i64 t.2.2.1, V.int .i64 t.2.2.2])), .int .i64 inc] [] (.tup [.str (faN (faR l inc)), .int .i64 (faT (faR l inc)), .bool (faR l inc).isSome]) [] := by
 refine v_con [.tmp 4, .tmp 5, .tmp 6] [] Tryd.func44 rfl rfl rfl (by simp [Tryd.ntmps44]) ?_
 intro Q0 n0 r0
 simp only [Tryd.ntmps44, envFrom, Nat.reduceAdd]
 have T := Tys.mk (And.intro Ty.t3 (And.intro Ty.t4 (And.intro Ty.t9 (And.intro Ty.t48 Ty.t62))))
 have F := Fc.mk True.intro
 refine v_seqR [0,1] ?_; intro K1 k1
 refine zAssign ⟨?_⟩
 refine zAssign ⟨?_⟩
 refine zAssign ⟨?_⟩
 refine k1 _ ?_
 refine zk ⟨?_⟩
 refine v_seq ?_; intro Q2 n2 e2 r2
 refine v_seqR [0,1,19] ?_; intro K3 k3
 refine zMove ⟨?_⟩
 refine zc (dbGood_con l hl hls) ⟨?_⟩
 refine zUnOp ⟨?_⟩
 refine zMove ⟨?_⟩
 refine zgMove ⟨?_⟩
 refine zgc (dbIncident_con _) ⟨?_⟩
 refine zgUnOp ⟨?_⟩
 refine zPick ⟨?_⟩
 refine k3 _ ?_
 refine zk ⟨?_⟩
 refine v_condS _ rfl ?_ ?_
 ·intro hc0
  refine v_seqR [4,5,6] ?_; intro K5 k5
  refine zAssign ⟨?_⟩
  refine zAssign ⟨?_⟩
  refine zAssign ⟨?_⟩
  refine k5 _ ?_
  refine zk ⟨?_⟩
  refine v_ret ?_
  refine r2 _ ?_
  refine r0 _ ?_
  refine zf ⟨?_⟩
  have hg : (turnsB l && (decide (1 ≤ inc) && decide (inc ≤ 999))) = false := by
   cases hq : (turnsB l && (decide (1 ≤ inc) && decide (inc ≤ 999))) with
   |false => rfl
   |true =>
    exfalso
    simp only [Bool.and_eq_true, decide_eq_true_eq] at hq
    rcases hc0 with h | h
    ·rw [hq.1] at h; cases h
    ·have := h hq.2.1; omega
  have hfr : faR l inc = none := by rw [faR, hg]; rfl
  rw [hfr]
  exact ret_pure rfl rfl (.inl rfl)
 ·intro hc0
  have hg : (turnsB l && (decide (1 ≤ inc) && decide (inc ≤ 999))) = true := by rw [hc0.1, decide_eq_true hc0.2.1, decide_eq_true hc0.2.2]; rfl
  have hfr : faR l inc = faOf inc l := by rw [faR, hg]; rfl
  have hturn := hc0.1
  refine v_skip ?_
  refine n2 _ _ (weak_keep [0, 1] _) ?_
  refine zk ⟨?_⟩
  refine v_seqR [0,1,7,8,9] ?_; intro K6 k6
  refine zAssign ⟨?_⟩
  refine zAssign ⟨?_⟩
  refine zAssign ⟨?_⟩
  refine k6 _ ?_
  refine zk ⟨?_⟩
  refine v_seq ?_; intro Q7 n7 e7 r7
  refine v_seqR [1,7,8,9,20,21,22] ?_; intro K8 k8
  refine zMove ⟨?_⟩
  refine zLen ⟨?_⟩
  refine zMove ⟨?_⟩
  refine k8 _ ?_
  refine zk ⟨?_⟩
  refine v_block ?_; intro Q9 n9 x9 e9 r9
  refine v_loop (fun p => ⟨[(1, .int .i64 inc), (7, .str p.2.1), (8, .int .i64 p.2.2.1), (9, .int .i64 p.2.2.2), (20, .sl (l.map (fun t : Int × ByteArray × Int × Int => V.agg [V.int .i64 t.1, V.str t.2.1, V.int .i64 t.2.2.1, V.int .i64 t.2.2.2]))), (21, .int .i64 l.length), (22, .int .i64 (Nat.cast p.1))], [], false, 53, 0⟩) (fun p => p.1 ≤ l.length ∧ faI (faOf inc (l.take p.1)) p.2.1 p.2.2.1 p.2.2.2) (fun p => l.length - p.1) ((0, .empty, 0, 0) : Nat × ByteArray × Int × Int) ?_ ?_ ?_
  ·refine weak_of [1, 7, 8, 9, 20, 21, 22] ?_
   simp only [keep_mk, keepE_nil, keepE_cons, look_cons, look_nil, Nat.reduceEqDiff, reduceIte]
   rfl
  ·exact ⟨Nat.zero_le _, .inl ⟨rfl, rfl⟩⟩
  ·rintro ⟨i, n, c, a⟩ hok10 Q10 n10 e10 r10
   obtain ⟨hi1, hR⟩ := hok10
   simp only [] at hi1 hR ⊢
   refine v_seqR [1,7,8,9,20,21,22,23] ?_; intro K11 k11
   refine zBinOp ⟨?_⟩
   refine k11 _ ?_
   refine zk ⟨?_⟩
   refine v_seq ?_; intro Q12 n12 e12 r12
   refine v_condS _ rfl ?_ ?_
   ·intro hc1
    have hlt : i < l.length := by omega
    obtain ⟨⟨x0, x1, x2, x3⟩, hx⟩ : ∃ x : Int × ByteArray × Int × Int, l[i]? = some x := ⟨l[i]'(by omega), List.getElem?_eq_getElem (by omega)⟩
    have hstep := fa_step (inc := inc) hx
    have hne : ¬ x1 = .empty := turn_name hturn (List.mem_of_getElem? hx)
    refine v_skip ?_
    refine n12 _ _ (weak_keep [1, 7, 8, 9, 20, 21, 22] _) ?_
    refine zk ⟨?_⟩
    refine v_seq ?_; intro Q14 n14 e14 r14
    refine v_block ?_; intro Q15 n15 x15 e15 r15
    refine v_seqR [1,7,8,9,11,20,21,22] ?_; intro K16 k16
    have F := Fc.mk (fun f => getD_map (f := f) hx)
    refine zIndexAddr ⟨?_⟩
    refine zLoad ⟨?_⟩
    refine zAlloc ⟨?_⟩
    refine zStore ⟨?_⟩
    refine k16 _ ?_
    refine zk ⟨?_⟩
    refine v_seq ?_; intro Q17 n17 e17 r17
    refine v_seqR [1,7,8,9,11,20,21,22,29] ?_; intro K18 k18
    refine zFieldAddr ⟨?_⟩
    refine zLoad ⟨?_⟩
    refine zMove ⟨?_⟩
    refine zBinOp ⟨?_⟩
    refine k18 _ ?_
    refine zk ⟨?_⟩
    refine v_condS _ rfl ?_ ?_
    ·intro hc2
     refine v_exit ?_
     refine e17 _ _ ?_
     refine x15 _ ?_
     refine n14 _ _ (weak_keep [1, 7, 8, 9, 20, 21, 22] _) ?_
     refine zk ⟨?_⟩
     refine v_region ?_; intro K20 k20
     refine zBinOpW ⟨?_⟩
     refine zMove ⟨?_⟩
     refine k20 _ ?_
     refine n10 _ (i + 1, n, c, a) ?_ ?_ ?_
     ·refine weak_bothS [1, 7, 8, 9, 20, 21, 22] [] ⟨?_⟩
      rfl
     ·exact ⟨hlt, by show faI (faOf inc (l.take (i + 1))) n c a; rw [hstep, fa_skip hc2]; exact hR⟩
     ·show _ < _; show l.length - (i + 1) < l.length - i; omega
    ·intro hc2
     refine v_skip ?_
     refine n17 _ _ (weak_keep [1, 7, 8, 9, 11, 20, 21, 22] _) ?_
     refine zk ⟨?_⟩
     refine v_seq ?_; intro Q21 n21 e21 r21
     refine v_seqR [1,7,8,9,11,20,21,22,31] ?_; intro K22 k22
     refine zMove ⟨?_⟩
     refine zBinOp ⟨?_⟩
     refine k22 _ ?_
     refine zk ⟨?_⟩
     refine v_condS _ rfl ?_ ?_
     ·intro hc3
      refine v_region ?_; intro K24 k24
      refine zFieldAddr ⟨?_⟩
      refine zLoad ⟨?_⟩
      refine zAssign ⟨?_⟩
      refine k24 _ ?_
      refine n21 _ _ (weak_keep [1, 7, 8, 9, 11, 20, 21, 22] _) ?_
      refine zk ⟨?_⟩
      refine v_seqR [1,7,8,9,11,20,21,22,41] ?_; intro K25 k25
      refine zMove ⟨?_⟩
      refine zBinOp ⟨?_⟩
      refine zMove ⟨?_⟩
      refine zgFieldAddr ⟨?_⟩
      refine zgLoad ⟨?_⟩
      refine zgMove ⟨?_⟩
      refine zgBinOp ⟨?_⟩
      refine zPick ⟨?_⟩
      refine k25 _ ?_
      refine zk ⟨?_⟩
      refine v_cond _ rfl ?_ ?_
      ·intro hc4
       try simp only [zC, reduceCtorEq] at hc4
       refine v_seqR [1,7,8,11,20,21,22] ?_; intro K27 k27
       refine zFieldAddr ⟨?_⟩
       refine zLoad ⟨?_⟩
       refine zAssign ⟨?_⟩
       refine k27 _ ?_
       refine zk ⟨?_⟩
       refine v_region ?_; intro K28 k28
       refine zFieldAddr ⟨?_⟩
       refine zLoad ⟨?_⟩
       refine zAssign ⟨?_⟩
       refine k28 _ ?_
       refine n15 _ ?_
       refine n14 _ _ (weak_keep [1, 7, 8, 9, 20, 21, 22] _) ?_
       refine zk ⟨?_⟩
       refine v_region ?_; intro K29 k29
       refine zBinOpW ⟨?_⟩
       refine zMove ⟨?_⟩
       refine k29 _ ?_
       refine n10 _ (i + 1, x1, x2, x3) ?_ ?_ ?_
       ·refine weak_bothS [1, 7, 8, 9, 20, 21, 22] [] ⟨?_⟩
        rfl
       ·exact ⟨hlt, by show faI (faOf inc (l.take (i + 1))) x1 x2 x3; rw [hstep, (hR.resolve_right (fun h => h.2 hc3)).1]; exact .inr ⟨fa_none hc2, hne⟩⟩
       ·show _ < _; show l.length - (i + 1) < l.length - i; omega
      ·intro hc4
       exfalso; simp [hc3] at hc4
     ·intro hc3
      refine v_skip ?_
      refine n21 _ _ (weak_keep [1, 7, 8, 9, 11, 20, 21, 22] _) ?_
      refine zk ⟨?_⟩
      refine v_seqR [1,7,8,9,11,20,21,22,41] ?_; intro K30 k30
      refine zMove ⟨?_⟩
      refine zBinOp ⟨?_⟩
      refine zMove ⟨?_⟩
      refine zgFieldAddr ⟨?_⟩
      refine zgLoad ⟨?_⟩
      refine zgMove ⟨?_⟩
      refine zgBinOp ⟨?_⟩
      refine zPick ⟨?_⟩
      refine k30 _ ?_
      refine zk ⟨?_⟩
      refine v_condS _ rfl ?_ ?_
      ·intro hc5
       refine v_seqR [1,7,8,11,20,21,22] ?_; intro K32 k32
       refine zFieldAddr ⟨?_⟩
       refine zLoad ⟨?_⟩
       refine zAssign ⟨?_⟩
       refine k32 _ ?_
       refine zk ⟨?_⟩
       refine v_region ?_; intro K33 k33
       refine zFieldAddr ⟨?_⟩
       refine zLoad ⟨?_⟩
       refine zAssign ⟨?_⟩
       refine k33 _ ?_
       refine n15 _ ?_
       refine n14 _ _ (weak_keep [1, 7, 8, 9, 20, 21, 22] _) ?_
       refine zk ⟨?_⟩
       refine v_region ?_; intro K34 k34
       refine zBinOpW ⟨?_⟩
       refine zMove ⟨?_⟩
       refine k34 _ ?_
       refine n10 _ (i + 1, x1, c, x3) ?_ ?_ ?_
       ·refine weak_bothS [1, 7, 8, 9, 20, 21, 22] [] ⟨?_⟩
        rfl
       ·exact ⟨hlt, by show faI (faOf inc (l.take (i + 1))) x1 c x3; rw [hstep, (hR.resolve_left (fun h => hc3 h.2)).1]; exact .inr ⟨fa_lt hc2 (hc5.resolve_left hc3), hne⟩⟩
       ·show _ < _; show l.length - (i + 1) < l.length - i; omega
      ·intro hc5
       refine v_skip ?_
       refine n15 _ ?_
       refine n14 _ _ (weak_keep [1, 7, 8, 9, 20, 21, 22] _) ?_
       refine zk ⟨?_⟩
       refine v_region ?_; intro K35 k35
       refine zBinOpW ⟨?_⟩
       refine zMove ⟨?_⟩
       refine k35 _ ?_
       refine n10 _ (i + 1, n, c, a) ?_ ?_ ?_
       ·refine weak_bothS [1, 7, 8, 9, 20, 21, 22] [] ⟨?_⟩
        rfl
       ·exact ⟨hlt, by show faI (faOf inc (l.take (i + 1))) n c a; rw [hstep, (hR.resolve_left (fun h => hc3 h.2)).1]; exact .inr ⟨fa_ge hc2 (Int.not_lt.2 hc5.2), hc3⟩⟩
       ·show _ < _; show l.length - (i + 1) < l.length - i; omega
   ·intro hc1
    refine v_exit ?_
    refine e12 _ _ ?_
    refine e10 _ _ ?_
    refine x9 _ ?_
    refine n7 _ _ (weak_keep [7, 8, 9] _) ?_
    refine zk ⟨?_⟩
    refine v_seq ?_; intro Q36 n36 e36 r36
    refine v_seqR [7,8,9,48] ?_; intro K37 k37
    refine zMove ⟨?_⟩
    refine zBinOp ⟨?_⟩
    refine k37 _ ?_
    refine zk ⟨?_⟩
    refine v_condS _ rfl ?_ ?_
    ·intro hc6
     refine v_seqR [4,5,6] ?_; intro K39 k39
     refine zAssign ⟨?_⟩
     refine zAssign ⟨?_⟩
     refine zAssign ⟨?_⟩
     refine k39 _ ?_
     refine zk ⟨?_⟩
     refine v_ret ?_
     refine r36 _ ?_
     refine r0 _ ?_
     refine zf ⟨?_⟩
     have hfull : l.take i = l := List.take_of_length_le (by omega)
     rw [hfull] at hR
     have hF : faOf inc l = none := (hR.resolve_right (fun h => h.2 hc6)).1
     rw [hfr, hF]
     exact ret_pure rfl rfl (.inl rfl)
    ·intro hc6
     refine v_skip ?_
     refine n36 _ _ (weak_keep [7, 8, 9] _) ?_
     refine zk ⟨?_⟩
     refine v_seqR [4,5,6] ?_; intro K40 k40
     refine zMove ⟨?_⟩
     refine zMove ⟨?_⟩
     refine zMove ⟨?_⟩
     refine zBinOpW ⟨?_⟩
     refine zAssign ⟨?_⟩
     refine zAssign ⟨?_⟩
     refine zAssign ⟨?_⟩
     refine k40 _ ?_
     refine zk ⟨?_⟩
     refine v_ret ?_
     refine r0 _ ?_
     refine zf ⟨?_⟩
     have hfull : l.take i = l := List.take_of_length_le (by omega)
     rw [hfull] at hR
     have hF : faOf inc l = some (n, c, a) := (hR.resolve_left (fun h => hc6 h.2)).1
     rw [hfr, hF]
     exact ret_pure rfl rfl (.inl rfl)
set_option maxHeartbeats 1000000 in
theorem implFirstArrival_con (l : List (Int × ByteArray × Int × Int)) (inc : Int) (hl : l.length ≤ 1048576) (hls : ∀ t ∈ l, t.2.1.size ≤ 9223372036854775807) : Con Tryd.prog 43 [.sl (l.map (fun t : Int × ByteArray × Int × Int => V.agg [V.int .i64 t.1, V.str t.2.1, V.int .i64 t.2.2.1, V.int .i64 t.2.2.2])), .int .i64 inc] [] (.tup [.str (faN (faR l inc)), .int .i64 (faT (faR l inc)), .bool (faR l inc).isSome]) [] := by
 refine v_con [.tmp 4, .tmp 5, .tmp 6] [] Tryd.func43 rfl rfl rfl (by simp [Tryd.ntmps43]) ?_
 intro Q0 n0 r0
 simp only [Tryd.ntmps43, envFrom, Nat.reduceAdd]
 have T := Tys.mk (And.intro Ty.t3 (And.intro Ty.t4 (And.intro Ty.t9 (And.intro Ty.t48 Ty.t62))))
 have F := Fc.mk True.intro
 refine v_seqR [0,1] ?_; intro K1 k1
 refine zAssign ⟨?_⟩
 refine zAssign ⟨?_⟩
 refine zAssign ⟨?_⟩
 refine k1 _ ?_
 refine zk ⟨?_⟩
 refine v_seq ?_; intro Q2 n2 e2 r2
 refine v_seqR [0,1,18] ?_; intro K3 k3
 refine zMove ⟨?_⟩
 refine zc (areTurnouts_con l hl hls) ⟨?_⟩
 refine zUnOp ⟨?_⟩
 refine zMove ⟨?_⟩
 refine zgMove ⟨?_⟩
 refine zgc (inside_con _ _ _) ⟨?_⟩
 refine zgUnOp ⟨?_⟩
 refine zPick ⟨?_⟩
 refine k3 _ ?_
 refine zk ⟨?_⟩
 refine v_condS _ rfl ?_ ?_
 ·intro hc0
  refine v_seqR [4,5,6] ?_; intro K5 k5
  refine zAssign ⟨?_⟩
  refine zAssign ⟨?_⟩
  refine zAssign ⟨?_⟩
  refine k5 _ ?_
  refine zk ⟨?_⟩
  refine v_ret ?_
  refine r2 _ ?_
  refine r0 _ ?_
  refine zf ⟨?_⟩
  have hg : (turnsB l && (decide (1 ≤ inc) && decide (inc ≤ 999))) = false := by
   cases hq : (turnsB l && (decide (1 ≤ inc) && decide (inc ≤ 999))) with
   |false => rfl
   |true =>
    exfalso
    simp only [Bool.and_eq_true, decide_eq_true_eq] at hq
    rcases hc0 with h | h
    ·rw [hq.1] at h; cases h
    ·have := h hq.2.1; omega
  have hfr : faR l inc = none := by rw [faR, hg]; rfl
  rw [hfr]
  exact ret_pure rfl rfl (.inl rfl)
 ·intro hc0
  have hg : (turnsB l && (decide (1 ≤ inc) && decide (inc ≤ 999))) = true := by rw [hc0.1, decide_eq_true hc0.2.1, decide_eq_true hc0.2.2]; rfl
  have hfr : faR l inc = faOf inc l := by rw [faR, hg]; rfl
  have hturn := hc0.1
  refine v_skip ?_
  refine n2 _ _ (weak_keep [0, 1] _) ?_
  refine zk ⟨?_⟩
  refine v_seqR [0,1,7,8] ?_; intro K6 k6
  refine zAssign ⟨?_⟩
  refine zAssign ⟨?_⟩
  refine k6 _ ?_
  refine zk ⟨?_⟩
  refine v_seq ?_; intro Q7 n7 e7 r7
  refine v_seqR [0,1,7,8,19,20,21] ?_; intro K8 k8
  refine zMove ⟨?_⟩
  refine zLen ⟨?_⟩
  refine zMove ⟨?_⟩
  refine k8 _ ?_
  refine zk ⟨?_⟩
  refine v_block ?_; intro Q9 n9 x9 e9 r9
  refine v_loop (fun p => ⟨[(0, .sl (l.map (fun t : Int × ByteArray × Int × Int => V.agg [V.int .i64 t.1, V.str t.2.1, V.int .i64 t.2.2.1, V.int .i64 t.2.2.2]))), (1, .int .i64 inc), (7, .int .i64 p.2.1), (8, .int .i64 p.2.2), (19, .sl (l.map (fun t : Int × ByteArray × Int × Int => V.agg [V.int .i64 t.1, V.str t.2.1, V.int .i64 t.2.2.1, V.int .i64 t.2.2.2]))), (20, .int .i64 l.length), (21, .int .i64 (Nat.cast p.1))], [], false, 59, 0⟩) (fun p => p.1 ≤ l.length ∧ faK l (faOf inc (l.take p.1)) p.2.1 p.2.2) (fun p => l.length - p.1) ((0, -1, 0) : Nat × Int × Int) ?_ ?_ ?_
  ·refine weak_of [0, 1, 7, 8, 19, 20, 21] ?_
   simp only [keep_mk, keepE_nil, keepE_cons, look_cons, look_nil, Nat.reduceEqDiff, reduceIte]
   rfl
  ·exact ⟨Nat.zero_le _, .inl ⟨rfl, rfl⟩⟩
  ·rintro ⟨i, b, c⟩ hok10 Q10 n10 e10 r10
   obtain ⟨hi1, hR⟩ := hok10
   simp only [] at hi1 hR ⊢
   refine v_seqR [0,1,7,8,19,20,21,22] ?_; intro K11 k11
   refine zBinOp ⟨?_⟩
   refine k11 _ ?_
   refine zk ⟨?_⟩
   refine v_seq ?_; intro Q12 n12 e12 r12
   refine v_condS _ rfl ?_ ?_
   ·intro hc1
    have hlt : i < l.length := by omega
    obtain ⟨⟨x0, x1, x2, x3⟩, hx⟩ : ∃ x : Int × ByteArray × Int × Int, l[i]? = some x := ⟨l[i]'(by omega), List.getElem?_eq_getElem (by omega)⟩
    have hstep := fa_step (inc := inc) hx
    have hne : ¬ x1 = .empty := turn_name hturn (List.mem_of_getElem? hx)
    refine v_skip ?_
    refine n12 _ _ (weak_keep [0, 1, 7, 8, 19, 20, 21] _) ?_
    refine zk ⟨?_⟩
    refine v_seq ?_; intro Q14 n14 e14 r14
    refine v_block ?_; intro Q15 n15 x15 e15 r15
    refine v_seqR [0,1,7,8,9,10,19,20,21] ?_; intro K16 k16
    have F := Fc.mk (fun f => getD_map (f := f) hx)
    refine zMove ⟨?_⟩
    refine zIndexAddr ⟨?_⟩
    refine zLoad ⟨?_⟩
    refine zAlloc ⟨?_⟩
    refine zAssign ⟨?_⟩
    refine zStore ⟨?_⟩
    refine k16 _ ?_
    refine zk ⟨?_⟩
    refine v_seq ?_; intro Q17 n17 e17 r17
    refine v_seqR [0,1,7,8,9,10,19,20,21,29] ?_; intro K18 k18
    refine zFieldAddr ⟨?_⟩
    refine zLoad ⟨?_⟩
    refine zMove ⟨?_⟩
    refine zBinOp ⟨?_⟩
    refine k18 _ ?_
    refine zk ⟨?_⟩
    refine v_condS _ rfl ?_ ?_
    ·intro hc2
     refine v_exit ?_
     refine e17 _ _ ?_
     refine x15 _ ?_
     refine n14 _ _ (weak_keep [0, 1, 7, 8, 19, 20, 21] _) ?_
     refine zk ⟨?_⟩
     refine v_region ?_; intro K20 k20
     refine zBinOpW ⟨?_⟩
     refine zMove ⟨?_⟩
     refine k20 _ ?_
     refine n10 _ (i + 1, b, c) ?_ ?_ ?_
     ·refine weak_bothS [0, 1, 7, 8, 19, 20, 21] [] ⟨?_⟩
      rfl
     ·exact ⟨hlt, by show faK l (faOf inc (l.take (i + 1))) b c; rw [hstep, fa_skip hc2]; exact hR⟩
     ·show _ < _; show l.length - (i + 1) < l.length - i; omega
    ·intro hc2
     refine v_skip ?_
     refine n17 _ _ (weak_keep [0, 1, 7, 8, 9, 10, 19, 20, 21] _) ?_
     refine zk ⟨?_⟩
     refine v_seq ?_; intro Q21 n21 e21 r21
     refine v_seqR [0,1,7,8,9,10,19,20,21,31] ?_; intro K22 k22
     refine zMove ⟨?_⟩
     refine zBinOp ⟨?_⟩
     refine k22 _ ?_
     refine zk ⟨?_⟩
     refine v_condS _ rfl ?_ ?_
     ·intro hc3
      refine v_draw (by kernel_rfl) ?_; intro K24 q24 k24
      show aAny _ _ _ _ 5 (Array.replicate 5 false) _
      refine zdMove q24 true 0 32 ?_
      refine zdFieldAddr q24 true 1 33 ?_
      refine zdLoad q24 true 2 34 ?_
      refine zoAssign 3 ⟨?_⟩
      refine zoAssign 4 ⟨?_⟩
      refine aAny_done (by kernel_rfl) ?_
      refine k24 _ ?_
      refine n21 _ _ (weak_keep [0, 1, 7, 8, 9, 10, 19, 20, 21] _) ?_
      refine zk ⟨?_⟩
      refine v_seq ?_; intro Q25 n25 e25 r25
      refine v_draw (by kernel_rfl) ?_; intro K26 q26 k26
      show aAny _ _ _ _ 8 (Array.replicate 8 false) _
      refine zdFieldAddr q26 true 0 35 ?_
      refine zdLoad q26 true 1 36 ?_
      refine zdMove q26 true 2 37 ?_
      refine zdMove q26 true 3 38 ?_
      refine zdIndexAddr q26 true 4 39 ?_
      refine zdFieldAddr q26 true 5 40 ?_
      refine zdLoad q26 true 6 41 ?_
      refine zdBinOp q26 true 7 42 ?_
      refine aAny_done (by kernel_rfl) ?_
      refine k26 _ ?_
      refine n25 _ _ (weak_keep [0, 1, 7, 8, 9, 19, 20, 21, 42] _) ?_
      refine zk ⟨?_⟩
      refine v_cond _ rfl ?_ ?_
      ·intro hc4
       exfalso; simp at hc4
      ·intro hc4
       try simp only [zC, reduceCtorEq] at hc4
       refine v_skip ?_
       refine n15 _ ?_
       refine n14 _ _ (weak_keep [0, 1, 7, 8, 19, 20, 21] _) ?_
       refine zk ⟨?_⟩
       refine v_region ?_; intro K28 k28
       refine zBinOpW ⟨?_⟩
       refine zMove ⟨?_⟩
       refine k28 _ ?_
       refine n10 _ (i + 1, (i : Int), x2) ?_ ?_ ?_
       ·refine weak_bothS [0, 1, 7, 8, 19, 20, 21] [] ⟨?_⟩
        rfl
       ·exact ⟨hlt, by show faK l (faOf inc (l.take (i + 1))) i x2; rw [hstep, (hR.resolve_right (fun h => by obtain ⟨k, y, h1, h2, h3⟩ := h; omega)).1]; exact .inr ⟨i, _, fa_none hc2, rfl, hx⟩⟩
       ·show _ < _; show l.length - (i + 1) < l.length - i; omega
     ·intro hc3
      obtain ⟨k, ⟨y0, y1, y2, y3⟩, hF, hb, hy⟩ := hR.resolve_left (fun h => by have := h.2; omega)
      have hkl : k < l.length := (List.getElem?_eq_some_iff.1 hy).1
      subst hb
      refine v_skip ?_
      refine n21 _ _ (weak_keep [0, 1, 7, 8, 9, 10, 19, 20, 21] _) ?_
      refine zk ⟨?_⟩
      refine v_seq ?_; intro Q29 n29 e29 r29
      refine v_draw (by kernel_rfl) ?_; intro K30 q30 k30
      show aAny _ _ _ _ 8 (Array.replicate 8 false) _
      have F := Fc.mk (And.intro (fun f => getD_map (f := f) hx) (fun f => getD_map (f := f) hy))
      refine zdFieldAddr q30 true 0 35 ?_
      refine zdLoad q30 true 1 36 ?_
      refine zdMove q30 true 2 37 ?_
      refine zdMove q30 true 3 38 ?_
      refine zdIndexAddr q30 true 4 39 ?_
      refine zdFieldAddr q30 true 5 40 ?_
      refine zdLoad q30 true 6 41 ?_
      refine zdBinOp q30 true 7 42 ?_
      refine aAny_done (by kernel_rfl) ?_
      refine k30 _ ?_
      refine n29 _ _ (weak_keep [0, 1, 7, 8, 9, 19, 20, 21, 42] _) ?_
      refine zk ⟨?_⟩
      refine v_condS _ rfl ?_ ?_
      ·intro hc5
       refine v_region ?_; intro K32 k32
       refine zMove ⟨?_⟩
       refine zAssign ⟨?_⟩
       refine k32 _ ?_
       refine n15 _ ?_
       refine n14 _ _ (weak_keep [0, 1, 7, 8, 19, 20, 21] _) ?_
       refine zk ⟨?_⟩
       refine v_region ?_; intro K33 k33
       refine zBinOpW ⟨?_⟩
       refine zMove ⟨?_⟩
       refine k33 _ ?_
       refine n10 _ (i + 1, (i : Int), c) ?_ ?_ ?_
       ·refine weak_bothS [0, 1, 7, 8, 19, 20, 21] [] ⟨?_⟩
        rfl
       ·exact ⟨hlt, by show faK l (faOf inc (l.take (i + 1))) i c; rw [hstep, hF]; exact .inr ⟨i, _, fa_lt hc2 hc5, rfl, hx⟩⟩
       ·show _ < _; show l.length - (i + 1) < l.length - i; omega
      ·intro hc5
       refine v_skip ?_
       refine n15 _ ?_
       refine n14 _ _ (weak_keep [0, 1, 7, 8, 19, 20, 21] _) ?_
       refine zk ⟨?_⟩
       refine v_region ?_; intro K34 k34
       refine zBinOpW ⟨?_⟩
       refine zMove ⟨?_⟩
       refine k34 _ ?_
       refine n10 _ (i + 1, (k : Int), c) ?_ ?_ ?_
       ·refine weak_bothS [0, 1, 7, 8, 19, 20, 21] [] ⟨?_⟩
        rfl
       ·exact ⟨hlt, by show faK l (faOf inc (l.take (i + 1))) k c; rw [hstep, hF]; exact .inr ⟨k, _, fa_ge hc2 (Int.not_lt.2 hc5), rfl, hy⟩⟩
       ·show _ < _; show l.length - (i + 1) < l.length - i; omega
   ·intro hc1
    refine v_exit ?_
    refine e12 _ _ ?_
    refine e10 _ _ ?_
    refine x9 _ ?_
    refine n7 _ _ (weak_keep [0, 7, 8] _) ?_
    refine zk ⟨?_⟩
    refine v_seq ?_; intro Q35 n35 e35 r35
    refine v_seqR [0,7,8,46] ?_; intro K36 k36
    refine zMove ⟨?_⟩
    refine zBinOp ⟨?_⟩
    refine k36 _ ?_
    refine zk ⟨?_⟩
    refine v_condS _ rfl ?_ ?_
    ·intro hc6
     refine v_seqR [4,5,6] ?_; intro K38 k38
     refine zAssign ⟨?_⟩
     refine zAssign ⟨?_⟩
     refine zAssign ⟨?_⟩
     refine k38 _ ?_
     refine zk ⟨?_⟩
     refine v_ret ?_
     refine r35 _ ?_
     refine r0 _ ?_
     refine zf ⟨?_⟩
     have hfull : l.take i = l := List.take_of_length_le (by omega)
     rw [hfull] at hR
     have hF : faOf inc l = none := (hR.resolve_right (fun h => by obtain ⟨k, y, h1, h2, h3⟩ := h; omega)).1
     rw [hfr, hF]
     exact ret_pure rfl rfl (.inl rfl)
    ·intro hc6
     obtain ⟨k, ⟨y0, y1, y2, y3⟩, hF, hb, hy⟩ := hR.resolve_left (fun h => by have := h.2; omega)
     have hkl : k < l.length := (List.getElem?_eq_some_iff.1 hy).1
     subst hb
     refine v_skip ?_
     refine n35 _ _ (weak_keep [0, 7, 8] _) ?_
     refine zk ⟨?_⟩
     refine v_seq ?_; intro Q39 n39 e39 r39
     refine v_draw (by kernel_rfl) ?_; intro K40 q40 k40
     show aAny _ _ _ _ 15 (Array.replicate 15 false) _
     have F := Fc.mk (fun f => getD_map (f := f) hy)
     refine zdMove q40 true 0 47 ?_
     refine zdMove q40 true 1 48 ?_
     refine zdIndexAddr q40 true 2 49 ?_
     refine zdFieldAddr q40 true 3 50 ?_
     refine zdLoad q40 true 4 51 ?_
     refine zdMove q40 true 5 52 ?_
     refine zdMove q40 true 6 53 ?_
     refine zdIndexAddr q40 true 7 54 ?_
     refine zdFieldAddr q40 true 8 55 ?_
     refine zdLoad q40 true 9 56 ?_
     refine zdMove q40 true 10 57 ?_
     refine zdBinOpW q40 true 11 58 ?_
     refine zoAssign 12 ⟨?_⟩
     refine zoAssign 13 ⟨?_⟩
     refine zoAssign 14 ⟨?_⟩
     refine aAny_done (by kernel_rfl) ?_
     refine k40 _ ?_
     refine n39 _ _ (weak_keep [4, 5, 6] _) ?_
     refine zk ⟨?_⟩
     refine v_ret ?_
     refine r0 _ ?_
     refine zf ⟨?_⟩
     rw [show l.take i = l from List.take_of_length_le (by omega)] at hF
     rw [hfr, hF]
     exact ret_pure rfl rfl (.inl rfl)
end Go.Proofs.YtbameklegpgkfaaDoor
