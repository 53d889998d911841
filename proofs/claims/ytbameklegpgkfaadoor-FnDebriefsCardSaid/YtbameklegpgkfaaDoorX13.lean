/- What functions compute. No condition. -/
import Derived.Test.YtbameklegpgkfaaDoorUty
import Derived.Test.YtbameklegpgkfaaDoorUmG
import Derived.Test.YtbameklegpgkfaaDoorX7
import Derived.Test.YtbameklegpgkfaaDoorX1
import Derived.Test.YtbameklegpgkfaaDoorX10
import Derived.Test.YtbameklegpgkfaaDoorX8
import Derived.Test.YtbameklegpgkfaaDoorShelf
set_option linter.unusedSimpArgs false
set_option linter.unusedVariables false
set_option linter.defProp false
namespace Go.Proofs.YtbameklegpgkfaaDoor
open Go Go.Vm

def busyB (a b : (Int × ByteArray × Int × Int)) : Bool := decide (a.2.1 = b.2.1) && !decide (a.1 = b.1) && decide (a.2.2.1 ≤ b.2.2.2) && decide (b.2.2.1 ≤ a.2.2.2)
def busyIn (a : (Int × ByteArray × Int × Int)) (i : Nat) : Nat → List (Int × ByteArray × Int × Int) → List (List Int)
  | _, [] => []
  | k, b :: l => if busyB a b = true then [(i : Int), (k : Int)] :: busyIn a i (k + 1) l else busyIn a i (k + 1) l
def busyFrom : Nat → List (Int × ByteArray × Int × Int) → List (List Int)
  | _, [] => []
  | i, a :: l => busyIn a i (i + 1) l ++ busyFrom (i + 1) l
def busyR (l : List (Int × ByteArray × Int × Int)) : List (List Int) := if turnsB l = true then busyFrom 0 l else []
theorem busyIn_step {a : (Int × ByteArray × Int × Int)} {i : Nat} {l : List (Int × ByteArray × Int × Int)} {k : Nat} {b : (Int × ByteArray × Int × Int)} (h : l[k]? = some b) : busyIn a i k (l.drop k) = if busyB a b = true then [(i : Int), (k : Int)] :: busyIn a i (k + 1) (l.drop (k + 1)) else busyIn a i (k + 1) (l.drop (k + 1)) := by
  rw [getElem_drop_cons h, busyIn]
theorem busyIn_end {a : (Int × ByteArray × Int × Int)} {i k n : Nat} {l : List (Int × ByteArray × Int × Int)} (h : l.length ≤ k) : busyIn a i n (l.drop k) = [] := by
  rw [List.drop_of_length_le h, busyIn]
theorem busyFrom_step {l : List (Int × ByteArray × Int × Int)} {i : Nat} {a : (Int × ByteArray × Int × Int)} (h : l[i]? = some a) : busyFrom i (l.drop i) = busyIn a i (i + 1) (l.drop (i + 1)) ++ busyFrom (i + 1) (l.drop (i + 1)) := by
  rw [getElem_drop_cons h, busyFrom]
theorem busyFrom_end {l : List (Int × ByteArray × Int × Int)} {i n : Nat} (h : l.length ≤ i) : busyFrom n (l.drop i) = [] := by
  rw [List.drop_of_length_le h, busyFrom]
theorem busyIn_len (a : (Int × ByteArray × Int × Int)) (i : Nat) : ∀ (l : List (Int × ByteArray × Int × Int)) (k : Nat), (busyIn a i k l).length ≤ l.length
  | [], _ => Nat.le_refl _
  | b :: l, k => by
    have := busyIn_len a i l (k + 1)
    rw [busyIn]
    split <;> simp <;> omega
theorem busyFrom_len : ∀ (l : List (Int × ByteArray × Int × Int)) (i n : Nat), l.length ≤ n → (busyFrom i l).length ≤ l.length * n
  | [], _, _, _ => Nat.zero_le _
  | a :: l, i, n, h => by
    have h1 := busyIn_len a i l (i + 1)
    have h2 := busyFrom_len l (i + 1) n (by simp at h; omega)
    rw [busyFrom, List.length_append, List.length_cons, Nat.add_mul]
    simp at h
    omega
theorem busyIn_two (a : (Int × ByteArray × Int × Int)) (i : Nat) : ∀ (l : List (Int × ByteArray × Int × Int)) (k : Nat), ∀ p ∈ busyIn a i k l, p.length = 2
  | [], _, p, h => by cases h
  | b :: l, k, p, h => by
    rw [busyIn] at h
    split at h
    · rcases List.mem_cons.1 h with e | e
      · rw [e]; rfl
      · exact busyIn_two a i l _ p e
    · exact busyIn_two a i l _ p h
theorem busyFrom_two : ∀ (l : List (Int × ByteArray × Int × Int)) (i : Nat), ∀ p ∈ busyFrom i l, p.length = 2
  | [], _, p, h => by cases h
  | a :: l, i, p, h => by
    rw [busyFrom] at h
    rcases List.mem_append.1 h with e | e
    · exact busyIn_two a i l _ p e
    · exact busyFrom_two l _ p e
theorem turn_len {l : List (Int × ByteArray × Int × Int)} (h : turnsB l = true) : l.length ≤ 15 := by
  simp only [turnsB, Bool.and_eq_true, decide_eq_true_eq] at h
  omega
theorem busyR_len (l : List (Int × ByteArray × Int × Int)) : (busyR l).length ≤ 225 := by
  unfold busyR
  split
  · rename_i h
    have h1 := turn_len h
    have h2 := busyFrom_len l 0 15 h1
    omega
  · simp
theorem busyR_two (l : List (Int × ByteArray × Int × Int)) : ∀ p ∈ busyR l, p.length = 2 := by
  unfold busyR
  split
  · exact busyFrom_two l 0
  · simp
theorem tot_two : ∀ ll : List (List Int), (∀ p ∈ ll, p.length = 2) → totSS ll = 2 * ll.length
  | [], _ => rfl
  | p :: ll, h => by
    rw [totSS, tot_two ll (fun q hq => h q (List.mem_cons_of_mem _ hq)), h p (List.mem_cons_self ..), List.length_cons]; omega
theorem turn_valid {l : List (Int × ByteArray × Int × Int)} (h : turnsB l = true) {x : (Int × ByteArray × Int × Int)} (hx : x ∈ l) : x.2.2.1 ≤ x.2.2.2 := by
  simp only [turnsB, Bool.and_eq_true] at h
  have h2 := chain_ok h.1 x hx
  simp only [tOne, Bool.and_eq_true, decide_eq_true_eq] at h2
  exact h2.2.1
theorem snoc_SS {l : List (List Int)} {a b : Int} : l.map (fun l : List Int => V.sl (l.map (V.int .i64))) ++ [V.sl [V.int .i64 a, V.int .i64 b]] = (l ++ [[a, b]]).map (fun l : List Int => V.sl (l.map (V.int .i64))) := by rw [List.map_append]; rfl
theorem fillK_snoc {α : Type} {l : List α} {x : α} : fillK (l ++ [x]).length = fillK (l.length + 1) := by simp

set_option maxHeartbeats 1000000 in
theorem specBusy_con (l : List (Int × ByteArray × Int × Int)) (hl : l.length ≤ 1048576) (hls : ∀ t ∈ l, t.2.1.size ≤ 9223372036854775807) : Con Tryd.prog 41 [.sl (l.map (fun t : Int × ByteArray × Int × Int => V.agg [V.int .i64 t.1, V.str t.2.1, V.int .i64 t.2.2.1, V.int .i64 t.2.2.2]))] [] (.tup [.ref 0, .bool (turnsB l)]) [.arr ((busyR l).map (fun l : List Int => V.sl (l.map (V.int .i64)))) (fillK (busyR l).length)] := by
 refine v_con [.tmp 2, .tmp 3] [] Tryd.func41 rfl rfl rfl (by simp [Tryd.ntmps41]) ?_
 intro Q0 n0 r0
 simp only [Tryd.ntmps41, envFrom, Nat.reduceAdd]
 have T := Tys.mk (And.intro Ty.t3 (And.intro Ty.t4 (And.intro Ty.t9 (And.intro Ty.t23 (And.intro Ty.t36 (And.intro Ty.t48 Ty.t62))))))
 have F := Fc.mk True.intro
 refine v_seqR [0] ?_; intro K1 k1
 refine zAssign ⟨?_⟩
 refine zAssign ⟨?_⟩
 refine k1 _ ?_
 refine zk ⟨?_⟩
 refine v_seq ?_; intro Q2 n2 e2 r2
 refine v_seqR [0,11] ?_; intro K3 k3
 refine zMove ⟨?_⟩
 refine zc (dbGood_con l hl hls) ⟨?_⟩
 refine zUnOp ⟨?_⟩
 refine k3 _ ?_
 refine zk ⟨?_⟩
 refine v_condS _ rfl ?_ ?_
 ·intro hc0
  refine v_seqR [2,3] ?_; intro K5 k5
  refine zAssign ⟨?_⟩
  refine zAssign ⟨?_⟩
  refine k5 _ ?_
  refine zk ⟨?_⟩
  refine v_ret ?_
  refine r2 _ ?_
  refine r0 _ ?_
  refine zf ⟨?_⟩
  rw [show busyR l = [] by rw [busyR, hc0]; rfl, hc0]
  exact ret_ref_tup rfl rfl rfl (.inl rfl)
 ·intro hc0
  have h15 := turn_len hc0
  refine v_skip ?_
  refine n2 _ _ (weak_keep [0] _) ?_
  refine zk ⟨?_⟩
  refine v_seqR [0,4] ?_; intro K6 k6
  refine zAssign ⟨?_⟩
  refine k6 _ ?_
  refine zk ⟨?_⟩
  refine v_seq ?_; intro Q7 n7 e7 r7
  refine v_seqR [0,4,12,13,14] ?_; intro K8 k8
  refine zMove ⟨?_⟩
  refine zLen ⟨?_⟩
  refine zMove ⟨?_⟩
  refine k8 _ ?_
  refine zk ⟨?_⟩
  refine v_block ?_; intro Q9 n9 x9 e9 r9
  refine v_loop (fun p => ⟨[(0, .sl (l.map (fun t : Int × ByteArray × Int × Int => V.agg [V.int .i64 t.1, V.str t.2.1, V.int .i64 t.2.2.1, V.int .i64 t.2.2.2]))), (4, .ref 0), (12, .sl (l.map (fun t : Int × ByteArray × Int × Int => V.agg [V.int .i64 t.1, V.str t.2.1, V.int .i64 t.2.2.1, V.int .i64 t.2.2.2]))), (13, .int .i64 l.length), (14, .int .i64 (Nat.cast p.1))], [.arr (p.2.map (fun l : List Int => V.sl (l.map (V.int .i64)))) (fillK p.2.length)], false, 65, 0⟩) (fun p => p.1 ≤ l.length ∧ p.2.length ≤ 15 * p.1 ∧ p.2 ++ busyFrom p.1 (l.drop p.1) = busyFrom 0 l) (fun p => l.length - p.1) ((0, []) : Nat × List (List Int)) ?_ ?_ ?_
  ·refine weak_bothS [0, 4, 12, 13, 14] [1] ⟨?_⟩
   rfl
  ·exact ⟨Nat.zero_le _, Nat.le_refl _, rfl⟩
  ·rintro ⟨i, acc⟩ hok10 Q10 n10 e10 r10
   obtain ⟨hi1, hal, hR⟩ := hok10
   simp only [] at hi1 hal hR ⊢
   refine v_seqR [0,4,12,13,14,15] ?_; intro K11 k11
   refine zBinOp ⟨?_⟩
   refine k11 _ ?_
   refine zk ⟨?_⟩
   refine v_seq ?_; intro Q12 n12 e12 r12
   refine v_condS _ rfl ?_ ?_
   ·intro hc1
    have hlt : i < l.length := by omega
    obtain ⟨⟨x0, x1, x2, x3⟩, hx⟩ : ∃ x : Int × ByteArray × Int × Int, l[i]? = some x := ⟨l[i]'(by omega), List.getElem?_eq_getElem (by omega)⟩
    have hva := turn_valid hc0 (List.mem_of_getElem? hx)
    simp only [] at hva
    have hst := busyFrom_step hx
    refine v_skip ?_
    refine n12 _ _ (weak_keep [0, 4, 12, 13, 14] _) ?_
    refine zk ⟨?_⟩
    refine v_seq ?_; intro Q14 n14 e14 r14
    refine v_block ?_; intro Q15 n15 x15 e15 r15
    refine v_seqR [0,4,5,6,12,13,14] ?_; intro K16 k16
    have F := Fc.mk (fun f => getD_map (f := f) hx)
    refine zMove ⟨?_⟩
    refine zIndexAddr ⟨?_⟩
    refine zLoad ⟨?_⟩
    refine zAlloc ⟨?_⟩
    refine zAssign ⟨?_⟩
    refine zStore ⟨?_⟩
    refine k16 _ ?_
    refine zk ⟨?_⟩
    refine v_seqR [0,4,5,6,7,12,13,14] ?_; intro K17 k17
    refine zMove ⟨?_⟩
    refine zBinOpW ⟨?_⟩
    refine zAssign ⟨?_⟩
    refine k17 _ ?_
    refine zk ⟨?_⟩
    refine v_block ?_; intro Q18 n18 x18 e18 r18
    refine v_loop (fun q => ⟨[(0, .sl (l.map (fun t : Int × ByteArray × Int × Int => V.agg [V.int .i64 t.1, V.str t.2.1, V.int .i64 t.2.2.1, V.int .i64 t.2.2.2]))), (4, .ref 0), (5, .int .i64 (Nat.cast i)), (6, .ptr 1 0 0), (7, .int .i64 (Nat.cast q.1)), (12, .sl (l.map (fun t : Int × ByteArray × Int × Int => V.agg [V.int .i64 t.1, V.str t.2.1, V.int .i64 t.2.2.1, V.int .i64 t.2.2.2]))), (13, .int .i64 l.length), (14, .int .i64 (Nat.cast i))], [.arr (q.2.map (fun l : List Int => V.sl (l.map (V.int .i64)))) (fillK q.2.length), (.box (.agg [.int .i64 x0, .str x1, .int .i64 x2, .int .i64 x3]) .flat)], false, 65, 0⟩) (fun q => q.1 ≤ l.length ∧ i < q.1 ∧ q.2.length + (i + 1) ≤ 15 * i + q.1 ∧ q.2 ++ busyIn (x0, x1, x2, x3) i q.1 (l.drop q.1) = acc ++ busyIn (x0, x1, x2, x3) i (i + 1) (l.drop (i + 1))) (fun q => l.length - q.1) ((i + 1, acc) : Nat × List (List Int)) ?_ ?_ ?_
    ·refine weak_bothS [0, 4, 5, 6, 7, 12, 13, 14] [0, 1] ⟨?_⟩
     rfl
    ·exact ⟨hlt, Nat.lt_succ_self _, by show acc.length + (i + 1) ≤ 15 * i + (i + 1); omega, rfl⟩
    ·rintro ⟨k, acc2⟩ hok19 Q19 n19 e19 r19
     obtain ⟨hk1, hik, hal2, hR2⟩ := hok19
     simp only [] at hk1 hik hal2 hR2 ⊢
     refine v_seq ?_; intro Q20 n20 e20 r20
     refine v_seqR [0,4,5,6,7,12,13,14,24] ?_; intro K21 k21
     refine zMove ⟨?_⟩
     refine zMove ⟨?_⟩
     refine zLen ⟨?_⟩
     refine zBinOp ⟨?_⟩
     refine k21 _ ?_
     refine zk ⟨?_⟩
     refine v_condS _ rfl ?_ ?_
     ·intro hc2
      have hltk : k < l.length := by omega
      obtain ⟨⟨y0, y1, y2, y3⟩, hy⟩ : ∃ x : Int × ByteArray × Int × Int, l[k]? = some x := ⟨l[k]'(by omega), List.getElem?_eq_getElem (by omega)⟩
      have hst2 := busyIn_step (a := (x0, x1, x2, x3)) (i := i) hy
      refine v_skip ?_
      refine n20 _ _ (weak_keep [0, 4, 5, 6, 7, 12, 13, 14] _) ?_
      refine zk ⟨?_⟩
      refine v_seq ?_; intro Q23 n23 e23 r23
      refine v_block ?_; intro Q24 n24 x24 e24 r24
      refine v_seqR [0,4,5,6,7,8,12,13,14] ?_; intro K25 k25
      have F := Fc.mk (And.intro (fun f => getD_map (f := f) hx) (fun f => getD_map (f := f) hy))
      refine zMove ⟨?_⟩
      refine zMove ⟨?_⟩
      refine zIndexAddr ⟨?_⟩
      refine zLoad ⟨?_⟩
      refine zAlloc ⟨?_⟩
      refine zStore ⟨?_⟩
      refine k25 _ ?_
      refine zk ⟨?_⟩
      refine v_seqR [0,4,5,6,7,12,13,14,56] ?_; intro K26 k26
      refine zFieldAddr ⟨?_⟩
      refine zLoad ⟨?_⟩
      refine zFieldAddr ⟨?_⟩
      refine zLoad ⟨?_⟩
      refine zBinOp ⟨?_⟩
      refine zMove ⟨?_⟩
      refine zgFieldAddr ⟨?_⟩
      refine zgLoad ⟨?_⟩
      refine zgFieldAddr ⟨?_⟩
      refine zgLoad ⟨?_⟩
      refine zgBinOp ⟨?_⟩
      refine zPick ⟨?_⟩
      refine zMove ⟨?_⟩
      refine zgFieldAddr ⟨?_⟩
      refine zgLoad ⟨?_⟩
      refine zgFieldAddr ⟨?_⟩
      refine zgLoad ⟨?_⟩
      refine zgBinOp ⟨?_⟩
      refine zPick ⟨?_⟩
      refine zMove ⟨?_⟩
      refine zgFieldAddr ⟨?_⟩
      refine zgLoad ⟨?_⟩
      refine zgFieldAddr ⟨?_⟩
      refine zgLoad ⟨?_⟩
      refine zgBinOp ⟨?_⟩
      refine zPick ⟨?_⟩
      refine k26 _ ?_
      refine zk ⟨?_⟩
      refine v_condS _ rfl ?_ ?_
      ·intro hc3
       have hb : busyB (x0, x1, x2, x3) (y0, y1, y2, y3) = true := by
        simp only [busyB, Bool.and_eq_true, decide_eq_true_eq, Bool.not_eq_true', decide_eq_false_iff_not]
        exact hc3
       refine v_region ?_; intro K28 k28
       refine zMove ⟨?_⟩
       refine zMove ⟨?_⟩
       refine zMove ⟨?_⟩
       refine zBuildSlice ⟨?_⟩
       refine zBuildSlice ⟨?_⟩
       refine zAppend ⟨?_⟩
       refine zAssign ⟨?_⟩
       refine k28 _ ?_
       refine n24 _ ?_
       refine n23 _ _ (weak_keep [0, 4, 5, 6, 7, 12, 13, 14] _) ?_
       refine zk ⟨?_⟩
       refine v_region ?_; intro K29 k29
       refine zMove ⟨?_⟩
       refine zBinOpW ⟨?_⟩
       refine zAssign ⟨?_⟩
       refine k29 _ ?_
       refine n19 _ (k + 1, acc2 ++ [[(i : Int), (k : Int)]]) ?_ ?_ ?_
       ·refine weak_bothS [0, 4, 5, 6, 7, 12, 13, 14] [5, 1] ⟨?_⟩
        rw [snoc_SS, ← fillK_snoc]; rfl
       ·exact ⟨hltk, by show i < k + 1; omega, by show (acc2 ++ _).length + (i + 1) ≤ 15 * i + (k + 1); rw [List.length_append, List.length_singleton]; omega, by show (acc2 ++ _) ++ busyIn _ i (k + 1) (l.drop (k + 1)) = _; rw [← hR2, hst2, if_pos hb]; simp⟩
       ·show _ < _; show l.length - (k + 1) < l.length - k; omega
      ·intro hc3
       have hb : busyB (x0, x1, x2, x3) (y0, y1, y2, y3) = false := by
        cases hq : busyB (x0, x1, x2, x3) (y0, y1, y2, y3) with
        |false => rfl
        |true =>
         exfalso
         simp only [busyB, Bool.and_eq_true, decide_eq_true_eq, Bool.not_eq_true', decide_eq_false_iff_not] at hq
         obtain ⟨⟨⟨q1, q2⟩, q3⟩, q4⟩ := hq
         simp [q1, q2] at hc3
         omega
       refine v_skip ?_
       refine n24 _ ?_
       refine n23 _ _ (weak_keep [0, 4, 5, 6, 7, 12, 13, 14] _) ?_
       refine zk ⟨?_⟩
       refine v_region ?_; intro K30 k30
       refine zMove ⟨?_⟩
       refine zBinOpW ⟨?_⟩
       refine zAssign ⟨?_⟩
       refine k30 _ ?_
       refine n19 _ (k + 1, acc2) ?_ ?_ ?_
       ·refine weak_bothS [0, 4, 5, 6, 7, 12, 13, 14] [0, 1] ⟨?_⟩
        rfl
       ·exact ⟨hltk, by show i < k + 1; omega, by show acc2.length + (i + 1) ≤ 15 * i + (k + 1); omega, by show acc2 ++ busyIn _ i (k + 1) (l.drop (k + 1)) = _; rw [← hR2, hst2, if_neg (by rw [hb]; simp)]⟩
       ·show _ < _; show l.length - (k + 1) < l.length - k; omega
     ·intro hc2
      refine v_exit ?_
      refine e20 _ _ ?_
      refine e19 _ _ ?_
      refine x18 _ ?_
      refine n15 _ ?_
      refine n14 _ _ (weak_keep [0, 4, 12, 13, 14] _) ?_
      refine zk ⟨?_⟩
      refine v_region ?_; intro K31 k31
      refine zBinOpW ⟨?_⟩
      refine zMove ⟨?_⟩
      refine k31 _ ?_
      refine n10 _ (i + 1, acc2) ?_ ?_ ?_
      ·refine weak_bothS [0, 4, 12, 13, 14] [0] ⟨?_⟩
       rfl
      ·exact ⟨hlt, by show acc2.length ≤ 15 * (i + 1); omega, by show acc2 ++ busyFrom (i + 1) (l.drop (i + 1)) = _; rw [← hR, hst, ← List.append_assoc, ← hR2, busyIn_end (by omega), List.append_nil]⟩
      ·show _ < _; show l.length - (i + 1) < l.length - i; omega
   ·intro hc1
    refine v_exit ?_
    refine e12 _ _ ?_
    refine e10 _ _ ?_
    refine x9 _ ?_
    refine n7 _ _ (weak_keep [4] _) ?_
    refine zk ⟨?_⟩
    refine v_seqR [2,3] ?_; intro K32 k32
    refine zMove ⟨?_⟩
    refine zAssign ⟨?_⟩
    refine zAssign ⟨?_⟩
    refine k32 _ ?_
    refine zk ⟨?_⟩
    refine v_ret ?_
    refine r0 _ ?_
    refine zf ⟨?_⟩
    have hend : acc = busyFrom 0 l := by rw [← hR, busyFrom_end (by omega), List.append_nil]
    rw [show busyR l = acc by rw [busyR, hc0, hend]; rfl, hc0]
    exact ret_ref_tup rfl rfl rfl (fillK_or _)
set_option maxHeartbeats 1000000 in
theorem implBusy_con (l : List (Int × ByteArray × Int × Int)) (hl : l.length ≤ 1048576) (hls : ∀ t ∈ l, t.2.1.size ≤ 9223372036854775807) : Con Tryd.prog 40 [.sl (l.map (fun t : Int × ByteArray × Int × Int => V.agg [V.int .i64 t.1, V.str t.2.1, V.int .i64 t.2.2.1, V.int .i64 t.2.2.2]))] [] (.tup [.ref 0, .bool (turnsB l)]) [.arr ((busyR l).map (fun l : List Int => V.sl (l.map (V.int .i64)))) (fillK (busyR l).length)] := by
 refine v_con [.tmp 2, .tmp 3] [] Tryd.func40 rfl rfl rfl (by simp [Tryd.ntmps40]) ?_
 intro Q0 n0 r0
 simp only [Tryd.ntmps40, envFrom, Nat.reduceAdd]
 have T := Tys.mk (And.intro Ty.t3 (And.intro Ty.t4 (And.intro Ty.t9 (And.intro Ty.t23 (And.intro Ty.t36 (And.intro Ty.t48 Ty.t62))))))
 have F := Fc.mk True.intro
 refine v_seqR [0] ?_; intro K1 k1
 refine zAssign ⟨?_⟩
 refine zAssign ⟨?_⟩
 refine k1 _ ?_
 refine zk ⟨?_⟩
 refine v_seq ?_; intro Q2 n2 e2 r2
 refine v_seqR [0,11] ?_; intro K3 k3
 refine zMove ⟨?_⟩
 refine zc (areTurnouts_con l hl hls) ⟨?_⟩
 refine zUnOp ⟨?_⟩
 refine k3 _ ?_
 refine zk ⟨?_⟩
 refine v_condS _ rfl ?_ ?_
 ·intro hc0
  refine v_seqR [2,3] ?_; intro K5 k5
  refine zAssign ⟨?_⟩
  refine zAssign ⟨?_⟩
  refine k5 _ ?_
  refine zk ⟨?_⟩
  refine v_ret ?_
  refine r2 _ ?_
  refine r0 _ ?_
  refine zf ⟨?_⟩
  rw [show busyR l = [] by rw [busyR, hc0]; rfl, hc0]
  exact ret_ref_tup rfl rfl rfl (.inl rfl)
 ·intro hc0
  have h15 := turn_len hc0
  refine v_skip ?_
  refine n2 _ _ (weak_keep [0] _) ?_
  refine zk ⟨?_⟩
  refine v_seqR [0,4] ?_; intro K6 k6
  refine zAssign ⟨?_⟩
  refine k6 _ ?_
  refine zk ⟨?_⟩
  refine v_seq ?_; intro Q7 n7 e7 r7
  refine v_seqR [0,4,12,13,14] ?_; intro K8 k8
  refine zMove ⟨?_⟩
  refine zLen ⟨?_⟩
  refine zMove ⟨?_⟩
  refine k8 _ ?_
  refine zk ⟨?_⟩
  refine v_block ?_; intro Q9 n9 x9 e9 r9
  refine v_loop (fun p => ⟨[(0, .sl (l.map (fun t : Int × ByteArray × Int × Int => V.agg [V.int .i64 t.1, V.str t.2.1, V.int .i64 t.2.2.1, V.int .i64 t.2.2.2]))), (4, .ref 0), (12, .sl (l.map (fun t : Int × ByteArray × Int × Int => V.agg [V.int .i64 t.1, V.str t.2.1, V.int .i64 t.2.2.1, V.int .i64 t.2.2.2]))), (13, .int .i64 l.length), (14, .int .i64 (Nat.cast p.1))], [.arr (p.2.map (fun l : List Int => V.sl (l.map (V.int .i64)))) (fillK p.2.length)], false, 66, 0⟩) (fun p => p.1 ≤ l.length ∧ p.2.length ≤ 15 * p.1 ∧ p.2 ++ busyFrom p.1 (l.drop p.1) = busyFrom 0 l) (fun p => l.length - p.1) ((0, []) : Nat × List (List Int)) ?_ ?_ ?_
  ·refine weak_bothS [0, 4, 12, 13, 14] [1] ⟨?_⟩
   rfl
  ·exact ⟨Nat.zero_le _, Nat.le_refl _, rfl⟩
  ·rintro ⟨i, acc⟩ hok10 Q10 n10 e10 r10
   obtain ⟨hi1, hal, hR⟩ := hok10
   simp only [] at hi1 hal hR ⊢
   refine v_seqR [0,4,12,13,14,15] ?_; intro K11 k11
   refine zBinOp ⟨?_⟩
   refine k11 _ ?_
   refine zk ⟨?_⟩
   refine v_seq ?_; intro Q12 n12 e12 r12
   refine v_condS _ rfl ?_ ?_
   ·intro hc1
    have hlt : i < l.length := by omega
    obtain ⟨⟨x0, x1, x2, x3⟩, hx⟩ : ∃ x : Int × ByteArray × Int × Int, l[i]? = some x := ⟨l[i]'(by omega), List.getElem?_eq_getElem (by omega)⟩
    have hva := turn_valid hc0 (List.mem_of_getElem? hx)
    simp only [] at hva
    have hst := busyFrom_step hx
    have hdl : (l.drop (i + 1)).length = l.length - (i + 1) := List.length_drop ..
    refine v_skip ?_
    refine n12 _ _ (weak_keep [0, 4, 12, 13, 14] _) ?_
    refine zk ⟨?_⟩
    refine v_seq ?_; intro Q14 n14 e14 r14
    refine v_block ?_; intro Q15 n15 x15 e15 r15
    refine v_seqR [0,4,5,6,12,13,14] ?_; intro K16 k16
    have F := Fc.mk (fun f => getD_map (f := f) hx)
    refine zMove ⟨?_⟩
    refine zIndexAddr ⟨?_⟩
    refine zLoad ⟨?_⟩
    refine zAlloc ⟨?_⟩
    refine zAssign ⟨?_⟩
    refine zStore ⟨?_⟩
    refine k16 _ ?_
    refine zk ⟨?_⟩
    refine v_seqR [0,4,5,6,12,13,14,22,23,24] ?_; intro K17 k17
    refine zMove ⟨?_⟩
    refine zMove ⟨?_⟩
    refine zBinOpW ⟨?_⟩
    refine zSlice ⟨?_⟩
    refine zLen ⟨?_⟩
    refine zMove ⟨?_⟩
    refine k17 _ ?_
    refine zk ⟨?_⟩
    refine v_block ?_; intro Q18 n18 x18 e18 r18
    refine v_loop (fun q => ⟨[(0, .sl (l.map (fun t : Int × ByteArray × Int × Int => V.agg [V.int .i64 t.1, V.str t.2.1, V.int .i64 t.2.2.1, V.int .i64 t.2.2.2]))), (4, .ref 0), (5, .int .i64 (Nat.cast i)), (6, .ptr 1 0 0), (12, .sl (l.map (fun t : Int × ByteArray × Int × Int => V.agg [V.int .i64 t.1, V.str t.2.1, V.int .i64 t.2.2.1, V.int .i64 t.2.2.2]))), (13, .int .i64 l.length), (14, .int .i64 (Nat.cast i)), (22, .sl ((l.drop (i + 1)).map (fun t : Int × ByteArray × Int × Int => V.agg [V.int .i64 t.1, V.str t.2.1, V.int .i64 t.2.2.1, V.int .i64 t.2.2.2]))), (23, .int .i64 (l.drop (i + 1)).length), (24, .int .i64 (Nat.cast q.1))], [.arr (q.2.map (fun l : List Int => V.sl (l.map (V.int .i64)))) (fillK q.2.length), (.box (.agg [.int .i64 x0, .str x1, .int .i64 x2, .int .i64 x3]) .flat)], false, 66, 0⟩) (fun q => i + 1 + q.1 ≤ l.length ∧ q.2.length ≤ 15 * i + q.1 ∧ q.2 ++ busyIn (x0, x1, x2, x3) i (i + 1 + q.1) (l.drop (i + 1 + q.1)) = acc ++ busyIn (x0, x1, x2, x3) i (i + 1) (l.drop (i + 1))) (fun q => l.length - (i + 1 + q.1)) ((0, acc) : Nat × List (List Int)) ?_ ?_ ?_
    ·refine weak_bothS [0, 4, 5, 6, 12, 13, 14, 22, 23, 24] [0, 1] ⟨?_⟩
     rfl
    ·exact ⟨hlt, by show acc.length ≤ 15 * i + 0; omega, rfl⟩
    ·rintro ⟨j, acc2⟩ hok19 Q19 n19 e19 r19
     obtain ⟨hk1, hal2, hR2⟩ := hok19
     simp only [] at hk1 hal2 hR2 ⊢
     refine v_seqR [0,4,5,6,12,13,14,22,23,24,25] ?_; intro K20 k20
     refine zBinOp ⟨?_⟩
     refine k20 _ ?_
     refine zk ⟨?_⟩
     refine v_seq ?_; intro Q21 n21 e21 r21
     refine v_condS _ rfl ?_ ?_
     ·intro hc2
      rw [hdl] at hc2
      have hltk : i + 1 + j < l.length := by omega
      obtain ⟨⟨y0, y1, y2, y3⟩, hy0⟩ : ∃ x : Int × ByteArray × Int × Int, l[i + 1 + j]? = some x := ⟨l[i + 1 + j]'(by omega), List.getElem?_eq_getElem (by omega)⟩
      have hy : (l.drop (i + 1))[j]? = some (y0, y1, y2, y3) := by rw [List.getElem?_drop]; exact hy0
      have hvb := turn_valid hc0 (List.mem_of_getElem? hy0)
      simp only [] at hvb
      have hst2 := busyIn_step (a := (x0, x1, x2, x3)) (i := i) hy0
      refine v_skip ?_
      refine n21 _ _ (weak_keep [0, 4, 5, 6, 12, 13, 14, 22, 23, 24] _) ?_
      refine zk ⟨?_⟩
      refine v_seq ?_; intro Q23 n23 e23 r23
      refine v_block ?_; intro Q24 n24 x24 e24 r24
      refine v_seqR [0,4,5,6,7,8,12,13,14,22,23,24] ?_; intro K25 k25
      have F := Fc.mk (And.intro (fun f => getD_map (f := f) hx) (fun f => getD_map (f := f) hy))
      refine zMove ⟨?_⟩
      refine zIndexAddr ⟨?_⟩
      refine zLoad ⟨?_⟩
      refine zAlloc ⟨?_⟩
      refine zAssign ⟨?_⟩
      refine zStore ⟨?_⟩
      refine k25 _ ?_
      refine zk ⟨?_⟩
      refine v_seqR [0,4,5,6,7,12,13,14,22,23,24,53] ?_; intro K26 k26
      refine zFieldAddr ⟨?_⟩
      refine zLoad ⟨?_⟩
      refine zFieldAddr ⟨?_⟩
      refine zLoad ⟨?_⟩
      refine zBinOp ⟨?_⟩
      refine zMove ⟨?_⟩
      refine zgFieldAddr ⟨?_⟩
      refine zgLoad ⟨?_⟩
      refine zgFieldAddr ⟨?_⟩
      refine zgLoad ⟨?_⟩
      refine zgBinOp ⟨?_⟩
      refine zPick ⟨?_⟩
      refine zMove ⟨?_⟩
      refine zgFieldAddr ⟨?_⟩
      refine zgLoad ⟨?_⟩
      refine zgFieldAddr ⟨?_⟩
      refine zgLoad ⟨?_⟩
      refine zgMax ⟨?_⟩
      refine zgFieldAddr ⟨?_⟩
      refine zgLoad ⟨?_⟩
      refine zgFieldAddr ⟨?_⟩
      refine zgLoad ⟨?_⟩
      refine zgMin ⟨?_⟩
      refine zgBinOp ⟨?_⟩
      refine zPick ⟨?_⟩
      refine k26 _ ?_
      refine zk ⟨?_⟩
      refine v_condS _ rfl ?_ ?_
      ·intro hc3
       have h4 := hc3.2
       have h5 : x2 ≤ y3 ∧ y2 ≤ x3 := by
        split at h4 <;> split at h4 <;> omega
       have hb : busyB (x0, x1, x2, x3) (y0, y1, y2, y3) = true := by
        simp only [busyB, Bool.and_eq_true, decide_eq_true_eq, Bool.not_eq_true', decide_eq_false_iff_not]
        exact ⟨⟨hc3.1, h5.1⟩, h5.2⟩
       refine v_region ?_; intro K28 k28
       refine zMove ⟨?_⟩
       refine zMove ⟨?_⟩
       refine zMove ⟨?_⟩
       refine zBinOpW ⟨?_⟩
       refine zMove ⟨?_⟩
       refine zBinOpW ⟨?_⟩
       refine zBuildSlice ⟨?_⟩
       refine zBuildSlice ⟨?_⟩
       refine zAppend ⟨?_⟩
       refine zAssign ⟨?_⟩
       refine k28 _ ?_
       refine n24 _ ?_
       refine n23 _ _ (weak_keep [0, 4, 5, 6, 12, 13, 14, 22, 23, 24] _) ?_
       refine zk ⟨?_⟩
       refine v_region ?_; intro K29 k29
       refine zBinOpW ⟨?_⟩
       refine zMove ⟨?_⟩
       refine k29 _ ?_
       refine n19 _ (j + 1, acc2 ++ [[(i : Int), ((i + 1 + j : Nat) : Int)]]) ?_ ?_ ?_
       ·refine weak_bothS [0, 4, 5, 6, 12, 13, 14, 22, 23, 24] [5, 1] ⟨?_⟩
        rw [snoc_SS, ← fillK_snoc]; rfl
       ·exact ⟨hltk, by show (acc2 ++ _).length ≤ 15 * i + (j + 1); rw [List.length_append, List.length_singleton]; omega, by show (acc2 ++ _) ++ busyIn _ i (i + 1 + j + 1) (l.drop (i + 1 + j + 1)) = _; rw [← hR2, hst2, if_pos hb]; simp⟩
       ·show _ < _; show l.length - (i + 1 + (j + 1)) < l.length - (i + 1 + j); omega
      ·intro hc3
       have hb : busyB (x0, x1, x2, x3) (y0, y1, y2, y3) = false := by
        cases hq : busyB (x0, x1, x2, x3) (y0, y1, y2, y3) with
        |false => rfl
        |true =>
         exfalso
         simp only [busyB, Bool.and_eq_true, decide_eq_true_eq, Bool.not_eq_true', decide_eq_false_iff_not] at hq
         obtain ⟨⟨⟨q1, q2⟩, q3⟩, q4⟩ := hq
         have h4 := hc3 ⟨q1, q2⟩
         split at h4 <;> split at h4 <;> omega
       refine v_skip ?_
       refine n24 _ ?_
       refine n23 _ _ (weak_keep [0, 4, 5, 6, 12, 13, 14, 22, 23, 24] _) ?_
       refine zk ⟨?_⟩
       refine v_region ?_; intro K30 k30
       refine zBinOpW ⟨?_⟩
       refine zMove ⟨?_⟩
       refine k30 _ ?_
       refine n19 _ (j + 1, acc2) ?_ ?_ ?_
       ·refine weak_bothS [0, 4, 5, 6, 12, 13, 14, 22, 23, 24] [0, 1] ⟨?_⟩
        rfl
       ·exact ⟨hltk, by show acc2.length ≤ 15 * i + (j + 1); omega, by show acc2 ++ busyIn _ i (i + 1 + j + 1) (l.drop (i + 1 + j + 1)) = _; rw [← hR2, hst2, if_neg (by rw [hb]; simp)]⟩
       ·show _ < _; show l.length - (i + 1 + (j + 1)) < l.length - (i + 1 + j); omega
     ·intro hc2
      rw [hdl] at hc2
      refine v_exit ?_
      refine e21 _ _ ?_
      refine e19 _ _ ?_
      refine x18 _ ?_
      refine n15 _ ?_
      refine n14 _ _ (weak_keep [0, 4, 12, 13, 14] _) ?_
      refine zk ⟨?_⟩
      refine v_region ?_; intro K31 k31
      refine zBinOpW ⟨?_⟩
      refine zMove ⟨?_⟩
      refine k31 _ ?_
      refine n10 _ (i + 1, acc2) ?_ ?_ ?_
      ·refine weak_bothS [0, 4, 12, 13, 14] [0] ⟨?_⟩
       rfl
      ·exact ⟨hlt, by show acc2.length ≤ 15 * (i + 1); omega, by show acc2 ++ busyFrom (i + 1) (l.drop (i + 1)) = _; rw [← hR, hst, ← List.append_assoc, ← hR2, busyIn_end (by omega), List.append_nil]⟩
      ·show _ < _; show l.length - (i + 1) < l.length - i; omega
   ·intro hc1
    refine v_exit ?_
    refine e12 _ _ ?_
    refine e10 _ _ ?_
    refine x9 _ ?_
    refine n7 _ _ (weak_keep [4] _) ?_
    refine zk ⟨?_⟩
    refine v_seqR [2,3] ?_; intro K32 k32
    refine zMove ⟨?_⟩
    refine zAssign ⟨?_⟩
    refine zAssign ⟨?_⟩
    refine k32 _ ?_
    refine zk ⟨?_⟩
    refine v_ret ?_
    refine r0 _ ?_
    refine zf ⟨?_⟩
    have hend : acc = busyFrom 0 l := by rw [← hR, busyFrom_end (by omega), List.append_nil]
    rw [show busyR l = acc by rw [busyR, hc0, hend]; rfl, hc0]
    exact ret_ref_tup rfl rfl rfl (fillK_or _)
def enough (zs : List Int) (share t : Int) : Bool := decide (share * zs.length ≤ 100 * (cntLe t zs : Int))
def bestL (zs : List Int) (share : Int) (l : List Int) (a : Int) : Int := l.foldl (fun a t => if enough zs share t = true ∧ (a < 0 ∨ t < a) then t else a) a
theorem best_step {zs : List Int} {share : Int} {l : List Int} {i : Nat} {t : Int} (h : l[i]? = some t) (a : Int) : bestL zs share (l.drop i) a = bestL zs share (l.drop (i + 1)) (if enough zs share t = true ∧ (a < 0 ∨ t < a) then t else a) := foldl_drop h a
theorem best_end {zs : List Int} {share : Int} {l : List Int} {i : Nat} (h : l.length ≤ i) (a : Int) : bestL zs share (l.drop i) a = a := foldl_end h a
theorem best_is {zs : List Int} {share v : Int} (hv : enough zs share v = true) (hlow : ∀ t, t < v → enough zs share t = false) (h0 : 0 ≤ v) : ∀ (l : List Int) (a : Int), (a = -1 ∨ v ≤ a) → (v ∈ l ∨ a = v) → (∀ t ∈ l, 0 ≤ t) → bestL zs share l a = v
  | [], a, ha, hm, _ => by
    rcases hm with h | h
    · cases h
    · exact h
  | t :: l, a, ha, hm, hp => by
    have ht := hp t (List.mem_cons_self ..)
    show bestL zs share l (if enough zs share t = true ∧ (a < 0 ∨ t < a) then t else a) = v
    by_cases h1 : enough zs share t = true ∧ (a < 0 ∨ t < a)
    · rw [if_pos h1]
      have hge : v ≤ t := by
        rcases Decidable.em (t < v) with q | q
        · rw [hlow t q] at h1; cases h1.1
        · omega
      refine best_is hv hlow h0 l t (.inr hge) ?_ fun x hx => hp x (List.mem_cons_of_mem _ hx)
      rcases hm with h | h
      · rcases List.mem_cons.1 h with e | e
        · exact .inr e.symm
        · exact .inl e
      · right; omega
    · rw [if_neg h1]
      refine best_is hv hlow h0 l a ha ?_ fun x hx => hp x (List.mem_cons_of_mem _ hx)
      rcases hm with h | h
      · rcases List.mem_cons.1 h with e | e
        · right
          subst e
          rcases ha with q | q
          · exact absurd ⟨hv, .inl (by omega)⟩ h1
          · rcases Decidable.em (v < a) with z | z
            · exact absurd ⟨hv, .inr z⟩ h1
            · omega
        · exact .inl e
      · exact .inr h
theorem sorted_cnt {s : List Int} (hs : s.Pairwise fun x y => decide (x ≤ y) = true) {m : Nat} {v : Int} (h : s[m]? = some v) : m + 1 ≤ cntLe v s ∧ ∀ t, t < v → cntLe t s ≤ m := by
  have hm : m < s.length := (List.getElem?_eq_some_iff.1 h).1
  have e : s = s.take m ++ v :: s.drop (m + 1) := by
    rw [← getElem_drop_cons h, List.take_append_drop]
  have hp := hs
  rw [e, List.pairwise_append] at hp
  obtain ⟨_, p2, p3⟩ := hp
  have hle : ∀ x ∈ s.take m, x ≤ v := fun x hx => by simpa using p3 x hx v (List.mem_cons_self ..)
  have hge : ∀ x ∈ s.drop (m + 1), v ≤ x := fun x hx => by simpa using (List.pairwise_cons.1 p2).1 x hx
  have hlen : (s.take m).length = m := by rw [List.length_take]; omega
  constructor
  · rw [e, cntLe, List.countP_append, List.countP_cons]
    have : (s.take m).countP (fun t => decide (t ≤ v)) = (s.take m).length := List.countP_eq_length.2 fun x hx => by simpa using hle x hx
    rw [this, hlen]
    simp
    try omega
  · intro t ht
    rw [e, cntLe, List.countP_append]
    have h1 : (s.take m).countP (fun x => decide (x ≤ t)) ≤ (s.take m).length := List.countP_le_length
    have h2 : (v :: s.drop (m + 1)).countP (fun x => decide (x ≤ t)) = 0 := by
      rw [List.countP_eq_zero]
      intro x hx
      have : v ≤ x := by
        rcases List.mem_cons.1 hx with q | q
        · omega
        · exact hge x q
      simp; omega
    omega
theorem sortL_sorted (zs : List Int) : (sortL zs).Pairwise fun x y => decide (x ≤ y) = true :=
  List.pairwise_mergeSort (fun a b c h1 h2 => by simp at *; omega) (fun a b => by simp; omega) zs
theorem sortL_perm (zs : List Int) : (sortL zs).Perm zs := List.mergeSort_perm zs _
theorem cnt_sort (zs : List Int) (t : Int) : cntLe t (sortL zs) = cntLe t zs := (sortL_perm zs).countP_eq _
/-- The place of the least time for which a share has it. -/
def placeN (n share : Int) : Int := (share * n + 100 - 1).tdiv 100 - 1
theorem place_in {n share : Int} (hn : 1 ≤ n) (hn2 : n ≤ 15) (h1 : 1 ≤ share) (h2 : share ≤ 100) : 0 ≤ placeN n share ∧ placeN n share < n ∧ share * n ≤ 100 * (placeN n share + 1) ∧ 100 * placeN n share < share * n := by
  have hp : 1 ≤ share * n := by have := Int.mul_le_mul h1 hn (by omega) (by omega); omega
  have hq : share * n ≤ 100 * n := Int.mul_le_mul_of_nonneg_right h2 (by omega)
  rw [placeN, Int.tdiv_eq_ediv_of_nonneg (by omega)]
  generalize share * n = q at *
  omega
def tshareB (l : List (Int × ByteArray × Int × Int)) (share : Int) : Bool := turnsB l && (decide (1 ≤ share) && decide (share ≤ 100)) && !decide ((l.length : Int) = 0)
def tshareV (l : List (Int × ByteArray × Int × Int)) (share : Int) : Int := if tshareB l share = true then bestL (l.map tTime) share (l.map tTime) (-1) else 0
theorem time_pos {l : List (Int × ByteArray × Int × Int)} (h : turnsB l = true) : ∀ t ∈ l.map tTime, 0 ≤ t := by
  intro t ht
  obtain ⟨x, hx, rfl⟩ := List.mem_map.1 ht
  simp only [turnsB, Bool.and_eq_true] at h
  have h2 := chain_ok h.1 x hx
  simp only [tOne, Bool.and_eq_true, decide_eq_true_eq] at h2
  rw [tTime, wrap64 (by omega) (by omega)]
  omega
theorem tshare_len {l : List (Int × ByteArray × Int × Int)} (h : turnsB l = true) : l.length ≤ 15 := by
  simp only [turnsB, Bool.and_eq_true, decide_eq_true_eq] at h
  omega
theorem tshare_is {l : List (Int × ByteArray × Int × Int)} {share v : Int} (hb : tshareB l share = true) (hv : (sortL (l.map tTime))[(placeN l.length share).toNat]? = some v) : bestL (l.map tTime) share (l.map tTime) (-1) = v := by
  simp only [tshareB, Bool.and_eq_true, decide_eq_true_eq, Bool.not_eq_true', decide_eq_false_iff_not] at hb
  have hl := tshare_len hb.1.1
  obtain ⟨q1, q2, q3, q4⟩ := place_in (n := l.length) (share := share) (by omega) (by omega) hb.1.2.1 hb.1.2.2
  obtain ⟨c1, c2⟩ := sorted_cnt (sortL_sorted _) hv
  rw [cnt_sort] at c1
  have hmem : v ∈ l.map tTime := (sortL_perm _).mem_iff.1 (List.mem_of_getElem? hv)
  have hz : ((l.map tTime).length : Int) = l.length := by simp
  refine best_is (by rw [enough, hz, decide_eq_true_eq]; omega) (fun t ht => ?_) (time_pos hb.1.1 v hmem) _ _ (.inl rfl) (.inl hmem) (time_pos hb.1.1)
  have := c2 t ht
  rw [cnt_sort] at this
  rw [enough, hz, decide_eq_false_iff_not]
  omega

set_option maxHeartbeats 1000000 in
theorem upTo_con (a : Int) (ha : 0 ≤ a ∧ a ≤ 1000000) : Con Tryd.prog 104 [.int .i64 a, .int .i64 100] [] (.int .i64 ((a + 100 - 1).tdiv 100)) [] := by
 have hq : (a + 100 - 1).tdiv 100 = (a + 100 - 1) / 100 := Int.tdiv_eq_ediv_of_nonneg (by omega)
 refine v_con [.tmp 4] [] Tryd.func104 rfl rfl rfl (by simp [Tryd.ntmps104]) ?_
 intro Q0 n0 r0
 simp only [Tryd.ntmps104, envFrom, Nat.reduceAdd]
 have T := Tys.mk Ty.t3
 have F := Fc.mk True.intro
 refine v_seqR [0,1] ?_; intro K1 k1
 have F := Fc.mk hq
 refine zAssign ⟨?_⟩
 refine k1 _ ?_
 refine zk ⟨?_⟩
 refine v_seqR [4] ?_; intro K2 k2
 refine zMove ⟨?_⟩
 refine zMove ⟨?_⟩
 refine zBinOpW ⟨?_⟩
 refine zBinOpW ⟨?_⟩
 refine zMove ⟨?_⟩
 refine zBinOpW ⟨?_⟩
 refine zAssign ⟨?_⟩
 refine k2 _ ?_
 refine zk ⟨?_⟩
 refine v_ret ?_
 refine r0 _ ?_
 refine zf ⟨?_⟩
 exact ret_pure rfl (by rw [hq]) (.inl rfl)
set_option maxHeartbeats 1000000 in
theorem implTShare_con (l : List (Int × ByteArray × Int × Int)) (share : Int) (hl : l.length ≤ 1048576) (hls : ∀ t ∈ l, t.2.1.size ≤ 9223372036854775807) : Con Tryd.prog 26 [.sl (l.map (fun t : Int × ByteArray × Int × Int => V.agg [V.int .i64 t.1, V.str t.2.1, V.int .i64 t.2.2.1, V.int .i64 t.2.2.2])), .int .i64 share] [] (.tup [.int .i64 (tshareV l share), .bool (tshareB l share)]) [] := by
 refine v_con [.tmp 4, .tmp 5] [(83, [0])] Tryd.func26 rfl rfl rfl (by simp [Tryd.ntmps26]) ?_
 intro Q0 n0 r0
 simp only [Tryd.ntmps26, envFrom, Nat.reduceAdd]
 have T := Tys.mk (And.intro Ty.t3 (And.intro Ty.t4 (And.intro Ty.t9 (And.intro Ty.t36 (And.intro Ty.t48 Ty.t62)))))
 have F := Fc.mk True.intro
 refine v_seqR [0,1] ?_; intro K1 k1
 refine zAssign ⟨?_⟩
 refine zAssign ⟨?_⟩
 refine k1 _ ?_
 refine zk ⟨?_⟩
 refine v_seq ?_; intro Q2 n2 e2 r2
 refine v_seqR [0,1,19] ?_; intro K3 k3
 refine zMove ⟨?_⟩
 refine zc (areTurnouts_con l hl hls) ⟨?_⟩
 refine zUnOp ⟨?_⟩
 refine zMove ⟨?_⟩
 refine zgMove ⟨?_⟩
 refine zgc (inside_con _ _ _) ⟨?_⟩
 refine zgUnOp ⟨?_⟩
 refine zPick ⟨?_⟩
 refine zMove ⟨?_⟩
 refine zgMove ⟨?_⟩
 refine zgLen ⟨?_⟩
 refine zgBinOp ⟨?_⟩
 refine zPick ⟨?_⟩
 refine k3 _ ?_
 refine zk ⟨?_⟩
 refine v_condS _ rfl ?_ ?_
 ·intro hc0
  refine v_seqR [4,5] ?_; intro K5 k5
  refine zAssign ⟨?_⟩
  refine zAssign ⟨?_⟩
  refine k5 _ ?_
  refine zk ⟨?_⟩
  refine v_ret ?_
  refine r2 _ ?_
  refine r0 _ ?_
  refine zf ⟨?_⟩
  have hg : tshareB l share = false := by
   cases hq : tshareB l share with
   |false => rfl
   |true =>
    exfalso
    simp only [tshareB, Bool.and_eq_true, decide_eq_true_eq, Bool.not_eq_true', decide_eq_false_iff_not] at hq
    obtain ⟨⟨z1, z2, z3⟩, z4⟩ := hq
    rcases hc0 with (h | h) | h
    ·rw [z1] at h; cases h
    ·first | omega | (have := h z2; omega)
    ·first | omega | (have := h z2; omega)
  have hmv : tshareV l share = 0 := by rw [tshareV, hg]; rfl
  rw [hmv, hg]
  exact ret_pure rfl rfl (.inl rfl)
 ·intro hc0
  have hturn : turnsB l = true := hc0.1.1
  have hg : tshareB l share = true := by
   simp only [tshareB, Bool.and_eq_true, decide_eq_true_eq, Bool.not_eq_true', decide_eq_false_iff_not]
   refine ⟨⟨hturn, ?_⟩, ?_⟩
   ·omega
   ·omega
  have hsh : 1 ≤ share ∧ share ≤ 100 := by omega
  have hn0 : ¬ (l.length : Int) = 0 := by omega
  have hl15 := tshare_len hturn
  have hmv : tshareV l share = bestL (l.map tTime) share (l.map tTime) (-1) := by rw [tshareV, hg]; rfl
  have hne : l.map tTime ≠ [] := by intro e; rw [List.map_eq_nil_iff] at e; subst e; exact hn0 rfl
  have hsl : (sortL (l.map tTime)).length = l.length := by rw [sortL_len, List.length_map]
  obtain ⟨q1, q2, q3, q4⟩ := place_in (n := l.length) (share := share) (by omega) (by omega) hsh.1 hsh.2
  obtain ⟨v, hv⟩ : ∃ v, (sortL (l.map tTime))[(placeN l.length share).toNat]? = some v := ⟨(sortL (l.map tTime))[(placeN l.length share).toNat]'(by omega), List.getElem?_eq_getElem (by omega)⟩
  have hpl : (share * (l.length : Int) + 100 - 1).tdiv 100 - 1 = placeN l.length share := rfl
  have hmul : 0 ≤ share * (l.length : Int) ∧ share * (l.length : Int) ≤ 1000000 := by rw [placeN] at *; have := Int.mul_le_mul_of_nonneg_right hsh.2 (show 0 ≤ (l.length : Int) by omega); exact ⟨Int.mul_nonneg (by omega) (by omega), by omega⟩
  have hwm : IntKind.i64.wrap (share * (l.length : Int)) = share * (l.length : Int) := wrap64 (by omega) (by omega)
  have hwp : IntKind.i64.wrap (placeN l.length share) = placeN l.length share := wrap64 (by omega) (by omega)
  refine v_skip ?_
  refine n2 _ _ (weak_keep [0, 1] _) ?_
  refine zk ⟨?_⟩
  refine v_seqR [0,1,6] ?_; intro K6 k6
  have F := Fc.mk (And.intro hwm (And.intro hpl (And.intro hwp (And.intro (fun f => getD_map (f := f) hv) hsl))))
  refine zMove ⟨?_⟩
  refine zc (timesOf_con l hl) ⟨?_⟩
  refine zAssign ⟨?_⟩
  refine k6 _ ?_
  refine zk ⟨?_⟩
  refine v_seqR [0,1,6] ?_; intro K7 k7
  refine zMove ⟨?_⟩
  refine zcl (con_sort (l.map tTime) ⟨_, Tryd.func83, rfl, rfl⟩ hne (fun blk off cap w h1 h2 => Tryd.slices_Sort_int blk off cap (l.map tTime) w h1 h2 (by rw [List.length_map]; omega))) ⟨?_⟩
  refine k7 _ ?_
  refine zk ⟨?_⟩
  refine v_seqR [4,5] ?_; intro K8 k8
  refine zMove ⟨?_⟩
  refine zMove ⟨?_⟩
  refine zMove ⟨?_⟩
  refine zLen ⟨?_⟩
  refine zBinOpW ⟨?_⟩
  refine zc (upTo_con (share * (l.length : Int)) hmul) ⟨?_⟩
  refine zBinOpW ⟨?_⟩
  refine zIndexAddr ⟨?_⟩
  refine zLoad ⟨?_⟩
  refine zAssign ⟨?_⟩
  refine zAssign ⟨?_⟩
  refine k8 _ ?_
  refine zk ⟨?_⟩
  refine v_ret ?_
  refine r0 _ ?_
  refine zf ⟨?_⟩
  rw [hmv, hg, tshare_is hg hv]
  exact ret_pure rfl rfl (.inl rfl)
set_option maxHeartbeats 1000000 in
theorem specTShare_con (l : List (Int × ByteArray × Int × Int)) (share : Int) (hl : l.length ≤ 1048576) (hls : ∀ t ∈ l, t.2.1.size ≤ 9223372036854775807) : Con Tryd.prog 27 [.sl (l.map (fun t : Int × ByteArray × Int × Int => V.agg [V.int .i64 t.1, V.str t.2.1, V.int .i64 t.2.2.1, V.int .i64 t.2.2.2])), .int .i64 share] [] (.tup [.int .i64 (tshareV l share), .bool (tshareB l share)]) [] := by
 refine v_con [.tmp 4, .tmp 5] [] Tryd.func27 rfl rfl rfl (by simp [Tryd.ntmps27]) ?_
 intro Q0 n0 r0
 simp only [Tryd.ntmps27, envFrom, Nat.reduceAdd]
 have T := Tys.mk (And.intro Ty.t3 (And.intro Ty.t4 (And.intro Ty.t9 (And.intro Ty.t36 (And.intro Ty.t48 Ty.t62)))))
 have F := Fc.mk True.intro
 refine v_seqR [0,1] ?_; intro K1 k1
 refine zAssign ⟨?_⟩
 refine zAssign ⟨?_⟩
 refine k1 _ ?_
 refine zk ⟨?_⟩
 refine v_seq ?_; intro Q2 n2 e2 r2
 refine v_seqR [0,1,23] ?_; intro K3 k3
 refine zMove ⟨?_⟩
 refine zc (dbGood_con l hl hls) ⟨?_⟩
 refine zUnOp ⟨?_⟩
 refine zMove ⟨?_⟩
 refine zgMove ⟨?_⟩
 refine zgLen ⟨?_⟩
 refine zgBinOp ⟨?_⟩
 refine zPick ⟨?_⟩
 refine zMove ⟨?_⟩
 refine zgMove ⟨?_⟩
 refine zgc (l1In_con _ _ _) ⟨?_⟩
 refine zgUnOp ⟨?_⟩
 refine zPick ⟨?_⟩
 refine k3 _ ?_
 refine zk ⟨?_⟩
 refine v_condS _ rfl ?_ ?_
 ·intro hc0
  refine v_seqR [4,5] ?_; intro K5 k5
  refine zAssign ⟨?_⟩
  refine zAssign ⟨?_⟩
  refine k5 _ ?_
  refine zk ⟨?_⟩
  refine v_ret ?_
  refine r2 _ ?_
  refine r0 _ ?_
  refine zf ⟨?_⟩
  have hg : tshareB l share = false := by
   cases hq : tshareB l share with
   |false => rfl
   |true =>
    exfalso
    simp only [tshareB, Bool.and_eq_true, decide_eq_true_eq, Bool.not_eq_true', decide_eq_false_iff_not] at hq
    obtain ⟨⟨z1, z2, z3⟩, z4⟩ := hq
    rcases hc0 with (h | h) | h
    ·rw [z1] at h; cases h
    ·first | omega | (have := h z2; omega)
    ·first | omega | (have := h z2; omega)
  have hmv : tshareV l share = 0 := by rw [tshareV, hg]; rfl
  rw [hmv, hg]
  exact ret_pure rfl rfl (.inl rfl)
 ·intro hc0
  have hturn : turnsB l = true := hc0.1.1
  have hg : tshareB l share = true := by
   simp only [tshareB, Bool.and_eq_true, decide_eq_true_eq, Bool.not_eq_true', decide_eq_false_iff_not]
   refine ⟨⟨hturn, ?_⟩, ?_⟩
   ·omega
   ·omega
  have hsh : 1 ≤ share ∧ share ≤ 100 := by omega
  have hn0 : ¬ (l.length : Int) = 0 := by omega
  have hl15 := tshare_len hturn
  have hmv : tshareV l share = bestL (l.map tTime) share (l.map tTime) (-1) := by rw [tshareV, hg]; rfl
  have hmul : 0 ≤ share * (l.length : Int) ∧ share * (l.length : Int) ≤ 1000000 := by have := Int.mul_le_mul_of_nonneg_right hsh.2 (show 0 ≤ (l.length : Int) by omega); exact ⟨Int.mul_nonneg (by omega) (by omega), by omega⟩
  have hwm : IntKind.i64.wrap (share * (l.length : Int)) = share * (l.length : Int) := wrap64 (by omega) (by omega)
  refine v_skip ?_
  refine n2 _ _ (weak_keep [0, 1] _) ?_
  refine zk ⟨?_⟩
  refine v_seqR [0,1,6] ?_; intro K6 k6
  have F := Fc.mk hwm
  refine zAssign ⟨?_⟩
  refine k6 _ ?_
  refine zk ⟨?_⟩
  refine v_seq ?_; intro Q7 n7 e7 r7
  refine v_seqR [0,1,6,24,25,26] ?_; intro K8 k8
  refine zMove ⟨?_⟩
  refine zLen ⟨?_⟩
  refine zMove ⟨?_⟩
  refine k8 _ ?_
  refine zk ⟨?_⟩
  refine v_block ?_; intro Q9 n9 x9 e9 r9
  refine v_loop (fun p => ⟨[(0, .sl (l.map (fun t : Int × ByteArray × Int × Int => V.agg [V.int .i64 t.1, V.str t.2.1, V.int .i64 t.2.2.1, V.int .i64 t.2.2.2]))), (1, .int .i64 share), (6, .int .i64 p.2), (24, .sl (l.map (fun t : Int × ByteArray × Int × Int => V.agg [V.int .i64 t.1, V.str t.2.1, V.int .i64 t.2.2.1, V.int .i64 t.2.2.2]))), (25, .int .i64 l.length), (26, .int .i64 (Nat.cast p.1))], [], false, 58, 0⟩) (fun p => p.1 ≤ l.length ∧ bestL (l.map tTime) share ((l.map tTime).drop p.1) p.2 = bestL (l.map tTime) share ((l.map tTime).drop 0) (-1)) (fun p => l.length - p.1) ((0, -1) : Nat × Int) ?_ ?_ ?_
  ·refine weak_of [0, 1, 6, 24, 25, 26] ?_
   simp only [keep_mk, keepE_nil, keepE_cons, look_cons, look_nil, Nat.reduceEqDiff, reduceIte]
   rfl
  ·exact ⟨Nat.zero_le _, rfl⟩
  ·rintro ⟨i, b⟩ hok10 Q10 n10 e10 r10
   obtain ⟨hi1, hR⟩ := hok10
   simp only [] at hi1 hR ⊢
   refine v_seqR [0,1,6,24,25,26,27] ?_; intro K11 k11
   refine zBinOp ⟨?_⟩
   refine k11 _ ?_
   refine zk ⟨?_⟩
   refine v_seq ?_; intro Q12 n12 e12 r12
   refine v_condS _ rfl ?_ ?_
   ·intro hc1
    have hlt : i < l.length := by omega
    obtain ⟨⟨x0, x1, x2, x3⟩, hx⟩ : ∃ x : Int × ByteArray × Int × Int, l[i]? = some x := ⟨l[i]'(by omega), List.getElem?_eq_getElem (by omega)⟩
    have hxm := map_at (f := tTime) hx
    have htt : tTime (x0, x1, x2, x3) = IntKind.i64.wrap (x3 - x2) := rfl
    have hcl := cnt_late (tTime (x0, x1, x2, x3)) l 0
    have hel : ((l.length : Int) - (lateFrom (tTime (x0, x1, x2, x3)) 0 l).length) = (cntLe (tTime (x0, x1, x2, x3)) (l.map tTime) : Int) := by omega
    have hcle : cntLe (tTime (x0, x1, x2, x3)) (l.map tTime) ≤ l.length := by omega
    refine v_skip ?_
    refine n12 _ _ (weak_keep [0, 1, 6, 24, 25, 26] _) ?_
    refine zk ⟨?_⟩
    refine v_seq ?_; intro Q14 n14 e14 r14
    refine v_block ?_; intro Q15 n15 x15 e15 r15
    refine v_seqR [0,1,6,8,24,25,26] ?_; intro K16 k16
    have F := Fc.mk (And.intro hwm (fun f => getD_map (f := f) hx))
    refine zIndexAddr ⟨?_⟩
    refine zLoad ⟨?_⟩
    refine zAlloc ⟨?_⟩
    refine zStore ⟨?_⟩
    refine k16 _ ?_
    refine zk ⟨?_⟩
    refine v_seqR [0,1,6,9,24,25,26] ?_; intro K17 k17
    refine zLoad ⟨?_⟩
    refine zc (dbTime_con x0 x1 x2 x3) ⟨?_⟩
    refine zAssign ⟨?_⟩
    refine k17 _ ?_
    refine zk ⟨?_⟩
    refine v_seqR [0,1,6,9,10,24,25,26] ?_; intro K18 k18
    refine zMove ⟨?_⟩
    refine zLen ⟨?_⟩
    refine zMove ⟨?_⟩
    refine zMove ⟨?_⟩
    refine zc (dbLate_con l (tTime (x0, x1, x2, x3)) hl) ⟨?_⟩
    refine zLen ⟨?_⟩
    refine zBinOpW ⟨?_⟩
    refine zBinOpW ⟨?_⟩
    refine zMove ⟨?_⟩
    refine zMove ⟨?_⟩
    refine zLen ⟨?_⟩
    refine zBinOpW ⟨?_⟩
    refine zBinOp ⟨?_⟩
    refine zAssign ⟨?_⟩
    refine k18 _ ?_
    refine zk ⟨?_⟩
    refine v_seqR [0,1,6,9,24,25,26,54] ?_; intro K19 k19
    refine zMove ⟨?_⟩
    refine zMove ⟨?_⟩
    refine zgMove ⟨?_⟩
    refine zgBinOp ⟨?_⟩
    refine zgMove ⟨?_⟩
    refine zgMove ⟨?_⟩
    refine zgMove ⟨?_⟩
    refine zgBinOp ⟨?_⟩
    refine zgPick ⟨?_⟩
    refine zPick ⟨?_⟩
    refine k19 _ ?_
    refine zk ⟨?_⟩
    refine v_condS _ rfl ?_ ?_
    ·intro hc2
     refine v_region ?_; intro K21 k21
     refine zMove ⟨?_⟩
     refine zAssign ⟨?_⟩
     refine k21 _ ?_
     refine n15 _ ?_
     refine n14 _ _ (weak_keep [0, 1, 6, 24, 25, 26] _) ?_
     refine zk ⟨?_⟩
     refine v_region ?_; intro K22 k22
     refine zBinOpW ⟨?_⟩
     refine zMove ⟨?_⟩
     refine k22 _ ?_
     refine n10 _ (i + 1, tTime (x0, x1, x2, x3)) ?_ ?_ ?_
     ·refine weak_bothS [0, 1, 6, 24, 25, 26] [] ⟨?_⟩
      rfl
     ·exact ⟨hlt, by show bestL _ share ((l.map tTime).drop (i + 1)) _ = _; rw [← hR, best_step hxm, if_pos (by rw [enough, List.length_map, decide_eq_true_eq]; have h := hc2; simp only [hel, ← htt] at h; refine ⟨?_, ?_⟩ <;> omega)]⟩
     ·show _ < _; show l.length - (i + 1) < l.length - i; omega
    ·intro hc2
     refine v_skip ?_
     refine n15 _ ?_
     refine n14 _ _ (weak_keep [0, 1, 6, 24, 25, 26] _) ?_
     refine zk ⟨?_⟩
     refine v_region ?_; intro K23 k23
     refine zBinOpW ⟨?_⟩
     refine zMove ⟨?_⟩
     refine k23 _ ?_
     refine n10 _ (i + 1, b) ?_ ?_ ?_
     ·refine weak_bothS [0, 1, 6, 24, 25, 26] [] ⟨?_⟩
      rfl
     ·exact ⟨hlt, by show bestL _ share ((l.map tTime).drop (i + 1)) _ = _; rw [← hR, best_step hxm, if_neg (by rw [enough, List.length_map, decide_eq_true_eq]; have h := hc2; simp only [hel, ← htt] at h; omega)]⟩
     ·show _ < _; show l.length - (i + 1) < l.length - i; omega
   ·intro hc1
    refine v_exit ?_
    refine e12 _ _ ?_
    refine e10 _ _ ?_
    refine x9 _ ?_
    refine n7 _ _ (weak_keep [6] _) ?_
    refine zk ⟨?_⟩
    refine v_seqR [4,5] ?_; intro K24 k24
    refine zMove ⟨?_⟩
    refine zAssign ⟨?_⟩
    refine zAssign ⟨?_⟩
    refine k24 _ ?_
    refine zk ⟨?_⟩
    refine v_ret ?_
    refine r0 _ ?_
    refine zf ⟨?_⟩
    have hfin : bestL (l.map tTime) share (l.map tTime) (-1) = b := by
     have h := hR
     rw [best_end (by rw [List.length_map]; omega), List.drop_zero] at h
     exact h.symm
    rw [hmv, hg, hfin]
    exact ret_pure rfl rfl (.inl rfl)
def dOne (x : (Int × Int × Int × Bool)) : Bool := (decide (1 ≤ x.1) && decide (x.1 ≤ 999)) && (decide (1 ≤ x.2.1) && decide (x.2.1 ≤ 9)) && (decide (0 ≤ x.2.2.1) && decide (x.2.2.1 ≤ 2))
def dBefore (x y : (Int × Int × Int × Bool)) : Bool := decide (x.1 < y.1)
def dsB (l : List (Int × Int × Int × Bool)) : Bool := chainAt dOne dBefore l 0 && decide ((l.length : Int) ≤ 20)
def sOne (x : (Int × Int)) : Bool := (decide (0 ≤ x.1) && decide (x.1 ≤ 86399)) && (decide (1 ≤ x.2) && decide (x.2 ≤ 999))
def sBefore (x y : (Int × Int)) : Bool := decide (x.1 ≤ y.1)
def ssB (l : List (Int × Int)) : Bool := chainAt sOne sBefore l 0 && decide ((l.length : Int) ≤ 60)
def findD (n : Int) : Nat → List (Int × Int × Int × Bool) → Int
  | _, [] => -1
  | i, d :: l => if d.1 = n then i else findD n (i + 1) l
theorem find_stepD {n : Int} {l : List (Int × Int × Int × Bool)} {i : Nat} {d : (Int × Int × Int × Bool)} (h : l[i]? = some d) : findD n i (l.drop i) = if d.1 = n then (i : Int) else findD n (i + 1) (l.drop (i + 1)) := by
  rw [getElem_drop_cons h, findD]
theorem find_endD {n : Int} {l : List (Int × Int × Int × Bool)} {i k : Nat} (h : l.length ≤ i) : findD n k (l.drop i) = -1 := by
  rw [List.drop_of_length_le h, findD]
theorem findD_cases (n : Int) : ∀ (l : List (Int × Int × Int × Bool)) (i : Nat), findD n i l = -1 ∨ ∃ (j : Nat) (d : (Int × Int × Int × Bool)), findD n i l = ((i + j : Nat) : Int) ∧ l[j]? = some d ∧ d.1 = n
  | [], i => .inl rfl
  | d :: l, i => by
    rw [findD]
    by_cases h : d.1 = n
    · rw [if_pos h]; exact .inr ⟨0, d, rfl, rfl, h⟩
    · rw [if_neg h]
      rcases findD_cases n l (i + 1) with q | ⟨j, e, q1, q2, q3⟩
      · exact .inl q
      · exact .inr ⟨j + 1, e, by rw [q1]; congr 1; omega, by simpa using q2, q3⟩
def detOf (l : List (Int × Int × Int × Bool)) (n : Int) : Option (Int × Int × Int × Bool) := l.find? fun d => decide (d.1 = n)
theorem findD_det (n : Int) : ∀ (l : List (Int × Int × Int × Bool)) (i : Nat), (findD n i l = -1 ∧ detOf l n = none) ∨ ∃ (j : Nat) (d : (Int × Int × Int × Bool)), findD n i l = ((i + j : Nat) : Int) ∧ l[j]? = some d ∧ detOf l n = some d
  | [], i => .inl ⟨rfl, rfl⟩
  | d :: l, i => by
    rw [findD, detOf, List.find?_cons]
    by_cases h : d.1 = n
    · rw [if_pos h]; right; exact ⟨0, d, rfl, rfl, by simp [h]⟩
    · rw [if_neg h]
      simp only [h, decide_false]
      rcases findD_det n l (i + 1) with ⟨q1, q2⟩ | ⟨j, e, q1, q2, q3⟩
      · exact .inl ⟨q1, q2⟩
      · exact .inr ⟨j + 1, e, by rw [q1]; congr 1; omega, by simpa using q2, q3⟩
def liveB (l : List (Int × Int × Int × Bool)) (s : (Int × Int)) : Bool := match detOf l s.2 with | some d => !d.2.2.2 | none => false

theorem snoc_sig {l : List (Int × Int)} {a b : Int} : l.map (fun t : Int × Int => V.agg [V.int .i64 t.1, V.int .i64 t.2]) ++ [V.agg [V.int .i64 a, V.int .i64 b]] = (l ++ [(a, b)]).map (fun t : Int × Int => V.agg [V.int .i64 t.1, V.int .i64 t.2]) := by rw [List.map_append]; rfl
theorem live_step {l : List (Int × Int × Int × Bool)} {s : List (Int × Int)} {i : Nat} {x : (Int × Int)} (h : s[i]? = some x) : (s.take (i + 1)).filter (liveB l) = (s.take i).filter (liveB l) ++ (if liveB l x = true then [x] else []) := by
  rw [List.take_add_one, h, Option.toList_some, List.filter_append]
  congr 1
  by_cases q : liveB l x = true
  · simp [q]
  · simp [q]

theorem live_det {l : List (Int × Int × Int × Bool)} {s : (Int × Int)} (h : liveB l s = true) : ∃ (j : Nat) (d : (Int × Int × Int × Bool)), findD s.2 0 l = (j : Int) ∧ l[j]? = some d ∧ detOf l s.2 = some d := by
  rcases findD_det s.2 l 0 with ⟨_, q⟩ | ⟨j, d, q1, q2, q3⟩
  · simp only [liveB, q] at h; cases h
  · exact ⟨j, d, by rw [q1, Nat.zero_add], q2, q3⟩
def zoneOf (l : List (Int × Int × Int × Bool)) (s : (Int × Int)) : Int := match detOf l s.2 with | some d => d.2.1 | none => 0
def confB (l : List (Int × Int × Int × Bool)) (zone within : Int) (s t : (Int × Int)) : Bool := !decide (t.2 = s.2) && decide (zoneOf l t = zone) && decide (IntKind.i64.wrap (s.1 - t.1) ≤ within)
def hitB (l : List (Int × Int × Int × Bool)) (zone within : Int) (pre : List (Int × Int)) (s : (Int × Int)) : Bool := match detOf l s.2 with
  | some d => decide (d.2.1 = zone) && (decide (d.2.2.1 = 2) || pre.any (confB l zone within s))
  | none => false
def alarmFrom (l : List (Int × Int × Int × Bool)) (zone within : Int) (lv : List (Int × Int)) : Nat → List (Int × Int) → Int
  | _, [] => -1
  | k, s :: r => if hitB l zone within (lv.take k) s = true then s.1 else alarmFrom l zone within lv (k + 1) r
theorem alarm_step {l : List (Int × Int × Int × Bool)} {zone within : Int} {lv : List (Int × Int)} {i : Nat} {s : (Int × Int)} (h : lv[i]? = some s) : alarmFrom l zone within lv i (lv.drop i) = if hitB l zone within (lv.take i) s = true then s.1 else alarmFrom l zone within lv (i + 1) (lv.drop (i + 1)) := by
  rw [getElem_drop_cons h, alarmFrom]
theorem alarm_end {l : List (Int × Int × Int × Bool)} {zone within : Int} {lv : List (Int × Int)} {i k : Nat} (h : lv.length ≤ i) : alarmFrom l zone within lv k (lv.drop i) = -1 := by
  rw [List.drop_of_length_le h, alarmFrom]

def alarmOf (l : List (Int × Int × Int × Bool)) (s : List (Int × Int)) (zone within : Int) : Int := alarmFrom l zone within (s.filter (liveB l)) 0 (s.filter (liveB l))
def askB (l : List (Int × Int × Int × Bool)) (s : List (Int × Int)) (within : Int) : Bool := dsB l && ssB s && (decide (0 ≤ within) && decide (within ≤ 3600))
def zonesTo (l : List (Int × Int × Int × Bool)) (s : List (Int × Int)) (within : Int) : Nat → List Int
  | 0 => []
  | n + 1 => zonesTo l s within n ++ (if 0 ≤ alarmOf l s ((n : Int) + 1) within then [(n : Int) + 1] else [])
def firstTo (l : List (Int × Int × Int × Bool)) (s : List (Int × Int)) (within : Int) : Nat → Int × Int
  | 0 => (0, 0)
  | n + 1 => if 0 ≤ alarmOf l s ((n : Int) + 1) within ∧ ((firstTo l s within n).1 = 0 ∨ alarmOf l s ((n : Int) + 1) within < (firstTo l s within n).2) then ((n : Int) + 1, alarmOf l s ((n : Int) + 1) within) else firstTo l s within n
def firstR (l : List (Int × Int × Int × Bool)) (s : List (Int × Int)) (within : Int) : Int × Int := if askB l s within = true then firstTo l s within 9 else (0, 0)
def zonesR (l : List (Int × Int × Int × Bool)) (s : List (Int × Int)) (within : Int) : List Int := if askB l s within = true then zonesTo l s within 9 else []
theorem snoc_zone {l : List Int} {x : Int} : l.map (V.int .i64) ++ [V.int .i64 x] = (l ++ [x]).map (V.int .i64) := by rw [List.map_append]; rfl

end Go.Proofs.YtbameklegpgkfaaDoor
