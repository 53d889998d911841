/- What functions compute (Al5). No condition. -/
import Derived.Test.YtdgenniiidgimaaTy
import Derived.Test.YtdgenniiidgimaaVmG
import Derived.Test.YtdgenniiidgimaaWAl4
import Derived.Test.YtdgenniiidgimaaWAlarm
import Derived.Test.YtdgenniiidgimaaWBase
import Derived.Test.YtdgenniiidgimaaWZones
set_option linter.unusedSimpArgs false
set_option linter.unusedVariables false
set_option linter.defProp false
namespace Go.Proofs.Ytdgenniiidgimaa
open Go Go.Vm

def noisyP (wr : List (Int × Int)) (most : Int) (d : (Int × Int × Int × Bool)) : Bool := decide (most < ((wr.filter fun s => decide (s.2 = d.1)).length : Int))
def noisyOf (l : List (Int × Int × Int × Bool)) (wr : List (Int × Int)) (most : Int) : List Int := (l.filter (noisyP wr most)).map fun d => d.1
def noisyB (l : List (Int × Int × Int × Bool)) (s : List (Int × Int)) (within most : Int) : Bool := askB l s within && (decide (0 ≤ most) && decide (most ≤ 60))
def noisyR (l : List (Int × Int × Int × Bool)) (s : List (Int × Int)) (within most : Int) : List Int := if noisyB l s within most = true then noisyOf l (falseOf l s within) most else []
theorem noisyOf_len (l : List (Int × Int × Int × Bool)) (wr : List (Int × Int)) (most : Int) : (noisyOf l wr most).length ≤ l.length := by rw [noisyOf, List.length_map]; exact List.length_filter_le ..
theorem noisyR_len (l : List (Int × Int × Int × Bool)) (s : List (Int × Int)) (within most : Int) : (noisyR l s within most).length ≤ l.length := by
  rw [noisyR]
  split
  · exact noisyOf_len ..
  · exact Nat.zero_le _
theorem noisy_step {l : List (Int × Int × Int × Bool)} {wr : List (Int × Int)} {most : Int} {i : Nat} {x : (Int × Int × Int × Bool)} (h : l[i]? = some x) : noisyOf (l.take (i + 1)) wr most = noisyOf (l.take i) wr most ++ (if noisyP wr most x = true then [x.1] else []) := by
  rw [noisyOf, filter_step h, List.map_append, noisyOf]
  congr 1
  split <;> rfl
theorem cnt_step {wr : List (Int × Int)} {n : Int} {j : Nat} {y : (Int × Int)} (h : wr[j]? = some y) : ((wr.take (j + 1)).filter fun s => decide (s.2 = n)).length = ((wr.take j).filter fun s => decide (s.2 = n)).length + (if y.2 = n then 1 else 0) := by
  rw [filter_step h, List.length_append]
  congr 1
  by_cases q : y.2 = n <;> simp [q]

set_option maxHeartbeats 1000000 in
theorem specNoisy_con (l : List (Int × Int × Int × Bool)) (s : List (Int × Int)) (within : Int) (most : Int) (hl : l.length ≤ 1048576) (hs : s.length ≤ 1048576) : Con Try.prog 12 [.sl (l.map (fun t : Int × Int × Int × Bool => V.agg [V.int .i64 t.1, V.int .i64 t.2.1, V.int .i64 t.2.2.1, V.bool t.2.2.2])), .sl (s.map (fun t : Int × Int => V.agg [V.int .i64 t.1, V.int .i64 t.2])), .int .i64 within, .int .i64 most] [] (.tup [.ref 0, .bool (noisyB l s within most)]) [.arr ((noisyR l s within most).map (V.int .i64)) .flat] := by
 obtain ⟨wr, hwr⟩ : ∃ wr, wr = falseOf l s within := ⟨_, rfl⟩
 have hwl : wr.length ≤ 1048576 := by rw [hwr]; exact Nat.le_trans (falseOf_len l s within) hs
 refine v_con [.tmp 8, .tmp 9] [] Try.func12 rfl rfl rfl (by simp [Try.ntmps12]) ?_
 intro Q0 n0 r0
 simp only [Try.ntmps12, envFrom, Nat.reduceAdd]
 have T := Tys.mk (And.intro Ty.t3 (And.intro Ty.t4 (And.intro Ty.t26 (And.intro Ty.t29 (And.intro Ty.t31 (And.intro Ty.t57 Ty.t59))))))
 have F := Fc.mk True.intro
 refine v_seq ?_; intro Q1 n1 e1 r1
 refine v_region ?_; intro K2 k2
 refine zAssign ⟨?_⟩
 refine zAssign ⟨?_⟩
 refine k2 _ ?_
 refine n1 _ _ (weak_keep [0, 1, 2, 3] _) ?_
 refine zk ⟨?_⟩
 refine v_seq ?_; intro Q3 n3 e3 r3
 refine v_seq ?_; intro Q4 n4 e4 r4
 refine v_region ?_; intro K5 k5
 refine zMove ⟨?_⟩
 refine zMove ⟨?_⟩
 refine zMove ⟨?_⟩
 refine zc (alAsked_con l s within hl hs) ⟨?_⟩
 refine zUnOp ⟨?_⟩
 refine zMove ⟨?_⟩
 refine zgMove ⟨?_⟩
 refine zgc (l1In_con _ _ _) ⟨?_⟩
 refine zgUnOp ⟨?_⟩
 refine zPick ⟨?_⟩
 refine k5 _ ?_
 refine n4 _ _ (weak_keep [0, 1, 2, 3, 26] _) ?_
 refine zk ⟨?_⟩
 refine v_condS _ rfl ?_ ?_
 ·intro hc0
  have hask : noisyB l s within most = false := by
   cases hq : noisyB l s within most with
   | false => rfl
   | true => (exfalso; first | (simp [noisyB] at hq; simp at hc0; simp_all; done) | (simp [noisyB] at hq; simp at hc0; simp_all; omega) | (simp [noisyB, askB] at hq; simp at hc0; simp_all; done) | (simp [noisyB, askB] at hq; simp at hc0; simp_all; omega))
  refine v_seq ?_; intro Q7 n7 e7 r7
  refine v_region ?_; intro K8 k8
  refine zAssign ⟨?_⟩
  refine zAssign ⟨?_⟩
  refine k8 _ ?_
  refine n7 _ _ (weak_keep [8, 9] _) ?_
  refine zk ⟨?_⟩
  refine v_ret ?_
  refine r3 _ ?_
  refine r0 _ ?_
  refine zf ⟨?_⟩
  rw [show noisyR l s within most = [] by rw [noisyR, hask]; rfl, hask]
  exact ret_ref_tup rfl rfl rfl (.inl rfl)
 ·intro hc0
  have hask : noisyB l s within most = true := by simp only [noisyB, askB, Bool.and_eq_true, decide_eq_true_eq]; simp at hc0; first | (simp_all; done) | (simp_all [askB]; done)
  have hpos := ssB_pos (by simp [noisyB, askB] at hask; exact hask.1.1.2 : ssB s = true)
  refine v_skip ?_
  refine n3 _ _ (weak_keep [0, 1, 2, 3] _) ?_
  refine zk ⟨?_⟩
  refine v_seq ?_; intro Q9 n9 e9 r9
  refine v_region ?_; intro K10 k10
  refine zAssign ⟨?_⟩
  refine k10 _ ?_
  refine n9 _ _ (weak_keep [0, 1, 2, 3, 10] _) ?_
  refine zk ⟨?_⟩
  refine v_seq ?_; intro Q11 n11 e11 r11
  refine v_region ?_; intro K12 k12
  refine zMove ⟨?_⟩
  refine zMove ⟨?_⟩
  refine zMove ⟨?_⟩
  refine zc ((hwr ▸ alFalse_con l s within hl hs : Con _ _ _ _ _ [.arr (wr.map (fun t : Int × Int => V.agg [V.int .i64 t.1, V.int .i64 t.2])) .flat])) ⟨?_⟩
  refine zAssign ⟨?_⟩
  refine k12 _ ?_
  refine n11 _ _ (weak_keep [0, 3, 10, 11] _) ?_
  refine zk ⟨?_⟩
  refine v_seq ?_; intro Q13 n13 e13 r13
  refine v_seq ?_; intro Q14 n14 e14 r14
  refine v_region ?_; intro K15 k15
  refine zMove ⟨?_⟩
  refine zLen ⟨?_⟩
  refine zMove ⟨?_⟩
  refine k15 _ ?_
  refine n14 _ _ (weak_keep [3, 10, 11, 31, 32, 33] _) ?_
  refine zk ⟨?_⟩
  refine v_block ?_; intro Q16 n16 x16 e16 r16
  refine v_loop (fun p => ⟨[(3, .int .i64 most), (10, .ref 0), (11, .ref 1), (31, .sl (l.map (fun t : Int × Int × Int × Bool => V.agg [V.int .i64 t.1, V.int .i64 t.2.1, V.int .i64 t.2.2.1, V.bool t.2.2.2]))), (32, .int .i64 l.length), (33, .int .i64 (Nat.cast p.1))], [.arr (p.2.map (V.int .i64)) .flat, .arr (wr.map (fun t : Int × Int => V.agg [V.int .i64 t.1, V.int .i64 t.2])) .flat], false, 61, 0⟩) (fun p => p.1 ≤ l.length ∧ p.2.length ≤ p.1 ∧ p.2 = noisyOf (l.take p.1) wr most) (fun p => l.length - p.1) ((0, []) : Nat × List Int) ?_ ?_ ?_
  ·refine weak_bothS [3, 10, 11, 31, 32, 33] [1, 2] ⟨?_⟩
   rfl
  ·exact ⟨Nat.zero_le _, Nat.le_refl _, rfl⟩
  ·rintro ⟨i, acc⟩ hok17 Q17 n17 e17 r17
   obtain ⟨hi1, hal, hR⟩ := hok17
   simp only [] at hi1 hal hR ⊢
   refine v_seq ?_; intro Q18 n18 e18 r18
   refine v_region ?_; intro K19 k19
   refine zBinOp ⟨?_⟩
   refine k19 _ ?_
   refine n18 _ _ (weak_keep [3, 10, 11, 31, 32, 33, 34] _) ?_
   refine zk ⟨?_⟩
   refine v_seq ?_; intro Q20 n20 e20 r20
   refine v_condS _ rfl ?_ ?_
   ·intro hc1
    have hlt : i < l.length := by omega
    obtain ⟨⟨x0, x1, x2, x3⟩, hx⟩ : ∃ x : Int × Int × Int × Bool, l[i]? = some x := ⟨l[i]'(by omega), List.getElem?_eq_getElem (by omega)⟩
    have hst := noisy_step (wr := wr) (most := most) hx
    refine v_skip ?_
    refine n20 _ _ (weak_keep [3, 10, 11, 31, 32, 33] _) ?_
    refine zk ⟨?_⟩
    refine v_seq ?_; intro Q22 n22 e22 r22
    refine v_block ?_; intro Q23 n23 x23 e23 r23
    refine v_seq ?_; intro Q24 n24 e24 r24
    refine v_region ?_; intro K25 k25
    have F := Fc.mk (fun f => getD_map (f := f) hx)
    refine zIndexAddr ⟨?_⟩
    refine zLoad ⟨?_⟩
    refine zAlloc ⟨?_⟩
    refine zStore ⟨?_⟩
    refine k25 _ ?_
    refine n24 _ _ (weak_keep [3, 10, 11, 13, 31, 32, 33] _) ?_
    refine zk ⟨?_⟩
    refine v_seq ?_; intro Q26 n26 e26 r26
    refine v_region ?_; intro K27 k27
    refine zAssign ⟨?_⟩
    refine k27 _ ?_
    refine n26 _ _ (weak_keep [3, 10, 11, 13, 14, 31, 32, 33] _) ?_
    refine zk ⟨?_⟩
    refine v_seq ?_; intro Q28 n28 e28 r28
    refine v_seq ?_; intro Q29 n29 e29 r29
    refine v_region ?_; intro K30 k30
    refine zMove ⟨?_⟩
    refine zLen ⟨?_⟩
    refine zMove ⟨?_⟩
    refine k30 _ ?_
    refine n29 _ _ (weak_keep [3, 10, 11, 13, 14, 31, 32, 33, 37, 38, 39] _) ?_
    refine zk ⟨?_⟩
    refine v_block ?_; intro Q31 n31 x31 e31 r31
    refine v_loop (fun q => ⟨[(3, .int .i64 most), (10, .ref 0), (11, .ref 1), (13, .ptr 2 0 0), (14, .int .i64 (Nat.cast q.2)), (31, .sl (l.map (fun t : Int × Int × Int × Bool => V.agg [V.int .i64 t.1, V.int .i64 t.2.1, V.int .i64 t.2.2.1, V.bool t.2.2.2]))), (32, .int .i64 l.length), (33, .int .i64 (Nat.cast i)), (37, .ref 1), (38, .int .i64 wr.length), (39, .int .i64 (Nat.cast q.1))], [.arr (acc.map (V.int .i64)) .flat, .arr (wr.map (fun t : Int × Int => V.agg [V.int .i64 t.1, V.int .i64 t.2])) .flat, .box (.agg [V.int .i64 x0, V.int .i64 x1, V.int .i64 x2, V.bool x3]) .flat], false, 61, 0⟩) (fun q => q.1 ≤ wr.length ∧ q.2 = ((wr.take q.1).filter fun s => decide (s.2 = x0)).length) (fun q => wr.length - q.1) ((0, 0) : Nat × Nat) ?_ ?_ ?_
    ·refine weak_bothS [3, 10, 11, 13, 14, 31, 32, 33, 37, 38, 39] [0, 1, 2] ⟨?_⟩
     rfl
    ·exact ⟨Nat.zero_le _, rfl⟩
    ·rintro ⟨j, n⟩ hok32 Q32 n32 e32 r32
     obtain ⟨hj1, hn⟩ := hok32
     simp only [] at hj1 hn ⊢
     have hnb : n ≤ j := by rw [hn]; exact Nat.le_trans (List.length_filter_le ..) (List.length_take_le ..)
     refine v_seq ?_; intro Q33 n33 e33 r33
     refine v_region ?_; intro K34 k34
     refine zBinOp ⟨?_⟩
     refine k34 _ ?_
     refine n33 _ _ (weak_keep [3, 10, 11, 13, 14, 31, 32, 33, 37, 38, 39, 40] _) ?_
     refine zk ⟨?_⟩
     refine v_seq ?_; intro Q35 n35 e35 r35
     refine v_condS _ rfl ?_ ?_
     ·intro hc2
      have hlj : j < wr.length := by simpa using hc2
      obtain ⟨⟨y0, y1⟩, hy⟩ : ∃ x : Int × Int, wr[j]? = some x := ⟨wr[j]'(by omega), List.getElem?_eq_getElem (by omega)⟩
      have hcs := cnt_step (n := x0) hy
      refine v_skip ?_
      refine n35 _ _ (weak_keep [3, 10, 11, 13, 14, 31, 32, 33, 37, 38, 39] _) ?_
      refine zk ⟨?_⟩
      refine v_seq ?_; intro Q37 n37 e37 r37
      refine v_block ?_; intro Q38 n38 x38 e38 r38
      refine v_seq ?_; intro Q39 n39 e39 r39
      refine v_region ?_; intro K40 k40
      have F := Fc.mk (And.intro (fun f => getD_map (f := f) hx) (fun f => getD_map (f := f) hy))
      refine zIndexAddr ⟨?_⟩
      refine zLoad ⟨?_⟩
      refine zAlloc ⟨?_⟩
      refine zStore ⟨?_⟩
      refine k40 _ ?_
      refine n39 _ _ (weak_keep [3, 10, 11, 13, 14, 16, 31, 32, 33, 37, 38, 39] _) ?_
      refine zk ⟨?_⟩
      refine v_seq ?_; intro Q41 n41 e41 r41
      refine v_region ?_; intro K42 k42
      refine zFieldAddr ⟨?_⟩
      refine zLoad ⟨?_⟩
      refine zFieldAddr ⟨?_⟩
      refine zLoad ⟨?_⟩
      refine zBinOp ⟨?_⟩
      refine k42 _ ?_
      refine n41 _ _ (weak_keep [3, 10, 11, 13, 14, 31, 32, 33, 37, 38, 39, 47] _) ?_
      refine zk ⟨?_⟩
      refine v_condS _ rfl ?_ ?_
      ·intro hc3
       refine v_region ?_; intro K44 k44
       refine zMove ⟨?_⟩
       refine zBinOpW ⟨?_⟩
       refine zAssign ⟨?_⟩
       refine k44 _ ?_
       refine n38 _ ?_
       refine n37 _ _ (weak_keep [3, 10, 11, 13, 14, 31, 32, 33, 37, 38, 39] _) ?_
       refine zk ⟨?_⟩
       refine v_region ?_; intro K45 k45
       refine zBinOpW ⟨?_⟩
       refine zMove ⟨?_⟩
       refine k45 _ ?_
       refine n32 _ (j + 1, n + 1) ?_ ?_ ?_
       ·refine weak_bothS [3, 10, 11, 13, 14, 31, 32, 33, 37, 38, 39] [0, 1, 2] ⟨?_⟩
        rfl
       ·exact ⟨hlj, by show n + 1 = _; rw [hcs, ← hn, if_pos hc3]⟩
       ·show _ < _; show wr.length - (j + 1) < wr.length - j; omega
      ·intro hc3
       refine v_skip ?_
       refine n38 _ ?_
       refine n37 _ _ (weak_keep [3, 10, 11, 13, 14, 31, 32, 33, 37, 38, 39] _) ?_
       refine zk ⟨?_⟩
       refine v_region ?_; intro K46 k46
       refine zBinOpW ⟨?_⟩
       refine zMove ⟨?_⟩
       refine k46 _ ?_
       refine n32 _ (j + 1, n) ?_ ?_ ?_
       ·refine weak_bothS [3, 10, 11, 13, 14, 31, 32, 33, 37, 38, 39] [0, 1, 2] ⟨?_⟩
        rfl
       ·exact ⟨hlj, by show n = _; rw [hcs, ← hn, if_neg hc3]; rfl⟩
       ·show _ < _; show wr.length - (j + 1) < wr.length - j; omega
     ·intro hc2
      have hje : wr.length ≤ j := by simpa using hc2
      have hcn : noisyP wr most (x0, x1, x2, x3) = decide (most < (n : Int)) := by rw [noisyP, hn, List.take_of_length_le hje]
      refine v_exit ?_
      refine e35 _ _ ?_
      refine e32 _ _ ?_
      refine x31 _ ?_
      refine n28 _ _ (weak_keep [3, 10, 11, 13, 14, 31, 32, 33] _) ?_
      refine zk ⟨?_⟩
      refine v_seq ?_; intro Q47 n47 e47 r47
      refine v_region ?_; intro K48 k48
      refine zMove ⟨?_⟩
      refine zMove ⟨?_⟩
      refine zBinOp ⟨?_⟩
      refine k48 _ ?_
      refine n47 _ _ (weak_keep [3, 10, 11, 13, 31, 32, 33, 53] _) ?_
      refine zk ⟨?_⟩
      refine v_condS _ rfl ?_ ?_
      ·intro hc4
       refine v_region ?_; intro K50 k50
       refine zMove ⟨?_⟩
       refine zFieldAddr ⟨?_⟩
       refine zLoad ⟨?_⟩
       refine zBuildSlice ⟨?_⟩
       refine zAppend ⟨?_⟩
       refine zAssign ⟨?_⟩
       refine k50 _ ?_
       refine n23 _ ?_
       refine n22 _ _ (weak_keep [3, 10, 11, 31, 32, 33] _) ?_
       refine zk ⟨?_⟩
       refine v_region ?_; intro K51 k51
       refine zBinOpW ⟨?_⟩
       refine zMove ⟨?_⟩
       refine k51 _ ?_
       refine n17 _ (i + 1, acc ++ [x0]) ?_ ?_ ?_
       ·refine weak_bothS [3, 10, 11, 31, 32, 33] [4, 1] ⟨?_⟩
        rw [snoc_zone]; rfl
       ·exact ⟨hlt, by show (acc ++ _).length ≤ i + 1; simp; omega, by show acc ++ _ = _; rw [hst, ← hR, hcn, if_pos (decide_eq_true hc4)]⟩
       ·show _ < _; show l.length - (i + 1) < l.length - i; omega
      ·intro hc4
       refine v_skip ?_
       refine n23 _ ?_
       refine n22 _ _ (weak_keep [3, 10, 11, 31, 32, 33] _) ?_
       refine zk ⟨?_⟩
       refine v_region ?_; intro K52 k52
       refine zBinOpW ⟨?_⟩
       refine zMove ⟨?_⟩
       refine k52 _ ?_
       refine n17 _ (i + 1, acc) ?_ ?_ ?_
       ·refine weak_bothS [3, 10, 11, 31, 32, 33] [0, 1] ⟨?_⟩
        rfl
       ·exact ⟨hlt, by show acc.length ≤ i + 1; omega, by show acc = _; rw [hst, ← hR, hcn, if_neg (by simp; omega), List.append_nil]⟩
       ·show _ < _; show l.length - (i + 1) < l.length - i; omega
   ·intro hc1
    refine v_exit ?_
    refine e20 _ _ ?_
    refine e17 _ _ ?_
    refine x16 _ ?_
    refine n13 _ _ (weak_keep [10] _) ?_
    refine zk ⟨?_⟩
    refine v_seq ?_; intro Q53 n53 e53 r53
    refine v_region ?_; intro K54 k54
    refine zMove ⟨?_⟩
    refine zAssign ⟨?_⟩
    refine zAssign ⟨?_⟩
    refine k54 _ ?_
    refine n53 _ _ (weak_keep [8, 9] _) ?_
    refine zk ⟨?_⟩
    refine v_ret ?_
    refine r0 _ ?_
    refine zf ⟨?_⟩
    have hend : acc = noisyOf l wr most := by rw [hR, List.take_of_length_le (by omega)]
    rw [show noisyR l s within most = acc by rw [noisyR, hask, hend, hwr]; rfl, hask]
    exact ret_ref_tup rfl rfl rfl (.inl rfl)
set_option maxHeartbeats 1000000 in
theorem implNoisy_con (l : List (Int × Int × Int × Bool)) (s : List (Int × Int)) (within : Int) (most : Int) (hl : l.length ≤ 1048576) (hs : s.length ≤ 1048576) : Con Try.prog 15 [.sl (l.map (fun t : Int × Int × Int × Bool => V.agg [V.int .i64 t.1, V.int .i64 t.2.1, V.int .i64 t.2.2.1, V.bool t.2.2.2])), .sl (s.map (fun t : Int × Int => V.agg [V.int .i64 t.1, V.int .i64 t.2])), .int .i64 within, .int .i64 most] [] (.tup [.ref 0, .bool (noisyB l s within most)]) [.arr ((noisyR l s within most).map (V.int .i64)) .flat] := by
 obtain ⟨wr, hwr⟩ : ∃ wr, wr = falseOf l s within := ⟨_, rfl⟩
 have hwl : wr.length ≤ 1048576 := by rw [hwr]; exact Nat.le_trans (falseOf_len l s within) hs
 refine v_con [.tmp 8, .tmp 9] [] Try.func15 rfl rfl rfl (by simp [Try.ntmps15]) ?_
 intro Q0 n0 r0
 simp only [Try.ntmps15, envFrom, Nat.reduceAdd]
 have T := Tys.mk (And.intro Ty.t3 (And.intro Ty.t4 (And.intro Ty.t26 (And.intro Ty.t29 (And.intro Ty.t31 (And.intro Ty.t57 Ty.t59))))))
 have F := Fc.mk True.intro
 refine v_seq ?_; intro Q1 n1 e1 r1
 refine v_region ?_; intro K2 k2
 refine zAssign ⟨?_⟩
 refine zAssign ⟨?_⟩
 refine k2 _ ?_
 refine n1 _ _ (weak_keep [0, 1, 2, 3] _) ?_
 refine zk ⟨?_⟩
 refine v_seq ?_; intro Q3 n3 e3 r3
 refine v_seq ?_; intro Q4 n4 e4 r4
 refine v_region ?_; intro K5 k5
 refine zMove ⟨?_⟩
 refine zc (areDetectors_con l hl) ⟨?_⟩
 refine zUnOp ⟨?_⟩
 refine zMove ⟨?_⟩
 refine zgMove ⟨?_⟩
 refine zgc (areSignals_con s hs) ⟨?_⟩
 refine zgUnOp ⟨?_⟩
 refine zPick ⟨?_⟩
 refine zMove ⟨?_⟩
 refine zgMove ⟨?_⟩
 refine zgc (inside_con _ _ _) ⟨?_⟩
 refine zgUnOp ⟨?_⟩
 refine zPick ⟨?_⟩
 refine zMove ⟨?_⟩
 refine zgMove ⟨?_⟩
 refine zgc (inside_con _ _ _) ⟨?_⟩
 refine zgUnOp ⟨?_⟩
 refine zPick ⟨?_⟩
 refine k5 _ ?_
 refine n4 _ _ (weak_keep [0, 1, 2, 3, 34] _) ?_
 refine zk ⟨?_⟩
 refine v_condS _ rfl ?_ ?_
 ·intro hc0
  have hask : noisyB l s within most = false := by
   cases hq : noisyB l s within most with
   | false => rfl
   | true => (exfalso; first | (simp [noisyB] at hq; simp at hc0; simp_all; done) | (simp [noisyB] at hq; simp at hc0; simp_all; omega) | (simp [noisyB, askB] at hq; simp at hc0; simp_all; done) | (simp [noisyB, askB] at hq; simp at hc0; simp_all; omega))
  refine v_seq ?_; intro Q7 n7 e7 r7
  refine v_region ?_; intro K8 k8
  refine zAssign ⟨?_⟩
  refine zAssign ⟨?_⟩
  refine k8 _ ?_
  refine n7 _ _ (weak_keep [8, 9] _) ?_
  refine zk ⟨?_⟩
  refine v_ret ?_
  refine r3 _ ?_
  refine r0 _ ?_
  refine zf ⟨?_⟩
  rw [show noisyR l s within most = [] by rw [noisyR, hask]; rfl, hask]
  exact ret_ref_tup rfl rfl rfl (.inl rfl)
 ·intro hc0
  have hask : noisyB l s within most = true := by simp only [noisyB, askB, Bool.and_eq_true, decide_eq_true_eq]; simp at hc0; first | (simp_all; done) | (simp_all [askB]; done)
  have hpos := ssB_pos (by simp [noisyB, askB] at hask; exact hask.1.1.2 : ssB s = true)
  refine v_skip ?_
  refine n3 _ _ (weak_keep [0, 1, 2, 3] _) ?_
  refine zk ⟨?_⟩
  refine v_seq ?_; intro Q9 n9 e9 r9
  refine v_region ?_; intro K10 k10
  refine zMove ⟨?_⟩
  refine zMove ⟨?_⟩
  refine zMove ⟨?_⟩
  refine zc ((hwr ▸ falseSignals_con l s within hl hs hpos : Con _ _ _ _ _ [.arr (wr.map (fun t : Int × Int => V.agg [V.int .i64 t.1, V.int .i64 t.2])) .thin])) ⟨?_⟩
  refine zAssign ⟨?_⟩
  refine k10 _ ?_
  refine n9 _ _ (weak_keep [0, 3, 10] _) ?_
  refine zk ⟨?_⟩
  refine v_seq ?_; intro Q11 n11 e11 r11
  refine v_region ?_; intro K12 k12
  refine zAssign ⟨?_⟩
  refine k12 _ ?_
  refine n11 _ _ (weak_keep [0, 3, 10, 11] _) ?_
  refine zk ⟨?_⟩
  refine v_seq ?_; intro Q13 n13 e13 r13
  refine v_seq ?_; intro Q14 n14 e14 r14
  refine v_region ?_; intro K15 k15
  refine zMove ⟨?_⟩
  refine zLen ⟨?_⟩
  refine zMove ⟨?_⟩
  refine k15 _ ?_
  refine n14 _ _ (weak_keep [3, 10, 11, 39, 40, 41] _) ?_
  refine zk ⟨?_⟩
  refine v_block ?_; intro Q16 n16 x16 e16 r16
  refine v_loop (fun p => ⟨[(3, .int .i64 most), (10, .ref 1), (11, .ref 0), (39, .sl (l.map (fun t : Int × Int × Int × Bool => V.agg [V.int .i64 t.1, V.int .i64 t.2.1, V.int .i64 t.2.2.1, V.bool t.2.2.2]))), (40, .int .i64 l.length), (41, .int .i64 (Nat.cast p.1))], [.arr (p.2.map (V.int .i64)) .flat, .arr (wr.map (fun t : Int × Int => V.agg [V.int .i64 t.1, V.int .i64 t.2])) .thin], false, 69, 0⟩) (fun p => p.1 ≤ l.length ∧ p.2.length ≤ p.1 ∧ p.2 = noisyOf (l.take p.1) wr most) (fun p => l.length - p.1) ((0, []) : Nat × List Int) ?_ ?_ ?_
  ·refine weak_bothS [3, 10, 11, 39, 40, 41] [2, 1] ⟨?_⟩
   rfl
  ·exact ⟨Nat.zero_le _, Nat.le_refl _, rfl⟩
  ·rintro ⟨i, acc⟩ hok17 Q17 n17 e17 r17
   obtain ⟨hi1, hal, hR⟩ := hok17
   simp only [] at hi1 hal hR ⊢
   refine v_seq ?_; intro Q18 n18 e18 r18
   refine v_region ?_; intro K19 k19
   refine zBinOp ⟨?_⟩
   refine k19 _ ?_
   refine n18 _ _ (weak_keep [3, 10, 11, 39, 40, 41, 42] _) ?_
   refine zk ⟨?_⟩
   refine v_seq ?_; intro Q20 n20 e20 r20
   refine v_condS _ rfl ?_ ?_
   ·intro hc1
    have hlt : i < l.length := by omega
    obtain ⟨⟨x0, x1, x2, x3⟩, hx⟩ : ∃ x : Int × Int × Int × Bool, l[i]? = some x := ⟨l[i]'(by omega), List.getElem?_eq_getElem (by omega)⟩
    have hst := noisy_step (wr := wr) (most := most) hx
    refine v_skip ?_
    refine n20 _ _ (weak_keep [3, 10, 11, 39, 40, 41] _) ?_
    refine zk ⟨?_⟩
    refine v_seq ?_; intro Q22 n22 e22 r22
    refine v_block ?_; intro Q23 n23 x23 e23 r23
    refine v_seq ?_; intro Q24 n24 e24 r24
    refine v_region ?_; intro K25 k25
    have F := Fc.mk (fun f => getD_map (f := f) hx)
    refine zIndexAddr ⟨?_⟩
    refine zLoad ⟨?_⟩
    refine zAlloc ⟨?_⟩
    refine zStore ⟨?_⟩
    refine k25 _ ?_
    refine n24 _ _ (weak_keep [3, 10, 11, 13, 39, 40, 41] _) ?_
    refine zk ⟨?_⟩
    refine v_seq ?_; intro Q26 n26 e26 r26
    refine v_region ?_; intro K27 k27
    refine zAssign ⟨?_⟩
    refine k27 _ ?_
    refine n26 _ _ (weak_keep [3, 10, 11, 13, 14, 39, 40, 41] _) ?_
    refine zk ⟨?_⟩
    refine v_seq ?_; intro Q28 n28 e28 r28
    refine v_seq ?_; intro Q29 n29 e29 r29
    refine v_region ?_; intro K30 k30
    refine zMove ⟨?_⟩
    refine zLen ⟨?_⟩
    refine zMove ⟨?_⟩
    refine k30 _ ?_
    refine n29 _ _ (weak_keep [3, 10, 11, 13, 14, 39, 40, 41, 45, 46, 47] _) ?_
    refine zk ⟨?_⟩
    refine v_block ?_; intro Q31 n31 x31 e31 r31
    refine v_loop (fun q => ⟨[(3, .int .i64 most), (10, .ref 1), (11, .ref 0), (13, .ptr 2 0 0), (14, .int .i64 (Nat.cast q.2)), (39, .sl (l.map (fun t : Int × Int × Int × Bool => V.agg [V.int .i64 t.1, V.int .i64 t.2.1, V.int .i64 t.2.2.1, V.bool t.2.2.2]))), (40, .int .i64 l.length), (41, .int .i64 (Nat.cast i)), (45, .ref 1), (46, .int .i64 wr.length), (47, .int .i64 (Nat.cast q.1))], [.arr (acc.map (V.int .i64)) .flat, .arr (wr.map (fun t : Int × Int => V.agg [V.int .i64 t.1, V.int .i64 t.2])) .thin, .box (.agg [V.int .i64 x0, V.int .i64 x1, V.int .i64 x2, V.bool x3]) .flat], false, 69, 0⟩) (fun q => q.1 ≤ wr.length ∧ q.2 = ((wr.take q.1).filter fun s => decide (s.2 = x0)).length) (fun q => wr.length - q.1) ((0, 0) : Nat × Nat) ?_ ?_ ?_
    ·refine weak_bothS [3, 10, 11, 13, 14, 39, 40, 41, 45, 46, 47] [0, 1, 2] ⟨?_⟩
     rfl
    ·exact ⟨Nat.zero_le _, rfl⟩
    ·rintro ⟨j, n⟩ hok32 Q32 n32 e32 r32
     obtain ⟨hj1, hn⟩ := hok32
     simp only [] at hj1 hn ⊢
     have hnb : n ≤ j := by rw [hn]; exact Nat.le_trans (List.length_filter_le ..) (List.length_take_le ..)
     refine v_seq ?_; intro Q33 n33 e33 r33
     refine v_region ?_; intro K34 k34
     refine zBinOp ⟨?_⟩
     refine k34 _ ?_
     refine n33 _ _ (weak_keep [3, 10, 11, 13, 14, 39, 40, 41, 45, 46, 47, 48] _) ?_
     refine zk ⟨?_⟩
     refine v_seq ?_; intro Q35 n35 e35 r35
     refine v_condS _ rfl ?_ ?_
     ·intro hc2
      have hlj : j < wr.length := by simpa using hc2
      obtain ⟨⟨y0, y1⟩, hy⟩ : ∃ x : Int × Int, wr[j]? = some x := ⟨wr[j]'(by omega), List.getElem?_eq_getElem (by omega)⟩
      have hcs := cnt_step (n := x0) hy
      refine v_skip ?_
      refine n35 _ _ (weak_keep [3, 10, 11, 13, 14, 39, 40, 41, 45, 46, 47] _) ?_
      refine zk ⟨?_⟩
      refine v_seq ?_; intro Q37 n37 e37 r37
      refine v_block ?_; intro Q38 n38 x38 e38 r38
      refine v_seq ?_; intro Q39 n39 e39 r39
      refine v_region ?_; intro K40 k40
      have F := Fc.mk (And.intro (fun f => getD_map (f := f) hx) (fun f => getD_map (f := f) hy))
      refine zIndexAddr ⟨?_⟩
      refine zLoad ⟨?_⟩
      refine zAlloc ⟨?_⟩
      refine zStore ⟨?_⟩
      refine k40 _ ?_
      refine n39 _ _ (weak_keep [3, 10, 11, 13, 14, 16, 39, 40, 41, 45, 46, 47] _) ?_
      refine zk ⟨?_⟩
      refine v_seq ?_; intro Q41 n41 e41 r41
      refine v_region ?_; intro K42 k42
      refine zFieldAddr ⟨?_⟩
      refine zLoad ⟨?_⟩
      refine zFieldAddr ⟨?_⟩
      refine zLoad ⟨?_⟩
      refine zBinOp ⟨?_⟩
      refine k42 _ ?_
      refine n41 _ _ (weak_keep [3, 10, 11, 13, 14, 39, 40, 41, 45, 46, 47, 55] _) ?_
      refine zk ⟨?_⟩
      refine v_condS _ rfl ?_ ?_
      ·intro hc3
       refine v_region ?_; intro K44 k44
       refine zMove ⟨?_⟩
       refine zBinOpW ⟨?_⟩
       refine zAssign ⟨?_⟩
       refine k44 _ ?_
       refine n38 _ ?_
       refine n37 _ _ (weak_keep [3, 10, 11, 13, 14, 39, 40, 41, 45, 46, 47] _) ?_
       refine zk ⟨?_⟩
       refine v_region ?_; intro K45 k45
       refine zBinOpW ⟨?_⟩
       refine zMove ⟨?_⟩
       refine k45 _ ?_
       refine n32 _ (j + 1, n + 1) ?_ ?_ ?_
       ·refine weak_bothS [3, 10, 11, 13, 14, 39, 40, 41, 45, 46, 47] [0, 1, 2] ⟨?_⟩
        rfl
       ·exact ⟨hlj, by show n + 1 = _; rw [hcs, ← hn, if_pos hc3]⟩
       ·show _ < _; show wr.length - (j + 1) < wr.length - j; omega
      ·intro hc3
       refine v_skip ?_
       refine n38 _ ?_
       refine n37 _ _ (weak_keep [3, 10, 11, 13, 14, 39, 40, 41, 45, 46, 47] _) ?_
       refine zk ⟨?_⟩
       refine v_region ?_; intro K46 k46
       refine zBinOpW ⟨?_⟩
       refine zMove ⟨?_⟩
       refine k46 _ ?_
       refine n32 _ (j + 1, n) ?_ ?_ ?_
       ·refine weak_bothS [3, 10, 11, 13, 14, 39, 40, 41, 45, 46, 47] [0, 1, 2] ⟨?_⟩
        rfl
       ·exact ⟨hlj, by show n = _; rw [hcs, ← hn, if_neg hc3]; rfl⟩
       ·show _ < _; show wr.length - (j + 1) < wr.length - j; omega
     ·intro hc2
      have hje : wr.length ≤ j := by simpa using hc2
      have hcn : noisyP wr most (x0, x1, x2, x3) = decide (most < (n : Int)) := by rw [noisyP, hn, List.take_of_length_le hje]
      refine v_exit ?_
      refine e35 _ _ ?_
      refine e32 _ _ ?_
      refine x31 _ ?_
      refine n28 _ _ (weak_keep [3, 10, 11, 13, 14, 39, 40, 41] _) ?_
      refine zk ⟨?_⟩
      refine v_seq ?_; intro Q47 n47 e47 r47
      refine v_region ?_; intro K48 k48
      refine zMove ⟨?_⟩
      refine zMove ⟨?_⟩
      refine zBinOp ⟨?_⟩
      refine k48 _ ?_
      refine n47 _ _ (weak_keep [3, 10, 11, 13, 39, 40, 41, 61] _) ?_
      refine zk ⟨?_⟩
      refine v_condS _ rfl ?_ ?_
      ·intro hc4
       refine v_region ?_; intro K50 k50
       refine zMove ⟨?_⟩
       refine zFieldAddr ⟨?_⟩
       refine zLoad ⟨?_⟩
       refine zBuildSlice ⟨?_⟩
       refine zAppend ⟨?_⟩
       refine zAssign ⟨?_⟩
       refine k50 _ ?_
       refine n23 _ ?_
       refine n22 _ _ (weak_keep [3, 10, 11, 39, 40, 41] _) ?_
       refine zk ⟨?_⟩
       refine v_region ?_; intro K51 k51
       refine zBinOpW ⟨?_⟩
       refine zMove ⟨?_⟩
       refine k51 _ ?_
       refine n17 _ (i + 1, acc ++ [x0]) ?_ ?_ ?_
       ·refine weak_bothS [3, 10, 11, 39, 40, 41] [4, 1] ⟨?_⟩
        rw [snoc_zone]; rfl
       ·exact ⟨hlt, by show (acc ++ _).length ≤ i + 1; simp; omega, by show acc ++ _ = _; rw [hst, ← hR, hcn, if_pos (decide_eq_true hc4)]⟩
       ·show _ < _; show l.length - (i + 1) < l.length - i; omega
      ·intro hc4
       refine v_skip ?_
       refine n23 _ ?_
       refine n22 _ _ (weak_keep [3, 10, 11, 39, 40, 41] _) ?_
       refine zk ⟨?_⟩
       refine v_region ?_; intro K52 k52
       refine zBinOpW ⟨?_⟩
       refine zMove ⟨?_⟩
       refine k52 _ ?_
       refine n17 _ (i + 1, acc) ?_ ?_ ?_
       ·refine weak_bothS [3, 10, 11, 39, 40, 41] [0, 1] ⟨?_⟩
        rfl
       ·exact ⟨hlt, by show acc.length ≤ i + 1; omega, by show acc = _; rw [hst, ← hR, hcn, if_neg (by simp; omega), List.append_nil]⟩
       ·show _ < _; show l.length - (i + 1) < l.length - i; omega
   ·intro hc1
    refine v_exit ?_
    refine e20 _ _ ?_
    refine e17 _ _ ?_
    refine x16 _ ?_
    refine n13 _ _ (weak_keep [11] _) ?_
    refine zk ⟨?_⟩
    refine v_seq ?_; intro Q53 n53 e53 r53
    refine v_region ?_; intro K54 k54
    refine zMove ⟨?_⟩
    refine zAssign ⟨?_⟩
    refine zAssign ⟨?_⟩
    refine k54 _ ?_
    refine n53 _ _ (weak_keep [8, 9] _) ?_
    refine zk ⟨?_⟩
    refine v_ret ?_
    refine r0 _ ?_
    refine zf ⟨?_⟩
    have hend : acc = noisyOf l wr most := by rw [hR, List.take_of_length_le (by omega)]
    rw [show noisyR l s within most = acc by rw [noisyR, hask, hend, hwr]; rfl, hask]
    exact ret_ref_tup rfl rfl rfl (.inl rfl)
end Go.Proofs.Ytdgenniiidgimaa
