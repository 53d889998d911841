/- What functions compute (ReadyS). No condition. -/
import Derived.Test.YtdgenniiidgimaaTy
import Derived.Test.YtdgenniiidgimaaVmG
import Derived.Test.YtdgenniiidgimaaWReady
import Derived.Test.YtdgenniiidgimaaWTimes14
import Derived.Test.YtdgenniiidgimaaWFleet2
set_option linter.unusedSimpArgs false
set_option linter.unusedVariables false
set_option linter.defProp false
namespace Go.Proofs.Ytdgenniiidgimaa
open Go Go.Vm

theorem allT_step {fl : List (ByteArray × Int × Int × Int × Int)} {ts : List Int} {i : Nat} {x : (ByteArray × Int × Int × Int × Int)} (h : fl[i]? = some x) : allT (fl.take (i + 1)) ts = allT (fl.take i) ts ++ [Tm.at_ ts x.2.2.1.toNat] := by
  rw [allT, List.take_add_one, h, Option.toList, List.map_append]; rfl
theorem allT_len (fl : List (ByteArray × Int × Int × Int × Int)) (ts : List Int) : (allT fl ts).length = fl.length := by rw [allT, List.length_map]
theorem insR_is {lt : Int → Int → Bool} {p : List Int} {x : Int} {j : Nat} (h : insPos lt x p p.length = j) : insR lt p x = p.take j ++ x :: p.drop j := by rw [insR, h]

set_option maxHeartbeats 1000000 in
theorem l1Own_con (l : List Int) (hl : l.length ≤ 1048576) : Con Try.prog 158 [.sl (l.map (V.int .i64))] [] (.ref 0) [.arr (l.map (V.int .i64)) .flat] := by
 have hns : (l.map (V.int .i64)).all V.noSl = true := by rw [List.all_map, List.all_eq_true]; intro a _; rfl
 refine v_con [.tmp 2] [] Try.func158 rfl rfl rfl (by simp [Try.ntmps158]) ?_
 intro Q0 n0 r0
 simp only [Try.ntmps158, envFrom, Nat.reduceAdd]
 have T := Tys.mk (And.intro Ty.t3 Ty.t26)
 have F := Fc.mk True.intro
 refine v_seq ?_; intro Q1 n1 e1 r1
 refine v_region ?_; intro K2 k2
 have F := Fc.mk hns
 refine zAssign ⟨?_⟩
 refine k2 _ ?_
 refine n1 _ _ (weak_keep [0] _) ?_
 refine zk ⟨?_⟩
 refine v_seq ?_; intro Q3 n3 e3 r3
 refine v_region ?_; intro K4 k4
 refine zBuildSlice ⟨?_⟩
 refine zMove ⟨?_⟩
 refine zAppend ⟨?_⟩
 refine zAssign ⟨?_⟩
 refine k4 _ ?_
 refine n3 _ _ (weak_keep [2] _) ?_
 refine zk ⟨?_⟩
 refine v_ret ?_
 refine r0 _ ?_
 refine zf ⟨?_⟩
 exact ret_refK rfl rfl (by simp)
set_option maxRecDepth 8000 in
set_option maxHeartbeats 8000000 in
theorem dsReady_con (n : Int) (ss : List (Int × Int × Int)) (fl : List (ByteArray × Int × Int × Int × Int)) (node : Int) (hd : DsFacts n ss fl) (hu : 0 ≤ node ∧ node < n) : Con Try.prog 99 [.agg [.int .i64 n, .sl (ss.map (fun t : Int × Int × Int => V.agg [V.int .i64 t.1, V.int .i64 t.2.1, V.int .i64 t.2.2]))], .sl (fl.map (fun t : ByteArray × Int × Int × Int × Int => V.agg [V.str t.1, V.int .i64 t.2.1, V.int .i64 t.2.2.1, V.int .i64 t.2.2.2.1, V.int .i64 t.2.2.2.2])), .int .i64 node] [] (.tup [.ref 0, .ref 1]) [.arr ((readyL fl (tmL n ss node)).map (V.int .i64)) .flat, .arr ((allT fl (tmL n ss node)).map (V.int .i64)) .flat] := by
 have hfl := hd.hfl
 obtain ⟨ts, hts⟩ : ∃ ts, ts = tmL n ss node := ⟨_, rfl⟩
 have htl : ts.length = n.toNat := by rw [hts, times_len]
 have htb := tm_facts hd.hn hu hd.hss hd.hsl
 rw [← hts] at htb ⊢
 have hn14 := hd.hn
 have hvalid : ∀ {a : Int}, a ∈ readyTo fl ts fl.length → ∃ (k : Nat) (x : (ByteArray × Int × Int × Int × Int)) (w : Nat), a = (k : Int) ∧ fl[k]? = some x ∧ x.2.2.1 = (w : Int) ∧ w < ts.length := by
  intro a ha
  obtain ⟨k, x, h1, h2, h3, _⟩ := ready_mem fl ts _ a ha
  have hap := hd.hap _ (List.mem_of_getElem? h3)
  obtain ⟨w, hw⟩ := Int.eq_ofNat_of_zero_le hap.2.1
  exact ⟨k, x, w, h1, h3, hw, by rw [htl]; omega⟩
 have hrl := ready_len fl ts fl.length
 refine v_con [.tmp 6, .tmp 7] [] Try.func99 rfl rfl rfl (by simp [Try.ntmps99]) ?_
 intro Q0 n0 r0
 simp only [Try.ntmps99, envFrom, Nat.reduceAdd]
 have T := Tys.mk (And.intro Ty.t3 (And.intro Ty.t4 (And.intro Ty.t9 (And.intro Ty.t26 (And.intro Ty.t70 (And.intro Ty.t72 (And.intro Ty.t74 (And.intro Ty.t141 Ty.t182))))))))
 have F := Fc.mk True.intro
 refine v_seq ?_; intro Q1 n1 e1 r1
 refine v_region ?_; intro K2 k2
 refine zBox ⟨?_⟩
 refine zAssign ⟨?_⟩
 refine zAssign ⟨?_⟩
 refine k2 _ ?_
 refine n1 _ _ (weak_keep [1, 2, 3] _) ?_
 refine zk ⟨?_⟩
 refine v_seq ?_; intro Q3 n3 e3 r3
 refine v_region ?_; intro K4 k4
 refine zLoad ⟨?_⟩
 refine zMove ⟨?_⟩
 refine zc ((hts ▸ toTimes_con n ss node hd.hn hu hd.hss hd.hsl : Con _ _ _ _ _ [.arr (ts.map (V.int .i64)) .flat])) ⟨?_⟩
 refine zAssign ⟨?_⟩
 refine k4 _ ?_
 refine n3 _ _ (weak_keep [1, 8] _) ?_
 refine zk ⟨?_⟩
 refine v_seq ?_; intro Q5 n5 e5 r5
 refine v_region ?_; intro K6 k6
 refine zAssign ⟨?_⟩
 refine zAssign ⟨?_⟩
 refine k6 _ ?_
 refine n5 _ _ (weak_keep [1, 8, 9, 10] _) ?_
 refine zk ⟨?_⟩
 refine v_seq ?_; intro Q7 n7 e7 r7
 refine v_seq ?_; intro Q8 n8 e8 r8
 refine v_region ?_; intro K9 k9
 refine zMove ⟨?_⟩
 refine zLen ⟨?_⟩
 refine zMove ⟨?_⟩
 refine k9 _ ?_
 refine n8 _ _ (weak_keep [1, 8, 9, 10, 17, 18, 19] _) ?_
 refine zk ⟨?_⟩
 refine v_block ?_; intro Q10 n10 x10 e10 r10
 refine v_loop (fun i => ⟨[(1, .sl (fl.map (fun t : ByteArray × Int × Int × Int × Int => V.agg [V.str t.1, V.int .i64 t.2.1, V.int .i64 t.2.2.1, V.int .i64 t.2.2.2.1, V.int .i64 t.2.2.2.2]))), (8, .ref 0), (9, .ref 1), (10, .ref 2), (17, .sl (fl.map (fun t : ByteArray × Int × Int × Int × Int => V.agg [V.str t.1, V.int .i64 t.2.1, V.int .i64 t.2.2.1, V.int .i64 t.2.2.2.1, V.int .i64 t.2.2.2.2]))), (18, .int .i64 fl.length), (19, .int .i64 (Nat.cast i))], [.arr (ts.map (V.int .i64)) .flat, .arr ((isort (byKey fl ts) (readyTo fl ts i)).map (V.int .i64)) .flat, .arr ((allT (fl.take i) ts).map (V.int .i64)) .flat], false, 83, 0⟩) (fun i => i ≤ fl.length) (fun i => fl.length - i) 0 ?_ ?_ ?_
 ·refine weak_bothS [1, 8, 9, 10, 17, 18, 19] [3, 4, 5] ⟨?_⟩
  rfl
 ·exact Nat.zero_le _
 ·rintro i hok11 Q11 n11 e11 r11
  have hi1 : i ≤ fl.length := hok11
  refine v_seq ?_; intro Q12 n12 e12 r12
  refine v_region ?_; intro K13 k13
  refine zBinOp ⟨?_⟩
  refine k13 _ ?_
  refine n12 _ _ (weak_keep [1, 8, 9, 10, 17, 18, 19, 20] _) ?_
  refine zk ⟨?_⟩
  refine v_seq ?_; intro Q14 n14 e14 r14
  refine v_condS _ rfl ?_ ?_
  ·intro hc0
   have hlt : i < fl.length := by omega
   obtain ⟨⟨x0, x1, x2, x3, x4⟩, hx⟩ : ∃ x : ByteArray × Int × Int × Int × Int, fl[i]? = some x := ⟨fl[i]'(by omega), List.getElem?_eq_getElem (by omega)⟩
   have hap := hd.hap _ (List.mem_of_getElem? hx)
   simp only [] at hap
   obtain ⟨w, hw⟩ := Int.eq_ofNat_of_zero_le hap.2.1
   subst hw
   obtain ⟨p, hp⟩ : ∃ p, ts[w]? = some p := ⟨_, List.getElem?_eq_getElem (by rw [htl]; omega)⟩
   have hwl : w < ts.length := by rw [htl]; omega
   have hpb := htb w
   rw [Tm.at_get hp] at hpb
   have hrp := ready_is (fl := fl) (x := (x0, x1, (w : Int), x3, x4)) rfl hp
   have hst := ready_step (ts := ts) hx
   have hrl2 := ready_len fl ts i
   have hki := key_is (ts := ts) hx rfl hp
   have hal := allT_step (ts := ts) hx
   simp only [Int.toNat_natCast, Tm.at_get hp] at hal
   have hall := allT_len (fl.take i) ts
   have hlti : (fl.take i).length = i := by rw [List.length_take]; omega
   have hpl := isort_len (byKey fl ts) (readyTo fl ts i)
   refine v_skip ?_
   refine n14 _ _ (weak_keep [1, 8, 9, 10, 17, 18, 19] _) ?_
   refine zk ⟨?_⟩
   refine v_seq ?_; intro Q16 n16 e16 r16
   refine v_block ?_; intro Q17 n17 x17 e17 r17
   refine v_seq ?_; intro Q18 n18 e18 r18
   refine v_region ?_; intro K19 k19
   have F := Fc.mk (And.intro (fun f => getD_map (f := f) hx) (fun f => getD_map (f := f) hp))
   refine zMove ⟨?_⟩
   refine zIndexAddr ⟨?_⟩
   refine zLoad ⟨?_⟩
   refine zAlloc ⟨?_⟩
   refine zAssign ⟨?_⟩
   refine zStore ⟨?_⟩
   refine k19 _ ?_
   refine n18 _ _ (weak_keep [1, 8, 9, 10, 11, 12, 17, 18, 19] _) ?_
   refine zk ⟨?_⟩
   refine v_seq ?_; intro Q20 n20 e20 r20
   refine v_region ?_; intro K21 k21
   refine zMove ⟨?_⟩
   refine zMove ⟨?_⟩
   refine zFieldAddr ⟨?_⟩
   refine zLoad ⟨?_⟩
   refine zIndexAddr ⟨?_⟩
   refine zLoad ⟨?_⟩
   refine zBuildSlice ⟨?_⟩
   refine zAppend ⟨?_⟩
   refine zAssign ⟨?_⟩
   refine k21 _ ?_
   refine n20 _ _ (weak_keep [1, 8, 9, 10, 11, 12, 17, 18, 19] _) ?_
   refine zk ⟨?_⟩
   refine v_seq ?_; intro Q22 n22 e22 r22
   refine v_seq ?_; intro Q23 n23 e23 r23
   refine v_region ?_; intro K24 k24
   refine zLoad ⟨?_⟩
   refine zc (apReady_con x0 x1 (w : Int) x3 x4 hap.1) ⟨?_⟩
   refine zUnOp ⟨?_⟩
   refine zMove ⟨?_⟩
   refine zgMove ⟨?_⟩
   refine zgFieldAddr ⟨?_⟩
   refine zgLoad ⟨?_⟩
   refine zgIndexAddr ⟨?_⟩
   refine zgLoad ⟨?_⟩
   refine zgBinOp ⟨?_⟩
   refine zPick ⟨?_⟩
   refine k24 _ ?_
   refine n23 _ _ (weak_keep [1, 8, 9, 10, 11, 12, 17, 18, 19, 42] _) ?_
   refine zk ⟨?_⟩
   refine v_condS _ rfl ?_ ?_
   ·intro hc1
    have hr1 : ¬ readyP fl ts (x0, x1, (w : Int), x3, x4) = true := by
     rw [hrp]
     intro h
     simp only [Bool.and_eq_true, decide_eq_true_eq] at h
     first
     |(rcases hc1 with q | q; · (rw [h.1] at q; cases q); · omega)
     |(simp [h.1] at hc1; omega)
     |(have := hc1 h.1; omega)
    refine v_exit ?_
    refine e22 _ _ ?_
    refine x17 _ ?_
    refine n16 _ _ (weak_keep [1, 8, 9, 10, 17, 18, 19] _) ?_
    refine zk ⟨?_⟩
    refine v_region ?_; intro K26 k26
    refine zBinOpW ⟨?_⟩
    refine zMove ⟨?_⟩
    refine k26 _ ?_
    refine n11 _ (i + 1) ?_ ?_ ?_
    ·refine weak_bothS [1, 8, 9, 10, 17, 18, 19] [0, 1, 5] ⟨?_⟩
     rw [hst, if_neg hr1, hal, List.map_append]; rfl
    ·exact hlt
    ·show _ < _; omega
   ·intro hc1
    have hr1 : readyP fl ts (x0, x1, (w : Int), x3, x4) = true := by rw [hrp]; simpa using hc1
    refine v_skip ?_
    refine n22 _ _ (weak_keep [1, 8, 9, 10, 11, 12, 17, 18, 19] _) ?_
    refine zk ⟨?_⟩
    refine v_seq ?_; intro Q27 n27 e27 r27
    refine v_region ?_; intro K28 k28
    refine zMove ⟨?_⟩
    refine zLen ⟨?_⟩
    refine zAssign ⟨?_⟩
    refine k28 _ ?_
    refine n27 _ _ (weak_keep [1, 8, 9, 10, 11, 12, 13, 17, 18, 19] _) ?_
    refine zk ⟨?_⟩
    refine v_seq ?_; intro Q29 n29 e29 r29
    refine v_block ?_; intro Q30 n30 x30 e30 r30
    refine v_loop (fun j => ⟨[(1, .sl (fl.map (fun t : ByteArray × Int × Int × Int × Int => V.agg [V.str t.1, V.int .i64 t.2.1, V.int .i64 t.2.2.1, V.int .i64 t.2.2.2.1, V.int .i64 t.2.2.2.2]))), (8, .ref 0), (9, .ref 1), (10, .ref 3), (11, .int .i64 (Nat.cast i)), (12, .ptr 2 0 0), (13, .int .i64 (Nat.cast j)), (17, .sl (fl.map (fun t : ByteArray × Int × Int × Int × Int => V.agg [V.str t.1, V.int .i64 t.2.1, V.int .i64 t.2.2.1, V.int .i64 t.2.2.2.1, V.int .i64 t.2.2.2.2]))), (18, .int .i64 fl.length), (19, .int .i64 (Nat.cast i))], [.arr (ts.map (V.int .i64)) .flat, .arr ((isort (byKey fl ts) (readyTo fl ts i)).map (V.int .i64)) .flat, .box (.agg [V.str x0, V.int .i64 x1, V.int .i64 (Nat.cast w), V.int .i64 x3, V.int .i64 x4]) .flat, .arr ((allT (fl.take (i + 1)) ts).map (V.int .i64)) .flat], false, 83, 0⟩) (fun j => j ≤ (isort (byKey fl ts) (readyTo fl ts i)).length ∧ insPos (byKey fl ts) (i : Int) (isort (byKey fl ts) (readyTo fl ts i)) j = insPos (byKey fl ts) (i : Int) (isort (byKey fl ts) (readyTo fl ts i)) (isort (byKey fl ts) (readyTo fl ts i)).length) (fun j => j) (isort (byKey fl ts) (readyTo fl ts i)).length ?_ ?_ ?_
    ·refine weak_bothS [1, 8, 9, 10, 11, 12, 13, 17, 18, 19] [0, 1, 3, 5] ⟨?_⟩
     rw [hal, List.map_append]; rfl
    ·exact ⟨Nat.le_refl _, rfl⟩
    ·rintro j hok31 Q31 n31 e31 r31
     obtain ⟨hj1, hR2⟩ := hok31
     rcases Nat.eq_zero_or_pos j with hj00 | hj00
     ·skip
      have hj0 : ¬ ((0 : Int) < (j : Int)) := by omega
      refine v_seq ?_; intro Q32 n32 e32 r32
      refine v_seq ?_; intro Q33 n33 e33 r33
      refine v_draw (by kernel_rfl) ?_; intro K34 q34 k34
      show aAny _ _ _ _ 22 (Array.replicate 22 false) _
      have F := Fc.mk (And.intro (fun f => getD_map (f := f) hx) (And.intro (fun f => getD_map (f := f) hp) (And.intro hj0 (And.intro @decide_false @Bool.and_false))))
      refine zdMove q34 true 0 45 ?_
      refine zdBinOp q34 true 1 46 ?_
      refine zdMove q34 true 2 47 ?_
      refine zdgMove q34 true 3 48 ?_
      refine zdgMove q34 true 4 49 ?_
      refine zdgMove q34 true 5 50 ?_
      refine zdgMove q34 true 6 51 ?_
      refine zdgBinOpW q34 true 7 52 ?_
      refine zdgIndexAddr q34 true 8 53 ?_
      refine zdgLoad q34 true 9 54 ?_
      refine zdgIndexAddr q34 true 10 55 ?_
      refine zdgFieldAddr q34 true 11 56 ?_
      refine zdgLoad q34 true 12 57 ?_
      refine zdgIndexAddr q34 true 13 58 ?_
      refine zdgLoad q34 true 14 59 ?_
      refine zdgMove q34 true 15 60 ?_
      refine zdgFieldAddr q34 true 16 61 ?_
      refine zdgLoad q34 true 17 62 ?_
      refine zdgIndexAddr q34 true 18 63 ?_
      refine zdgLoad q34 true 19 64 ?_
      refine zdgBinOp q34 true 20 65 ?_
      refine zdPick q34 true 21 66 ?_
      refine aAny_done (by kernel_rfl) ?_
      refine k34 _ ?_
      refine n33 _ _ (weak_keep [1, 8, 9, 10, 11, 12, 13, 17, 18, 19, 66] _) ?_
      refine zk ⟨?_⟩
      refine v_cond _ rfl ?_ ?_
      ·intro hc2
       exfalso; simp [hj0] at hc2
      ·intro hc2
       try simp only [zC, reduceCtorEq] at hc2
       first
       |(have hend : insR (byKey fl ts) (isort (byKey fl ts) (readyTo fl ts i)) (i : Int) = (isort (byKey fl ts) (readyTo fl ts i)).take j ++ (i : Int) :: (isort (byKey fl ts) (readyTo fl ts i)).drop j := insR_is (by rw [← hR2, hj00]; rfl); have htk : ((isort (byKey fl ts) (readyTo fl ts i)).take j).length = j := (by rw [List.length_take]; omega); have hcon := l1Own_con ((isort (byKey fl ts) (readyTo fl ts i)).take j) (by omega); have hdt : List.take ((isort (byKey fl ts) (readyTo fl ts i)).length - j) (List.drop j (List.map (V.int .i64) (isort (byKey fl ts) (readyTo fl ts i)))) = List.map (V.int .i64) ((isort (byKey fl ts) (readyTo fl ts i)).drop j) := (by rw [← List.map_drop, List.take_of_length_le (by simp)]); have hsn : List.map (V.int .i64) ((isort (byKey fl ts) (readyTo fl ts i)).take j) ++ [V.int .i64 (i : Int)] = List.map (V.int .i64) ((isort (byKey fl ts) (readyTo fl ts i)).take j ++ [(i : Int)]) := snocI)
       |(have hend : insR (byKey fl ts) (isort (byKey fl ts) (readyTo fl ts i)) (i : Int) = (isort (byKey fl ts) (readyTo fl ts i)).take (m + 1) ++ (i : Int) :: (isort (byKey fl ts) (readyTo fl ts i)).drop (m + 1) := insR_is (by rw [← hR2, insPos_no hyp (by rw [byKey, hki, ek2]; simpa [hj0] using hc2)]); have htk : ((isort (byKey fl ts) (readyTo fl ts i)).take (m + 1)).length = m + 1 := (by rw [List.length_take]; omega); have hcon := l1Own_con ((isort (byKey fl ts) (readyTo fl ts i)).take (m + 1)) (by omega); have hdt : List.take ((isort (byKey fl ts) (readyTo fl ts i)).length - (m + 1)) (List.drop (m + 1) (List.map (V.int .i64) (isort (byKey fl ts) (readyTo fl ts i)))) = List.map (V.int .i64) ((isort (byKey fl ts) (readyTo fl ts i)).drop (m + 1)) := (by rw [← List.map_drop, List.take_of_length_le (by simp)]); have hsn : List.map (V.int .i64) ((isort (byKey fl ts) (readyTo fl ts i)).take (m + 1)) ++ [V.int .i64 (i : Int)] = List.map (V.int .i64) ((isort (byKey fl ts) (readyTo fl ts i)).take (m + 1) ++ [(i : Int)]) := snocI)
       refine v_exit ?_
       refine e32 _ _ ?_
       refine e31 _ _ ?_
       refine x30 _ ?_
       refine n29 _ _ (weak_keep [1, 8, 9, 10, 11, 13, 17, 18, 19] _) ?_
       refine zk ⟨?_⟩
       refine v_draw (by kernel_rfl) ?_; intro K36 q36 k36
       show aAny _ _ _ _ 12 (Array.replicate 12 false) _
       have F := Fc.mk (And.intro (fun f => getD_map (f := f) hx) (And.intro (fun f => getD_map (f := f) hp) (And.intro hj0 (And.intro @decide_false (And.intro @Bool.and_false (And.intro hdt hsn))))))
       refine zdMove q36 true 0 69 ?_
       refine zdMove q36 true 1 70 ?_
       refine zdSlice q36 true 2 71 ?_
       refine zdMove q36 true 4 73 ?_
       refine zdMove q36 false 7 76 ?_
       refine zdMove q36 false 8 77 ?_
       refine aAny_three 3 5 9 rfl rfl rfl (by kernel_rfl) ?_ ?_ ?_
       ·intro K k
        skip
        simp only [zE, zM, aStepM, optable, set_some, Nat.reduceEqDiff, reduceIte, Nat.reduceLT, implies_true, forall_const, reduceCtorEq, V.ofValue, V.ofScalar, V.un, V.gd, aExec, lentIds, lendOf, Try.underlying3, Ty.c3, Ty.a3, Ty.b3, Ty.s3, Try.underlying26, Ty.c26, Ty.a26, Ty.b26, Ty.s26]
        repeat (refine And.intro (by first | rfl | (intros; simp_all; done)) ?_)
        refine aCall_new (hcon) (by first | rfl | (simp only [toArgs, toArg, toCell, toCells, idx, row_mk, List.getElem?_cons_zero, List.getElem?_cons_succ, Option.bind_some, Option.map_some, Blk.row, fillK_mix, flat_mix, deep_mix, thin_mix, shal_mix, cond_true, List.map_take]; done) | (simp [toArgs, toArg, toCell, toCells, idx, row_mk, Blk.row, fillK_mix, flat_mix, deep_mix, thin_mix, shal_mix, Nat.beq_refl]; done)) (by first | exact .inl ⟨rfl, by simp [Blk.kindIs, fillK_fd]⟩ | exact .inr (by simp [V.cold])) ?_
        refine k _ ?_; clear k K
        simp only [zY, zW, set_some, Nat.reduceEqDiff, reduceIte, V.ren, V.renL, rho, Nat.reduceAdd]
        refine aAny_two 5 9 rfl rfl (by kernel_rfl) ?_ ?_
        ·intro K k
         skip
         simp only [zE, zO, zN, aStepM, optable, set_some, Nat.reduceEqDiff, reduceIte, Nat.reduceLT, implies_true, forall_const, reduceCtorEq, V.ofValue, V.ofScalar, V.un, V.gd, aExec, aop, litElems, rng0, rng1, rng2, rng3, rng4, List.map_cons, List.map_nil, List.all_cons, List.all_nil, V.isVal, V.cells, content, kindAll, V.noRef, V.noSl, List.mem_cons, List.not_mem_nil, or_false, forall_eq_or_imp, forall_eq, if_true, Option.isSome_some, List.length_cons, List.length_nil, Nat.reduceAdd, Nat.reduceLeDiff, Nat.reduceMul, Try.underlying3, Ty.c3, Ty.a3, Ty.z3, Try.underlying26, Ty.c26, Ty.a26, Ty.z26, getD_map hx, getD_map hp, hj0, hdt, hsn]
         repeat (refine And.intro (by first | omega | (intros; omega) | (intros; simp_all; done) | (intros; simp_all; omega)) ?_)
         refine k _ ?_; clear k K
         refine aAny_two 6 9 rfl rfl (by kernel_rfl) ?_ ?_
         ·intro K k
          skip
          simp only [zE, zL, zO, zN, aStepM, optable, set_some, Nat.reduceEqDiff, reduceIte, Nat.reduceLT, implies_true, forall_const, reduceCtorEq, V.ofValue, V.ofScalar, V.un, V.gd, aExec, aop, fillK_thin, beq_self_eq_true, List.nodup_cons, List.mem_singleton, forall_eq', List.size_toArray, List.getD_eq_getElem?_getD, Array.getD_eq_getD_getElem?, Option.getD_some, aAppend, destOf, srcOf, takeElems, takeV, takeCell, takeCells, row_mk, Blk.row, killAll, V.isSub, V.noSl, Value.cells, Option.toList, List.forall_mem_map, List.length_map, List.all_cons, List.all_nil, List.isEmpty_nil, List.isEmpty_cons, List.not_mem_nil, List.nodup_nil, join_ff, join_ft, join_fv, join_d, join_s, fillK_join0, fillK_join, List.mem_cons, or_false, forall_eq_or_imp, forall_eq, List.set_cons_zero, List.set_cons_succ, List.length_append, Go.Vm.V.cells, Nat.reduceAdd, Nat.reduceLeDiff, Nat.reduceMul, Try.underlying3, Ty.c3, Ty.a3, Ty.z3, Ty.b3, Ty.s3, Try.underlying26, Ty.c26, Ty.a26, Ty.z26, Ty.b26, Ty.s26, getD_map hx, getD_map hp, hj0, hdt, hsn]
          repeat (refine And.intro (by first | omega | (intros; omega) | (intros; simp_all; done) | (intros; simp_all; omega)) ?_)
          refine k _ ?_; clear k K
          refine zdSlice q36 true 9 78 ?_
          refine zoAppend 10 ⟨?_⟩
          refine zoAssign 11 ⟨?_⟩
          refine aAny_done (by kernel_rfl) ?_
          refine k36 _ ?_
          refine n17 _ ?_
          refine n16 _ _ (weak_keep [1, 8, 9, 10, 17, 18, 19] _) ?_
          refine zk ⟨?_⟩
          refine v_region ?_; intro K37 k37
          refine zBinOpW ⟨?_⟩
          refine zMove ⟨?_⟩
          refine k37 _ ?_
          refine n11 _ (i + 1) ?_ ?_ ?_
          ·refine weak_bothS [1, 8, 9, 10, 17, 18, 19] [0, 7, 3] ⟨?_⟩
           rw [hst, if_pos hr1, isort_snoc, hend, ← List.map_append, List.append_assoc]
           try rfl
          ·exact hlt
          ·show _ < _; omega
         ·intro K k
          skip
          simp only [zE, zL, zN, aStepM, optable, set_some, Nat.reduceEqDiff, reduceIte, Nat.reduceLT, implies_true, forall_const, reduceCtorEq, V.ofValue, V.ofScalar, V.un, V.gd, aExec, aop, List.set_cons_zero, List.set_cons_succ, aSlice, forall_eq', bound, ElemsOK, Option.map_none, Option.isNone_none, row_mk, Blk.row, TypeDesc.slice.injEq, List.forall_mem_map, List.length_map, Go.Vm.V.cells, Int.toNat_natCast, Int.reduceToNat, ← List.map_take, ← List.map_drop, List.take_length, Nat.reduceAdd, Nat.reduceLeDiff, Nat.reduceMul, Try.underlying3, Ty.c3, Ty.a3, Try.underlying26, Ty.c26, Ty.a26, getD_map hx, getD_map hp, hj0, decide_false, Bool.and_false, hdt, hsn]
          repeat (refine And.intro (by first | omega | (intros; omega) | (intros; simp_all; done) | (intros; simp_all; omega)) ?_)
          refine k _ ?_; clear k K
          refine zoAppend 6 ⟨?_⟩
          refine zoAppend 10 ⟨?_⟩
          refine zoAssign 11 ⟨?_⟩
          refine aAny_done (by kernel_rfl) ?_
          refine k36 _ ?_
          refine n17 _ ?_
          refine n16 _ _ (weak_keep [1, 8, 9, 10, 17, 18, 19] _) ?_
          refine zk ⟨?_⟩
          refine v_region ?_; intro K38 k38
          refine zBinOpW ⟨?_⟩
          refine zMove ⟨?_⟩
          refine k38 _ ?_
          refine n11 _ (i + 1) ?_ ?_ ?_
          ·refine weak_bothS [1, 8, 9, 10, 17, 18, 19] [0, 7, 3] ⟨?_⟩
           rw [hst, if_pos hr1, isort_snoc, hend, ← List.map_append, List.append_assoc]
           try rfl
          ·exact hlt
          ·show _ < _; omega
        ·intro K k
         skip
         simp only [zE, zL, zN, aStepM, optable, set_some, Nat.reduceEqDiff, reduceIte, Nat.reduceLT, implies_true, forall_const, reduceCtorEq, V.ofValue, V.ofScalar, V.un, V.gd, aExec, aop, List.set_cons_zero, List.set_cons_succ, aSlice, forall_eq', bound, ElemsOK, Option.map_none, Option.isNone_none, row_mk, Blk.row, TypeDesc.slice.injEq, List.forall_mem_map, List.length_map, Go.Vm.V.cells, Int.toNat_natCast, Int.reduceToNat, ← List.map_take, ← List.map_drop, List.take_length, Nat.reduceAdd, Nat.reduceLeDiff, Nat.reduceMul, Try.underlying3, Ty.c3, Ty.a3, Try.underlying26, Ty.c26, Ty.a26, getD_map hx, getD_map hp, hj0, decide_false, Bool.and_false, hdt, hsn]
         repeat (refine And.intro (by first | omega | (intros; omega) | (intros; simp_all; done) | (intros; simp_all; omega)) ?_)
         refine k _ ?_; clear k K
         refine zoBuildSlice 5 ⟨?_⟩
         refine zoAppend 6 ⟨?_⟩
         refine zoAppend 10 ⟨?_⟩
         refine zoAssign 11 ⟨?_⟩
         refine aAny_done (by kernel_rfl) ?_
         refine k36 _ ?_
         refine n17 _ ?_
         refine n16 _ _ (weak_keep [1, 8, 9, 10, 17, 18, 19] _) ?_
         refine zk ⟨?_⟩
         refine v_region ?_; intro K39 k39
         refine zBinOpW ⟨?_⟩
         refine zMove ⟨?_⟩
         refine k39 _ ?_
         refine n11 _ (i + 1) ?_ ?_ ?_
         ·refine weak_bothS [1, 8, 9, 10, 17, 18, 19] [0, 7, 3] ⟨?_⟩
          rw [hst, if_pos hr1, isort_snoc, hend, ← List.map_append, List.append_assoc]
          try rfl
         ·exact hlt
         ·show _ < _; omega
       ·intro K k
        skip
        simp only [zE, zO, zN, aStepM, optable, set_some, Nat.reduceEqDiff, reduceIte, Nat.reduceLT, implies_true, forall_const, reduceCtorEq, V.ofValue, V.ofScalar, V.un, V.gd, aExec, aop, litElems, rng0, rng1, rng2, rng3, rng4, List.map_cons, List.map_nil, List.all_cons, List.all_nil, V.isVal, V.cells, content, kindAll, V.noRef, V.noSl, List.mem_cons, List.not_mem_nil, or_false, forall_eq_or_imp, forall_eq, if_true, Option.isSome_some, List.length_cons, List.length_nil, Nat.reduceAdd, Nat.reduceLeDiff, Nat.reduceMul, Try.underlying3, Ty.c3, Ty.a3, Ty.z3, Try.underlying26, Ty.c26, Ty.a26, Ty.z26, getD_map hx, getD_map hp, hj0, hdt, hsn]
        repeat (refine And.intro (by first | omega | (intros; omega) | (intros; simp_all; done) | (intros; simp_all; omega)) ?_)
        refine k _ ?_; clear k K
        refine aAny_two 3 9 rfl rfl (by kernel_rfl) ?_ ?_
        ·intro K k
         skip
         simp only [zE, zM, aStepM, optable, set_some, Nat.reduceEqDiff, reduceIte, Nat.reduceLT, implies_true, forall_const, reduceCtorEq, V.ofValue, V.ofScalar, V.un, V.gd, aExec, lentIds, lendOf, Try.underlying3, Ty.c3, Ty.a3, Ty.b3, Ty.s3, Try.underlying26, Ty.c26, Ty.a26, Ty.b26, Ty.s26]
         repeat (refine And.intro (by first | rfl | (intros; simp_all; done)) ?_)
         refine aCall_new (hcon) (by first | rfl | (simp only [toArgs, toArg, toCell, toCells, idx, row_mk, List.getElem?_cons_zero, List.getElem?_cons_succ, Option.bind_some, Option.map_some, Blk.row, fillK_mix, flat_mix, deep_mix, thin_mix, shal_mix, cond_true, List.map_take]; done) | (simp [toArgs, toArg, toCell, toCells, idx, row_mk, Blk.row, fillK_mix, flat_mix, deep_mix, thin_mix, shal_mix, Nat.beq_refl]; done)) (by first | exact .inl ⟨rfl, by simp [Blk.kindIs, fillK_fd]⟩ | exact .inr (by simp [V.cold])) ?_
         refine k _ ?_; clear k K
         simp only [zY, zW, set_some, Nat.reduceEqDiff, reduceIte, V.ren, V.renL, rho, Nat.reduceAdd]
         refine aAny_two 6 9 rfl rfl (by kernel_rfl) ?_ ?_
         ·intro K k
          skip
          simp only [zE, zL, zO, zN, aStepM, optable, set_some, Nat.reduceEqDiff, reduceIte, Nat.reduceLT, implies_true, forall_const, reduceCtorEq, V.ofValue, V.ofScalar, V.un, V.gd, aExec, aop, fillK_thin, beq_self_eq_true, List.nodup_cons, List.mem_singleton, forall_eq', List.size_toArray, List.getD_eq_getElem?_getD, Array.getD_eq_getD_getElem?, Option.getD_some, aAppend, destOf, srcOf, takeElems, takeV, takeCell, takeCells, row_mk, Blk.row, killAll, V.isSub, V.noSl, Value.cells, Option.toList, List.forall_mem_map, List.length_map, List.all_cons, List.all_nil, List.isEmpty_nil, List.isEmpty_cons, List.not_mem_nil, List.nodup_nil, join_ff, join_ft, join_fv, join_d, join_s, fillK_join0, fillK_join, List.mem_cons, or_false, forall_eq_or_imp, forall_eq, List.set_cons_zero, List.set_cons_succ, List.length_append, Go.Vm.V.cells, Nat.reduceAdd, Nat.reduceLeDiff, Nat.reduceMul, Try.underlying3, Ty.c3, Ty.a3, Ty.z3, Ty.b3, Ty.s3, Try.underlying26, Ty.c26, Ty.a26, Ty.z26, Ty.b26, Ty.s26, getD_map hx, getD_map hp, hj0, hdt, hsn]
          repeat (refine And.intro (by first | omega | (intros; omega) | (intros; simp_all; done) | (intros; simp_all; omega)) ?_)
          refine k _ ?_; clear k K
          refine zdSlice q36 true 9 78 ?_
          refine zoAppend 10 ⟨?_⟩
          refine zoAssign 11 ⟨?_⟩
          refine aAny_done (by kernel_rfl) ?_
          refine k36 _ ?_
          refine n17 _ ?_
          refine n16 _ _ (weak_keep [1, 8, 9, 10, 17, 18, 19] _) ?_
          refine zk ⟨?_⟩
          refine v_region ?_; intro K40 k40
          refine zBinOpW ⟨?_⟩
          refine zMove ⟨?_⟩
          refine k40 _ ?_
          refine n11 _ (i + 1) ?_ ?_ ?_
          ·refine weak_bothS [1, 8, 9, 10, 17, 18, 19] [0, 7, 3] ⟨?_⟩
           rw [hst, if_pos hr1, isort_snoc, hend, ← List.map_append, List.append_assoc]
           try rfl
          ·exact hlt
          ·show _ < _; omega
         ·intro K k
          skip
          simp only [zE, zL, zN, aStepM, optable, set_some, Nat.reduceEqDiff, reduceIte, Nat.reduceLT, implies_true, forall_const, reduceCtorEq, V.ofValue, V.ofScalar, V.un, V.gd, aExec, aop, List.set_cons_zero, List.set_cons_succ, aSlice, forall_eq', bound, ElemsOK, Option.map_none, Option.isNone_none, row_mk, Blk.row, TypeDesc.slice.injEq, List.forall_mem_map, List.length_map, Go.Vm.V.cells, Int.toNat_natCast, Int.reduceToNat, ← List.map_take, ← List.map_drop, List.take_length, Nat.reduceAdd, Nat.reduceLeDiff, Nat.reduceMul, Try.underlying3, Ty.c3, Ty.a3, Try.underlying26, Ty.c26, Ty.a26, getD_map hx, getD_map hp, hj0, decide_false, Bool.and_false, hdt, hsn]
          repeat (refine And.intro (by first | omega | (intros; omega) | (intros; simp_all; done) | (intros; simp_all; omega)) ?_)
          refine k _ ?_; clear k K
          refine zoAppend 6 ⟨?_⟩
          refine zoAppend 10 ⟨?_⟩
          refine zoAssign 11 ⟨?_⟩
          refine aAny_done (by kernel_rfl) ?_
          refine k36 _ ?_
          refine n17 _ ?_
          refine n16 _ _ (weak_keep [1, 8, 9, 10, 17, 18, 19] _) ?_
          refine zk ⟨?_⟩
          refine v_region ?_; intro K41 k41
          refine zBinOpW ⟨?_⟩
          refine zMove ⟨?_⟩
          refine k41 _ ?_
          refine n11 _ (i + 1) ?_ ?_ ?_
          ·refine weak_bothS [1, 8, 9, 10, 17, 18, 19] [0, 7, 3] ⟨?_⟩
           rw [hst, if_pos hr1, isort_snoc, hend, ← List.map_append, List.append_assoc]
           try rfl
          ·exact hlt
          ·show _ < _; omega
        ·intro K k
         skip
         simp only [zE, zL, zN, aStepM, optable, set_some, Nat.reduceEqDiff, reduceIte, Nat.reduceLT, implies_true, forall_const, reduceCtorEq, V.ofValue, V.ofScalar, V.un, V.gd, aExec, aop, List.set_cons_zero, List.set_cons_succ, aSlice, forall_eq', bound, ElemsOK, Option.map_none, Option.isNone_none, row_mk, Blk.row, TypeDesc.slice.injEq, List.forall_mem_map, List.length_map, Go.Vm.V.cells, Int.toNat_natCast, Int.reduceToNat, ← List.map_take, ← List.map_drop, List.take_length, Nat.reduceAdd, Nat.reduceLeDiff, Nat.reduceMul, Try.underlying3, Ty.c3, Ty.a3, Try.underlying26, Ty.c26, Ty.a26, getD_map hx, getD_map hp, hj0, decide_false, Bool.and_false, hdt, hsn]
         repeat (refine And.intro (by first | omega | (intros; omega) | (intros; simp_all; done) | (intros; simp_all; omega)) ?_)
         refine k _ ?_; clear k K
         refine zoc 3 (hcon) ⟨?_⟩
         refine zoAppend 6 ⟨?_⟩
         refine zoAppend 10 ⟨?_⟩
         refine zoAssign 11 ⟨?_⟩
         refine aAny_done (by kernel_rfl) ?_
         refine k36 _ ?_
         refine n17 _ ?_
         refine n16 _ _ (weak_keep [1, 8, 9, 10, 17, 18, 19] _) ?_
         refine zk ⟨?_⟩
         refine v_region ?_; intro K42 k42
         refine zBinOpW ⟨?_⟩
         refine zMove ⟨?_⟩
         refine k42 _ ?_
         refine n11 _ (i + 1) ?_ ?_ ?_
         ·refine weak_bothS [1, 8, 9, 10, 17, 18, 19] [0, 7, 3] ⟨?_⟩
          rw [hst, if_pos hr1, isort_snoc, hend, ← List.map_append, List.append_assoc]
          try rfl
         ·exact hlt
         ·show _ < _; omega
       ·intro K k
        skip
        simp only [zE, zL, zN, aStepM, optable, set_some, Nat.reduceEqDiff, reduceIte, Nat.reduceLT, implies_true, forall_const, reduceCtorEq, V.ofValue, V.ofScalar, V.un, V.gd, aExec, aop, List.set_cons_zero, List.set_cons_succ, aSlice, forall_eq', bound, ElemsOK, Option.map_none, Option.isNone_none, row_mk, Blk.row, TypeDesc.slice.injEq, List.forall_mem_map, List.length_map, Go.Vm.V.cells, Int.toNat_natCast, Int.reduceToNat, ← List.map_take, ← List.map_drop, List.take_length, Nat.reduceAdd, Nat.reduceLeDiff, Nat.reduceMul, Try.underlying3, Ty.c3, Ty.a3, Try.underlying26, Ty.c26, Ty.a26, getD_map hx, getD_map hp, hj0, decide_false, Bool.and_false, hdt, hsn]
        repeat (refine And.intro (by first | omega | (intros; omega) | (intros; simp_all; done) | (intros; simp_all; omega)) ?_)
        refine k _ ?_; clear k K
        refine aAny_two 3 5 rfl rfl (by kernel_rfl) ?_ ?_
        ·intro K k
         skip
         simp only [zE, zM, aStepM, optable, set_some, Nat.reduceEqDiff, reduceIte, Nat.reduceLT, implies_true, forall_const, reduceCtorEq, V.ofValue, V.ofScalar, V.un, V.gd, aExec, lentIds, lendOf, Try.underlying3, Ty.c3, Ty.a3, Ty.b3, Ty.s3, Try.underlying26, Ty.c26, Ty.a26, Ty.b26, Ty.s26]
         repeat (refine And.intro (by first | rfl | (intros; simp_all; done)) ?_)
         refine aCall_new (hcon) (by first | rfl | (simp only [toArgs, toArg, toCell, toCells, idx, row_mk, List.getElem?_cons_zero, List.getElem?_cons_succ, Option.bind_some, Option.map_some, Blk.row, fillK_mix, flat_mix, deep_mix, thin_mix, shal_mix, cond_true, List.map_take]; done) | (simp [toArgs, toArg, toCell, toCells, idx, row_mk, Blk.row, fillK_mix, flat_mix, deep_mix, thin_mix, shal_mix, Nat.beq_refl]; done)) (by first | exact .inl ⟨rfl, by simp [Blk.kindIs, fillK_fd]⟩ | exact .inr (by simp [V.cold])) ?_
         refine k _ ?_; clear k K
         simp only [zY, zW, set_some, Nat.reduceEqDiff, reduceIte, V.ren, V.renL, rho, Nat.reduceAdd]
         refine zoBuildSlice 5 ⟨?_⟩
         refine zoAppend 6 ⟨?_⟩
         refine zoAppend 10 ⟨?_⟩
         refine zoAssign 11 ⟨?_⟩
         refine aAny_done (by kernel_rfl) ?_
         refine k36 _ ?_
         refine n17 _ ?_
         refine n16 _ _ (weak_keep [1, 8, 9, 10, 17, 18, 19] _) ?_
         refine zk ⟨?_⟩
         refine v_region ?_; intro K43 k43
         refine zBinOpW ⟨?_⟩
         refine zMove ⟨?_⟩
         refine k43 _ ?_
         refine n11 _ (i + 1) ?_ ?_ ?_
         ·refine weak_bothS [1, 8, 9, 10, 17, 18, 19] [0, 7, 3] ⟨?_⟩
          rw [hst, if_pos hr1, isort_snoc, hend, ← List.map_append, List.append_assoc]
          try rfl
         ·exact hlt
         ·show _ < _; omega
        ·intro K k
         skip
         simp only [zE, zO, zN, aStepM, optable, set_some, Nat.reduceEqDiff, reduceIte, Nat.reduceLT, implies_true, forall_const, reduceCtorEq, V.ofValue, V.ofScalar, V.un, V.gd, aExec, aop, litElems, rng0, rng1, rng2, rng3, rng4, List.map_cons, List.map_nil, List.all_cons, List.all_nil, V.isVal, V.cells, content, kindAll, V.noRef, V.noSl, List.mem_cons, List.not_mem_nil, or_false, forall_eq_or_imp, forall_eq, if_true, Option.isSome_some, List.length_cons, List.length_nil, Nat.reduceAdd, Nat.reduceLeDiff, Nat.reduceMul, Try.underlying3, Ty.c3, Ty.a3, Ty.z3, Try.underlying26, Ty.c26, Ty.a26, Ty.z26, getD_map hx, getD_map hp, hj0, hdt, hsn]
         repeat (refine And.intro (by first | omega | (intros; omega) | (intros; simp_all; done) | (intros; simp_all; omega)) ?_)
         refine k _ ?_; clear k K
         refine zoc 3 (hcon) ⟨?_⟩
         refine zoAppend 6 ⟨?_⟩
         refine zoAppend 10 ⟨?_⟩
         refine zoAssign 11 ⟨?_⟩
         refine aAny_done (by kernel_rfl) ?_
         refine k36 _ ?_
         refine n17 _ ?_
         refine n16 _ _ (weak_keep [1, 8, 9, 10, 17, 18, 19] _) ?_
         refine zk ⟨?_⟩
         refine v_region ?_; intro K44 k44
         refine zBinOpW ⟨?_⟩
         refine zMove ⟨?_⟩
         refine k44 _ ?_
         refine n11 _ (i + 1) ?_ ?_ ?_
         ·refine weak_bothS [1, 8, 9, 10, 17, 18, 19] [0, 7, 3] ⟨?_⟩
          rw [hst, if_pos hr1, isort_snoc, hend, ← List.map_append, List.append_assoc]
          try rfl
         ·exact hlt
         ·show _ < _; omega
     ·skip
      obtain ⟨m, rfl⟩ : ∃ m, j = m + 1 := ⟨j - 1, by omega⟩
      have hj0 : (0 : Int) < ((m + 1 : Nat) : Int) := by omega
      obtain ⟨b, hyp⟩ : ∃ y, (isort (byKey fl ts) (readyTo fl ts i))[m]? = some y := ⟨_, List.getElem?_eq_getElem (by omega)⟩
      have hk : (((m + 1 : Nat) : Int) - 1).toNat = m := by omega
      obtain ⟨kb, xb, hb1, hb2, hb3, _⟩ := ready_mem fl ts i b (isort_mem.1 (List.mem_of_getElem? hyp))
      have hb : ∃ (k : Nat) (x : (ByteArray × Int × Int × Int × Int)) (w : Nat), b = (k : Int) ∧ fl[k]? = some x ∧ x.2.2.1 = (w : Int) ∧ w < ts.length := by
       have hapb := hd.hap _ (List.mem_of_getElem? hb3)
       obtain ⟨v, hv⟩ := Int.eq_ofNat_of_zero_le hapb.2.1
       exact ⟨kb, xb, v, hb1, hb3, hv, by rw [htl]; omega⟩
      obtain ⟨k2, ⟨y0, y1, y2, y3, y4⟩, v, rfl, hy, hbw, hbl⟩ := hb
      simp only [] at hbw
      subst hbw
      obtain ⟨q, hq⟩ : ∃ p, ts[v]? = some p := ⟨_, List.getElem?_eq_getElem hbl⟩
      have hk2l : k2 < fl.length := (List.getElem?_eq_some_iff.1 hy).1
      have ek2 := key_is (ts := ts) hy rfl hq
      refine v_seq ?_; intro Q45 n45 e45 r45
      refine v_seq ?_; intro Q46 n46 e46 r46
      refine v_draw (by kernel_rfl) ?_; intro K47 q47 k47
      show aAny _ _ _ _ 22 (Array.replicate 22 false) _
      have F := Fc.mk (And.intro (fun f => getD_map (f := f) hx) (And.intro (fun f => getD_map (f := f) hp) (And.intro hj0 (And.intro @decide_true (And.intro @Bool.and_true (And.intro hk (And.intro (fun f => getD_map (f := f) hyp) (And.intro (fun f => getD_map (f := f) hy) (fun f => getD_map (f := f) hq)))))))))
      refine zdMove q47 true 0 45 ?_
      refine zdBinOp q47 true 1 46 ?_
      refine zdMove q47 true 2 47 ?_
      refine zdgMove q47 true 3 48 ?_
      refine zdgMove q47 true 4 49 ?_
      refine zdgMove q47 true 5 50 ?_
      refine zdgMove q47 true 6 51 ?_
      refine zdgBinOpW q47 true 7 52 ?_
      refine zdgIndexAddr q47 true 8 53 ?_
      refine zdgLoad q47 true 9 54 ?_
      refine zdgIndexAddr q47 true 10 55 ?_
      refine zdgFieldAddr q47 true 11 56 ?_
      refine zdgLoad q47 true 12 57 ?_
      refine zdgIndexAddr q47 true 13 58 ?_
      refine zdgLoad q47 true 14 59 ?_
      refine zdgMove q47 true 15 60 ?_
      refine zdgFieldAddr q47 true 16 61 ?_
      refine zdgLoad q47 true 17 62 ?_
      refine zdgIndexAddr q47 true 18 63 ?_
      refine zdgLoad q47 true 19 64 ?_
      refine zdgBinOp q47 true 20 65 ?_
      refine zdPick q47 true 21 66 ?_
      refine aAny_done (by kernel_rfl) ?_
      refine k47 _ ?_
      refine n46 _ _ (weak_keep [1, 8, 9, 10, 11, 12, 13, 17, 18, 19, 66] _) ?_
      refine zk ⟨?_⟩
      refine v_condS _ rfl ?_ ?_
      ·intro hc2
       have hlc : byKey fl ts (i : Int) (k2 : Int) = true := by rw [byKey, hki, ek2]; simpa [hj0] using hc2
       refine v_skip ?_
       refine n45 _ _ (weak_keep [1, 8, 9, 10, 11, 12, 13, 17, 18, 19] _) ?_
       refine zk ⟨?_⟩
       refine v_block ?_; intro Q49 n49 x49 e49 r49
       refine v_region ?_; intro K50 k50
       refine zMove ⟨?_⟩
       refine zBinOpW ⟨?_⟩
       refine zAssign ⟨?_⟩
       refine k50 _ ?_
       refine n49 _ ?_
       refine n31 _ m ?_ ?_ ?_
       ·refine weak_bothS [1, 8, 9, 10, 11, 12, 13, 17, 18, 19] [0, 1, 2, 3] ⟨?_⟩
        rw [show ((m + 1 : Nat) : Int) - 1 = (m : Int) by omega]
       ·exact ⟨by omega, by rw [← hR2, insPos_yes hyp hlc]⟩
       ·show m < m + 1; omega
      ·intro hc2
       first
       |(have hend : insR (byKey fl ts) (isort (byKey fl ts) (readyTo fl ts i)) (i : Int) = (isort (byKey fl ts) (readyTo fl ts i)).take j ++ (i : Int) :: (isort (byKey fl ts) (readyTo fl ts i)).drop j := insR_is (by rw [← hR2, hj00]; rfl); have htk : ((isort (byKey fl ts) (readyTo fl ts i)).take j).length = j := (by rw [List.length_take]; omega); have hcon := l1Own_con ((isort (byKey fl ts) (readyTo fl ts i)).take j) (by omega); have hdt : List.take ((isort (byKey fl ts) (readyTo fl ts i)).length - j) (List.drop j (List.map (V.int .i64) (isort (byKey fl ts) (readyTo fl ts i)))) = List.map (V.int .i64) ((isort (byKey fl ts) (readyTo fl ts i)).drop j) := (by rw [← List.map_drop, List.take_of_length_le (by simp)]); have hsn : List.map (V.int .i64) ((isort (byKey fl ts) (readyTo fl ts i)).take j) ++ [V.int .i64 (i : Int)] = List.map (V.int .i64) ((isort (byKey fl ts) (readyTo fl ts i)).take j ++ [(i : Int)]) := snocI)
       |(have hend : insR (byKey fl ts) (isort (byKey fl ts) (readyTo fl ts i)) (i : Int) = (isort (byKey fl ts) (readyTo fl ts i)).take (m + 1) ++ (i : Int) :: (isort (byKey fl ts) (readyTo fl ts i)).drop (m + 1) := insR_is (by rw [← hR2, insPos_no hyp (by rw [byKey, hki, ek2]; simpa [hj0] using hc2)]); have htk : ((isort (byKey fl ts) (readyTo fl ts i)).take (m + 1)).length = m + 1 := (by rw [List.length_take]; omega); have hcon := l1Own_con ((isort (byKey fl ts) (readyTo fl ts i)).take (m + 1)) (by omega); have hdt : List.take ((isort (byKey fl ts) (readyTo fl ts i)).length - (m + 1)) (List.drop (m + 1) (List.map (V.int .i64) (isort (byKey fl ts) (readyTo fl ts i)))) = List.map (V.int .i64) ((isort (byKey fl ts) (readyTo fl ts i)).drop (m + 1)) := (by rw [← List.map_drop, List.take_of_length_le (by simp)]); have hsn : List.map (V.int .i64) ((isort (byKey fl ts) (readyTo fl ts i)).take (m + 1)) ++ [V.int .i64 (i : Int)] = List.map (V.int .i64) ((isort (byKey fl ts) (readyTo fl ts i)).take (m + 1) ++ [(i : Int)]) := snocI)
       refine v_exit ?_
       refine e45 _ _ ?_
       refine e31 _ _ ?_
       refine x30 _ ?_
       refine n29 _ _ (weak_keep [1, 8, 9, 10, 11, 13, 17, 18, 19] _) ?_
       refine zk ⟨?_⟩
       refine v_draw (by kernel_rfl) ?_; intro K51 q51 k51
       show aAny _ _ _ _ 12 (Array.replicate 12 false) _
       have F := Fc.mk (And.intro (fun f => getD_map (f := f) hx) (And.intro (fun f => getD_map (f := f) hp) (And.intro hj0 (And.intro @decide_true (And.intro @Bool.and_true (And.intro hk (And.intro (fun f => getD_map (f := f) hyp) (And.intro (fun f => getD_map (f := f) hy) (And.intro (fun f => getD_map (f := f) hq) (And.intro hdt hsn))))))))))
       refine zdMove q51 true 0 69 ?_
       refine zdMove q51 true 1 70 ?_
       refine zdSlice q51 true 2 71 ?_
       refine zdMove q51 true 4 73 ?_
       refine zdMove q51 false 7 76 ?_
       refine zdMove q51 false 8 77 ?_
       refine aAny_three 3 5 9 rfl rfl rfl (by kernel_rfl) ?_ ?_ ?_
       ·intro K k
        skip
        simp only [zE, zM, aStepM, optable, set_some, Nat.reduceEqDiff, reduceIte, Nat.reduceLT, implies_true, forall_const, reduceCtorEq, V.ofValue, V.ofScalar, V.un, V.gd, aExec, lentIds, lendOf, Try.underlying3, Ty.c3, Ty.a3, Ty.b3, Ty.s3, Try.underlying26, Ty.c26, Ty.a26, Ty.b26, Ty.s26]
        repeat (refine And.intro (by first | rfl | (intros; simp_all; done)) ?_)
        refine aCall_new (hcon) (by first | rfl | (simp only [toArgs, toArg, toCell, toCells, idx, row_mk, List.getElem?_cons_zero, List.getElem?_cons_succ, Option.bind_some, Option.map_some, Blk.row, fillK_mix, flat_mix, deep_mix, thin_mix, shal_mix, cond_true, List.map_take]; done) | (simp [toArgs, toArg, toCell, toCells, idx, row_mk, Blk.row, fillK_mix, flat_mix, deep_mix, thin_mix, shal_mix, Nat.beq_refl]; done)) (by first | exact .inl ⟨rfl, by simp [Blk.kindIs, fillK_fd]⟩ | exact .inr (by simp [V.cold])) ?_
        refine k _ ?_; clear k K
        simp only [zY, zW, set_some, Nat.reduceEqDiff, reduceIte, V.ren, V.renL, rho, Nat.reduceAdd]
        refine aAny_two 5 9 rfl rfl (by kernel_rfl) ?_ ?_
        ·intro K k
         skip
         simp only [zE, zO, zN, aStepM, optable, set_some, Nat.reduceEqDiff, reduceIte, Nat.reduceLT, implies_true, forall_const, reduceCtorEq, V.ofValue, V.ofScalar, V.un, V.gd, aExec, aop, litElems, rng0, rng1, rng2, rng3, rng4, List.map_cons, List.map_nil, List.all_cons, List.all_nil, V.isVal, V.cells, content, kindAll, V.noRef, V.noSl, List.mem_cons, List.not_mem_nil, or_false, forall_eq_or_imp, forall_eq, if_true, Option.isSome_some, List.length_cons, List.length_nil, Nat.reduceAdd, Nat.reduceLeDiff, Nat.reduceMul, Try.underlying3, Ty.c3, Ty.a3, Ty.z3, Try.underlying26, Ty.c26, Ty.a26, Ty.z26, getD_map hx, getD_map hp, hj0, hk, getD_map hyp, getD_map hy, getD_map hq, hdt, hsn]
         repeat (refine And.intro (by first | omega | (intros; omega) | (intros; simp_all; done) | (intros; simp_all; omega)) ?_)
         refine k _ ?_; clear k K
         refine aAny_two 6 9 rfl rfl (by kernel_rfl) ?_ ?_
         ·intro K k
          skip
          simp only [zE, zL, zO, zN, aStepM, optable, set_some, Nat.reduceEqDiff, reduceIte, Nat.reduceLT, implies_true, forall_const, reduceCtorEq, V.ofValue, V.ofScalar, V.un, V.gd, aExec, aop, fillK_thin, beq_self_eq_true, List.nodup_cons, List.mem_singleton, forall_eq', List.size_toArray, List.getD_eq_getElem?_getD, Array.getD_eq_getD_getElem?, Option.getD_some, aAppend, destOf, srcOf, takeElems, takeV, takeCell, takeCells, row_mk, Blk.row, killAll, V.isSub, V.noSl, Value.cells, Option.toList, List.forall_mem_map, List.length_map, List.all_cons, List.all_nil, List.isEmpty_nil, List.isEmpty_cons, List.not_mem_nil, List.nodup_nil, join_ff, join_ft, join_fv, join_d, join_s, fillK_join0, fillK_join, List.mem_cons, or_false, forall_eq_or_imp, forall_eq, List.set_cons_zero, List.set_cons_succ, List.length_append, Go.Vm.V.cells, Nat.reduceAdd, Nat.reduceLeDiff, Nat.reduceMul, Try.underlying3, Ty.c3, Ty.a3, Ty.z3, Ty.b3, Ty.s3, Try.underlying26, Ty.c26, Ty.a26, Ty.z26, Ty.b26, Ty.s26, getD_map hx, getD_map hp, hj0, hk, getD_map hyp, getD_map hy, getD_map hq, hdt, hsn]
          repeat (refine And.intro (by first | omega | (intros; omega) | (intros; simp_all; done) | (intros; simp_all; omega)) ?_)
          refine k _ ?_; clear k K
          refine zdSlice q51 true 9 78 ?_
          refine zoAppend 10 ⟨?_⟩
          refine zoAssign 11 ⟨?_⟩
          refine aAny_done (by kernel_rfl) ?_
          refine k51 _ ?_
          refine n17 _ ?_
          refine n16 _ _ (weak_keep [1, 8, 9, 10, 17, 18, 19] _) ?_
          refine zk ⟨?_⟩
          refine v_region ?_; intro K52 k52
          refine zBinOpW ⟨?_⟩
          refine zMove ⟨?_⟩
          refine k52 _ ?_
          refine n11 _ (i + 1) ?_ ?_ ?_
          ·refine weak_bothS [1, 8, 9, 10, 17, 18, 19] [0, 7, 3] ⟨?_⟩
           rw [hst, if_pos hr1, isort_snoc, hend, ← List.map_append, List.append_assoc]
           try rfl
          ·exact hlt
          ·show _ < _; omega
         ·intro K k
          skip
          simp only [zE, zL, zN, aStepM, optable, set_some, Nat.reduceEqDiff, reduceIte, Nat.reduceLT, implies_true, forall_const, reduceCtorEq, V.ofValue, V.ofScalar, V.un, V.gd, aExec, aop, List.set_cons_zero, List.set_cons_succ, aSlice, forall_eq', bound, ElemsOK, Option.map_none, Option.isNone_none, row_mk, Blk.row, TypeDesc.slice.injEq, List.forall_mem_map, List.length_map, Go.Vm.V.cells, Int.toNat_natCast, Int.reduceToNat, ← List.map_take, ← List.map_drop, List.take_length, Nat.reduceAdd, Nat.reduceLeDiff, Nat.reduceMul, Try.underlying3, Ty.c3, Ty.a3, Try.underlying26, Ty.c26, Ty.a26, getD_map hx, getD_map hp, hj0, decide_true, Bool.and_true, hk, getD_map hyp, getD_map hy, getD_map hq, hdt, hsn]
          repeat (refine And.intro (by first | omega | (intros; omega) | (intros; simp_all; done) | (intros; simp_all; omega)) ?_)
          refine k _ ?_; clear k K
          refine zoAppend 6 ⟨?_⟩
          refine zoAppend 10 ⟨?_⟩
          refine zoAssign 11 ⟨?_⟩
          refine aAny_done (by kernel_rfl) ?_
          refine k51 _ ?_
          refine n17 _ ?_
          refine n16 _ _ (weak_keep [1, 8, 9, 10, 17, 18, 19] _) ?_
          refine zk ⟨?_⟩
          refine v_region ?_; intro K53 k53
          refine zBinOpW ⟨?_⟩
          refine zMove ⟨?_⟩
          refine k53 _ ?_
          refine n11 _ (i + 1) ?_ ?_ ?_
          ·refine weak_bothS [1, 8, 9, 10, 17, 18, 19] [0, 7, 3] ⟨?_⟩
           rw [hst, if_pos hr1, isort_snoc, hend, ← List.map_append, List.append_assoc]
           try rfl
          ·exact hlt
          ·show _ < _; omega
        ·intro K k
         skip
         simp only [zE, zL, zN, aStepM, optable, set_some, Nat.reduceEqDiff, reduceIte, Nat.reduceLT, implies_true, forall_const, reduceCtorEq, V.ofValue, V.ofScalar, V.un, V.gd, aExec, aop, List.set_cons_zero, List.set_cons_succ, aSlice, forall_eq', bound, ElemsOK, Option.map_none, Option.isNone_none, row_mk, Blk.row, TypeDesc.slice.injEq, List.forall_mem_map, List.length_map, Go.Vm.V.cells, Int.toNat_natCast, Int.reduceToNat, ← List.map_take, ← List.map_drop, List.take_length, Nat.reduceAdd, Nat.reduceLeDiff, Nat.reduceMul, Try.underlying3, Ty.c3, Ty.a3, Try.underlying26, Ty.c26, Ty.a26, getD_map hx, getD_map hp, hj0, decide_true, Bool.and_true, hk, getD_map hyp, getD_map hy, getD_map hq, hdt, hsn]
         repeat (refine And.intro (by first | omega | (intros; omega) | (intros; simp_all; done) | (intros; simp_all; omega)) ?_)
         refine k _ ?_; clear k K
         refine zoBuildSlice 5 ⟨?_⟩
         refine zoAppend 6 ⟨?_⟩
         refine zoAppend 10 ⟨?_⟩
         refine zoAssign 11 ⟨?_⟩
         refine aAny_done (by kernel_rfl) ?_
         refine k51 _ ?_
         refine n17 _ ?_
         refine n16 _ _ (weak_keep [1, 8, 9, 10, 17, 18, 19] _) ?_
         refine zk ⟨?_⟩
         refine v_region ?_; intro K54 k54
         refine zBinOpW ⟨?_⟩
         refine zMove ⟨?_⟩
         refine k54 _ ?_
         refine n11 _ (i + 1) ?_ ?_ ?_
         ·refine weak_bothS [1, 8, 9, 10, 17, 18, 19] [0, 7, 3] ⟨?_⟩
          rw [hst, if_pos hr1, isort_snoc, hend, ← List.map_append, List.append_assoc]
          try rfl
         ·exact hlt
         ·show _ < _; omega
       ·intro K k
        skip
        simp only [zE, zO, zN, aStepM, optable, set_some, Nat.reduceEqDiff, reduceIte, Nat.reduceLT, implies_true, forall_const, reduceCtorEq, V.ofValue, V.ofScalar, V.un, V.gd, aExec, aop, litElems, rng0, rng1, rng2, rng3, rng4, List.map_cons, List.map_nil, List.all_cons, List.all_nil, V.isVal, V.cells, content, kindAll, V.noRef, V.noSl, List.mem_cons, List.not_mem_nil, or_false, forall_eq_or_imp, forall_eq, if_true, Option.isSome_some, List.length_cons, List.length_nil, Nat.reduceAdd, Nat.reduceLeDiff, Nat.reduceMul, Try.underlying3, Ty.c3, Ty.a3, Ty.z3, Try.underlying26, Ty.c26, Ty.a26, Ty.z26, getD_map hx, getD_map hp, hj0, hk, getD_map hyp, getD_map hy, getD_map hq, hdt, hsn]
        repeat (refine And.intro (by first | omega | (intros; omega) | (intros; simp_all; done) | (intros; simp_all; omega)) ?_)
        refine k _ ?_; clear k K
        refine aAny_two 3 9 rfl rfl (by kernel_rfl) ?_ ?_
        ·intro K k
         skip
         simp only [zE, zM, aStepM, optable, set_some, Nat.reduceEqDiff, reduceIte, Nat.reduceLT, implies_true, forall_const, reduceCtorEq, V.ofValue, V.ofScalar, V.un, V.gd, aExec, lentIds, lendOf, Try.underlying3, Ty.c3, Ty.a3, Ty.b3, Ty.s3, Try.underlying26, Ty.c26, Ty.a26, Ty.b26, Ty.s26]
         repeat (refine And.intro (by first | rfl | (intros; simp_all; done)) ?_)
         refine aCall_new (hcon) (by first | rfl | (simp only [toArgs, toArg, toCell, toCells, idx, row_mk, List.getElem?_cons_zero, List.getElem?_cons_succ, Option.bind_some, Option.map_some, Blk.row, fillK_mix, flat_mix, deep_mix, thin_mix, shal_mix, cond_true, List.map_take]; done) | (simp [toArgs, toArg, toCell, toCells, idx, row_mk, Blk.row, fillK_mix, flat_mix, deep_mix, thin_mix, shal_mix, Nat.beq_refl]; done)) (by first | exact .inl ⟨rfl, by simp [Blk.kindIs, fillK_fd]⟩ | exact .inr (by simp [V.cold])) ?_
         refine k _ ?_; clear k K
         simp only [zY, zW, set_some, Nat.reduceEqDiff, reduceIte, V.ren, V.renL, rho, Nat.reduceAdd]
         refine aAny_two 6 9 rfl rfl (by kernel_rfl) ?_ ?_
         ·intro K k
          skip
          simp only [zE, zL, zO, zN, aStepM, optable, set_some, Nat.reduceEqDiff, reduceIte, Nat.reduceLT, implies_true, forall_const, reduceCtorEq, V.ofValue, V.ofScalar, V.un, V.gd, aExec, aop, fillK_thin, beq_self_eq_true, List.nodup_cons, List.mem_singleton, forall_eq', List.size_toArray, List.getD_eq_getElem?_getD, Array.getD_eq_getD_getElem?, Option.getD_some, aAppend, destOf, srcOf, takeElems, takeV, takeCell, takeCells, row_mk, Blk.row, killAll, V.isSub, V.noSl, Value.cells, Option.toList, List.forall_mem_map, List.length_map, List.all_cons, List.all_nil, List.isEmpty_nil, List.isEmpty_cons, List.not_mem_nil, List.nodup_nil, join_ff, join_ft, join_fv, join_d, join_s, fillK_join0, fillK_join, List.mem_cons, or_false, forall_eq_or_imp, forall_eq, List.set_cons_zero, List.set_cons_succ, List.length_append, Go.Vm.V.cells, Nat.reduceAdd, Nat.reduceLeDiff, Nat.reduceMul, Try.underlying3, Ty.c3, Ty.a3, Ty.z3, Ty.b3, Ty.s3, Try.underlying26, Ty.c26, Ty.a26, Ty.z26, Ty.b26, Ty.s26, getD_map hx, getD_map hp, hj0, hk, getD_map hyp, getD_map hy, getD_map hq, hdt, hsn]
          repeat (refine And.intro (by first | omega | (intros; omega) | (intros; simp_all; done) | (intros; simp_all; omega)) ?_)
          refine k _ ?_; clear k K
          refine zdSlice q51 true 9 78 ?_
          refine zoAppend 10 ⟨?_⟩
          refine zoAssign 11 ⟨?_⟩
          refine aAny_done (by kernel_rfl) ?_
          refine k51 _ ?_
          refine n17 _ ?_
          refine n16 _ _ (weak_keep [1, 8, 9, 10, 17, 18, 19] _) ?_
          refine zk ⟨?_⟩
          refine v_region ?_; intro K55 k55
          refine zBinOpW ⟨?_⟩
          refine zMove ⟨?_⟩
          refine k55 _ ?_
          refine n11 _ (i + 1) ?_ ?_ ?_
          ·refine weak_bothS [1, 8, 9, 10, 17, 18, 19] [0, 7, 3] ⟨?_⟩
           rw [hst, if_pos hr1, isort_snoc, hend, ← List.map_append, List.append_assoc]
           try rfl
          ·exact hlt
          ·show _ < _; omega
         ·intro K k
          skip
          simp only [zE, zL, zN, aStepM, optable, set_some, Nat.reduceEqDiff, reduceIte, Nat.reduceLT, implies_true, forall_const, reduceCtorEq, V.ofValue, V.ofScalar, V.un, V.gd, aExec, aop, List.set_cons_zero, List.set_cons_succ, aSlice, forall_eq', bound, ElemsOK, Option.map_none, Option.isNone_none, row_mk, Blk.row, TypeDesc.slice.injEq, List.forall_mem_map, List.length_map, Go.Vm.V.cells, Int.toNat_natCast, Int.reduceToNat, ← List.map_take, ← List.map_drop, List.take_length, Nat.reduceAdd, Nat.reduceLeDiff, Nat.reduceMul, Try.underlying3, Ty.c3, Ty.a3, Try.underlying26, Ty.c26, Ty.a26, getD_map hx, getD_map hp, hj0, decide_true, Bool.and_true, hk, getD_map hyp, getD_map hy, getD_map hq, hdt, hsn]
          repeat (refine And.intro (by first | omega | (intros; omega) | (intros; simp_all; done) | (intros; simp_all; omega)) ?_)
          refine k _ ?_; clear k K
          refine zoAppend 6 ⟨?_⟩
          refine zoAppend 10 ⟨?_⟩
          refine zoAssign 11 ⟨?_⟩
          refine aAny_done (by kernel_rfl) ?_
          refine k51 _ ?_
          refine n17 _ ?_
          refine n16 _ _ (weak_keep [1, 8, 9, 10, 17, 18, 19] _) ?_
          refine zk ⟨?_⟩
          refine v_region ?_; intro K56 k56
          refine zBinOpW ⟨?_⟩
          refine zMove ⟨?_⟩
          refine k56 _ ?_
          refine n11 _ (i + 1) ?_ ?_ ?_
          ·refine weak_bothS [1, 8, 9, 10, 17, 18, 19] [0, 7, 3] ⟨?_⟩
           rw [hst, if_pos hr1, isort_snoc, hend, ← List.map_append, List.append_assoc]
           try rfl
          ·exact hlt
          ·show _ < _; omega
        ·intro K k
         skip
         simp only [zE, zL, zN, aStepM, optable, set_some, Nat.reduceEqDiff, reduceIte, Nat.reduceLT, implies_true, forall_const, reduceCtorEq, V.ofValue, V.ofScalar, V.un, V.gd, aExec, aop, List.set_cons_zero, List.set_cons_succ, aSlice, forall_eq', bound, ElemsOK, Option.map_none, Option.isNone_none, row_mk, Blk.row, TypeDesc.slice.injEq, List.forall_mem_map, List.length_map, Go.Vm.V.cells, Int.toNat_natCast, Int.reduceToNat, ← List.map_take, ← List.map_drop, List.take_length, Nat.reduceAdd, Nat.reduceLeDiff, Nat.reduceMul, Try.underlying3, Ty.c3, Ty.a3, Try.underlying26, Ty.c26, Ty.a26, getD_map hx, getD_map hp, hj0, decide_true, Bool.and_true, hk, getD_map hyp, getD_map hy, getD_map hq, hdt, hsn]
         repeat (refine And.intro (by first | omega | (intros; omega) | (intros; simp_all; done) | (intros; simp_all; omega)) ?_)
         refine k _ ?_; clear k K
         refine zoc 3 (hcon) ⟨?_⟩
         refine zoAppend 6 ⟨?_⟩
         refine zoAppend 10 ⟨?_⟩
         refine zoAssign 11 ⟨?_⟩
         refine aAny_done (by kernel_rfl) ?_
         refine k51 _ ?_
         refine n17 _ ?_
         refine n16 _ _ (weak_keep [1, 8, 9, 10, 17, 18, 19] _) ?_
         refine zk ⟨?_⟩
         refine v_region ?_; intro K57 k57
         refine zBinOpW ⟨?_⟩
         refine zMove ⟨?_⟩
         refine k57 _ ?_
         refine n11 _ (i + 1) ?_ ?_ ?_
         ·refine weak_bothS [1, 8, 9, 10, 17, 18, 19] [0, 7, 3] ⟨?_⟩
          rw [hst, if_pos hr1, isort_snoc, hend, ← List.map_append, List.append_assoc]
          try rfl
         ·exact hlt
         ·show _ < _; omega
       ·intro K k
        skip
        simp only [zE, zL, zN, aStepM, optable, set_some, Nat.reduceEqDiff, reduceIte, Nat.reduceLT, implies_true, forall_const, reduceCtorEq, V.ofValue, V.ofScalar, V.un, V.gd, aExec, aop, List.set_cons_zero, List.set_cons_succ, aSlice, forall_eq', bound, ElemsOK, Option.map_none, Option.isNone_none, row_mk, Blk.row, TypeDesc.slice.injEq, List.forall_mem_map, List.length_map, Go.Vm.V.cells, Int.toNat_natCast, Int.reduceToNat, ← List.map_take, ← List.map_drop, List.take_length, Nat.reduceAdd, Nat.reduceLeDiff, Nat.reduceMul, Try.underlying3, Ty.c3, Ty.a3, Try.underlying26, Ty.c26, Ty.a26, getD_map hx, getD_map hp, hj0, decide_true, Bool.and_true, hk, getD_map hyp, getD_map hy, getD_map hq, hdt, hsn]
        repeat (refine And.intro (by first | omega | (intros; omega) | (intros; simp_all; done) | (intros; simp_all; omega)) ?_)
        refine k _ ?_; clear k K
        refine aAny_two 3 5 rfl rfl (by kernel_rfl) ?_ ?_
        ·intro K k
         skip
         simp only [zE, zM, aStepM, optable, set_some, Nat.reduceEqDiff, reduceIte, Nat.reduceLT, implies_true, forall_const, reduceCtorEq, V.ofValue, V.ofScalar, V.un, V.gd, aExec, lentIds, lendOf, Try.underlying3, Ty.c3, Ty.a3, Ty.b3, Ty.s3, Try.underlying26, Ty.c26, Ty.a26, Ty.b26, Ty.s26]
         repeat (refine And.intro (by first | rfl | (intros; simp_all; done)) ?_)
         refine aCall_new (hcon) (by first | rfl | (simp only [toArgs, toArg, toCell, toCells, idx, row_mk, List.getElem?_cons_zero, List.getElem?_cons_succ, Option.bind_some, Option.map_some, Blk.row, fillK_mix, flat_mix, deep_mix, thin_mix, shal_mix, cond_true, List.map_take]; done) | (simp [toArgs, toArg, toCell, toCells, idx, row_mk, Blk.row, fillK_mix, flat_mix, deep_mix, thin_mix, shal_mix, Nat.beq_refl]; done)) (by first | exact .inl ⟨rfl, by simp [Blk.kindIs, fillK_fd]⟩ | exact .inr (by simp [V.cold])) ?_
         refine k _ ?_; clear k K
         simp only [zY, zW, set_some, Nat.reduceEqDiff, reduceIte, V.ren, V.renL, rho, Nat.reduceAdd]
         refine zoBuildSlice 5 ⟨?_⟩
         refine zoAppend 6 ⟨?_⟩
         refine zoAppend 10 ⟨?_⟩
         refine zoAssign 11 ⟨?_⟩
         refine aAny_done (by kernel_rfl) ?_
         refine k51 _ ?_
         refine n17 _ ?_
         refine n16 _ _ (weak_keep [1, 8, 9, 10, 17, 18, 19] _) ?_
         refine zk ⟨?_⟩
         refine v_region ?_; intro K58 k58
         refine zBinOpW ⟨?_⟩
         refine zMove ⟨?_⟩
         refine k58 _ ?_
         refine n11 _ (i + 1) ?_ ?_ ?_
         ·refine weak_bothS [1, 8, 9, 10, 17, 18, 19] [0, 7, 3] ⟨?_⟩
          rw [hst, if_pos hr1, isort_snoc, hend, ← List.map_append, List.append_assoc]
          try rfl
         ·exact hlt
         ·show _ < _; omega
        ·intro K k
         skip
         simp only [zE, zO, zN, aStepM, optable, set_some, Nat.reduceEqDiff, reduceIte, Nat.reduceLT, implies_true, forall_const, reduceCtorEq, V.ofValue, V.ofScalar, V.un, V.gd, aExec, aop, litElems, rng0, rng1, rng2, rng3, rng4, List.map_cons, List.map_nil, List.all_cons, List.all_nil, V.isVal, V.cells, content, kindAll, V.noRef, V.noSl, List.mem_cons, List.not_mem_nil, or_false, forall_eq_or_imp, forall_eq, if_true, Option.isSome_some, List.length_cons, List.length_nil, Nat.reduceAdd, Nat.reduceLeDiff, Nat.reduceMul, Try.underlying3, Ty.c3, Ty.a3, Ty.z3, Try.underlying26, Ty.c26, Ty.a26, Ty.z26, getD_map hx, getD_map hp, hj0, hk, getD_map hyp, getD_map hy, getD_map hq, hdt, hsn]
         repeat (refine And.intro (by first | omega | (intros; omega) | (intros; simp_all; done) | (intros; simp_all; omega)) ?_)
         refine k _ ?_; clear k K
         refine zoc 3 (hcon) ⟨?_⟩
         refine zoAppend 6 ⟨?_⟩
         refine zoAppend 10 ⟨?_⟩
         refine zoAssign 11 ⟨?_⟩
         refine aAny_done (by kernel_rfl) ?_
         refine k51 _ ?_
         refine n17 _ ?_
         refine n16 _ _ (weak_keep [1, 8, 9, 10, 17, 18, 19] _) ?_
         refine zk ⟨?_⟩
         refine v_region ?_; intro K59 k59
         refine zBinOpW ⟨?_⟩
         refine zMove ⟨?_⟩
         refine k59 _ ?_
         refine n11 _ (i + 1) ?_ ?_ ?_
         ·refine weak_bothS [1, 8, 9, 10, 17, 18, 19] [0, 7, 3] ⟨?_⟩
          rw [hst, if_pos hr1, isort_snoc, hend, ← List.map_append, List.append_assoc]
          try rfl
         ·exact hlt
         ·show _ < _; omega
  ·intro hc0
   have hend : i = fl.length := by omega
   subst hend
   refine v_exit ?_
   refine e14 _ _ ?_
   refine e11 _ _ ?_
   refine x10 _ ?_
   refine n7 _ _ (weak_keep [9, 10] _) ?_
   refine zk ⟨?_⟩
   refine v_seq ?_; intro Q60 n60 e60 r60
   refine v_region ?_; intro K61 k61
   refine zMove ⟨?_⟩
   refine zMove ⟨?_⟩
   refine zAssign ⟨?_⟩
   refine zAssign ⟨?_⟩
   refine k61 _ ?_
   refine n60 _ _ (weak_keep [6, 7] _) ?_
   refine zk ⟨?_⟩
   refine v_ret ?_
   refine r0 _ ?_
   refine zf ⟨?_⟩
   exact ret_gen [1, 2] rfl rfl (by decide) rfl (by simp [readyL]) (by simp [Blk.kindIs]) rfl
end Go.Proofs.Ytdgenniiidgimaa
