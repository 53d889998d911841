/- What functions compute. No condition. -/
import Derived.Test.YtldnelkcmffiaaaUty
import Derived.Test.YtldnelkcmffiaaaUmG
import Derived.Test.YtldnelkcmffiaaaX7
import Derived.Test.YtldnelkcmffiaaaX3
import Derived.Test.YtldnelkcmffiaaaX5
import Derived.Test.YtldnelkcmffiaaaX6
set_option linter.unusedSimpArgs false
set_option linter.unusedVariables false
set_option linter.defProp false
namespace Go.Proofs.Ytldnelkcmffiaaa
open Go Go.Vm

set_option maxRecDepth 8000 in
set_option maxHeartbeats 1000000 in
theorem l1Put_con (l : List Int) (n : Int) (hl : l.length ≤ 1048576) (hn : n ∉ l) : Con Try.prog 43 [.sl (l.map (V.int .i64)), .int .i64 n] [] (.ref 0) [.arr ((putL l n).map (V.int .i64)) .flat] := by
 refine v_con [.tmp 4] [] Try.func43 rfl rfl rfl (by simp [Try.ntmps43]) ?_
 intro Q0 n0 r0
 simp only [Try.ntmps43, envFrom, Nat.reduceAdd]
 have T := Tys.mk (And.intro Ty.t3 Ty.t41)
 have F := Fc.mk True.intro
 refine v_seqR [0,1] ?_; intro K1 k1
 refine zAssign ⟨?_⟩
 refine k1 _ ?_
 refine zk ⟨?_⟩
 refine v_seqR [0,1,5] ?_; intro K2 k2
 refine zAssign ⟨?_⟩
 refine k2 _ ?_
 refine zk ⟨?_⟩
 refine v_seq ?_; intro Q3 n3 e3 r3
 refine v_block ?_; intro Q4 n4 x4 e4 r4
 refine v_loop (fun k => ⟨[(0, .sl (l.map (V.int .i64))), (1, .int .i64 n), (5, .int .i64 (Nat.cast k))], [], false, 48, 0⟩) (fun k => k ≤ l.length ∧ putPos l n k = putPos l n 0) (fun k => l.length - k) 0 ?_ ?_ ?_
 ·refine weak_bothS [0, 1, 5] [] ⟨?_⟩
  rfl
 ·exact ⟨Nat.zero_le _, rfl⟩
 ·rintro k hok5 Q5 n5 e5 r5
  obtain ⟨hk1, hR⟩ := hok5
  rcases Nat.lt_or_ge k l.length with hkl | hkl
  ·skip
   obtain ⟨y, hy⟩ : ∃ y, l[k]? = some y := ⟨_, List.getElem?_eq_getElem hkl⟩
   have hk0 : (k : Int) < (l.length : Int) := by omega
   have hns : ((l.take k).map (V.int .i64)).all V.noSl = true := by rw [List.all_map, List.all_eq_true]; intro a _; rfl
   have hns2 : ((l.drop k).map (V.int .i64)).all V.noSl = true := by rw [List.all_map, List.all_eq_true]; intro a _; rfl
   have htk : (l.take k).length = k := by rw [List.length_take]; omega
   have hdk : (l.drop k).length = l.length - k := List.length_drop
   have hsn : (l.take k).map (V.int .i64) ++ [V.int .i64 n] = (l.take k ++ [n]).map (V.int .i64) := by rw [List.map_append]; rfl
   have hk1 : (l.take k ++ [n]).length = k + 1 := by rw [List.length_append, htk]; rfl
   refine v_seq ?_; intro Q6 n6 e6 r6
   refine v_seqR [0,1,5,18] ?_; intro K7 k7
   have F := Fc.mk (And.intro hk0 (And.intro @decide_true (And.intro @Bool.and_true (And.intro (fun f => getD_map (f := f) hy) (And.intro hns (And.intro hns2 (And.intro htk (And.intro hdk (And.intro hsn hk1)))))))))
   refine zMove ⟨?_⟩
   refine zMove ⟨?_⟩
   refine zLen ⟨?_⟩
   refine zBinOp ⟨?_⟩
   refine zMove ⟨?_⟩
   refine zgMove ⟨?_⟩
   refine zgMove ⟨?_⟩
   refine zgIndexAddr ⟨?_⟩
   refine zgLoad ⟨?_⟩
   refine zgMove ⟨?_⟩
   refine zgBinOp ⟨?_⟩
   refine zPick ⟨?_⟩
   refine k7 _ ?_
   refine zk ⟨?_⟩
   refine v_condS _ rfl ?_ ?_
   ·intro hc0
    have hyn : y < n := by simpa using hc0
    refine v_skip ?_
    refine n6 _ _ (weak_keep [0, 1, 5] _) ?_
    refine zk ⟨?_⟩
    refine v_block ?_; intro Q9 n9 x9 e9 r9
    refine v_region ?_; intro K10 k10
    refine zMove ⟨?_⟩
    refine zBinOpW ⟨?_⟩
    refine zAssign ⟨?_⟩
    refine k10 _ ?_
    refine n9 _ ?_
    refine n5 _ (k + 1) ?_ ?_ ?_
    ·refine weak_bothS [0, 1, 5] [] ⟨?_⟩
     rfl
    ·exact ⟨by omega, by rw [← hR, ← putPos_step hy hyn]⟩
    ·show _ < _; omega
   ·intro hc0
    have hpk : putPos l n k = k := by
     first
     |exact putPos_end hkl
     |exact putPos_stop hy (by simpa using hc0)
    refine v_exit ?_
    refine e6 _ _ ?_
    refine e5 _ _ ?_
    refine x4 _ ?_
    refine n3 _ _ (weak_keep [0, 1, 5] _) ?_
    refine zk ⟨?_⟩
    refine v_seq ?_; intro Q11 n11 e11 r11
    refine v_seqR [0,1,5,32] ?_; intro K12 k12
    refine zMove ⟨?_⟩
    refine zMove ⟨?_⟩
    refine zLen ⟨?_⟩
    refine zBinOp ⟨?_⟩
    refine zMove ⟨?_⟩
    refine zgMove ⟨?_⟩
    refine zgMove ⟨?_⟩
    refine zgIndexAddr ⟨?_⟩
    refine zgLoad ⟨?_⟩
    refine zgMove ⟨?_⟩
    refine zgBinOp ⟨?_⟩
    refine zPick ⟨?_⟩
    refine k12 _ ?_
    refine zk ⟨?_⟩
    refine v_cond _ rfl ?_ ?_
    ·intro hc1
     exfalso; first
     |(simp at hc1; done)
     |(simp at hc1; exact hn (hc1 ▸ List.mem_of_getElem? hy))
    ·intro hc1
     try simp only [zC, reduceCtorEq] at hc1
     refine v_skip ?_
     refine n11 _ _ (weak_keep [0, 1, 5] _) ?_
     refine zk ⟨?_⟩
     refine v_seqR [0,1,5,6] ?_; intro K14 k14
     refine zBuildSlice ⟨?_⟩
     refine zMove ⟨?_⟩
     refine zMove ⟨?_⟩
     refine zSlice ⟨?_⟩
     refine zAppend ⟨?_⟩
     refine zAssign ⟨?_⟩
     refine k14 _ ?_
     refine zk ⟨?_⟩
     refine v_seqR [0,5,6] ?_; intro K15 k15
     refine zMove ⟨?_⟩
     refine zMove ⟨?_⟩
     refine zBuildSlice ⟨?_⟩
     refine zAppend ⟨?_⟩
     refine zAssign ⟨?_⟩
     refine k15 _ ?_
     refine zk ⟨?_⟩
     refine v_seqR [4] ?_; intro K16 k16
     refine zMove ⟨?_⟩
     refine zMove ⟨?_⟩
     refine zMove ⟨?_⟩
     refine zSlice ⟨?_⟩
     refine zAppend ⟨?_⟩
     refine zAssign ⟨?_⟩
     refine k16 _ ?_
     refine zk ⟨?_⟩
     refine v_ret ?_
     refine r0 _ ?_
     refine zf ⟨?_⟩
     have hne : ¬ l[putPos l n 0]? = some n := fun h => hn (List.mem_of_getElem? h)
     have hpl : putL l n = l.take k ++ n :: l.drop k := by rw [putL, if_neg hne, ← hR, hpk]
     rw [hpl]
     exact ret_refK rfl rfl (by simp)
  ·skip
   have hk0 : ¬ ((k : Int) < (l.length : Int)) := by omega
   have hns : ((l.take k).map (V.int .i64)).all V.noSl = true := by rw [List.all_map, List.all_eq_true]; intro a _; rfl
   have hns2 : ((l.drop k).map (V.int .i64)).all V.noSl = true := by rw [List.all_map, List.all_eq_true]; intro a _; rfl
   have htk : (l.take k).length = k := by rw [List.length_take]; omega
   have hdk : (l.drop k).length = l.length - k := List.length_drop
   have hsn : (l.take k).map (V.int .i64) ++ [V.int .i64 n] = (l.take k ++ [n]).map (V.int .i64) := by rw [List.map_append]; rfl
   have hk1 : (l.take k ++ [n]).length = k + 1 := by rw [List.length_append, htk]; rfl
   refine v_seq ?_; intro Q17 n17 e17 r17
   refine v_seqR [0,1,5,18] ?_; intro K18 k18
   have F := Fc.mk (And.intro hk0 (And.intro @decide_false (And.intro @Bool.and_false (And.intro hns (And.intro hns2 (And.intro htk (And.intro hdk (And.intro hsn hk1))))))))
   refine zMove ⟨?_⟩
   refine zMove ⟨?_⟩
   refine zLen ⟨?_⟩
   refine zBinOp ⟨?_⟩
   refine zMove ⟨?_⟩
   refine zgMove ⟨?_⟩
   refine zgMove ⟨?_⟩
   refine zgIndexAddr ⟨?_⟩
   refine zgLoad ⟨?_⟩
   refine zgMove ⟨?_⟩
   refine zgBinOp ⟨?_⟩
   refine zPick ⟨?_⟩
   refine k18 _ ?_
   refine zk ⟨?_⟩
   refine v_cond _ rfl ?_ ?_
   ·intro hc0
    exfalso; simp at hc0
   ·intro hc0
    try simp only [zC, reduceCtorEq] at hc0
    have hpk : putPos l n k = k := by
     first
     |exact putPos_end hkl
     |exact putPos_stop hy (by simpa using hc0)
    refine v_exit ?_
    refine e17 _ _ ?_
    refine e5 _ _ ?_
    refine x4 _ ?_
    refine n3 _ _ (weak_keep [0, 1, 5] _) ?_
    refine zk ⟨?_⟩
    refine v_seq ?_; intro Q20 n20 e20 r20
    refine v_seqR [0,1,5,32] ?_; intro K21 k21
    refine zMove ⟨?_⟩
    refine zMove ⟨?_⟩
    refine zLen ⟨?_⟩
    refine zBinOp ⟨?_⟩
    refine zMove ⟨?_⟩
    refine zgMove ⟨?_⟩
    refine zgMove ⟨?_⟩
    refine zgIndexAddr ⟨?_⟩
    refine zgLoad ⟨?_⟩
    refine zgMove ⟨?_⟩
    refine zgBinOp ⟨?_⟩
    refine zPick ⟨?_⟩
    refine k21 _ ?_
    refine zk ⟨?_⟩
    refine v_cond _ rfl ?_ ?_
    ·intro hc1
     exfalso; first
     |(simp at hc1; done)
     |(simp at hc1; exact hn (hc1 ▸ List.mem_of_getElem? hy))
    ·intro hc1
     try simp only [zC, reduceCtorEq] at hc1
     refine v_skip ?_
     refine n20 _ _ (weak_keep [0, 1, 5] _) ?_
     refine zk ⟨?_⟩
     refine v_seqR [0,1,5,6] ?_; intro K23 k23
     refine zBuildSlice ⟨?_⟩
     refine zMove ⟨?_⟩
     refine zMove ⟨?_⟩
     refine zSlice ⟨?_⟩
     refine zAppend ⟨?_⟩
     refine zAssign ⟨?_⟩
     refine k23 _ ?_
     refine zk ⟨?_⟩
     refine v_seqR [0,5,6] ?_; intro K24 k24
     refine zMove ⟨?_⟩
     refine zMove ⟨?_⟩
     refine zBuildSlice ⟨?_⟩
     refine zAppend ⟨?_⟩
     refine zAssign ⟨?_⟩
     refine k24 _ ?_
     refine zk ⟨?_⟩
     refine v_seqR [4] ?_; intro K25 k25
     refine zMove ⟨?_⟩
     refine zMove ⟨?_⟩
     refine zMove ⟨?_⟩
     refine zSlice ⟨?_⟩
     refine zAppend ⟨?_⟩
     refine zAssign ⟨?_⟩
     refine k25 _ ?_
     refine zk ⟨?_⟩
     refine v_ret ?_
     refine r0 _ ?_
     refine zf ⟨?_⟩
     have hne : ¬ l[putPos l n 0]? = some n := fun h => hn (List.mem_of_getElem? h)
     have hpl : putL l n = l.take k ++ n :: l.drop k := by rw [putL, if_neg hne, ← hR, hpk]
     rw [hpl]
     exact ret_refK rfl rfl (by simp)
set_option maxRecDepth 100000 in
set_option maxHeartbeats 8000000 in
theorem duMake_con (needs : List Int) (a b c : Int) (hnl : needs.length ≤ 1048576) (hn : ∀ x ∈ needs, 0 ≤ x ∧ x ≤ 9) (ha : 1 ≤ a ∧ a ≤ 9) (hc : 0 ≤ c ∧ c ≤ 5) : Con Try.prog 57 [.sl (needs.map (V.int .i64)), .agg [.int .i64 a, .int .i64 b, .int .i64 c]] [] (.tup [.ref 0, .bool (mkB a b c needs)]) [.arr ((mkL a b c needs).map (fun l : List Int => V.sl (l.map (V.int .i64)))) (fillK (mkL a b c needs).length)] := by
 refine v_con [.tmp 4, .tmp 5] [] Try.func57 rfl rfl rfl (by simp [Try.ntmps57]) ?_
 intro Q0 n0 r0
 simp only [Try.ntmps57, envFrom, Nat.reduceAdd]
 have T := Tys.mk (And.intro Ty.t3 (And.intro Ty.t4 (And.intro Ty.t30 (And.intro Ty.t37 Ty.t41))))
 have F := Fc.mk True.intro
 refine v_seqR [0,3] ?_; intro K1 k1
 refine zBox ⟨?_⟩
 refine zAssign ⟨?_⟩
 refine zAssign ⟨?_⟩
 refine k1 _ ?_
 refine zk ⟨?_⟩
 refine v_seqR [0,3,6] ?_; intro K2 k2
 refine zAssign ⟨?_⟩
 refine k2 _ ?_
 refine zk ⟨?_⟩
 refine v_seq ?_; intro Q3 n3 e3 r3
 refine v_seqR [3,6,13,14,15] ?_; intro K4 k4
 refine zMove ⟨?_⟩
 refine zLen ⟨?_⟩
 refine zMove ⟨?_⟩
 refine k4 _ ?_
 refine zk ⟨?_⟩
 refine v_block ?_; intro Q5 n5 x5 e5 r5
 refine v_loop (fun p => ⟨[(3, .ptr 0 0 0), (6, .ref 1), (13, .sl (needs.map (V.int .i64))), (14, .int .i64 needs.length), (15, .int .i64 (Nat.cast p.1))], [.box (.agg [.int .i64 a, .int .i64 b, .int .i64 c]) .flat, .arr (p.2.map (fun l : List Int => V.sl (l.map (V.int .i64)))) (fillK p.1)], false, 70, 0⟩) (fun p => p.1 ≤ needs.length ∧ RF a p.1 p.2 ∧ makeR (keyS a) (mayS a b c) a.toNat (needs.drop p.1) p.2 = mkR a b c needs) (fun p => needs.length - p.1) ((0, []) : Nat × List (List Int)) ?_ ?_ ?_
 ·refine weak_bothS [3, 6, 13, 14, 15] [0, 2] ⟨?_⟩
  rfl
 ·exact ⟨Nat.zero_le _, RF.zero a, rfl⟩
 ·rintro ⟨i, l⟩ hok6 Q6 n6 e6 r6
  obtain ⟨hi1, hRF, hR⟩ := hok6
  simp only [] at hi1 hRF hR ⊢
  refine v_seqR [3,6,13,14,15,16] ?_; intro K7 k7
  refine zBinOp ⟨?_⟩
  refine k7 _ ?_
  refine zk ⟨?_⟩
  refine v_seq ?_; intro Q8 n8 e8 r8
  refine v_condS _ rfl ?_ ?_
  ·intro hc0
   have hlt : i < needs.length := by omega
   obtain ⟨n, hx⟩ : ∃ n, needs[i]? = some n := ⟨_, List.getElem?_eq_getElem hlt⟩
   have hnb := hn n (List.mem_of_getElem? hx)
   have hll : ∀ s ∈ l, s.length ≤ 1048576 := fun s hs => Nat.le_trans (hRF.n9 s hs) (by omega)
   have hld : l.length ≤ 1048576 := by rw [hRF.len]; omega
   have hcsl := shiftsOf_len l a
   obtain ⟨nn, hnn⟩ := Int.eq_ofNat_of_zero_le hnb.1
   have hsz := shift_zero (key := (keyS a l)) (may := (mayS a b c l)) (p := a.toNat)
   refine v_skip ?_
   refine n8 _ _ (weak_keep [3, 6, 13, 14, 15] _) ?_
   refine zk ⟨?_⟩
   refine v_seq ?_; intro Q10 n10 e10 r10
   refine v_block ?_; intro Q11 n11 x11 e11 r11
   refine v_seqR [3,6,8,13,14,15] ?_; intro K12 k12
   have F := Fc.mk (fun f => getD_map (f := f) hx)
   refine zIndexAddr ⟨?_⟩
   refine zLoad ⟨?_⟩
   refine zAssign ⟨?_⟩
   refine k12 _ ?_
   refine zk ⟨?_⟩
   refine v_seqR [3,6,8,9,13,14,15] ?_; intro K13 k13
   refine zMove ⟨?_⟩
   refine zFieldAddr ⟨?_⟩
   refine zLoad ⟨?_⟩
   refine zc (duShifts_con l a hld hll ha.1 ha.2 hRF.mem) ⟨?_⟩
   refine zAssign ⟨?_⟩
   refine k13 _ ?_
   refine zk ⟨?_⟩
   refine v_seqR [3,6,8,9,10,13,14,15] ?_; intro K14 k14
   refine zAssign ⟨?_⟩
   refine k14 _ ?_
   refine zk ⟨?_⟩
   refine v_seq ?_; intro Q15 n15 e15 r15
   refine v_block ?_; intro Q16 n16 x16 e16 r16
   refine v_loop (fun k => ⟨[(3, .ptr 0 0 0), (6, .ref 1), (8, .int .i64 n), (9, .ref 2), (10, .ref 3), (13, .sl (needs.map (V.int .i64))), (14, .int .i64 needs.length), (15, .int .i64 (Nat.cast i))], [.box (.agg [.int .i64 a, .int .i64 b, .int .i64 c]) .flat, .arr (l.map (fun l : List Int => V.sl (l.map (V.int .i64)))) (fillK i), .arr ((shiftsOf l a).map (V.int .i64)) .flat, .arr ((shiftK (keyS a l) (mayS a b c l) a.toNat k).map (V.int .i64)) .flat], false, 70, 0⟩) (fun k => k ≤ nn ∧ k ≤ (candTo (mayS a b c l) a.toNat).length) (fun k => nn - k) 0 ?_ ?_ ?_
   ·refine weak_bothS [3, 6, 8, 9, 10, 13, 14, 15] [0, 1, 2, 3] ⟨?_⟩
    rw [hsz]; rfl
   ·exact ⟨Nat.zero_le _, Nat.zero_le _⟩
   ·rintro k hok17 Q17 n17 e17 r17
    obtain ⟨hk1, hk2⟩ := hok17
    refine v_seq ?_; intro Q18 n18 e18 r18
    refine v_seqR [3,6,8,9,10,13,14,15,26] ?_; intro K19 k19
    refine zMove ⟨?_⟩
    refine zLen ⟨?_⟩
    refine zMove ⟨?_⟩
    refine zBinOp ⟨?_⟩
    refine k19 _ ?_
    refine zk ⟨?_⟩
    refine v_condS _ rfl ?_ ?_
    ·intro hc1
     have hsl := shift_len (key := (keyS a l)) (may := (mayS a b c l)) (p := a.toNat) hk2
     have hkn : k < nn := by omega
     have hcl := cand_len (may := (mayS a b c l)) a.toNat
     refine v_skip ?_
     refine n18 _ _ (weak_keep [3, 6, 8, 9, 10, 13, 14, 15] _) ?_
     refine zk ⟨?_⟩
     refine v_block ?_; intro Q21 n21 x21 e21 r21
     refine v_seqR [3,6,8,9,10,11,13,14,15] ?_; intro K22 k22
     refine zAssign ⟨?_⟩
     refine k22 _ ?_
     refine zk ⟨?_⟩
     refine v_seq ?_; intro Q23 n23 e23 r23
     refine v_seqR [3,6,8,9,10,11,12,13,14,15] ?_; intro K24 k24
     refine zAssign ⟨?_⟩
     refine k24 _ ?_
     refine zk ⟨?_⟩
     refine v_block ?_; intro Q25 n25 x25 e25 r25
     refine v_loop (fun m => ⟨[(3, .ptr 0 0 0), (6, .ref 1), (8, .int .i64 n), (9, .ref 2), (10, .ref 3), (11, .int .i64 (bestTo (keyS a l) (shiftK (keyS a l) (mayS a b c l) a.toNat k) (mayS a b c l) m)), (12, .int .i64 (Nat.cast m)), (13, .sl (needs.map (V.int .i64))), (14, .int .i64 needs.length), (15, .int .i64 (Nat.cast i))], [.box (.agg [.int .i64 a, .int .i64 b, .int .i64 c]) .flat, .arr (l.map (fun l : List Int => V.sl (l.map (V.int .i64)))) (fillK i), .arr ((shiftsOf l a).map (V.int .i64)) .flat, .arr ((shiftK (keyS a l) (mayS a b c l) a.toNat k).map (V.int .i64)) .flat], false, 70, 0⟩) (fun m => m ≤ a.toNat) (fun m => a.toNat - m) 0 ?_ ?_ ?_
     ·refine weak_bothS [3, 6, 8, 9, 10, 11, 12, 13, 14, 15] [0, 1, 2, 3] ⟨?_⟩
      rfl
     ·exact Nat.zero_le _
     ·rintro m hok26 Q26 n26 e26 r26
      have hm1 : m ≤ a.toNat := hok26
      refine v_seq ?_; intro Q27 n27 e27 r27
      refine v_seqR [3,6,8,9,10,11,12,13,14,15,30] ?_; intro K28 k28
      refine zMove ⟨?_⟩
      refine zFieldAddr ⟨?_⟩
      refine zLoad ⟨?_⟩
      refine zBinOp ⟨?_⟩
      refine k28 _ ?_
      refine zk ⟨?_⟩
      refine v_condS _ rfl ?_ ?_
      ·intro hc2
       have hml : m < a.toNat := by omega
       obtain ⟨v, hv⟩ : ∃ v, (shiftsOf l a)[m]? = some v := ⟨_, List.getElem?_eq_getElem (by omega)⟩
       have hkv : (keyS a l) (m : Int) = v := by rw [keyS, List.getD_eq_getElem?_getD, Int.toNat_natCast, hv]; rfl
       have hbs := bestTo_step (key := (keyS a l)) (taken := (shiftK (keyS a l) (mayS a b c l) a.toNat k)) (may := (mayS a b c l)) (m := m)
       rcases bestTo_at (key := (keyS a l)) (taken := (shiftK (keyS a l) (mayS a b c l) a.toNat k)) (may := (mayS a b c l)) m with hb | ⟨q, hb, hq⟩
       ·skip
        have hb0 : (-1 : Int) < 0 := by decide
        refine v_skip ?_
        refine n27 _ _ (weak_keep [3, 6, 8, 9, 10, 11, 12, 13, 14, 15] _) ?_
        refine zk ⟨?_⟩
        refine v_seq ?_; intro Q30 n30 e30 r30
        refine v_block ?_; intro Q31 n31 x31 e31 r31
        refine v_seq ?_; intro Q32 n32 e32 r32
        refine v_draw (by kernel_rfl) ?_; intro K33 q33 k33
        show aAny _ _ _ _ 25 (Array.replicate 25 false) _
        have F := Fc.mk (And.intro (fun f => getD_map (f := f) hx) (And.intro (fun f => getD_map (f := f) hv) (And.intro hcsl (And.intro @Int.toNat_natCast (And.intro hb (And.intro hb0 @decide_true))))))
        refine zdMove q33 true 0 33 ?_
        refine zdMove q33 true 1 34 ?_
        refine zoc 2 (l1Has_con (shiftK (keyS a l) (mayS a b c l) a.toNat k) (m : Int) (by omega)) ⟨?_⟩
        refine zdUnOp q33 true 3 36 ?_
        refine zdMove q33 true 4 37 ?_
        refine zdgMove q33 true 5 38 ?_
        refine zdgLoad q33 true 6 39 ?_
        refine zdgMove q33 true 7 40 ?_
        refine zogc 8 (duMay_con l a b c (m : Int) hld hll ha.1 ha.2 hc hRF.mem (by omega)) ⟨?_⟩
        refine zdPick q33 true 9 42 ?_
        refine zdMove q33 true 10 43 ?_
        refine zdgMove q33 true 11 44 ?_
        refine zdgBinOp q33 true 12 45 ?_
        refine zdgMove q33 true 13 46 ?_
        refine zdgMove q33 true 14 47 ?_
        refine zdgMove q33 true 15 48 ?_
        refine zdgIndexAddr q33 true 16 49 ?_
        refine zdgLoad q33 true 17 50 ?_
        refine zdgMove q33 true 18 51 ?_
        refine zdgMove q33 true 19 52 ?_
        refine zdgIndexAddr q33 true 20 53 ?_
        refine zdgLoad q33 true 21 54 ?_
        refine zdgBinOp q33 true 22 55 ?_
        refine zdgPick q33 true 23 56 ?_
        refine zdPick q33 true 24 57 ?_
        refine aAny_done (by kernel_rfl) ?_
        refine k33 _ ?_
        refine n32 _ _ (weak_keep [3, 6, 8, 9, 10, 11, 12, 13, 14, 15, 57] _) ?_
        refine zk ⟨?_⟩
        refine v_condS _ rfl ?_ ?_
        ·intro hc3
         have hnx : (bestTo (keyS a l) (shiftK (keyS a l) (mayS a b c l) a.toNat k) (mayS a b c l) (m + 1)) = (m : Int) := by
          rw [hbs, hb]
          simp only [mayS, bestF, hkv, Bool.and_eq_true, decide_eq_true_eq, Bool.not_eq_true', decide_eq_false_iff_not] at hc3 ⊢
          first
          |(rw [if_pos hc3.2, if_pos ⟨hc3.1, .inl (by decide)⟩]; done)
          |(rw [hku, if_pos hc3.1.2, if_pos ⟨hc3.1.1, .inr hc3.2⟩]; done)
          |(simp_all; done)
         refine v_region ?_; intro K35 k35
         refine zMove ⟨?_⟩
         refine zAssign ⟨?_⟩
         refine k35 _ ?_
         refine n31 _ ?_
         refine n30 _ _ (weak_keep [3, 6, 8, 9, 10, 11, 12, 13, 14, 15] _) ?_
         refine zk ⟨?_⟩
         refine v_region ?_; intro K36 k36
         refine zMove ⟨?_⟩
         refine zBinOpW ⟨?_⟩
         refine zAssign ⟨?_⟩
         refine k36 _ ?_
         refine n26 _ (m + 1) ?_ ?_ ?_
         ·refine weak_bothS [3, 6, 8, 9, 10, 11, 12, 13, 14, 15] [0, 1, 2, 3] ⟨?_⟩
          first | (rw [hnx]; rfl) | (rw [hnx, hb]; rfl)
         ·exact hml
         ·show _ < _; omega
        ·intro hc3
         have hnx : (bestTo (keyS a l) (shiftK (keyS a l) (mayS a b c l) a.toNat k) (mayS a b c l) (m + 1)) = (bestTo (keyS a l) (shiftK (keyS a l) (mayS a b c l) a.toNat k) (mayS a b c l) m) := by
          rw [hbs]
          split
          ·rename_i hmm
           rw [bestF, if_neg]
           rintro ⟨h1, h2⟩
           rw [hb, hkv] at h2
           (try rw [hku] at h2)
           simp only [mayS] at hmm
           simp [h1, hmm] at hc3 <;> omega
          ·rfl
         refine v_skip ?_
         refine n31 _ ?_
         refine n30 _ _ (weak_keep [3, 6, 8, 9, 10, 11, 12, 13, 14, 15] _) ?_
         refine zk ⟨?_⟩
         refine v_region ?_; intro K37 k37
         refine zMove ⟨?_⟩
         refine zBinOpW ⟨?_⟩
         refine zAssign ⟨?_⟩
         refine k37 _ ?_
         refine n26 _ (m + 1) ?_ ?_ ?_
         ·refine weak_bothS [3, 6, 8, 9, 10, 11, 12, 13, 14, 15] [0, 1, 2, 3] ⟨?_⟩
          first | (rw [hnx]; rfl) | (rw [hnx, hb]; rfl)
         ·exact hml
         ·show _ < _; omega
       ·skip
        have hb0 : ¬ ((q : Int) < 0) := by omega
        obtain ⟨u, hu⟩ : ∃ u, (shiftsOf l a)[q]? = some u := ⟨_, List.getElem?_eq_getElem (by omega)⟩
        have hku : (keyS a l) (q : Int) = u := by rw [keyS, List.getD_eq_getElem?_getD, Int.toNat_natCast, hu]; rfl
        refine v_skip ?_
        refine n27 _ _ (weak_keep [3, 6, 8, 9, 10, 11, 12, 13, 14, 15] _) ?_
        refine zk ⟨?_⟩
        refine v_seq ?_; intro Q38 n38 e38 r38
        refine v_block ?_; intro Q39 n39 x39 e39 r39
        refine v_seq ?_; intro Q40 n40 e40 r40
        refine v_draw (by kernel_rfl) ?_; intro K41 q41 k41
        show aAny _ _ _ _ 25 (Array.replicate 25 false) _
        have F := Fc.mk (And.intro (fun f => getD_map (f := f) hx) (And.intro (fun f => getD_map (f := f) hv) (And.intro hcsl (And.intro @Int.toNat_natCast (And.intro hb (And.intro hb0 (And.intro @decide_false (fun f => getD_map (f := f) hu))))))))
        refine zdMove q41 true 0 33 ?_
        refine zdMove q41 true 1 34 ?_
        refine zoc 2 (l1Has_con (shiftK (keyS a l) (mayS a b c l) a.toNat k) (m : Int) (by omega)) ⟨?_⟩
        refine zdUnOp q41 true 3 36 ?_
        refine zdMove q41 true 4 37 ?_
        refine zdgMove q41 true 5 38 ?_
        refine zdgLoad q41 true 6 39 ?_
        refine zdgMove q41 true 7 40 ?_
        refine zogc 8 (duMay_con l a b c (m : Int) hld hll ha.1 ha.2 hc hRF.mem (by omega)) ⟨?_⟩
        refine zdPick q41 true 9 42 ?_
        refine zdMove q41 true 10 43 ?_
        refine zdgMove q41 true 11 44 ?_
        refine zdgBinOp q41 true 12 45 ?_
        refine zdgMove q41 true 13 46 ?_
        refine zdgMove q41 true 14 47 ?_
        refine zdgMove q41 true 15 48 ?_
        refine zdgIndexAddr q41 true 16 49 ?_
        refine zdgLoad q41 true 17 50 ?_
        refine zdgMove q41 true 18 51 ?_
        refine zdgMove q41 true 19 52 ?_
        refine zdgIndexAddr q41 true 20 53 ?_
        refine zdgLoad q41 true 21 54 ?_
        refine zdgBinOp q41 true 22 55 ?_
        refine zdgPick q41 true 23 56 ?_
        refine zdPick q41 true 24 57 ?_
        refine aAny_done (by kernel_rfl) ?_
        refine k41 _ ?_
        refine n40 _ _ (weak_keep [3, 6, 8, 9, 10, 11, 12, 13, 14, 15, 57] _) ?_
        refine zk ⟨?_⟩
        refine v_condS _ rfl ?_ ?_
        ·intro hc3
         have hnx : (bestTo (keyS a l) (shiftK (keyS a l) (mayS a b c l) a.toNat k) (mayS a b c l) (m + 1)) = (m : Int) := by
          rw [hbs, hb]
          simp only [mayS, bestF, hkv, Bool.and_eq_true, decide_eq_true_eq, Bool.not_eq_true', decide_eq_false_iff_not] at hc3 ⊢
          first
          |(rw [if_pos hc3.2, if_pos ⟨hc3.1, .inl (by decide)⟩]; done)
          |(rw [hku, if_pos hc3.1.2, if_pos ⟨hc3.1.1, .inr hc3.2⟩]; done)
          |(simp_all; done)
         refine v_region ?_; intro K43 k43
         refine zMove ⟨?_⟩
         refine zAssign ⟨?_⟩
         refine k43 _ ?_
         refine n39 _ ?_
         refine n38 _ _ (weak_keep [3, 6, 8, 9, 10, 11, 12, 13, 14, 15] _) ?_
         refine zk ⟨?_⟩
         refine v_region ?_; intro K44 k44
         refine zMove ⟨?_⟩
         refine zBinOpW ⟨?_⟩
         refine zAssign ⟨?_⟩
         refine k44 _ ?_
         refine n26 _ (m + 1) ?_ ?_ ?_
         ·refine weak_bothS [3, 6, 8, 9, 10, 11, 12, 13, 14, 15] [0, 1, 2, 3] ⟨?_⟩
          first | (rw [hnx]; rfl) | (rw [hnx, hb]; rfl)
         ·exact hml
         ·show _ < _; omega
        ·intro hc3
         have hnx : (bestTo (keyS a l) (shiftK (keyS a l) (mayS a b c l) a.toNat k) (mayS a b c l) (m + 1)) = (bestTo (keyS a l) (shiftK (keyS a l) (mayS a b c l) a.toNat k) (mayS a b c l) m) := by
          rw [hbs]
          split
          ·rename_i hmm
           rw [bestF, if_neg]
           rintro ⟨h1, h2⟩
           rw [hb, hkv] at h2
           (try rw [hku] at h2)
           simp only [mayS] at hmm
           simp [h1, hmm] at hc3 <;> omega
          ·rfl
         refine v_skip ?_
         refine n39 _ ?_
         refine n38 _ _ (weak_keep [3, 6, 8, 9, 10, 11, 12, 13, 14, 15] _) ?_
         refine zk ⟨?_⟩
         refine v_region ?_; intro K45 k45
         refine zMove ⟨?_⟩
         refine zBinOpW ⟨?_⟩
         refine zAssign ⟨?_⟩
         refine k45 _ ?_
         refine n26 _ (m + 1) ?_ ?_ ?_
         ·refine weak_bothS [3, 6, 8, 9, 10, 11, 12, 13, 14, 15] [0, 1, 2, 3] ⟨?_⟩
          first | (rw [hnx]; rfl) | (rw [hnx, hb]; rfl)
         ·exact hml
         ·show _ < _; omega
      ·intro hc2
       have hme : m = a.toNat := by omega
       have hbn := best_next (key := (keyS a l)) (may := (mayS a b c l)) (p := a.toNat) (k := k)
       subst hme
       refine v_exit ?_
       refine e27 _ _ ?_
       refine e26 _ _ ?_
       refine x25 _ ?_
       refine n23 _ _ (weak_keep [3, 6, 8, 9, 10, 11, 13, 14, 15] _) ?_
       refine zk ⟨?_⟩
       refine v_seq ?_; intro Q46 n46 e46 r46
       refine v_seqR [3,6,8,9,10,11,13,14,15,60] ?_; intro K47 k47
       refine zMove ⟨?_⟩
       refine zBinOp ⟨?_⟩
       refine k47 _ ?_
       refine zk ⟨?_⟩
       refine v_condS _ rfl ?_ ?_
       ·intro hc4
        have hno : (ordL (keyS a l) (mayS a b c l) a.toNat)[k]? = none := by
         rw [hbn] at hc4
         cases hq : (ordL (keyS a l) (mayS a b c l) a.toNat)[k]? with
         |none => rfl
         |some y =>
          rw [hq] at hc4
          have := (cand_mem a.toNat y).1 (ord_mem.1 (List.mem_of_getElem? hq))
          simp only [] at hc4
          omega
        have hfew : ((candTo (mayS a b c l) a.toNat).length : Int) < n := by
         have h1 := List.getElem?_eq_none_iff.1 hno
         rw [ord_len] at h1
         omega
        refine v_seqR [4,5] ?_; intro K49 k49
        refine zAssign ⟨?_⟩
        refine zAssign ⟨?_⟩
        refine k49 _ ?_
        refine zk ⟨?_⟩
        refine v_ret ?_
        refine r46 _ ?_
        refine r21 _ ?_
        refine r17 _ ?_
        refine r16 _ ?_
        refine r15 _ ?_
        refine r11 _ ?_
        refine r10 _ ?_
        refine r6 _ ?_
        refine r5 _ ?_
        refine r3 _ ?_
        refine r0 _ ?_
        refine zf ⟨?_⟩
        have hN : mkR a b c needs = none := by rw [← hR, mk_step hx, if_pos hfew]
        simp only [mkB, mkL, hN, Option.isSome_none, Option.getD_none, List.map_nil, List.length_nil, fillK_0R]
        exact ret_all rfl (by first | decide | simp [newIds, refsOf, refs2, refs1]) (by simp) rfl (by simp [newIds, refsOf, refs2, refs1]) (by simp [Blk.kindIs, fillK_fd]) rfl
       ·intro hc4
        obtain ⟨y, hy⟩ : ∃ y, (ordL (keyS a l) (mayS a b c l) a.toNat)[k]? = some y := by
         cases hq : (ordL (keyS a l) (mayS a b c l) a.toNat)[k]? with
         |some y => exact ⟨y, rfl⟩
         |none =>
          rw [hbn, hq] at hc4
          simp at hc4
        have hby : (bestTo (keyS a l) (shiftK (keyS a l) (mayS a b c l) a.toNat k) (mayS a b c l) a.toNat) = y := by rw [hbn, hy]
        have hpn := shift_next hy
        have hyl : k < (ordL (keyS a l) (mayS a b c l) a.toNat).length := (List.getElem?_eq_some_iff.1 hy).1
        rw [ord_len] at hyl
        have hny : y ∉ (shiftK (keyS a l) (mayS a b c l) a.toNat k) := fun hm => by
         rw [shift_mem] at hm
         obtain ⟨j, hj, e⟩ := List.getElem_of_mem hm
         rw [List.length_take] at hj
         rw [List.getElem_take] at e
         obtain ⟨hkk, ek⟩ := List.getElem?_eq_some_iff.1 hy
         have := (List.pairwise_iff_getElem.1 (ord_nodup (key := (keyS a l)) (may := (mayS a b c l)) (p := a.toNat))) j k (by omega) hkk (by omega)
         exact this (e.trans ek.symm)
        refine v_skip ?_
        refine n46 _ _ (weak_keep [3, 6, 8, 9, 10, 11, 13, 14, 15] _) ?_
        refine zk ⟨?_⟩
        refine v_region ?_; intro K50 k50
        have F := Fc.mk (And.intro (fun f => getD_map (f := f) hx) (And.intro hby hpn))
        refine zMove ⟨?_⟩
        refine zMove ⟨?_⟩
        refine zc (l1Put_con (shiftK (keyS a l) (mayS a b c l) a.toNat k) y (by omega) hny) ⟨?_⟩
        refine zAssign ⟨?_⟩
        refine k50 _ ?_
        refine n21 _ ?_
        refine n17 _ (k + 1) ?_ ?_ ?_
        ·refine weak_both [3, 6, 8, 9, 10, 13, 14, 15] [0, 1, 2, 4] (by decide) (by simp) ?_ ?_ ?_
         ·simp [keep_mk, keepE_nil, keepE_cons, look_cons, V.only, V.onlyL, idx] <;> (first | rfl | decide)
         ·simp [Blk.kindIs, fillK_mix]
         simp only [keep_mk, keepE_nil, keepE_cons, look_cons, look_nil, Nat.reduceEqDiff, reduceIte, St.comp, List.map_cons, List.map_nil, V.ren, V.renL, idx, List.getD_cons_zero, List.getD_cons_succ, Nat.reduceBEq, cond_true, cond_false, Option.map_some, Option.getD_some, Nat.reduceAdd, Nat.beq_eq_true_eq]
         all_goals rfl
        ·exact ⟨hkn, by omega⟩
        ·show _ < _; omega
    ·intro hc1
     have hsl := shift_len (key := (keyS a l)) (may := (mayS a b c l)) (p := a.toNat) hk2
     have hkn : k = nn := by omega
     have hfew : ¬ ((candTo (mayS a b c l) a.toNat).length : Int) < n := by omega
     refine v_exit ?_
     refine e18 _ _ ?_
     refine e17 _ _ ?_
     refine x16 _ ?_
     refine n15 _ _ (weak_keep [3, 6, 10, 13, 14, 15] _) ?_
     refine zk ⟨?_⟩
     refine v_region ?_; intro K51 k51
     refine zMove ⟨?_⟩
     refine zMove ⟨?_⟩
     refine zBuildSlice ⟨?_⟩
     refine zAppend ⟨?_⟩
     refine zAssign ⟨?_⟩
     refine k51 _ ?_
     refine n11 _ ?_
     refine n10 _ _ (weak_keep [3, 6, 13, 14, 15] _) ?_
     refine zk ⟨?_⟩
     refine v_region ?_; intro K52 k52
     refine zBinOpW ⟨?_⟩
     refine zMove ⟨?_⟩
     refine k52 _ ?_
     refine n6 _ (i + 1, l ++ [(shiftK (keyS a l) (mayS a b c l) a.toNat k)]) ?_ ?_ ?_
     ·refine weak_bothS [3, 6, 13, 14, 15] [0, 5] ⟨?_⟩
      simp only [F2_snoc]; rfl
     ·exact ⟨hlt, hRF.snoc ha, by show makeR _ _ _ (needs.drop (i + 1)) _ = _; rw [← hR, mk_step hx, if_neg hfew, hnn, hkn]; rfl⟩
     ·show _ < _; show needs.length - (i + 1) < needs.length - i; omega
  ·intro hc0
   have hend : i = needs.length := by omega
   refine v_exit ?_
   refine e8 _ _ ?_
   refine e6 _ _ ?_
   refine x5 _ ?_
   refine n3 _ _ (weak_keep [6] _) ?_
   refine zk ⟨?_⟩
   refine v_seqR [4,5] ?_; intro K53 k53
   refine zMove ⟨?_⟩
   refine zAssign ⟨?_⟩
   refine zAssign ⟨?_⟩
   refine k53 _ ?_
   refine zk ⟨?_⟩
   refine v_ret ?_
   refine r0 _ ?_
   refine zf ⟨?_⟩
   have hN : mkR a b c needs = some l := by rw [← hR, mk_end (by omega)]
   simp only [mkB, mkL, hN, Option.isSome_some, Option.getD_some]
   rw [hRF.len]
   exact ret_all rfl (by first | decide | simp [newIds, refsOf, refs2, refs1]) (by simp) rfl (by simp [newIds, refsOf, refs2, refs1]) (by simp [Blk.kindIs, fillK_fd]) rfl
theorem totSS_le9 : ∀ {l : List (List Int)}, (∀ s ∈ l, s.length ≤ 9) → totSS l ≤ 9 * l.length
  | [], _ => Int.le_refl _
  | s :: l, h => by
    have h1 := totSS_le9 (l := l) fun x hx => h x (List.mem_cons_of_mem _ hx)
    have h2 := h s (List.mem_cons_self ..)
    rw [totSS, List.length_cons]; omega
def mkG (a b c : Int) (needs : List Int) : Bool := needB needs && dutyB a b c
def mkR2 (a b c : Int) (needs : List Int) : List (List Int) := orNil (mkG a b c needs) (mkL a b c needs)
def mkB2 (a b c : Int) (needs : List Int) : Bool := mkG a b c needs && mkB a b c needs
theorem mkR2_facts (a b c : Int) (needs : List Int) : (mkR2 a b c needs).length ≤ needs.length ∧ ∀ s ∈ mkR2 a b c needs, s.length ≤ 9 := by
  rw [mkR2]
  cases h : mkG a b c needs with
  | false => exact ⟨Nat.zero_le _, by simp [orNil]⟩
  | true =>
    have h2 := h
    rw [mkG, Bool.and_eq_true] at h2
    have hd := duty_in h2.2
    exact mkL_facts ⟨hd.1, hd.2.1⟩ needs
def fewK (ok : Nat → Bool) : Nat → Option Nat
  | 0 => none
  | k + 1 => if ok (9 - k) = true then some (9 - k) else fewK ok k
theorem few_step {ok : Nat → Bool} {p : Nat} (h1 : 1 ≤ p) (h : p ≤ 9) : fewK ok (10 - p) = if ok p = true then some p else fewK ok (10 - (p + 1)) := by
  rw [show 10 - p = (9 - p) + 1 by omega, fewK, show 9 - (9 - p) = p by omega, show 10 - (p + 1) = 9 - p by omega]
theorem few_guard {ok : Nat → Bool} {G : Bool} : ∀ k, fewK (fun p => G && ok p) k = if G = true then fewK ok k else none
  | 0 => by cases G <;> rfl
  | k + 1 => by
    rw [fewK, few_guard k]
    cases G with
    | false => simp
    | true => simp [fewK]
def fewI (o : Option Nat) : Int := match o with | some p => (p : Int) | none => 0
def few (b c : Int) (needs : List Int) : Option Nat := if mkG 1 b c needs = true then fewK (fun p => mkB (p : Int) b c needs) 9 else none
theorem mkG_any {a b c : Int} {needs : List Int} (h : 1 ≤ a ∧ a ≤ 9) : mkG a b c needs = mkG 1 b c needs := by
  have : dutyB a b c = dutyB 1 b c := by
    rw [dutyB, dutyB, decide_eq_true h.1, decide_eq_true h.2]; rfl
  rw [mkG, mkG, this]

set_option maxRecDepth 8000 in
set_option maxHeartbeats 1000000 in
theorem implMakeRoster_con (needs : List Int) (a b c : Int) (hnl : needs.length ≤ 1048576) : Con Try.prog 25 [.sl (needs.map (V.int .i64)), .agg [.int .i64 a, .int .i64 b, .int .i64 c]] [] (.tup [.ref 0, .bool (mkB2 a b c needs)]) [.arr ((mkR2 a b c needs).map (fun l : List Int => V.sl (l.map (V.int .i64)))) (fillK (mkR2 a b c needs).length)] := by
 refine v_con [.tmp 4, .tmp 5] [] Try.func25 rfl rfl rfl (by simp [Try.ntmps25]) ?_
 intro Q0 n0 r0
 simp only [Try.ntmps25, envFrom, Nat.reduceAdd]
 have T := Tys.mk (And.intro Ty.t3 (And.intro Ty.t4 (And.intro Ty.t37 Ty.t41)))
 have F := Fc.mk True.intro
 refine v_seqR [0,3] ?_; intro K1 k1
 refine zBox ⟨?_⟩
 refine zAssign ⟨?_⟩
 refine zAssign ⟨?_⟩
 refine k1 _ ?_
 refine zk ⟨?_⟩
 refine v_seq ?_; intro Q2 n2 e2 r2
 refine v_seqR [0,3,13] ?_; intro K3 k3
 refine zMove ⟨?_⟩
 refine zc (areNeeds_con needs hnl) ⟨?_⟩
 refine zUnOp ⟨?_⟩
 refine zMove ⟨?_⟩
 refine zgLoad ⟨?_⟩
 refine zgc (isDuty_con a b c) ⟨?_⟩
 refine zgUnOp ⟨?_⟩
 refine zPick ⟨?_⟩
 refine k3 _ ?_
 refine zk ⟨?_⟩
 refine v_condS _ rfl ?_ ?_
 ·intro hc0
  have hG : (mkG a b c needs) = false := by
   rw [mkG]
   cases h1 : needB needs <;> cases h2 : dutyB a b c <;> simp [h1, h2] at hc0 ⊢
  refine v_seqR [4,5] ?_; intro K5 k5
  refine zAssign ⟨?_⟩
  refine zAssign ⟨?_⟩
  refine k5 _ ?_
  refine zk ⟨?_⟩
  refine v_ret ?_
  refine r2 _ ?_
  refine r0 _ ?_
  refine zf ⟨?_⟩
  simp only [mkR2, mkB2, hG, orNil_f, Bool.false_and, List.map_nil, List.length_nil, fillK_0R]
  exact ret_all rfl (by first | decide | simp [newIds, refsOf, refs2, refs1]) (by simp) rfl (by simp [newIds, refsOf, refs2, refs1]) (by simp [Blk.kindIs, fillK_fd]) rfl
 ·intro hc0
  have hG : (mkG a b c needs) = true := by
   rw [mkG]
   cases h1 : needB needs <;> cases h2 : dutyB a b c <;> simp [h1, h2] at hc0 ⊢
  have hG2 := hG
  rw [mkG, Bool.and_eq_true] at hG2
  have hdi := duty_in hG2.2
  have hnn := need_in hG2.1
  refine v_skip ?_
  refine n2 _ _ (weak_keep [0, 3] _) ?_
  refine zk ⟨?_⟩
  refine v_seqR [4,5] ?_; intro K6 k6
  refine zMove ⟨?_⟩
  refine zLoad ⟨?_⟩
  refine zc (makeRoster_con needs a b c hnl hnn ⟨hdi.1, hdi.2.1⟩ hdi.2.2) ⟨?_⟩
  refine zExtract ⟨?_⟩
  refine zExtract ⟨?_⟩
  refine zAssign ⟨?_⟩
  refine zAssign ⟨?_⟩
  refine k6 _ ?_
  refine zk ⟨?_⟩
  refine v_ret ?_
  refine r0 _ ?_
  refine zf ⟨?_⟩
  simp only [mkR2, mkB2, hG, orNil_t, Bool.true_and]
  exact ret_all rfl (by first | decide | simp [newIds, refsOf, refs2, refs1]) (by simp) rfl (by simp [newIds, refsOf, refs2, refs1]) (by simp [Blk.kindIs, fillK_fd]) rfl
set_option maxRecDepth 8000 in
set_option maxHeartbeats 1000000 in
theorem specMakeRoster_con (needs : List Int) (a b c : Int) (hnl : needs.length ≤ 1048576) : Con Try.prog 24 [.sl (needs.map (V.int .i64)), .agg [.int .i64 a, .int .i64 b, .int .i64 c]] [] (.tup [.ref 0, .bool (mkB2 a b c needs)]) [.arr ((mkR2 a b c needs).map (fun l : List Int => V.sl (l.map (V.int .i64)))) (fillK (mkR2 a b c needs).length)] := by
 refine v_con [.tmp 4, .tmp 5] [] Try.func24 rfl rfl rfl (by simp [Try.ntmps24]) ?_
 intro Q0 n0 r0
 simp only [Try.ntmps24, envFrom, Nat.reduceAdd]
 have T := Tys.mk (And.intro Ty.t3 (And.intro Ty.t4 (And.intro Ty.t37 Ty.t41)))
 have F := Fc.mk True.intro
 refine v_seqR [0,3] ?_; intro K1 k1
 refine zBox ⟨?_⟩
 refine zAssign ⟨?_⟩
 refine zAssign ⟨?_⟩
 refine k1 _ ?_
 refine zk ⟨?_⟩
 refine v_seq ?_; intro Q2 n2 e2 r2
 refine v_seqR [0,3,13] ?_; intro K3 k3
 refine zMove ⟨?_⟩
 refine zc (duNeeds_con needs hnl) ⟨?_⟩
 refine zUnOp ⟨?_⟩
 refine zMove ⟨?_⟩
 refine zgLoad ⟨?_⟩
 refine zgc (duGood_con a b c) ⟨?_⟩
 refine zgUnOp ⟨?_⟩
 refine zPick ⟨?_⟩
 refine k3 _ ?_
 refine zk ⟨?_⟩
 refine v_condS _ rfl ?_ ?_
 ·intro hc0
  have hG : (mkG a b c needs) = false := by
   rw [mkG]
   cases h1 : needB needs <;> cases h2 : dutyB a b c <;> simp [h1, h2] at hc0 ⊢
  refine v_seqR [4,5] ?_; intro K5 k5
  refine zAssign ⟨?_⟩
  refine zAssign ⟨?_⟩
  refine k5 _ ?_
  refine zk ⟨?_⟩
  refine v_ret ?_
  refine r2 _ ?_
  refine r0 _ ?_
  refine zf ⟨?_⟩
  simp only [mkR2, mkB2, hG, orNil_f, Bool.false_and, List.map_nil, List.length_nil, fillK_0R]
  exact ret_all rfl (by first | decide | simp [newIds, refsOf, refs2, refs1]) (by simp) rfl (by simp [newIds, refsOf, refs2, refs1]) (by simp [Blk.kindIs, fillK_fd]) rfl
 ·intro hc0
  have hG : (mkG a b c needs) = true := by
   rw [mkG]
   cases h1 : needB needs <;> cases h2 : dutyB a b c <;> simp [h1, h2] at hc0 ⊢
  have hG2 := hG
  rw [mkG, Bool.and_eq_true] at hG2
  have hdi := duty_in hG2.2
  have hnn := need_in hG2.1
  refine v_skip ?_
  refine n2 _ _ (weak_keep [0, 3] _) ?_
  refine zk ⟨?_⟩
  refine v_seqR [4,5] ?_; intro K6 k6
  refine zMove ⟨?_⟩
  refine zLoad ⟨?_⟩
  refine zc (duMake_con needs a b c hnl hnn ⟨hdi.1, hdi.2.1⟩ hdi.2.2) ⟨?_⟩
  refine zExtract ⟨?_⟩
  refine zExtract ⟨?_⟩
  refine zAssign ⟨?_⟩
  refine zAssign ⟨?_⟩
  refine k6 _ ?_
  refine zk ⟨?_⟩
  refine v_ret ?_
  refine r0 _ ?_
  refine zf ⟨?_⟩
  simp only [mkR2, mkB2, hG, orNil_t, Bool.true_and]
  exact ret_all rfl (by first | decide | simp [newIds, refsOf, refs2, refs1]) (by simp) rfl (by simp [newIds, refsOf, refs2, refs1]) (by simp [Blk.kindIs, fillK_fd]) rfl
set_option maxRecDepth 8000 in
set_option maxHeartbeats 1000000 in
theorem implFewest_con (needs : List Int) (b c : Int) (hnl : needs.length ≤ 1048576) : Con Try.prog 22 [.sl (needs.map (V.int .i64)), .int .i64 b, .int .i64 c] [] (.tup [.int .i64 (fewI (few b c needs)), .bool (few b c needs).isSome]) [] := by
 refine v_con [.tmp 6, .tmp 7] [] Try.func22 rfl rfl rfl (by simp [Try.ntmps22]) ?_
 intro Q0 n0 r0
 simp only [Try.ntmps22, envFrom, Nat.reduceAdd]
 have T := Tys.mk (And.intro Ty.t3 (And.intro Ty.t4 (And.intro Ty.t37 Ty.t41)))
 have F := Fc.mk True.intro
 refine v_seqR [0,1,2] ?_; intro K1 k1
 refine zAssign ⟨?_⟩
 refine zAssign ⟨?_⟩
 refine k1 _ ?_
 refine zk ⟨?_⟩
 refine v_seq ?_; intro Q2 n2 e2 r2
 refine v_seqR [0,1,2,20] ?_; intro K3 k3
 refine zMove ⟨?_⟩
 refine zc (areNeeds_con needs hnl) ⟨?_⟩
 refine zUnOp ⟨?_⟩
 refine zMove ⟨?_⟩
 refine zgMove ⟨?_⟩
 refine zgMove ⟨?_⟩
 refine zgBuild ⟨?_⟩
 refine zgc (isDuty_con 1 b c) ⟨?_⟩
 refine zgUnOp ⟨?_⟩
 refine zPick ⟨?_⟩
 refine k3 _ ?_
 refine zk ⟨?_⟩
 refine v_condS _ rfl ?_ ?_
 ·intro hc0
  have hG : (mkG 1 b c needs) = false := by
   rw [mkG]
   cases h1 : needB needs <;> cases h2 : dutyB 1 b c <;> simp [h1, h2] at hc0 ⊢
  have hF : few b c needs = none := by rw [few, hG]; rfl
  refine v_seqR [6,7] ?_; intro K5 k5
  refine zAssign ⟨?_⟩
  refine zAssign ⟨?_⟩
  refine k5 _ ?_
  refine zk ⟨?_⟩
  refine v_ret ?_
  refine r2 _ ?_
  refine r0 _ ?_
  refine zf ⟨?_⟩
  rw [hF]
  exact ret_pure rfl rfl (.inl rfl)
 ·intro hc0
  have hG : (mkG 1 b c needs) = true := by
   rw [mkG]
   cases h1 : needB needs <;> cases h2 : dutyB 1 b c <;> simp [h1, h2] at hc0 ⊢
  have hG2 := hG
  rw [mkG, Bool.and_eq_true] at hG2
  have hdi := duty_in hG2.2
  have hnn := need_in hG2.1
  have hFF : few b c needs = fewK (fun p : Nat => mkB (p : Int) b c needs) 9 := by rw [few, hG]; rfl
  refine v_skip ?_
  refine n2 _ _ (weak_keep [0, 1, 2] _) ?_
  refine zk ⟨?_⟩
  refine v_seq ?_; intro Q6 n6 e6 r6
  refine v_seqR [0,1,2,8] ?_; intro K7 k7
  refine zAssign ⟨?_⟩
  refine k7 _ ?_
  refine zk ⟨?_⟩
  refine v_block ?_; intro Q8 n8 x8 e8 r8
  refine v_loop (fun p => ⟨[(0, .sl (needs.map (V.int .i64))), (1, .int .i64 b), (2, .int .i64 c), (8, .int .i64 (Nat.cast p))], [], false, 36, 0⟩) (fun p => 1 ≤ p ∧ p ≤ 10 ∧ fewK (fun p : Nat => mkB (p : Int) b c needs) (10 - p) = fewK (fun p : Nat => mkB (p : Int) b c needs) 9) (fun p => 10 - p) 1 ?_ ?_ ?_
  ·refine weak_bothS [0, 1, 2, 8] [] ⟨?_⟩
   rfl
  ·exact ⟨Nat.le_refl _, by omega, rfl⟩
  ·rintro p hok9 Q9 n9 e9 r9
   obtain ⟨hp1, hp2, hR⟩ := hok9
   refine v_seq ?_; intro Q10 n10 e10 r10
   refine v_seqR [0,1,2,8,22] ?_; intro K11 k11
   refine zMove ⟨?_⟩
   refine zBinOp ⟨?_⟩
   refine k11 _ ?_
   refine zk ⟨?_⟩
   refine v_condS _ rfl ?_ ?_
   ·intro hc1
    have hp9 : p ≤ 9 := by omega
    have hst := few_step (ok := (fun p : Nat => mkB (p : Int) b c needs)) hp1 hp9
    refine v_skip ?_
    refine n10 _ _ (weak_keep [0, 1, 2, 8] _) ?_
    refine zk ⟨?_⟩
    refine v_seq ?_; intro Q13 n13 e13 r13
    refine v_block ?_; intro Q14 n14 x14 e14 r14
    refine v_seqR [0,1,2,8,10] ?_; intro K15 k15
    refine zMove ⟨?_⟩
    refine zMove ⟨?_⟩
    refine zMove ⟨?_⟩
    refine zMove ⟨?_⟩
    refine zBuild ⟨?_⟩
    refine zc (makeRoster_con needs (p : Int) b c hnl hnn (by omega) hdi.2.2) ⟨?_⟩
    refine zMove ⟨?_⟩
    refine zExtract ⟨?_⟩
    refine zExtract ⟨?_⟩
    refine zAssign ⟨?_⟩
    refine zAssign ⟨?_⟩
    refine k15 _ ?_
    refine zk ⟨?_⟩
    refine v_seqR [0,1,2,8,34] ?_; intro K16 k16
    refine zMove ⟨?_⟩
    refine k16 _ ?_
    refine zk ⟨?_⟩
    refine v_condS _ rfl ?_ ?_
    ·intro hc2
     have hF : few b c needs = some p := by rw [hFF, ← hR, hst, if_pos hc2]
     refine v_seqR [6,7] ?_; intro K18 k18
     refine zMove ⟨?_⟩
     refine zAssign ⟨?_⟩
     refine zAssign ⟨?_⟩
     refine k18 _ ?_
     refine zk ⟨?_⟩
     refine v_ret ?_
     refine r14 _ ?_
     refine r13 _ ?_
     refine r9 _ ?_
     refine r8 _ ?_
     refine r6 _ ?_
     refine r0 _ ?_
     refine zf ⟨?_⟩
     rw [hF]
     exact ret_pure rfl rfl (.inl rfl)
    ·intro hc2
     refine v_skip ?_
     refine n14 _ ?_
     refine n13 _ _ (weak_keep [0, 1, 2, 8] _) ?_
     refine zk ⟨?_⟩
     refine v_region ?_; intro K19 k19
     refine zMove ⟨?_⟩
     refine zBinOpW ⟨?_⟩
     refine zAssign ⟨?_⟩
     refine k19 _ ?_
     refine n9 _ (p + 1) ?_ ?_ ?_
     ·refine weak_bothS [0, 1, 2, 8] [] ⟨?_⟩
      rfl
     ·exact ⟨by omega, by omega, by rw [← hR, hst, if_neg (by simpa using hc2)]⟩
     ·show _ < _; omega
   ·intro hc1
    have hp9 : p = 10 := by omega
    refine v_exit ?_
    refine e10 _ _ ?_
    refine e9 _ _ ?_
    refine x8 _ ?_
    refine n6 _ _ (weak_keep [] _) ?_
    refine zk ⟨?_⟩
    refine v_seqR [6,7] ?_; intro K20 k20
    refine zAssign ⟨?_⟩
    refine zAssign ⟨?_⟩
    refine k20 _ ?_
    refine zk ⟨?_⟩
    refine v_ret ?_
    refine r0 _ ?_
    refine zf ⟨?_⟩
    have hF : few b c needs = none := by rw [hFF, ← hR, hp9]; rfl
    rw [hF]
    exact ret_pure rfl rfl (.inl rfl)
set_option maxRecDepth 8000 in
set_option maxHeartbeats 1000000 in
theorem specFewest_con (needs : List Int) (b c : Int) (hnl : needs.length ≤ 1048576) : Con Try.prog 20 [.sl (needs.map (V.int .i64)), .int .i64 b, .int .i64 c] [] (.tup [.int .i64 (fewI (few b c needs)), .bool (few b c needs).isSome]) [] := by
 have hFF : few b c needs = fewK (fun p : Nat => mkG 1 b c needs && mkB (p : Int) b c needs) 9 := by rw [few, few_guard]
 refine v_con [.tmp 6, .tmp 7] [] Try.func20 rfl rfl rfl (by simp [Try.ntmps20]) ?_
 intro Q0 n0 r0
 simp only [Try.ntmps20, envFrom, Nat.reduceAdd]
 have T := Tys.mk (And.intro Ty.t3 (And.intro Ty.t37 Ty.t41))
 have F := Fc.mk True.intro
 refine v_seqR [0,1,2] ?_; intro K1 k1
 refine zAssign ⟨?_⟩
 refine zAssign ⟨?_⟩
 refine k1 _ ?_
 refine zk ⟨?_⟩
 refine v_seq ?_; intro Q2 n2 e2 r2
 refine v_seqR [0,1,2,8] ?_; intro K3 k3
 refine zAssign ⟨?_⟩
 refine k3 _ ?_
 refine zk ⟨?_⟩
 refine v_block ?_; intro Q4 n4 x4 e4 r4
 refine v_loop (fun p => ⟨[(0, .sl (needs.map (V.int .i64))), (1, .int .i64 b), (2, .int .i64 c), (8, .int .i64 (Nat.cast p))], [], false, 26, 0⟩) (fun p => 1 ≤ p ∧ p ≤ 10 ∧ fewK (fun p : Nat => mkG 1 b c needs && mkB (p : Int) b c needs) (10 - p) = fewK (fun p : Nat => mkG 1 b c needs && mkB (p : Int) b c needs) 9) (fun p => 10 - p) 1 ?_ ?_ ?_
 ·refine weak_bothS [0, 1, 2, 8] [] ⟨?_⟩
  rfl
 ·exact ⟨Nat.le_refl _, by omega, rfl⟩
 ·rintro p hok5 Q5 n5 e5 r5
  obtain ⟨hp1, hp2, hR⟩ := hok5
  refine v_seq ?_; intro Q6 n6 e6 r6
  refine v_seqR [0,1,2,8,12] ?_; intro K7 k7
  refine zMove ⟨?_⟩
  refine zBinOp ⟨?_⟩
  refine k7 _ ?_
  refine zk ⟨?_⟩
  refine v_condS _ rfl ?_ ?_
  ·intro hc0
   have hp9 : p ≤ 9 := by omega
   have hst := few_step (ok := (fun p : Nat => mkG 1 b c needs && mkB (p : Int) b c needs)) hp1 hp9
   have hga : mkB2 (p : Int) b c needs = (mkG 1 b c needs && mkB (p : Int) b c needs) := by rw [mkB2, mkG_any (by omega)]
   refine v_skip ?_
   refine n6 _ _ (weak_keep [0, 1, 2, 8] _) ?_
   refine zk ⟨?_⟩
   refine v_seq ?_; intro Q9 n9 e9 r9
   refine v_block ?_; intro Q10 n10 x10 e10 r10
   refine v_seqR [0,1,2,8,10] ?_; intro K11 k11
   refine zMove ⟨?_⟩
   refine zMove ⟨?_⟩
   refine zMove ⟨?_⟩
   refine zMove ⟨?_⟩
   refine zBuild ⟨?_⟩
   refine zc (specMakeRoster_con needs (p : Int) b c hnl) ⟨?_⟩
   refine zMove ⟨?_⟩
   refine zExtract ⟨?_⟩
   refine zExtract ⟨?_⟩
   refine zAssign ⟨?_⟩
   refine zAssign ⟨?_⟩
   refine k11 _ ?_
   refine zk ⟨?_⟩
   refine v_seqR [0,1,2,8,24] ?_; intro K12 k12
   refine zMove ⟨?_⟩
   refine k12 _ ?_
   refine zk ⟨?_⟩
   refine v_condS _ rfl ?_ ?_
   ·intro hc1
    have hF : few b c needs = some p := by rw [hFF, ← hR, hst, if_pos (hga ▸ hc1)]
    refine v_seqR [6,7] ?_; intro K14 k14
    refine zMove ⟨?_⟩
    refine zAssign ⟨?_⟩
    refine zAssign ⟨?_⟩
    refine k14 _ ?_
    refine zk ⟨?_⟩
    refine v_ret ?_
    refine r10 _ ?_
    refine r9 _ ?_
    refine r5 _ ?_
    refine r4 _ ?_
    refine r2 _ ?_
    refine r0 _ ?_
    refine zf ⟨?_⟩
    rw [hF]
    exact ret_pure rfl rfl (.inl rfl)
   ·intro hc1
    have hno : ¬ (mkG 1 b c needs && mkB (p : Int) b c needs) = true := by rw [← hga, hc1]; decide
    refine v_skip ?_
    refine n10 _ ?_
    refine n9 _ _ (weak_keep [0, 1, 2, 8] _) ?_
    refine zk ⟨?_⟩
    refine v_region ?_; intro K15 k15
    refine zMove ⟨?_⟩
    refine zBinOpW ⟨?_⟩
    refine zAssign ⟨?_⟩
    refine k15 _ ?_
    refine n5 _ (p + 1) ?_ ?_ ?_
    ·refine weak_bothS [0, 1, 2, 8] [] ⟨?_⟩
     rfl
    ·exact ⟨by omega, by omega, by rw [← hR, hst, if_neg hno]⟩
    ·show _ < _; omega
  ·intro hc0
   have hp9 : p = 10 := by omega
   refine v_exit ?_
   refine e6 _ _ ?_
   refine e5 _ _ ?_
   refine x4 _ ?_
   refine n2 _ _ (weak_keep [] _) ?_
   refine zk ⟨?_⟩
   refine v_seqR [6,7] ?_; intro K16 k16
   refine zAssign ⟨?_⟩
   refine zAssign ⟨?_⟩
   refine k16 _ ?_
   refine zk ⟨?_⟩
   refine v_ret ?_
   refine r0 _ ?_
   refine zf ⟨?_⟩
   have hF : few b c needs = none := by rw [hFF, ← hR, hp9]; rfl
   rw [hF]
   exact ret_pure rfl rfl (.inl rfl)
end Go.Proofs.Ytldnelkcmffiaaa
