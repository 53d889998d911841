/- What functions compute. No condition. -/
import Derived.Test.YtbameklegpgkfaaDoorUty
import Derived.Test.YtbameklegpgkfaaDoorUmG
import Derived.Test.YtbameklegpgkfaaDoorX18
import Derived.Test.YtbameklegpgkfaaDoorX17
import Derived.Test.YtbameklegpgkfaaDoorX10
import Derived.Test.YtbameklegpgkfaaDoorX16
import Derived.Test.YtbameklegpgkfaaDoorX4
import Derived.Test.YtbameklegpgkfaaDoorX1
import Derived.Test.YtbameklegpgkfaaDoorX6
set_option linter.unusedSimpArgs false
set_option linter.unusedVariables false
set_option linter.defProp false
namespace Go.Proofs.YtbameklegpgkfaaDoor
open Go Go.Vm

set_option maxHeartbeats 1000000 in
theorem duWithout_con (l : List Int) (x : Int) (hl : l.length ≤ 1048576) : Con Tryd.prog 90 [.sl (l.map (V.int .i64)), .int .i64 x] [] (.ref 0) [.arr ((wthR l x).map (V.int .i64)) .flat] := by
 refine v_con [.tmp 4] [] Tryd.func90 rfl rfl rfl (by simp [Tryd.ntmps90]) ?_
 intro Q0 n0 r0
 simp only [Tryd.ntmps90, envFrom, Nat.reduceAdd]
 have T := Tys.mk (And.intro Ty.t3 Ty.t36)
 have F := Fc.mk True.intro
 refine v_seqR [0,1] ?_; intro K1 k1
 refine zAssign ⟨?_⟩
 refine k1 _ ?_
 refine zk ⟨?_⟩
 refine v_seqR [0,1,5] ?_; intro K2 k2
 refine zAssign ⟨?_⟩
 refine k2 _ ?_
 refine zk ⟨?_⟩
 refine v_seq ?_; intro Q3 n3 e3 r3
 refine v_seqR [1,5,8,9,10] ?_; intro K4 k4
 refine zMove ⟨?_⟩
 refine zLen ⟨?_⟩
 refine zMove ⟨?_⟩
 refine k4 _ ?_
 refine zk ⟨?_⟩
 refine v_block ?_; intro Q5 n5 x5 e5 r5
 refine v_loop (fun i => ⟨[(1, .int .i64 x), (5, .ref 0), (8, .sl (l.map (V.int .i64))), (9, .int .i64 l.length), (10, .int .i64 (Nat.cast i))], [.arr ((wthR (l.take i) x).map (V.int .i64)) .flat], false, 23, 0⟩) (fun i => i ≤ l.length) (fun i => l.length - i) 0 ?_ ?_ ?_
 ·refine weak_bothS [1, 5, 8, 9, 10] [1] ⟨?_⟩
  rfl
 ·exact Nat.zero_le _
 ·rintro i hok6 Q6 n6 e6 r6
  have hi1 : i ≤ l.length := hok6
  refine v_seqR [1,5,8,9,10,11] ?_; intro K7 k7
  refine zBinOp ⟨?_⟩
  refine k7 _ ?_
  refine zk ⟨?_⟩
  refine v_seq ?_; intro Q8 n8 e8 r8
  refine v_condS _ rfl ?_ ?_
  ·intro hc0
   have hlt : i < l.length := by omega
   obtain ⟨z, hx⟩ : ∃ z, l[i]? = some z := ⟨_, List.getElem?_eq_getElem hlt⟩
   have hwl : (wthR (l.take i) x).length ≤ i := Nat.le_trans (List.length_filter_le ..) (by rw [List.length_take]; omega)
   refine v_skip ?_
   refine n8 _ _ (weak_keep [1, 5, 8, 9, 10] _) ?_
   refine zk ⟨?_⟩
   refine v_seq ?_; intro Q10 n10 e10 r10
   refine v_block ?_; intro Q11 n11 x11 e11 r11
   refine v_seqR [1,5,7,8,9,10] ?_; intro K12 k12
   have F := Fc.mk (fun f => getD_map (f := f) hx)
   refine zIndexAddr ⟨?_⟩
   refine zLoad ⟨?_⟩
   refine zAssign ⟨?_⟩
   refine k12 _ ?_
   refine zk ⟨?_⟩
   refine v_seqR [1,5,7,8,9,10,16] ?_; intro K13 k13
   refine zMove ⟨?_⟩
   refine zMove ⟨?_⟩
   refine zBinOp ⟨?_⟩
   refine k13 _ ?_
   refine zk ⟨?_⟩
   refine v_condS _ rfl ?_ ?_
   ·intro hc1
    have hzx : z ≠ x := hc1
    have hsn : (wthR (l.take i) x).map (V.int .i64) ++ [V.int .i64 z] = (wthR (l.take (i + 1)) x).map (V.int .i64) := by rw [wthR, wthR, List.take_add_one, hx, Option.toList, List.filter_append, List.map_append]; simp [hzx]
    refine v_region ?_; intro K15 k15
    refine zMove ⟨?_⟩
    refine zMove ⟨?_⟩
    refine zBuildSlice ⟨?_⟩
    refine zAppend ⟨?_⟩
    refine zAssign ⟨?_⟩
    refine k15 _ ?_
    refine n11 _ ?_
    refine n10 _ _ (weak_keep [1, 5, 8, 9, 10] _) ?_
    refine zk ⟨?_⟩
    refine v_region ?_; intro K16 k16
    refine zBinOpW ⟨?_⟩
    refine zMove ⟨?_⟩
    refine k16 _ ?_
    refine n6 _ (i + 1) ?_ ?_ ?_
    ·refine weak_bothS [1, 5, 8, 9, 10] [2] ⟨?_⟩
     rw [← hsn]; rfl
    ·exact hlt
    ·show _ < _; omega
   ·intro hc1
    have hzx : z = x := hc1
    have hst : wthR (l.take (i + 1)) x = wthR (l.take i) x := by rw [wthR, wthR, List.take_add_one, hx, Option.toList, List.filter_append]; simp [hzx]
    refine v_skip ?_
    refine n11 _ ?_
    refine n10 _ _ (weak_keep [1, 5, 8, 9, 10] _) ?_
    refine zk ⟨?_⟩
    refine v_region ?_; intro K17 k17
    refine zBinOpW ⟨?_⟩
    refine zMove ⟨?_⟩
    refine k17 _ ?_
    refine n6 _ (i + 1) ?_ ?_ ?_
    ·refine weak_bothS [1, 5, 8, 9, 10] [0] ⟨?_⟩
     rw [hst]; rfl
    ·exact hlt
    ·show _ < _; omega
  ·intro hc0
   have hend : i = l.length := by omega
   subst hend
   refine v_exit ?_
   refine e8 _ _ ?_
   refine e6 _ _ ?_
   refine x5 _ ?_
   refine n3 _ _ (weak_keep [5] _) ?_
   refine zk ⟨?_⟩
   refine v_seqR [4] ?_; intro K18 k18
   refine zMove ⟨?_⟩
   refine zAssign ⟨?_⟩
   refine k18 _ ?_
   refine zk ⟨?_⟩
   refine v_ret ?_
   refine r0 _ ?_
   refine zf ⟨?_⟩
   rw [List.take_length]
   exact ret_refK rfl rfl rfl
set_option maxRecDepth 100000 in
set_option maxHeartbeats 8000000 in
theorem implExch_con (d : List (List Int)) (a b c sa sb x y : Int) (hd : d.length ≤ 1048576) (hds : ∀ l ∈ d, l.length ≤ 1048576) : Con Tryd.prog 7 [.sl (d.map fun l => V.sl (l.map (V.int .i64))), .agg [.int .i64 a, .int .i64 b, .int .i64 c], .int .i64 sa, .int .i64 sb, .int .i64 x, .int .i64 y] [] (.tup [.ref 0, .bool (exOK d a b c sa sb x y)]) [.arr ((orNil (exOK d a b c sa sb x y) (exL d sa sb x y)).map (fun l : List Int => V.sl (l.map (V.int .i64)))) (fillK (orNil (exOK d a b c sa sb x y) (exL d sa sb x y)).length)] := by
 refine v_con [.tmp 12, .tmp 13] [(83, [0])] Tryd.func7 rfl rfl rfl (by simp [Tryd.ntmps7]) ?_
 intro Q0 n0 r0
 simp only [Tryd.ntmps7, envFrom, Nat.reduceAdd]
 have T := Tys.mk (And.intro Ty.t3 (And.intro Ty.t4 (And.intro Ty.t23 (And.intro Ty.t25 Ty.t36))))
 have F := Fc.mk True.intro
 refine v_seqR [0,2,3,4,5,7] ?_; intro K1 k1
 refine zBox ⟨?_⟩
 refine zAssign ⟨?_⟩
 refine zAssign ⟨?_⟩
 refine k1 _ ?_
 refine zk ⟨?_⟩
 refine v_seq ?_; intro Q2 n2 e2 r2
 refine v_seqR [0,2,3,4,5,7,45] ?_; intro K3 k3
 refine zLoad ⟨?_⟩
 refine zc (isDuty_con a b c) ⟨?_⟩
 refine zUnOp ⟨?_⟩
 refine zMove ⟨?_⟩
 refine zgMove ⟨?_⟩
 refine zgFieldAddr ⟨?_⟩
 refine zgLoad ⟨?_⟩
 refine zgc (isRoster_con d a hd hds) ⟨?_⟩
 refine zgUnOp ⟨?_⟩
 refine zPick ⟨?_⟩
 refine zMove ⟨?_⟩
 refine zgMove ⟨?_⟩
 refine zgMove ⟨?_⟩
 refine zgLen ⟨?_⟩
 refine zgBinOpW ⟨?_⟩
 refine zgc (inside_con _ _ _) ⟨?_⟩
 refine zgUnOp ⟨?_⟩
 refine zPick ⟨?_⟩
 refine zMove ⟨?_⟩
 refine zgMove ⟨?_⟩
 refine zgMove ⟨?_⟩
 refine zgLen ⟨?_⟩
 refine zgBinOpW ⟨?_⟩
 refine zgc (inside_con _ _ _) ⟨?_⟩
 refine zgUnOp ⟨?_⟩
 refine zPick ⟨?_⟩
 refine k3 _ ?_
 refine zk ⟨?_⟩
 refine v_condS _ rfl ?_ ?_
 ·intro hc0
  have hG : (exG d a b c sa sb) = false := by
   cases hq : (exG d a b c sa sb) with
   |false => rfl
   |true =>
    exfalso
    obtain ⟨q1, q2, q3, q4⟩ := exG_facts hq
    simp [q1, q2] at hc0
    omega
  have hK : (exOK d a b c sa sb x y) = false := by rw [exOK, hG]; rfl
  refine v_seqR [12,13] ?_; intro K5 k5
  refine zAssign ⟨?_⟩
  refine zAssign ⟨?_⟩
  refine k5 _ ?_
  refine zk ⟨?_⟩
  refine v_ret ?_
  refine r2 _ ?_
  refine r0 _ ?_
  refine zf ⟨?_⟩
  simp only [hK, orNil_f, List.map_nil, List.length_nil, fillK_0R]
  exact ret_all rfl (by first | decide | simp [newIds, refsOf, refs2, refs1]) (by simp) rfl (by simp [newIds, refsOf, refs2, refs1]) (by simp [Blk.kindIs, fillK_fd]) rfl
 ·intro hc0
  have hG : (exG d a b c sa sb) = true := by
   cases h1 : dutyB a b c with
   |false => simp [h1] at hc0
   |true =>
    cases h2 : rosterB d a with
    |false => simp [h2] at hc0
    |true =>
     simp only [exG, h1, h2, Bool.and_eq_true, decide_eq_true_eq]
     simp [h1, h2] at hc0
     exact ⟨⟨⟨trivial, trivial⟩, by omega⟩, by omega⟩
  obtain ⟨q1, q2, q3, q4⟩ := exG_facts hG
  have hdi := duty_in q1
  have hro := roster_in q2
  have hri := roster_rising q2
  obtain ⟨na, rfl⟩ := Int.eq_ofNat_of_zero_le q3.1
  obtain ⟨nb, rfl⟩ := Int.eq_ofNat_of_zero_le q4.1
  have hna : na < d.length := by omega
  have hnb : nb < d.length := by omega
  obtain ⟨la, hxa⟩ : ∃ l, d[na]? = some l := ⟨_, List.getElem?_eq_getElem hna⟩
  obtain ⟨lb, hxb⟩ : ∃ l, d[nb]? = some l := ⟨_, List.getElem?_eq_getElem hnb⟩
  have hga : d.getD (na : Int).toNat [] = la := by rw [Int.toNat_natCast, List.getD_eq_getElem?_getD, hxa]; rfl
  have hgb : d.getD (nb : Int).toNat [] = lb := by rw [Int.toNat_natCast, List.getD_eq_getElem?_getD, hxb]; rfl
  have hla := List.mem_of_getElem? hxa
  have hlb := List.mem_of_getElem? hxb
  have hlal := hds la hla
  have hlbl := hds lb hlb
  have hKe : exOK d a b c (na : Int) (nb : Int) x y = (exM la lb x y && !(breachOf (exsR d na nb la lb x y) a b c).isSome) := by rw [exOK, hG, exL, hga, hgb, Int.toNat_natCast, Int.toNat_natCast]; rfl
  have hLe : exL d (na : Int) (nb : Int) x y = exsR d na nb la lb x y := by rw [exL, hga, hgb, Int.toNat_natCast, Int.toNat_natCast]
  refine v_skip ?_
  refine n2 _ _ (weak_keep [0, 2, 3, 4, 5, 7] _) ?_
  refine zk ⟨?_⟩
  refine v_seq ?_; intro Q6 n6 e6 r6
  refine v_seqR [0,2,3,4,5,7,77] ?_; intro K7 k7
  have F := Fc.mk (And.intro (fun f => getD_map (f := f) hxa) (And.intro (fun f => getD_map (f := f) hxb) @Int.toNat_natCast))
  refine zMove ⟨?_⟩
  refine zMove ⟨?_⟩
  refine zIndexAddr ⟨?_⟩
  refine zLoad ⟨?_⟩
  refine zMove ⟨?_⟩
  refine zc (slContains_con la x hlal) ⟨?_⟩
  refine zUnOp ⟨?_⟩
  refine zMove ⟨?_⟩
  refine zgMove ⟨?_⟩
  refine zgMove ⟨?_⟩
  refine zgIndexAddr ⟨?_⟩
  refine zgLoad ⟨?_⟩
  refine zgMove ⟨?_⟩
  refine zgc (slContains_con lb x hlbl) ⟨?_⟩
  refine zPick ⟨?_⟩
  refine zMove ⟨?_⟩
  refine zgMove ⟨?_⟩
  refine zgMove ⟨?_⟩
  refine zgIndexAddr ⟨?_⟩
  refine zgLoad ⟨?_⟩
  refine zgMove ⟨?_⟩
  refine zgc (slContains_con lb y hlbl) ⟨?_⟩
  refine zgUnOp ⟨?_⟩
  refine zPick ⟨?_⟩
  refine zMove ⟨?_⟩
  refine zgMove ⟨?_⟩
  refine zgMove ⟨?_⟩
  refine zgIndexAddr ⟨?_⟩
  refine zgLoad ⟨?_⟩
  refine zgMove ⟨?_⟩
  refine zgc (slContains_con la y hlal) ⟨?_⟩
  refine zPick ⟨?_⟩
  refine k7 _ ?_
  refine zk ⟨?_⟩
  refine v_condS _ rfl ?_ ?_
  ·intro hc1
   have hM : exM la lb x y = false := by
    cases hq : exM la lb x y with
    |false => rfl
    |true =>
     exfalso
     obtain ⟨m1, m2, m3, m4⟩ := exM_facts hq
     simp [m1, m2, m3, m4] at hc1
   have hK : exOK d a b c (na : Int) (nb : Int) x y = false := by rw [hKe, hM]; rfl
   refine v_seqR [12,13] ?_; intro K9 k9
   refine zAssign ⟨?_⟩
   refine zAssign ⟨?_⟩
   refine k9 _ ?_
   refine zk ⟨?_⟩
   refine v_ret ?_
   refine r6 _ ?_
   refine r0 _ ?_
   refine zf ⟨?_⟩
   simp only [hK, orNil_f, List.map_nil, List.length_nil, fillK_0R]
   exact ret_all rfl (by first | decide | simp [newIds, refsOf, refs2, refs1]) (by simp) rfl (by simp [newIds, refsOf, refs2, refs1]) (by simp [Blk.kindIs, fillK_fd]) rfl
  ·intro hc1
   have hM : exM la lb x y = true := by
    by_cases m1 : x ∈ la <;> by_cases m2 : x ∈ lb <;> by_cases m3 : y ∈ lb <;> by_cases m4 : y ∈ la <;> simp [m1, m2, m3, m4] at hc1 <;> simp [exM, m1, m2, m3, m4]
   obtain ⟨m1, m2, m3, m4⟩ := exM_facts hM
   have hab : na ≠ nb := fun e => by
    subst e
    rw [hxa] at hxb
    cases hxb
    exact m2 m1
   have hE1 := exc_put (hri la hla) m1 m4
   have hE2 := exc_put (hri lb hlb) m3 m2
   have hxl := exsR_len d na nb la lb x y
   have hXd : (exsR d na nb la lb x y).length ≤ 1048576 := by rw [hxl]; exact hd
   have hXs := exsR_lens (i := na) (j := nb) (x := x) (y := y) hla hlb hds
   have hXi := exsR_in (i := na) (j := nb) hla hlb m1 m3 hro.2.2
   refine v_skip ?_
   refine n6 _ _ (weak_keep [0, 2, 3, 4, 5, 7] _) ?_
   refine zk ⟨?_⟩
   refine v_seqR [0,2,3,4,5,7,14] ?_; intro K10 k10
   refine zAssign ⟨?_⟩
   refine k10 _ ?_
   refine zk ⟨?_⟩
   refine v_seq ?_; intro Q11 n11 e11 r11
   refine v_seqR [2,3,4,5,7,14,78,79,80] ?_; intro K12 k12
   refine zMove ⟨?_⟩
   refine zLen ⟨?_⟩
   refine zMove ⟨?_⟩
   refine k12 _ ?_
   refine zk ⟨?_⟩
   refine v_block ?_; intro Q13 n13 x13 e13 r13
   refine v_loop (fun n => ⟨[(2, .int .i64 (Nat.cast na)), (3, .int .i64 (Nat.cast nb)), (4, .int .i64 x), (5, .int .i64 y), (7, .ptr 0 0 0), (14, .ref 1), (78, .sl (d.map fun l => V.sl (l.map (V.int .i64)))), (79, .int .i64 d.length), (80, .int .i64 (Nat.cast n))], [.box (.agg [.int .i64 a, .int .i64 b, .int .i64 c]) .flat, .arr ((d.take n).map (fun l : List Int => V.sl (l.map (V.int .i64)))) (fillK n)], false, 133, 0⟩) (fun n => n ≤ d.length) (fun n => d.length - n) 0 ?_ ?_ ?_
   ·refine weak_bothS [2, 3, 4, 5, 7, 14, 78, 79, 80] [0, 2] ⟨?_⟩
    rfl
   ·exact Nat.zero_le _
   ·rintro n hok14 Q14 n14 e14 r14
    have hi1 : n ≤ d.length := hok14
    refine v_seqR [2,3,4,5,7,14,78,79,80,81] ?_; intro K15 k15
    refine zBinOp ⟨?_⟩
    refine k15 _ ?_
    refine zk ⟨?_⟩
    refine v_seq ?_; intro Q16 n16 e16 r16
    refine v_condS _ rfl ?_ ?_
    ·intro hc2
     have hlt : n < d.length := by omega
     obtain ⟨s, hx⟩ : ∃ s, d[n]? = some s := ⟨_, List.getElem?_eq_getElem hlt⟩
     have hsl := hds s (List.mem_of_getElem? hx)
     have htn : (d.take n).length = n := by rw [List.length_take]; omega
     have hsn : ((d.take n).map (fun l : List Int => V.sl (l.map (V.int .i64)))) ++ [V.sl (s.map (V.int .i64))] = (d.take (n + 1)).map (fun l : List Int => V.sl (l.map (V.int .i64))) := (take_map_step (f := (fun l : List Int => V.sl (l.map (V.int .i64)))) hx).symm
     refine v_skip ?_
     refine n16 _ _ (weak_keep [2, 3, 4, 5, 7, 14, 78, 79, 80] _) ?_
     refine zk ⟨?_⟩
     refine v_seq ?_; intro Q18 n18 e18 r18
     refine v_block ?_; intro Q19 n19 x19 e19 r19
     refine v_seqR [2,3,4,5,7,14,16,78,79,80] ?_; intro K20 k20
     have F := Fc.mk (And.intro (fun f => getD_map (f := f) hxa) (And.intro (fun f => getD_map (f := f) hxb) (And.intro @Int.toNat_natCast (And.intro (fun f => getD_map (f := f) hx) htn))))
     refine zIndexAddr ⟨?_⟩
     refine zLoad ⟨?_⟩
     refine zAssign ⟨?_⟩
     refine k20 _ ?_
     refine zk ⟨?_⟩
     refine v_region ?_; intro K21 k21
     refine zMove ⟨?_⟩
     refine zMove ⟨?_⟩
     refine zc (cloneInt_con s hsl) ⟨?_⟩
     refine zBuildSlice ⟨?_⟩
     refine zAppend ⟨?_⟩
     refine zAssign ⟨?_⟩
     refine k21 _ ?_
     refine n19 _ ?_
     refine n18 _ _ (weak_keep [2, 3, 4, 5, 7, 14, 78, 79, 80] _) ?_
     refine zk ⟨?_⟩
     refine v_region ?_; intro K22 k22
     refine zBinOpW ⟨?_⟩
     refine zMove ⟨?_⟩
     refine k22 _ ?_
     refine n14 _ (n + 1) ?_ ?_ ?_
     ·refine weak_bothS [2, 3, 4, 5, 7, 14, 78, 79, 80] [0, 4] ⟨?_⟩
      rw [← hsn]; rfl
     ·exact hlt
     ·show _ < _; omega
    ·intro hc2
     have hend : n = d.length := by omega
     subst hend
     obtain ⟨pa, hpa, hia⟩ := idx_at 0 m1
     obtain ⟨pb, hpb, hib⟩ := idx_at 0 m3
     rw [Nat.zero_add] at hia hib
     have hpal : pa < la.length := (List.getElem?_eq_some_iff.1 hpa).1
     have hpbl : pb < lb.length := (List.getElem?_eq_some_iff.1 hpb).1
     have nea := ne_set (y := y) hpa
     have neb := ne_set (y := x) hpb
     have hra := row_getN (N := 2) hxa nea.1
     have hrb := row_getN (N := 2) hxb neb.1
     have hrl := rowsF_len d 2
     have hsa1 : (la.map (V.int .i64)).set pa (V.int .i64 y) = (la.set pa y).map (V.int .i64) := by rw [List.map_set]
     have hsb1 : (lb.map (V.int .i64)).set pb (V.int .i64 x) = (lb.set pb x).map (V.int .i64) := by rw [List.map_set]
     have hOa := news_get2 (f := V.int .i64) (b := (.box (.agg [.int .i64 a, .int .i64 b, .int .i64 c]) .flat)) (b' := (.arr (rowsF 2 d) .mix)) hxa nea.1
     have RA : Rw _ _ _ := ⟨hOa⟩
     have hSa := news_set2 (f := V.int .i64) (b := (.box (.agg [.int .i64 a, .int .i64 b, .int .i64 c]) .flat)) (b' := (.arr (rowsF 2 d) .mix)) (ll := d) (i := na) nea.2
     have hx1 : (d.set na (la.set pa y))[nb]? = some lb := by rw [List.getElem?_set_ne hab]; exact hxb
     have hOb := news_get2 (f := V.int .i64) (b := (.box (.agg [.int .i64 a, .int .i64 b, .int .i64 c]) .flat)) (b' := (.arr (rowsF 2 d) .mix)) hx1 neb.1
     have RB : Rw _ _ _ := ⟨hOb⟩
     have hSb := news_set2 (f := V.int .i64) (b := (.box (.agg [.int .i64 a, .int .i64 b, .int .i64 c]) .flat)) (b' := (.arr (rowsF 2 d) .mix)) (ll := (d.set na (la.set pa y))) (i := nb) neb.2
     have hea : sortL (la.set pa y) = excR la x y := by rw [excR, hia, Int.toNat_natCast]
     have heb : sortL (lb.set pb x) = excR lb y x := by rw [excR, hib, Int.toNat_natCast]
     have hx2 : ((d.set na (la.set pa y)).set nb (lb.set pb x))[na]? = some (la.set pa y) := by rw [List.getElem?_set_ne (Ne.symm hab)]; exact List.getElem?_set_self hna
     have hO2 := news_get2 (f := V.int .i64) (b := (.box (.agg [.int .i64 a, .int .i64 b, .int .i64 c]) .flat)) (b' := (.arr (rowsF 2 d) .mix)) hx2 nea.2
     have nxa : (excR la x y).isEmpty = false := ne_len exc_len nea.1
     have nxb : (excR lb y x).isEmpty = false := ne_len exc_len neb.1
     have hS2 := news_set2 (f := V.int .i64) (b := (.box (.agg [.int .i64 a, .int .i64 b, .int .i64 c]) .flat)) (b' := (.arr (rowsF 2 d) .mix)) (ll := ((d.set na (la.set pa y)).set nb (lb.set pb x))) (i := na) nxa
     have hx3 : (((d.set na (la.set pa y)).set nb (lb.set pb x)).set na (excR la x y))[nb]? = some (lb.set pb x) := by rw [List.getElem?_set_ne hab]; exact List.getElem?_set_self (by rw [List.length_set]; exact hnb)
     have hO3 := news_get2 (f := V.int .i64) (b := (.box (.agg [.int .i64 a, .int .i64 b, .int .i64 c]) .flat)) (b' := (.arr (rowsF 2 d) .mix)) hx3 neb.2
     have hS3 := news_set2 (f := V.int .i64) (b := (.box (.agg [.int .i64 a, .int .i64 b, .int .i64 c]) .flat)) (b' := (.arr (rowsF 2 d) .mix)) (ll := (((d.set na (la.set pa y)).set nb (lb.set pb x)).set na (excR la x y))) (i := nb) nxb
     have hD4 : ((((d.set na (la.set pa y)).set nb (lb.set pb x)).set na (excR la x y)).set nb (excR lb y x)) = exsR d na nb la lb x y := set4 hab
     have hrs : rowsF 2 d = rowsF 2 (exsR d na nb la lb x y) := rowsF_same _ _ _ (by
      rw [exsR, same_set (x := lb) (by rw [List.getElem?_set_ne hab]; exact hxb) (by rw [nxb, neb.1]), same_set hxa (by rw [nxa, nea.1])])
     have hls1 : (la.set pa y).length = la.length := List.length_set
     have hls2 : (lb.set pb x).length = lb.length := List.length_set
     refine v_exit ?_
     refine e16 _ _ ?_
     refine e14 _ _ ?_
     refine x13 _ ?_
     apply n11
     ·apply weak_trans (weak_keep [2, 3, 4, 5, 7, 14] _)
      simp only [keep_mk, keepE_nil, keepE_cons, look_cons, look_nil, Nat.reduceEqDiff, reduceIte]
      rw [List.take_length]
      exact weak_open (f := V.int .i64) 1 d (fillK d.length) rfl (fillK_or _) rfl (fun _ => rfl)
     try simp only [atSlot_cons, atSlot_nil, Nat.reduceEqDiff, reduceIte, List.set_cons_zero, List.set_cons_succ]
     refine v_seq ?_; intro Q23 n23 e23 r23
     refine v_draw (by kernel_rfl) ?_; intro K24 q24 k24
     show aAny _ _ _ _ 13 (Array.replicate 13 false) _
     have F := Fc.mk (And.intro (fun f => getD_map (f := f) hxa) (And.intro (fun f => getD_map (f := f) hxb) (And.intro @Int.toNat_natCast (And.intro (fun f => getD_map (f := f) hpa) (And.intro (fun f => getD_map (f := f) hpb) (And.intro hra (And.intro hrb (And.intro hrl (And.intro hsa1 (And.intro hsb1 (And.intro hOa (And.intro hOb (And.intro hSa (And.intro hSb (And.intro hia (And.intro hib (And.intro hO2 (And.intro hO3 (And.intro hea (And.intro heb (And.intro hS2 (And.intro hS3 (And.intro hD4 (And.intro hls1 hls2))))))))))))))))))))))))
     refine zdMove q24 true 0 90 ?_
     refine zdMove q24 true 1 91 ?_
     refine aAny_take q24 true 2 92 rfl rfl (by kernel_rfl) (by kernel_rfl) ?_
     apply Exists.intro; apply And.intro
     ·intro t hn gx ho K' k'
      have g90 := gx 90 (by decide)
      have g91 := gx 91 (by decide)
      simp only [get_mk, look_cons, look_nil, set_some, Nat.reduceEqDiff, reduceIte] at g90 g91
      first | have row0 := grow_row (i := 0) (ho rfl) rfl | have row0 : t.n + 0 = t.n := rfl
      first | have row1 := grow_row (i := 1) (ho rfl) rfl | have row1 : t.n + 0 = t.n := rfl
      first | have row2 := grow_row (i := 2) (ho rfl) rfl | have row2 : t.n + 0 = t.n := rfl
      first | have row3 := grow_row (i := 3) (ho rfl) rfl | have row3 : t.n + 0 = t.n := rfl
      first | have row4 := grow_row (i := 4) (ho rfl) rfl | have row4 : t.n + 0 = t.n := rfl
      first | have row5 := grow_row (i := 5) (ho rfl) rfl | have row5 : t.n + 0 = t.n := rfl
      have hdl : 92 < t.n := by rw [hn]; show 92 < 133; decide
      clear hn
      refine .inl ?_
      simp only [zE, zL, zN, hdl, aStepM, optable, Nat.reduceEqDiff, reduceIte, implies_true, forall_const, reduceCtorEq, V.ofValue, V.ofScalar, V.un, V.gd, aExec, aop, g90, g91, row0, row1, row2, row3, row4, row5, List.mem_cons, List.not_mem_nil, or_false, forall_eq_or_imp, forall_eq, aIndexAddr, row_mk, Blk.row, Go.Vm.V.cells, List.forall_mem_map, List.length_map, Int.toNat_natCast, Int.reduceToNat, TypeDesc.slice.injEq, Nat.reduceAdd, Nat.reduceLeDiff, Nat.reduceLT, Nat.reduceMul, Tryd.underlying23, Ty.c23, Ty.a23, Tryd.underlying36, Ty.c36, Ty.a36, getD_map hxa, getD_map hxb, getD_map hpa, getD_map hpb, hra, hrb, hrl, hsa1, hsb1, hOa, hOb, hSa, hSb, hia, hib, hO2, hO3, hea, heb, hS2, hS3, hD4, hls1, hls2]
      repeat (refine And.intro (by first | omega | exact rowsF_cell1 d 2 | (intros; omega)) ?_)
      exact k'
     simp only [set_some]
     refine zdLoad q24 true 3 93 ?_
     refine zdMove q24 true 4 94 ?_
     refine zdMove q24 true 5 95 ?_
     refine aAny_take q24 true 6 96 rfl rfl (by kernel_rfl) (by kernel_rfl) ?_
     apply Exists.intro; apply And.intro
     ·intro t hn gx ho K' k'
      have g94 := gx 94 (by decide)
      have g95 := gx 95 (by decide)
      simp only [get_mk, look_cons, look_nil, set_some, Nat.reduceEqDiff, reduceIte] at g94 g95
      first | have row0 := grow_row (i := 0) (ho rfl) rfl | have row0 : t.n + 0 = t.n := rfl
      first | have row1 := grow_row (i := 1) (ho rfl) rfl | have row1 : t.n + 0 = t.n := rfl
      first | have row2 := grow_row (i := 2) (ho rfl) rfl | have row2 : t.n + 0 = t.n := rfl
      first | have row3 := grow_row (i := 3) (ho rfl) rfl | have row3 : t.n + 0 = t.n := rfl
      first | have row4 := grow_row (i := 4) (ho rfl) rfl | have row4 : t.n + 0 = t.n := rfl
      first | have row5 := grow_row (i := 5) (ho rfl) rfl | have row5 : t.n + 0 = t.n := rfl
      have hdl : 96 < t.n := by rw [hn]; show 96 < 133; decide
      clear hn
      refine .inl ?_
      simp only [zE, zL, zN, hdl, aStepM, optable, Nat.reduceEqDiff, reduceIte, implies_true, forall_const, reduceCtorEq, V.ofValue, V.ofScalar, V.un, V.gd, aExec, aop, g94, g95, row0, row1, row2, row3, row4, row5, List.mem_cons, List.not_mem_nil, or_false, forall_eq_or_imp, forall_eq, aIndexAddr, row_mk, Blk.row, Go.Vm.V.cells, List.forall_mem_map, List.length_map, Int.toNat_natCast, Int.reduceToNat, TypeDesc.slice.injEq, Nat.reduceAdd, Nat.reduceLeDiff, Nat.reduceLT, Nat.reduceMul, Tryd.underlying23, Ty.c23, Ty.a23, Tryd.underlying36, Ty.c36, Ty.a36, getD_map hxa, getD_map hxb, getD_map hpa, getD_map hpb, hra, hrb, hrl, hsa1, hsb1, hOa, hOb, hSa, hSb, hia, hib, hO2, hO3, hea, heb, hS2, hS3, hD4, hls1, hls2]
      repeat (refine And.intro (by first | omega | exact rowsF_cell1 d 2 | (intros; omega)) ?_)
      exact k'
     simp only [set_some]
     refine zdLoad q24 true 7 97 ?_
     refine zdMove q24 true 8 98 ?_
     refine zdMove q24 true 10 100 ?_
     refine aAny_only 9 rfl (by kernel_rfl) ?_; intro K k
     simp only [zE, zM, aStepM, optable, set_some, Nat.reduceEqDiff, reduceIte, Nat.reduceLT, implies_true, forall_const, reduceCtorEq, V.ofValue, V.ofScalar, V.un, V.gd, aExec, lentIds, lendOf, Tryd.underlying3, Ty.c3, Ty.a3, Ty.b3, Ty.s3, Tryd.underlying36, Ty.c36, Ty.a36, Ty.b36, Ty.s36]
     repeat (refine And.intro (by first | rfl | (intros; simp_all; done)) ?_)
     refine aCall_new (slIndex_con la x hlal) (by first | rfl | (simp only [toArgs, toArg, toCell, toCells, idx, row_mk, List.getElem?_cons_zero, List.getElem?_cons_succ, Option.bind_some, Option.map_some, Blk.row, fillK_mix, flat_mix, deep_mix, thin_mix, shal_mix, cond_true, List.map_take, hOa]; done) | (simp [toArgs, toArg, toCell, toCells, idx, row_mk, Blk.row, fillK_mix, flat_mix, deep_mix, thin_mix, shal_mix, Nat.beq_refl, hOa]; done)) (by first | exact .inl ⟨rfl, by simp [Blk.kindIs, fillK_fd]⟩ | exact .inr (by simp [V.cold])) ?_
     refine k _ ?_; clear k K
     simp only [zY, zW, set_some, Nat.reduceEqDiff, reduceIte, V.ren, V.renL, rho, Nat.reduceAdd]
     refine zdIndexAddrR q24 true 11 101 ?_
     refine zoStore 12 ⟨?_⟩
     refine aAny_done (by kernel_rfl) ?_
     refine k24 _ ?_
     apply n23
     ·apply weak_trans (weak_keep [2, 3, 4, 5, 7, 14] _)
      simp only [keep_mk, keepE_nil, keepE_cons, look_cons, look_nil, Nat.reduceEqDiff, reduceIte]
      exact weak_O (((.box (.agg [.int .i64 a, .int .i64 b, .int .i64 c]) .flat) :: (.arr (rowsF 2 d) .mix) :: newsF (V.int .i64) (d.set na (la.set pa y)))) (by simp only [hsa1, hSa])
     try simp only [atSlot_cons, atSlot_nil, Nat.reduceEqDiff, reduceIte, List.set_cons_zero, List.set_cons_succ]
     refine v_seq ?_; intro Q25 n25 e25 r25
     refine v_draw (by kernel_rfl) ?_; intro K26 q26 k26
     show aAny _ _ _ _ 13 (Array.replicate 13 false) _
     refine zdMove q26 true 0 102 ?_
     refine zdMove q26 true 1 103 ?_
     refine aAny_take q26 true 2 104 rfl rfl (by kernel_rfl) (by kernel_rfl) ?_
     apply Exists.intro; apply And.intro
     ·intro t hn gx ho K' k'
      have g102 := gx 102 (by decide)
      have g103 := gx 103 (by decide)
      simp only [get_mk, look_cons, look_nil, set_some, Nat.reduceEqDiff, reduceIte] at g102 g103
      first | have row0 := grow_row (i := 0) (ho rfl) rfl | have row0 : t.n + 0 = t.n := rfl
      first | have row1 := grow_row (i := 1) (ho rfl) rfl | have row1 : t.n + 0 = t.n := rfl
      first | have row2 := grow_row (i := 2) (ho rfl) rfl | have row2 : t.n + 0 = t.n := rfl
      first | have row3 := grow_row (i := 3) (ho rfl) rfl | have row3 : t.n + 0 = t.n := rfl
      first | have row4 := grow_row (i := 4) (ho rfl) rfl | have row4 : t.n + 0 = t.n := rfl
      first | have row5 := grow_row (i := 5) (ho rfl) rfl | have row5 : t.n + 0 = t.n := rfl
      have hdl : 104 < t.n := by rw [hn]; show 104 < 133; decide
      clear hn
      refine .inl ?_
      simp only [zE, zL, zN, hdl, aStepM, optable, Nat.reduceEqDiff, reduceIte, implies_true, forall_const, reduceCtorEq, V.ofValue, V.ofScalar, V.un, V.gd, aExec, aop, g102, g103, row0, row1, row2, row3, row4, row5, List.mem_cons, List.not_mem_nil, or_false, forall_eq_or_imp, forall_eq, aIndexAddr, row_mk, Blk.row, Go.Vm.V.cells, List.forall_mem_map, List.length_map, Int.toNat_natCast, Int.reduceToNat, TypeDesc.slice.injEq, Nat.reduceAdd, Nat.reduceLeDiff, Nat.reduceLT, Nat.reduceMul, Tryd.underlying23, Ty.c23, Ty.a23, Tryd.underlying36, Ty.c36, Ty.a36, getD_map hxa, getD_map hxb, getD_map hpa, getD_map hpb, hra, hrb, hrl, hsa1, hsb1, hOa, hOb, hSa, hSb, hia, hib, hO2, hO3, hea, heb, hS2, hS3, hD4, hls1, hls2]
      repeat (refine And.intro (by first | omega | exact rowsF_cell1 d 2 | (intros; omega)) ?_)
      exact k'
     simp only [set_some]
     refine zdLoad q26 true 3 105 ?_
     refine zdMove q26 true 4 106 ?_
     refine zdMove q26 true 5 107 ?_
     refine aAny_take q26 true 6 108 rfl rfl (by kernel_rfl) (by kernel_rfl) ?_
     apply Exists.intro; apply And.intro
     ·intro t hn gx ho K' k'
      have g106 := gx 106 (by decide)
      have g107 := gx 107 (by decide)
      simp only [get_mk, look_cons, look_nil, set_some, Nat.reduceEqDiff, reduceIte] at g106 g107
      first | have row0 := grow_row (i := 0) (ho rfl) rfl | have row0 : t.n + 0 = t.n := rfl
      first | have row1 := grow_row (i := 1) (ho rfl) rfl | have row1 : t.n + 0 = t.n := rfl
      first | have row2 := grow_row (i := 2) (ho rfl) rfl | have row2 : t.n + 0 = t.n := rfl
      first | have row3 := grow_row (i := 3) (ho rfl) rfl | have row3 : t.n + 0 = t.n := rfl
      first | have row4 := grow_row (i := 4) (ho rfl) rfl | have row4 : t.n + 0 = t.n := rfl
      first | have row5 := grow_row (i := 5) (ho rfl) rfl | have row5 : t.n + 0 = t.n := rfl
      have hdl : 108 < t.n := by rw [hn]; show 108 < 133; decide
      clear hn
      refine .inl ?_
      simp only [zE, zL, zN, hdl, aStepM, optable, Nat.reduceEqDiff, reduceIte, implies_true, forall_const, reduceCtorEq, V.ofValue, V.ofScalar, V.un, V.gd, aExec, aop, g106, g107, row0, row1, row2, row3, row4, row5, List.mem_cons, List.not_mem_nil, or_false, forall_eq_or_imp, forall_eq, aIndexAddr, row_mk, Blk.row, Go.Vm.V.cells, List.forall_mem_map, List.length_map, Int.toNat_natCast, Int.reduceToNat, TypeDesc.slice.injEq, Nat.reduceAdd, Nat.reduceLeDiff, Nat.reduceLT, Nat.reduceMul, Tryd.underlying23, Ty.c23, Ty.a23, Tryd.underlying36, Ty.c36, Ty.a36, getD_map hxa, getD_map hxb, getD_map hpa, getD_map hpb, hra, hrb, hrl, hsa1, hsb1, hOa, hOb, hSa, hSb, hia, hib, hO2, hO3, hea, heb, hS2, hS3, hD4, hls1, hls2]
      repeat (refine And.intro (by first | omega | exact rowsF_cell1 d 2 | (intros; omega)) ?_)
      exact k'
     simp only [set_some]
     refine zdLoad q26 true 7 109 ?_
     refine zdMove q26 true 8 110 ?_
     refine zdMove q26 true 10 112 ?_
     refine aAny_only 9 rfl (by kernel_rfl) ?_; intro K k
     simp only [zE, zM, aStepM, optable, set_some, Nat.reduceEqDiff, reduceIte, Nat.reduceLT, implies_true, forall_const, reduceCtorEq, V.ofValue, V.ofScalar, V.un, V.gd, aExec, lentIds, lendOf, Tryd.underlying3, Ty.c3, Ty.a3, Ty.b3, Ty.s3, Tryd.underlying36, Ty.c36, Ty.a36, Ty.b36, Ty.s36]
     repeat (refine And.intro (by first | rfl | (intros; simp_all; done)) ?_)
     refine aCall_new (slIndex_con lb y hlbl) (by first | rfl | (simp only [toArgs, toArg, toCell, toCells, idx, row_mk, List.getElem?_cons_zero, List.getElem?_cons_succ, Option.bind_some, Option.map_some, Blk.row, fillK_mix, flat_mix, deep_mix, thin_mix, shal_mix, cond_true, List.map_take, hOb]; done) | (simp [toArgs, toArg, toCell, toCells, idx, row_mk, Blk.row, fillK_mix, flat_mix, deep_mix, thin_mix, shal_mix, Nat.beq_refl, hOb]; done)) (by first | exact .inl ⟨rfl, by simp [Blk.kindIs, fillK_fd]⟩ | exact .inr (by simp [V.cold])) ?_
     refine k _ ?_; clear k K
     simp only [zY, zW, set_some, Nat.reduceEqDiff, reduceIte, V.ren, V.renL, rho, Nat.reduceAdd]
     refine zdIndexAddrR q26 true 11 113 ?_
     refine zoStore 12 ⟨?_⟩
     refine aAny_done (by kernel_rfl) ?_
     refine k26 _ ?_
     apply n25
     ·apply weak_trans (weak_keep [2, 3, 7, 14] _)
      simp only [keep_mk, keepE_nil, keepE_cons, look_cons, look_nil, Nat.reduceEqDiff, reduceIte]
      exact weak_O (((.box (.agg [.int .i64 a, .int .i64 b, .int .i64 c]) .flat) :: (.arr (rowsF 2 d) .mix) :: newsF (V.int .i64) ((d.set na (la.set pa y)).set nb (lb.set pb x)))) (by simp only [hsb1, hSb])
     try simp only [atSlot_cons, atSlot_nil, Nat.reduceEqDiff, reduceIte, List.set_cons_zero, List.set_cons_succ]
     refine v_seq ?_; intro Q27 n27 e27 r27
     refine v_region ?_; intro K28 k28
     refine zMove ⟨?_⟩
     refine zMove ⟨?_⟩
     refine v_op ?_; intro K k
     simp only [zE, zL, zN, aStepM, optable, set_some, Nat.reduceEqDiff, reduceIte, Nat.reduceLT, implies_true, forall_const, reduceCtorEq, V.ofValue, V.ofScalar, V.un, V.gd, aExec, aop, List.mem_cons, List.not_mem_nil, or_false, forall_eq_or_imp, forall_eq, aIndexAddr, row_mk, Blk.row, Go.Vm.V.cells, List.forall_mem_map, List.length_map, Int.toNat_natCast, Int.reduceToNat, TypeDesc.slice.injEq, Nat.reduceAdd, Nat.reduceLeDiff, Nat.reduceMul, Tryd.underlying23, Ty.c23, Ty.a23, Tryd.underlying36, Ty.c36, Ty.a36, getD_map hxa, getD_map hxb, getD_map hpa, getD_map hpb, hra, hrb, hrl, hsa1, hsb1, hOa, hOb, hSa, hSb, hia, hib, hO2, hO3, hea, heb, hS2, hS3, hD4, hls1, hls2]
     repeat (refine And.intro (by first | omega | exact rowsF_cell1 d 2 | (intros; omega)) ?_)
     refine k _ ?_; clear k K
     refine zLoad ⟨?_⟩
     refine v_op ?_; intro K k
     simp only [zE, zM, aStepM, optable, set_some, Nat.reduceEqDiff, reduceIte, Nat.reduceLT, implies_true, forall_const, reduceCtorEq, V.ofValue, V.ofScalar, V.un, V.gd, aExec, lentIds, lendOf, Tryd.underlying3, Ty.c3, Ty.a3, Ty.b3, Ty.s3, Tryd.underlying36, Ty.c36, Ty.a36, Ty.b36, Ty.s36]
     repeat (refine And.intro (by first | rfl | (intros; simp_all; done)) ?_)
     refine aCall_lent _ (sortAny_con (la.set pa y) (by omega)) (by first | rfl | (simp only [toArgs, toArg, toCell, toCells, idx, row_mk, List.getElem?_cons_zero, List.getElem?_cons_succ, Option.bind_some, Option.map_some, Blk.row, fillK_mix, flat_mix, deep_mix, thin_mix, shal_mix, cond_true, List.map_take]; done) | (simp [toArgs, toArg, toCell, toCells, idx, row_mk, Blk.row, fillK_mix, flat_mix, deep_mix, thin_mix, shal_mix, Nat.beq_refl]; done)) hO2 ⟨by simp [Blk.kindIs, fillK_mix], by simp⟩ (by first | exact .inl rfl | exact .inr (by simp [Blk.kindIs])) ⟨rfl, by simp [Blk.kindIs, fillK_fd]⟩ ?_
     refine k _ ?_; clear k K
     simp only [zY, zW, set_some, Nat.reduceEqDiff, reduceIte, rho_one, rho_s, V.ren, V.renL, List.set_cons_zero, List.set_cons_succ, Nat.reduceAdd]
     refine k28 _ ?_
     apply n27
     ·apply weak_trans (weak_keep [3, 7, 14] _)
      simp only [keep_mk, keepE_nil, keepE_cons, look_cons, look_nil, Nat.reduceEqDiff, reduceIte]
      exact weak_O (((.box (.agg [.int .i64 a, .int .i64 b, .int .i64 c]) .flat) :: (.arr (rowsF 2 d) .mix) :: newsF (V.int .i64) (((d.set na (la.set pa y)).set nb (lb.set pb x)).set na (excR la x y)))) (by simp only [hea, hS2])
     try simp only [atSlot_cons, atSlot_nil, Nat.reduceEqDiff, reduceIte, List.set_cons_zero, List.set_cons_succ]
     refine v_seq ?_; intro Q29 n29 e29 r29
     refine v_region ?_; intro K30 k30
     refine zMove ⟨?_⟩
     refine zMove ⟨?_⟩
     refine v_op ?_; intro K k
     simp only [zE, zL, zN, aStepM, optable, set_some, Nat.reduceEqDiff, reduceIte, Nat.reduceLT, implies_true, forall_const, reduceCtorEq, V.ofValue, V.ofScalar, V.un, V.gd, aExec, aop, List.mem_cons, List.not_mem_nil, or_false, forall_eq_or_imp, forall_eq, aIndexAddr, row_mk, Blk.row, Go.Vm.V.cells, List.forall_mem_map, List.length_map, Int.toNat_natCast, Int.reduceToNat, TypeDesc.slice.injEq, Nat.reduceAdd, Nat.reduceLeDiff, Nat.reduceMul, Tryd.underlying23, Ty.c23, Ty.a23, Tryd.underlying36, Ty.c36, Ty.a36, getD_map hxa, getD_map hxb, getD_map hpa, getD_map hpb, hra, hrb, hrl, hsa1, hsb1, hOa, hOb, hSa, hSb, hia, hib, hO2, hO3, hea, heb, hS2, hS3, hD4, hls1, hls2]
     repeat (refine And.intro (by first | omega | exact rowsF_cell1 d 2 | (intros; omega)) ?_)
     refine k _ ?_; clear k K
     refine zLoad ⟨?_⟩
     refine v_op ?_; intro K k
     simp only [zE, zM, aStepM, optable, set_some, Nat.reduceEqDiff, reduceIte, Nat.reduceLT, implies_true, forall_const, reduceCtorEq, V.ofValue, V.ofScalar, V.un, V.gd, aExec, lentIds, lendOf, Tryd.underlying3, Ty.c3, Ty.a3, Ty.b3, Ty.s3, Tryd.underlying36, Ty.c36, Ty.a36, Ty.b36, Ty.s36]
     repeat (refine And.intro (by first | rfl | (intros; simp_all; done)) ?_)
     refine aCall_lent _ (sortAny_con (lb.set pb x) (by omega)) (by first | rfl | (simp only [toArgs, toArg, toCell, toCells, idx, row_mk, List.getElem?_cons_zero, List.getElem?_cons_succ, Option.bind_some, Option.map_some, Blk.row, fillK_mix, flat_mix, deep_mix, thin_mix, shal_mix, cond_true, List.map_take]; done) | (simp [toArgs, toArg, toCell, toCells, idx, row_mk, Blk.row, fillK_mix, flat_mix, deep_mix, thin_mix, shal_mix, Nat.beq_refl]; done)) hO3 ⟨by simp [Blk.kindIs, fillK_mix], by simp⟩ (by first | exact .inl rfl | exact .inr (by simp [Blk.kindIs])) ⟨rfl, by simp [Blk.kindIs, fillK_fd]⟩ ?_
     refine k _ ?_; clear k K
     simp only [zY, zW, set_some, Nat.reduceEqDiff, reduceIte, rho_one, rho_s, V.ren, V.renL, List.set_cons_zero, List.set_cons_succ, Nat.reduceAdd]
     refine k30 _ ?_
     apply n29
     ·apply weak_trans (weak_keep [7, 14] _)
      simp only [keep_mk, keepE_nil, keepE_cons, look_cons, look_nil, Nat.reduceEqDiff, reduceIte]
      simp only [hea, heb, hS2, hS3, hD4]
      rw [hrs]
      refine weak_trans (weak_close (f := V.int .i64) (A := [(.box (.agg [.int .i64 a, .int .i64 b, .int .i64 c]) .flat), .arr (rowsF 2 (exsR d na nb la lb x y)) .mix]) 1 (exsR d na nb la lb x y) rfl rfl) (weak_comp [0, 1] (by decide) (by simp) ?_ ?_)
      ·simp [keep_mk, keepE_nil, keepE_cons, look_cons, V.only, V.onlyL, idx] <;> (first | rfl | decide)
      ·simp [Blk.kindIs, fillK_mix]
     try simp only [atSlot_cons, atSlot_nil, Nat.reduceEqDiff, reduceIte, List.set_cons_zero, List.set_cons_succ, St.comp, List.map_cons, List.map_nil, V.ren, V.renL, idx, List.getD_cons_zero, List.getD_cons_succ, Nat.reduceBEq, cond_true, cond_false, Option.map_some, Option.getD_some, Nat.reduceAdd, beq_dec, decide_true, decide_false, List.cons_append, List.nil_append]
     refine v_seq ?_; intro Q31 n31 e31 r31
     refine v_seqR [14,19] ?_; intro K32 k32
     refine zMove ⟨?_⟩
     refine zLoad ⟨?_⟩
     refine zc (firstBreach_con (exsR d na nb la lb x y) a b c hXd hXs hdi.1 hdi.2.1 hdi.2.2 hXi) ⟨?_⟩
     refine zMove ⟨?_⟩
     refine zExtract ⟨?_⟩
     refine zExtract ⟨?_⟩
     refine zExtract ⟨?_⟩
     refine zAssign ⟨?_⟩
     refine zAssign ⟨?_⟩
     refine zAssign ⟨?_⟩
     refine k32 _ ?_
     refine zk ⟨?_⟩
     refine v_seqR [14,131] ?_; intro K33 k33
     refine zMove ⟨?_⟩
     refine k33 _ ?_
     refine zk ⟨?_⟩
     refine v_condS _ rfl ?_ ?_
     ·intro hc3
      have hBR : (breachOf (exsR d na nb la lb x y) a b c).isSome = true := hc3
      refine v_seqR [12,13] ?_; intro K35 k35
      refine zAssign ⟨?_⟩
      refine zAssign ⟨?_⟩
      refine k35 _ ?_
      refine zk ⟨?_⟩
      refine v_ret ?_
      refine r31 _ ?_
      refine r0 _ ?_
      refine zf ⟨?_⟩
      have hK : exOK d a b c (na : Int) (nb : Int) x y = false := by rw [hKe, hM, hBR]; rfl
      simp only [hK, orNil_f, List.map_nil, List.length_nil, fillK_0R]
      exact ret_all rfl (by first | decide | simp [newIds, refsOf, refs2, refs1]) (by simp) rfl (by simp [newIds, refsOf, refs2, refs1]) (by simp [Blk.kindIs, fillK_fd]) rfl
     ·intro hc3
      have hBR : (breachOf (exsR d na nb la lb x y) a b c).isSome = false := hc3
      refine v_skip ?_
      refine n31 _ _ (weak_keep [14] _) ?_
      refine zk ⟨?_⟩
      refine v_seqR [12,13] ?_; intro K36 k36
      refine zMove ⟨?_⟩
      refine zAssign ⟨?_⟩
      refine zAssign ⟨?_⟩
      refine k36 _ ?_
      refine zk ⟨?_⟩
      refine v_ret ?_
      refine r0 _ ?_
      refine zf ⟨?_⟩
      have hK : exOK d a b c (na : Int) (nb : Int) x y = true := by rw [hKe, hM, hBR]; rfl
      have hkd : fillK d.length = .deep := by unfold fillK; rw [if_neg (by omega)]
      simp only [hK, orNil_t, hLe, hxl, hkd]
      exact ret_all rfl (by first | decide | simp [newIds, refsOf, refs2, refs1]) (by simp) rfl (by simp [newIds, refsOf, refs2, refs1, slR]) (by simp [Blk.kindIs, fillK_fd]) rfl
set_option maxRecDepth 100000 in
set_option maxHeartbeats 8000000 in
theorem specExch_con (d : List (List Int)) (a b c sa sb x y : Int) (hd : d.length ≤ 1048576) (hds : ∀ l ∈ d, l.length ≤ 1048576) : Con Tryd.prog 8 [.sl (d.map fun l => V.sl (l.map (V.int .i64))), .agg [.int .i64 a, .int .i64 b, .int .i64 c], .int .i64 sa, .int .i64 sb, .int .i64 x, .int .i64 y] [] (.tup [.ref 0, .bool (exOK d a b c sa sb x y)]) [.arr ((orNil (exOK d a b c sa sb x y) (exL d sa sb x y)).map (fun l : List Int => V.sl (l.map (V.int .i64)))) (fillK (orNil (exOK d a b c sa sb x y) (exL d sa sb x y)).length)] := by
 refine v_con [.tmp 12, .tmp 13] [] Tryd.func8 rfl rfl rfl (by simp [Tryd.ntmps8]) ?_
 intro Q0 n0 r0
 simp only [Tryd.ntmps8, envFrom, Nat.reduceAdd]
 have T := Tys.mk (And.intro Ty.t3 (And.intro Ty.t4 (And.intro Ty.t23 (And.intro Ty.t25 Ty.t36))))
 have F := Fc.mk True.intro
 refine v_seqR [0,2,3,4,5,7] ?_; intro K1 k1
 refine zBox ⟨?_⟩
 refine zAssign ⟨?_⟩
 refine zAssign ⟨?_⟩
 refine k1 _ ?_
 refine zk ⟨?_⟩
 refine v_seq ?_; intro Q2 n2 e2 r2
 refine v_seqR [0,2,3,4,5,7,45] ?_; intro K3 k3
 refine zLoad ⟨?_⟩
 refine zc (duGood_con a b c) ⟨?_⟩
 refine zUnOp ⟨?_⟩
 refine zMove ⟨?_⟩
 refine zgMove ⟨?_⟩
 refine zgFieldAddr ⟨?_⟩
 refine zgLoad ⟨?_⟩
 refine zgc (duRoster_con d a hd hds) ⟨?_⟩
 refine zgUnOp ⟨?_⟩
 refine zPick ⟨?_⟩
 refine zMove ⟨?_⟩
 refine zgMove ⟨?_⟩
 refine zgMove ⟨?_⟩
 refine zgLen ⟨?_⟩
 refine zgBinOpW ⟨?_⟩
 refine zgc (l1In_con _ _ _) ⟨?_⟩
 refine zgUnOp ⟨?_⟩
 refine zPick ⟨?_⟩
 refine zMove ⟨?_⟩
 refine zgMove ⟨?_⟩
 refine zgMove ⟨?_⟩
 refine zgLen ⟨?_⟩
 refine zgBinOpW ⟨?_⟩
 refine zgc (l1In_con _ _ _) ⟨?_⟩
 refine zgUnOp ⟨?_⟩
 refine zPick ⟨?_⟩
 refine k3 _ ?_
 refine zk ⟨?_⟩
 refine v_condS _ rfl ?_ ?_
 ·intro hc0
  have hG : (exG d a b c sa sb) = false := by
   cases hq : (exG d a b c sa sb) with
   |false => rfl
   |true =>
    exfalso
    obtain ⟨q1, q2, q3, q4⟩ := exG_facts hq
    simp [q1, q2] at hc0
    omega
  have hK : (exOK d a b c sa sb x y) = false := by rw [exOK, hG]; rfl
  refine v_seqR [12,13] ?_; intro K5 k5
  refine zAssign ⟨?_⟩
  refine zAssign ⟨?_⟩
  refine k5 _ ?_
  refine zk ⟨?_⟩
  refine v_ret ?_
  refine r2 _ ?_
  refine r0 _ ?_
  refine zf ⟨?_⟩
  simp only [hK, orNil_f, List.map_nil, List.length_nil, fillK_0R]
  exact ret_all rfl (by first | decide | simp [newIds, refsOf, refs2, refs1]) (by simp) rfl (by simp [newIds, refsOf, refs2, refs1]) (by simp [Blk.kindIs, fillK_fd]) rfl
 ·intro hc0
  have hG : (exG d a b c sa sb) = true := by
   cases h1 : dutyB a b c with
   |false => simp [h1] at hc0
   |true =>
    cases h2 : rosterB d a with
    |false => simp [h2] at hc0
    |true =>
     simp only [exG, h1, h2, Bool.and_eq_true, decide_eq_true_eq]
     simp [h1, h2] at hc0
     exact ⟨⟨⟨trivial, trivial⟩, by omega⟩, by omega⟩
  obtain ⟨q1, q2, q3, q4⟩ := exG_facts hG
  have hdi := duty_in q1
  have hro := roster_in q2
  have hri := roster_rising q2
  obtain ⟨na, rfl⟩ := Int.eq_ofNat_of_zero_le q3.1
  obtain ⟨nb, rfl⟩ := Int.eq_ofNat_of_zero_le q4.1
  have hna : na < d.length := by omega
  have hnb : nb < d.length := by omega
  obtain ⟨la, hxa⟩ : ∃ l, d[na]? = some l := ⟨_, List.getElem?_eq_getElem hna⟩
  obtain ⟨lb, hxb⟩ : ∃ l, d[nb]? = some l := ⟨_, List.getElem?_eq_getElem hnb⟩
  have hga : d.getD (na : Int).toNat [] = la := by rw [Int.toNat_natCast, List.getD_eq_getElem?_getD, hxa]; rfl
  have hgb : d.getD (nb : Int).toNat [] = lb := by rw [Int.toNat_natCast, List.getD_eq_getElem?_getD, hxb]; rfl
  have hla := List.mem_of_getElem? hxa
  have hlb := List.mem_of_getElem? hxb
  have hlal := hds la hla
  have hlbl := hds lb hlb
  have hKe : exOK d a b c (na : Int) (nb : Int) x y = (exM la lb x y && !(breachOf (exsR d na nb la lb x y) a b c).isSome) := by rw [exOK, hG, exL, hga, hgb, Int.toNat_natCast, Int.toNat_natCast]; rfl
  have hLe : exL d (na : Int) (nb : Int) x y = exsR d na nb la lb x y := by rw [exL, hga, hgb, Int.toNat_natCast, Int.toNat_natCast]
  refine v_skip ?_
  refine n2 _ _ (weak_keep [0, 2, 3, 4, 5, 7] _) ?_
  refine zk ⟨?_⟩
  refine v_seq ?_; intro Q6 n6 e6 r6
  refine v_seqR [0,2,3,4,5,7,77] ?_; intro K7 k7
  have F := Fc.mk (And.intro (fun f => getD_map (f := f) hxa) (And.intro (fun f => getD_map (f := f) hxb) @Int.toNat_natCast))
  refine zMove ⟨?_⟩
  refine zMove ⟨?_⟩
  refine zIndexAddr ⟨?_⟩
  refine zLoad ⟨?_⟩
  refine zMove ⟨?_⟩
  refine zc (l1Has_con la x hlal) ⟨?_⟩
  refine zUnOp ⟨?_⟩
  refine zMove ⟨?_⟩
  refine zgMove ⟨?_⟩
  refine zgMove ⟨?_⟩
  refine zgIndexAddr ⟨?_⟩
  refine zgLoad ⟨?_⟩
  refine zgMove ⟨?_⟩
  refine zgc (l1Has_con lb x hlbl) ⟨?_⟩
  refine zPick ⟨?_⟩
  refine zMove ⟨?_⟩
  refine zgMove ⟨?_⟩
  refine zgMove ⟨?_⟩
  refine zgIndexAddr ⟨?_⟩
  refine zgLoad ⟨?_⟩
  refine zgMove ⟨?_⟩
  refine zgc (l1Has_con lb y hlbl) ⟨?_⟩
  refine zgUnOp ⟨?_⟩
  refine zPick ⟨?_⟩
  refine zMove ⟨?_⟩
  refine zgMove ⟨?_⟩
  refine zgMove ⟨?_⟩
  refine zgIndexAddr ⟨?_⟩
  refine zgLoad ⟨?_⟩
  refine zgMove ⟨?_⟩
  refine zgc (l1Has_con la y hlal) ⟨?_⟩
  refine zPick ⟨?_⟩
  refine k7 _ ?_
  refine zk ⟨?_⟩
  refine v_condS _ rfl ?_ ?_
  ·intro hc1
   have hM : exM la lb x y = false := by
    cases hq : exM la lb x y with
    |false => rfl
    |true =>
     exfalso
     obtain ⟨m1, m2, m3, m4⟩ := exM_facts hq
     simp [m1, m2, m3, m4] at hc1
   have hK : exOK d a b c (na : Int) (nb : Int) x y = false := by rw [hKe, hM]; rfl
   refine v_seqR [12,13] ?_; intro K9 k9
   refine zAssign ⟨?_⟩
   refine zAssign ⟨?_⟩
   refine k9 _ ?_
   refine zk ⟨?_⟩
   refine v_ret ?_
   refine r6 _ ?_
   refine r0 _ ?_
   refine zf ⟨?_⟩
   simp only [hK, orNil_f, List.map_nil, List.length_nil, fillK_0R]
   exact ret_all rfl (by first | decide | simp [newIds, refsOf, refs2, refs1]) (by simp) rfl (by simp [newIds, refsOf, refs2, refs1]) (by simp [Blk.kindIs, fillK_fd]) rfl
  ·intro hc1
   have hM : exM la lb x y = true := by
    by_cases m1 : x ∈ la <;> by_cases m2 : x ∈ lb <;> by_cases m3 : y ∈ lb <;> by_cases m4 : y ∈ la <;> simp [m1, m2, m3, m4] at hc1 <;> simp [exM, m1, m2, m3, m4]
   obtain ⟨m1, m2, m3, m4⟩ := exM_facts hM
   have hab : na ≠ nb := fun e => by
    subst e
    rw [hxa] at hxb
    cases hxb
    exact m2 m1
   have hE1 := exc_put (hri la hla) m1 m4
   have hE2 := exc_put (hri lb hlb) m3 m2
   have hxl := exsR_len d na nb la lb x y
   have hXd : (exsR d na nb la lb x y).length ≤ 1048576 := by rw [hxl]; exact hd
   have hXs := exsR_lens (i := na) (j := nb) (x := x) (y := y) hla hlb hds
   have hXi := exsR_in (i := na) (j := nb) hla hlb m1 m3 hro.2.2
   have hXa : (exsR d na nb la lb x y)[na]? = some (excR la x y) := by rw [exsR, List.getElem?_set_ne (Ne.symm hab)]; exact List.getElem?_set_self hna
   have hXb : (exsR d na nb la lb x y)[nb]? = some (excR lb y x) := by rw [exsR]; exact List.getElem?_set_self (by rw [List.length_set]; exact hnb)
   have hw1 := put_new ((hri la hla).sublist List.filter_sublist : (wthR la x).Pairwise (· < ·)) (wth_not (x := x) m4)
   have hw2 := put_new ((hri lb hlb).sublist List.filter_sublist : (wthR lb y).Pairwise (· < ·)) (wth_not (x := y) m2)
   have hwl1 : (wthR la x).length ≤ 1048576 := Nat.le_trans (List.length_filter_le ..) hlal
   have hwl2 : (wthR lb y).length ≤ 1048576 := Nat.le_trans (List.length_filter_le ..) hlbl
   have hel1 : (putL (wthR la x) y).length ≤ 1048576 := by rw [← hE1, exc_len]; exact hlal
   have hel2 : (putL (wthR lb y) x).length ≤ 1048576 := by rw [← hE2, exc_len]; exact hlbl
   refine v_skip ?_
   refine n6 _ _ (weak_keep [0, 2, 3, 4, 5, 7] _) ?_
   refine zk ⟨?_⟩
   refine v_seqR [0,2,3,4,5,7,14] ?_; intro K10 k10
   refine zAssign ⟨?_⟩
   refine k10 _ ?_
   refine zk ⟨?_⟩
   refine v_seq ?_; intro Q11 n11 e11 r11
   refine v_seqR [2,3,4,5,7,14,78,79,80] ?_; intro K12 k12
   refine zMove ⟨?_⟩
   refine zLen ⟨?_⟩
   refine zMove ⟨?_⟩
   refine k12 _ ?_
   refine zk ⟨?_⟩
   refine v_block ?_; intro Q13 n13 x13 e13 r13
   refine v_loop (fun n => ⟨[(2, .int .i64 (Nat.cast na)), (3, .int .i64 (Nat.cast nb)), (4, .int .i64 x), (5, .int .i64 y), (7, .ptr 0 0 0), (14, .ref 1), (78, .sl (d.map fun l => V.sl (l.map (V.int .i64)))), (79, .int .i64 d.length), (80, .int .i64 (Nat.cast n))], [.box (.agg [.int .i64 a, .int .i64 b, .int .i64 c]) .flat, .arr (((exsR d na nb la lb x y).take n).map (fun l : List Int => V.sl (l.map (V.int .i64)))) (fillK n)], false, 117, 0⟩) (fun n => n ≤ d.length) (fun n => d.length - n) 0 ?_ ?_ ?_
   ·refine weak_bothS [2, 3, 4, 5, 7, 14, 78, 79, 80] [0, 2] ⟨?_⟩
    rfl
   ·exact Nat.zero_le _
   ·rintro n hok14 Q14 n14 e14 r14
    have hi1 : n ≤ d.length := hok14
    refine v_seqR [2,3,4,5,7,14,78,79,80,81] ?_; intro K15 k15
    refine zBinOp ⟨?_⟩
    refine k15 _ ?_
    refine zk ⟨?_⟩
    refine v_seq ?_; intro Q16 n16 e16 r16
    refine v_condS _ rfl ?_ ?_
    ·intro hc2
     have hlt : n < d.length := by omega
     obtain ⟨s, hx⟩ : ∃ s, d[n]? = some s := ⟨_, List.getElem?_eq_getElem hlt⟩
     have hsl := hds s (List.mem_of_getElem? hx)
     have htn : (d.take n).length = n := by rw [List.length_take]; omega
     have htx : ((exsR d na nb la lb x y).take n).length = n := by rw [List.length_take, hxl]; omega
     refine v_skip ?_
     refine n16 _ _ (weak_keep [2, 3, 4, 5, 7, 14, 78, 79, 80] _) ?_
     refine zk ⟨?_⟩
     refine v_seq ?_; intro Q18 n18 e18 r18
     refine v_block ?_; intro Q19 n19 x19 e19 r19
     refine v_seqR [2,3,4,5,7,14,15,16,78,79,80] ?_; intro K20 k20
     have F := Fc.mk (And.intro (fun f => getD_map (f := f) hxa) (And.intro (fun f => getD_map (f := f) hxb) (And.intro @Int.toNat_natCast (And.intro (fun f => getD_map (f := f) hx) htx))))
     refine zMove ⟨?_⟩
     refine zIndexAddr ⟨?_⟩
     refine zLoad ⟨?_⟩
     refine zAssign ⟨?_⟩
     refine zAssign ⟨?_⟩
     refine k20 _ ?_
     refine zk ⟨?_⟩
     refine v_seq ?_; intro Q21 n21 e21 r21
     refine v_seqR [2,3,4,5,7,14,16,78,79,80,85] ?_; intro K22 k22
     refine zMove ⟨?_⟩
     refine k22 _ ?_
     refine zk ⟨?_⟩
     refine v_block ?_; intro Q23 n23 x23 e23 r23
     refine v_seqR [2,3,4,5,7,14,16,78,79,80,85,86] ?_; intro K24 k24
     refine zMove ⟨?_⟩
     refine zBinOp ⟨?_⟩
     refine zAssign ⟨?_⟩
     refine k24 _ ?_
     refine zk ⟨?_⟩
     refine v_condS _ rfl ?_ ?_
     ·intro hc3
      have hnn : n = na := by omega
      have hsl0 : s = la := by rw [hnn, hxa] at hx; exact (Option.some.inj hx).symm
      have hX : (exsR d na nb la lb x y)[n]? = some (putL (wthR s x) y) := by rw [hnn, hsl0, ← hE1]; exact hXa
      have hsn : ((exsR d na nb la lb x y).take n).map (fun l : List Int => V.sl (l.map (V.int .i64))) ++ [V.sl ((putL (wthR s x) y).map (V.int .i64))] = ((exsR d na nb la lb x y).take (n + 1)).map (fun l : List Int => V.sl (l.map (V.int .i64))) := (take_map_step (f := (fun l : List Int => V.sl (l.map (V.int .i64)))) hX).symm
      have hwl : (wthR s x).length ≤ 1048576 := by rw [hsl0]; exact hwl1
      have hwn : y ∉ wthR s x := by rw [hsl0]; exact wth_not m4
      have hown := l1Own_con (putL (wthR s x) y) (by rw [hsl0]; exact hel1)
      refine v_region ?_; intro K26 k26
      refine zMove ⟨?_⟩
      refine zMove ⟨?_⟩
      refine zc (duWithout_con s x hsl) ⟨?_⟩
      refine zMove ⟨?_⟩
      refine zc (l1Put_con (wthR s x) y hwl hwn) ⟨?_⟩
      refine zAssign ⟨?_⟩
      refine k26 _ ?_
      refine n23 _ ?_
      refine n21 _ _ (weak_keep [2, 3, 4, 5, 7, 14, 16, 78, 79, 80] _) ?_
      refine zk ⟨?_⟩
      refine v_region ?_; intro K27 k27
      refine zMove ⟨?_⟩
      refine zMove ⟨?_⟩
      refine zc (hown) ⟨?_⟩
      refine zBuildSlice ⟨?_⟩
      refine zAppend ⟨?_⟩
      refine zAssign ⟨?_⟩
      refine k27 _ ?_
      refine n19 _ ?_
      refine n18 _ _ (weak_keep [2, 3, 4, 5, 7, 14, 78, 79, 80] _) ?_
      refine zk ⟨?_⟩
      refine v_region ?_; intro K28 k28
      refine zBinOpW ⟨?_⟩
      refine zMove ⟨?_⟩
      refine k28 _ ?_
      refine n14 _ (n + 1) ?_ ?_ ?_
      ·refine weak_bothS [2, 3, 4, 5, 7, 14, 78, 79, 80] [0, 6] ⟨?_⟩
       rw [← hsn]; rfl
      ·exact hlt
      ·show _ < _; omega
     ·intro hc3
      have hnna : n ≠ na := by omega
      refine v_seqR [2,3,4,5,7,14,16,78,79,80,94] ?_; intro K29 k29
      refine zMove ⟨?_⟩
      refine zBinOp ⟨?_⟩
      refine zAssign ⟨?_⟩
      refine k29 _ ?_
      refine zk ⟨?_⟩
      refine v_condS _ rfl ?_ ?_
      ·intro hc4
       have hnn : n = nb := by omega
       have hsl0 : s = lb := by rw [hnn, hxb] at hx; exact (Option.some.inj hx).symm
       have hX : (exsR d na nb la lb x y)[n]? = some (putL (wthR s y) x) := by rw [hnn, hsl0, ← hE2]; exact hXb
       have hsn : ((exsR d na nb la lb x y).take n).map (fun l : List Int => V.sl (l.map (V.int .i64))) ++ [V.sl ((putL (wthR s y) x).map (V.int .i64))] = ((exsR d na nb la lb x y).take (n + 1)).map (fun l : List Int => V.sl (l.map (V.int .i64))) := (take_map_step (f := (fun l : List Int => V.sl (l.map (V.int .i64)))) hX).symm
       have hwl : (wthR s y).length ≤ 1048576 := by rw [hsl0]; exact hwl2
       have hwn : x ∉ wthR s y := by rw [hsl0]; exact wth_not m2
       have hown := l1Own_con (putL (wthR s y) x) (by rw [hsl0]; exact hel2)
       refine v_region ?_; intro K31 k31
       refine zMove ⟨?_⟩
       refine zMove ⟨?_⟩
       refine zc (duWithout_con s y hsl) ⟨?_⟩
       refine zMove ⟨?_⟩
       refine zc (l1Put_con (wthR s y) x hwl hwn) ⟨?_⟩
       refine zAssign ⟨?_⟩
       refine k31 _ ?_
       refine n23 _ ?_
       refine n21 _ _ (weak_keep [2, 3, 4, 5, 7, 14, 16, 78, 79, 80] _) ?_
       refine zk ⟨?_⟩
       refine v_region ?_; intro K32 k32
       refine zMove ⟨?_⟩
       refine zMove ⟨?_⟩
       refine zc (hown) ⟨?_⟩
       refine zBuildSlice ⟨?_⟩
       refine zAppend ⟨?_⟩
       refine zAssign ⟨?_⟩
       refine k32 _ ?_
       refine n19 _ ?_
       refine n18 _ _ (weak_keep [2, 3, 4, 5, 7, 14, 78, 79, 80] _) ?_
       refine zk ⟨?_⟩
       refine v_region ?_; intro K33 k33
       refine zBinOpW ⟨?_⟩
       refine zMove ⟨?_⟩
       refine k33 _ ?_
       refine n14 _ (n + 1) ?_ ?_ ?_
       ·refine weak_bothS [2, 3, 4, 5, 7, 14, 78, 79, 80] [0, 6] ⟨?_⟩
        rw [← hsn]; rfl
       ·exact hlt
       ·show _ < _; omega
      ·intro hc4
       have hnnb : n ≠ nb := by omega
       have hX : (exsR d na nb la lb x y)[n]? = some s := by rw [exsR, List.getElem?_set_ne (Ne.symm hnnb), List.getElem?_set_ne (Ne.symm hnna)]; exact hx
       have hsn : ((exsR d na nb la lb x y).take n).map (fun l : List Int => V.sl (l.map (V.int .i64))) ++ [V.sl ((s).map (V.int .i64))] = ((exsR d na nb la lb x y).take (n + 1)).map (fun l : List Int => V.sl (l.map (V.int .i64))) := (take_map_step (f := (fun l : List Int => V.sl (l.map (V.int .i64)))) hX).symm
       have hown := l1Own_con s hsl
       refine v_skip ?_
       refine n23 _ ?_
       refine n21 _ _ (weak_keep [2, 3, 4, 5, 7, 14, 16, 78, 79, 80] _) ?_
       refine zk ⟨?_⟩
       refine v_region ?_; intro K34 k34
       refine zMove ⟨?_⟩
       refine zMove ⟨?_⟩
       refine zc (hown) ⟨?_⟩
       refine zBuildSlice ⟨?_⟩
       refine zAppend ⟨?_⟩
       refine zAssign ⟨?_⟩
       refine k34 _ ?_
       refine n19 _ ?_
       refine n18 _ _ (weak_keep [2, 3, 4, 5, 7, 14, 78, 79, 80] _) ?_
       refine zk ⟨?_⟩
       refine v_region ?_; intro K35 k35
       refine zBinOpW ⟨?_⟩
       refine zMove ⟨?_⟩
       refine k35 _ ?_
       refine n14 _ (n + 1) ?_ ?_ ?_
       ·refine weak_bothS [2, 3, 4, 5, 7, 14, 78, 79, 80] [0, 4] ⟨?_⟩
        rw [← hsn]; rfl
       ·exact hlt
       ·show _ < _; omega
    ·intro hc2
     have hend : n = d.length := by omega
     subst hend
     have hta : (exsR d na nb la lb x y).take d.length = (exsR d na nb la lb x y) := List.take_of_length_le (by rw [hxl]; exact Nat.le_refl _)
     refine v_exit ?_
     refine e16 _ _ ?_
     refine e14 _ _ ?_
     refine x13 _ ?_
     refine n11 _ _ (weak_keep [7, 14] _) ?_
     refine zk ⟨?_⟩
     refine v_seq ?_; intro Q36 n36 e36 r36
     refine v_seqR [14,19] ?_; intro K37 k37
     have F := Fc.mk (And.intro (fun f => getD_map (f := f) hxa) (And.intro (fun f => getD_map (f := f) hxb) (And.intro @Int.toNat_natCast hta)))
     refine zMove ⟨?_⟩
     refine zLoad ⟨?_⟩
     refine zc (duBreach_con (exsR d na nb la lb x y) a b c hXd hXs hdi.1 hdi.2.1 hdi.2.2 hXi) ⟨?_⟩
     refine zMove ⟨?_⟩
     refine zExtract ⟨?_⟩
     refine zExtract ⟨?_⟩
     refine zExtract ⟨?_⟩
     refine zAssign ⟨?_⟩
     refine zAssign ⟨?_⟩
     refine zAssign ⟨?_⟩
     refine k37 _ ?_
     refine zk ⟨?_⟩
     refine v_seqR [14,115] ?_; intro K38 k38
     refine zMove ⟨?_⟩
     refine k38 _ ?_
     refine zk ⟨?_⟩
     refine v_condS _ rfl ?_ ?_
     ·intro hc5
      have hBR : (breachOf (exsR d na nb la lb x y) a b c).isSome = true := hc5
      refine v_seqR [12,13] ?_; intro K40 k40
      refine zAssign ⟨?_⟩
      refine zAssign ⟨?_⟩
      refine k40 _ ?_
      refine zk ⟨?_⟩
      refine v_ret ?_
      refine r36 _ ?_
      refine r0 _ ?_
      refine zf ⟨?_⟩
      have hK : exOK d a b c (na : Int) (nb : Int) x y = false := by rw [hKe, hM, hBR]; rfl
      simp only [hK, orNil_f, List.map_nil, List.length_nil, fillK_0R]
      exact ret_all rfl (by first | decide | simp [newIds, refsOf, refs2, refs1]) (by simp) rfl (by simp [newIds, refsOf, refs2, refs1]) (by simp [Blk.kindIs, fillK_fd]) rfl
     ·intro hc5
      have hBR : (breachOf (exsR d na nb la lb x y) a b c).isSome = false := hc5
      refine v_skip ?_
      refine n36 _ _ (weak_keep [14] _) ?_
      refine zk ⟨?_⟩
      refine v_seqR [12,13] ?_; intro K41 k41
      refine zMove ⟨?_⟩
      refine zAssign ⟨?_⟩
      refine zAssign ⟨?_⟩
      refine k41 _ ?_
      refine zk ⟨?_⟩
      refine v_ret ?_
      refine r0 _ ?_
      refine zf ⟨?_⟩
      have hK : exOK d a b c (na : Int) (nb : Int) x y = true := by rw [hKe, hM, hBR]; rfl
      have hkd : fillK d.length = .deep := by unfold fillK; rw [if_neg (by omega)]
      simp only [hK, orNil_t, hLe, hxl, hkd]
      exact ret_all rfl (by first | decide | simp [newIds, refsOf, refs2, refs1]) (by simp) rfl (by simp [newIds, refsOf, refs2, refs1]) (by simp [Blk.kindIs, fillK_fd]) rfl
theorem totSS_leN : ∀ {l : List (List Int)}, (∀ s ∈ l, s.length ≤ 1048576) → totSS l ≤ 1048576 * l.length
  | [], _ => Int.le_refl _
  | s :: l, h => by
    have h1 := totSS_leN (l := l) fun x hx => h x (List.mem_cons_of_mem _ hx)
    have h2 := h s (List.mem_cons_self ..)
    rw [totSS, List.length_cons]; omega
theorem exT_facts {d : List (List Int)} {a b c sa sb x y : Int} {n : Nat} (h1 : d.length ≤ n) (h2 : ∀ s ∈ d, s.length ≤ n) : (orNil (exOK d a b c sa sb x y) (exL d sa sb x y)).length ≤ n ∧ ∀ s ∈ orNil (exOK d a b c sa sb x y) (exL d sa sb x y), s.length ≤ n := by
  cases hk : exOK d a b c sa sb x y with
  | false => exact ⟨Nat.zero_le _, fun s hs => by cases hs⟩
  | true =>
    rw [exOK, Bool.and_eq_true] at hk
    obtain ⟨_, _, q3, q4⟩ := exG_facts hk.1
    obtain ⟨na, rfl⟩ := Int.eq_ofNat_of_zero_le q3.1
    obtain ⟨nb, rfl⟩ := Int.eq_ofNat_of_zero_le q4.1
    have m : ∀ k : Nat, k < d.length → d.getD (k : Int).toNat [] ∈ d := fun k hk => by
      rw [Int.toNat_natCast, List.getD_eq_getElem?_getD, List.getElem?_eq_getElem hk]; exact List.getElem_mem hk
    rw [orNil_t, exL]
    exact ⟨by rw [exsR_len]; exact h1, exsR_lens (m na (by omega)) (m nb (by omega)) h2⟩

end Go.Proofs.YtbameklegpgkfaaDoor
