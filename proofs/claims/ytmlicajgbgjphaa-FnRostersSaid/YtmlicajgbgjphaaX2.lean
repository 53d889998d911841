/- What functions compute. No condition. -/
import Derived.Test.YtmlicajgbgjphaaUty
import Derived.Test.YtmlicajgbgjphaaUmG
import Derived.Test.YtmlicajgbgjphaaX1
set_option linter.unusedSimpArgs false
set_option linter.unusedVariables false
set_option linter.defProp false
namespace Go.Proofs.Ytmlicajgbgjphaa
open Go Go.Vm

def mayB (d : List (List Int)) (a b c x : Int) : Bool := !((d.drop (d.length - c.toNat)).any fun l => decide (x ∈ l)) && decide ((shiftsOf d a).getD x.toNat 0 < b)
def breachFrom (M : Nat → Int → Bool) : Nat → List (List Int) → Option (Nat × Int)
  | _, [] => none
  | k, l :: ll => match l.find? (fun x => !M k x) with
    | some x => some (k, x)
    | none => breachFrom M (k + 1) ll
theorem breach_step {M : Nat → Int → Bool} {d : List (List Int)} {i : Nat} {l : List Int} (h : d[i]? = some l) : breachFrom M i (d.drop i) = match l.find? (fun x => !M i x) with
    | some x => some (i, x)
    | none => breachFrom M (i + 1) (d.drop (i + 1)) := by
  rw [getElem_drop_cons h, breachFrom]
theorem breach_end {M : Nat → Int → Bool} {d : List (List Int)} {i : Nat} (h : d.length ≤ i) : breachFrom M i (d.drop i) = none := by
  rw [List.drop_of_length_le h, breachFrom]
def breachOf (d : List (List Int)) (a b c : Int) : Option (Nat × Int) := breachFrom (fun k x => mayB (d.take k) a b c x) 0 d
def brI (o : Option (Nat × Int)) : Int := match o with | some p => p.1 | none => 0
def brX (o : Option (Nat × Int)) : Int := match o with | some p => p.2 | none => 0

set_option maxHeartbeats 1000000 in
theorem duMay_con (d : List (List Int)) (a b c x : Int) (hd : d.length ≤ 1048576) (hds : ∀ l ∈ d, l.length ≤ 1048576) (hn1 : 1 ≤ a) (hn9 : a ≤ 9) (hc : 0 ≤ c ∧ c ≤ 5) (hro : ∀ l ∈ d, ∀ y ∈ l, 0 ≤ y ∧ y < a) (hx : 0 ≤ x ∧ x < a) : Con Try.prog 229 [.sl (d.map fun l => V.sl (l.map (V.int .i64))), .agg [.int .i64 a, .int .i64 b, .int .i64 c], .int .i64 x] [] (.bool (mayB d a b c x)) [] := by
 have hlen := shiftsOf_len d a
 obtain ⟨z, hz⟩ : ∃ z, (shiftsOf d a)[x.toNat]? = some z := ⟨(shiftsOf d a)[x.toNat]'(by omega), List.getElem?_eq_getElem (by omega)⟩
 have hzd : (shiftsOf d a).getD x.toNat 0 = z := by rw [List.getD_eq_getElem?_getD, hz]; rfl
 have hk0 : (if (d.length : Int) - c > 0 then (d.length : Int) - c else 0) = ((d.length - c.toNat : Nat) : Int) := by split <;> omega
 refine v_con [.tmp 6] [] Try.func229 rfl rfl rfl (by simp [Try.ntmps229]) ?_
 intro Q0 n0 r0
 simp only [Try.ntmps229, envFrom, Nat.reduceAdd]
 have T := Tys.mk (And.intro Ty.t3 (And.intro Ty.t4 (And.intro Ty.t31 (And.intro Ty.t87 Ty.t104))))
 have F := Fc.mk True.intro
 refine v_seqR [0,2,4] ?_; intro K1 k1
 have F := Fc.mk (And.intro (fun f => getD_map (f := f) hz) hlen)
 refine zBox ⟨?_⟩
 refine zAssign ⟨?_⟩
 refine k1 _ ?_
 refine zk ⟨?_⟩
 refine v_seq ?_; intro Q2 n2 e2 r2
 refine v_seqR [0,2,4,7] ?_; intro K3 k3
 refine zMove ⟨?_⟩
 refine zLen ⟨?_⟩
 refine zFieldAddr ⟨?_⟩
 refine zLoad ⟨?_⟩
 refine zBinOpW ⟨?_⟩
 refine zc (l1Most_con 0 ((d.length : Int) - c)) ⟨?_⟩
 refine zAssign ⟨?_⟩
 refine k3 _ ?_
 refine zk ⟨?_⟩
 refine v_block ?_; intro Q4 n4 x4 e4 r4
 refine v_loop (fun i => ⟨[(0, .sl (d.map fun l => V.sl (l.map (V.int .i64)))), (2, .int .i64 x), (4, .ptr 0 0 0), (7, .int .i64 (Nat.cast i))], [.box (.agg [.int .i64 a, .int .i64 b, .int .i64 c]) .flat], false, 36, 0⟩) (fun i => i ≤ d.length ∧ (d.drop i).any (fun l => decide (x ∈ l)) = (d.drop (d.length - c.toNat)).any (fun l => decide (x ∈ l))) (fun i => d.length - i) (d.length - c.toNat) ?_ ?_ ?_
 ·refine weak_bothS [0, 2, 4, 7] [0] ⟨?_⟩
  first | (rw [hk0]; done) | (rw [hk0]; rfl)
 ·exact ⟨Nat.sub_le _ _, rfl⟩
 ·rintro i hok5 Q5 n5 e5 r5
  obtain ⟨hi1, hR⟩ := hok5
  refine v_seq ?_; intro Q6 n6 e6 r6
  refine v_seqR [0,2,4,7,17] ?_; intro K7 k7
  refine zMove ⟨?_⟩
  refine zMove ⟨?_⟩
  refine zLen ⟨?_⟩
  refine zBinOp ⟨?_⟩
  refine k7 _ ?_
  refine zk ⟨?_⟩
  refine v_condS _ rfl ?_ ?_
  ·intro hc0
   have hlt : i < d.length := by omega
   obtain ⟨l, hl⟩ : ∃ l, d[i]? = some l := ⟨d[i], List.getElem?_eq_getElem hlt⟩
   have hlx : l.length ≤ 1048576 := hds l (List.mem_of_getElem? hl)
   have hst := any_drop (f := (fun l => decide (x ∈ l))) hl
   refine v_skip ?_
   refine n6 _ _ (weak_keep [0, 2, 4, 7] _) ?_
   refine zk ⟨?_⟩
   refine v_seq ?_; intro Q9 n9 e9 r9
   refine v_block ?_; intro Q10 n10 x10 e10 r10
   refine v_seqR [0,2,4,7,25] ?_; intro K11 k11
   have F := Fc.mk (And.intro (fun f => getD_map (f := f) hz) (And.intro hlen (fun f => getD_map (f := f) hl)))
   refine zMove ⟨?_⟩
   refine zMove ⟨?_⟩
   refine zIndexAddr ⟨?_⟩
   refine zLoad ⟨?_⟩
   refine zMove ⟨?_⟩
   refine zc (l1Has_con l x hlx) ⟨?_⟩
   refine k11 _ ?_
   refine zk ⟨?_⟩
   refine v_condS _ rfl ?_ ?_
   ·intro hc1
    refine v_seqR [6] ?_; intro K13 k13
    refine zAssign ⟨?_⟩
    refine k13 _ ?_
    refine zk ⟨?_⟩
    refine v_ret ?_
    refine r10 _ ?_
    refine r9 _ ?_
    refine r5 _ ?_
    refine r4 _ ?_
    refine r2 _ ?_
    refine r0 _ ?_
    refine zf ⟨?_⟩
    exact ret_pure rfl (by rw [mayB, ← hR, hst]; simp [hc1]) (.inl rfl)
   ·intro hc1
    refine v_skip ?_
    refine n10 _ ?_
    refine n9 _ _ (weak_keep [0, 2, 4, 7] _) ?_
    refine zk ⟨?_⟩
    refine v_region ?_; intro K14 k14
    refine zMove ⟨?_⟩
    refine zBinOpW ⟨?_⟩
    refine zAssign ⟨?_⟩
    refine k14 _ ?_
    refine n5 _ (i + 1) ?_ ?_ ?_
    ·refine weak_bothS [0, 2, 4, 7] [0] ⟨?_⟩
     rfl
    ·exact ⟨by omega, by rw [← hR, hst]; simp [hc1]⟩
    ·show _ < _; omega
  ·intro hc0
   refine v_exit ?_
   refine e6 _ _ ?_
   refine e5 _ _ ?_
   refine x4 _ ?_
   refine n2 _ _ (weak_keep [0, 2, 4] _) ?_
   refine zk ⟨?_⟩
   refine v_seq ?_; intro Q15 n15 e15 r15
   refine v_draw (by kernel_rfl) ?_; intro K16 q16 k16
   show aAny _ _ _ _ 11 (Array.replicate 11 false) _
   refine zdMove q16 true 0 26 ?_
   refine zdFieldAddr q16 true 1 27 ?_
   refine zdLoad q16 true 2 28 ?_
   refine zdMove q16 true 4 30 ?_
   refine zdFieldAddr q16 true 7 33 ?_
   refine zdLoad q16 true 8 34 ?_
   refine zoc 3 (duShifts_con d a hd hds hn1 hn9 hro) ⟨?_⟩
   refine zdIndexAddr q16 true 5 31 ?_
   refine zdLoad q16 true 6 32 ?_
   refine zdBinOp q16 true 9 35 ?_
   refine zoAssign 10 ⟨?_⟩
   refine aAny_done (by kernel_rfl) ?_
   refine k16 _ ?_
   refine n15 _ _ (weak_keep [6] _) ?_
   refine zk ⟨?_⟩
   refine v_ret ?_
   refine r0 _ ?_
   refine zf ⟨?_⟩
   exact ret_pure rfl (by rw [mayB, ← hR, any_end (by omega), hzd]; simp) (.inl rfl)
set_option maxHeartbeats 1000000 in
theorem mayWork_con (d : List (List Int)) (a b c x : Int) (hd : d.length ≤ 1048576) (hds : ∀ l ∈ d, l.length ≤ 1048576) (hn1 : 1 ≤ a) (hn9 : a ≤ 9) (hc : 0 ≤ c ∧ c ≤ 5) (hro : ∀ l ∈ d, ∀ y ∈ l, 0 ≤ y ∧ y < a) (hx : 0 ≤ x ∧ x < a) : Con Try.prog 221 [.sl (d.map fun l => V.sl (l.map (V.int .i64))), .agg [.int .i64 a, .int .i64 b, .int .i64 c], .int .i64 x] [] (.bool (mayB d a b c x)) [] := by
 have hlen := shiftsOf_len d a
 obtain ⟨z, hz⟩ : ∃ z, (shiftsOf d a)[x.toNat]? = some z := ⟨(shiftsOf d a)[x.toNat]'(by omega), List.getElem?_eq_getElem (by omega)⟩
 have hzd : (shiftsOf d a).getD x.toNat 0 = z := by rw [List.getD_eq_getElem?_getD, hz]; rfl
 have hk0 : (if (d.length : Int) - c > 0 then (d.length : Int) - c else 0) = ((d.length - c.toNat : Nat) : Int) := by split <;> omega
 have hdl : (d.drop (d.length - c.toNat)).length ≤ 1048576 := by rw [List.length_drop]; omega
 refine v_con [.tmp 6] [] Try.func221 rfl rfl rfl (by simp [Try.ntmps221]) ?_
 intro Q0 n0 r0
 simp only [Try.ntmps221, envFrom, Nat.reduceAdd]
 have T := Tys.mk (And.intro Ty.t3 (And.intro Ty.t4 (And.intro Ty.t31 (And.intro Ty.t87 Ty.t104))))
 have F := Fc.mk True.intro
 refine v_seqR [0,2,4] ?_; intro K1 k1
 have F := Fc.mk (And.intro (fun f => getD_map (f := f) hz) (And.intro hlen hk0))
 refine zBox ⟨?_⟩
 refine zAssign ⟨?_⟩
 refine k1 _ ?_
 refine zk ⟨?_⟩
 refine v_seq ?_; intro Q2 n2 e2 r2
 refine v_seqR [0,2,4,16,17,18] ?_; intro K3 k3
 refine zMove ⟨?_⟩
 refine zMove ⟨?_⟩
 refine zLen ⟨?_⟩
 refine zFieldAddr ⟨?_⟩
 refine zLoad ⟨?_⟩
 refine zBinOpW ⟨?_⟩
 refine zMax ⟨?_⟩
 refine zSlice ⟨?_⟩
 refine zLen ⟨?_⟩
 refine zMove ⟨?_⟩
 refine k3 _ ?_
 refine zk ⟨?_⟩
 refine v_block ?_; intro Q4 n4 x4 e4 r4
 refine v_loop (fun i => ⟨[(0, .sl (d.map fun l => V.sl (l.map (V.int .i64)))), (2, .int .i64 x), (4, .ptr 0 0 0), (16, .sl ((d.drop (d.length - c.toNat)).map fun l => V.sl (l.map (V.int .i64)))), (17, .int .i64 (d.drop (d.length - c.toNat)).length), (18, .int .i64 (Nat.cast i))], [.box (.agg [.int .i64 a, .int .i64 b, .int .i64 c]) .flat], false, 36, 0⟩) (fun i => i ≤ (d.drop (d.length - c.toNat)).length ∧ ((d.drop (d.length - c.toNat)).drop i).any (fun l => decide (x ∈ l)) = ((d.drop (d.length - c.toNat)).drop 0).any (fun l => decide (x ∈ l))) (fun i => (d.drop (d.length - c.toNat)).length - i) 0 ?_ ?_ ?_
 ·refine weak_bothS [0, 2, 4, 16, 17, 18] [0] ⟨?_⟩
  rfl
 ·exact ⟨Nat.zero_le _, rfl⟩
 ·rintro i hok5 Q5 n5 e5 r5
  obtain ⟨hi1, hR⟩ := hok5
  refine v_seqR [0,2,4,16,17,18,19] ?_; intro K6 k6
  refine zBinOp ⟨?_⟩
  refine k6 _ ?_
  refine zk ⟨?_⟩
  refine v_seq ?_; intro Q7 n7 e7 r7
  refine v_condS _ rfl ?_ ?_
  ·intro hc0
   have hlt : i < (d.drop (d.length - c.toNat)).length := by omega
   obtain ⟨l, hl⟩ : ∃ l, (d.drop (d.length - c.toNat))[i]? = some l := ⟨(d.drop (d.length - c.toNat))[i], List.getElem?_eq_getElem hlt⟩
   have hlx : l.length ≤ 1048576 := hds l (List.mem_of_mem_drop (List.mem_of_getElem? hl))
   have hst := any_drop (f := (fun l => decide (x ∈ l))) hl
   refine v_skip ?_
   refine n7 _ _ (weak_keep [0, 2, 4, 16, 17, 18] _) ?_
   refine zk ⟨?_⟩
   refine v_seq ?_; intro Q9 n9 e9 r9
   refine v_block ?_; intro Q10 n10 x10 e10 r10
   refine v_seqR [0,2,4,8,16,17,18] ?_; intro K11 k11
   have F := Fc.mk (And.intro (fun f => getD_map (f := f) hz) (And.intro hlen (And.intro hk0 (fun f => getD_map (f := f) hl))))
   refine zIndexAddr ⟨?_⟩
   refine zLoad ⟨?_⟩
   refine zAssign ⟨?_⟩
   refine k11 _ ?_
   refine zk ⟨?_⟩
   refine v_seqR [0,2,4,16,17,18,24] ?_; intro K12 k12
   refine zMove ⟨?_⟩
   refine zMove ⟨?_⟩
   refine zc (slContains_con l x hlx) ⟨?_⟩
   refine k12 _ ?_
   refine zk ⟨?_⟩
   refine v_condS _ rfl ?_ ?_
   ·intro hc1
    refine v_seqR [6] ?_; intro K14 k14
    refine zAssign ⟨?_⟩
    refine k14 _ ?_
    refine zk ⟨?_⟩
    refine v_ret ?_
    refine r10 _ ?_
    refine r9 _ ?_
    refine r5 _ ?_
    refine r4 _ ?_
    refine r2 _ ?_
    refine r0 _ ?_
    refine zf ⟨?_⟩
    exact ret_pure rfl (by rw [mayB, ← List.drop_zero (l := d.drop (d.length - c.toNat)), ← hR, hst]; simp [hc1]) (.inl rfl)
   ·intro hc1
    refine v_skip ?_
    refine n10 _ ?_
    refine n9 _ _ (weak_keep [0, 2, 4, 16, 17, 18] _) ?_
    refine zk ⟨?_⟩
    refine v_region ?_; intro K15 k15
    refine zBinOpW ⟨?_⟩
    refine zMove ⟨?_⟩
    refine k15 _ ?_
    refine n5 _ (i + 1) ?_ ?_ ?_
    ·refine weak_bothS [0, 2, 4, 16, 17, 18] [0] ⟨?_⟩
     rfl
    ·exact ⟨by omega, by rw [← hR, hst]; simp [hc1]⟩
    ·show _ < _; omega
  ·intro hc0
   refine v_exit ?_
   refine e7 _ _ ?_
   refine e5 _ _ ?_
   refine x4 _ ?_
   refine n2 _ _ (weak_keep [0, 2, 4] _) ?_
   refine zk ⟨?_⟩
   refine v_seq ?_; intro Q16 n16 e16 r16
   refine v_draw (by kernel_rfl) ?_; intro K17 q17 k17
   show aAny _ _ _ _ 11 (Array.replicate 11 false) _
   refine zdMove q17 true 0 26 ?_
   refine zdFieldAddr q17 true 1 27 ?_
   refine zdLoad q17 true 2 28 ?_
   refine zdMove q17 true 4 30 ?_
   refine zdFieldAddr q17 true 7 33 ?_
   refine zdLoad q17 true 8 34 ?_
   refine zoc 3 (shiftsOf_con d a hd hds hn1 hn9 hro) ⟨?_⟩
   refine zdIndexAddr q17 true 5 31 ?_
   refine zdLoad q17 true 6 32 ?_
   refine zdBinOp q17 true 9 35 ?_
   refine zoAssign 10 ⟨?_⟩
   refine aAny_done (by kernel_rfl) ?_
   refine k17 _ ?_
   refine n16 _ _ (weak_keep [6] _) ?_
   refine zk ⟨?_⟩
   refine v_ret ?_
   refine r0 _ ?_
   refine zf ⟨?_⟩
   exact ret_pure rfl (by rw [mayB, ← List.drop_zero (l := d.drop (d.length - c.toNat)), ← hR, any_end (by omega), hzd]; simp) (.inl rfl)
set_option maxHeartbeats 1000000 in
theorem firstBreach_con (d : List (List Int)) (a b c : Int) (hd : d.length ≤ 1048576) (hds : ∀ l ∈ d, l.length ≤ 1048576) (hn1 : 1 ≤ a) (hn9 : a ≤ 9) (hc : 0 ≤ c ∧ c ≤ 5) (hro : ∀ l ∈ d, ∀ y ∈ l, 0 ≤ y ∧ y < a) : Con Try.prog 165 [.sl (d.map fun l => V.sl (l.map (V.int .i64))), .agg [.int .i64 a, .int .i64 b, .int .i64 c]] [] (.tup [.int .i64 (brI (breachOf d a b c)), .int .i64 (brX (breachOf d a b c)), .bool ((breachOf d a b c)).isSome]) [] := by
 refine v_con [.tmp 4, .tmp 5, .tmp 6] [] Try.func165 rfl rfl rfl (by simp [Try.ntmps165]) ?_
 intro Q0 n0 r0
 simp only [Try.ntmps165, envFrom, Nat.reduceAdd]
 have T := Tys.mk (And.intro Ty.t3 (And.intro Ty.t4 (And.intro Ty.t31 (And.intro Ty.t87 Ty.t104))))
 have F := Fc.mk True.intro
 refine v_seqR [0,3] ?_; intro K1 k1
 refine zBox ⟨?_⟩
 refine zAssign ⟨?_⟩
 refine zAssign ⟨?_⟩
 refine zAssign ⟨?_⟩
 refine k1 _ ?_
 refine zk ⟨?_⟩
 refine v_seq ?_; intro Q2 n2 e2 r2
 refine v_seqR [0,3,11,12,13] ?_; intro K3 k3
 refine zMove ⟨?_⟩
 refine zLen ⟨?_⟩
 refine zMove ⟨?_⟩
 refine k3 _ ?_
 refine zk ⟨?_⟩
 refine v_block ?_; intro Q4 n4 x4 e4 r4
 refine v_loop (fun i => ⟨[(0, .sl (d.map fun l => V.sl (l.map (V.int .i64)))), (3, .ptr 0 0 0), (11, .sl (d.map fun l => V.sl (l.map (V.int .i64)))), (12, .int .i64 d.length), (13, .int .i64 (Nat.cast i))], [.box (.agg [.int .i64 a, .int .i64 b, .int .i64 c]) .flat], false, 35, 0⟩) (fun i => i ≤ d.length ∧ breachFrom (fun k x => mayB (d.take k) a b c x) i (d.drop i) = breachFrom (fun k x => mayB (d.take k) a b c x) 0 d) (fun i => d.length - i) 0 ?_ ?_ ?_
 ·refine weak_bothS [0, 3, 11, 12, 13] [0] ⟨?_⟩
  rfl
 ·exact ⟨Nat.zero_le _, rfl⟩
 ·rintro i hok5 Q5 n5 e5 r5
  obtain ⟨hi1, hR⟩ := hok5
  refine v_seqR [0,3,11,12,13,14] ?_; intro K6 k6
  refine zBinOp ⟨?_⟩
  refine k6 _ ?_
  refine zk ⟨?_⟩
  refine v_seq ?_; intro Q7 n7 e7 r7
  refine v_condS _ rfl ?_ ?_
  ·intro hc0
   have hlt : i < d.length := by omega
   obtain ⟨l, hx⟩ : ∃ l, d[i]? = some l := ⟨d[i], List.getElem?_eq_getElem hlt⟩
   have hlx : l.length ≤ 1048576 := hds l (List.mem_of_getElem? hx)
   have hst := breach_step (M := (fun k x => mayB (d.take k) a b c x)) hx
   refine v_skip ?_
   refine n7 _ _ (weak_keep [0, 3, 11, 12, 13] _) ?_
   refine zk ⟨?_⟩
   refine v_seq ?_; intro Q9 n9 e9 r9
   refine v_block ?_; intro Q10 n10 x10 e10 r10
   refine v_seqR [0,3,7,8,11,12,13] ?_; intro K11 k11
   have F := Fc.mk (fun f => getD_map (f := f) hx)
   refine zMove ⟨?_⟩
   refine zIndexAddr ⟨?_⟩
   refine zLoad ⟨?_⟩
   refine zAssign ⟨?_⟩
   refine zAssign ⟨?_⟩
   refine k11 _ ?_
   refine zk ⟨?_⟩
   refine v_seqR [0,3,7,11,12,13,18,19,20] ?_; intro K12 k12
   refine zMove ⟨?_⟩
   refine zLen ⟨?_⟩
   refine zMove ⟨?_⟩
   refine k12 _ ?_
   refine zk ⟨?_⟩
   refine v_block ?_; intro Q13 n13 x13 e13 r13
   refine v_loop (fun j => ⟨[(0, .sl (d.map fun l => V.sl (l.map (V.int .i64)))), (3, .ptr 0 0 0), (7, .int .i64 (Nat.cast i)), (11, .sl (d.map fun l => V.sl (l.map (V.int .i64)))), (12, .int .i64 d.length), (13, .int .i64 (Nat.cast i)), (18, .sl (l.map (V.int .i64))), (19, .int .i64 l.length), (20, .int .i64 (Nat.cast j))], [.box (.agg [.int .i64 a, .int .i64 b, .int .i64 c]) .flat], false, 35, 0⟩) (fun j => j ≤ l.length ∧ (l.drop j).find? (fun x => !(fun k x => mayB (d.take k) a b c x) i x) = l.find? (fun x => !(fun k x => mayB (d.take k) a b c x) i x)) (fun j => l.length - j) 0 ?_ ?_ ?_
   ·refine weak_bothS [0, 3, 7, 11, 12, 13, 18, 19, 20] [0] ⟨?_⟩
    rfl
   ·exact ⟨Nat.zero_le _, rfl⟩
   ·rintro j hok14 Q14 n14 e14 r14
    obtain ⟨hj1, hR2⟩ := hok14
    refine v_seqR [0,3,7,11,12,13,18,19,20,21] ?_; intro K15 k15
    refine zBinOp ⟨?_⟩
    refine k15 _ ?_
    refine zk ⟨?_⟩
    refine v_seq ?_; intro Q16 n16 e16 r16
    refine v_condS _ rfl ?_ ?_
    ·intro hc1
     have hltj : j < l.length := by omega
     obtain ⟨y, hy⟩ : ∃ y, l[j]? = some y := ⟨l[j], List.getElem?_eq_getElem hltj⟩
     have hst2 := find_step (p := fun x => !(fun k x => mayB (d.take k) a b c x) i x) hy
     have hyr := hro l (List.mem_of_getElem? hx) y (List.mem_of_getElem? hy)
     refine v_skip ?_
     refine n16 _ _ (weak_keep [0, 3, 7, 11, 12, 13, 18, 19, 20] _) ?_
     refine zk ⟨?_⟩
     refine v_seq ?_; intro Q18 n18 e18 r18
     refine v_block ?_; intro Q19 n19 x19 e19 r19
     refine v_seqR [0,3,7,10,11,12,13,18,19,20] ?_; intro K20 k20
     have F := Fc.mk (And.intro (fun f => getD_map (f := f) hx) (fun f => getD_map (f := f) hy))
     refine zIndexAddr ⟨?_⟩
     refine zLoad ⟨?_⟩
     refine zAssign ⟨?_⟩
     refine k20 _ ?_
     refine zk ⟨?_⟩
     refine v_seq ?_; intro Q21 n21 e21 r21
     refine v_draw (by kernel_rfl) ?_; intro K22 q22 k22
     show aAny _ _ _ _ 7 (Array.replicate 7 false) _
     refine zdMove q22 true 0 24 ?_
     refine zdMove q22 true 1 25 ?_
     refine zdSlice q22 true 2 26 ?_
     refine zdLoad q22 true 3 27 ?_
     refine zdMove q22 true 4 28 ?_
     refine zoc 5 (mayWork_con (d.take i) a b c y (by rw [List.length_take]; omega) (fun l h => hds l (List.mem_of_mem_take h)) hn1 hn9 hc (fun l h => hro l (List.mem_of_mem_take h)) hyr) ⟨?_⟩
     refine zdUnOp q22 true 6 30 ?_
     refine aAny_done (by kernel_rfl) ?_
     refine k22 _ ?_
     refine n21 _ _ (weak_keep [0, 3, 7, 10, 11, 12, 13, 18, 19, 20, 30] _) ?_
     refine zk ⟨?_⟩
     refine v_condS _ rfl ?_ ?_
     ·intro hc2
      refine v_seqR [4,5,6] ?_; intro K24 k24
      refine zMove ⟨?_⟩
      refine zMove ⟨?_⟩
      refine zAssign ⟨?_⟩
      refine zAssign ⟨?_⟩
      refine zAssign ⟨?_⟩
      refine k24 _ ?_
      refine zk ⟨?_⟩
      refine v_ret ?_
      refine r19 _ ?_
      refine r18 _ ?_
      refine r14 _ ?_
      refine r13 _ ?_
      refine r10 _ ?_
      refine r9 _ ?_
      refine r5 _ ?_
      refine r4 _ ?_
      refine r2 _ ?_
      refine r0 _ ?_
      refine zf ⟨?_⟩
      have hres : breachOf d a b c = some (i, y) := by rw [breachOf, ← hR, hst, ← hR2, hst2]; simp [hc2]
      rw [hres]
      exact ret_pure rfl rfl (.inl rfl)
     ·intro hc2
      refine v_skip ?_
      refine n19 _ ?_
      refine n18 _ _ (weak_keep [0, 3, 7, 11, 12, 13, 18, 19, 20] _) ?_
      refine zk ⟨?_⟩
      refine v_region ?_; intro K25 k25
      refine zBinOpW ⟨?_⟩
      refine zMove ⟨?_⟩
      refine k25 _ ?_
      refine n14 _ (j + 1) ?_ ?_ ?_
      ·refine weak_bothS [0, 3, 7, 11, 12, 13, 18, 19, 20] [0] ⟨?_⟩
       rfl
      ·exact ⟨by omega, by rw [← hR2, hst2]; simp [hc2]⟩
      ·show _ < _; omega
    ·intro hc1
     refine v_exit ?_
     refine e16 _ _ ?_
     refine e14 _ _ ?_
     refine x13 _ ?_
     refine n10 _ ?_
     refine n9 _ _ (weak_keep [0, 3, 11, 12, 13] _) ?_
     refine zk ⟨?_⟩
     refine v_region ?_; intro K26 k26
     refine zBinOpW ⟨?_⟩
     refine zMove ⟨?_⟩
     refine k26 _ ?_
     refine n5 _ (i + 1) ?_ ?_ ?_
     ·refine weak_bothS [0, 3, 11, 12, 13] [0] ⟨?_⟩
      rfl
     ·exact ⟨by omega, by rw [← hR, hst, ← hR2, find_end (by omega)]⟩
     ·show _ < _; omega
  ·intro hc0
   refine v_exit ?_
   refine e7 _ _ ?_
   refine e5 _ _ ?_
   refine x4 _ ?_
   refine n2 _ _ (weak_keep [] _) ?_
   refine zk ⟨?_⟩
   refine v_seqR [4,5,6] ?_; intro K27 k27
   refine zAssign ⟨?_⟩
   refine zAssign ⟨?_⟩
   refine zAssign ⟨?_⟩
   refine k27 _ ?_
   refine zk ⟨?_⟩
   refine v_ret ?_
   refine r0 _ ?_
   refine zf ⟨?_⟩
   have hres : breachOf d a b c = none := by rw [breachOf, ← hR, breach_end (by omega)]
   rw [hres]
   exact ret_pure rfl rfl (.inl rfl)
theorem duty_in {a b c : Int} (h : dutyB a b c = true) : 1 ≤ a ∧ a ≤ 9 ∧ 0 ≤ c ∧ c ≤ 5 := by
  simp [dutyB] at h; omega
def breachR (d : List (List Int)) (a b c : Int) : Option (Nat × Int) := if (dutyB a b c && rosterB d a) = true then breachOf d a b c else none

set_option maxHeartbeats 1000000 in
theorem implKeepsRules_con (d : List (List Int)) (a b c : Int) (hd : d.length ≤ 1048576) (hds : ∀ l ∈ d, l.length ≤ 1048576) : Con Try.prog 76 [.sl (d.map fun l => V.sl (l.map (V.int .i64))), .agg [.int .i64 a, .int .i64 b, .int .i64 c]] [] (.tup [.bool ((dutyB a b c && rosterB d a) && !(breachR d a b c).isSome), .bool (dutyB a b c && rosterB d a)]) [] := by
 refine v_con [.tmp 4, .tmp 5] [] Try.func76 rfl rfl rfl (by simp [Try.ntmps76]) ?_
 intro Q0 n0 r0
 simp only [Try.ntmps76, envFrom, Nat.reduceAdd]
 have T := Tys.mk (And.intro Ty.t3 (And.intro Ty.t4 (And.intro Ty.t31 (And.intro Ty.t87 Ty.t104))))
 have F := Fc.mk True.intro
 refine v_seqR [0,3] ?_; intro K1 k1
 refine zBox ⟨?_⟩
 refine zAssign ⟨?_⟩
 refine zAssign ⟨?_⟩
 refine k1 _ ?_
 refine zk ⟨?_⟩
 refine v_seq ?_; intro Q2 n2 e2 r2
 refine v_seqR [0,3,18] ?_; intro K3 k3
 refine zLoad ⟨?_⟩
 refine zc (isDuty_con a b c) ⟨?_⟩
 refine zUnOp ⟨?_⟩
 refine zMove ⟨?_⟩
 refine zgMove ⟨?_⟩
 refine zgFieldAddr ⟨?_⟩
 refine zgLoad ⟨?_⟩
 refine zgc (isRoster_con d a hd hds) ⟨?_⟩
 refine zgUnOp ⟨?_⟩
 refine zPick ⟨?_⟩
 refine k3 _ ?_
 refine zk ⟨?_⟩
 refine v_condS _ rfl ?_ ?_
 ·intro hc0
  refine v_seqR [4,5] ?_; intro K5 k5
  refine zAssign ⟨?_⟩
  refine zAssign ⟨?_⟩
  refine k5 _ ?_
  refine zk ⟨?_⟩
  refine v_ret ?_
  refine r2 _ ?_
  refine r0 _ ?_
  refine zf ⟨?_⟩
  have hg : (dutyB a b c && rosterB d a) = false := by rcases hc0 with h | h <;> simp [h]
  have hbr : breachR d a b c = none := by rw [breachR, hg]; rfl
  rw [hbr]
  rw [hg]
  exact ret_pure rfl rfl (.inl rfl)
 ·intro hc0
  have hdi := duty_in hc0.1
  have hroi := roster_in hc0.2
  have hg : (dutyB a b c && rosterB d a) = true := by rw [hc0.1, hc0.2]; rfl
  have hbr : breachR d a b c = breachOf d a b c := by rw [breachR, hg]; rfl
  refine v_skip ?_
  refine n2 _ _ (weak_keep [0, 3] _) ?_
  refine zk ⟨?_⟩
  refine v_seqR [8] ?_; intro K6 k6
  refine zMove ⟨?_⟩
  refine zLoad ⟨?_⟩
  refine zc (firstBreach_con d a b c hd hds hroi.1 hroi.2.1 hdi.2.2 hroi.2.2) ⟨?_⟩
  refine zMove ⟨?_⟩
  refine zExtract ⟨?_⟩
  refine zExtract ⟨?_⟩
  refine zExtract ⟨?_⟩
  refine zAssign ⟨?_⟩
  refine zAssign ⟨?_⟩
  refine zAssign ⟨?_⟩
  refine k6 _ ?_
  refine zk ⟨?_⟩
  refine v_seqR [4,5] ?_; intro K7 k7
  refine zMove ⟨?_⟩
  refine zUnOp ⟨?_⟩
  refine zAssign ⟨?_⟩
  refine zAssign ⟨?_⟩
  refine k7 _ ?_
  refine zk ⟨?_⟩
  refine v_ret ?_
  refine r0 _ ?_
  refine zf ⟨?_⟩
  rw [hbr, hg]
  exact ret_pure rfl rfl (.inl rfl)
def okAt (s : ByteArray) (i : Nat) : Bool := (decide (97 ≤ byteAt s i) && decide (byteAt s i ≤ 122)) || ((decide (48 ≤ byteAt s i) && decide (byteAt s i ≤ 57)) && !decide (i = 0))
def nameB (s : ByteArray) : Bool := (List.range s.size).all (okAt s) && (decide (1 ≤ (s.size : Int)) && decide ((s.size : Int) ≤ 6))
theorem name_bad {s : ByteArray} {i : Nat} (hi : i < s.size) (h : okAt s i = false) : nameB s = false := by
  have : (List.range s.size).all (okAt s) = false := by
    rw [List.all_eq_false]
    exact ⟨i, List.mem_range.2 hi, by rw [h]; simp⟩
  rw [nameB, this]; rfl
theorem name_good {s : ByteArray} {i : Nat} (hi : s.size ≤ i) (h : ∀ j, j < i → okAt s j = true) : nameB s = (decide (1 ≤ (s.size : Int)) && decide ((s.size : Int) ≤ 6)) := by
  have : (List.range s.size).all (okAt s) = true := by
    rw [List.all_eq_true]
    intro j hj
    exact h j (Nat.lt_of_lt_of_le (List.mem_range.1 hj) hi)
  rw [nameB, this]; rfl
theorem ok_step {s : ByteArray} {i : Nat} (h : ∀ j, j < i → okAt s j = true) (hi : okAt s i = true) : ∀ j, j < i + 1 → okAt s j = true := by
  intro j hj
  rcases Nat.lt_or_ge j i with q | q
  · exact h j q
  · have : j = i := by omega
    subst this; exact hi

set_option maxHeartbeats 1000000 in
theorem isNaN_int_con (a : Int) : Con Try.prog 257 [V.int .i64 a] [] (.bool false) [] := by
 refine v_con [.tmp 2] [] Try.func257 rfl rfl rfl (by simp [Try.ntmps257]) ?_
 intro Q0 n0 r0
 simp only [Try.ntmps257, envFrom, Nat.reduceAdd]
 have T := Tys.mk Ty.t3
 have F := Fc.mk True.intro
 refine v_seqR [0] ?_; intro K1 k1
 refine zAssign ⟨?_⟩
 refine k1 _ ?_
 refine zk ⟨?_⟩
 refine v_seqR [2] ?_; intro K2 k2
 refine zMove ⟨?_⟩
 refine zMove ⟨?_⟩
 refine zBinOp ⟨?_⟩
 refine zAssign ⟨?_⟩
 refine k2 _ ?_
 refine zk ⟨?_⟩
 refine v_ret ?_
 refine r0 _ ?_
 refine zf ⟨?_⟩
 exact ret_pure rfl (by first | rfl | simp) (.inl rfl)
def cmpI (a b : Int) : Int := if a < b then -1 else if b < a then 1 else 0
def cmpS (a b : ByteArray) : Int := if strLt a b = true then -1 else if a = b then 0 else 1
def orL : List Int → Int
  | [] => 0
  | x :: l => if x ≠ 0 then x else orL l
theorem or_step {l : List Int} {i : Nat} {x : Int} (h : l[i]? = some x) : orL (l.drop i) = if x ≠ 0 then x else orL (l.drop (i + 1)) := by
  rw [getElem_drop_cons h, orL]
theorem or_end {l : List Int} {i : Nat} (h : l.length ≤ i) : orL (l.drop i) = 0 := by
  rw [List.drop_of_length_le h, orL]

set_option maxHeartbeats 1000000 in
theorem cmpInt_con (a b : Int) : Con Try.prog 224 [.int .i64 a, .int .i64 b] [] (.int .i64 (cmpI a b)) [] := by
 refine v_con [.tmp 4] [] Try.func224 rfl rfl rfl (by simp [Try.ntmps224]) ?_
 intro Q0 n0 r0
 simp only [Try.ntmps224, envFrom, Nat.reduceAdd]
 have T := Tys.mk (And.intro Ty.t3 Ty.t4)
 have F := Fc.mk True.intro
 refine v_seqR [0,1] ?_; intro K1 k1
 refine zAssign ⟨?_⟩
 refine k1 _ ?_
 refine zk ⟨?_⟩
 refine v_seqR [0,1,5] ?_; intro K2 k2
 refine zMove ⟨?_⟩
 refine zc (isNaN_int_con _) ⟨?_⟩
 refine zAssign ⟨?_⟩
 refine k2 _ ?_
 refine zk ⟨?_⟩
 refine v_seqR [0,1,5,6] ?_; intro K3 k3
 refine zMove ⟨?_⟩
 refine zc (isNaN_int_con _) ⟨?_⟩
 refine zAssign ⟨?_⟩
 refine k3 _ ?_
 refine zk ⟨?_⟩
 refine v_seq ?_; intro Q4 n4 e4 r4
 refine v_seqR [0,1,6,11] ?_; intro K5 k5
 refine zMove ⟨?_⟩
 refine k5 _ ?_
 refine zk ⟨?_⟩
 refine v_cond _ rfl ?_ ?_
 ·intro hc0
  exfalso; simp at hc0
 ·intro hc0
  try simp only [zC, reduceCtorEq] at hc0
  refine v_skip ?_
  refine n4 _ _ (weak_keep [0, 1, 6] _) ?_
  refine zk ⟨?_⟩
  refine v_seq ?_; intro Q7 n7 e7 r7
  refine v_seqR [0,1,13] ?_; intro K8 k8
  refine zMove ⟨?_⟩
  refine k8 _ ?_
  refine zk ⟨?_⟩
  refine v_cond _ rfl ?_ ?_
  ·intro hc1
   exfalso; simp at hc1
  ·intro hc1
   try simp only [zC, reduceCtorEq] at hc1
   refine v_skip ?_
   refine n7 _ _ (weak_keep [0, 1] _) ?_
   refine zk ⟨?_⟩
   refine v_seq ?_; intro Q10 n10 e10 r10
   refine v_seqR [0,1,16] ?_; intro K11 k11
   refine zMove ⟨?_⟩
   refine zMove ⟨?_⟩
   refine zBinOp ⟨?_⟩
   refine k11 _ ?_
   refine zk ⟨?_⟩
   refine v_condS _ rfl ?_ ?_
   ·intro hc2
    refine v_seqR [4] ?_; intro K13 k13
    refine zAssign ⟨?_⟩
    refine k13 _ ?_
    refine zk ⟨?_⟩
    refine v_ret ?_
    refine r10 _ ?_
    refine r0 _ ?_
    refine zf ⟨?_⟩
    exact ret_pure rfl (by rw [cmpI, if_pos hc2]) (.inl rfl)
   ·intro hc2
    refine v_skip ?_
    refine n10 _ _ (weak_keep [0, 1] _) ?_
    refine zk ⟨?_⟩
    refine v_seq ?_; intro Q14 n14 e14 r14
    refine v_seqR [19] ?_; intro K15 k15
    refine zMove ⟨?_⟩
    refine zMove ⟨?_⟩
    refine zBinOp ⟨?_⟩
    refine k15 _ ?_
    refine zk ⟨?_⟩
    refine v_condS _ rfl ?_ ?_
    ·intro hc3
     refine v_seqR [4] ?_; intro K17 k17
     refine zAssign ⟨?_⟩
     refine k17 _ ?_
     refine zk ⟨?_⟩
     refine v_ret ?_
     refine r14 _ ?_
     refine r0 _ ?_
     refine zf ⟨?_⟩
     exact ret_pure rfl (by rw [cmpI, if_neg (by omega), if_pos hc3]) (.inl rfl)
    ·intro hc3
     refine v_skip ?_
     refine n14 _ _ (weak_keep [] _) ?_
     refine zk ⟨?_⟩
     refine v_seqR [4] ?_; intro K18 k18
     refine zAssign ⟨?_⟩
     refine k18 _ ?_
     refine zk ⟨?_⟩
     refine v_ret ?_
     refine r0 _ ?_
     refine zf ⟨?_⟩
     exact ret_pure rfl (by rw [cmpI, if_neg (by omega), if_neg (by omega)]) (.inl rfl)
def chainFrom {α : Type} (ok : α → Bool) (bf : α → α → Bool) : Option α → List α → Bool
  | _, [] => true
  | none, x :: l => ok x && chainFrom ok bf (some x) l
  | some p, x :: l => ok x && bf p x && chainFrom ok bf (some x) l
def chainAt {α : Type} (ok : α → Bool) (bf : α → α → Bool) (l : List α) (i : Nat) : Bool := chainFrom ok bf (if i = 0 then none else l[i - 1]?) (l.drop i)
theorem chain_zero {α : Type} {ok : α → Bool} {bf : α → α → Bool} {l : List α} {x : α} (h : l[0]? = some x) : chainAt ok bf l 0 = (ok x && chainAt ok bf l 1) := by
  simp only [chainAt, getElem_drop_cons h, if_true, chainFrom]
  simp [h]
theorem chain_succ {α : Type} {ok : α → Bool} {bf : α → α → Bool} {l : List α} {x y : α} {i : Nat} (h0 : 0 < i) (hy : l[i - 1]? = some y) (h : l[i]? = some x) : chainAt ok bf l i = (ok x && bf y x && chainAt ok bf l (i + 1)) := by
  simp only [chainAt, getElem_drop_cons h, hy, show ¬ i = 0 by omega, if_false, chainFrom]
  simp [h]
theorem chain_end {α : Type} {ok : α → Bool} {bf : α → α → Bool} {l : List α} {i : Nat} (h : l.length ≤ i) : chainAt ok bf l i = true := by
  simp only [chainAt, List.drop_of_length_le h]
  split <;> rfl
theorem chainFrom_ok {α : Type} {ok : α → Bool} {bf : α → α → Bool} : ∀ {l : List α} {p : Option α}, chainFrom ok bf p l = true → ∀ x ∈ l, ok x = true
  | [], _, _, x, hx => by cases hx
  | y :: l, p, h, x, hx => by
    have h2 : ok y = true ∧ chainFrom ok bf (some y) l = true := by
      cases p <;> simp [chainFrom] at h <;> simp [h]
    rcases List.mem_cons.1 hx with rfl | h3
    · exact h2.1
    · exact chainFrom_ok h2.2 x h3
theorem chain_ok {α : Type} {ok : α → Bool} {bf : α → α → Bool} {l : List α} (h : chainAt ok bf l 0 = true) : ∀ x ∈ l, ok x = true := chainFrom_ok h

def tOne (x : (Int × ByteArray × Int × Int)) : Bool := (decide (1 ≤ x.1) && decide (x.1 ≤ 999)) && nameB x.2.1 && (decide (0 ≤ x.2.2.1) && decide (x.2.2.1 ≤ 999999)) && (decide (x.2.2.1 ≤ x.2.2.2) && decide (x.2.2.2 ≤ 999999))
def tBefore (x y : (Int × ByteArray × Int × Int)) : Bool := if x.2.2.1 ≠ y.2.2.1 then decide (x.2.2.1 < y.2.2.1) else if x.1 ≠ y.1 then decide (x.1 < y.1) else strLt x.2.1 y.2.1
def turnsB (l : List (Int × ByteArray × Int × Int)) : Bool := chainAt tOne tBefore l 0 && decide ((l.length : Int) ≤ 15)
theorem strLt_irrefl (a : ByteArray) : strLt a a = false := by
  unfold strLt
  generalize a.toList = l
  induction l with
  | nil => rfl
  | cons x l ih => simp [Op.bytesLess, ih]
theorem cmp_before (x y : (Int × ByteArray × Int × Int)) : (0 ≤ orL [cmpI x.2.2.1 y.2.2.1, cmpI x.1 y.1, cmpS x.2.1 y.2.1]) ↔ tBefore x y = false := by
  simp only [orL, cmpI, cmpS, tBefore]
  by_cases h1 : x.2.2.1 = y.2.2.1
  · by_cases h2 : x.1 = y.1
    · by_cases h3 : x.2.1 = y.2.1
      · simp [h1, h2, h3, strLt_irrefl]
      · by_cases h4 : strLt x.2.1 y.2.1 = true
        · simp [h1, h2, h3, h4]
        · simp only [Bool.not_eq_true] at h4; simp [h1, h2, h3, h4]
    · rcases Int.lt_or_gt_of_ne h2 with q | q
      · simp [h1, q, h2]
      · have : ¬ x.1 < y.1 := by omega
        simp [h1, q, h2, this]
  · rcases Int.lt_or_gt_of_ne h1 with q | q
    · simp [q, h1]
    · have : ¬ x.2.2.1 < y.2.2.1 := by omega
      simp [q, h1, this]

def markSS : Int → List (List Int) → List (List Int)
  | _, [] => []
  | k, l :: ll => markRow k l.length :: markSS (k + l.length) ll
def totSS : List (List Int) → Int
  | [] => 0
  | l :: ll => l.length + totSS ll
theorem totSS_pos : ∀ ll : List (List Int), 0 ≤ totSS ll
  | [] => Int.le_refl _
  | l :: ll => by have := totSS_pos ll; rw [totSS]; omega
theorem markSS_same : ∀ (ll : List (List Int)) (k : Int), (markSS k ll).map List.isEmpty = ll.map List.isEmpty
  | [], _ => rfl
  | l :: ll, k => by
    rw [markSS, List.map_cons, List.map_cons, markSS_same ll]
    congr 1
    cases l <;> simp [markRow, List.range_succ]
theorem markSS_len : ∀ (ll : List (List Int)) (k : Int), (markSS k ll).length = ll.length
  | [], _ => rfl
  | l :: ll, k => by rw [markSS, List.length_cons, List.length_cons, markSS_len ll]
theorem markRow_zero (k : Int) : markRow k 0 = [] := rfl
theorem set_cons_eq {α : Type} {l l' : List α} {i : Nat} {x : α} (hi : i < l.length) : (l.set i x).take (i + 1) ++ l' = l.take i ++ x :: l' := by
  rw [List.take_add_one, List.getElem?_set_self hi, List.take_set_of_le (Nat.le_refl _)]
  simp
theorem same_set {l : List (List Int)} {i : Nat} {x y : List Int} (h : l[i]? = some x) (he : y.isEmpty = x.isEmpty) : (l.set i y).map List.isEmpty = l.map List.isEmpty := by
  obtain ⟨hi, rfl⟩ := List.getElem?_eq_some_iff.1 h
  rw [List.map_set, he]
  apply List.ext_getElem?
  intro j
  by_cases q : i = j
  · subst q; rw [List.getElem?_set_self (by simpa using hi)]; simp [hi]
  · rw [List.getElem?_set_ne q]
theorem totSS_drop {ll : List (List Int)} {i : Nat} {l : List Int} (h : ll[i]? = some l) : totSS (ll.drop i) = l.length + totSS (ll.drop (i + 1)) := by
  rw [getElem_drop_cons h, totSS]
theorem totSS_end {ll : List (List Int)} {i : Nat} (h : ll.length ≤ i) : totSS (ll.drop i) = 0 := by
  rw [List.drop_of_length_le h]; rfl

def needB (l : List Int) : Bool := l.all (fun x => inR x 0 9) && decide ((l.length : Int) ≤ 21)
def openFrom (needs : List Int) : Nat → List (List Int) → List Int
  | _, [] => []
  | i, l :: ll => if (l.length : Int) < needs.getD i 0 then (i : Int) :: openFrom needs (i + 1) ll else openFrom needs (i + 1) ll
theorem open_step {needs : List Int} {d : List (List Int)} {i : Nat} {l : List Int} {z : Int} (h : d[i]? = some l) (hz : needs[i]? = some z) : openFrom needs i (d.drop i) = if (l.length : Int) < z then (i : Int) :: openFrom needs (i + 1) (d.drop (i + 1)) else openFrom needs (i + 1) (d.drop (i + 1)) := by
  rw [getElem_drop_cons h, openFrom, List.getD_eq_getElem?_getD, hz]; rfl
theorem snoc_open {l : List Int} {x : Int} : l.map (V.int .i64) ++ [V.int .i64 x] = (l ++ [x]).map (V.int .i64) := by rw [List.map_append]; rfl
theorem open_end {needs : List Int} {d : List (List Int)} {i k : Nat} (h : d.length ≤ i) : openFrom needs k (d.drop i) = [] := by
  rw [List.drop_of_length_le h, openFrom]
theorem open_len (needs : List Int) : ∀ (d : List (List Int)) (i : Nat), (openFrom needs i d).length ≤ d.length
  | [], _ => Nat.le_refl _
  | l :: d, i => by
    have := open_len needs d (i + 1)
    rw [openFrom]
    split <;> simp <;> omega
def openB (d : List (List Int)) (n : Int) (c : List Int) : Bool := rosterB d n && needB c && decide ((c.length : Int) = d.length)
def openR (d : List (List Int)) (n : Int) (c : List Int) : List Int := if openB d n c = true then openFrom c 0 d else []
theorem openR_len (d : List (List Int)) (n : Int) (c : List Int) : (openR d n c).length ≤ d.length := by
  unfold openR
  split
  · exact open_len c d 0
  · simp
def shiftsR (d : List (List Int)) (n : Int) : List Int := if rosterB d n then shiftsOf d n else []
theorem shiftsR_len (d : List (List Int)) (n : Int) : (shiftsR d n).length ≤ 1048576 := by
  unfold shiftsR
  split
  · rename_i h
    have := roster_in h
    rw [shiftsOf_len]; omega
  · simp
theorem szSS_tot : ∀ {ll : List (List Int)} {n : Int}, 0 ≤ szSS n ll → totSS ll ≤ n
  | [], n, h => by rw [szSS] at h; rw [totSS]; exact h
  | x :: ll, n, h => by
    rw [szSS] at h
    split at h
    · omega
    · rename_i hs
      have hx : szS n x = n - x.length := by
        unfold szS at hs ⊢
        split at hs
        · omega
        · rename_i h2; rw [if_neg h2]
      have := szSS_tot h
      rw [totSS]; omega

set_option maxHeartbeats 1000000 in
theorem l1All_con (l : List Int) (lo hi : Int) (hl : l.length ≤ 1048576) : Con Try.prog 226 [.sl (l.map (V.int .i64)), .int .i64 lo, .int .i64 hi] [] (.bool (l.all (fun x => inR x lo hi))) [] := by
 refine v_con [.tmp 6] [] Try.func226 rfl rfl rfl (by simp [Try.ntmps226]) ?_
 intro Q0 n0 r0
 simp only [Try.ntmps226, envFrom, Nat.reduceAdd]
 have T := Tys.mk (And.intro Ty.t3 (And.intro Ty.t4 Ty.t31))
 have F := Fc.mk True.intro
 refine v_seqR [0,1,2] ?_; intro K1 k1
 refine zAssign ⟨?_⟩
 refine k1 _ ?_
 refine zk ⟨?_⟩
 refine v_seq ?_; intro Q2 n2 e2 r2
 refine v_seqR [1,2,9,10,11] ?_; intro K3 k3
 refine zMove ⟨?_⟩
 refine zLen ⟨?_⟩
 refine zMove ⟨?_⟩
 refine k3 _ ?_
 refine zk ⟨?_⟩
 refine v_block ?_; intro Q4 n4 x4 e4 r4
 refine v_loop (fun i => ⟨[(1, .int .i64 lo), (2, .int .i64 hi), (9, .sl (l.map (V.int .i64))), (10, .int .i64 l.length), (11, .int .i64 (Nat.cast i))], [], false, 21, 0⟩) (fun i => i ≤ l.length ∧ l.all (fun x => inR x lo hi) = (l.drop i).all (fun x => inR x lo hi)) (fun i => l.length - i) 0 ?_ ?_ ?_
 ·refine weak_of [1, 2, 9, 10, 11] ?_
  simp only [keep_mk, keepE_nil, keepE_cons, look_cons, look_nil, Nat.reduceEqDiff, reduceIte]
  rfl
 ·exact ⟨Nat.zero_le _, by simp⟩
 ·rintro i hok5 Q5 n5 e5 r5
  obtain ⟨hi1, hR⟩ := hok5
  refine v_seqR [1,2,9,10,11,12] ?_; intro K6 k6
  refine zBinOp ⟨?_⟩
  refine k6 _ ?_
  refine zk ⟨?_⟩
  refine v_seq ?_; intro Q7 n7 e7 r7
  refine v_condS _ rfl ?_ ?_
  ·intro hc0
   have hlt : i < l.length := by omega
   obtain ⟨x, hx⟩ : ∃ x, l[i]? = some x := ⟨l[i], List.getElem?_eq_getElem hlt⟩
   have hst := all_drop (f := (fun x => inR x lo hi)) hx
   refine v_skip ?_
   refine n7 _ _ (weak_keep [1, 2, 9, 10, 11] _) ?_
   refine zk ⟨?_⟩
   refine v_seq ?_; intro Q9 n9 e9 r9
   refine v_block ?_; intro Q10 n10 x10 e10 r10
   refine v_seqR [1,2,8,9,10,11] ?_; intro K11 k11
   have F := Fc.mk (fun f => getD_map (f := f) hx)
   refine zIndexAddr ⟨?_⟩
   refine zLoad ⟨?_⟩
   refine zAssign ⟨?_⟩
   refine k11 _ ?_
   refine zk ⟨?_⟩
   refine v_seqR [1,2,9,10,11,19] ?_; intro K12 k12
   refine zMove ⟨?_⟩
   refine zMove ⟨?_⟩
   refine zMove ⟨?_⟩
   refine zc (l1In_con _ _ _) ⟨?_⟩
   refine zUnOp ⟨?_⟩
   refine k12 _ ?_
   refine zk ⟨?_⟩
   refine v_condS _ rfl ?_ ?_
   ·intro hc1
    have hb : inR x lo hi = false := by cases hq : inR x lo hi with | false => rfl | true => (exfalso; simp [inR] at hq; have := hc1 hq.1; omega)
    refine v_seqR [6] ?_; intro K14 k14
    refine zAssign ⟨?_⟩
    refine k14 _ ?_
    refine zk ⟨?_⟩
    refine v_ret ?_
    refine r10 _ ?_
    refine r9 _ ?_
    refine r5 _ ?_
    refine r4 _ ?_
    refine r2 _ ?_
    refine r0 _ ?_
    refine zf ⟨?_⟩
    exact ret_pure rfl (by rw [hR, hst, hb]; rfl) (.inl rfl)
   ·intro hc1
    have hb : inR x lo hi = true := by rw [inR, decide_eq_true hc1.1, decide_eq_true hc1.2]; rfl
    refine v_skip ?_
    refine n10 _ ?_
    refine n9 _ _ (weak_keep [1, 2, 9, 10, 11] _) ?_
    refine zk ⟨?_⟩
    refine v_region ?_; intro K15 k15
    refine zBinOpW ⟨?_⟩
    refine zMove ⟨?_⟩
    refine k15 _ ?_
    refine n5 _ (i + 1) ?_ ?_ ?_
    ·refine weak_of [1, 2, 9, 10, 11] ?_
     simp only [keep_mk, keepE_nil, keepE_cons, look_cons, look_nil, Nat.reduceEqDiff, reduceIte]
     rfl
    ·exact ⟨by omega, by rw [hR, hst, hb]; simp⟩
    ·show _ < _; omega
  ·intro hc0
   refine v_exit ?_
   refine e7 _ _ ?_
   refine e5 _ _ ?_
   refine x4 _ ?_
   refine n2 _ _ (weak_keep [] _) ?_
   refine zk ⟨?_⟩
   refine v_seqR [6] ?_; intro K16 k16
   refine zAssign ⟨?_⟩
   refine k16 _ ?_
   refine zk ⟨?_⟩
   refine v_ret ?_
   refine r0 _ ?_
   refine zf ⟨?_⟩
   exact ret_pure rfl (by rw [hR, List.drop_of_length_le (by omega)]; rfl) (.inl rfl)
set_option maxHeartbeats 1000000 in
theorem duNeeds_con (l : List Int) (hl : l.length ≤ 1048576) : Con Try.prog 159 [.sl (l.map (V.int .i64))] [] (.bool (needB l)) [] := by
 refine v_con [.tmp 2] [] Try.func159 rfl rfl rfl (by simp [Try.ntmps159]) ?_
 intro Q0 n0 r0
 simp only [Try.ntmps159, envFrom, Nat.reduceAdd]
 have T := Tys.mk (And.intro Ty.t3 (And.intro Ty.t4 Ty.t31))
 have F := Fc.mk True.intro
 refine v_seqR [0] ?_; intro K1 k1
 refine zAssign ⟨?_⟩
 refine k1 _ ?_
 refine zk ⟨?_⟩
 refine v_seqR [2] ?_; intro K2 k2
 refine zMove ⟨?_⟩
 refine zLen ⟨?_⟩
 refine zBinOp ⟨?_⟩
 refine zMove ⟨?_⟩
 refine zgMove ⟨?_⟩
 refine zgc (l1All_con l 0 9 hl) ⟨?_⟩
 refine zPick ⟨?_⟩
 refine zAssign ⟨?_⟩
 refine k2 _ ?_
 refine zk ⟨?_⟩
 refine v_ret ?_
 refine r0 _ ?_
 refine zf ⟨?_⟩
 exact ret_pure rfl (by simp [needB, Bool.and_comm]) (.inl rfl)
set_option maxHeartbeats 1000000 in
theorem areNeeds_con (l : List Int) (hl : l.length ≤ 1048576) : Con Try.prog 156 [.sl (l.map (V.int .i64))] [] (.bool (needB l)) [] := by
 refine v_con [.tmp 2] [] Try.func156 rfl rfl rfl (by simp [Try.ntmps156]) ?_
 intro Q0 n0 r0
 simp only [Try.ntmps156, envFrom, Nat.reduceAdd]
 have T := Tys.mk (And.intro Ty.t3 (And.intro Ty.t4 Ty.t31))
 have F := Fc.mk True.intro
 refine v_seqR [0] ?_; intro K1 k1
 refine zAssign ⟨?_⟩
 refine k1 _ ?_
 refine zk ⟨?_⟩
 refine v_seq ?_; intro Q2 n2 e2 r2
 refine v_seqR [0,5,6,7] ?_; intro K3 k3
 refine zMove ⟨?_⟩
 refine zLen ⟨?_⟩
 refine zMove ⟨?_⟩
 refine k3 _ ?_
 refine zk ⟨?_⟩
 refine v_block ?_; intro Q4 n4 x4 e4 r4
 refine v_loop (fun i => ⟨[(0, .sl (l.map (V.int .i64))), (5, .sl (l.map (V.int .i64))), (6, .int .i64 l.length), (7, .int .i64 (Nat.cast i))], [], false, 18, 0⟩) (fun i => i ≤ l.length ∧ l.all (fun x => inR x 0 9) = (l.drop i).all (fun x => inR x 0 9)) (fun i => l.length - i) 0 ?_ ?_ ?_
 ·refine weak_of [0, 5, 6, 7] ?_
  simp only [keep_mk, keepE_nil, keepE_cons, look_cons, look_nil, Nat.reduceEqDiff, reduceIte]
  rfl
 ·exact ⟨Nat.zero_le _, by simp⟩
 ·rintro i hok5 Q5 n5 e5 r5
  obtain ⟨hi1, hR⟩ := hok5
  refine v_seqR [0,5,6,7,8] ?_; intro K6 k6
  refine zBinOp ⟨?_⟩
  refine k6 _ ?_
  refine zk ⟨?_⟩
  refine v_seq ?_; intro Q7 n7 e7 r7
  refine v_condS _ rfl ?_ ?_
  ·intro hc0
   have hlt : i < l.length := by omega
   obtain ⟨x, hx⟩ : ∃ x, l[i]? = some x := ⟨l[i], List.getElem?_eq_getElem hlt⟩
   have hst := all_drop (f := (fun x => inR x 0 9)) hx
   refine v_skip ?_
   refine n7 _ _ (weak_keep [0, 5, 6, 7] _) ?_
   refine zk ⟨?_⟩
   refine v_seq ?_; intro Q9 n9 e9 r9
   refine v_block ?_; intro Q10 n10 x10 e10 r10
   refine v_seqR [0,4,5,6,7] ?_; intro K11 k11
   have F := Fc.mk (fun f => getD_map (f := f) hx)
   refine zIndexAddr ⟨?_⟩
   refine zLoad ⟨?_⟩
   refine zAssign ⟨?_⟩
   refine k11 _ ?_
   refine zk ⟨?_⟩
   refine v_seqR [0,5,6,7,13] ?_; intro K12 k12
   refine zMove ⟨?_⟩
   refine zc (inside_con _ _ _) ⟨?_⟩
   refine zUnOp ⟨?_⟩
   refine k12 _ ?_
   refine zk ⟨?_⟩
   refine v_condS _ rfl ?_ ?_
   ·intro hc1
    have hb : inR x 0 9 = false := by cases hq : inR x 0 9 with | false => rfl | true => (exfalso; simp [inR] at hq; have := hc1 hq.1; omega)
    refine v_seqR [2] ?_; intro K14 k14
    refine zAssign ⟨?_⟩
    refine k14 _ ?_
    refine zk ⟨?_⟩
    refine v_ret ?_
    refine r10 _ ?_
    refine r9 _ ?_
    refine r5 _ ?_
    refine r4 _ ?_
    refine r2 _ ?_
    refine r0 _ ?_
    refine zf ⟨?_⟩
    exact ret_pure rfl (by rw [needB, hR, hst, hb]; rfl) (.inl rfl)
   ·intro hc1
    have hb : inR x 0 9 = true := by rw [inR, decide_eq_true hc1.1, decide_eq_true hc1.2]; rfl
    refine v_skip ?_
    refine n10 _ ?_
    refine n9 _ _ (weak_keep [0, 5, 6, 7] _) ?_
    refine zk ⟨?_⟩
    refine v_region ?_; intro K15 k15
    refine zBinOpW ⟨?_⟩
    refine zMove ⟨?_⟩
    refine k15 _ ?_
    refine n5 _ (i + 1) ?_ ?_ ?_
    ·refine weak_of [0, 5, 6, 7] ?_
     simp only [keep_mk, keepE_nil, keepE_cons, look_cons, look_nil, Nat.reduceEqDiff, reduceIte]
     rfl
    ·exact ⟨by omega, by rw [hR, hst, hb]; simp⟩
    ·show _ < _; omega
  ·intro hc0
   refine v_exit ?_
   refine e7 _ _ ?_
   refine e5 _ _ ?_
   refine x4 _ ?_
   refine n2 _ _ (weak_keep [0] _) ?_
   refine zk ⟨?_⟩
   refine v_seqR [2] ?_; intro K16 k16
   refine zMove ⟨?_⟩
   refine zLen ⟨?_⟩
   refine zBinOp ⟨?_⟩
   refine zAssign ⟨?_⟩
   refine k16 _ ?_
   refine zk ⟨?_⟩
   refine v_ret ?_
   refine r0 _ ?_
   refine zf ⟨?_⟩
   exact ret_pure rfl (by rw [needB, hR, List.drop_of_length_le (by omega)]; simp) (.inl rfl)
set_option maxHeartbeats 1000000 in
theorem specOpenShifts_con (d : List (List Int)) (n : Int) (c : List Int) (hd : d.length ≤ 1048576) (hds : ∀ l ∈ d, l.length ≤ 1048576) (hcl : c.length ≤ 1048576) : Con Try.prog 72 [.sl (d.map fun l => V.sl (l.map (V.int .i64))), .int .i64 n, .sl (c.map (V.int .i64))] [] (.tup [.ref 0, .bool (openB d n c)]) [.arr ((openR d n c).map (V.int .i64)) .flat] := by
 refine v_con [.tmp 6, .tmp 7] [] Try.func72 rfl rfl rfl (by simp [Try.ntmps72]) ?_
 intro Q0 n0 r0
 simp only [Try.ntmps72, envFrom, Nat.reduceAdd]
 have T := Tys.mk (And.intro Ty.t3 (And.intro Ty.t4 (And.intro Ty.t31 Ty.t87)))
 have F := Fc.mk True.intro
 refine v_seqR [0,1,2] ?_; intro K1 k1
 refine zAssign ⟨?_⟩
 refine zAssign ⟨?_⟩
 refine k1 _ ?_
 refine zk ⟨?_⟩
 refine v_seq ?_; intro Q2 n2 e2 r2
 refine v_seqR [0,2,26] ?_; intro K3 k3
 refine zMove ⟨?_⟩
 refine zMove ⟨?_⟩
 refine zc (duRoster_con d n hd hds) ⟨?_⟩
 refine zUnOp ⟨?_⟩
 refine zMove ⟨?_⟩
 refine zgMove ⟨?_⟩
 refine zgc (duNeeds_con c hcl) ⟨?_⟩
 refine zgUnOp ⟨?_⟩
 refine zPick ⟨?_⟩
 refine zMove ⟨?_⟩
 refine zgMove ⟨?_⟩
 refine zgLen ⟨?_⟩
 refine zgMove ⟨?_⟩
 refine zgLen ⟨?_⟩
 refine zgBinOp ⟨?_⟩
 refine zPick ⟨?_⟩
 refine k3 _ ?_
 refine zk ⟨?_⟩
 refine v_condS _ rfl ?_ ?_
 ·intro hc0
  refine v_seqR [6,7] ?_; intro K5 k5
  refine zAssign ⟨?_⟩
  refine zAssign ⟨?_⟩
  refine k5 _ ?_
  refine zk ⟨?_⟩
  refine v_ret ?_
  refine r2 _ ?_
  refine r0 _ ?_
  refine zf ⟨?_⟩
  have hg : openB d n c = false := by
   cases hq : openB d n c with
   |false => rfl
   |true =>
    exfalso
    simp only [openB, Bool.and_eq_true, decide_eq_true_eq] at hq
    rcases hc0 with (h | h) | h
    ·rw [hq.1.1] at h; cases h
    ·rw [hq.1.2] at h; cases h
    ·omega
  rw [show openR d n c = [] by rw [openR, hg]; rfl, hg]
  exact ret_ref_tup rfl rfl rfl (.inl rfl)
 ·intro hc0
  have hlen : (c.length : Int) = d.length := by omega
  have hg : openB d n c = true := by rw [openB, hc0.1.1, hc0.1.2, decide_eq_true hlen]; rfl
  refine v_skip ?_
  refine n2 _ _ (weak_keep [0, 2] _) ?_
  refine zk ⟨?_⟩
  refine v_seqR [0,2,8] ?_; intro K6 k6
  refine zAssign ⟨?_⟩
  refine k6 _ ?_
  refine zk ⟨?_⟩
  refine v_seq ?_; intro Q7 n7 e7 r7
  refine v_seqR [2,8,27,28,29] ?_; intro K8 k8
  refine zMove ⟨?_⟩
  refine zLen ⟨?_⟩
  refine zMove ⟨?_⟩
  refine k8 _ ?_
  refine zk ⟨?_⟩
  refine v_block ?_; intro Q9 n9 x9 e9 r9
  refine v_loop (fun p => ⟨[(2, .sl (c.map (V.int .i64))), (8, .ref 0), (27, .sl (d.map fun l => V.sl (l.map (V.int .i64)))), (28, .int .i64 d.length), (29, .int .i64 (Nat.cast p.1))], [.arr (p.2.map (V.int .i64)) .flat], false, 47, 0⟩) (fun p => p.1 ≤ d.length ∧ p.2.length ≤ p.1 ∧ p.2 ++ openFrom c p.1 (d.drop p.1) = openFrom c 0 d) (fun p => d.length - p.1) ((0, []) : Nat × List Int) ?_ ?_ ?_
  ·refine weak_bothS [2, 8, 27, 28, 29] [1] ⟨?_⟩
   rfl
  ·exact ⟨Nat.zero_le _, Nat.le_refl _, rfl⟩
  ·rintro ⟨i, acc⟩ hok10 Q10 n10 e10 r10
   obtain ⟨hi1, hal, hR⟩ := hok10
   simp only [] at hi1 hal hR ⊢
   refine v_seqR [2,8,27,28,29,30] ?_; intro K11 k11
   refine zBinOp ⟨?_⟩
   refine k11 _ ?_
   refine zk ⟨?_⟩
   refine v_seq ?_; intro Q12 n12 e12 r12
   refine v_condS _ rfl ?_ ?_
   ·intro hc1
    have hlt : i < d.length := by omega
    obtain ⟨l, hx⟩ : ∃ l, d[i]? = some l := ⟨d[i], List.getElem?_eq_getElem hlt⟩
    obtain ⟨z, hz⟩ : ∃ z, c[i]? = some z := ⟨c[i]'(by omega), List.getElem?_eq_getElem (by omega)⟩
    have hst := open_step hx hz
    have hll := hds l (List.mem_of_getElem? hx)
    refine v_skip ?_
    refine n12 _ _ (weak_keep [2, 8, 27, 28, 29] _) ?_
    refine zk ⟨?_⟩
    refine v_seq ?_; intro Q14 n14 e14 r14
    refine v_block ?_; intro Q15 n15 x15 e15 r15
    refine v_seqR [2,8,9,10,27,28,29] ?_; intro K16 k16
    have F := Fc.mk (And.intro (fun f => getD_map (f := f) hx) (fun f => getD_map (f := f) hz))
    refine zMove ⟨?_⟩
    refine zIndexAddr ⟨?_⟩
    refine zLoad ⟨?_⟩
    refine zAssign ⟨?_⟩
    refine zAssign ⟨?_⟩
    refine k16 _ ?_
    refine zk ⟨?_⟩
    refine v_seqR [2,8,9,27,28,29,40] ?_; intro K17 k17
    refine zMove ⟨?_⟩
    refine zLen ⟨?_⟩
    refine zMove ⟨?_⟩
    refine zMove ⟨?_⟩
    refine zIndexAddr ⟨?_⟩
    refine zLoad ⟨?_⟩
    refine zBinOp ⟨?_⟩
    refine k17 _ ?_
    refine zk ⟨?_⟩
    refine v_condS _ rfl ?_ ?_
    ·intro hc2
     refine v_region ?_; intro K19 k19
     refine zMove ⟨?_⟩
     refine zMove ⟨?_⟩
     refine zBuildSlice ⟨?_⟩
     refine zAppend ⟨?_⟩
     refine zAssign ⟨?_⟩
     refine k19 _ ?_
     refine n15 _ ?_
     refine n14 _ _ (weak_keep [2, 8, 27, 28, 29] _) ?_
     refine zk ⟨?_⟩
     refine v_region ?_; intro K20 k20
     refine zBinOpW ⟨?_⟩
     refine zMove ⟨?_⟩
     refine k20 _ ?_
     refine n10 _ (i + 1, acc ++ [(i : Int)]) ?_ ?_ ?_
     ·refine weak_bothS [2, 8, 27, 28, 29] [2] ⟨?_⟩
      rw [snoc_open]; rfl
     ·exact ⟨hlt, by show (acc ++ _).length ≤ i + 1; simp; omega, by show (acc ++ _) ++ openFrom c (i + 1) (d.drop (i + 1)) = _; rw [← hR, hst, if_pos hc2]; simp⟩
     ·show _ < _; show d.length - (i + 1) < d.length - i; omega
    ·intro hc2
     refine v_skip ?_
     refine n15 _ ?_
     refine n14 _ _ (weak_keep [2, 8, 27, 28, 29] _) ?_
     refine zk ⟨?_⟩
     refine v_region ?_; intro K21 k21
     refine zBinOpW ⟨?_⟩
     refine zMove ⟨?_⟩
     refine k21 _ ?_
     refine n10 _ (i + 1, acc) ?_ ?_ ?_
     ·refine weak_bothS [2, 8, 27, 28, 29] [0] ⟨?_⟩
      rfl
     ·exact ⟨hlt, by show acc.length ≤ i + 1; omega, by show acc ++ openFrom c (i + 1) (d.drop (i + 1)) = _; rw [← hR, hst, if_neg (Int.not_lt.2 hc2)]⟩
     ·show _ < _; show d.length - (i + 1) < d.length - i; omega
   ·intro hc1
    refine v_exit ?_
    refine e12 _ _ ?_
    refine e10 _ _ ?_
    refine x9 _ ?_
    refine n7 _ _ (weak_keep [8] _) ?_
    refine zk ⟨?_⟩
    refine v_seqR [6,7] ?_; intro K22 k22
    refine zMove ⟨?_⟩
    refine zAssign ⟨?_⟩
    refine zAssign ⟨?_⟩
    refine k22 _ ?_
    refine zk ⟨?_⟩
    refine v_ret ?_
    refine r0 _ ?_
    refine zf ⟨?_⟩
    have hend : acc = openFrom c 0 d := by rw [← hR, open_end (by omega), List.append_nil]
    rw [show openR d n c = acc by rw [openR, hg, hend]; rfl, hg]
    exact ret_ref_tup rfl rfl rfl (.inl rfl)
set_option maxHeartbeats 1000000 in
theorem implOpenShifts_con (d : List (List Int)) (n : Int) (c : List Int) (hd : d.length ≤ 1048576) (hds : ∀ l ∈ d, l.length ≤ 1048576) (hcl : c.length ≤ 1048576) : Con Try.prog 71 [.sl (d.map fun l => V.sl (l.map (V.int .i64))), .int .i64 n, .sl (c.map (V.int .i64))] [] (.tup [.ref 0, .bool (openB d n c)]) [.arr ((openR d n c).map (V.int .i64)) .flat] := by
 refine v_con [.tmp 6, .tmp 7] [] Try.func71 rfl rfl rfl (by simp [Try.ntmps71]) ?_
 intro Q0 n0 r0
 simp only [Try.ntmps71, envFrom, Nat.reduceAdd]
 have T := Tys.mk (And.intro Ty.t3 (And.intro Ty.t4 (And.intro Ty.t31 Ty.t87)))
 have F := Fc.mk True.intro
 refine v_seqR [0,1,2] ?_; intro K1 k1
 refine zAssign ⟨?_⟩
 refine zAssign ⟨?_⟩
 refine k1 _ ?_
 refine zk ⟨?_⟩
 refine v_seq ?_; intro Q2 n2 e2 r2
 refine v_seqR [0,2,26] ?_; intro K3 k3
 refine zMove ⟨?_⟩
 refine zMove ⟨?_⟩
 refine zc (isRoster_con d n hd hds) ⟨?_⟩
 refine zUnOp ⟨?_⟩
 refine zMove ⟨?_⟩
 refine zgMove ⟨?_⟩
 refine zgc (areNeeds_con c hcl) ⟨?_⟩
 refine zgUnOp ⟨?_⟩
 refine zPick ⟨?_⟩
 refine zMove ⟨?_⟩
 refine zgMove ⟨?_⟩
 refine zgLen ⟨?_⟩
 refine zgMove ⟨?_⟩
 refine zgLen ⟨?_⟩
 refine zgBinOp ⟨?_⟩
 refine zPick ⟨?_⟩
 refine k3 _ ?_
 refine zk ⟨?_⟩
 refine v_condS _ rfl ?_ ?_
 ·intro hc0
  refine v_seqR [6,7] ?_; intro K5 k5
  refine zAssign ⟨?_⟩
  refine zAssign ⟨?_⟩
  refine k5 _ ?_
  refine zk ⟨?_⟩
  refine v_ret ?_
  refine r2 _ ?_
  refine r0 _ ?_
  refine zf ⟨?_⟩
  have hg : openB d n c = false := by
   cases hq : openB d n c with
   |false => rfl
   |true =>
    exfalso
    simp only [openB, Bool.and_eq_true, decide_eq_true_eq] at hq
    rcases hc0 with (h | h) | h
    ·rw [hq.1.1] at h; cases h
    ·rw [hq.1.2] at h; cases h
    ·omega
  rw [show openR d n c = [] by rw [openR, hg]; rfl, hg]
  exact ret_ref_tup rfl rfl rfl (.inl rfl)
 ·intro hc0
  have hlen : (c.length : Int) = d.length := by omega
  have hg : openB d n c = true := by rw [openB, hc0.1.1, hc0.1.2, decide_eq_true hlen]; rfl
  refine v_skip ?_
  refine n2 _ _ (weak_keep [0, 2] _) ?_
  refine zk ⟨?_⟩
  refine v_seqR [0,2,8] ?_; intro K6 k6
  refine zAssign ⟨?_⟩
  refine k6 _ ?_
  refine zk ⟨?_⟩
  refine v_seq ?_; intro Q7 n7 e7 r7
  refine v_seqR [2,8,27,28,29] ?_; intro K8 k8
  refine zMove ⟨?_⟩
  refine zLen ⟨?_⟩
  refine zMove ⟨?_⟩
  refine k8 _ ?_
  refine zk ⟨?_⟩
  refine v_block ?_; intro Q9 n9 x9 e9 r9
  refine v_loop (fun p => ⟨[(2, .sl (c.map (V.int .i64))), (8, .ref 0), (27, .sl (d.map fun l => V.sl (l.map (V.int .i64)))), (28, .int .i64 d.length), (29, .int .i64 (Nat.cast p.1))], [.arr (p.2.map (V.int .i64)) .flat], false, 47, 0⟩) (fun p => p.1 ≤ d.length ∧ p.2.length ≤ p.1 ∧ p.2 ++ openFrom c p.1 (d.drop p.1) = openFrom c 0 d) (fun p => d.length - p.1) ((0, []) : Nat × List Int) ?_ ?_ ?_
  ·refine weak_bothS [2, 8, 27, 28, 29] [1] ⟨?_⟩
   rfl
  ·exact ⟨Nat.zero_le _, Nat.le_refl _, rfl⟩
  ·rintro ⟨i, acc⟩ hok10 Q10 n10 e10 r10
   obtain ⟨hi1, hal, hR⟩ := hok10
   simp only [] at hi1 hal hR ⊢
   refine v_seqR [2,8,27,28,29,30] ?_; intro K11 k11
   refine zBinOp ⟨?_⟩
   refine k11 _ ?_
   refine zk ⟨?_⟩
   refine v_seq ?_; intro Q12 n12 e12 r12
   refine v_condS _ rfl ?_ ?_
   ·intro hc1
    have hlt : i < d.length := by omega
    obtain ⟨l, hx⟩ : ∃ l, d[i]? = some l := ⟨d[i], List.getElem?_eq_getElem hlt⟩
    obtain ⟨z, hz⟩ : ∃ z, c[i]? = some z := ⟨c[i]'(by omega), List.getElem?_eq_getElem (by omega)⟩
    have hst := open_step hx hz
    have hll := hds l (List.mem_of_getElem? hx)
    refine v_skip ?_
    refine n12 _ _ (weak_keep [2, 8, 27, 28, 29] _) ?_
    refine zk ⟨?_⟩
    refine v_seq ?_; intro Q14 n14 e14 r14
    refine v_block ?_; intro Q15 n15 x15 e15 r15
    refine v_seqR [2,8,9,10,27,28,29] ?_; intro K16 k16
    have F := Fc.mk (And.intro (fun f => getD_map (f := f) hx) (fun f => getD_map (f := f) hz))
    refine zMove ⟨?_⟩
    refine zIndexAddr ⟨?_⟩
    refine zLoad ⟨?_⟩
    refine zAssign ⟨?_⟩
    refine zAssign ⟨?_⟩
    refine k16 _ ?_
    refine zk ⟨?_⟩
    refine v_seqR [2,8,9,27,28,29,40] ?_; intro K17 k17
    refine zMove ⟨?_⟩
    refine zLen ⟨?_⟩
    refine zMove ⟨?_⟩
    refine zMove ⟨?_⟩
    refine zIndexAddr ⟨?_⟩
    refine zLoad ⟨?_⟩
    refine zBinOp ⟨?_⟩
    refine k17 _ ?_
    refine zk ⟨?_⟩
    refine v_condS _ rfl ?_ ?_
    ·intro hc2
     refine v_region ?_; intro K19 k19
     refine zMove ⟨?_⟩
     refine zMove ⟨?_⟩
     refine zBuildSlice ⟨?_⟩
     refine zAppend ⟨?_⟩
     refine zAssign ⟨?_⟩
     refine k19 _ ?_
     refine n15 _ ?_
     refine n14 _ _ (weak_keep [2, 8, 27, 28, 29] _) ?_
     refine zk ⟨?_⟩
     refine v_region ?_; intro K20 k20
     refine zBinOpW ⟨?_⟩
     refine zMove ⟨?_⟩
     refine k20 _ ?_
     refine n10 _ (i + 1, acc ++ [(i : Int)]) ?_ ?_ ?_
     ·refine weak_bothS [2, 8, 27, 28, 29] [2] ⟨?_⟩
      rw [snoc_open]; rfl
     ·exact ⟨hlt, by show (acc ++ _).length ≤ i + 1; simp; omega, by show (acc ++ _) ++ openFrom c (i + 1) (d.drop (i + 1)) = _; rw [← hR, hst, if_pos hc2]; simp⟩
     ·show _ < _; show d.length - (i + 1) < d.length - i; omega
    ·intro hc2
     refine v_skip ?_
     refine n15 _ ?_
     refine n14 _ _ (weak_keep [2, 8, 27, 28, 29] _) ?_
     refine zk ⟨?_⟩
     refine v_region ?_; intro K21 k21
     refine zBinOpW ⟨?_⟩
     refine zMove ⟨?_⟩
     refine k21 _ ?_
     refine n10 _ (i + 1, acc) ?_ ?_ ?_
     ·refine weak_bothS [2, 8, 27, 28, 29] [0] ⟨?_⟩
      rfl
     ·exact ⟨hlt, by show acc.length ≤ i + 1; omega, by show acc ++ openFrom c (i + 1) (d.drop (i + 1)) = _; rw [← hR, hst, if_neg (Int.not_lt.2 hc2)]⟩
     ·show _ < _; show d.length - (i + 1) < d.length - i; omega
   ·intro hc1
    refine v_exit ?_
    refine e12 _ _ ?_
    refine e10 _ _ ?_
    refine x9 _ ?_
    refine n7 _ _ (weak_keep [8] _) ?_
    refine zk ⟨?_⟩
    refine v_seqR [6,7] ?_; intro K22 k22
    refine zMove ⟨?_⟩
    refine zAssign ⟨?_⟩
    refine zAssign ⟨?_⟩
    refine k22 _ ?_
    refine zk ⟨?_⟩
    refine v_ret ?_
    refine r0 _ ?_
    refine zf ⟨?_⟩
    have hend : acc = openFrom c 0 d := by rw [← hR, open_end (by omega), List.append_nil]
    rw [show openR d n c = acc by rw [openR, hg, hend]; rfl, hg]
    exact ret_ref_tup rfl rfl rfl (.inl rfl)
end Go.Proofs.Ytmlicajgbgjphaa
