/- What functions compute. No condition. -/
import Derived.Test.YtldnelkcmffiaaaUty
import Derived.Test.YtldnelkcmffiaaaUmG
import Derived.Test.YtldnelkcmffiaaaX1
set_option linter.unusedSimpArgs false
set_option linter.unusedVariables false
set_option linter.defProp false
namespace Go.Proofs.Ytldnelkcmffiaaa
open Go Go.Vm

def bump (c : List Int) (x : Int) : List Int := c.set x.toNat (IntKind.i64.wrap (c.getD x.toNat 0 + 1))
def shiftsL (d : List (List Int)) (c : List Int) : List Int := d.foldl (fun c l => l.foldl bump c) c
theorem bump_len (c : List Int) (x : Int) : (bump c x).length = c.length := by simp [bump]
theorem bumps_len (l c : List Int) : (l.foldl bump c).length = c.length := by
  induction l generalizing c with
  | nil => rfl
  | cons x l ih => rw [List.foldl_cons, ih, bump_len]
theorem shiftsL_len (d : List (List Int)) (c : List Int) : (shiftsL d c).length = c.length := by
  induction d generalizing c with
  | nil => rfl
  | cons x l ih =>
    have := ih (x.foldl bump c)
    rw [bumps_len] at this
    exact this
def shiftsOf (d : List (List Int)) (n : Int) : List Int := shiftsL d (List.replicate n.toNat 0)
theorem shiftsOf_len (d : List (List Int)) (n : Int) : (shiftsOf d n).length = n.toNat := by rw [shiftsOf, shiftsL_len, List.length_replicate]

set_option maxHeartbeats 1000000 in
theorem duShifts_con (d : List (List Int)) (n : Int) (hd : d.length ≤ 1048576) (hds : ∀ l ∈ d, l.length ≤ 1048576) (hn1 : 1 ≤ n) (hn9 : n ≤ 9) (hroster : ∀ l ∈ d, ∀ x ∈ l, 0 ≤ x ∧ x < n) : Con Try.prog 74 [.sl (d.map fun l => V.sl (l.map (V.int .i64))), .int .i64 n] [] (.ref 0) [.arr ((shiftsOf d n).map (V.int .i64)) .flat] := by
 refine v_con [.tmp 4] [] Try.func74 rfl rfl rfl (by simp [Try.ntmps74]) ?_
 intro Q0 n0 r0
 simp only [Try.ntmps74, envFrom, Nat.reduceAdd]
 have T := Tys.mk (And.intro Ty.t3 (And.intro Ty.t30 Ty.t41))
 have F := Fc.mk True.intro
 refine v_seqR [0,1] ?_; intro K1 k1
 refine zAssign ⟨?_⟩
 refine k1 _ ?_
 refine zk ⟨?_⟩
 refine v_seqR [0,5] ?_; intro K2 k2
 refine zMove ⟨?_⟩
 refine zMakeSlice ⟨?_⟩
 refine zAssign ⟨?_⟩
 refine k2 _ ?_
 refine zk ⟨?_⟩
 refine v_seq ?_; intro Q3 n3 e3 r3
 refine v_seqR [5,12,13,14] ?_; intro K4 k4
 refine zMove ⟨?_⟩
 refine zLen ⟨?_⟩
 refine zMove ⟨?_⟩
 refine k4 _ ?_
 refine zk ⟨?_⟩
 refine v_block ?_; intro Q5 n5 x5 e5 r5
 refine v_loop (fun p => ⟨[(5, .ref 0), (12, .sl (d.map fun l => V.sl (l.map (V.int .i64)))), (13, .int .i64 d.length), (14, .int .i64 (Nat.cast p.1))], [.arr (p.2.map (V.int .i64)) .flat], false, 33, 0⟩) (fun p => p.1 ≤ d.length ∧ p.2.length = n.toNat ∧ shiftsL (d.drop p.1) p.2 = shiftsL d (List.replicate n.toNat 0)) (fun p => d.length - p.1) ((0, List.replicate n.toNat 0) : Nat × List Int) ?_ ?_ ?_
 ·refine weak_bothS [5, 12, 13, 14] [1] ⟨?_⟩
  simp only [List.map_replicate]; rfl
 ·exact ⟨Nat.zero_le _, by simp, by simp⟩
 ·rintro p hok6 Q6 n6 e6 r6
  obtain ⟨hi1, hlen, hR⟩ := hok6
  refine v_seqR [5,12,13,14,15] ?_; intro K7 k7
  refine zBinOp ⟨?_⟩
  refine k7 _ ?_
  refine zk ⟨?_⟩
  refine v_seq ?_; intro Q8 n8 e8 r8
  refine v_condS _ rfl ?_ ?_
  ·intro hc0
   have hlt : p.1 < d.length := by omega
   obtain ⟨l, hx⟩ : ∃ l, d[p.1]? = some l := ⟨d[p.1], List.getElem?_eq_getElem hlt⟩
   have hlx : l.length ≤ 1048576 := hds l (List.mem_of_getElem? hx)
   have hin := hroster l (List.mem_of_getElem? hx)
   refine v_skip ?_
   refine n8 _ _ (weak_keep [5, 12, 13, 14] _) ?_
   refine zk ⟨?_⟩
   refine v_seq ?_; intro Q10 n10 e10 r10
   refine v_block ?_; intro Q11 n11 x11 e11 r11
   refine v_seqR [5,7,12,13,14] ?_; intro K12 k12
   have F := Fc.mk (fun f => getD_map (f := f) hx)
   refine zIndexAddr ⟨?_⟩
   refine zLoad ⟨?_⟩
   refine zAssign ⟨?_⟩
   refine k12 _ ?_
   refine zk ⟨?_⟩
   refine v_seqR [5,12,13,14,18,19,20] ?_; intro K13 k13
   refine zMove ⟨?_⟩
   refine zLen ⟨?_⟩
   refine zMove ⟨?_⟩
   refine k13 _ ?_
   refine zk ⟨?_⟩
   refine v_block ?_; intro Q14 n14 x14 e14 r14
   refine v_loop (fun q => ⟨[(5, .ref 0), (12, .sl (d.map fun l => V.sl (l.map (V.int .i64)))), (13, .int .i64 d.length), (14, .int .i64 (Nat.cast p.1)), (18, .sl (l.map (V.int .i64))), (19, .int .i64 l.length), (20, .int .i64 (Nat.cast q.1))], [.arr (q.2.map (V.int .i64)) .flat], false, 33, 0⟩) (fun q => q.1 ≤ l.length ∧ q.2.length = n.toNat ∧ (l.drop q.1).foldl bump q.2 = l.foldl bump p.2) (fun q => l.length - q.1) ((0, p.2) : Nat × List Int) ?_ ?_ ?_
   ·refine weak_bothS [5, 12, 13, 14, 18, 19, 20] [0] ⟨?_⟩
    rfl
   ·exact ⟨Nat.zero_le _, hlen, rfl⟩
   ·rintro q hok15 Q15 n15 e15 r15
    obtain ⟨hj1, hlen2, hR2⟩ := hok15
    refine v_seqR [5,12,13,14,18,19,20,21] ?_; intro K16 k16
    refine zBinOp ⟨?_⟩
    refine k16 _ ?_
    refine zk ⟨?_⟩
    refine v_seq ?_; intro Q17 n17 e17 r17
    refine v_condS _ rfl ?_ ?_
    ·intro hc1
     have hltj : q.1 < l.length := by omega
     obtain ⟨y, hy⟩ : ∃ y, l[q.1]? = some y := ⟨l[q.1], List.getElem?_eq_getElem hltj⟩
     have hyin := hin y (List.mem_of_getElem? hy)
     obtain ⟨z, hz⟩ : ∃ z, q.2[y.toNat]? = some z := ⟨q.2[y.toNat]'(by omega), List.getElem?_eq_getElem (by omega)⟩
     have hzd : q.2.getD y.toNat 0 = z := by rw [List.getD_eq_getElem?_getD, hz]; rfl
     have hb : q.2.set y.toNat (IntKind.i64.wrap (z + 1)) = bump q.2 y := by rw [bump, hzd]
     refine v_skip ?_
     refine n17 _ _ (weak_keep [5, 12, 13, 14, 18, 19, 20] _) ?_
     refine zk ⟨?_⟩
     refine v_seq ?_; intro Q19 n19 e19 r19
     refine v_block ?_; intro Q20 n20 x20 e20 r20
     refine v_seqR [5,9,12,13,14,18,19,20] ?_; intro K21 k21
     have F := Fc.mk (And.intro (fun f => getD_map (f := f) hx) (And.intro (fun f => getD_map (f := f) hy) (And.intro (fun f => getD_map (f := f) hz) (And.intro @set_map hb))))
     refine zIndexAddr ⟨?_⟩
     refine zLoad ⟨?_⟩
     refine zAssign ⟨?_⟩
     refine k21 _ ?_
     refine zk ⟨?_⟩
     refine v_region ?_; intro K22 k22
     refine zMove ⟨?_⟩
     refine zMove ⟨?_⟩
     refine zIndexAddr ⟨?_⟩
     refine zLoad ⟨?_⟩
     refine zBinOpW ⟨?_⟩
     refine zIndexAddr ⟨?_⟩
     refine zStore ⟨?_⟩
     refine k22 _ ?_
     refine n20 _ ?_
     refine n19 _ _ (weak_keep [5, 12, 13, 14, 18, 19, 20] _) ?_
     refine zk ⟨?_⟩
     refine v_region ?_; intro K23 k23
     refine zBinOpW ⟨?_⟩
     refine zMove ⟨?_⟩
     refine k23 _ ?_
     refine n15 _ (q.1 + 1, bump q.2 y) ?_ ?_ ?_
     ·refine weak_bothS [5, 12, 13, 14, 18, 19, 20] [0] ⟨?_⟩
      rfl
     ·exact ⟨by show q.1 + 1 ≤ _; omega, by show (bump _ _).length = _; rw [bump_len]; exact hlen2, by show (l.drop (q.1 + 1)).foldl bump (bump q.2 y) = _; rw [← hR2, getElem_drop_cons hy]; rfl⟩
     ·show _ < _; show l.length - (q.1 + 1) < _; omega
    ·intro hc1
     refine v_exit ?_
     refine e17 _ _ ?_
     refine e15 _ _ ?_
     refine x14 _ ?_
     refine n11 _ ?_
     refine n10 _ _ (weak_keep [5, 12, 13, 14] _) ?_
     refine zk ⟨?_⟩
     refine v_region ?_; intro K24 k24
     refine zBinOpW ⟨?_⟩
     refine zMove ⟨?_⟩
     refine k24 _ ?_
     refine n6 _ (p.1 + 1, q.2) ?_ ?_ ?_
     ·refine weak_bothS [5, 12, 13, 14] [0] ⟨?_⟩
      rfl
     ·exact ⟨by show p.1 + 1 ≤ _; omega, hlen2, by show shiftsL (d.drop (p.1 + 1)) q.2 = _; rw [← hR, getElem_drop_cons hx]; show _ = shiftsL (d.drop (p.1 + 1)) (l.foldl bump p.2); rw [← hR2, show l.drop q.1 = [] from List.drop_of_length_le (by omega)]; rfl⟩
     ·show _ < _; show d.length - (p.1 + 1) < _; omega
  ·intro hc0
   refine v_exit ?_
   refine e8 _ _ ?_
   refine e6 _ _ ?_
   refine x5 _ ?_
   refine n3 _ _ (weak_keep [5] _) ?_
   refine zk ⟨?_⟩
   refine v_seqR [4] ?_; intro K25 k25
   refine zMove ⟨?_⟩
   refine zAssign ⟨?_⟩
   refine k25 _ ?_
   refine zk ⟨?_⟩
   refine v_ret ?_
   refine r0 _ ?_
   refine zf ⟨?_⟩
   have hfin : p.2 = shiftsOf d n := by rw [shiftsOf, ← hR, show d.drop p.1 = [] from List.drop_of_length_le (by omega)]; rfl
   rw [← hfin]
   exact ret_ref rfl (.inl rfl)
set_option maxHeartbeats 1000000 in
theorem shiftsOf_con (d : List (List Int)) (n : Int) (hd : d.length ≤ 1048576) (hds : ∀ l ∈ d, l.length ≤ 1048576) (hn1 : 1 ≤ n) (hn9 : n ≤ 9) (hroster : ∀ l ∈ d, ∀ x ∈ l, 0 ≤ x ∧ x < n) : Con Try.prog 70 [.sl (d.map fun l => V.sl (l.map (V.int .i64))), .int .i64 n] [] (.ref 0) [.arr ((shiftsOf d n).map (V.int .i64)) .flat] := by
 refine v_con [.tmp 4] [] Try.func70 rfl rfl rfl (by simp [Try.ntmps70]) ?_
 intro Q0 n0 r0
 simp only [Try.ntmps70, envFrom, Nat.reduceAdd]
 have T := Tys.mk (And.intro Ty.t3 (And.intro Ty.t30 Ty.t41))
 have F := Fc.mk True.intro
 refine v_seqR [0,1] ?_; intro K1 k1
 refine zAssign ⟨?_⟩
 refine k1 _ ?_
 refine zk ⟨?_⟩
 refine v_seqR [0,5] ?_; intro K2 k2
 refine zMove ⟨?_⟩
 refine zMakeSlice ⟨?_⟩
 refine zAssign ⟨?_⟩
 refine k2 _ ?_
 refine zk ⟨?_⟩
 refine v_seq ?_; intro Q3 n3 e3 r3
 refine v_seqR [5,12,13,14] ?_; intro K4 k4
 refine zMove ⟨?_⟩
 refine zLen ⟨?_⟩
 refine zMove ⟨?_⟩
 refine k4 _ ?_
 refine zk ⟨?_⟩
 refine v_block ?_; intro Q5 n5 x5 e5 r5
 refine v_loop (fun p => ⟨[(5, .ref 0), (12, .sl (d.map fun l => V.sl (l.map (V.int .i64)))), (13, .int .i64 d.length), (14, .int .i64 (Nat.cast p.1))], [.arr (p.2.map (V.int .i64)) .flat], false, 33, 0⟩) (fun p => p.1 ≤ d.length ∧ p.2.length = n.toNat ∧ shiftsL (d.drop p.1) p.2 = shiftsL d (List.replicate n.toNat 0)) (fun p => d.length - p.1) ((0, List.replicate n.toNat 0) : Nat × List Int) ?_ ?_ ?_
 ·refine weak_bothS [5, 12, 13, 14] [1] ⟨?_⟩
  simp only [List.map_replicate]; rfl
 ·exact ⟨Nat.zero_le _, by simp, by simp⟩
 ·rintro p hok6 Q6 n6 e6 r6
  obtain ⟨hi1, hlen, hR⟩ := hok6
  refine v_seqR [5,12,13,14,15] ?_; intro K7 k7
  refine zBinOp ⟨?_⟩
  refine k7 _ ?_
  refine zk ⟨?_⟩
  refine v_seq ?_; intro Q8 n8 e8 r8
  refine v_condS _ rfl ?_ ?_
  ·intro hc0
   have hlt : p.1 < d.length := by omega
   obtain ⟨l, hx⟩ : ∃ l, d[p.1]? = some l := ⟨d[p.1], List.getElem?_eq_getElem hlt⟩
   have hlx : l.length ≤ 1048576 := hds l (List.mem_of_getElem? hx)
   have hin := hroster l (List.mem_of_getElem? hx)
   refine v_skip ?_
   refine n8 _ _ (weak_keep [5, 12, 13, 14] _) ?_
   refine zk ⟨?_⟩
   refine v_seq ?_; intro Q10 n10 e10 r10
   refine v_block ?_; intro Q11 n11 x11 e11 r11
   refine v_seqR [5,7,12,13,14] ?_; intro K12 k12
   have F := Fc.mk (fun f => getD_map (f := f) hx)
   refine zIndexAddr ⟨?_⟩
   refine zLoad ⟨?_⟩
   refine zAssign ⟨?_⟩
   refine k12 _ ?_
   refine zk ⟨?_⟩
   refine v_seqR [5,12,13,14,18,19,20] ?_; intro K13 k13
   refine zMove ⟨?_⟩
   refine zLen ⟨?_⟩
   refine zMove ⟨?_⟩
   refine k13 _ ?_
   refine zk ⟨?_⟩
   refine v_block ?_; intro Q14 n14 x14 e14 r14
   refine v_loop (fun q => ⟨[(5, .ref 0), (12, .sl (d.map fun l => V.sl (l.map (V.int .i64)))), (13, .int .i64 d.length), (14, .int .i64 (Nat.cast p.1)), (18, .sl (l.map (V.int .i64))), (19, .int .i64 l.length), (20, .int .i64 (Nat.cast q.1))], [.arr (q.2.map (V.int .i64)) .flat], false, 33, 0⟩) (fun q => q.1 ≤ l.length ∧ q.2.length = n.toNat ∧ (l.drop q.1).foldl bump q.2 = l.foldl bump p.2) (fun q => l.length - q.1) ((0, p.2) : Nat × List Int) ?_ ?_ ?_
   ·refine weak_bothS [5, 12, 13, 14, 18, 19, 20] [0] ⟨?_⟩
    rfl
   ·exact ⟨Nat.zero_le _, hlen, rfl⟩
   ·rintro q hok15 Q15 n15 e15 r15
    obtain ⟨hj1, hlen2, hR2⟩ := hok15
    refine v_seqR [5,12,13,14,18,19,20,21] ?_; intro K16 k16
    refine zBinOp ⟨?_⟩
    refine k16 _ ?_
    refine zk ⟨?_⟩
    refine v_seq ?_; intro Q17 n17 e17 r17
    refine v_condS _ rfl ?_ ?_
    ·intro hc1
     have hltj : q.1 < l.length := by omega
     obtain ⟨y, hy⟩ : ∃ y, l[q.1]? = some y := ⟨l[q.1], List.getElem?_eq_getElem hltj⟩
     have hyin := hin y (List.mem_of_getElem? hy)
     obtain ⟨z, hz⟩ : ∃ z, q.2[y.toNat]? = some z := ⟨q.2[y.toNat]'(by omega), List.getElem?_eq_getElem (by omega)⟩
     have hzd : q.2.getD y.toNat 0 = z := by rw [List.getD_eq_getElem?_getD, hz]; rfl
     have hb : q.2.set y.toNat (IntKind.i64.wrap (z + 1)) = bump q.2 y := by rw [bump, hzd]
     refine v_skip ?_
     refine n17 _ _ (weak_keep [5, 12, 13, 14, 18, 19, 20] _) ?_
     refine zk ⟨?_⟩
     refine v_seq ?_; intro Q19 n19 e19 r19
     refine v_block ?_; intro Q20 n20 x20 e20 r20
     refine v_seqR [5,9,12,13,14,18,19,20] ?_; intro K21 k21
     have F := Fc.mk (And.intro (fun f => getD_map (f := f) hx) (And.intro (fun f => getD_map (f := f) hy) (And.intro (fun f => getD_map (f := f) hz) (And.intro @set_map hb))))
     refine zIndexAddr ⟨?_⟩
     refine zLoad ⟨?_⟩
     refine zAssign ⟨?_⟩
     refine k21 _ ?_
     refine zk ⟨?_⟩
     refine v_region ?_; intro K22 k22
     refine zMove ⟨?_⟩
     refine zMove ⟨?_⟩
     refine zIndexAddr ⟨?_⟩
     refine zLoad ⟨?_⟩
     refine zBinOpW ⟨?_⟩
     refine zIndexAddr ⟨?_⟩
     refine zStore ⟨?_⟩
     refine k22 _ ?_
     refine n20 _ ?_
     refine n19 _ _ (weak_keep [5, 12, 13, 14, 18, 19, 20] _) ?_
     refine zk ⟨?_⟩
     refine v_region ?_; intro K23 k23
     refine zBinOpW ⟨?_⟩
     refine zMove ⟨?_⟩
     refine k23 _ ?_
     refine n15 _ (q.1 + 1, bump q.2 y) ?_ ?_ ?_
     ·refine weak_bothS [5, 12, 13, 14, 18, 19, 20] [0] ⟨?_⟩
      rfl
     ·exact ⟨by show q.1 + 1 ≤ _; omega, by show (bump _ _).length = _; rw [bump_len]; exact hlen2, by show (l.drop (q.1 + 1)).foldl bump (bump q.2 y) = _; rw [← hR2, getElem_drop_cons hy]; rfl⟩
     ·show _ < _; show l.length - (q.1 + 1) < _; omega
    ·intro hc1
     refine v_exit ?_
     refine e17 _ _ ?_
     refine e15 _ _ ?_
     refine x14 _ ?_
     refine n11 _ ?_
     refine n10 _ _ (weak_keep [5, 12, 13, 14] _) ?_
     refine zk ⟨?_⟩
     refine v_region ?_; intro K24 k24
     refine zBinOpW ⟨?_⟩
     refine zMove ⟨?_⟩
     refine k24 _ ?_
     refine n6 _ (p.1 + 1, q.2) ?_ ?_ ?_
     ·refine weak_bothS [5, 12, 13, 14] [0] ⟨?_⟩
      rfl
     ·exact ⟨by show p.1 + 1 ≤ _; omega, hlen2, by show shiftsL (d.drop (p.1 + 1)) q.2 = _; rw [← hR, getElem_drop_cons hx]; show _ = shiftsL (d.drop (p.1 + 1)) (l.foldl bump p.2); rw [← hR2, show l.drop q.1 = [] from List.drop_of_length_le (by omega)]; rfl⟩
     ·show _ < _; show d.length - (p.1 + 1) < _; omega
  ·intro hc0
   refine v_exit ?_
   refine e8 _ _ ?_
   refine e6 _ _ ?_
   refine x5 _ ?_
   refine n3 _ _ (weak_keep [5] _) ?_
   refine zk ⟨?_⟩
   refine v_seqR [4] ?_; intro K25 k25
   refine zMove ⟨?_⟩
   refine zAssign ⟨?_⟩
   refine k25 _ ?_
   refine zk ⟨?_⟩
   refine v_ret ?_
   refine r0 _ ?_
   refine zf ⟨?_⟩
   have hfin : p.2 = shiftsOf d n := by rw [shiftsOf, ← hR, show d.drop p.1 = [] from List.drop_of_length_le (by omega)]; rfl
   rw [← hfin]
   exact ret_ref rfl (.inl rfl)
def mostL (l : List Int) (a : Int) : Int := l.foldl (fun m x => if x > m then x else m) a
def leastL (l : List Int) (a : Int) : Int := l.foldl (fun m x => if x < m then x else m) a
theorem most_step {l : List Int} {i : Nat} {x : Int} (h : l[i]? = some x) (m : Int) : mostL (l.drop i) m = mostL (l.drop (i + 1)) (if x > m then x else m) := foldl_drop h m
theorem least_step {l : List Int} {i : Nat} {x : Int} (h : l[i]? = some x) (m : Int) : leastL (l.drop i) m = leastL (l.drop (i + 1)) (if x < m then x else m) := foldl_drop h m
theorem most_end {l : List Int} {i : Nat} (h : l.length ≤ i) (m : Int) : mostL (l.drop i) m = m := foldl_end h m
theorem least_end {l : List Int} {i : Nat} (h : l.length ≤ i) (m : Int) : leastL (l.drop i) m = m := foldl_end h m
theorem most_cons (x : Int) (l : List Int) : mostL (x :: l) x = mostL l x := by simp [mostL]
theorem least_cons (x : Int) (l : List Int) : leastL (x :: l) x = leastL l x := by simp [leastL]

set_option maxHeartbeats 1000000 in
theorem l1Most_con (a b : Int) : Con Try.prog 91 [.int .i64 a, .int .i64 b] [] (.int .i64 (if b > a then b else a)) [] := by
 refine v_con [.tmp 4] [] Try.func91 rfl rfl rfl (by simp [Try.ntmps91]) ?_
 intro Q0 n0 r0
 simp only [Try.ntmps91, envFrom, Nat.reduceAdd]
 have T := Tys.mk Ty.t3
 have F := Fc.mk True.intro
 refine v_seqR [0,1] ?_; intro K1 k1
 refine zAssign ⟨?_⟩
 refine k1 _ ?_
 refine zk ⟨?_⟩
 refine v_seq ?_; intro Q2 n2 e2 r2
 refine v_seqR [0,1,7] ?_; intro K3 k3
 refine zMove ⟨?_⟩
 refine zMove ⟨?_⟩
 refine zBinOp ⟨?_⟩
 refine k3 _ ?_
 refine zk ⟨?_⟩
 refine v_condS _ rfl ?_ ?_
 ·intro hc0
  refine v_seqR [4] ?_; intro K5 k5
  refine zMove ⟨?_⟩
  refine zAssign ⟨?_⟩
  refine k5 _ ?_
  refine zk ⟨?_⟩
  refine v_ret ?_
  refine r2 _ ?_
  refine r0 _ ?_
  refine zf ⟨?_⟩
  exact ret_pure rfl (by congr 1; split <;> omega) (.inl rfl)
 ·intro hc0
  refine v_skip ?_
  refine n2 _ _ (weak_keep [1] _) ?_
  refine zk ⟨?_⟩
  refine v_seqR [4] ?_; intro K6 k6
  refine zMove ⟨?_⟩
  refine zAssign ⟨?_⟩
  refine k6 _ ?_
  refine zk ⟨?_⟩
  refine v_ret ?_
  refine r0 _ ?_
  refine zf ⟨?_⟩
  exact ret_pure rfl (by congr 1; split <;> omega) (.inl rfl)
def idxFrom (x : Int) : Nat → List Int → Int
  | _, [] => -1
  | i, y :: l => if x = y then i else idxFrom x (i + 1) l
theorem idx_step {x y : Int} {l : List Int} {i : Nat} (h : l[i]? = some y) : idxFrom x i (l.drop i) = if x = y then (i : Int) else idxFrom x (i + 1) (l.drop (i + 1)) := by
  rw [getElem_drop_cons h, idxFrom]
theorem idx_end {x : Int} {l : List Int} {i k : Nat} (h : l.length ≤ i) : idxFrom x k (l.drop i) = -1 := by
  rw [List.drop_of_length_le h, idxFrom]
theorem idx_mem (x : Int) : ∀ (l : List Int) (i : Nat), (0 ≤ idxFrom x i l) ↔ x ∈ l
  | [], i => by simp [idxFrom]
  | y :: l, i => by
    rw [idxFrom, List.mem_cons]
    split
    · rename_i h; simp [h]
    · rename_i h; rw [idx_mem x l (i + 1)]; simp [h]
theorem any_drop {α : Type} {f : α → Bool} {l : List α} {i : Nat} {x : α} (h : l[i]? = some x) : (l.drop i).any f = (f x || (l.drop (i + 1)).any f) := by
  rw [getElem_drop_cons h, List.any_cons]
theorem any_end {α : Type} {f : α → Bool} {l : List α} {i : Nat} (h : l.length ≤ i) : (l.drop i).any f = false := by
  rw [List.drop_of_length_le h]; rfl
theorem find_step {α : Type} {p : α → Bool} {l : List α} {i : Nat} {x : α} (h : l[i]? = some x) : (l.drop i).find? p = if p x then some x else (l.drop (i + 1)).find? p := by
  rw [getElem_drop_cons h, List.find?_cons]
  cases p x <;> rfl
theorem find_end {α : Type} {p : α → Bool} {l : List α} {i : Nat} (h : l.length ≤ i) : (l.drop i).find? p = none := by
  rw [List.drop_of_length_le h]; rfl

set_option maxHeartbeats 1000000 in
theorem slIndex_con (l : List Int) (x : Int) (hl : l.length ≤ 1048576) : Con Try.prog 51 [.sl (l.map (V.int .i64)), .int .i64 x] [] (.int .i64 (idxFrom x 0 l)) [] := by
 refine v_con [.tmp 4] [] Try.func51 rfl rfl rfl (by simp [Try.ntmps51]) ?_
 intro Q0 n0 r0
 simp only [Try.ntmps51, envFrom, Nat.reduceAdd]
 have T := Tys.mk (And.intro Ty.t3 Ty.t41)
 have F := Fc.mk True.intro
 refine v_seqR [0,1] ?_; intro K1 k1
 refine zAssign ⟨?_⟩
 refine k1 _ ?_
 refine zk ⟨?_⟩
 refine v_seq ?_; intro Q2 n2 e2 r2
 refine v_seqR [0,1,7,8] ?_; intro K3 k3
 refine zMove ⟨?_⟩
 refine zLen ⟨?_⟩
 refine zMove ⟨?_⟩
 refine k3 _ ?_
 refine zk ⟨?_⟩
 refine v_block ?_; intro Q4 n4 x4 e4 r4
 refine v_loop (fun i => ⟨[(0, .sl (l.map (V.int .i64))), (1, .int .i64 x), (7, .int .i64 l.length), (8, .int .i64 (Nat.cast i))], [], false, 19, 0⟩) (fun i => i ≤ l.length ∧ idxFrom x i (l.drop i) = idxFrom x 0 l) (fun i => l.length - i) 0 ?_ ?_ ?_
 ·refine weak_of [0, 1, 7, 8] ?_
  simp only [keep_mk, keepE_nil, keepE_cons, look_cons, look_nil, Nat.reduceEqDiff, reduceIte]
  rfl
 ·exact ⟨Nat.zero_le _, rfl⟩
 ·rintro i hok5 Q5 n5 e5 r5
  obtain ⟨hi1, hR⟩ := hok5
  refine v_seqR [0,1,7,8,9] ?_; intro K6 k6
  refine zBinOp ⟨?_⟩
  refine k6 _ ?_
  refine zk ⟨?_⟩
  refine v_seq ?_; intro Q7 n7 e7 r7
  refine v_condS _ rfl ?_ ?_
  ·intro hc0
   have hlt : i < l.length := by omega
   obtain ⟨y, hy⟩ : ∃ y, l[i]? = some y := ⟨l[i], List.getElem?_eq_getElem hlt⟩
   have hst := idx_step (x := x) hy
   refine v_skip ?_
   refine n7 _ _ (weak_keep [0, 1, 7, 8] _) ?_
   refine zk ⟨?_⟩
   refine v_seq ?_; intro Q9 n9 e9 r9
   refine v_block ?_; intro Q10 n10 x10 e10 r10
   refine v_seqR [0,1,5,7,8] ?_; intro K11 k11
   have F := Fc.mk (fun f => getD_map (f := f) hy)
   refine zMove ⟨?_⟩
   refine zAssign ⟨?_⟩
   refine k11 _ ?_
   refine zk ⟨?_⟩
   refine v_seqR [0,1,5,7,8,16] ?_; intro K12 k12
   refine zMove ⟨?_⟩
   refine zMove ⟨?_⟩
   refine zMove ⟨?_⟩
   refine zIndexAddr ⟨?_⟩
   refine zLoad ⟨?_⟩
   refine zBinOp ⟨?_⟩
   refine k12 _ ?_
   refine zk ⟨?_⟩
   refine v_condS _ rfl ?_ ?_
   ·intro hc1
    refine v_seqR [4] ?_; intro K14 k14
    refine zMove ⟨?_⟩
    refine zAssign ⟨?_⟩
    refine k14 _ ?_
    refine zk ⟨?_⟩
    refine v_ret ?_
    refine r10 _ ?_
    refine r9 _ ?_
    refine r5 _ ?_
    refine r4 _ ?_
    refine r2 _ ?_
    refine r0 _ ?_
    refine zf ⟨?_⟩
    exact ret_pure rfl (by rw [← hR, hst, if_pos hc1]) (.inl rfl)
   ·intro hc1
    refine v_skip ?_
    refine n10 _ ?_
    refine n9 _ _ (weak_keep [0, 1, 7, 8] _) ?_
    refine zk ⟨?_⟩
    refine v_region ?_; intro K15 k15
    refine zBinOpW ⟨?_⟩
    refine zMove ⟨?_⟩
    refine k15 _ ?_
    refine n5 _ (i + 1) ?_ ?_ ?_
    ·refine weak_of [0, 1, 7, 8] ?_
     simp only [keep_mk, keepE_nil, keepE_cons, look_cons, look_nil, Nat.reduceEqDiff, reduceIte]
     rfl
    ·exact ⟨by omega, by rw [← hR, hst, if_neg hc1]⟩
    ·show _ < _; omega
  ·intro hc0
   refine v_exit ?_
   refine e7 _ _ ?_
   refine e5 _ _ ?_
   refine x4 _ ?_
   refine n2 _ _ (weak_keep [] _) ?_
   refine zk ⟨?_⟩
   refine v_seqR [4] ?_; intro K16 k16
   refine zAssign ⟨?_⟩
   refine k16 _ ?_
   refine zk ⟨?_⟩
   refine v_ret ?_
   refine r0 _ ?_
   refine zf ⟨?_⟩
   exact ret_pure rfl (by rw [← hR, idx_end (by omega)]) (.inl rfl)
set_option maxHeartbeats 1000000 in
theorem slContains_con (l : List Int) (x : Int) (hl : l.length ≤ 1048576) : Con Try.prog 49 [.sl (l.map (V.int .i64)), .int .i64 x] [] (.bool (decide (x ∈ l))) [] := by
 refine v_con [.tmp 4] [] Try.func49 rfl rfl rfl (by simp [Try.ntmps49]) ?_
 intro Q0 n0 r0
 simp only [Try.ntmps49, envFrom, Nat.reduceAdd]
 have T := Tys.mk (And.intro Ty.t3 Ty.t41)
 have F := Fc.mk True.intro
 refine v_seqR [0,1] ?_; intro K1 k1
 refine zAssign ⟨?_⟩
 refine k1 _ ?_
 refine zk ⟨?_⟩
 refine v_seqR [4] ?_; intro K2 k2
 refine zMove ⟨?_⟩
 refine zMove ⟨?_⟩
 refine zc (slIndex_con l x hl) ⟨?_⟩
 refine zBinOp ⟨?_⟩
 refine zAssign ⟨?_⟩
 refine k2 _ ?_
 refine zk ⟨?_⟩
 refine v_ret ?_
 refine r0 _ ?_
 refine zf ⟨?_⟩
 exact ret_pure rfl (by congr 1; exact decide_eq_decide.2 (idx_mem x l 0)) (.inl rfl)
set_option maxHeartbeats 1000000 in
theorem l1Has_con (l : List Int) (x : Int) (hl : l.length ≤ 1048576) : Con Try.prog 42 [.sl (l.map (V.int .i64)), .int .i64 x] [] (.bool (decide (x ∈ l))) [] := by
 refine v_con [.tmp 4] [] Try.func42 rfl rfl rfl (by simp [Try.ntmps42]) ?_
 intro Q0 n0 r0
 simp only [Try.ntmps42, envFrom, Nat.reduceAdd]
 have T := Tys.mk (And.intro Ty.t3 Ty.t41)
 have F := Fc.mk True.intro
 refine v_seqR [0,1] ?_; intro K1 k1
 refine zAssign ⟨?_⟩
 refine k1 _ ?_
 refine zk ⟨?_⟩
 refine v_seq ?_; intro Q2 n2 e2 r2
 refine v_seqR [1,7,8,9] ?_; intro K3 k3
 refine zMove ⟨?_⟩
 refine zLen ⟨?_⟩
 refine zMove ⟨?_⟩
 refine k3 _ ?_
 refine zk ⟨?_⟩
 refine v_block ?_; intro Q4 n4 x4 e4 r4
 refine v_loop (fun i => ⟨[(1, .int .i64 x), (7, .sl (l.map (V.int .i64))), (8, .int .i64 l.length), (9, .int .i64 (Nat.cast i))], [], false, 17, 0⟩) (fun i => i ≤ l.length ∧ (x ∈ l.drop i ↔ x ∈ l)) (fun i => l.length - i) 0 ?_ ?_ ?_
 ·refine weak_of [1, 7, 8, 9] ?_
  simp only [keep_mk, keepE_nil, keepE_cons, look_cons, look_nil, Nat.reduceEqDiff, reduceIte]
  rfl
 ·exact ⟨Nat.zero_le _, Iff.rfl⟩
 ·rintro i hok5 Q5 n5 e5 r5
  obtain ⟨hi1, hR⟩ := hok5
  refine v_seqR [1,7,8,9,10] ?_; intro K6 k6
  refine zBinOp ⟨?_⟩
  refine k6 _ ?_
  refine zk ⟨?_⟩
  refine v_seq ?_; intro Q7 n7 e7 r7
  refine v_condS _ rfl ?_ ?_
  ·intro hc0
   have hlt : i < l.length := by omega
   obtain ⟨y, hy⟩ : ∃ y, l[i]? = some y := ⟨l[i], List.getElem?_eq_getElem hlt⟩
   have hst : x ∈ l.drop i ↔ (x = y ∨ x ∈ l.drop (i + 1)) := by rw [getElem_drop_cons hy, List.mem_cons]
   refine v_skip ?_
   refine n7 _ _ (weak_keep [1, 7, 8, 9] _) ?_
   refine zk ⟨?_⟩
   refine v_seq ?_; intro Q9 n9 e9 r9
   refine v_block ?_; intro Q10 n10 x10 e10 r10
   refine v_seqR [1,6,7,8,9] ?_; intro K11 k11
   have F := Fc.mk (fun f => getD_map (f := f) hy)
   refine zIndexAddr ⟨?_⟩
   refine zLoad ⟨?_⟩
   refine zAssign ⟨?_⟩
   refine k11 _ ?_
   refine zk ⟨?_⟩
   refine v_seqR [1,7,8,9,15] ?_; intro K12 k12
   refine zMove ⟨?_⟩
   refine zMove ⟨?_⟩
   refine zBinOp ⟨?_⟩
   refine k12 _ ?_
   refine zk ⟨?_⟩
   refine v_condS _ rfl ?_ ?_
   ·intro hc1
    refine v_seqR [4] ?_; intro K14 k14
    refine zAssign ⟨?_⟩
    refine k14 _ ?_
    refine zk ⟨?_⟩
    refine v_ret ?_
    refine r10 _ ?_
    refine r9 _ ?_
    refine r5 _ ?_
    refine r4 _ ?_
    refine r2 _ ?_
    refine r0 _ ?_
    refine zf ⟨?_⟩
    exact ret_pure rfl (by rw [decide_eq_true (hR.1 (hst.2 (.inl hc1.symm)))]) (.inl rfl)
   ·intro hc1
    refine v_skip ?_
    refine n10 _ ?_
    refine n9 _ _ (weak_keep [1, 7, 8, 9] _) ?_
    refine zk ⟨?_⟩
    refine v_region ?_; intro K15 k15
    refine zBinOpW ⟨?_⟩
    refine zMove ⟨?_⟩
    refine k15 _ ?_
    refine n5 _ (i + 1) ?_ ?_ ?_
    ·refine weak_of [1, 7, 8, 9] ?_
     simp only [keep_mk, keepE_nil, keepE_cons, look_cons, look_nil, Nat.reduceEqDiff, reduceIte]
     rfl
    ·exact ⟨by omega, hR.symm.trans (hst.trans ⟨fun h => h.elim (fun q => absurd q.symm hc1) id, .inr⟩) |>.symm⟩
    ·show _ < _; omega
  ·intro hc0
   refine v_exit ?_
   refine e7 _ _ ?_
   refine e5 _ _ ?_
   refine x4 _ ?_
   refine n2 _ _ (weak_keep [] _) ?_
   refine zk ⟨?_⟩
   refine v_seqR [4] ?_; intro K16 k16
   refine zAssign ⟨?_⟩
   refine k16 _ ?_
   refine zk ⟨?_⟩
   refine v_ret ?_
   refine r0 _ ?_
   refine zf ⟨?_⟩
   exact ret_pure rfl (by rw [decide_eq_false (fun h => by have := hR.2 h; rw [List.drop_of_length_le (by omega)] at this; cases this)]) (.inl rfl)
def mayB (d : List (List Int)) (a b c x : Int) : Bool := !((d.drop (d.length - c.toNat)).any fun l => decide (x ∈ l)) && decide ((shiftsOf d a).getD x.toNat 0 < b)
def breachFrom (M : Nat → Int → Bool) : Nat → List (List Int) → Option (Nat × Int)
  | _, [] => none
  | k, l :: ll => match l.find? (fun x => !M k x) with
    | some x => some (k, x)
    | none => breachFrom M (k + 1) ll
theorem breach_step {M : Nat → Int → Bool} {d : List (List Int)} {i : Nat} {l : List Int} (h : d[i]? = some l) : breachFrom M i (d.drop i) = match l.find? (fun x => !M i x) with
    | some x => some (i, x)
    | none => breachFrom M (i + 1) (d.drop (i + 1)) := by
  rw [getElem_drop_cons h, breachFrom]
theorem breach_end {M : Nat → Int → Bool} {d : List (List Int)} {i : Nat} (h : d.length ≤ i) : breachFrom M i (d.drop i) = none := by
  rw [List.drop_of_length_le h, breachFrom]
def breachOf (d : List (List Int)) (a b c : Int) : Option (Nat × Int) := breachFrom (fun k x => mayB (d.take k) a b c x) 0 d
def brI (o : Option (Nat × Int)) : Int := match o with | some p => p.1 | none => 0
def brX (o : Option (Nat × Int)) : Int := match o with | some p => p.2 | none => 0

set_option maxHeartbeats 1000000 in
theorem duMay_con (d : List (List Int)) (a b c x : Int) (hd : d.length ≤ 1048576) (hds : ∀ l ∈ d, l.length ≤ 1048576) (hn1 : 1 ≤ a) (hn9 : a ≤ 9) (hc : 0 ≤ c ∧ c ≤ 5) (hro : ∀ l ∈ d, ∀ y ∈ l, 0 ≤ y ∧ y < a) (hx : 0 ≤ x ∧ x < a) : Con Try.prog 68 [.sl (d.map fun l => V.sl (l.map (V.int .i64))), .agg [.int .i64 a, .int .i64 b, .int .i64 c], .int .i64 x] [] (.bool (mayB d a b c x)) [] := by
 have hlen := shiftsOf_len d a
 obtain ⟨z, hz⟩ : ∃ z, (shiftsOf d a)[x.toNat]? = some z := ⟨(shiftsOf d a)[x.toNat]'(by omega), List.getElem?_eq_getElem (by omega)⟩
 have hzd : (shiftsOf d a).getD x.toNat 0 = z := by rw [List.getD_eq_getElem?_getD, hz]; rfl
 have hk0 : (if (d.length : Int) - c > 0 then (d.length : Int) - c else 0) = ((d.length - c.toNat : Nat) : Int) := by split <;> omega
 refine v_con [.tmp 6] [] Try.func68 rfl rfl rfl (by simp [Try.ntmps68]) ?_
 intro Q0 n0 r0
 simp only [Try.ntmps68, envFrom, Nat.reduceAdd]
 have T := Tys.mk (And.intro Ty.t3 (And.intro Ty.t4 (And.intro Ty.t30 (And.intro Ty.t37 Ty.t41))))
 have F := Fc.mk True.intro
 refine v_seqR [0,2,4] ?_; intro K1 k1
 have F := Fc.mk (And.intro (fun f => getD_map (f := f) hz) hlen)
 refine zBox ⟨?_⟩
 refine zAssign ⟨?_⟩
 refine k1 _ ?_
 refine zk ⟨?_⟩
 refine v_seq ?_; intro Q2 n2 e2 r2
 refine v_seqR [0,2,4,7] ?_; intro K3 k3
 refine zMove ⟨?_⟩
 refine zLen ⟨?_⟩
 refine zFieldAddr ⟨?_⟩
 refine zLoad ⟨?_⟩
 refine zBinOpW ⟨?_⟩
 refine zc (l1Most_con 0 ((d.length : Int) - c)) ⟨?_⟩
 refine zAssign ⟨?_⟩
 refine k3 _ ?_
 refine zk ⟨?_⟩
 refine v_block ?_; intro Q4 n4 x4 e4 r4
 refine v_loop (fun i => ⟨[(0, .sl (d.map fun l => V.sl (l.map (V.int .i64)))), (2, .int .i64 x), (4, .ptr 0 0 0), (7, .int .i64 (Nat.cast i))], [.box (.agg [.int .i64 a, .int .i64 b, .int .i64 c]) .flat], false, 36, 0⟩) (fun i => i ≤ d.length ∧ (d.drop i).any (fun l => decide (x ∈ l)) = (d.drop (d.length - c.toNat)).any (fun l => decide (x ∈ l))) (fun i => d.length - i) (d.length - c.toNat) ?_ ?_ ?_
 ·refine weak_bothS [0, 2, 4, 7] [0] ⟨?_⟩
  first | (rw [hk0]; done) | (rw [hk0]; rfl)
 ·exact ⟨Nat.sub_le _ _, rfl⟩
 ·rintro i hok5 Q5 n5 e5 r5
  obtain ⟨hi1, hR⟩ := hok5
  refine v_seq ?_; intro Q6 n6 e6 r6
  refine v_seqR [0,2,4,7,17] ?_; intro K7 k7
  refine zMove ⟨?_⟩
  refine zMove ⟨?_⟩
  refine zLen ⟨?_⟩
  refine zBinOp ⟨?_⟩
  refine k7 _ ?_
  refine zk ⟨?_⟩
  refine v_condS _ rfl ?_ ?_
  ·intro hc0
   have hlt : i < d.length := by omega
   obtain ⟨l, hl⟩ : ∃ l, d[i]? = some l := ⟨d[i], List.getElem?_eq_getElem hlt⟩
   have hlx : l.length ≤ 1048576 := hds l (List.mem_of_getElem? hl)
   have hst := any_drop (f := (fun l => decide (x ∈ l))) hl
   refine v_skip ?_
   refine n6 _ _ (weak_keep [0, 2, 4, 7] _) ?_
   refine zk ⟨?_⟩
   refine v_seq ?_; intro Q9 n9 e9 r9
   refine v_block ?_; intro Q10 n10 x10 e10 r10
   refine v_seqR [0,2,4,7,25] ?_; intro K11 k11
   have F := Fc.mk (And.intro (fun f => getD_map (f := f) hz) (And.intro hlen (fun f => getD_map (f := f) hl)))
   refine zMove ⟨?_⟩
   refine zMove ⟨?_⟩
   refine zIndexAddr ⟨?_⟩
   refine zLoad ⟨?_⟩
   refine zMove ⟨?_⟩
   refine zc (l1Has_con l x hlx) ⟨?_⟩
   refine k11 _ ?_
   refine zk ⟨?_⟩
   refine v_condS _ rfl ?_ ?_
   ·intro hc1
    refine v_seqR [6] ?_; intro K13 k13
    refine zAssign ⟨?_⟩
    refine k13 _ ?_
    refine zk ⟨?_⟩
    refine v_ret ?_
    refine r10 _ ?_
    refine r9 _ ?_
    refine r5 _ ?_
    refine r4 _ ?_
    refine r2 _ ?_
    refine r0 _ ?_
    refine zf ⟨?_⟩
    exact ret_pure rfl (by rw [mayB, ← hR, hst]; simp [hc1]) (.inl rfl)
   ·intro hc1
    refine v_skip ?_
    refine n10 _ ?_
    refine n9 _ _ (weak_keep [0, 2, 4, 7] _) ?_
    refine zk ⟨?_⟩
    refine v_region ?_; intro K14 k14
    refine zMove ⟨?_⟩
    refine zBinOpW ⟨?_⟩
    refine zAssign ⟨?_⟩
    refine k14 _ ?_
    refine n5 _ (i + 1) ?_ ?_ ?_
    ·refine weak_bothS [0, 2, 4, 7] [0] ⟨?_⟩
     rfl
    ·exact ⟨by omega, by rw [← hR, hst]; simp [hc1]⟩
    ·show _ < _; omega
  ·intro hc0
   refine v_exit ?_
   refine e6 _ _ ?_
   refine e5 _ _ ?_
   refine x4 _ ?_
   refine n2 _ _ (weak_keep [0, 2, 4] _) ?_
   refine zk ⟨?_⟩
   refine v_seq ?_; intro Q15 n15 e15 r15
   refine v_draw (by kernel_rfl) ?_; intro K16 q16 k16
   show aAny _ _ _ _ 11 (Array.replicate 11 false) _
   refine zdMove q16 true 0 26 ?_
   refine zdFieldAddr q16 true 1 27 ?_
   refine zdLoad q16 true 2 28 ?_
   refine zdMove q16 true 4 30 ?_
   refine zdFieldAddr q16 true 7 33 ?_
   refine zdLoad q16 true 8 34 ?_
   refine zoc 3 (duShifts_con d a hd hds hn1 hn9 hro) ⟨?_⟩
   refine zdIndexAddr q16 true 5 31 ?_
   refine zdLoad q16 true 6 32 ?_
   refine zdBinOp q16 true 9 35 ?_
   refine zoAssign 10 ⟨?_⟩
   refine aAny_done (by kernel_rfl) ?_
   refine k16 _ ?_
   refine n15 _ _ (weak_keep [6] _) ?_
   refine zk ⟨?_⟩
   refine v_ret ?_
   refine r0 _ ?_
   refine zf ⟨?_⟩
   exact ret_pure rfl (by rw [mayB, ← hR, any_end (by omega), hzd]; simp) (.inl rfl)
set_option maxHeartbeats 1000000 in
theorem mayWork_con (d : List (List Int)) (a b c x : Int) (hd : d.length ≤ 1048576) (hds : ∀ l ∈ d, l.length ≤ 1048576) (hn1 : 1 ≤ a) (hn9 : a ≤ 9) (hc : 0 ≤ c ∧ c ≤ 5) (hro : ∀ l ∈ d, ∀ y ∈ l, 0 ≤ y ∧ y < a) (hx : 0 ≤ x ∧ x < a) : Con Try.prog 69 [.sl (d.map fun l => V.sl (l.map (V.int .i64))), .agg [.int .i64 a, .int .i64 b, .int .i64 c], .int .i64 x] [] (.bool (mayB d a b c x)) [] := by
 have hlen := shiftsOf_len d a
 obtain ⟨z, hz⟩ : ∃ z, (shiftsOf d a)[x.toNat]? = some z := ⟨(shiftsOf d a)[x.toNat]'(by omega), List.getElem?_eq_getElem (by omega)⟩
 have hzd : (shiftsOf d a).getD x.toNat 0 = z := by rw [List.getD_eq_getElem?_getD, hz]; rfl
 have hk0 : (if (d.length : Int) - c > 0 then (d.length : Int) - c else 0) = ((d.length - c.toNat : Nat) : Int) := by split <;> omega
 have hdl : (d.drop (d.length - c.toNat)).length ≤ 1048576 := by rw [List.length_drop]; omega
 refine v_con [.tmp 6] [] Try.func69 rfl rfl rfl (by simp [Try.ntmps69]) ?_
 intro Q0 n0 r0
 simp only [Try.ntmps69, envFrom, Nat.reduceAdd]
 have T := Tys.mk (And.intro Ty.t3 (And.intro Ty.t4 (And.intro Ty.t30 (And.intro Ty.t37 Ty.t41))))
 have F := Fc.mk True.intro
 refine v_seqR [0,2,4] ?_; intro K1 k1
 have F := Fc.mk (And.intro (fun f => getD_map (f := f) hz) (And.intro hlen hk0))
 refine zBox ⟨?_⟩
 refine zAssign ⟨?_⟩
 refine k1 _ ?_
 refine zk ⟨?_⟩
 refine v_seq ?_; intro Q2 n2 e2 r2
 refine v_seqR [0,2,4,16,17,18] ?_; intro K3 k3
 refine zMove ⟨?_⟩
 refine zMove ⟨?_⟩
 refine zLen ⟨?_⟩
 refine zFieldAddr ⟨?_⟩
 refine zLoad ⟨?_⟩
 refine zBinOpW ⟨?_⟩
 refine zMax ⟨?_⟩
 refine zSlice ⟨?_⟩
 refine zLen ⟨?_⟩
 refine zMove ⟨?_⟩
 refine k3 _ ?_
 refine zk ⟨?_⟩
 refine v_block ?_; intro Q4 n4 x4 e4 r4
 refine v_loop (fun i => ⟨[(0, .sl (d.map fun l => V.sl (l.map (V.int .i64)))), (2, .int .i64 x), (4, .ptr 0 0 0), (16, .sl ((d.drop (d.length - c.toNat)).map fun l => V.sl (l.map (V.int .i64)))), (17, .int .i64 (d.drop (d.length - c.toNat)).length), (18, .int .i64 (Nat.cast i))], [.box (.agg [.int .i64 a, .int .i64 b, .int .i64 c]) .flat], false, 36, 0⟩) (fun i => i ≤ (d.drop (d.length - c.toNat)).length ∧ ((d.drop (d.length - c.toNat)).drop i).any (fun l => decide (x ∈ l)) = ((d.drop (d.length - c.toNat)).drop 0).any (fun l => decide (x ∈ l))) (fun i => (d.drop (d.length - c.toNat)).length - i) 0 ?_ ?_ ?_
 ·refine weak_bothS [0, 2, 4, 16, 17, 18] [0] ⟨?_⟩
  rfl
 ·exact ⟨Nat.zero_le _, rfl⟩
 ·rintro i hok5 Q5 n5 e5 r5
  obtain ⟨hi1, hR⟩ := hok5
  refine v_seqR [0,2,4,16,17,18,19] ?_; intro K6 k6
  refine zBinOp ⟨?_⟩
  refine k6 _ ?_
  refine zk ⟨?_⟩
  refine v_seq ?_; intro Q7 n7 e7 r7
  refine v_condS _ rfl ?_ ?_
  ·intro hc0
   have hlt : i < (d.drop (d.length - c.toNat)).length := by omega
   obtain ⟨l, hl⟩ : ∃ l, (d.drop (d.length - c.toNat))[i]? = some l := ⟨(d.drop (d.length - c.toNat))[i], List.getElem?_eq_getElem hlt⟩
   have hlx : l.length ≤ 1048576 := hds l (List.mem_of_mem_drop (List.mem_of_getElem? hl))
   have hst := any_drop (f := (fun l => decide (x ∈ l))) hl
   refine v_skip ?_
   refine n7 _ _ (weak_keep [0, 2, 4, 16, 17, 18] _) ?_
   refine zk ⟨?_⟩
   refine v_seq ?_; intro Q9 n9 e9 r9
   refine v_block ?_; intro Q10 n10 x10 e10 r10
   refine v_seqR [0,2,4,8,16,17,18] ?_; intro K11 k11
   have F := Fc.mk (And.intro (fun f => getD_map (f := f) hz) (And.intro hlen (And.intro hk0 (fun f => getD_map (f := f) hl))))
   refine zIndexAddr ⟨?_⟩
   refine zLoad ⟨?_⟩
   refine zAssign ⟨?_⟩
   refine k11 _ ?_
   refine zk ⟨?_⟩
   refine v_seqR [0,2,4,16,17,18,24] ?_; intro K12 k12
   refine zMove ⟨?_⟩
   refine zMove ⟨?_⟩
   refine zc (slContains_con l x hlx) ⟨?_⟩
   refine k12 _ ?_
   refine zk ⟨?_⟩
   refine v_condS _ rfl ?_ ?_
   ·intro hc1
    refine v_seqR [6] ?_; intro K14 k14
    refine zAssign ⟨?_⟩
    refine k14 _ ?_
    refine zk ⟨?_⟩
    refine v_ret ?_
    refine r10 _ ?_
    refine r9 _ ?_
    refine r5 _ ?_
    refine r4 _ ?_
    refine r2 _ ?_
    refine r0 _ ?_
    refine zf ⟨?_⟩
    exact ret_pure rfl (by rw [mayB, ← List.drop_zero (l := d.drop (d.length - c.toNat)), ← hR, hst]; simp [hc1]) (.inl rfl)
   ·intro hc1
    refine v_skip ?_
    refine n10 _ ?_
    refine n9 _ _ (weak_keep [0, 2, 4, 16, 17, 18] _) ?_
    refine zk ⟨?_⟩
    refine v_region ?_; intro K15 k15
    refine zBinOpW ⟨?_⟩
    refine zMove ⟨?_⟩
    refine k15 _ ?_
    refine n5 _ (i + 1) ?_ ?_ ?_
    ·refine weak_bothS [0, 2, 4, 16, 17, 18] [0] ⟨?_⟩
     rfl
    ·exact ⟨by omega, by rw [← hR, hst]; simp [hc1]⟩
    ·show _ < _; omega
  ·intro hc0
   refine v_exit ?_
   refine e7 _ _ ?_
   refine e5 _ _ ?_
   refine x4 _ ?_
   refine n2 _ _ (weak_keep [0, 2, 4] _) ?_
   refine zk ⟨?_⟩
   refine v_seq ?_; intro Q16 n16 e16 r16
   refine v_draw (by kernel_rfl) ?_; intro K17 q17 k17
   show aAny _ _ _ _ 11 (Array.replicate 11 false) _
   refine zdMove q17 true 0 26 ?_
   refine zdFieldAddr q17 true 1 27 ?_
   refine zdLoad q17 true 2 28 ?_
   refine zdMove q17 true 4 30 ?_
   refine zdFieldAddr q17 true 7 33 ?_
   refine zdLoad q17 true 8 34 ?_
   refine zoc 3 (shiftsOf_con d a hd hds hn1 hn9 hro) ⟨?_⟩
   refine zdIndexAddr q17 true 5 31 ?_
   refine zdLoad q17 true 6 32 ?_
   refine zdBinOp q17 true 9 35 ?_
   refine zoAssign 10 ⟨?_⟩
   refine aAny_done (by kernel_rfl) ?_
   refine k17 _ ?_
   refine n16 _ _ (weak_keep [6] _) ?_
   refine zk ⟨?_⟩
   refine v_ret ?_
   refine r0 _ ?_
   refine zf ⟨?_⟩
   exact ret_pure rfl (by rw [mayB, ← List.drop_zero (l := d.drop (d.length - c.toNat)), ← hR, any_end (by omega), hzd]; simp) (.inl rfl)
set_option maxHeartbeats 1000000 in
theorem duBreach_con (d : List (List Int)) (a b c : Int) (hd : d.length ≤ 1048576) (hds : ∀ l ∈ d, l.length ≤ 1048576) (hn1 : 1 ≤ a) (hn9 : a ≤ 9) (hc : 0 ≤ c ∧ c ≤ 5) (hro : ∀ l ∈ d, ∀ y ∈ l, 0 ≤ y ∧ y < a) : Con Try.prog 46 [.sl (d.map fun l => V.sl (l.map (V.int .i64))), .agg [.int .i64 a, .int .i64 b, .int .i64 c]] [] (.tup [.int .i64 (brI (breachOf d a b c)), .int .i64 (brX (breachOf d a b c)), .bool ((breachOf d a b c)).isSome]) [] := by
 refine v_con [.tmp 4, .tmp 5, .tmp 6] [] Try.func46 rfl rfl rfl (by simp [Try.ntmps46]) ?_
 intro Q0 n0 r0
 simp only [Try.ntmps46, envFrom, Nat.reduceAdd]
 have T := Tys.mk (And.intro Ty.t3 (And.intro Ty.t4 (And.intro Ty.t30 (And.intro Ty.t37 Ty.t41))))
 have F := Fc.mk True.intro
 refine v_seqR [0,3] ?_; intro K1 k1
 refine zBox ⟨?_⟩
 refine zAssign ⟨?_⟩
 refine zAssign ⟨?_⟩
 refine zAssign ⟨?_⟩
 refine k1 _ ?_
 refine zk ⟨?_⟩
 refine v_seq ?_; intro Q2 n2 e2 r2
 refine v_seqR [0,3,11,12,13] ?_; intro K3 k3
 refine zMove ⟨?_⟩
 refine zLen ⟨?_⟩
 refine zMove ⟨?_⟩
 refine k3 _ ?_
 refine zk ⟨?_⟩
 refine v_block ?_; intro Q4 n4 x4 e4 r4
 refine v_loop (fun i => ⟨[(0, .sl (d.map fun l => V.sl (l.map (V.int .i64)))), (3, .ptr 0 0 0), (11, .sl (d.map fun l => V.sl (l.map (V.int .i64)))), (12, .int .i64 d.length), (13, .int .i64 (Nat.cast i))], [.box (.agg [.int .i64 a, .int .i64 b, .int .i64 c]) .flat], false, 35, 0⟩) (fun i => i ≤ d.length ∧ breachFrom (fun k x => mayB (d.take k) a b c x) i (d.drop i) = breachFrom (fun k x => mayB (d.take k) a b c x) 0 d) (fun i => d.length - i) 0 ?_ ?_ ?_
 ·refine weak_bothS [0, 3, 11, 12, 13] [0] ⟨?_⟩
  rfl
 ·exact ⟨Nat.zero_le _, rfl⟩
 ·rintro i hok5 Q5 n5 e5 r5
  obtain ⟨hi1, hR⟩ := hok5
  refine v_seqR [0,3,11,12,13,14] ?_; intro K6 k6
  refine zBinOp ⟨?_⟩
  refine k6 _ ?_
  refine zk ⟨?_⟩
  refine v_seq ?_; intro Q7 n7 e7 r7
  refine v_condS _ rfl ?_ ?_
  ·intro hc0
   have hlt : i < d.length := by omega
   obtain ⟨l, hx⟩ : ∃ l, d[i]? = some l := ⟨d[i], List.getElem?_eq_getElem hlt⟩
   have hlx : l.length ≤ 1048576 := hds l (List.mem_of_getElem? hx)
   have hst := breach_step (M := (fun k x => mayB (d.take k) a b c x)) hx
   refine v_skip ?_
   refine n7 _ _ (weak_keep [0, 3, 11, 12, 13] _) ?_
   refine zk ⟨?_⟩
   refine v_seq ?_; intro Q9 n9 e9 r9
   refine v_block ?_; intro Q10 n10 x10 e10 r10
   refine v_seqR [0,3,7,8,11,12,13] ?_; intro K11 k11
   have F := Fc.mk (fun f => getD_map (f := f) hx)
   refine zMove ⟨?_⟩
   refine zIndexAddr ⟨?_⟩
   refine zLoad ⟨?_⟩
   refine zAssign ⟨?_⟩
   refine zAssign ⟨?_⟩
   refine k11 _ ?_
   refine zk ⟨?_⟩
   refine v_seqR [0,3,7,11,12,13,18,19,20] ?_; intro K12 k12
   refine zMove ⟨?_⟩
   refine zLen ⟨?_⟩
   refine zMove ⟨?_⟩
   refine k12 _ ?_
   refine zk ⟨?_⟩
   refine v_block ?_; intro Q13 n13 x13 e13 r13
   refine v_loop (fun j => ⟨[(0, .sl (d.map fun l => V.sl (l.map (V.int .i64)))), (3, .ptr 0 0 0), (7, .int .i64 (Nat.cast i)), (11, .sl (d.map fun l => V.sl (l.map (V.int .i64)))), (12, .int .i64 d.length), (13, .int .i64 (Nat.cast i)), (18, .sl (l.map (V.int .i64))), (19, .int .i64 l.length), (20, .int .i64 (Nat.cast j))], [.box (.agg [.int .i64 a, .int .i64 b, .int .i64 c]) .flat], false, 35, 0⟩) (fun j => j ≤ l.length ∧ (l.drop j).find? (fun x => !(fun k x => mayB (d.take k) a b c x) i x) = l.find? (fun x => !(fun k x => mayB (d.take k) a b c x) i x)) (fun j => l.length - j) 0 ?_ ?_ ?_
   ·refine weak_bothS [0, 3, 7, 11, 12, 13, 18, 19, 20] [0] ⟨?_⟩
    rfl
   ·exact ⟨Nat.zero_le _, rfl⟩
   ·rintro j hok14 Q14 n14 e14 r14
    obtain ⟨hj1, hR2⟩ := hok14
    refine v_seqR [0,3,7,11,12,13,18,19,20,21] ?_; intro K15 k15
    refine zBinOp ⟨?_⟩
    refine k15 _ ?_
    refine zk ⟨?_⟩
    refine v_seq ?_; intro Q16 n16 e16 r16
    refine v_condS _ rfl ?_ ?_
    ·intro hc1
     have hltj : j < l.length := by omega
     obtain ⟨y, hy⟩ : ∃ y, l[j]? = some y := ⟨l[j], List.getElem?_eq_getElem hltj⟩
     have hst2 := find_step (p := fun x => !(fun k x => mayB (d.take k) a b c x) i x) hy
     have hyr := hro l (List.mem_of_getElem? hx) y (List.mem_of_getElem? hy)
     refine v_skip ?_
     refine n16 _ _ (weak_keep [0, 3, 7, 11, 12, 13, 18, 19, 20] _) ?_
     refine zk ⟨?_⟩
     refine v_seq ?_; intro Q18 n18 e18 r18
     refine v_block ?_; intro Q19 n19 x19 e19 r19
     refine v_seqR [0,3,7,10,11,12,13,18,19,20] ?_; intro K20 k20
     have F := Fc.mk (And.intro (fun f => getD_map (f := f) hx) (fun f => getD_map (f := f) hy))
     refine zIndexAddr ⟨?_⟩
     refine zLoad ⟨?_⟩
     refine zAssign ⟨?_⟩
     refine k20 _ ?_
     refine zk ⟨?_⟩
     refine v_seq ?_; intro Q21 n21 e21 r21
     refine v_draw (by kernel_rfl) ?_; intro K22 q22 k22
     show aAny _ _ _ _ 7 (Array.replicate 7 false) _
     refine zdMove q22 true 0 24 ?_
     refine zdMove q22 true 1 25 ?_
     refine zdSlice q22 true 2 26 ?_
     refine zdLoad q22 true 3 27 ?_
     refine zdMove q22 true 4 28 ?_
     refine zoc 5 (duMay_con (d.take i) a b c y (by rw [List.length_take]; omega) (fun l h => hds l (List.mem_of_mem_take h)) hn1 hn9 hc (fun l h => hro l (List.mem_of_mem_take h)) hyr) ⟨?_⟩
     refine zdUnOp q22 true 6 30 ?_
     refine aAny_done (by kernel_rfl) ?_
     refine k22 _ ?_
     refine n21 _ _ (weak_keep [0, 3, 7, 10, 11, 12, 13, 18, 19, 20, 30] _) ?_
     refine zk ⟨?_⟩
     refine v_condS _ rfl ?_ ?_
     ·intro hc2
      refine v_seqR [4,5,6] ?_; intro K24 k24
      refine zMove ⟨?_⟩
      refine zMove ⟨?_⟩
      refine zAssign ⟨?_⟩
      refine zAssign ⟨?_⟩
      refine zAssign ⟨?_⟩
      refine k24 _ ?_
      refine zk ⟨?_⟩
      refine v_ret ?_
      refine r19 _ ?_
      refine r18 _ ?_
      refine r14 _ ?_
      refine r13 _ ?_
      refine r10 _ ?_
      refine r9 _ ?_
      refine r5 _ ?_
      refine r4 _ ?_
      refine r2 _ ?_
      refine r0 _ ?_
      refine zf ⟨?_⟩
      have hres : breachOf d a b c = some (i, y) := by rw [breachOf, ← hR, hst, ← hR2, hst2]; simp [hc2]
      rw [hres]
      exact ret_pure rfl rfl (.inl rfl)
     ·intro hc2
      refine v_skip ?_
      refine n19 _ ?_
      refine n18 _ _ (weak_keep [0, 3, 7, 11, 12, 13, 18, 19, 20] _) ?_
      refine zk ⟨?_⟩
      refine v_region ?_; intro K25 k25
      refine zBinOpW ⟨?_⟩
      refine zMove ⟨?_⟩
      refine k25 _ ?_
      refine n14 _ (j + 1) ?_ ?_ ?_
      ·refine weak_bothS [0, 3, 7, 11, 12, 13, 18, 19, 20] [0] ⟨?_⟩
       rfl
      ·exact ⟨by omega, by rw [← hR2, hst2]; simp [hc2]⟩
      ·show _ < _; omega
    ·intro hc1
     refine v_exit ?_
     refine e16 _ _ ?_
     refine e14 _ _ ?_
     refine x13 _ ?_
     refine n10 _ ?_
     refine n9 _ _ (weak_keep [0, 3, 11, 12, 13] _) ?_
     refine zk ⟨?_⟩
     refine v_region ?_; intro K26 k26
     refine zBinOpW ⟨?_⟩
     refine zMove ⟨?_⟩
     refine k26 _ ?_
     refine n5 _ (i + 1) ?_ ?_ ?_
     ·refine weak_bothS [0, 3, 11, 12, 13] [0] ⟨?_⟩
      rfl
     ·exact ⟨by omega, by rw [← hR, hst, ← hR2, find_end (by omega)]⟩
     ·show _ < _; omega
  ·intro hc0
   refine v_exit ?_
   refine e7 _ _ ?_
   refine e5 _ _ ?_
   refine x4 _ ?_
   refine n2 _ _ (weak_keep [] _) ?_
   refine zk ⟨?_⟩
   refine v_seqR [4,5,6] ?_; intro K27 k27
   refine zAssign ⟨?_⟩
   refine zAssign ⟨?_⟩
   refine zAssign ⟨?_⟩
   refine k27 _ ?_
   refine zk ⟨?_⟩
   refine v_ret ?_
   refine r0 _ ?_
   refine zf ⟨?_⟩
   have hres : breachOf d a b c = none := by rw [breachOf, ← hR, breach_end (by omega)]
   rw [hres]
   exact ret_pure rfl rfl (.inl rfl)
set_option maxHeartbeats 1000000 in
theorem firstBreach_con (d : List (List Int)) (a b c : Int) (hd : d.length ≤ 1048576) (hds : ∀ l ∈ d, l.length ≤ 1048576) (hn1 : 1 ≤ a) (hn9 : a ≤ 9) (hc : 0 ≤ c ∧ c ≤ 5) (hro : ∀ l ∈ d, ∀ y ∈ l, 0 ≤ y ∧ y < a) : Con Try.prog 52 [.sl (d.map fun l => V.sl (l.map (V.int .i64))), .agg [.int .i64 a, .int .i64 b, .int .i64 c]] [] (.tup [.int .i64 (brI (breachOf d a b c)), .int .i64 (brX (breachOf d a b c)), .bool ((breachOf d a b c)).isSome]) [] := by
 refine v_con [.tmp 4, .tmp 5, .tmp 6] [] Try.func52 rfl rfl rfl (by simp [Try.ntmps52]) ?_
 intro Q0 n0 r0
 simp only [Try.ntmps52, envFrom, Nat.reduceAdd]
 have T := Tys.mk (And.intro Ty.t3 (And.intro Ty.t4 (And.intro Ty.t30 (And.intro Ty.t37 Ty.t41))))
 have F := Fc.mk True.intro
 refine v_seqR [0,3] ?_; intro K1 k1
 refine zBox ⟨?_⟩
 refine zAssign ⟨?_⟩
 refine zAssign ⟨?_⟩
 refine zAssign ⟨?_⟩
 refine k1 _ ?_
 refine zk ⟨?_⟩
 refine v_seq ?_; intro Q2 n2 e2 r2
 refine v_seqR [0,3,11,12,13] ?_; intro K3 k3
 refine zMove ⟨?_⟩
 refine zLen ⟨?_⟩
 refine zMove ⟨?_⟩
 refine k3 _ ?_
 refine zk ⟨?_⟩
 refine v_block ?_; intro Q4 n4 x4 e4 r4
 refine v_loop (fun i => ⟨[(0, .sl (d.map fun l => V.sl (l.map (V.int .i64)))), (3, .ptr 0 0 0), (11, .sl (d.map fun l => V.sl (l.map (V.int .i64)))), (12, .int .i64 d.length), (13, .int .i64 (Nat.cast i))], [.box (.agg [.int .i64 a, .int .i64 b, .int .i64 c]) .flat], false, 35, 0⟩) (fun i => i ≤ d.length ∧ breachFrom (fun k x => mayB (d.take k) a b c x) i (d.drop i) = breachFrom (fun k x => mayB (d.take k) a b c x) 0 d) (fun i => d.length - i) 0 ?_ ?_ ?_
 ·refine weak_bothS [0, 3, 11, 12, 13] [0] ⟨?_⟩
  rfl
 ·exact ⟨Nat.zero_le _, rfl⟩
 ·rintro i hok5 Q5 n5 e5 r5
  obtain ⟨hi1, hR⟩ := hok5
  refine v_seqR [0,3,11,12,13,14] ?_; intro K6 k6
  refine zBinOp ⟨?_⟩
  refine k6 _ ?_
  refine zk ⟨?_⟩
  refine v_seq ?_; intro Q7 n7 e7 r7
  refine v_condS _ rfl ?_ ?_
  ·intro hc0
   have hlt : i < d.length := by omega
   obtain ⟨l, hx⟩ : ∃ l, d[i]? = some l := ⟨d[i], List.getElem?_eq_getElem hlt⟩
   have hlx : l.length ≤ 1048576 := hds l (List.mem_of_getElem? hx)
   have hst := breach_step (M := (fun k x => mayB (d.take k) a b c x)) hx
   refine v_skip ?_
   refine n7 _ _ (weak_keep [0, 3, 11, 12, 13] _) ?_
   refine zk ⟨?_⟩
   refine v_seq ?_; intro Q9 n9 e9 r9
   refine v_block ?_; intro Q10 n10 x10 e10 r10
   refine v_seqR [0,3,7,8,11,12,13] ?_; intro K11 k11
   have F := Fc.mk (fun f => getD_map (f := f) hx)
   refine zMove ⟨?_⟩
   refine zIndexAddr ⟨?_⟩
   refine zLoad ⟨?_⟩
   refine zAssign ⟨?_⟩
   refine zAssign ⟨?_⟩
   refine k11 _ ?_
   refine zk ⟨?_⟩
   refine v_seqR [0,3,7,11,12,13,18,19,20] ?_; intro K12 k12
   refine zMove ⟨?_⟩
   refine zLen ⟨?_⟩
   refine zMove ⟨?_⟩
   refine k12 _ ?_
   refine zk ⟨?_⟩
   refine v_block ?_; intro Q13 n13 x13 e13 r13
   refine v_loop (fun j => ⟨[(0, .sl (d.map fun l => V.sl (l.map (V.int .i64)))), (3, .ptr 0 0 0), (7, .int .i64 (Nat.cast i)), (11, .sl (d.map fun l => V.sl (l.map (V.int .i64)))), (12, .int .i64 d.length), (13, .int .i64 (Nat.cast i)), (18, .sl (l.map (V.int .i64))), (19, .int .i64 l.length), (20, .int .i64 (Nat.cast j))], [.box (.agg [.int .i64 a, .int .i64 b, .int .i64 c]) .flat], false, 35, 0⟩) (fun j => j ≤ l.length ∧ (l.drop j).find? (fun x => !(fun k x => mayB (d.take k) a b c x) i x) = l.find? (fun x => !(fun k x => mayB (d.take k) a b c x) i x)) (fun j => l.length - j) 0 ?_ ?_ ?_
   ·refine weak_bothS [0, 3, 7, 11, 12, 13, 18, 19, 20] [0] ⟨?_⟩
    rfl
   ·exact ⟨Nat.zero_le _, rfl⟩
   ·rintro j hok14 Q14 n14 e14 r14
    obtain ⟨hj1, hR2⟩ := hok14
    refine v_seqR [0,3,7,11,12,13,18,19,20,21] ?_; intro K15 k15
    refine zBinOp ⟨?_⟩
    refine k15 _ ?_
    refine zk ⟨?_⟩
    refine v_seq ?_; intro Q16 n16 e16 r16
    refine v_condS _ rfl ?_ ?_
    ·intro hc1
     have hltj : j < l.length := by omega
     obtain ⟨y, hy⟩ : ∃ y, l[j]? = some y := ⟨l[j], List.getElem?_eq_getElem hltj⟩
     have hst2 := find_step (p := fun x => !(fun k x => mayB (d.take k) a b c x) i x) hy
     have hyr := hro l (List.mem_of_getElem? hx) y (List.mem_of_getElem? hy)
     refine v_skip ?_
     refine n16 _ _ (weak_keep [0, 3, 7, 11, 12, 13, 18, 19, 20] _) ?_
     refine zk ⟨?_⟩
     refine v_seq ?_; intro Q18 n18 e18 r18
     refine v_block ?_; intro Q19 n19 x19 e19 r19
     refine v_seqR [0,3,7,10,11,12,13,18,19,20] ?_; intro K20 k20
     have F := Fc.mk (And.intro (fun f => getD_map (f := f) hx) (fun f => getD_map (f := f) hy))
     refine zIndexAddr ⟨?_⟩
     refine zLoad ⟨?_⟩
     refine zAssign ⟨?_⟩
     refine k20 _ ?_
     refine zk ⟨?_⟩
     refine v_seq ?_; intro Q21 n21 e21 r21
     refine v_draw (by kernel_rfl) ?_; intro K22 q22 k22
     show aAny _ _ _ _ 7 (Array.replicate 7 false) _
     refine zdMove q22 true 0 24 ?_
     refine zdMove q22 true 1 25 ?_
     refine zdSlice q22 true 2 26 ?_
     refine zdLoad q22 true 3 27 ?_
     refine zdMove q22 true 4 28 ?_
     refine zoc 5 (mayWork_con (d.take i) a b c y (by rw [List.length_take]; omega) (fun l h => hds l (List.mem_of_mem_take h)) hn1 hn9 hc (fun l h => hro l (List.mem_of_mem_take h)) hyr) ⟨?_⟩
     refine zdUnOp q22 true 6 30 ?_
     refine aAny_done (by kernel_rfl) ?_
     refine k22 _ ?_
     refine n21 _ _ (weak_keep [0, 3, 7, 10, 11, 12, 13, 18, 19, 20, 30] _) ?_
     refine zk ⟨?_⟩
     refine v_condS _ rfl ?_ ?_
     ·intro hc2
      refine v_seqR [4,5,6] ?_; intro K24 k24
      refine zMove ⟨?_⟩
      refine zMove ⟨?_⟩
      refine zAssign ⟨?_⟩
      refine zAssign ⟨?_⟩
      refine zAssign ⟨?_⟩
      refine k24 _ ?_
      refine zk ⟨?_⟩
      refine v_ret ?_
      refine r19 _ ?_
      refine r18 _ ?_
      refine r14 _ ?_
      refine r13 _ ?_
      refine r10 _ ?_
      refine r9 _ ?_
      refine r5 _ ?_
      refine r4 _ ?_
      refine r2 _ ?_
      refine r0 _ ?_
      refine zf ⟨?_⟩
      have hres : breachOf d a b c = some (i, y) := by rw [breachOf, ← hR, hst, ← hR2, hst2]; simp [hc2]
      rw [hres]
      exact ret_pure rfl rfl (.inl rfl)
     ·intro hc2
      refine v_skip ?_
      refine n19 _ ?_
      refine n18 _ _ (weak_keep [0, 3, 7, 11, 12, 13, 18, 19, 20] _) ?_
      refine zk ⟨?_⟩
      refine v_region ?_; intro K25 k25
      refine zBinOpW ⟨?_⟩
      refine zMove ⟨?_⟩
      refine k25 _ ?_
      refine n14 _ (j + 1) ?_ ?_ ?_
      ·refine weak_bothS [0, 3, 7, 11, 12, 13, 18, 19, 20] [0] ⟨?_⟩
       rfl
      ·exact ⟨by omega, by rw [← hR2, hst2]; simp [hc2]⟩
      ·show _ < _; omega
    ·intro hc1
     refine v_exit ?_
     refine e16 _ _ ?_
     refine e14 _ _ ?_
     refine x13 _ ?_
     refine n10 _ ?_
     refine n9 _ _ (weak_keep [0, 3, 11, 12, 13] _) ?_
     refine zk ⟨?_⟩
     refine v_region ?_; intro K26 k26
     refine zBinOpW ⟨?_⟩
     refine zMove ⟨?_⟩
     refine k26 _ ?_
     refine n5 _ (i + 1) ?_ ?_ ?_
     ·refine weak_bothS [0, 3, 11, 12, 13] [0] ⟨?_⟩
      rfl
     ·exact ⟨by omega, by rw [← hR, hst, ← hR2, find_end (by omega)]⟩
     ·show _ < _; omega
  ·intro hc0
   refine v_exit ?_
   refine e7 _ _ ?_
   refine e5 _ _ ?_
   refine x4 _ ?_
   refine n2 _ _ (weak_keep [] _) ?_
   refine zk ⟨?_⟩
   refine v_seqR [4,5,6] ?_; intro K27 k27
   refine zAssign ⟨?_⟩
   refine zAssign ⟨?_⟩
   refine zAssign ⟨?_⟩
   refine k27 _ ?_
   refine zk ⟨?_⟩
   refine v_ret ?_
   refine r0 _ ?_
   refine zf ⟨?_⟩
   have hres : breachOf d a b c = none := by rw [breachOf, ← hR, breach_end (by omega)]
   rw [hres]
   exact ret_pure rfl rfl (.inl rfl)
theorem duty_in {a b c : Int} (h : dutyB a b c = true) : 1 ≤ a ∧ a ≤ 9 ∧ 0 ≤ c ∧ c ≤ 5 := by
  simp [dutyB] at h; omega
def breachR (d : List (List Int)) (a b c : Int) : Option (Nat × Int) := if (dutyB a b c && rosterB d a) = true then breachOf d a b c else none

def szLst {α : Type} (f : Int → α → Int) : Int → List α → Int
  | n, [] => n
  | n, x :: l => if f n x < 0 then -1 else szLst f (f n x) l
theorem szLst_le {α : Type} {f : Int → α → Int} {g : α → Int} (hf : ∀ n x, 0 ≤ n → 0 ≤ f n x → g x ≤ n ∧ f n x ≤ n) : ∀ {ll : List α} {n : Int}, 0 ≤ n → 0 ≤ szLst f n ll → ∀ x ∈ ll, g x ≤ n
  | [], _, _, _, x, hx => by cases hx
  | y :: ll, n, hn, h, x, hx => by
    rw [szLst] at h
    split at h
    · omega
    · rename_i hs
      have hy := hf n y hn (by omega)
      rcases List.mem_cons.1 hx with rfl | h3
      · exact hy.1
      · have := szLst_le hf (by omega) h x h3; omega

def okAt (s : ByteArray) (i : Nat) : Bool := (decide (97 ≤ byteAt s i) && decide (byteAt s i ≤ 122)) || ((decide (48 ≤ byteAt s i) && decide (byteAt s i ≤ 57)) && !decide (i = 0))
def nameB (s : ByteArray) : Bool := (List.range s.size).all (okAt s) && (decide (1 ≤ (s.size : Int)) && decide ((s.size : Int) ≤ 6))
theorem name_bad {s : ByteArray} {i : Nat} (hi : i < s.size) (h : okAt s i = false) : nameB s = false := by
  have : (List.range s.size).all (okAt s) = false := by
    rw [List.all_eq_false]
    exact ⟨i, List.mem_range.2 hi, by rw [h]; simp⟩
  rw [nameB, this]; rfl
theorem name_good {s : ByteArray} {i : Nat} (hi : s.size ≤ i) (h : ∀ j, j < i → okAt s j = true) : nameB s = (decide (1 ≤ (s.size : Int)) && decide ((s.size : Int) ≤ 6)) := by
  have : (List.range s.size).all (okAt s) = true := by
    rw [List.all_eq_true]
    intro j hj
    exact h j (Nat.lt_of_lt_of_le (List.mem_range.1 hj) hi)
  rw [nameB, this]; rfl
theorem ok_step {s : ByteArray} {i : Nat} (h : ∀ j, j < i → okAt s j = true) (hi : okAt s i = true) : ∀ j, j < i + 1 → okAt s j = true := by
  intro j hj
  rcases Nat.lt_or_ge j i with q | q
  · exact h j q
  · have : j = i := by omega
    subst this; exact hi

def cmpI (a b : Int) : Int := if a < b then -1 else if b < a then 1 else 0
def cmpS (a b : ByteArray) : Int := if strLt a b = true then -1 else if a = b then 0 else 1
def orL : List Int → Int
  | [] => 0
  | x :: l => if x ≠ 0 then x else orL l
theorem or_step {l : List Int} {i : Nat} {x : Int} (h : l[i]? = some x) : orL (l.drop i) = if x ≠ 0 then x else orL (l.drop (i + 1)) := by
  rw [getElem_drop_cons h, orL]
theorem or_end {l : List Int} {i : Nat} (h : l.length ≤ i) : orL (l.drop i) = 0 := by
  rw [List.drop_of_length_le h, orL]

def chainFrom {α : Type} (ok : α → Bool) (bf : α → α → Bool) : Option α → List α → Bool
  | _, [] => true
  | none, x :: l => ok x && chainFrom ok bf (some x) l
  | some p, x :: l => ok x && bf p x && chainFrom ok bf (some x) l
def chainAt {α : Type} (ok : α → Bool) (bf : α → α → Bool) (l : List α) (i : Nat) : Bool := chainFrom ok bf (if i = 0 then none else l[i - 1]?) (l.drop i)
theorem chain_zero {α : Type} {ok : α → Bool} {bf : α → α → Bool} {l : List α} {x : α} (h : l[0]? = some x) : chainAt ok bf l 0 = (ok x && chainAt ok bf l 1) := by
  simp only [chainAt, getElem_drop_cons h, if_true, chainFrom]
  simp [h]
theorem chain_succ {α : Type} {ok : α → Bool} {bf : α → α → Bool} {l : List α} {x y : α} {i : Nat} (h0 : 0 < i) (hy : l[i - 1]? = some y) (h : l[i]? = some x) : chainAt ok bf l i = (ok x && bf y x && chainAt ok bf l (i + 1)) := by
  simp only [chainAt, getElem_drop_cons h, hy, show ¬ i = 0 by omega, if_false, chainFrom]
  simp [h]
theorem chain_end {α : Type} {ok : α → Bool} {bf : α → α → Bool} {l : List α} {i : Nat} (h : l.length ≤ i) : chainAt ok bf l i = true := by
  simp only [chainAt, List.drop_of_length_le h]
  split <;> rfl
theorem chainFrom_ok {α : Type} {ok : α → Bool} {bf : α → α → Bool} : ∀ {l : List α} {p : Option α}, chainFrom ok bf p l = true → ∀ x ∈ l, ok x = true
  | [], _, _, x, hx => by cases hx
  | y :: l, p, h, x, hx => by
    have h2 : ok y = true ∧ chainFrom ok bf (some y) l = true := by
      cases p <;> simp [chainFrom] at h <;> simp [h]
    rcases List.mem_cons.1 hx with rfl | h3
    · exact h2.1
    · exact chainFrom_ok h2.2 x h3
theorem chain_ok {α : Type} {ok : α → Bool} {bf : α → α → Bool} {l : List α} (h : chainAt ok bf l 0 = true) : ∀ x ∈ l, ok x = true := chainFrom_ok h

def tOne (x : (Int × ByteArray × Int × Int)) : Bool := (decide (1 ≤ x.1) && decide (x.1 ≤ 999)) && nameB x.2.1 && (decide (0 ≤ x.2.2.1) && decide (x.2.2.1 ≤ 999999)) && (decide (x.2.2.1 ≤ x.2.2.2) && decide (x.2.2.2 ≤ 999999))
def tBefore (x y : (Int × ByteArray × Int × Int)) : Bool := if x.2.2.1 ≠ y.2.2.1 then decide (x.2.2.1 < y.2.2.1) else if x.1 ≠ y.1 then decide (x.1 < y.1) else strLt x.2.1 y.2.1
def turnsB (l : List (Int × ByteArray × Int × Int)) : Bool := chainAt tOne tBefore l 0 && decide ((l.length : Int) ≤ 15)
theorem strLt_irrefl (a : ByteArray) : strLt a a = false := by
  unfold strLt
  generalize a.toList = l
  induction l with
  | nil => rfl
  | cons x l ih => simp [Op.bytesLess, ih]
theorem cmp_before (x y : (Int × ByteArray × Int × Int)) : (0 ≤ orL [cmpI x.2.2.1 y.2.2.1, cmpI x.1 y.1, cmpS x.2.1 y.2.1]) ↔ tBefore x y = false := by
  simp only [orL, cmpI, cmpS, tBefore]
  by_cases h1 : x.2.2.1 = y.2.2.1
  · by_cases h2 : x.1 = y.1
    · by_cases h3 : x.2.1 = y.2.1
      · simp [h1, h2, h3, strLt_irrefl]
      · by_cases h4 : strLt x.2.1 y.2.1 = true
        · simp [h1, h2, h3, h4]
        · simp only [Bool.not_eq_true] at h4; simp [h1, h2, h3, h4]
    · rcases Int.lt_or_gt_of_ne h2 with q | q
      · simp [h1, q, h2]
      · have : ¬ x.1 < y.1 := by omega
        simp [h1, q, h2, this]
  · rcases Int.lt_or_gt_of_ne h1 with q | q
    · simp [q, h1]
    · have : ¬ x.2.2.1 < y.2.2.1 := by omega
      simp [q, h1, this]

end Go.Proofs.Ytldnelkcmffiaaa
