/- What functions compute. No condition. -/
import Derived.Test.YtbameklegpgkfaaDoorUty
import Derived.Test.YtbameklegpgkfaaDoorUmG
import Derived.Test.YtbameklegpgkfaaDoorX4
import Derived.Test.YtbameklegpgkfaaDoorX21
import Derived.Test.YtbameklegpgkfaaDoorX20
set_option linter.unusedSimpArgs false
set_option linter.unusedVariables false
set_option linter.defProp false
namespace Go.Proofs.YtbameklegpgkfaaDoor
open Go Go.Vm

def rStep (s : ByteArray) (l : List Int) : ByteArray := s ++ catB (numS l) ++ (⟨#[59]⟩ : ByteArray)
def rTexts (d : List (List Int)) : ByteArray := d.foldl rStep .empty
def rTextR (d : List (List Int)) (n : Int) : ByteArray := if rosterB d n = true then rTexts d else .empty
theorem rTexts_step {d : List (List Int)} {i : Nat} {x : List Int} (h : d[i]? = some x) : rTexts (d.take (i + 1)) = rStep (rTexts (d.take i)) x := by
  rw [rTexts, List.take_add_one, h, List.foldl_append]; rfl
theorem cat_step {l : List Int} {i : Nat} {x : Int} (h : l[i]? = some x) : catB (numS (l.take (i + 1))) = catB (numS (l.take i)) ++ numB x.toNat := by
  rw [List.take_add_one, h, numS, List.map_append, catB, List.foldl_append]; rfl
theorem cat_size {l : List Int} (h : ∀ n ∈ l, 0 ≤ n ∧ n < 1000000000) : (catB (numS l)).size ≤ 9 * l.length := by
  have := joinB_size (numS l) .empty 9 (numS_size h)
  rw [joinB_cat] at this
  have e : (numS l).length = l.length := by simp [numS]
  have e2 : ByteArray.empty.size = 0 := rfl
  rw [e, e2] at this
  omega
theorem roster_num {d : List (List Int)} {n : Int} (h : rosterB d n = true) {x : List Int} (hx : x ∈ d) : ∀ y ∈ x, 0 ≤ y ∧ y < 1000000000 := by
  intro y hy
  have := roster_in h
  have := this.2.2 x hx y hy
  omega

set_option maxHeartbeats 1000000 in
theorem implRosterText_con (d : List (List Int)) (n : Int) (hd : d.length ≤ 1048576) (hds : ∀ l ∈ d, l.length ≤ 1048576) : Con Tryd.prog 18 [.sl (d.map fun l => V.sl (l.map (V.int .i64))), .int .i64 n] [] (.tup [.str (rTextR d n), .bool (rosterB d n)]) [] := by
 refine v_con [.tmp 4, .tmp 5] [] Tryd.func18 rfl rfl rfl (by simp [Tryd.ntmps18]) ?_
 intro Q0 n0 r0
 simp only [Tryd.ntmps18, envFrom, Nat.reduceAdd]
 have T := Tys.mk (And.intro Ty.t3 (And.intro Ty.t4 (And.intro Ty.t9 (And.intro Ty.t23 Ty.t36))))
 have F := Fc.mk True.intro
 refine v_seqR [0,1] ?_; intro K1 k1
 refine zAssign ⟨?_⟩
 refine zAssign ⟨?_⟩
 refine k1 _ ?_
 refine zk ⟨?_⟩
 refine v_seq ?_; intro Q2 n2 e2 r2
 refine v_seqR [0,12] ?_; intro K3 k3
 refine zMove ⟨?_⟩
 refine zMove ⟨?_⟩
 refine zc (isRoster_con d n hd hds) ⟨?_⟩
 refine zUnOp ⟨?_⟩
 refine k3 _ ?_
 refine zk ⟨?_⟩
 refine v_condS _ rfl ?_ ?_
 ·intro hc0
  refine v_seqR [4,5] ?_; intro K5 k5
  refine zAssign ⟨?_⟩
  refine zAssign ⟨?_⟩
  refine k5 _ ?_
  refine zk ⟨?_⟩
  refine v_ret ?_
  refine r2 _ ?_
  refine r0 _ ?_
  refine zf ⟨?_⟩
  exact ret_pure rfl (by rw [rTextR, hc0]; rfl) (.inl rfl)
 ·intro hc0
  have hg : rosterB d n = true := hc0
  have hll : d.length ≤ 21 := roster_len hg
  refine v_skip ?_
  refine n2 _ _ (weak_keep [0] _) ?_
  refine zk ⟨?_⟩
  refine v_seqR [0,6] ?_; intro K6 k6
  refine zAssign ⟨?_⟩
  refine k6 _ ?_
  refine zk ⟨?_⟩
  refine v_seq ?_; intro Q7 n7 e7 r7
  refine v_seqR [6,13,14,15] ?_; intro K8 k8
  refine zMove ⟨?_⟩
  refine zLen ⟨?_⟩
  refine zMove ⟨?_⟩
  refine k8 _ ?_
  refine zk ⟨?_⟩
  refine v_block ?_; intro Q9 n9 x9 e9 r9
  refine v_loop (fun p => ⟨[(6, .str p.2), (13, .sl (d.map fun l => V.sl (l.map (V.int .i64)))), (14, .int .i64 d.length), (15, .int .i64 (Nat.cast p.1))], [], false, 26, 0⟩) (fun p => p.1 ≤ d.length ∧ p.2.size ≤ 9437200 * p.1 ∧ p.2 = rTexts (d.take p.1)) (fun p => d.length - p.1) ((0, .empty) : Nat × ByteArray) ?_ ?_ ?_
  ·refine weak_of [6, 13, 14, 15] ?_
   simp only [keep_mk, keepE_nil, keepE_cons, look_cons, look_nil, Nat.reduceEqDiff, reduceIte]
   rfl
  ·exact ⟨Nat.zero_le _, Nat.le_refl _, rfl⟩
  ·rintro ⟨i, st⟩ hok10 Q10 n10 e10 r10
   obtain ⟨hi1, hsz, hR⟩ := hok10
   simp only [] at hi1 hsz hR ⊢
   refine v_seqR [6,13,14,15,16] ?_; intro K11 k11
   refine zBinOp ⟨?_⟩
   refine k11 _ ?_
   refine zk ⟨?_⟩
   refine v_seq ?_; intro Q12 n12 e12 r12
   refine v_condS _ rfl ?_ ?_
   ·intro hc1
    have hlt : i < d.length := by omega
    obtain ⟨x, hx⟩ : ∃ x, d[i]? = some x := ⟨d[i], List.getElem?_eq_getElem hlt⟩
    have hlx : x.length ≤ 1048576 := hds x (List.mem_of_getElem? hx)
    have hnum := roster_num hg (List.mem_of_getElem? hx)
    have hcs := cat_size hnum
    have hst := rTexts_step hx
    have hz3 : (⟨#[59]⟩ : ByteArray).size = 1 := rfl
    have hje : joinB (numS x) .empty = catB (numS x) := joinB_cat _
    refine v_skip ?_
    refine n12 _ _ (weak_keep [6, 13, 14, 15] _) ?_
    refine zk ⟨?_⟩
    refine v_seq ?_; intro Q14 n14 e14 r14
    refine v_block ?_; intro Q15 n15 x15 e15 r15
    refine v_seqR [6,8,13,14,15] ?_; intro K16 k16
    have F := Fc.mk (And.intro (fun f => getD_map (f := f) hx) (And.intro @ByteArray.size_append hz3))
    refine zIndexAddr ⟨?_⟩
    refine zLoad ⟨?_⟩
    refine zAssign ⟨?_⟩
    refine k16 _ ?_
    refine zk ⟨?_⟩
    refine v_region ?_; intro K17 k17
    refine zMove ⟨?_⟩
    refine zMove ⟨?_⟩
    refine zc ((by have q := joinNumbers_con x .empty hlx hnum (by decide); rw [hje] at q; exact q)) ⟨?_⟩
    refine zBinOpW ⟨?_⟩
    refine zBinOpW ⟨?_⟩
    refine zAssign ⟨?_⟩
    refine k17 _ ?_
    refine n15 _ ?_
    refine n14 _ _ (weak_keep [6, 13, 14, 15] _) ?_
    refine zk ⟨?_⟩
    refine v_region ?_; intro K18 k18
    refine zBinOpW ⟨?_⟩
    refine zMove ⟨?_⟩
    refine k18 _ ?_
    refine n10 _ (i + 1, st ++ (catB (numS x) ++ (⟨#[59]⟩ : ByteArray))) ?_ ?_ ?_
    ·refine weak_bothS [6, 13, 14, 15] [] ⟨?_⟩
     rfl
    ·exact ⟨hlt, by show ByteArray.size (_ ++ _) ≤ 9437200 * (i + 1); simp only [ByteArray.size_append, hz3]; omega, by show _ ++ _ = _; rw [hst, ← hR, rStep, ByteArray.append_assoc]⟩
    ·show _ < _; show d.length - (i + 1) < d.length - i; omega
   ·intro hc1
    refine v_exit ?_
    refine e12 _ _ ?_
    refine e10 _ _ ?_
    refine x9 _ ?_
    refine n7 _ _ (weak_keep [6] _) ?_
    refine zk ⟨?_⟩
    refine v_seqR [4,5] ?_; intro K19 k19
    refine zMove ⟨?_⟩
    refine zAssign ⟨?_⟩
    refine zAssign ⟨?_⟩
    refine k19 _ ?_
    refine zk ⟨?_⟩
    refine v_ret ?_
    refine r0 _ ?_
    refine zf ⟨?_⟩
    have hend : st = rTexts d := by rw [hR, List.take_of_length_le (by omega)]
    exact ret_pure rfl (by rw [rTextR, hg, hend]; rfl) (.inl rfl)
set_option maxHeartbeats 1000000 in
theorem specRosterText_con (d : List (List Int)) (n : Int) (hd : d.length ≤ 1048576) (hds : ∀ l ∈ d, l.length ≤ 1048576) : Con Tryd.prog 19 [.sl (d.map fun l => V.sl (l.map (V.int .i64))), .int .i64 n] [] (.tup [.str (rTextR d n), .bool (rosterB d n)]) [] := by
 refine v_con [.tmp 4, .tmp 5] [] Tryd.func19 rfl rfl rfl (by simp [Tryd.ntmps19]) ?_
 intro Q0 n0 r0
 simp only [Tryd.ntmps19, envFrom, Nat.reduceAdd]
 have T := Tys.mk (And.intro Ty.t3 (And.intro Ty.t4 (And.intro Ty.t9 (And.intro Ty.t23 Ty.t36))))
 have F := Fc.mk True.intro
 refine v_seqR [0,1] ?_; intro K1 k1
 refine zAssign ⟨?_⟩
 refine zAssign ⟨?_⟩
 refine k1 _ ?_
 refine zk ⟨?_⟩
 refine v_seq ?_; intro Q2 n2 e2 r2
 refine v_seqR [0,14] ?_; intro K3 k3
 refine zMove ⟨?_⟩
 refine zMove ⟨?_⟩
 refine zc (duRoster_con d n hd hds) ⟨?_⟩
 refine zUnOp ⟨?_⟩
 refine k3 _ ?_
 refine zk ⟨?_⟩
 refine v_condS _ rfl ?_ ?_
 ·intro hc0
  refine v_seqR [4,5] ?_; intro K5 k5
  refine zAssign ⟨?_⟩
  refine zAssign ⟨?_⟩
  refine k5 _ ?_
  refine zk ⟨?_⟩
  refine v_ret ?_
  refine r2 _ ?_
  refine r0 _ ?_
  refine zf ⟨?_⟩
  exact ret_pure rfl (by rw [rTextR, hc0]; rfl) (.inl rfl)
 ·intro hc0
  have hg : rosterB d n = true := hc0
  have hll : d.length ≤ 21 := roster_len hg
  refine v_skip ?_
  refine n2 _ _ (weak_keep [0] _) ?_
  refine zk ⟨?_⟩
  refine v_seqR [0,6] ?_; intro K6 k6
  refine zAssign ⟨?_⟩
  refine k6 _ ?_
  refine zk ⟨?_⟩
  refine v_seq ?_; intro Q7 n7 e7 r7
  refine v_seqR [6,15,16,17] ?_; intro K8 k8
  refine zMove ⟨?_⟩
  refine zLen ⟨?_⟩
  refine zMove ⟨?_⟩
  refine k8 _ ?_
  refine zk ⟨?_⟩
  refine v_block ?_; intro Q9 n9 x9 e9 r9
  refine v_loop (fun p => ⟨[(6, .str p.2), (15, .sl (d.map fun l => V.sl (l.map (V.int .i64)))), (16, .int .i64 d.length), (17, .int .i64 (Nat.cast p.1))], [], false, 36, 0⟩) (fun p => p.1 ≤ d.length ∧ p.2.size ≤ 9437200 * p.1 ∧ p.2 = rTexts (d.take p.1)) (fun p => d.length - p.1) ((0, .empty) : Nat × ByteArray) ?_ ?_ ?_
  ·refine weak_of [6, 15, 16, 17] ?_
   simp only [keep_mk, keepE_nil, keepE_cons, look_cons, look_nil, Nat.reduceEqDiff, reduceIte]
   rfl
  ·exact ⟨Nat.zero_le _, Nat.le_refl _, rfl⟩
  ·rintro ⟨i, st⟩ hok10 Q10 n10 e10 r10
   obtain ⟨hi1, hsz, hR⟩ := hok10
   simp only [] at hi1 hsz hR ⊢
   refine v_seqR [6,15,16,17,18] ?_; intro K11 k11
   refine zBinOp ⟨?_⟩
   refine k11 _ ?_
   refine zk ⟨?_⟩
   refine v_seq ?_; intro Q12 n12 e12 r12
   refine v_condS _ rfl ?_ ?_
   ·intro hc1
    have hlt : i < d.length := by omega
    obtain ⟨x, hx⟩ : ∃ x, d[i]? = some x := ⟨d[i], List.getElem?_eq_getElem hlt⟩
    have hlx : x.length ≤ 1048576 := hds x (List.mem_of_getElem? hx)
    have hnum := roster_num hg (List.mem_of_getElem? hx)
    have hcs := cat_size hnum
    have hst := rTexts_step hx
    have hz3 : (⟨#[59]⟩ : ByteArray).size = 1 := rfl
    refine v_skip ?_
    refine n12 _ _ (weak_keep [6, 15, 16, 17] _) ?_
    refine zk ⟨?_⟩
    refine v_seq ?_; intro Q14 n14 e14 r14
    refine v_block ?_; intro Q15 n15 x15 e15 r15
    refine v_seqR [6,8,15,16,17] ?_; intro K16 k16
    have F := Fc.mk (And.intro (fun f => getD_map (f := f) hx) (And.intro @ByteArray.size_append hz3))
    refine zIndexAddr ⟨?_⟩
    refine zLoad ⟨?_⟩
    refine zAssign ⟨?_⟩
    refine k16 _ ?_
    refine zk ⟨?_⟩
    refine v_seq ?_; intro Q17 n17 e17 r17
    refine v_seqR [6,15,16,17,21,22,23] ?_; intro K18 k18
    refine zMove ⟨?_⟩
    refine zLen ⟨?_⟩
    refine zMove ⟨?_⟩
    refine k18 _ ?_
    refine zk ⟨?_⟩
    refine v_block ?_; intro Q19 n19 x19 e19 r19
    refine v_loop (fun q => ⟨[(6, .str q.2), (15, .sl (d.map fun l => V.sl (l.map (V.int .i64)))), (16, .int .i64 d.length), (17, .int .i64 (Nat.cast i)), (21, .sl (x.map (V.int .i64))), (22, .int .i64 x.length), (23, .int .i64 (Nat.cast q.1))], [], false, 36, 0⟩) (fun q => q.1 ≤ x.length ∧ q.2.size ≤ st.size + 9 * q.1 ∧ q.2 = st ++ catB (numS (x.take q.1))) (fun q => x.length - q.1) ((0, st) : Nat × ByteArray) ?_ ?_ ?_
    ·refine weak_of [6, 15, 16, 17, 21, 22, 23] ?_
     simp only [keep_mk, keepE_nil, keepE_cons, look_cons, look_nil, Nat.reduceEqDiff, reduceIte]
     rfl
    ·exact ⟨Nat.zero_le _, Nat.le_refl _, by show st = st ++ ByteArray.empty; rw [ByteArray.append_empty]⟩
    ·rintro ⟨j, s2⟩ hok20 Q20 n20 e20 r20
     obtain ⟨hj1, hs2, hS⟩ := hok20
     simp only [] at hj1 hs2 hS ⊢
     refine v_seqR [6,15,16,17,21,22,23,24] ?_; intro K21 k21
     refine zBinOp ⟨?_⟩
     refine k21 _ ?_
     refine zk ⟨?_⟩
     refine v_seq ?_; intro Q22 n22 e22 r22
     refine v_condS _ rfl ?_ ?_
     ·intro hc2
      have hlj : j < x.length := by omega
      obtain ⟨y, hy⟩ : ∃ y, x[j]? = some y := ⟨x[j], List.getElem?_eq_getElem hlj⟩
      have hyn := hnum y (List.mem_of_getElem? hy)
      have hys := numB_size 9 y.toNat (by omega) (by omega)
      have hct := cat_step hy
      refine v_skip ?_
      refine n22 _ _ (weak_keep [6, 15, 16, 17, 21, 22, 23] _) ?_
      refine zk ⟨?_⟩
      refine v_seq ?_; intro Q24 n24 e24 r24
      refine v_block ?_; intro Q25 n25 x25 e25 r25
      refine v_seqR [6,10,15,16,17,21,22,23] ?_; intro K26 k26
      have F := Fc.mk (And.intro (fun f => getD_map (f := f) hx) (And.intro @ByteArray.size_append (And.intro hz3 (fun f => getD_map (f := f) hy))))
      refine zIndexAddr ⟨?_⟩
      refine zLoad ⟨?_⟩
      refine zAssign ⟨?_⟩
      refine k26 _ ?_
      refine zk ⟨?_⟩
      refine v_region ?_; intro K27 k27
      refine zMove ⟨?_⟩
      refine zMove ⟨?_⟩
      refine zc (l1Num_con y hyn) ⟨?_⟩
      refine zBinOpW ⟨?_⟩
      refine zAssign ⟨?_⟩
      refine k27 _ ?_
      refine n25 _ ?_
      refine n24 _ _ (weak_keep [6, 15, 16, 17, 21, 22, 23] _) ?_
      refine zk ⟨?_⟩
      refine v_region ?_; intro K28 k28
      refine zBinOpW ⟨?_⟩
      refine zMove ⟨?_⟩
      refine k28 _ ?_
      refine n20 _ (j + 1, s2 ++ numB y.toNat) ?_ ?_ ?_
      ·refine weak_bothS [6, 15, 16, 17, 21, 22, 23] [] ⟨?_⟩
       rfl
      ·exact ⟨hlj, by show ByteArray.size (s2 ++ _) ≤ st.size + 9 * (j + 1); rw [ByteArray.size_append]; omega, by show s2 ++ _ = _; rw [hct, hS, ByteArray.append_assoc]⟩
      ·show _ < _; show x.length - (j + 1) < x.length - j; omega
     ·intro hc2
      have hje : s2 = st ++ catB (numS x) := by rw [hS, List.take_of_length_le (by omega)]
      refine v_exit ?_
      refine e22 _ _ ?_
      refine e20 _ _ ?_
      refine x19 _ ?_
      refine n17 _ _ (weak_keep [6, 15, 16, 17] _) ?_
      refine zk ⟨?_⟩
      refine v_region ?_; intro K29 k29
      refine zMove ⟨?_⟩
      refine zBinOpW ⟨?_⟩
      refine zAssign ⟨?_⟩
      refine k29 _ ?_
      refine n15 _ ?_
      refine n14 _ _ (weak_keep [6, 15, 16, 17] _) ?_
      refine zk ⟨?_⟩
      refine v_region ?_; intro K30 k30
      refine zBinOpW ⟨?_⟩
      refine zMove ⟨?_⟩
      refine k30 _ ?_
      refine n10 _ (i + 1, s2 ++ (⟨#[59]⟩ : ByteArray)) ?_ ?_ ?_
      ·refine weak_bothS [6, 15, 16, 17] [] ⟨?_⟩
       rfl
      ·exact ⟨hlt, by show ByteArray.size (_ ++ _) ≤ 9437200 * (i + 1); simp only [hje, ByteArray.size_append, hz3]; omega, by show _ ++ _ = _; rw [hst, ← hR, rStep, hje]⟩
      ·show _ < _; show d.length - (i + 1) < d.length - i; omega
   ·intro hc1
    refine v_exit ?_
    refine e12 _ _ ?_
    refine e10 _ _ ?_
    refine x9 _ ?_
    refine n7 _ _ (weak_keep [6] _) ?_
    refine zk ⟨?_⟩
    refine v_seqR [4,5] ?_; intro K31 k31
    refine zMove ⟨?_⟩
    refine zAssign ⟨?_⟩
    refine zAssign ⟨?_⟩
    refine k31 _ ?_
    refine zk ⟨?_⟩
    refine v_ret ?_
    refine r0 _ ?_
    refine zf ⟨?_⟩
    have hend : st = rTexts d := by rw [hR, List.take_of_length_le (by omega)]
    exact ret_pure rfl (by rw [rTextR, hg, hend]; rfl) (.inl rfl)
end Go.Proofs.YtbameklegpgkfaaDoor
