/- What functions compute (Incs). No condition. -/
import Derived.Test.YtdgenniiidgimaaTy
import Derived.Test.YtdgenniiidgimaaVmG
import Derived.Test.YtdgenniiidgimaaWInc
import Derived.Test.YtdgenniiidgimaaWHas
import Derived.Test.YtdgenniiidgimaaWHasS
set_option linter.unusedSimpArgs false
set_option linter.unusedVariables false
set_option linter.defProp false
namespace Go.Proofs.Ytdgenniiidgimaa
open Go Go.Vm

set_option maxRecDepth 8000 in
set_option maxHeartbeats 1000000 in
theorem areIncidents_con (l : List (Int × Int × Bool × List ByteArray)) (hl : l.length ≤ 1048576) (hli : ∀ x ∈ l, x.2.2.2.length ≤ 1048576) (hls : ∀ x ∈ l, ∀ s ∈ x.2.2.2, s.size ≤ 9223372036854775807) : Con Try.prog 190 [.sl (l.map (fun t : Int × Int × Bool × List ByteArray => V.agg [V.int .i64 t.1, V.int .i64 t.2.1, V.bool t.2.2.1, V.sl (t.2.2.2.map V.str)]))] [] (.bool (incsB l)) [] := by
 refine v_con [.tmp 2] [] Try.func190 rfl rfl rfl (by simp [Try.ntmps190]) ?_
 intro Q0 n0 r0
 simp only [Try.ntmps190, envFrom, Nat.reduceAdd]
 have T := Tys.mk (And.intro Ty.t3 (And.intro Ty.t4 (And.intro Ty.t9 (And.intro Ty.t84 (And.intro Ty.t93 Ty.t192)))))
 have F := Fc.mk True.intro
 refine v_seq ?_; intro Q1 n1 e1 r1
 refine v_region ?_; intro K2 k2
 refine zAssign ⟨?_⟩
 refine k2 _ ?_
 refine n1 _ _ (weak_keep [0] _) ?_
 refine zk ⟨?_⟩
 refine v_seq ?_; intro Q3 n3 e3 r3
 refine v_seq ?_; intro Q4 n4 e4 r4
 refine v_region ?_; intro K5 k5
 refine zMove ⟨?_⟩
 refine zLen ⟨?_⟩
 refine zMove ⟨?_⟩
 refine k5 _ ?_
 refine n4 _ _ (weak_keep [0, 7, 8, 9] _) ?_
 refine zk ⟨?_⟩
 refine v_block ?_; intro Q6 n6 x6 e6 r6
 refine v_loop (fun i => ⟨[(0, .sl (l.map (fun t : Int × Int × Bool × List ByteArray => V.agg [V.int .i64 t.1, V.int .i64 t.2.1, V.bool t.2.2.1, V.sl (t.2.2.2.map V.str)]))), (7, .sl (l.map (fun t : Int × Int × Bool × List ByteArray => V.agg [V.int .i64 t.1, V.int .i64 t.2.1, V.bool t.2.2.1, V.sl (t.2.2.2.map V.str)]))), (8, .int .i64 l.length), (9, .int .i64 (Nat.cast i))], [], false, 50, 0⟩) (fun i => i ≤ l.length ∧ ∀ j, j < i → incP l j = true) (fun i => l.length - i) 0 ?_ ?_ ?_
 ·refine weak_of [0, 7, 8, 9] ?_
  simp only [keep_mk, keepE_nil, keepE_cons, look_cons, look_nil, Nat.reduceEqDiff, reduceIte]
  rfl
 ·exact ⟨Nat.zero_le _, fun j h => absurd h (Nat.not_lt_zero _)⟩
 ·rintro i hok7 Q7 n7 e7 r7
  obtain ⟨hi1, hR⟩ := hok7
  refine v_seq ?_; intro Q8 n8 e8 r8
  refine v_region ?_; intro K9 k9
  refine zBinOp ⟨?_⟩
  refine k9 _ ?_
  refine n8 _ _ (weak_keep [0, 7, 8, 9, 10] _) ?_
  refine zk ⟨?_⟩
  refine v_seq ?_; intro Q10 n10 e10 r10
  refine v_condS _ rfl ?_ ?_
  ·intro hc0
   have hlt : i < l.length := by omega
   obtain ⟨⟨x0, x1, x2, x3⟩, hx⟩ : ∃ x : Int × Int × Bool × List ByteArray, l[i]? = some x := ⟨l[i]'(by omega), List.getElem?_eq_getElem (by omega)⟩
   have hlx := hli _ (List.mem_of_getElem? hx)
   have hsx := hls _ (List.mem_of_getElem? hx)
   simp only [] at hlx hsx
   have hlt1 : (l.take i).length ≤ 1048576 := Nat.le_trans (List.length_take_le ..) (by omega)
   have hlti : (l.take i).length = i := by rw [List.length_take]; omega
   have hmi : ∀ x ∈ l.take i, x.2.2.2.length ≤ 1048576 := fun x h => hli x (List.mem_of_mem_take h)
   have hcl : clashB (l.take i) (x0, x1, x2, x3) = x3.any (fun s => (l.take i).any fun y => inS s y.2.2.2) := rfl
   rcases Nat.eq_zero_or_pos i with h0 | h0
   ·skip
    have hi0 : ¬ ((0 : Int) < (i : Int)) := by omega
    have hpi : incP l i = (incOK (x0, x1, x2, x3) && !clashB (l.take i) (x0, x1, x2, x3)) := by subst h0; exact incP_zero hx
    refine v_skip ?_
    refine n10 _ _ (weak_keep [0, 7, 8, 9] _) ?_
    refine zk ⟨?_⟩
    refine v_seq ?_; intro Q12 n12 e12 r12
    refine v_block ?_; intro Q13 n13 x13 e13 r13
    refine v_seq ?_; intro Q14 n14 e14 r14
    refine v_region ?_; intro K15 k15
    have F := Fc.mk (And.intro (fun f => getD_map (f := f) hx) (And.intro hlti (And.intro hi0 (And.intro @decide_false @Bool.and_false))))
    refine zMove ⟨?_⟩
    refine zIndexAddr ⟨?_⟩
    refine zLoad ⟨?_⟩
    refine zAlloc ⟨?_⟩
    refine zAssign ⟨?_⟩
    refine zStore ⟨?_⟩
    refine k15 _ ?_
    refine n14 _ _ (weak_keep [0, 3, 4, 7, 8, 9] _) ?_
    refine zk ⟨?_⟩
    refine v_seq ?_; intro Q16 n16 e16 r16
    refine v_seq ?_; intro Q17 n17 e17 r17
    refine v_draw (by kernel_rfl) ?_; intro K18 q18 k18
    show aAny _ _ _ _ 18 (Array.replicate 18 false) _
    refine zdLoad q18 true 0 14 ?_
    refine zoc 1 (isIncident_con x0 x1 x2 x3 hsx hlx) ⟨?_⟩
    refine zdUnOp q18 true 2 16 ?_
    refine zdMove q18 true 3 17 ?_
    refine zdgMove q18 true 4 18 ?_
    refine zdgBinOp q18 true 5 19 ?_
    refine zdgMove q18 true 6 20 ?_
    refine zdgMove q18 true 7 21 ?_
    refine zdgMove q18 true 8 22 ?_
    refine zdgBinOpW q18 true 9 23 ?_
    refine zdgIndexAddr q18 true 10 24 ?_
    refine zdgFieldAddr q18 true 11 25 ?_
    refine zdgLoad q18 true 12 26 ?_
    refine zdgFieldAddr q18 true 13 27 ?_
    refine zdgLoad q18 true 14 28 ?_
    refine zdgBinOp q18 true 15 29 ?_
    refine zdgPick q18 true 16 30 ?_
    refine zdPick q18 true 17 31 ?_
    refine aAny_done (by kernel_rfl) ?_
    refine k18 _ ?_
    refine n17 _ _ (weak_keep [0, 3, 4, 7, 8, 9, 31] _) ?_
    refine zk ⟨?_⟩
    refine v_condS _ rfl ?_ ?_
    ·intro hc1
     have hbad : incP l i = false := by
      rw [hpi]
      (try simp at hc1)
      first | (simp [hc1]; done) | (rcases hc1 with h | h <;> first | (simp [h]; done) | (rw [decide_eq_false (show ¬ y0 < x0 by omega)]; simp; done)) | (rcases hc1 with h | h <;> simp [h]; done) | (simp_all; done) | (simp; intros; simp_all; omega)
     refine v_seq ?_; intro Q20 n20 e20 r20
     refine v_region ?_; intro K21 k21
     refine zAssign ⟨?_⟩
     refine k21 _ ?_
     refine n20 _ _ (weak_keep [2] _) ?_
     refine zk ⟨?_⟩
     refine v_ret ?_
     refine r16 _ ?_
     refine r13 _ ?_
     refine r12 _ ?_
     refine r7 _ ?_
     refine r6 _ ?_
     refine r3 _ ?_
     refine r0 _ ?_
     refine zf ⟨?_⟩
     exact ret_pure rfl (by rw [incs_bad hlt hbad]) (.inl rfl)
    ·intro hc1
     have hgd : incP l i = !clashB (l.take i) (x0, x1, x2, x3) := by
      rw [hpi]
      (try simp at hc1)
      first | (simp [hc1]; done) | (simp_all; done) | (simp; intros; simp_all; omega)
     refine v_skip ?_
     refine n16 _ _ (weak_keep [0, 3, 4, 7, 8, 9] _) ?_
     refine zk ⟨?_⟩
     refine v_seq ?_; intro Q22 n22 e22 r22
     refine v_region ?_; intro K23 k23
     refine zFieldAddr ⟨?_⟩
     refine zLoad ⟨?_⟩
     refine zLen ⟨?_⟩
     refine zMove ⟨?_⟩
     refine k23 _ ?_
     refine n22 _ _ (weak_keep [0, 3, 7, 8, 9, 33, 34, 35] _) ?_
     refine zk ⟨?_⟩
     refine v_block ?_; intro Q24 n24 x24 e24 r24
     refine v_loop (fun j => ⟨[(0, .sl (l.map (fun t : Int × Int × Bool × List ByteArray => V.agg [V.int .i64 t.1, V.int .i64 t.2.1, V.bool t.2.2.1, V.sl (t.2.2.2.map V.str)]))), (3, .int .i64 (Nat.cast i)), (7, .sl (l.map (fun t : Int × Int × Bool × List ByteArray => V.agg [V.int .i64 t.1, V.int .i64 t.2.1, V.bool t.2.2.1, V.sl (t.2.2.2.map V.str)]))), (8, .int .i64 l.length), (9, .int .i64 (Nat.cast i)), (33, .sl (x3.map V.str)), (34, .int .i64 x3.length), (35, .int .i64 (Nat.cast j))], [], false, 50, 0⟩) (fun j => j ≤ x3.length ∧ (x3.drop j).any (fun s => (l.take i).any fun y => inS s y.2.2.2) = x3.any (fun s => (l.take i).any fun y => inS s y.2.2.2)) (fun j => x3.length - j) 0 ?_ ?_ ?_
     ·refine weak_bothS [0, 3, 7, 8, 9, 33, 34, 35] [] ⟨?_⟩
      rfl
     ·exact ⟨Nat.zero_le _, rfl⟩
     ·rintro j hok25 Q25 n25 e25 r25
      obtain ⟨hj1, hR2⟩ := hok25
      refine v_seq ?_; intro Q26 n26 e26 r26
      refine v_region ?_; intro K27 k27
      refine zBinOp ⟨?_⟩
      refine k27 _ ?_
      refine n26 _ _ (weak_keep [0, 3, 7, 8, 9, 33, 34, 35, 36] _) ?_
      refine zk ⟨?_⟩
      refine v_seq ?_; intro Q28 n28 e28 r28
      refine v_condS _ rfl ?_ ?_
      ·intro hc2
       have hlj : j < x3.length := by omega
       obtain ⟨s, hs⟩ : ∃ s, x3[j]? = some s := ⟨_, List.getElem?_eq_getElem hlj⟩
       have hst := any_drop (f := (fun s => (l.take i).any fun y => inS s y.2.2.2)) hs
       have hca := comm_any (l.take i) s
       refine v_skip ?_
       refine n28 _ _ (weak_keep [0, 3, 7, 8, 9, 33, 34, 35] _) ?_
       refine zk ⟨?_⟩
       refine v_seq ?_; intro Q30 n30 e30 r30
       refine v_block ?_; intro Q31 n31 x31 e31 r31
       refine v_seq ?_; intro Q32 n32 e32 r32
       refine v_region ?_; intro K33 k33
       have F := Fc.mk (And.intro (fun f => getD_map (f := f) hx) (And.intro hlti (And.intro hi0 (And.intro @decide_false (And.intro @Bool.and_false (fun f => getD_map (f := f) hs))))))
       refine zIndexAddr ⟨?_⟩
       refine zLoad ⟨?_⟩
       refine zAssign ⟨?_⟩
       refine k33 _ ?_
       refine n32 _ _ (weak_keep [0, 3, 6, 7, 8, 9, 33, 34, 35] _) ?_
       refine zk ⟨?_⟩
       refine v_seq ?_; intro Q34 n34 e34 r34
       refine v_region ?_; intro K35 k35
       refine zMove ⟨?_⟩
       refine zMove ⟨?_⟩
       refine zSlice ⟨?_⟩
       refine zMove ⟨?_⟩
       refine zc (committedAt_con (l.take i) s hlt1 hmi) ⟨?_⟩
       refine zBinOp ⟨?_⟩
       refine k35 _ ?_
       refine n34 _ _ (weak_keep [0, 3, 7, 8, 9, 33, 34, 35, 44] _) ?_
       refine zk ⟨?_⟩
       refine v_condS _ rfl ?_ ?_
       ·intro hc3
        have hbad : incP l i = false := by rw [hgd, hcl, ← hR2, hst]; simp only [← hca]; (try simp at hc3); simp [hc3]
        refine v_seq ?_; intro Q37 n37 e37 r37
        refine v_region ?_; intro K38 k38
        refine zAssign ⟨?_⟩
        refine k38 _ ?_
        refine n37 _ _ (weak_keep [2] _) ?_
        refine zk ⟨?_⟩
        refine v_ret ?_
        refine r31 _ ?_
        refine r30 _ ?_
        refine r25 _ ?_
        refine r24 _ ?_
        refine r13 _ ?_
        refine r12 _ ?_
        refine r7 _ ?_
        refine r6 _ ?_
        refine r3 _ ?_
        refine r0 _ ?_
        refine zf ⟨?_⟩
        exact ret_pure rfl (by rw [incs_bad hlt hbad]) (.inl rfl)
       ·intro hc3
        have hno : ((l.take i).any fun y => inS s y.2.2.2) = false := by rw [← hca]; (try simp at hc3); simp; omega
        refine v_skip ?_
        refine n31 _ ?_
        refine n30 _ _ (weak_keep [0, 3, 7, 8, 9, 33, 34, 35] _) ?_
        refine zk ⟨?_⟩
        refine v_region ?_; intro K39 k39
        refine zBinOpW ⟨?_⟩
        refine zMove ⟨?_⟩
        refine k39 _ ?_
        refine n25 _ (j + 1) ?_ ?_ ?_
        ·refine weak_bothS [0, 3, 7, 8, 9, 33, 34, 35] [] ⟨?_⟩
         rfl
        ·exact ⟨by omega, by rw [← hR2, hst]; simp only [hno]; rfl⟩
        ·show _ < _; omega
      ·intro hc2
       have hgood : incP l i = true := by rw [hgd, hcl, ← hR2, any_end (by omega)]; rfl
       refine v_exit ?_
       refine e28 _ _ ?_
       refine e25 _ _ ?_
       refine x24 _ ?_
       refine n13 _ ?_
       refine n12 _ _ (weak_keep [0, 7, 8, 9] _) ?_
       refine zk ⟨?_⟩
       refine v_region ?_; intro K40 k40
       refine zBinOpW ⟨?_⟩
       refine zMove ⟨?_⟩
       refine k40 _ ?_
       refine n7 _ (i + 1) ?_ ?_ ?_
       ·refine weak_bothS [0, 7, 8, 9] [] ⟨?_⟩
        rfl
       ·exact ⟨by omega, upto_step hR hgood⟩
       ·show _ < _; omega
   ·skip
    obtain ⟨⟨y0, y1, y2, y3⟩, hy⟩ : ∃ x : Int × Int × Bool × List ByteArray, l[i - 1]? = some x := ⟨l[i - 1]'(by omega), List.getElem?_eq_getElem (by omega)⟩
    have hi0 : (0 : Int) < i := by omega
    have hk : ((i : Int) - 1).toNat = i - 1 := by omega
    have hpi := incP_succ h0 hy hx
    refine v_skip ?_
    refine n10 _ _ (weak_keep [0, 7, 8, 9] _) ?_
    refine zk ⟨?_⟩
    refine v_seq ?_; intro Q41 n41 e41 r41
    refine v_block ?_; intro Q42 n42 x42 e42 r42
    refine v_seq ?_; intro Q43 n43 e43 r43
    refine v_region ?_; intro K44 k44
    have F := Fc.mk (And.intro (fun f => getD_map (f := f) hx) (And.intro hlti (And.intro hi0 (And.intro hk (And.intro (fun f => getD_map (f := f) hy) (And.intro @decide_true @Bool.and_true))))))
    refine zMove ⟨?_⟩
    refine zIndexAddr ⟨?_⟩
    refine zLoad ⟨?_⟩
    refine zAlloc ⟨?_⟩
    refine zAssign ⟨?_⟩
    refine zStore ⟨?_⟩
    refine k44 _ ?_
    refine n43 _ _ (weak_keep [0, 3, 4, 7, 8, 9] _) ?_
    refine zk ⟨?_⟩
    refine v_seq ?_; intro Q45 n45 e45 r45
    refine v_seq ?_; intro Q46 n46 e46 r46
    refine v_draw (by kernel_rfl) ?_; intro K47 q47 k47
    show aAny _ _ _ _ 18 (Array.replicate 18 false) _
    refine zdLoad q47 true 0 14 ?_
    refine zoc 1 (isIncident_con x0 x1 x2 x3 hsx hlx) ⟨?_⟩
    refine zdUnOp q47 true 2 16 ?_
    refine zdMove q47 true 3 17 ?_
    refine zdgMove q47 true 4 18 ?_
    refine zdgBinOp q47 true 5 19 ?_
    refine zdgMove q47 true 6 20 ?_
    refine zdgMove q47 true 7 21 ?_
    refine zdgMove q47 true 8 22 ?_
    refine zdgBinOpW q47 true 9 23 ?_
    refine zdgIndexAddr q47 true 10 24 ?_
    refine zdgFieldAddr q47 true 11 25 ?_
    refine zdgLoad q47 true 12 26 ?_
    refine zdgFieldAddr q47 true 13 27 ?_
    refine zdgLoad q47 true 14 28 ?_
    refine zdgBinOp q47 true 15 29 ?_
    refine zdgPick q47 true 16 30 ?_
    refine zdPick q47 true 17 31 ?_
    refine aAny_done (by kernel_rfl) ?_
    refine k47 _ ?_
    refine n46 _ _ (weak_keep [0, 3, 4, 7, 8, 9, 31] _) ?_
    refine zk ⟨?_⟩
    refine v_condS _ rfl ?_ ?_
    ·intro hc1
     have hbad : incP l i = false := by
      rw [hpi]
      (try simp at hc1)
      first | (simp [hc1]; done) | (rcases hc1 with h | h <;> first | (simp [h]; done) | (rw [decide_eq_false (show ¬ y0 < x0 by omega)]; simp; done)) | (rcases hc1 with h | h <;> simp [h]; done) | (simp_all; done) | (simp; intros; simp_all; omega)
     refine v_seq ?_; intro Q49 n49 e49 r49
     refine v_region ?_; intro K50 k50
     refine zAssign ⟨?_⟩
     refine k50 _ ?_
     refine n49 _ _ (weak_keep [2] _) ?_
     refine zk ⟨?_⟩
     refine v_ret ?_
     refine r45 _ ?_
     refine r42 _ ?_
     refine r41 _ ?_
     refine r7 _ ?_
     refine r6 _ ?_
     refine r3 _ ?_
     refine r0 _ ?_
     refine zf ⟨?_⟩
     exact ret_pure rfl (by rw [incs_bad hlt hbad]) (.inl rfl)
    ·intro hc1
     have hgd : incP l i = !clashB (l.take i) (x0, x1, x2, x3) := by
      rw [hpi]
      (try simp at hc1)
      first | (simp [hc1]; done) | (simp_all; done) | (simp; intros; simp_all; omega)
     refine v_skip ?_
     refine n45 _ _ (weak_keep [0, 3, 4, 7, 8, 9] _) ?_
     refine zk ⟨?_⟩
     refine v_seq ?_; intro Q51 n51 e51 r51
     refine v_region ?_; intro K52 k52
     refine zFieldAddr ⟨?_⟩
     refine zLoad ⟨?_⟩
     refine zLen ⟨?_⟩
     refine zMove ⟨?_⟩
     refine k52 _ ?_
     refine n51 _ _ (weak_keep [0, 3, 7, 8, 9, 33, 34, 35] _) ?_
     refine zk ⟨?_⟩
     refine v_block ?_; intro Q53 n53 x53 e53 r53
     refine v_loop (fun j => ⟨[(0, .sl (l.map (fun t : Int × Int × Bool × List ByteArray => V.agg [V.int .i64 t.1, V.int .i64 t.2.1, V.bool t.2.2.1, V.sl (t.2.2.2.map V.str)]))), (3, .int .i64 (Nat.cast i)), (7, .sl (l.map (fun t : Int × Int × Bool × List ByteArray => V.agg [V.int .i64 t.1, V.int .i64 t.2.1, V.bool t.2.2.1, V.sl (t.2.2.2.map V.str)]))), (8, .int .i64 l.length), (9, .int .i64 (Nat.cast i)), (33, .sl (x3.map V.str)), (34, .int .i64 x3.length), (35, .int .i64 (Nat.cast j))], [], false, 50, 0⟩) (fun j => j ≤ x3.length ∧ (x3.drop j).any (fun s => (l.take i).any fun y => inS s y.2.2.2) = x3.any (fun s => (l.take i).any fun y => inS s y.2.2.2)) (fun j => x3.length - j) 0 ?_ ?_ ?_
     ·refine weak_bothS [0, 3, 7, 8, 9, 33, 34, 35] [] ⟨?_⟩
      rfl
     ·exact ⟨Nat.zero_le _, rfl⟩
     ·rintro j hok54 Q54 n54 e54 r54
      obtain ⟨hj1, hR2⟩ := hok54
      refine v_seq ?_; intro Q55 n55 e55 r55
      refine v_region ?_; intro K56 k56
      refine zBinOp ⟨?_⟩
      refine k56 _ ?_
      refine n55 _ _ (weak_keep [0, 3, 7, 8, 9, 33, 34, 35, 36] _) ?_
      refine zk ⟨?_⟩
      refine v_seq ?_; intro Q57 n57 e57 r57
      refine v_condS _ rfl ?_ ?_
      ·intro hc2
       have hlj : j < x3.length := by omega
       obtain ⟨s, hs⟩ : ∃ s, x3[j]? = some s := ⟨_, List.getElem?_eq_getElem hlj⟩
       have hst := any_drop (f := (fun s => (l.take i).any fun y => inS s y.2.2.2)) hs
       have hca := comm_any (l.take i) s
       refine v_skip ?_
       refine n57 _ _ (weak_keep [0, 3, 7, 8, 9, 33, 34, 35] _) ?_
       refine zk ⟨?_⟩
       refine v_seq ?_; intro Q59 n59 e59 r59
       refine v_block ?_; intro Q60 n60 x60 e60 r60
       refine v_seq ?_; intro Q61 n61 e61 r61
       refine v_region ?_; intro K62 k62
       have F := Fc.mk (And.intro (fun f => getD_map (f := f) hx) (And.intro hlti (And.intro hi0 (And.intro hk (And.intro (fun f => getD_map (f := f) hy) (And.intro @decide_true (And.intro @Bool.and_true (fun f => getD_map (f := f) hs))))))))
       refine zIndexAddr ⟨?_⟩
       refine zLoad ⟨?_⟩
       refine zAssign ⟨?_⟩
       refine k62 _ ?_
       refine n61 _ _ (weak_keep [0, 3, 6, 7, 8, 9, 33, 34, 35] _) ?_
       refine zk ⟨?_⟩
       refine v_seq ?_; intro Q63 n63 e63 r63
       refine v_region ?_; intro K64 k64
       refine zMove ⟨?_⟩
       refine zMove ⟨?_⟩
       refine zSlice ⟨?_⟩
       refine zMove ⟨?_⟩
       refine zc (committedAt_con (l.take i) s hlt1 hmi) ⟨?_⟩
       refine zBinOp ⟨?_⟩
       refine k64 _ ?_
       refine n63 _ _ (weak_keep [0, 3, 7, 8, 9, 33, 34, 35, 44] _) ?_
       refine zk ⟨?_⟩
       refine v_condS _ rfl ?_ ?_
       ·intro hc3
        have hbad : incP l i = false := by rw [hgd, hcl, ← hR2, hst]; simp only [← hca]; (try simp at hc3); simp [hc3]
        refine v_seq ?_; intro Q66 n66 e66 r66
        refine v_region ?_; intro K67 k67
        refine zAssign ⟨?_⟩
        refine k67 _ ?_
        refine n66 _ _ (weak_keep [2] _) ?_
        refine zk ⟨?_⟩
        refine v_ret ?_
        refine r60 _ ?_
        refine r59 _ ?_
        refine r54 _ ?_
        refine r53 _ ?_
        refine r42 _ ?_
        refine r41 _ ?_
        refine r7 _ ?_
        refine r6 _ ?_
        refine r3 _ ?_
        refine r0 _ ?_
        refine zf ⟨?_⟩
        exact ret_pure rfl (by rw [incs_bad hlt hbad]) (.inl rfl)
       ·intro hc3
        have hno : ((l.take i).any fun y => inS s y.2.2.2) = false := by rw [← hca]; (try simp at hc3); simp; omega
        refine v_skip ?_
        refine n60 _ ?_
        refine n59 _ _ (weak_keep [0, 3, 7, 8, 9, 33, 34, 35] _) ?_
        refine zk ⟨?_⟩
        refine v_region ?_; intro K68 k68
        refine zBinOpW ⟨?_⟩
        refine zMove ⟨?_⟩
        refine k68 _ ?_
        refine n54 _ (j + 1) ?_ ?_ ?_
        ·refine weak_bothS [0, 3, 7, 8, 9, 33, 34, 35] [] ⟨?_⟩
         rfl
        ·exact ⟨by omega, by rw [← hR2, hst]; simp only [hno]; rfl⟩
        ·show _ < _; omega
      ·intro hc2
       have hgood : incP l i = true := by rw [hgd, hcl, ← hR2, any_end (by omega)]; rfl
       refine v_exit ?_
       refine e57 _ _ ?_
       refine e54 _ _ ?_
       refine x53 _ ?_
       refine n42 _ ?_
       refine n41 _ _ (weak_keep [0, 7, 8, 9] _) ?_
       refine zk ⟨?_⟩
       refine v_region ?_; intro K69 k69
       refine zBinOpW ⟨?_⟩
       refine zMove ⟨?_⟩
       refine k69 _ ?_
       refine n7 _ (i + 1) ?_ ?_ ?_
       ·refine weak_bothS [0, 7, 8, 9] [] ⟨?_⟩
        rfl
       ·exact ⟨by omega, upto_step hR hgood⟩
       ·show _ < _; omega
  ·intro hc0
   refine v_exit ?_
   refine e10 _ _ ?_
   refine e7 _ _ ?_
   refine x6 _ ?_
   refine n3 _ _ (weak_keep [0] _) ?_
   refine zk ⟨?_⟩
   refine v_seq ?_; intro Q70 n70 e70 r70
   refine v_region ?_; intro K71 k71
   refine zMove ⟨?_⟩
   refine zLen ⟨?_⟩
   refine zBinOp ⟨?_⟩
   refine zAssign ⟨?_⟩
   refine k71 _ ?_
   refine n70 _ _ (weak_keep [2] _) ?_
   refine zk ⟨?_⟩
   refine v_ret ?_
   refine r0 _ ?_
   refine zf ⟨?_⟩
   exact ret_pure rfl (by rw [incs_good (by omega) hR]) (.inl rfl)
set_option maxRecDepth 8000 in
set_option maxHeartbeats 1000000 in
theorem ixGood_con (l : List (Int × Int × Bool × List ByteArray)) (hl : l.length ≤ 1048576) (hli : ∀ x ∈ l, x.2.2.2.length ≤ 1048576) (hls : ∀ x ∈ l, ∀ s ∈ x.2.2.2, s.size ≤ 9223372036854775807) : Con Try.prog 183 [.sl (l.map (fun t : Int × Int × Bool × List ByteArray => V.agg [V.int .i64 t.1, V.int .i64 t.2.1, V.bool t.2.2.1, V.sl (t.2.2.2.map V.str)]))] [] (.bool (incsB l)) [] := by
 refine v_con [.tmp 2] [] Try.func183 rfl rfl rfl (by simp [Try.ntmps183]) ?_
 intro Q0 n0 r0
 simp only [Try.ntmps183, envFrom, Nat.reduceAdd]
 have T := Tys.mk (And.intro Ty.t3 (And.intro Ty.t4 (And.intro Ty.t9 (And.intro Ty.t84 (And.intro Ty.t93 Ty.t192)))))
 have F := Fc.mk True.intro
 refine v_seq ?_; intro Q1 n1 e1 r1
 refine v_region ?_; intro K2 k2
 refine zAssign ⟨?_⟩
 refine k2 _ ?_
 refine n1 _ _ (weak_keep [0] _) ?_
 refine zk ⟨?_⟩
 refine v_seq ?_; intro Q3 n3 e3 r3
 refine v_seq ?_; intro Q4 n4 e4 r4
 refine v_region ?_; intro K5 k5
 refine zMove ⟨?_⟩
 refine zLen ⟨?_⟩
 refine zMove ⟨?_⟩
 refine k5 _ ?_
 refine n4 _ _ (weak_keep [0, 9, 10, 11] _) ?_
 refine zk ⟨?_⟩
 refine v_block ?_; intro Q6 n6 x6 e6 r6
 refine v_loop (fun i => ⟨[(0, .sl (l.map (fun t : Int × Int × Bool × List ByteArray => V.agg [V.int .i64 t.1, V.int .i64 t.2.1, V.bool t.2.2.1, V.sl (t.2.2.2.map V.str)]))), (9, .sl (l.map (fun t : Int × Int × Bool × List ByteArray => V.agg [V.int .i64 t.1, V.int .i64 t.2.1, V.bool t.2.2.1, V.sl (t.2.2.2.map V.str)]))), (10, .int .i64 l.length), (11, .int .i64 (Nat.cast i))], [], false, 59, 0⟩) (fun i => i ≤ l.length ∧ ∀ j, j < i → incP l j = true) (fun i => l.length - i) 0 ?_ ?_ ?_
 ·refine weak_of [0, 9, 10, 11] ?_
  simp only [keep_mk, keepE_nil, keepE_cons, look_cons, look_nil, Nat.reduceEqDiff, reduceIte]
  rfl
 ·exact ⟨Nat.zero_le _, fun j h => absurd h (Nat.not_lt_zero _)⟩
 ·rintro i hok7 Q7 n7 e7 r7
  obtain ⟨hi1, hR⟩ := hok7
  refine v_seq ?_; intro Q8 n8 e8 r8
  refine v_region ?_; intro K9 k9
  refine zBinOp ⟨?_⟩
  refine k9 _ ?_
  refine n8 _ _ (weak_keep [0, 9, 10, 11, 12] _) ?_
  refine zk ⟨?_⟩
  refine v_seq ?_; intro Q10 n10 e10 r10
  refine v_condS _ rfl ?_ ?_
  ·intro hc0
   have hlt : i < l.length := by omega
   obtain ⟨⟨x0, x1, x2, x3⟩, hx⟩ : ∃ x : Int × Int × Bool × List ByteArray, l[i]? = some x := ⟨l[i]'(by omega), List.getElem?_eq_getElem (by omega)⟩
   have hlx := hli _ (List.mem_of_getElem? hx)
   have hsx := hls _ (List.mem_of_getElem? hx)
   simp only [] at hlx hsx
   have hlt1 : (l.take i).length ≤ 1048576 := Nat.le_trans (List.length_take_le ..) (by omega)
   have hlti : (l.take i).length = i := by rw [List.length_take]; omega
   have hmi : ∀ x ∈ l.take i, x.2.2.2.length ≤ 1048576 := fun x h => hli x (List.mem_of_mem_take h)
   have hcl : clashB (l.take i) (x0, x1, x2, x3) = x3.any (fun s => (l.take i).any fun y => inS s y.2.2.2) := rfl
   have hcl2 : clashB (l.take i) (x0, x1, x2, x3) = (l.take i).any (fun y : (Int × Int × Bool × List ByteArray) => x3.any fun s => inS s y.2.2.2) := by rw [hcl]; exact any_swap (fun s (y : (Int × Int × Bool × List ByteArray)) => inS s y.2.2.2) x3 (l.take i)
   rcases Nat.eq_zero_or_pos i with h0 | h0
   ·skip
    have hi0 : ¬ ((0 : Int) < (i : Int)) := by omega
    have hpi : incP l i = (incOK (x0, x1, x2, x3) && !clashB (l.take i) (x0, x1, x2, x3)) := by subst h0; exact incP_zero hx
    refine v_skip ?_
    refine n10 _ _ (weak_keep [0, 9, 10, 11] _) ?_
    refine zk ⟨?_⟩
    refine v_seq ?_; intro Q12 n12 e12 r12
    refine v_block ?_; intro Q13 n13 x13 e13 r13
    refine v_seq ?_; intro Q14 n14 e14 r14
    refine v_region ?_; intro K15 k15
    have F := Fc.mk (And.intro (fun f => getD_map (f := f) hx) (And.intro hlti (And.intro hi0 (And.intro @decide_false @Bool.and_false))))
    refine zMove ⟨?_⟩
    refine zIndexAddr ⟨?_⟩
    refine zLoad ⟨?_⟩
    refine zAlloc ⟨?_⟩
    refine zAssign ⟨?_⟩
    refine zStore ⟨?_⟩
    refine k15 _ ?_
    refine n14 _ _ (weak_keep [0, 3, 4, 9, 10, 11] _) ?_
    refine zk ⟨?_⟩
    refine v_seq ?_; intro Q16 n16 e16 r16
    refine v_seq ?_; intro Q17 n17 e17 r17
    refine v_draw (by kernel_rfl) ?_; intro K18 q18 k18
    show aAny _ _ _ _ 18 (Array.replicate 18 false) _
    refine zdLoad q18 true 0 16 ?_
    refine zoc 1 (ixOne_con x0 x1 x2 x3 hsx hlx) ⟨?_⟩
    refine zdUnOp q18 true 2 18 ?_
    refine zdMove q18 true 3 19 ?_
    refine zdgMove q18 true 4 20 ?_
    refine zdgBinOp q18 true 5 21 ?_
    refine zdgMove q18 true 6 22 ?_
    refine zdgMove q18 true 7 23 ?_
    refine zdgMove q18 true 8 24 ?_
    refine zdgBinOpW q18 true 9 25 ?_
    refine zdgIndexAddr q18 true 10 26 ?_
    refine zdgFieldAddr q18 true 11 27 ?_
    refine zdgLoad q18 true 12 28 ?_
    refine zdgFieldAddr q18 true 13 29 ?_
    refine zdgLoad q18 true 14 30 ?_
    refine zdgBinOp q18 true 15 31 ?_
    refine zdgPick q18 true 16 32 ?_
    refine zdPick q18 true 17 33 ?_
    refine aAny_done (by kernel_rfl) ?_
    refine k18 _ ?_
    refine n17 _ _ (weak_keep [0, 3, 4, 9, 10, 11, 33] _) ?_
    refine zk ⟨?_⟩
    refine v_condS _ rfl ?_ ?_
    ·intro hc1
     have hbad : incP l i = false := by
      rw [hpi]
      (try simp at hc1)
      first | (simp [hc1]; done) | (rcases hc1 with h | h <;> first | (simp [h]; done) | (rw [decide_eq_false (show ¬ y0 < x0 by omega)]; simp; done)) | (rcases hc1 with h | h <;> simp [h]; done) | (simp_all; done) | (simp; intros; simp_all; omega)
     refine v_seq ?_; intro Q20 n20 e20 r20
     refine v_region ?_; intro K21 k21
     refine zAssign ⟨?_⟩
     refine k21 _ ?_
     refine n20 _ _ (weak_keep [2] _) ?_
     refine zk ⟨?_⟩
     refine v_ret ?_
     refine r16 _ ?_
     refine r13 _ ?_
     refine r12 _ ?_
     refine r7 _ ?_
     refine r6 _ ?_
     refine r3 _ ?_
     refine r0 _ ?_
     refine zf ⟨?_⟩
     exact ret_pure rfl (by rw [incs_bad hlt hbad]) (.inl rfl)
    ·intro hc1
     have hgd : incP l i = !clashB (l.take i) (x0, x1, x2, x3) := by
      rw [hpi]
      (try simp at hc1)
      first | (simp [hc1]; done) | (simp_all; done) | (simp; intros; simp_all; omega)
     refine v_skip ?_
     refine n16 _ _ (weak_keep [0, 3, 4, 9, 10, 11] _) ?_
     refine zk ⟨?_⟩
     refine v_seq ?_; intro Q22 n22 e22 r22
     refine v_region ?_; intro K23 k23
     refine zMove ⟨?_⟩
     refine zMove ⟨?_⟩
     refine zSlice ⟨?_⟩
     refine zLen ⟨?_⟩
     refine zMove ⟨?_⟩
     refine k23 _ ?_
     refine n22 _ _ (weak_keep [0, 4, 9, 10, 11, 36, 37, 38] _) ?_
     refine zk ⟨?_⟩
     refine v_block ?_; intro Q24 n24 x24 e24 r24
     refine v_loop (fun j => ⟨[(0, .sl (l.map (fun t : Int × Int × Bool × List ByteArray => V.agg [V.int .i64 t.1, V.int .i64 t.2.1, V.bool t.2.2.1, V.sl (t.2.2.2.map V.str)]))), (4, .ptr 0 0 0), (9, .sl (l.map (fun t : Int × Int × Bool × List ByteArray => V.agg [V.int .i64 t.1, V.int .i64 t.2.1, V.bool t.2.2.1, V.sl (t.2.2.2.map V.str)]))), (10, .int .i64 l.length), (11, .int .i64 (Nat.cast i)), (36, .sl ((l.take i).map (fun t : Int × Int × Bool × List ByteArray => V.agg [V.int .i64 t.1, V.int .i64 t.2.1, V.bool t.2.2.1, V.sl (t.2.2.2.map V.str)]))), (37, .int .i64 (Nat.cast i)), (38, .int .i64 (Nat.cast j))], [.box (.agg [V.int .i64 x0, V.int .i64 x1, V.bool x2, V.sl (x3.map V.str)]) .shal], false, 59, 0⟩) (fun j => j ≤ (l.take i).length ∧ ((l.take i).drop j).any (fun y : (Int × Int × Bool × List ByteArray) => x3.any fun s => inS s y.2.2.2) = (l.take i).any (fun y : (Int × Int × Bool × List ByteArray) => x3.any fun s => inS s y.2.2.2)) (fun j => (l.take i).length - j) 0 ?_ ?_ ?_
     ·refine weak_bothS [0, 4, 9, 10, 11, 36, 37, 38] [1] ⟨?_⟩
      rfl
     ·exact ⟨Nat.zero_le _, rfl⟩
     ·rintro j hok25 Q25 n25 e25 r25
      obtain ⟨hj1, hR2⟩ := hok25
      refine v_seq ?_; intro Q26 n26 e26 r26
      refine v_region ?_; intro K27 k27
      refine zBinOp ⟨?_⟩
      refine k27 _ ?_
      refine n26 _ _ (weak_keep [0, 4, 9, 10, 11, 36, 37, 38, 39] _) ?_
      refine zk ⟨?_⟩
      refine v_seq ?_; intro Q28 n28 e28 r28
      refine v_condS _ rfl ?_ ?_
      ·intro hc2
       have hlj : j < (l.take i).length := by omega
       obtain ⟨⟨z0, z1, z2, z3⟩, hz⟩ : ∃ x : Int × Int × Bool × List ByteArray, (l.take i)[j]? = some x := ⟨(l.take i)[j]'(by omega), List.getElem?_eq_getElem (by omega)⟩
       have hst := any_drop (f := (fun y : (Int × Int × Bool × List ByteArray) => x3.any fun s => inS s y.2.2.2)) hz
       have hlz := hmi _ (List.mem_of_getElem? hz)
       simp only [] at hlz
       refine v_skip ?_
       refine n28 _ _ (weak_keep [0, 4, 9, 10, 11, 36, 37, 38] _) ?_
       refine zk ⟨?_⟩
       refine v_seq ?_; intro Q30 n30 e30 r30
       refine v_block ?_; intro Q31 n31 x31 e31 r31
       refine v_seq ?_; intro Q32 n32 e32 r32
       refine v_region ?_; intro K33 k33
       have F := Fc.mk (And.intro (fun f => getD_map (f := f) hx) (And.intro hlti (And.intro hi0 (And.intro @decide_false (And.intro @Bool.and_false (fun f => getD_map (f := f) hz))))))
       refine zIndexAddr ⟨?_⟩
       refine zLoad ⟨?_⟩
       refine zAlloc ⟨?_⟩
       refine zStore ⟨?_⟩
       refine k33 _ ?_
       refine n32 _ _ (weak_keep [0, 4, 6, 9, 10, 11, 36, 37, 38] _) ?_
       refine zk ⟨?_⟩
       refine v_seq ?_; intro Q34 n34 e34 r34
       refine v_region ?_; intro K35 k35
       refine zFieldAddr ⟨?_⟩
       refine zLoad ⟨?_⟩
       refine zLen ⟨?_⟩
       refine zMove ⟨?_⟩
       refine k35 _ ?_
       refine n34 _ _ (weak_keep [0, 4, 6, 9, 10, 11, 36, 37, 38, 43, 44, 45] _) ?_
       refine zk ⟨?_⟩
       refine v_block ?_; intro Q36 n36 x36 e36 r36
       refine v_loop (fun m => ⟨[(0, .sl (l.map (fun t : Int × Int × Bool × List ByteArray => V.agg [V.int .i64 t.1, V.int .i64 t.2.1, V.bool t.2.2.1, V.sl (t.2.2.2.map V.str)]))), (4, .ptr 0 0 0), (6, .ptr 1 0 0), (9, .sl (l.map (fun t : Int × Int × Bool × List ByteArray => V.agg [V.int .i64 t.1, V.int .i64 t.2.1, V.bool t.2.2.1, V.sl (t.2.2.2.map V.str)]))), (10, .int .i64 l.length), (11, .int .i64 (Nat.cast i)), (36, .sl ((l.take i).map (fun t : Int × Int × Bool × List ByteArray => V.agg [V.int .i64 t.1, V.int .i64 t.2.1, V.bool t.2.2.1, V.sl (t.2.2.2.map V.str)]))), (37, .int .i64 (Nat.cast i)), (38, .int .i64 (Nat.cast j)), (43, .sl (x3.map V.str)), (44, .int .i64 x3.length), (45, .int .i64 (Nat.cast m))], [.box (.agg [V.int .i64 x0, V.int .i64 x1, V.bool x2, V.sl (x3.map V.str)]) .shal, .box (.agg [V.int .i64 z0, V.int .i64 z1, V.bool z2, V.sl (z3.map V.str)]) .shal], false, 59, 0⟩) (fun m => m ≤ x3.length ∧ (x3.drop m).any (fun s => inS s z3) = x3.any fun s => inS s z3) (fun m => x3.length - m) 0 ?_ ?_ ?_
       ·refine weak_bothS [0, 4, 6, 9, 10, 11, 36, 37, 38, 43, 44, 45] [0, 2] ⟨?_⟩
        rfl
       ·exact ⟨Nat.zero_le _, rfl⟩
       ·rintro m hok37 Q37 n37 e37 r37
        obtain ⟨hm1, hR3⟩ := hok37
        refine v_seq ?_; intro Q38 n38 e38 r38
        refine v_region ?_; intro K39 k39
        refine zBinOp ⟨?_⟩
        refine k39 _ ?_
        refine n38 _ _ (weak_keep [0, 4, 6, 9, 10, 11, 36, 37, 38, 43, 44, 45, 46] _) ?_
        refine zk ⟨?_⟩
        refine v_seq ?_; intro Q40 n40 e40 r40
        refine v_condS _ rfl ?_ ?_
        ·intro hc3
         have hlm : m < x3.length := by omega
         obtain ⟨s, hs⟩ : ∃ s, x3[m]? = some s := ⟨_, List.getElem?_eq_getElem hlm⟩
         have hst3 := any_drop (f := fun s => inS s z3) hs
         refine v_skip ?_
         refine n40 _ _ (weak_keep [0, 4, 6, 9, 10, 11, 36, 37, 38, 43, 44, 45] _) ?_
         refine zk ⟨?_⟩
         refine v_seq ?_; intro Q42 n42 e42 r42
         refine v_block ?_; intro Q43 n43 x43 e43 r43
         refine v_seq ?_; intro Q44 n44 e44 r44
         refine v_region ?_; intro K45 k45
         have F := Fc.mk (And.intro (fun f => getD_map (f := f) hx) (And.intro hlti (And.intro hi0 (And.intro @decide_false (And.intro @Bool.and_false (And.intro (fun f => getD_map (f := f) hz) (fun f => getD_map (f := f) hs)))))))
         refine zIndexAddr ⟨?_⟩
         refine zLoad ⟨?_⟩
         refine zAssign ⟨?_⟩
         refine k45 _ ?_
         refine n44 _ _ (weak_keep [0, 4, 6, 8, 9, 10, 11, 36, 37, 38, 43, 44, 45] _) ?_
         refine zk ⟨?_⟩
         refine v_seq ?_; intro Q46 n46 e46 r46
         refine v_region ?_; intro K47 k47
         refine zFieldAddr ⟨?_⟩
         refine zLoad ⟨?_⟩
         refine zMove ⟨?_⟩
         refine zc (dsHas_con z3 s hlz) ⟨?_⟩
         refine k47 _ ?_
         refine n46 _ _ (weak_keep [0, 4, 6, 9, 10, 11, 36, 37, 38, 43, 44, 45, 52] _) ?_
         refine zk ⟨?_⟩
         refine v_condS _ rfl ?_ ?_
         ·intro hc4
          have hbad : incP l i = false := by
           have h3 : (x3.any fun s => inS s z3) = true := by rw [← hR3, hst3]; simp [hc4]
           rw [hgd, hcl2, ← hR2, hst]
           simp only [h3]; rfl
          refine v_seq ?_; intro Q49 n49 e49 r49
          refine v_region ?_; intro K50 k50
          refine zAssign ⟨?_⟩
          refine k50 _ ?_
          refine n49 _ _ (weak_keep [2] _) ?_
          refine zk ⟨?_⟩
          refine v_ret ?_
          refine r43 _ ?_
          refine r42 _ ?_
          refine r37 _ ?_
          refine r36 _ ?_
          refine r31 _ ?_
          refine r30 _ ?_
          refine r25 _ ?_
          refine r24 _ ?_
          refine r13 _ ?_
          refine r12 _ ?_
          refine r7 _ ?_
          refine r6 _ ?_
          refine r3 _ ?_
          refine r0 _ ?_
          refine zf ⟨?_⟩
          exact ret_pure rfl (by rw [incs_bad hlt hbad]) (.inl rfl)
         ·intro hc4
          refine v_skip ?_
          refine n43 _ ?_
          refine n42 _ _ (weak_keep [0, 4, 6, 9, 10, 11, 36, 37, 38, 43, 44, 45] _) ?_
          refine zk ⟨?_⟩
          refine v_region ?_; intro K51 k51
          refine zBinOpW ⟨?_⟩
          refine zMove ⟨?_⟩
          refine k51 _ ?_
          refine n37 _ (m + 1) ?_ ?_ ?_
          ·refine weak_bothS [0, 4, 6, 9, 10, 11, 36, 37, 38, 43, 44, 45] [0, 1] ⟨?_⟩
           rfl
          ·exact ⟨by omega, by rw [← hR3, hst3]; simp [hc4]⟩
          ·show _ < _; omega
        ·intro hc3
         have hno : (x3.any fun s => inS s z3) = false := by rw [← hR3, any_end (by omega)]
         refine v_exit ?_
         refine e40 _ _ ?_
         refine e37 _ _ ?_
         refine x36 _ ?_
         refine n31 _ ?_
         refine n30 _ _ (weak_keep [0, 4, 9, 10, 11, 36, 37, 38] _) ?_
         refine zk ⟨?_⟩
         refine v_region ?_; intro K52 k52
         refine zBinOpW ⟨?_⟩
         refine zMove ⟨?_⟩
         refine k52 _ ?_
         refine n25 _ (j + 1) ?_ ?_ ?_
         ·refine weak_bothS [0, 4, 9, 10, 11, 36, 37, 38] [0] ⟨?_⟩
          rfl
         ·exact ⟨by omega, by rw [← hR2, hst]; simp only [hno]; rfl⟩
         ·show _ < _; show (l.take i).length - (j + 1) < (l.take i).length - j; omega
      ·intro hc2
       have hgood : incP l i = true := by rw [hgd, hcl2, ← hR2, any_end (by omega)]; rfl
       refine v_exit ?_
       refine e28 _ _ ?_
       refine e25 _ _ ?_
       refine x24 _ ?_
       refine n13 _ ?_
       refine n12 _ _ (weak_keep [0, 9, 10, 11] _) ?_
       refine zk ⟨?_⟩
       refine v_region ?_; intro K53 k53
       refine zBinOpW ⟨?_⟩
       refine zMove ⟨?_⟩
       refine k53 _ ?_
       refine n7 _ (i + 1) ?_ ?_ ?_
       ·refine weak_bothS [0, 9, 10, 11] [] ⟨?_⟩
        rfl
       ·exact ⟨by omega, upto_step hR hgood⟩
       ·show _ < _; omega
   ·skip
    obtain ⟨⟨y0, y1, y2, y3⟩, hy⟩ : ∃ x : Int × Int × Bool × List ByteArray, l[i - 1]? = some x := ⟨l[i - 1]'(by omega), List.getElem?_eq_getElem (by omega)⟩
    have hi0 : (0 : Int) < i := by omega
    have hk : ((i : Int) - 1).toNat = i - 1 := by omega
    have hpi := incP_succ h0 hy hx
    refine v_skip ?_
    refine n10 _ _ (weak_keep [0, 9, 10, 11] _) ?_
    refine zk ⟨?_⟩
    refine v_seq ?_; intro Q54 n54 e54 r54
    refine v_block ?_; intro Q55 n55 x55 e55 r55
    refine v_seq ?_; intro Q56 n56 e56 r56
    refine v_region ?_; intro K57 k57
    have F := Fc.mk (And.intro (fun f => getD_map (f := f) hx) (And.intro hlti (And.intro hi0 (And.intro hk (And.intro (fun f => getD_map (f := f) hy) (And.intro @decide_true @Bool.and_true))))))
    refine zMove ⟨?_⟩
    refine zIndexAddr ⟨?_⟩
    refine zLoad ⟨?_⟩
    refine zAlloc ⟨?_⟩
    refine zAssign ⟨?_⟩
    refine zStore ⟨?_⟩
    refine k57 _ ?_
    refine n56 _ _ (weak_keep [0, 3, 4, 9, 10, 11] _) ?_
    refine zk ⟨?_⟩
    refine v_seq ?_; intro Q58 n58 e58 r58
    refine v_seq ?_; intro Q59 n59 e59 r59
    refine v_draw (by kernel_rfl) ?_; intro K60 q60 k60
    show aAny _ _ _ _ 18 (Array.replicate 18 false) _
    refine zdLoad q60 true 0 16 ?_
    refine zoc 1 (ixOne_con x0 x1 x2 x3 hsx hlx) ⟨?_⟩
    refine zdUnOp q60 true 2 18 ?_
    refine zdMove q60 true 3 19 ?_
    refine zdgMove q60 true 4 20 ?_
    refine zdgBinOp q60 true 5 21 ?_
    refine zdgMove q60 true 6 22 ?_
    refine zdgMove q60 true 7 23 ?_
    refine zdgMove q60 true 8 24 ?_
    refine zdgBinOpW q60 true 9 25 ?_
    refine zdgIndexAddr q60 true 10 26 ?_
    refine zdgFieldAddr q60 true 11 27 ?_
    refine zdgLoad q60 true 12 28 ?_
    refine zdgFieldAddr q60 true 13 29 ?_
    refine zdgLoad q60 true 14 30 ?_
    refine zdgBinOp q60 true 15 31 ?_
    refine zdgPick q60 true 16 32 ?_
    refine zdPick q60 true 17 33 ?_
    refine aAny_done (by kernel_rfl) ?_
    refine k60 _ ?_
    refine n59 _ _ (weak_keep [0, 3, 4, 9, 10, 11, 33] _) ?_
    refine zk ⟨?_⟩
    refine v_condS _ rfl ?_ ?_
    ·intro hc1
     have hbad : incP l i = false := by
      rw [hpi]
      (try simp at hc1)
      first | (simp [hc1]; done) | (rcases hc1 with h | h <;> first | (simp [h]; done) | (rw [decide_eq_false (show ¬ y0 < x0 by omega)]; simp; done)) | (rcases hc1 with h | h <;> simp [h]; done) | (simp_all; done) | (simp; intros; simp_all; omega)
     refine v_seq ?_; intro Q62 n62 e62 r62
     refine v_region ?_; intro K63 k63
     refine zAssign ⟨?_⟩
     refine k63 _ ?_
     refine n62 _ _ (weak_keep [2] _) ?_
     refine zk ⟨?_⟩
     refine v_ret ?_
     refine r58 _ ?_
     refine r55 _ ?_
     refine r54 _ ?_
     refine r7 _ ?_
     refine r6 _ ?_
     refine r3 _ ?_
     refine r0 _ ?_
     refine zf ⟨?_⟩
     exact ret_pure rfl (by rw [incs_bad hlt hbad]) (.inl rfl)
    ·intro hc1
     have hgd : incP l i = !clashB (l.take i) (x0, x1, x2, x3) := by
      rw [hpi]
      (try simp at hc1)
      first | (simp [hc1]; done) | (simp_all; done) | (simp; intros; simp_all; omega)
     refine v_skip ?_
     refine n58 _ _ (weak_keep [0, 3, 4, 9, 10, 11] _) ?_
     refine zk ⟨?_⟩
     refine v_seq ?_; intro Q64 n64 e64 r64
     refine v_region ?_; intro K65 k65
     refine zMove ⟨?_⟩
     refine zMove ⟨?_⟩
     refine zSlice ⟨?_⟩
     refine zLen ⟨?_⟩
     refine zMove ⟨?_⟩
     refine k65 _ ?_
     refine n64 _ _ (weak_keep [0, 4, 9, 10, 11, 36, 37, 38] _) ?_
     refine zk ⟨?_⟩
     refine v_block ?_; intro Q66 n66 x66 e66 r66
     refine v_loop (fun j => ⟨[(0, .sl (l.map (fun t : Int × Int × Bool × List ByteArray => V.agg [V.int .i64 t.1, V.int .i64 t.2.1, V.bool t.2.2.1, V.sl (t.2.2.2.map V.str)]))), (4, .ptr 0 0 0), (9, .sl (l.map (fun t : Int × Int × Bool × List ByteArray => V.agg [V.int .i64 t.1, V.int .i64 t.2.1, V.bool t.2.2.1, V.sl (t.2.2.2.map V.str)]))), (10, .int .i64 l.length), (11, .int .i64 (Nat.cast i)), (36, .sl ((l.take i).map (fun t : Int × Int × Bool × List ByteArray => V.agg [V.int .i64 t.1, V.int .i64 t.2.1, V.bool t.2.2.1, V.sl (t.2.2.2.map V.str)]))), (37, .int .i64 (Nat.cast i)), (38, .int .i64 (Nat.cast j))], [.box (.agg [V.int .i64 x0, V.int .i64 x1, V.bool x2, V.sl (x3.map V.str)]) .shal], false, 59, 0⟩) (fun j => j ≤ (l.take i).length ∧ ((l.take i).drop j).any (fun y : (Int × Int × Bool × List ByteArray) => x3.any fun s => inS s y.2.2.2) = (l.take i).any (fun y : (Int × Int × Bool × List ByteArray) => x3.any fun s => inS s y.2.2.2)) (fun j => (l.take i).length - j) 0 ?_ ?_ ?_
     ·refine weak_bothS [0, 4, 9, 10, 11, 36, 37, 38] [1] ⟨?_⟩
      rfl
     ·exact ⟨Nat.zero_le _, rfl⟩
     ·rintro j hok67 Q67 n67 e67 r67
      obtain ⟨hj1, hR2⟩ := hok67
      refine v_seq ?_; intro Q68 n68 e68 r68
      refine v_region ?_; intro K69 k69
      refine zBinOp ⟨?_⟩
      refine k69 _ ?_
      refine n68 _ _ (weak_keep [0, 4, 9, 10, 11, 36, 37, 38, 39] _) ?_
      refine zk ⟨?_⟩
      refine v_seq ?_; intro Q70 n70 e70 r70
      refine v_condS _ rfl ?_ ?_
      ·intro hc2
       have hlj : j < (l.take i).length := by omega
       obtain ⟨⟨z0, z1, z2, z3⟩, hz⟩ : ∃ x : Int × Int × Bool × List ByteArray, (l.take i)[j]? = some x := ⟨(l.take i)[j]'(by omega), List.getElem?_eq_getElem (by omega)⟩
       have hst := any_drop (f := (fun y : (Int × Int × Bool × List ByteArray) => x3.any fun s => inS s y.2.2.2)) hz
       have hlz := hmi _ (List.mem_of_getElem? hz)
       simp only [] at hlz
       refine v_skip ?_
       refine n70 _ _ (weak_keep [0, 4, 9, 10, 11, 36, 37, 38] _) ?_
       refine zk ⟨?_⟩
       refine v_seq ?_; intro Q72 n72 e72 r72
       refine v_block ?_; intro Q73 n73 x73 e73 r73
       refine v_seq ?_; intro Q74 n74 e74 r74
       refine v_region ?_; intro K75 k75
       have F := Fc.mk (And.intro (fun f => getD_map (f := f) hx) (And.intro hlti (And.intro hi0 (And.intro hk (And.intro (fun f => getD_map (f := f) hy) (And.intro @decide_true (And.intro @Bool.and_true (fun f => getD_map (f := f) hz))))))))
       refine zIndexAddr ⟨?_⟩
       refine zLoad ⟨?_⟩
       refine zAlloc ⟨?_⟩
       refine zStore ⟨?_⟩
       refine k75 _ ?_
       refine n74 _ _ (weak_keep [0, 4, 6, 9, 10, 11, 36, 37, 38] _) ?_
       refine zk ⟨?_⟩
       refine v_seq ?_; intro Q76 n76 e76 r76
       refine v_region ?_; intro K77 k77
       refine zFieldAddr ⟨?_⟩
       refine zLoad ⟨?_⟩
       refine zLen ⟨?_⟩
       refine zMove ⟨?_⟩
       refine k77 _ ?_
       refine n76 _ _ (weak_keep [0, 4, 6, 9, 10, 11, 36, 37, 38, 43, 44, 45] _) ?_
       refine zk ⟨?_⟩
       refine v_block ?_; intro Q78 n78 x78 e78 r78
       refine v_loop (fun m => ⟨[(0, .sl (l.map (fun t : Int × Int × Bool × List ByteArray => V.agg [V.int .i64 t.1, V.int .i64 t.2.1, V.bool t.2.2.1, V.sl (t.2.2.2.map V.str)]))), (4, .ptr 0 0 0), (6, .ptr 1 0 0), (9, .sl (l.map (fun t : Int × Int × Bool × List ByteArray => V.agg [V.int .i64 t.1, V.int .i64 t.2.1, V.bool t.2.2.1, V.sl (t.2.2.2.map V.str)]))), (10, .int .i64 l.length), (11, .int .i64 (Nat.cast i)), (36, .sl ((l.take i).map (fun t : Int × Int × Bool × List ByteArray => V.agg [V.int .i64 t.1, V.int .i64 t.2.1, V.bool t.2.2.1, V.sl (t.2.2.2.map V.str)]))), (37, .int .i64 (Nat.cast i)), (38, .int .i64 (Nat.cast j)), (43, .sl (x3.map V.str)), (44, .int .i64 x3.length), (45, .int .i64 (Nat.cast m))], [.box (.agg [V.int .i64 x0, V.int .i64 x1, V.bool x2, V.sl (x3.map V.str)]) .shal, .box (.agg [V.int .i64 z0, V.int .i64 z1, V.bool z2, V.sl (z3.map V.str)]) .shal], false, 59, 0⟩) (fun m => m ≤ x3.length ∧ (x3.drop m).any (fun s => inS s z3) = x3.any fun s => inS s z3) (fun m => x3.length - m) 0 ?_ ?_ ?_
       ·refine weak_bothS [0, 4, 6, 9, 10, 11, 36, 37, 38, 43, 44, 45] [0, 2] ⟨?_⟩
        rfl
       ·exact ⟨Nat.zero_le _, rfl⟩
       ·rintro m hok79 Q79 n79 e79 r79
        obtain ⟨hm1, hR3⟩ := hok79
        refine v_seq ?_; intro Q80 n80 e80 r80
        refine v_region ?_; intro K81 k81
        refine zBinOp ⟨?_⟩
        refine k81 _ ?_
        refine n80 _ _ (weak_keep [0, 4, 6, 9, 10, 11, 36, 37, 38, 43, 44, 45, 46] _) ?_
        refine zk ⟨?_⟩
        refine v_seq ?_; intro Q82 n82 e82 r82
        refine v_condS _ rfl ?_ ?_
        ·intro hc3
         have hlm : m < x3.length := by omega
         obtain ⟨s, hs⟩ : ∃ s, x3[m]? = some s := ⟨_, List.getElem?_eq_getElem hlm⟩
         have hst3 := any_drop (f := fun s => inS s z3) hs
         refine v_skip ?_
         refine n82 _ _ (weak_keep [0, 4, 6, 9, 10, 11, 36, 37, 38, 43, 44, 45] _) ?_
         refine zk ⟨?_⟩
         refine v_seq ?_; intro Q84 n84 e84 r84
         refine v_block ?_; intro Q85 n85 x85 e85 r85
         refine v_seq ?_; intro Q86 n86 e86 r86
         refine v_region ?_; intro K87 k87
         have F := Fc.mk (And.intro (fun f => getD_map (f := f) hx) (And.intro hlti (And.intro hi0 (And.intro hk (And.intro (fun f => getD_map (f := f) hy) (And.intro @decide_true (And.intro @Bool.and_true (And.intro (fun f => getD_map (f := f) hz) (fun f => getD_map (f := f) hs)))))))))
         refine zIndexAddr ⟨?_⟩
         refine zLoad ⟨?_⟩
         refine zAssign ⟨?_⟩
         refine k87 _ ?_
         refine n86 _ _ (weak_keep [0, 4, 6, 8, 9, 10, 11, 36, 37, 38, 43, 44, 45] _) ?_
         refine zk ⟨?_⟩
         refine v_seq ?_; intro Q88 n88 e88 r88
         refine v_region ?_; intro K89 k89
         refine zFieldAddr ⟨?_⟩
         refine zLoad ⟨?_⟩
         refine zMove ⟨?_⟩
         refine zc (dsHas_con z3 s hlz) ⟨?_⟩
         refine k89 _ ?_
         refine n88 _ _ (weak_keep [0, 4, 6, 9, 10, 11, 36, 37, 38, 43, 44, 45, 52] _) ?_
         refine zk ⟨?_⟩
         refine v_condS _ rfl ?_ ?_
         ·intro hc4
          have hbad : incP l i = false := by
           have h3 : (x3.any fun s => inS s z3) = true := by rw [← hR3, hst3]; simp [hc4]
           rw [hgd, hcl2, ← hR2, hst]
           simp only [h3]; rfl
          refine v_seq ?_; intro Q91 n91 e91 r91
          refine v_region ?_; intro K92 k92
          refine zAssign ⟨?_⟩
          refine k92 _ ?_
          refine n91 _ _ (weak_keep [2] _) ?_
          refine zk ⟨?_⟩
          refine v_ret ?_
          refine r85 _ ?_
          refine r84 _ ?_
          refine r79 _ ?_
          refine r78 _ ?_
          refine r73 _ ?_
          refine r72 _ ?_
          refine r67 _ ?_
          refine r66 _ ?_
          refine r55 _ ?_
          refine r54 _ ?_
          refine r7 _ ?_
          refine r6 _ ?_
          refine r3 _ ?_
          refine r0 _ ?_
          refine zf ⟨?_⟩
          exact ret_pure rfl (by rw [incs_bad hlt hbad]) (.inl rfl)
         ·intro hc4
          refine v_skip ?_
          refine n85 _ ?_
          refine n84 _ _ (weak_keep [0, 4, 6, 9, 10, 11, 36, 37, 38, 43, 44, 45] _) ?_
          refine zk ⟨?_⟩
          refine v_region ?_; intro K93 k93
          refine zBinOpW ⟨?_⟩
          refine zMove ⟨?_⟩
          refine k93 _ ?_
          refine n79 _ (m + 1) ?_ ?_ ?_
          ·refine weak_bothS [0, 4, 6, 9, 10, 11, 36, 37, 38, 43, 44, 45] [0, 1] ⟨?_⟩
           rfl
          ·exact ⟨by omega, by rw [← hR3, hst3]; simp [hc4]⟩
          ·show _ < _; omega
        ·intro hc3
         have hno : (x3.any fun s => inS s z3) = false := by rw [← hR3, any_end (by omega)]
         refine v_exit ?_
         refine e82 _ _ ?_
         refine e79 _ _ ?_
         refine x78 _ ?_
         refine n73 _ ?_
         refine n72 _ _ (weak_keep [0, 4, 9, 10, 11, 36, 37, 38] _) ?_
         refine zk ⟨?_⟩
         refine v_region ?_; intro K94 k94
         refine zBinOpW ⟨?_⟩
         refine zMove ⟨?_⟩
         refine k94 _ ?_
         refine n67 _ (j + 1) ?_ ?_ ?_
         ·refine weak_bothS [0, 4, 9, 10, 11, 36, 37, 38] [0] ⟨?_⟩
          rfl
         ·exact ⟨by omega, by rw [← hR2, hst]; simp only [hno]; rfl⟩
         ·show _ < _; show (l.take i).length - (j + 1) < (l.take i).length - j; omega
      ·intro hc2
       have hgood : incP l i = true := by rw [hgd, hcl2, ← hR2, any_end (by omega)]; rfl
       refine v_exit ?_
       refine e70 _ _ ?_
       refine e67 _ _ ?_
       refine x66 _ ?_
       refine n55 _ ?_
       refine n54 _ _ (weak_keep [0, 9, 10, 11] _) ?_
       refine zk ⟨?_⟩
       refine v_region ?_; intro K95 k95
       refine zBinOpW ⟨?_⟩
       refine zMove ⟨?_⟩
       refine k95 _ ?_
       refine n7 _ (i + 1) ?_ ?_ ?_
       ·refine weak_bothS [0, 9, 10, 11] [] ⟨?_⟩
        rfl
       ·exact ⟨by omega, upto_step hR hgood⟩
       ·show _ < _; omega
  ·intro hc0
   refine v_exit ?_
   refine e10 _ _ ?_
   refine e7 _ _ ?_
   refine x6 _ ?_
   refine n3 _ _ (weak_keep [0] _) ?_
   refine zk ⟨?_⟩
   refine v_seq ?_; intro Q96 n96 e96 r96
   refine v_region ?_; intro K97 k97
   refine zMove ⟨?_⟩
   refine zLen ⟨?_⟩
   refine zBinOp ⟨?_⟩
   refine zAssign ⟨?_⟩
   refine k97 _ ?_
   refine n96 _ _ (weak_keep [2] _) ?_
   refine zk ⟨?_⟩
   refine v_ret ?_
   refine r0 _ ?_
   refine zf ⟨?_⟩
   exact ret_pure rfl (by rw [incs_good (by omega) hR]) (.inl rfl)
end Go.Proofs.Ytdgenniiidgimaa
