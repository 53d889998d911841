/- What functions compute. No condition. -/
import Derived.Test.YtdgenniiidgimaaUty
import Derived.Test.YtdgenniiidgimaaUmG
import Derived.Test.YtdgenniiidgimaaX6
import Derived.Test.YtdgenniiidgimaaX1
import Derived.Test.YtdgenniiidgimaaX5
import Derived.Test.YtdgenniiidgimaaX3
import Derived.Test.YtdgenniiidgimaaX4
set_option linter.unusedSimpArgs false
set_option linter.unusedVariables false
set_option linter.defProp false
namespace Go.Proofs.Ytdgenniiidgimaa
open Go Go.Vm

set_option maxRecDepth 8000 in
set_option maxHeartbeats 1000000 in
theorem ixGood_con (l : List (Int × Int × Bool × List ByteArray)) (hl : l.length ≤ 1048576) (hli : ∀ x ∈ l, x.2.2.2.length ≤ 1048576) (hls : ∀ x ∈ l, ∀ s ∈ x.2.2.2, s.size ≤ 9223372036854775807) : Con Try.prog 183 [.sl (l.map (fun t : Int × Int × Bool × List ByteArray => V.agg [V.int .i64 t.1, V.int .i64 t.2.1, V.bool t.2.2.1, V.sl (t.2.2.2.map V.str)]))] [] (.bool (incsB l)) [] := by
 refine v_con [.tmp 2] [] Try.func183 rfl rfl rfl (by simp [Try.ntmps183]) ?_
 intro Q0 n0 r0
 simp only [Try.ntmps183, envFrom, Nat.reduceAdd]
 have T := Tys.mk (And.intro Ty.t3 (And.intro Ty.t4 (And.intro Ty.t9 (And.intro Ty.t84 (And.intro Ty.t93 Ty.t192)))))
 have F := Fc.mk True.intro
 refine v_seqR [0] ?_; intro K1 k1
 refine zAssign ⟨?_⟩
 refine k1 _ ?_
 refine zk ⟨?_⟩
 refine v_seq ?_; intro Q2 n2 e2 r2
 refine v_seqR [0,9,10,11] ?_; intro K3 k3
 refine zMove ⟨?_⟩
 refine zLen ⟨?_⟩
 refine zMove ⟨?_⟩
 refine k3 _ ?_
 refine zk ⟨?_⟩
 refine v_block ?_; intro Q4 n4 x4 e4 r4
 refine v_loop (fun i => ⟨[(0, .sl (l.map (fun t : Int × Int × Bool × List ByteArray => V.agg [V.int .i64 t.1, V.int .i64 t.2.1, V.bool t.2.2.1, V.sl (t.2.2.2.map V.str)]))), (9, .sl (l.map (fun t : Int × Int × Bool × List ByteArray => V.agg [V.int .i64 t.1, V.int .i64 t.2.1, V.bool t.2.2.1, V.sl (t.2.2.2.map V.str)]))), (10, .int .i64 l.length), (11, .int .i64 (Nat.cast i))], [], false, 59, 0⟩) (fun i => i ≤ l.length ∧ ∀ j, j < i → incP l j = true) (fun i => l.length - i) 0 ?_ ?_ ?_
 ·refine weak_of [0, 9, 10, 11] ?_
  simp only [keep_mk, keepE_nil, keepE_cons, look_cons, look_nil, Nat.reduceEqDiff, reduceIte]
  rfl
 ·exact ⟨Nat.zero_le _, fun j h => absurd h (Nat.not_lt_zero _)⟩
 ·rintro i hok5 Q5 n5 e5 r5
  obtain ⟨hi1, hR⟩ := hok5
  refine v_seqR [0,9,10,11,12] ?_; intro K6 k6
  refine zBinOp ⟨?_⟩
  refine k6 _ ?_
  refine zk ⟨?_⟩
  refine v_seq ?_; intro Q7 n7 e7 r7
  refine v_condS _ rfl ?_ ?_
  ·intro hc0
   have hlt : i < l.length := by omega
   obtain ⟨⟨x0, x1, x2, x3⟩, hx⟩ : ∃ x : Int × Int × Bool × List ByteArray, l[i]? = some x := ⟨l[i]'(by omega), List.getElem?_eq_getElem (by omega)⟩
   have hlx := hli _ (List.mem_of_getElem? hx)
   have hsx := hls _ (List.mem_of_getElem? hx)
   simp only [] at hlx hsx
   have hlt1 : (l.take i).length ≤ 1048576 := Nat.le_trans (List.length_take_le ..) (by omega)
   have hlti : (l.take i).length = i := by rw [List.length_take]; omega
   have hmi : ∀ x ∈ l.take i, x.2.2.2.length ≤ 1048576 := fun x h => hli x (List.mem_of_mem_take h)
   have hcl : clashB (l.take i) (x0, x1, x2, x3) = x3.any (fun s => (l.take i).any fun y => inS s y.2.2.2) := rfl
   have hcl2 : clashB (l.take i) (x0, x1, x2, x3) = (l.take i).any (fun y : (Int × Int × Bool × List ByteArray) => x3.any fun s => inS s y.2.2.2) := by rw [hcl]; exact any_swap (fun s (y : (Int × Int × Bool × List ByteArray)) => inS s y.2.2.2) x3 (l.take i)
   rcases Nat.eq_zero_or_pos i with h0 | h0
   ·skip
    have hi0 : ¬ ((0 : Int) < (i : Int)) := by omega
    have hpi : incP l i = (incOK (x0, x1, x2, x3) && !clashB (l.take i) (x0, x1, x2, x3)) := by subst h0; exact incP_zero hx
    refine v_skip ?_
    refine n7 _ _ (weak_keep [0, 9, 10, 11] _) ?_
    refine zk ⟨?_⟩
    refine v_seq ?_; intro Q9 n9 e9 r9
    refine v_block ?_; intro Q10 n10 x10 e10 r10
    refine v_seqR [0,3,4,9,10,11] ?_; intro K11 k11
    have F := Fc.mk (And.intro (fun f => getD_map (f := f) hx) (And.intro hlti (And.intro hi0 (And.intro @decide_false @Bool.and_false))))
    refine zMove ⟨?_⟩
    refine zIndexAddr ⟨?_⟩
    refine zLoad ⟨?_⟩
    refine zAlloc ⟨?_⟩
    refine zAssign ⟨?_⟩
    refine zStore ⟨?_⟩
    refine k11 _ ?_
    refine zk ⟨?_⟩
    refine v_seq ?_; intro Q12 n12 e12 r12
    refine v_seq ?_; intro Q13 n13 e13 r13
    refine v_draw (by kernel_rfl) ?_; intro K14 q14 k14
    show aAny _ _ _ _ 18 (Array.replicate 18 false) _
    refine zdLoad q14 true 0 16 ?_
    refine zoc 1 (ixOne_con x0 x1 x2 x3 hsx hlx) ⟨?_⟩
    refine zdUnOp q14 true 2 18 ?_
    refine zdMove q14 true 3 19 ?_
    refine zdgMove q14 true 4 20 ?_
    refine zdgBinOp q14 true 5 21 ?_
    refine zdgMove q14 true 6 22 ?_
    refine zdgMove q14 true 7 23 ?_
    refine zdgMove q14 true 8 24 ?_
    refine zdgBinOpW q14 true 9 25 ?_
    refine zdgIndexAddr q14 true 10 26 ?_
    refine zdgFieldAddr q14 true 11 27 ?_
    refine zdgLoad q14 true 12 28 ?_
    refine zdgFieldAddr q14 true 13 29 ?_
    refine zdgLoad q14 true 14 30 ?_
    refine zdgBinOp q14 true 15 31 ?_
    refine zdgPick q14 true 16 32 ?_
    refine zdPick q14 true 17 33 ?_
    refine aAny_done (by kernel_rfl) ?_
    refine k14 _ ?_
    refine n13 _ _ (weak_keep [0, 3, 4, 9, 10, 11, 33] _) ?_
    refine zk ⟨?_⟩
    refine v_condS _ rfl ?_ ?_
    ·intro hc1
     have hbad : incP l i = false := by
      rw [hpi]
      (try simp at hc1)
      first | (simp [hc1]; done) | (rcases hc1 with h | h <;> first | (simp [h]; done) | (rw [decide_eq_false (show ¬ y0 < x0 by omega)]; simp; done)) | (rcases hc1 with h | h <;> simp [h]; done) | (simp_all; done) | (simp; intros; simp_all; omega)
     refine v_seqR [2] ?_; intro K16 k16
     refine zAssign ⟨?_⟩
     refine k16 _ ?_
     refine zk ⟨?_⟩
     refine v_ret ?_
     refine r12 _ ?_
     refine r10 _ ?_
     refine r9 _ ?_
     refine r5 _ ?_
     refine r4 _ ?_
     refine r2 _ ?_
     refine r0 _ ?_
     refine zf ⟨?_⟩
     exact ret_pure rfl (by rw [incs_bad hlt hbad]) (.inl rfl)
    ·intro hc1
     have hgd : incP l i = !clashB (l.take i) (x0, x1, x2, x3) := by
      rw [hpi]
      (try simp at hc1)
      first | (simp [hc1]; done) | (simp_all; done) | (simp; intros; simp_all; omega)
     refine v_skip ?_
     refine n12 _ _ (weak_keep [0, 3, 4, 9, 10, 11] _) ?_
     refine zk ⟨?_⟩
     refine v_seqR [0,4,9,10,11,36,37,38] ?_; intro K17 k17
     refine zMove ⟨?_⟩
     refine zMove ⟨?_⟩
     refine zSlice ⟨?_⟩
     refine zLen ⟨?_⟩
     refine zMove ⟨?_⟩
     refine k17 _ ?_
     refine zk ⟨?_⟩
     refine v_block ?_; intro Q18 n18 x18 e18 r18
     refine v_loop (fun j => ⟨[(0, .sl (l.map (fun t : Int × Int × Bool × List ByteArray => V.agg [V.int .i64 t.1, V.int .i64 t.2.1, V.bool t.2.2.1, V.sl (t.2.2.2.map V.str)]))), (4, .ptr 0 0 0), (9, .sl (l.map (fun t : Int × Int × Bool × List ByteArray => V.agg [V.int .i64 t.1, V.int .i64 t.2.1, V.bool t.2.2.1, V.sl (t.2.2.2.map V.str)]))), (10, .int .i64 l.length), (11, .int .i64 (Nat.cast i)), (36, .sl ((l.take i).map (fun t : Int × Int × Bool × List ByteArray => V.agg [V.int .i64 t.1, V.int .i64 t.2.1, V.bool t.2.2.1, V.sl (t.2.2.2.map V.str)]))), (37, .int .i64 (Nat.cast i)), (38, .int .i64 (Nat.cast j))], [.box (.agg [V.int .i64 x0, V.int .i64 x1, V.bool x2, V.sl (x3.map V.str)]) .shal], false, 59, 0⟩) (fun j => j ≤ (l.take i).length ∧ ((l.take i).drop j).any (fun y : (Int × Int × Bool × List ByteArray) => x3.any fun s => inS s y.2.2.2) = (l.take i).any (fun y : (Int × Int × Bool × List ByteArray) => x3.any fun s => inS s y.2.2.2)) (fun j => (l.take i).length - j) 0 ?_ ?_ ?_
     ·refine weak_bothS [0, 4, 9, 10, 11, 36, 37, 38] [1] ⟨?_⟩
      rfl
     ·exact ⟨Nat.zero_le _, rfl⟩
     ·rintro j hok19 Q19 n19 e19 r19
      obtain ⟨hj1, hR2⟩ := hok19
      refine v_seqR [0,4,9,10,11,36,37,38,39] ?_; intro K20 k20
      refine zBinOp ⟨?_⟩
      refine k20 _ ?_
      refine zk ⟨?_⟩
      refine v_seq ?_; intro Q21 n21 e21 r21
      refine v_condS _ rfl ?_ ?_
      ·intro hc2
       have hlj : j < (l.take i).length := by omega
       obtain ⟨⟨z0, z1, z2, z3⟩, hz⟩ : ∃ x : Int × Int × Bool × List ByteArray, (l.take i)[j]? = some x := ⟨(l.take i)[j]'(by omega), List.getElem?_eq_getElem (by omega)⟩
       have hst := any_drop (f := (fun y : (Int × Int × Bool × List ByteArray) => x3.any fun s => inS s y.2.2.2)) hz
       have hlz := hmi _ (List.mem_of_getElem? hz)
       simp only [] at hlz
       refine v_skip ?_
       refine n21 _ _ (weak_keep [0, 4, 9, 10, 11, 36, 37, 38] _) ?_
       refine zk ⟨?_⟩
       refine v_seq ?_; intro Q23 n23 e23 r23
       refine v_block ?_; intro Q24 n24 x24 e24 r24
       refine v_seqR [0,4,6,9,10,11,36,37,38] ?_; intro K25 k25
       have F := Fc.mk (And.intro (fun f => getD_map (f := f) hx) (And.intro hlti (And.intro hi0 (And.intro @decide_false (And.intro @Bool.and_false (fun f => getD_map (f := f) hz))))))
       refine zIndexAddr ⟨?_⟩
       refine zLoad ⟨?_⟩
       refine zAlloc ⟨?_⟩
       refine zStore ⟨?_⟩
       refine k25 _ ?_
       refine zk ⟨?_⟩
       refine v_seqR [0,4,6,9,10,11,36,37,38,43,44,45] ?_; intro K26 k26
       refine zFieldAddr ⟨?_⟩
       refine zLoad ⟨?_⟩
       refine zLen ⟨?_⟩
       refine zMove ⟨?_⟩
       refine k26 _ ?_
       refine zk ⟨?_⟩
       refine v_block ?_; intro Q27 n27 x27 e27 r27
       refine v_loop (fun m => ⟨[(0, .sl (l.map (fun t : Int × Int × Bool × List ByteArray => V.agg [V.int .i64 t.1, V.int .i64 t.2.1, V.bool t.2.2.1, V.sl (t.2.2.2.map V.str)]))), (4, .ptr 0 0 0), (6, .ptr 1 0 0), (9, .sl (l.map (fun t : Int × Int × Bool × List ByteArray => V.agg [V.int .i64 t.1, V.int .i64 t.2.1, V.bool t.2.2.1, V.sl (t.2.2.2.map V.str)]))), (10, .int .i64 l.length), (11, .int .i64 (Nat.cast i)), (36, .sl ((l.take i).map (fun t : Int × Int × Bool × List ByteArray => V.agg [V.int .i64 t.1, V.int .i64 t.2.1, V.bool t.2.2.1, V.sl (t.2.2.2.map V.str)]))), (37, .int .i64 (Nat.cast i)), (38, .int .i64 (Nat.cast j)), (43, .sl (x3.map V.str)), (44, .int .i64 x3.length), (45, .int .i64 (Nat.cast m))], [.box (.agg [V.int .i64 x0, V.int .i64 x1, V.bool x2, V.sl (x3.map V.str)]) .shal, .box (.agg [V.int .i64 z0, V.int .i64 z1, V.bool z2, V.sl (z3.map V.str)]) .shal], false, 59, 0⟩) (fun m => m ≤ x3.length ∧ (x3.drop m).any (fun s => inS s z3) = x3.any fun s => inS s z3) (fun m => x3.length - m) 0 ?_ ?_ ?_
       ·refine weak_bothS [0, 4, 6, 9, 10, 11, 36, 37, 38, 43, 44, 45] [0, 2] ⟨?_⟩
        rfl
       ·exact ⟨Nat.zero_le _, rfl⟩
       ·rintro m hok28 Q28 n28 e28 r28
        obtain ⟨hm1, hR3⟩ := hok28
        refine v_seqR [0,4,6,9,10,11,36,37,38,43,44,45,46] ?_; intro K29 k29
        refine zBinOp ⟨?_⟩
        refine k29 _ ?_
        refine zk ⟨?_⟩
        refine v_seq ?_; intro Q30 n30 e30 r30
        refine v_condS _ rfl ?_ ?_
        ·intro hc3
         have hlm : m < x3.length := by omega
         obtain ⟨s, hs⟩ : ∃ s, x3[m]? = some s := ⟨_, List.getElem?_eq_getElem hlm⟩
         have hst3 := any_drop (f := fun s => inS s z3) hs
         refine v_skip ?_
         refine n30 _ _ (weak_keep [0, 4, 6, 9, 10, 11, 36, 37, 38, 43, 44, 45] _) ?_
         refine zk ⟨?_⟩
         refine v_seq ?_; intro Q32 n32 e32 r32
         refine v_block ?_; intro Q33 n33 x33 e33 r33
         refine v_seqR [0,4,6,8,9,10,11,36,37,38,43,44,45] ?_; intro K34 k34
         have F := Fc.mk (And.intro (fun f => getD_map (f := f) hx) (And.intro hlti (And.intro hi0 (And.intro @decide_false (And.intro @Bool.and_false (And.intro (fun f => getD_map (f := f) hz) (fun f => getD_map (f := f) hs)))))))
         refine zIndexAddr ⟨?_⟩
         refine zLoad ⟨?_⟩
         refine zAssign ⟨?_⟩
         refine k34 _ ?_
         refine zk ⟨?_⟩
         refine v_seqR [0,4,6,9,10,11,36,37,38,43,44,45,52] ?_; intro K35 k35
         refine zFieldAddr ⟨?_⟩
         refine zLoad ⟨?_⟩
         refine zMove ⟨?_⟩
         refine zc (dsHas_con z3 s hlz) ⟨?_⟩
         refine k35 _ ?_
         refine zk ⟨?_⟩
         refine v_condS _ rfl ?_ ?_
         ·intro hc4
          have hbad : incP l i = false := by
           have h3 : (x3.any fun s => inS s z3) = true := by rw [← hR3, hst3]; simp [hc4]
           rw [hgd, hcl2, ← hR2, hst]
           simp only [h3]; rfl
          refine v_seqR [2] ?_; intro K37 k37
          refine zAssign ⟨?_⟩
          refine k37 _ ?_
          refine zk ⟨?_⟩
          refine v_ret ?_
          refine r33 _ ?_
          refine r32 _ ?_
          refine r28 _ ?_
          refine r27 _ ?_
          refine r24 _ ?_
          refine r23 _ ?_
          refine r19 _ ?_
          refine r18 _ ?_
          refine r10 _ ?_
          refine r9 _ ?_
          refine r5 _ ?_
          refine r4 _ ?_
          refine r2 _ ?_
          refine r0 _ ?_
          refine zf ⟨?_⟩
          exact ret_pure rfl (by rw [incs_bad hlt hbad]) (.inl rfl)
         ·intro hc4
          refine v_skip ?_
          refine n33 _ ?_
          refine n32 _ _ (weak_keep [0, 4, 6, 9, 10, 11, 36, 37, 38, 43, 44, 45] _) ?_
          refine zk ⟨?_⟩
          refine v_region ?_; intro K38 k38
          refine zBinOpW ⟨?_⟩
          refine zMove ⟨?_⟩
          refine k38 _ ?_
          refine n28 _ (m + 1) ?_ ?_ ?_
          ·refine weak_bothS [0, 4, 6, 9, 10, 11, 36, 37, 38, 43, 44, 45] [0, 1] ⟨?_⟩
           rfl
          ·exact ⟨by omega, by rw [← hR3, hst3]; simp [hc4]⟩
          ·show _ < _; omega
        ·intro hc3
         have hno : (x3.any fun s => inS s z3) = false := by rw [← hR3, any_end (by omega)]
         refine v_exit ?_
         refine e30 _ _ ?_
         refine e28 _ _ ?_
         refine x27 _ ?_
         refine n24 _ ?_
         refine n23 _ _ (weak_keep [0, 4, 9, 10, 11, 36, 37, 38] _) ?_
         refine zk ⟨?_⟩
         refine v_region ?_; intro K39 k39
         refine zBinOpW ⟨?_⟩
         refine zMove ⟨?_⟩
         refine k39 _ ?_
         refine n19 _ (j + 1) ?_ ?_ ?_
         ·refine weak_bothS [0, 4, 9, 10, 11, 36, 37, 38] [0] ⟨?_⟩
          rfl
         ·exact ⟨by omega, by rw [← hR2, hst]; simp only [hno]; rfl⟩
         ·show _ < _; show (l.take i).length - (j + 1) < (l.take i).length - j; omega
      ·intro hc2
       have hgood : incP l i = true := by rw [hgd, hcl2, ← hR2, any_end (by omega)]; rfl
       refine v_exit ?_
       refine e21 _ _ ?_
       refine e19 _ _ ?_
       refine x18 _ ?_
       refine n10 _ ?_
       refine n9 _ _ (weak_keep [0, 9, 10, 11] _) ?_
       refine zk ⟨?_⟩
       refine v_region ?_; intro K40 k40
       refine zBinOpW ⟨?_⟩
       refine zMove ⟨?_⟩
       refine k40 _ ?_
       refine n5 _ (i + 1) ?_ ?_ ?_
       ·refine weak_bothS [0, 9, 10, 11] [] ⟨?_⟩
        rfl
       ·exact ⟨by omega, upto_step hR hgood⟩
       ·show _ < _; omega
   ·skip
    obtain ⟨⟨y0, y1, y2, y3⟩, hy⟩ : ∃ x : Int × Int × Bool × List ByteArray, l[i - 1]? = some x := ⟨l[i - 1]'(by omega), List.getElem?_eq_getElem (by omega)⟩
    have hi0 : (0 : Int) < i := by omega
    have hk : ((i : Int) - 1).toNat = i - 1 := by omega
    have hpi := incP_succ h0 hy hx
    refine v_skip ?_
    refine n7 _ _ (weak_keep [0, 9, 10, 11] _) ?_
    refine zk ⟨?_⟩
    refine v_seq ?_; intro Q41 n41 e41 r41
    refine v_block ?_; intro Q42 n42 x42 e42 r42
    refine v_seqR [0,3,4,9,10,11] ?_; intro K43 k43
    have F := Fc.mk (And.intro (fun f => getD_map (f := f) hx) (And.intro hlti (And.intro hi0 (And.intro hk (And.intro (fun f => getD_map (f := f) hy) (And.intro @decide_true @Bool.and_true))))))
    refine zMove ⟨?_⟩
    refine zIndexAddr ⟨?_⟩
    refine zLoad ⟨?_⟩
    refine zAlloc ⟨?_⟩
    refine zAssign ⟨?_⟩
    refine zStore ⟨?_⟩
    refine k43 _ ?_
    refine zk ⟨?_⟩
    refine v_seq ?_; intro Q44 n44 e44 r44
    refine v_seq ?_; intro Q45 n45 e45 r45
    refine v_draw (by kernel_rfl) ?_; intro K46 q46 k46
    show aAny _ _ _ _ 18 (Array.replicate 18 false) _
    refine zdLoad q46 true 0 16 ?_
    refine zoc 1 (ixOne_con x0 x1 x2 x3 hsx hlx) ⟨?_⟩
    refine zdUnOp q46 true 2 18 ?_
    refine zdMove q46 true 3 19 ?_
    refine zdgMove q46 true 4 20 ?_
    refine zdgBinOp q46 true 5 21 ?_
    refine zdgMove q46 true 6 22 ?_
    refine zdgMove q46 true 7 23 ?_
    refine zdgMove q46 true 8 24 ?_
    refine zdgBinOpW q46 true 9 25 ?_
    refine zdgIndexAddr q46 true 10 26 ?_
    refine zdgFieldAddr q46 true 11 27 ?_
    refine zdgLoad q46 true 12 28 ?_
    refine zdgFieldAddr q46 true 13 29 ?_
    refine zdgLoad q46 true 14 30 ?_
    refine zdgBinOp q46 true 15 31 ?_
    refine zdgPick q46 true 16 32 ?_
    refine zdPick q46 true 17 33 ?_
    refine aAny_done (by kernel_rfl) ?_
    refine k46 _ ?_
    refine n45 _ _ (weak_keep [0, 3, 4, 9, 10, 11, 33] _) ?_
    refine zk ⟨?_⟩
    refine v_condS _ rfl ?_ ?_
    ·intro hc1
     have hbad : incP l i = false := by
      rw [hpi]
      (try simp at hc1)
      first | (simp [hc1]; done) | (rcases hc1 with h | h <;> first | (simp [h]; done) | (rw [decide_eq_false (show ¬ y0 < x0 by omega)]; simp; done)) | (rcases hc1 with h | h <;> simp [h]; done) | (simp_all; done) | (simp; intros; simp_all; omega)
     refine v_seqR [2] ?_; intro K48 k48
     refine zAssign ⟨?_⟩
     refine k48 _ ?_
     refine zk ⟨?_⟩
     refine v_ret ?_
     refine r44 _ ?_
     refine r42 _ ?_
     refine r41 _ ?_
     refine r5 _ ?_
     refine r4 _ ?_
     refine r2 _ ?_
     refine r0 _ ?_
     refine zf ⟨?_⟩
     exact ret_pure rfl (by rw [incs_bad hlt hbad]) (.inl rfl)
    ·intro hc1
     have hgd : incP l i = !clashB (l.take i) (x0, x1, x2, x3) := by
      rw [hpi]
      (try simp at hc1)
      first | (simp [hc1]; done) | (simp_all; done) | (simp; intros; simp_all; omega)
     refine v_skip ?_
     refine n44 _ _ (weak_keep [0, 3, 4, 9, 10, 11] _) ?_
     refine zk ⟨?_⟩
     refine v_seqR [0,4,9,10,11,36,37,38] ?_; intro K49 k49
     refine zMove ⟨?_⟩
     refine zMove ⟨?_⟩
     refine zSlice ⟨?_⟩
     refine zLen ⟨?_⟩
     refine zMove ⟨?_⟩
     refine k49 _ ?_
     refine zk ⟨?_⟩
     refine v_block ?_; intro Q50 n50 x50 e50 r50
     refine v_loop (fun j => ⟨[(0, .sl (l.map (fun t : Int × Int × Bool × List ByteArray => V.agg [V.int .i64 t.1, V.int .i64 t.2.1, V.bool t.2.2.1, V.sl (t.2.2.2.map V.str)]))), (4, .ptr 0 0 0), (9, .sl (l.map (fun t : Int × Int × Bool × List ByteArray => V.agg [V.int .i64 t.1, V.int .i64 t.2.1, V.bool t.2.2.1, V.sl (t.2.2.2.map V.str)]))), (10, .int .i64 l.length), (11, .int .i64 (Nat.cast i)), (36, .sl ((l.take i).map (fun t : Int × Int × Bool × List ByteArray => V.agg [V.int .i64 t.1, V.int .i64 t.2.1, V.bool t.2.2.1, V.sl (t.2.2.2.map V.str)]))), (37, .int .i64 (Nat.cast i)), (38, .int .i64 (Nat.cast j))], [.box (.agg [V.int .i64 x0, V.int .i64 x1, V.bool x2, V.sl (x3.map V.str)]) .shal], false, 59, 0⟩) (fun j => j ≤ (l.take i).length ∧ ((l.take i).drop j).any (fun y : (Int × Int × Bool × List ByteArray) => x3.any fun s => inS s y.2.2.2) = (l.take i).any (fun y : (Int × Int × Bool × List ByteArray) => x3.any fun s => inS s y.2.2.2)) (fun j => (l.take i).length - j) 0 ?_ ?_ ?_
     ·refine weak_bothS [0, 4, 9, 10, 11, 36, 37, 38] [1] ⟨?_⟩
      rfl
     ·exact ⟨Nat.zero_le _, rfl⟩
     ·rintro j hok51 Q51 n51 e51 r51
      obtain ⟨hj1, hR2⟩ := hok51
      refine v_seqR [0,4,9,10,11,36,37,38,39] ?_; intro K52 k52
      refine zBinOp ⟨?_⟩
      refine k52 _ ?_
      refine zk ⟨?_⟩
      refine v_seq ?_; intro Q53 n53 e53 r53
      refine v_condS _ rfl ?_ ?_
      ·intro hc2
       have hlj : j < (l.take i).length := by omega
       obtain ⟨⟨z0, z1, z2, z3⟩, hz⟩ : ∃ x : Int × Int × Bool × List ByteArray, (l.take i)[j]? = some x := ⟨(l.take i)[j]'(by omega), List.getElem?_eq_getElem (by omega)⟩
       have hst := any_drop (f := (fun y : (Int × Int × Bool × List ByteArray) => x3.any fun s => inS s y.2.2.2)) hz
       have hlz := hmi _ (List.mem_of_getElem? hz)
       simp only [] at hlz
       refine v_skip ?_
       refine n53 _ _ (weak_keep [0, 4, 9, 10, 11, 36, 37, 38] _) ?_
       refine zk ⟨?_⟩
       refine v_seq ?_; intro Q55 n55 e55 r55
       refine v_block ?_; intro Q56 n56 x56 e56 r56
       refine v_seqR [0,4,6,9,10,11,36,37,38] ?_; intro K57 k57
       have F := Fc.mk (And.intro (fun f => getD_map (f := f) hx) (And.intro hlti (And.intro hi0 (And.intro hk (And.intro (fun f => getD_map (f := f) hy) (And.intro @decide_true (And.intro @Bool.and_true (fun f => getD_map (f := f) hz))))))))
       refine zIndexAddr ⟨?_⟩
       refine zLoad ⟨?_⟩
       refine zAlloc ⟨?_⟩
       refine zStore ⟨?_⟩
       refine k57 _ ?_
       refine zk ⟨?_⟩
       refine v_seqR [0,4,6,9,10,11,36,37,38,43,44,45] ?_; intro K58 k58
       refine zFieldAddr ⟨?_⟩
       refine zLoad ⟨?_⟩
       refine zLen ⟨?_⟩
       refine zMove ⟨?_⟩
       refine k58 _ ?_
       refine zk ⟨?_⟩
       refine v_block ?_; intro Q59 n59 x59 e59 r59
       refine v_loop (fun m => ⟨[(0, .sl (l.map (fun t : Int × Int × Bool × List ByteArray => V.agg [V.int .i64 t.1, V.int .i64 t.2.1, V.bool t.2.2.1, V.sl (t.2.2.2.map V.str)]))), (4, .ptr 0 0 0), (6, .ptr 1 0 0), (9, .sl (l.map (fun t : Int × Int × Bool × List ByteArray => V.agg [V.int .i64 t.1, V.int .i64 t.2.1, V.bool t.2.2.1, V.sl (t.2.2.2.map V.str)]))), (10, .int .i64 l.length), (11, .int .i64 (Nat.cast i)), (36, .sl ((l.take i).map (fun t : Int × Int × Bool × List ByteArray => V.agg [V.int .i64 t.1, V.int .i64 t.2.1, V.bool t.2.2.1, V.sl (t.2.2.2.map V.str)]))), (37, .int .i64 (Nat.cast i)), (38, .int .i64 (Nat.cast j)), (43, .sl (x3.map V.str)), (44, .int .i64 x3.length), (45, .int .i64 (Nat.cast m))], [.box (.agg [V.int .i64 x0, V.int .i64 x1, V.bool x2, V.sl (x3.map V.str)]) .shal, .box (.agg [V.int .i64 z0, V.int .i64 z1, V.bool z2, V.sl (z3.map V.str)]) .shal], false, 59, 0⟩) (fun m => m ≤ x3.length ∧ (x3.drop m).any (fun s => inS s z3) = x3.any fun s => inS s z3) (fun m => x3.length - m) 0 ?_ ?_ ?_
       ·refine weak_bothS [0, 4, 6, 9, 10, 11, 36, 37, 38, 43, 44, 45] [0, 2] ⟨?_⟩
        rfl
       ·exact ⟨Nat.zero_le _, rfl⟩
       ·rintro m hok60 Q60 n60 e60 r60
        obtain ⟨hm1, hR3⟩ := hok60
        refine v_seqR [0,4,6,9,10,11,36,37,38,43,44,45,46] ?_; intro K61 k61
        refine zBinOp ⟨?_⟩
        refine k61 _ ?_
        refine zk ⟨?_⟩
        refine v_seq ?_; intro Q62 n62 e62 r62
        refine v_condS _ rfl ?_ ?_
        ·intro hc3
         have hlm : m < x3.length := by omega
         obtain ⟨s, hs⟩ : ∃ s, x3[m]? = some s := ⟨_, List.getElem?_eq_getElem hlm⟩
         have hst3 := any_drop (f := fun s => inS s z3) hs
         refine v_skip ?_
         refine n62 _ _ (weak_keep [0, 4, 6, 9, 10, 11, 36, 37, 38, 43, 44, 45] _) ?_
         refine zk ⟨?_⟩
         refine v_seq ?_; intro Q64 n64 e64 r64
         refine v_block ?_; intro Q65 n65 x65 e65 r65
         refine v_seqR [0,4,6,8,9,10,11,36,37,38,43,44,45] ?_; intro K66 k66
         have F := Fc.mk (And.intro (fun f => getD_map (f := f) hx) (And.intro hlti (And.intro hi0 (And.intro hk (And.intro (fun f => getD_map (f := f) hy) (And.intro @decide_true (And.intro @Bool.and_true (And.intro (fun f => getD_map (f := f) hz) (fun f => getD_map (f := f) hs)))))))))
         refine zIndexAddr ⟨?_⟩
         refine zLoad ⟨?_⟩
         refine zAssign ⟨?_⟩
         refine k66 _ ?_
         refine zk ⟨?_⟩
         refine v_seqR [0,4,6,9,10,11,36,37,38,43,44,45,52] ?_; intro K67 k67
         refine zFieldAddr ⟨?_⟩
         refine zLoad ⟨?_⟩
         refine zMove ⟨?_⟩
         refine zc (dsHas_con z3 s hlz) ⟨?_⟩
         refine k67 _ ?_
         refine zk ⟨?_⟩
         refine v_condS _ rfl ?_ ?_
         ·intro hc4
          have hbad : incP l i = false := by
           have h3 : (x3.any fun s => inS s z3) = true := by rw [← hR3, hst3]; simp [hc4]
           rw [hgd, hcl2, ← hR2, hst]
           simp only [h3]; rfl
          refine v_seqR [2] ?_; intro K69 k69
          refine zAssign ⟨?_⟩
          refine k69 _ ?_
          refine zk ⟨?_⟩
          refine v_ret ?_
          refine r65 _ ?_
          refine r64 _ ?_
          refine r60 _ ?_
          refine r59 _ ?_
          refine r56 _ ?_
          refine r55 _ ?_
          refine r51 _ ?_
          refine r50 _ ?_
          refine r42 _ ?_
          refine r41 _ ?_
          refine r5 _ ?_
          refine r4 _ ?_
          refine r2 _ ?_
          refine r0 _ ?_
          refine zf ⟨?_⟩
          exact ret_pure rfl (by rw [incs_bad hlt hbad]) (.inl rfl)
         ·intro hc4
          refine v_skip ?_
          refine n65 _ ?_
          refine n64 _ _ (weak_keep [0, 4, 6, 9, 10, 11, 36, 37, 38, 43, 44, 45] _) ?_
          refine zk ⟨?_⟩
          refine v_region ?_; intro K70 k70
          refine zBinOpW ⟨?_⟩
          refine zMove ⟨?_⟩
          refine k70 _ ?_
          refine n60 _ (m + 1) ?_ ?_ ?_
          ·refine weak_bothS [0, 4, 6, 9, 10, 11, 36, 37, 38, 43, 44, 45] [0, 1] ⟨?_⟩
           rfl
          ·exact ⟨by omega, by rw [← hR3, hst3]; simp [hc4]⟩
          ·show _ < _; omega
        ·intro hc3
         have hno : (x3.any fun s => inS s z3) = false := by rw [← hR3, any_end (by omega)]
         refine v_exit ?_
         refine e62 _ _ ?_
         refine e60 _ _ ?_
         refine x59 _ ?_
         refine n56 _ ?_
         refine n55 _ _ (weak_keep [0, 4, 9, 10, 11, 36, 37, 38] _) ?_
         refine zk ⟨?_⟩
         refine v_region ?_; intro K71 k71
         refine zBinOpW ⟨?_⟩
         refine zMove ⟨?_⟩
         refine k71 _ ?_
         refine n51 _ (j + 1) ?_ ?_ ?_
         ·refine weak_bothS [0, 4, 9, 10, 11, 36, 37, 38] [0] ⟨?_⟩
          rfl
         ·exact ⟨by omega, by rw [← hR2, hst]; simp only [hno]; rfl⟩
         ·show _ < _; show (l.take i).length - (j + 1) < (l.take i).length - j; omega
      ·intro hc2
       have hgood : incP l i = true := by rw [hgd, hcl2, ← hR2, any_end (by omega)]; rfl
       refine v_exit ?_
       refine e53 _ _ ?_
       refine e51 _ _ ?_
       refine x50 _ ?_
       refine n42 _ ?_
       refine n41 _ _ (weak_keep [0, 9, 10, 11] _) ?_
       refine zk ⟨?_⟩
       refine v_region ?_; intro K72 k72
       refine zBinOpW ⟨?_⟩
       refine zMove ⟨?_⟩
       refine k72 _ ?_
       refine n5 _ (i + 1) ?_ ?_ ?_
       ·refine weak_bothS [0, 9, 10, 11] [] ⟨?_⟩
        rfl
       ·exact ⟨by omega, upto_step hR hgood⟩
       ·show _ < _; omega
  ·intro hc0
   refine v_exit ?_
   refine e7 _ _ ?_
   refine e5 _ _ ?_
   refine x4 _ ?_
   refine n2 _ _ (weak_keep [0] _) ?_
   refine zk ⟨?_⟩
   refine v_seqR [2] ?_; intro K73 k73
   refine zMove ⟨?_⟩
   refine zLen ⟨?_⟩
   refine zBinOp ⟨?_⟩
   refine zAssign ⟨?_⟩
   refine k73 _ ?_
   refine zk ⟨?_⟩
   refine v_ret ?_
   refine r0 _ ?_
   refine zf ⟨?_⟩
   exact ret_pure rfl (by rw [incs_good (by omega) hR]) (.inl rfl)
def busyA (x : (ByteArray × Int × Int × Int × Int)) : Bool := decide (1 ≤ x.2.2.2.2) && decide (x.2.2.2.2 ≤ 3)
def realNeed (l : List Int) : Bool := need4 l && !l.all (fun x : Int => inR x 0 0)
def wantP (ins : List (Int × Int × Bool × List ByteArray)) (ws : List (Int × List Int)) (i : Nat) : Bool := match ws[i]? with
  | none => true
  | some w => decide (0 ≤ openF ins w.1) && realNeed w.2 && (decide (i = 0) || match ws[i - 1]? with | some y => decide (y.1 < w.1) | none => true)
def inP (n : Int) (fl : List (ByteArray × Int × Int × Int × Int)) (x : (Int × Int × Bool × List ByteArray)) : Bool := hasB n x.2.1 && x.2.2.2.all fun s => decide (0 ≤ findA fl s)
def fleetP (ins : List (Int × Int × Bool × List ByteArray)) (a : (ByteArray × Int × Int × Int × Int)) : Bool := !(busyA a != decide (0 ≤ commF ins a.1))
def ctlH (n : Int) (ss : List (Int × Int × Int)) (fl : List (ByteArray × Int × Int × Int × Int)) (ins : List (Int × Int × Bool × List ByteArray)) (ws : List (Int × List Int)) : Bool := dsB n ss fl && incsB ins && !decide (8 < (ws.length : Int))
def ctlB (n : Int) (ss : List (Int × Int × Int)) (fl : List (ByteArray × Int × Int × Int × Int)) (ins : List (Int × Int × Bool × List ByteArray)) (ws : List (Int × List Int)) : Bool := ctlH n ss fl ins ws && ins.all (inP n fl) && fl.all (fleetP ins) && (List.range ws.length).all (wantP ins ws)
theorem ctl_h {n : Int} {ss : List (Int × Int × Int)} {fl : List (ByteArray × Int × Int × Int × Int)} {ins : List (Int × Int × Bool × List ByteArray)} {ws : List (Int × List Int)} (h : ctlH n ss fl ins ws = false) : ctlB n ss fl ins ws = false := by rw [ctlB, h]; rfl
theorem ctl_i {n : Int} {ss : List (Int × Int × Int)} {fl : List (ByteArray × Int × Int × Int × Int)} {ins : List (Int × Int × Bool × List ByteArray)} {ws : List (Int × List Int)} (h : ins.all (inP n fl) = false) : ctlB n ss fl ins ws = false := by rw [ctlB, h]; simp
theorem ctl_f {n : Int} {ss : List (Int × Int × Int)} {fl : List (ByteArray × Int × Int × Int × Int)} {ins : List (Int × Int × Bool × List ByteArray)} {ws : List (Int × List Int)} (h : fl.all (fleetP ins) = false) : ctlB n ss fl ins ws = false := by rw [ctlB, h]; simp
theorem ctl_w {n : Int} {ss : List (Int × Int × Int)} {fl : List (ByteArray × Int × Int × Int × Int)} {ins : List (Int × Int × Bool × List ByteArray)} {ws : List (Int × List Int)} {i : Nat} (hi : i < ws.length) (h : wantP ins ws i = false) : ctlB n ss fl ins ws = false := by
  have : (List.range ws.length).all (wantP ins ws) = false := by
    rw [List.all_eq_false]
    exact ⟨i, List.mem_range.2 hi, by rw [h]; simp⟩
  rw [ctlB, this]; simp
theorem ctl_yes {n : Int} {ss : List (Int × Int × Int)} {fl : List (ByteArray × Int × Int × Int × Int)} {ins : List (Int × Int × Bool × List ByteArray)} {ws : List (Int × List Int)} {i : Nat} (h1 : ctlH n ss fl ins ws = true) (h2 : ins.all (inP n fl) = true) (h3 : fl.all (fleetP ins) = true) (hi : ws.length ≤ i) (h4 : ∀ j, j < i → wantP ins ws j = true) : ctlB n ss fl ins ws = true := by
  have : (List.range ws.length).all (wantP ins ws) = true := by
    rw [List.all_eq_true]
    intro j hj
    exact h4 j (Nat.lt_of_lt_of_le (List.mem_range.1 hj) hi)
  rw [ctlB, h1, h2, h3, this]; rfl
theorem wantP_zero {ins : List (Int × Int × Bool × List ByteArray)} {ws : List (Int × List Int)} {w : (Int × List Int)} (h : ws[0]? = some w) : wantP ins ws 0 = (decide (0 ≤ openF ins w.1) && realNeed w.2) := by
  rw [wantP, h]; simp
theorem wantP_succ {ins : List (Int × Int × Bool × List ByteArray)} {ws : List (Int × List Int)} {w y : (Int × List Int)} {i : Nat} (h0 : 0 < i) (hy : ws[i - 1]? = some y) (h : ws[i]? = some w) : wantP ins ws i = (decide (0 ≤ openF ins w.1) && realNeed w.2 && decide (y.1 < w.1)) := by
  rw [wantP, h]
  simp only [hy, decide_eq_false (show ¬ i = 0 by omega), Bool.false_or]
theorem ctlh_facts {n : Int} {ss : List (Int × Int × Int)} {fl : List (ByteArray × Int × Int × Int × Int)} {ins : List (Int × Int × Bool × List ByteArray)} {ws : List (Int × List Int)} (h : ctlH n ss fl ins ws = true) : DsFacts n ss fl ∧ (∀ x ∈ ins, 0 ≤ x.2.1) := by
  simp only [ctlH, Bool.and_eq_true] at h
  refine ⟨ds_facts h.1.1, fun x hx => ?_⟩
  obtain ⟨i, hi, rfl⟩ := List.getElem_of_mem hx
  have h2 := h.1.2
  simp only [incsB, Bool.and_eq_true, List.all_eq_true, List.mem_range] at h2
  have h3 := h2.1 i hi
  rw [incP, List.getElem?_eq_getElem hi] at h3
  simp only [Bool.and_eq_true, incOK, decide_eq_true_eq] at h3
  omega
theorem max_zero {x : Int} {l : List Int} (h : need4 (x :: l) = true) : decide (mostL l x = 0) = (x :: l).all (fun x : Int => inR x 0 0) := by
  obtain ⟨_, hb⟩ := need4_facts h
  have key : ∀ (l : List Int) (a : Int), 0 ≤ a → (∀ y ∈ l, 0 ≤ y) → decide (mostL l a = 0) = (decide (a = 0) && l.all (fun x : Int => inR x 0 0)) := by
    intro l
    induction l with
    | nil => intro a _ _; simp [mostL]
    | cons y l ih =>
      intro a ha hl
      have hy := hl y (List.mem_cons_self ..)
      have hs : mostL (y :: l) a = mostL l (if y > a then y else a) := rfl
      rw [hs, ih _ (by split <;> omega) fun z hz => hl z (List.mem_cons_of_mem _ hz), List.all_cons]
      have e : decide ((if y > a then y else a) = 0) = (decide (a = 0) && inR y 0 0) := by
        rw [inR]
        by_cases h1 : y > a
        · rw [if_pos h1, decide_eq_false (show ¬ y = 0 by omega), decide_eq_false (show ¬ y ≤ 0 by omega)]; simp
        · rw [if_neg h1]
          by_cases h2 : a = 0
          · rw [decide_eq_true h2, decide_eq_true (show 0 ≤ y by omega), decide_eq_true (show y ≤ 0 by omega)]; rfl
          · rw [decide_eq_false h2]; rfl
      rw [e, Bool.and_assoc]
  rw [key l x (hb x (List.mem_cons_self ..)).1 fun y hy => (hb y (List.mem_cons_of_mem _ hy)).1, List.all_cons]
  congr 1
  have := (hb x (List.mem_cons_self ..)).1
  rw [inR, decide_eq_true this, Bool.true_and]
  exact decide_eq_decide.2 (by omega)

set_option maxHeartbeats 1000000 in
theorem isBusy_con (x0 : ByteArray) (x1 : Int) (x2 : Int) (x3 : Int) (x4 : Int) : Con Try.prog 116 [.agg [V.str x0, V.int .i64 x1, V.int .i64 x2, V.int .i64 x3, V.int .i64 x4]] [] (.bool (busyA (x0, x1, x2, x3, x4))) [] := by
 refine v_con [.tmp 2] [] Try.func116 rfl rfl rfl (by simp [Try.ntmps116]) ?_
 intro Q0 n0 r0
 simp only [Try.ntmps116, envFrom, Nat.reduceAdd]
 have T := Tys.mk (And.intro Ty.t3 (And.intro Ty.t4 (And.intro Ty.t9 Ty.t141)))
 have F := Fc.mk True.intro
 refine v_seqR [1] ?_; intro K1 k1
 refine zBox ⟨?_⟩
 refine zAssign ⟨?_⟩
 refine k1 _ ?_
 refine zk ⟨?_⟩
 refine v_seqR [2] ?_; intro K2 k2
 refine zFieldAddr ⟨?_⟩
 refine zLoad ⟨?_⟩
 refine zc (inside_con _ _ _) ⟨?_⟩
 refine zAssign ⟨?_⟩
 refine k2 _ ?_
 refine zk ⟨?_⟩
 refine v_ret ?_
 refine r0 _ ?_
 refine zf ⟨?_⟩
 exact ret_pure rfl rfl (.inl rfl)
set_option maxHeartbeats 1000000 in
theorem roBusy_con (n : Int) : Con Try.prog 184 [.int .i64 n] [] (.bool (decide (1 ≤ n) && decide (n ≤ 3))) [] := by
 refine v_con [.tmp 2] [] Try.func184 rfl rfl rfl (by simp [Try.ntmps184]) ?_
 intro Q0 n0 r0
 simp only [Try.ntmps184, envFrom, Nat.reduceAdd]
 have T := Tys.mk (And.intro Ty.t3 Ty.t4)
 have F := Fc.mk True.intro
 refine v_seqR [0] ?_; intro K1 k1
 refine zAssign ⟨?_⟩
 refine k1 _ ?_
 refine zk ⟨?_⟩
 refine v_seqR [2] ?_; intro K2 k2
 refine zMove ⟨?_⟩
 refine zc (l1In_con _ _ _) ⟨?_⟩
 refine zAssign ⟨?_⟩
 refine k2 _ ?_
 refine zk ⟨?_⟩
 refine v_ret ?_
 refine r0 _ ?_
 refine zf ⟨?_⟩
 exact ret_pure rfl (by first | rfl | simp) (.inl rfl)
set_option maxHeartbeats 1000000 in
theorem roNeed_con (l : List Int) (hl : l.length ≤ 1048576) : Con Try.prog 187 [.sl (l.map (V.int .i64))] [] (.bool (realNeed l)) [] := by
 refine v_con [.tmp 2] [] Try.func187 rfl rfl rfl (by simp [Try.ntmps187]) ?_
 intro Q0 n0 r0
 simp only [Try.ntmps187, envFrom, Nat.reduceAdd]
 have T := Tys.mk (And.intro Ty.t3 (And.intro Ty.t4 Ty.t26))
 have F := Fc.mk True.intro
 refine v_seqR [0] ?_; intro K1 k1
 refine zAssign ⟨?_⟩
 refine k1 _ ?_
 refine zk ⟨?_⟩
 refine v_seqR [2] ?_; intro K2 k2
 refine zMove ⟨?_⟩
 refine zc (tbNeed_con l hl) ⟨?_⟩
 refine zMove ⟨?_⟩
 refine zgMove ⟨?_⟩
 refine zgc (l1All_con l 0 0 hl) ⟨?_⟩
 refine zgUnOp ⟨?_⟩
 refine zPick ⟨?_⟩
 refine zAssign ⟨?_⟩
 refine k2 _ ?_
 refine zk ⟨?_⟩
 refine v_ret ?_
 refine r0 _ ?_
 refine zf ⟨?_⟩
 exact ret_pure rfl rfl (.inl rfl)
set_option maxRecDepth 8000 in
set_option maxHeartbeats 4000000 in
theorem roGood_con (n : Int) (ss : List (Int × Int × Int)) (fl : List (ByteArray × Int × Int × Int × Int)) (ins : List (Int × Int × Bool × List ByteArray)) (ws : List (Int × List Int)) (hs : ss.length ≤ 1048576) (hl : fl.length ≤ 1048576) (hls : ∀ t ∈ fl, t.1.size ≤ 9223372036854775807) (hil : ins.length ≤ 1048576) (hin : ∀ x ∈ ins, x.2.2.2.length ≤ 1048576) (his : ∀ x ∈ ins, ∀ s ∈ x.2.2.2, s.size ≤ 9223372036854775807) (hwl : ws.length ≤ 1048576) (hwn : ∀ x ∈ ws, x.2.length ≤ 1048576) : Con Try.prog 133 [.agg [.int .i64 n, .sl (ss.map (fun t : Int × Int × Int => V.agg [V.int .i64 t.1, V.int .i64 t.2.1, V.int .i64 t.2.2]))], .agg [.sl (fl.map (fun t : ByteArray × Int × Int × Int × Int => V.agg [V.str t.1, V.int .i64 t.2.1, V.int .i64 t.2.2.1, V.int .i64 t.2.2.2.1, V.int .i64 t.2.2.2.2])), .sl (ins.map (fun t : Int × Int × Bool × List ByteArray => V.agg [V.int .i64 t.1, V.int .i64 t.2.1, V.bool t.2.2.1, V.sl (t.2.2.2.map V.str)])), .sl (ws.map (fun t : Int × List Int => V.agg [V.int .i64 t.1, V.sl (t.2.map (V.int .i64))]))]] [] (.bool (ctlB n ss fl ins ws)) [] := by
 refine v_con [.tmp 4] [] Try.func133 rfl rfl rfl (by simp [Try.ntmps133]) ?_
 intro Q0 n0 r0
 simp only [Try.ntmps133, envFrom, Nat.reduceAdd]
 have T := Tys.mk (And.intro Ty.t3 (And.intro Ty.t4 (And.intro Ty.t9 (And.intro Ty.t26 (And.intro Ty.t70 (And.intro Ty.t72 (And.intro Ty.t74 (And.intro Ty.t84 (And.intro Ty.t85 (And.intro Ty.t87 (And.intro Ty.t93 (And.intro Ty.t141 (And.intro Ty.t182 (And.intro Ty.t192 Ty.t195))))))))))))))
 have F := Fc.mk True.intro
 refine v_seqR [2,3] ?_; intro K1 k1
 refine zBox ⟨?_⟩
 refine zBox ⟨?_⟩
 refine zAssign ⟨?_⟩
 refine k1 _ ?_
 refine zk ⟨?_⟩
 refine v_seq ?_; intro Q2 n2 e2 r2
 refine v_seqR [2,3,29] ?_; intro K3 k3
 refine zLoad ⟨?_⟩
 refine zFieldAddr ⟨?_⟩
 refine zLoad ⟨?_⟩
 refine zc (dsGood_con n ss fl hs hl hls) ⟨?_⟩
 refine zUnOp ⟨?_⟩
 refine zMove ⟨?_⟩
 refine zgFieldAddr ⟨?_⟩
 refine zgLoad ⟨?_⟩
 refine zgc (ixGood_con ins hil hin his) ⟨?_⟩
 refine zgUnOp ⟨?_⟩
 refine zPick ⟨?_⟩
 refine zMove ⟨?_⟩
 refine zgFieldAddr ⟨?_⟩
 refine zgLoad ⟨?_⟩
 refine zgLen ⟨?_⟩
 refine zgBinOp ⟨?_⟩
 refine zPick ⟨?_⟩
 refine k3 _ ?_
 refine zk ⟨?_⟩
 refine v_condS _ rfl ?_ ?_
 ·intro hc0
  have hh : ctlH n ss fl ins ws = false := by cases hq : ctlH n ss fl ins ws with | false => rfl | true => (exfalso; simp [ctlH] at hq; (try simp at hc0); simp_all; first | done | omega)
  have hbad := ctl_h hh
  refine v_seqR [4] ?_; intro K5 k5
  refine zAssign ⟨?_⟩
  refine k5 _ ?_
  refine zk ⟨?_⟩
  refine v_ret ?_
  refine r2 _ ?_
  refine r0 _ ?_
  refine zf ⟨?_⟩
  exact ret_pure rfl (by rw [hbad]) (.inl rfl)
 ·intro hc0
  have hh : ctlH n ss fl ins ws = true := by simp [ctlH]; (try simp at hc0); first | (simp_all; done) | (simp_all; omega)
  obtain ⟨hd, hnd⟩ := ctlh_facts hh
  have hfl12 := hd.hfl
  have hn14 := hd.hn
  refine v_skip ?_
  refine n2 _ _ (weak_keep [2, 3] _) ?_
  refine zk ⟨?_⟩
  refine v_seq ?_; intro Q6 n6 e6 r6
  refine v_seqR [2,3,31,32,33] ?_; intro K7 k7
  refine zFieldAddr ⟨?_⟩
  refine zLoad ⟨?_⟩
  refine zLen ⟨?_⟩
  refine zMove ⟨?_⟩
  refine k7 _ ?_
  refine zk ⟨?_⟩
  refine v_block ?_; intro Q8 n8 x8 e8 r8
  refine v_loop (fun i => ⟨[(2, .ptr 0 0 0), (3, .ptr 1 0 0), (31, .sl (ins.map (fun t : Int × Int × Bool × List ByteArray => V.agg [V.int .i64 t.1, V.int .i64 t.2.1, V.bool t.2.2.1, V.sl (t.2.2.2.map V.str)]))), (32, .int .i64 ins.length), (33, .int .i64 (Nat.cast i))], [.box (.agg [.int .i64 n, .sl (ss.map (fun t : Int × Int × Int => V.agg [V.int .i64 t.1, V.int .i64 t.2.1, V.int .i64 t.2.2]))]) .shal, .box (.agg [.sl (fl.map (fun t : ByteArray × Int × Int × Int × Int => V.agg [V.str t.1, V.int .i64 t.2.1, V.int .i64 t.2.2.1, V.int .i64 t.2.2.2.1, V.int .i64 t.2.2.2.2])), .sl (ins.map (fun t : Int × Int × Bool × List ByteArray => V.agg [V.int .i64 t.1, V.int .i64 t.2.1, V.bool t.2.2.1, V.sl (t.2.2.2.map V.str)])), .sl (ws.map (fun t : Int × List Int => V.agg [V.int .i64 t.1, V.sl (t.2.map (V.int .i64))]))]) .shal], false, 111, 0⟩) (fun i => i ≤ ins.length ∧ (ins.drop i).all (inP n fl) = ins.all (inP n fl)) (fun i => ins.length - i) 0 ?_ ?_ ?_
  ·refine weak_bothS [2, 3, 31, 32, 33] [0, 1] ⟨?_⟩
   rfl
  ·exact ⟨Nat.zero_le _, rfl⟩
  ·rintro i hok9 Q9 n9 e9 r9
   obtain ⟨hi1, hR⟩ := hok9
   refine v_seqR [2,3,31,32,33,34] ?_; intro K10 k10
   refine zBinOp ⟨?_⟩
   refine k10 _ ?_
   refine zk ⟨?_⟩
   refine v_seq ?_; intro Q11 n11 e11 r11
   refine v_condS _ rfl ?_ ?_
   ·intro hc1
    have hlt : i < ins.length := by omega
    obtain ⟨⟨x0, x1, x2, x3⟩, hx⟩ : ∃ x : Int × Int × Bool × List ByteArray, ins[i]? = some x := ⟨ins[i]'(by omega), List.getElem?_eq_getElem (by omega)⟩
    have hlx := hin _ (List.mem_of_getElem? hx)
    have hnx := hnd _ (List.mem_of_getElem? hx)
    simp only [] at hlx hnx
    have hst := all_step (p := inP n fl) hx
    have hip : inP n fl (x0, x1, x2, x3) = (hasB n x1 && x3.all (fun s => decide (0 ≤ findA fl s))) := rfl
    have hhb := has_facts (x := x1) hn14
    refine v_skip ?_
    refine n11 _ _ (weak_keep [2, 3, 31, 32, 33] _) ?_
    refine zk ⟨?_⟩
    refine v_seq ?_; intro Q13 n13 e13 r13
    refine v_block ?_; intro Q14 n14 x14 e14 r14
    refine v_seqR [2,3,6,31,32,33] ?_; intro K15 k15
    have F := Fc.mk (fun f => getD_map (f := f) hx)
    refine zIndexAddr ⟨?_⟩
    refine zLoad ⟨?_⟩
    refine zAlloc ⟨?_⟩
    refine zStore ⟨?_⟩
    refine k15 _ ?_
    refine zk ⟨?_⟩
    refine v_seq ?_; intro Q16 n16 e16 r16
    refine v_seqR [2,3,6,31,32,33,41] ?_; intro K17 k17
    refine zFieldAddr ⟨?_⟩
    refine zLoad ⟨?_⟩
    refine zFieldAddr ⟨?_⟩
    refine zLoad ⟨?_⟩
    refine zBinOp ⟨?_⟩
    refine k17 _ ?_
    refine zk ⟨?_⟩
    refine v_condS _ rfl ?_ ?_
    ·intro hc2
     have hh0 : hasB n x1 = false := by first | (simpa using hc2) | (rw [hhb, decide_eq_false (show ¬ x1 < n by (try simp at hc2); omega)]; simp)
     have hbad := ctl_i (ss := ss) (ws := ws) (show ins.all (inP n fl) = false by rw [← hR, hst, hip, hh0]; rfl)
     refine v_seqR [4] ?_; intro K19 k19
     refine zAssign ⟨?_⟩
     refine k19 _ ?_
     refine zk ⟨?_⟩
     refine v_ret ?_
     refine r16 _ ?_
     refine r14 _ ?_
     refine r13 _ ?_
     refine r9 _ ?_
     refine r8 _ ?_
     refine r6 _ ?_
     refine r0 _ ?_
     refine zf ⟨?_⟩
     exact ret_pure rfl (by rw [hbad]) (.inl rfl)
    ·intro hc2
     have hh1 : hasB n x1 = true := by first | (simpa using hc2) | (rw [hhb, decide_eq_true hnx, decide_eq_true (show x1 < n by (try simp at hc2); omega)]; rfl)
     refine v_skip ?_
     refine n16 _ _ (weak_keep [2, 3, 6, 31, 32, 33] _) ?_
     refine zk ⟨?_⟩
     refine v_seqR [2,3,31,32,33,43,44,45] ?_; intro K20 k20
     refine zFieldAddr ⟨?_⟩
     refine zLoad ⟨?_⟩
     refine zLen ⟨?_⟩
     refine zMove ⟨?_⟩
     refine k20 _ ?_
     refine zk ⟨?_⟩
     refine v_block ?_; intro Q21 n21 x21 e21 r21
     refine v_loop (fun j => ⟨[(2, .ptr 0 0 0), (3, .ptr 1 0 0), (31, .sl (ins.map (fun t : Int × Int × Bool × List ByteArray => V.agg [V.int .i64 t.1, V.int .i64 t.2.1, V.bool t.2.2.1, V.sl (t.2.2.2.map V.str)]))), (32, .int .i64 ins.length), (33, .int .i64 (Nat.cast i)), (43, .sl (x3.map V.str)), (44, .int .i64 x3.length), (45, .int .i64 (Nat.cast j))], [.box (.agg [.int .i64 n, .sl (ss.map (fun t : Int × Int × Int => V.agg [V.int .i64 t.1, V.int .i64 t.2.1, V.int .i64 t.2.2]))]) .shal, .box (.agg [.sl (fl.map (fun t : ByteArray × Int × Int × Int × Int => V.agg [V.str t.1, V.int .i64 t.2.1, V.int .i64 t.2.2.1, V.int .i64 t.2.2.2.1, V.int .i64 t.2.2.2.2])), .sl (ins.map (fun t : Int × Int × Bool × List ByteArray => V.agg [V.int .i64 t.1, V.int .i64 t.2.1, V.bool t.2.2.1, V.sl (t.2.2.2.map V.str)])), .sl (ws.map (fun t : Int × List Int => V.agg [V.int .i64 t.1, V.sl (t.2.map (V.int .i64))]))]) .shal], false, 111, 0⟩) (fun j => j ≤ x3.length ∧ (x3.drop j).all (fun s => decide (0 ≤ findA fl s)) = x3.all (fun s => decide (0 ≤ findA fl s))) (fun j => x3.length - j) 0 ?_ ?_ ?_
     ·refine weak_bothS [2, 3, 31, 32, 33, 43, 44, 45] [0, 1] ⟨?_⟩
      rfl
     ·exact ⟨Nat.zero_le _, rfl⟩
     ·rintro j hok22 Q22 n22 e22 r22
      obtain ⟨hj1, hR1⟩ := hok22
      refine v_seqR [2,3,31,32,33,43,44,45,46] ?_; intro K23 k23
      refine zBinOp ⟨?_⟩
      refine k23 _ ?_
      refine zk ⟨?_⟩
      refine v_seq ?_; intro Q24 n24 e24 r24
      refine v_condS _ rfl ?_ ?_
      ·intro hc3
       have hlj : j < x3.length := by omega
       obtain ⟨s, hs1⟩ : ∃ s, x3[j]? = some s := ⟨_, List.getElem?_eq_getElem hlj⟩
       have hst1 := all_step (p := (fun s => decide (0 ≤ findA fl s))) hs1
       refine v_skip ?_
       refine n24 _ _ (weak_keep [2, 3, 31, 32, 33, 43, 44, 45] _) ?_
       refine zk ⟨?_⟩
       refine v_seq ?_; intro Q26 n26 e26 r26
       refine v_block ?_; intro Q27 n27 x27 e27 r27
       refine v_seqR [2,3,8,31,32,33,43,44,45] ?_; intro K28 k28
       have F := Fc.mk (And.intro (fun f => getD_map (f := f) hx) (fun f => getD_map (f := f) hs1))
       refine zIndexAddr ⟨?_⟩
       refine zLoad ⟨?_⟩
       refine zAssign ⟨?_⟩
       refine k28 _ ?_
       refine zk ⟨?_⟩
       refine v_seqR [2,3,31,32,33,43,44,45,53] ?_; intro K29 k29
       refine zFieldAddr ⟨?_⟩
       refine zLoad ⟨?_⟩
       refine zMove ⟨?_⟩
       refine zc (apFind_con fl s hl) ⟨?_⟩
       refine zBinOp ⟨?_⟩
       refine k29 _ ?_
       refine zk ⟨?_⟩
       refine v_condS _ rfl ?_ ?_
       ·intro hc4
        have hbad := ctl_i (ss := ss) (ws := ws) (show ins.all (inP n fl) = false by rw [← hR, hst, hip, show x3.all (fun s => decide (0 ≤ findA fl s)) = false by rw [← hR1, hst1, decide_eq_false (show ¬ 0 ≤ findA fl s by (try simp at hc4); omega)]; rfl]; simp)
        refine v_seqR [4] ?_; intro K31 k31
        refine zAssign ⟨?_⟩
        refine k31 _ ?_
        refine zk ⟨?_⟩
        refine v_ret ?_
        refine r27 _ ?_
        refine r26 _ ?_
        refine r22 _ ?_
        refine r21 _ ?_
        refine r14 _ ?_
        refine r13 _ ?_
        refine r9 _ ?_
        refine r8 _ ?_
        refine r6 _ ?_
        refine r0 _ ?_
        refine zf ⟨?_⟩
        exact ret_pure rfl (by rw [hbad]) (.inl rfl)
       ·intro hc4
        have hfs : 0 ≤ findA fl s := by (try simp at hc4); omega
        refine v_skip ?_
        refine n27 _ ?_
        refine n26 _ _ (weak_keep [2, 3, 31, 32, 33, 43, 44, 45] _) ?_
        refine zk ⟨?_⟩
        refine v_region ?_; intro K32 k32
        refine zBinOpW ⟨?_⟩
        refine zMove ⟨?_⟩
        refine k32 _ ?_
        refine n22 _ (j + 1) ?_ ?_ ?_
        ·refine weak_bothS [2, 3, 31, 32, 33, 43, 44, 45] [0, 1] ⟨?_⟩
         rfl
        ·exact ⟨by omega, by rw [← hR1, hst1, decide_eq_true hfs]; rfl⟩
        ·show _ < _; omega
      ·intro hc3
       have hall : x3.all (fun s => decide (0 ≤ findA fl s)) = true := by rw [← hR1, all_end (by omega)]
       refine v_exit ?_
       refine e24 _ _ ?_
       refine e22 _ _ ?_
       refine x21 _ ?_
       refine n14 _ ?_
       refine n13 _ _ (weak_keep [2, 3, 31, 32, 33] _) ?_
       refine zk ⟨?_⟩
       refine v_region ?_; intro K33 k33
       refine zBinOpW ⟨?_⟩
       refine zMove ⟨?_⟩
       refine k33 _ ?_
       refine n9 _ (i + 1) ?_ ?_ ?_
       ·refine weak_bothS [2, 3, 31, 32, 33] [0, 1] ⟨?_⟩
        rfl
       ·exact ⟨by omega, by rw [← hR, hst, hip, hh1, hall]; rfl⟩
       ·show _ < _; omega
   ·intro hc1
    have hI : ins.all (inP n fl) = true := by rw [← hR, all_end (by omega)]
    refine v_exit ?_
    refine e11 _ _ ?_
    refine e9 _ _ ?_
    refine x8 _ ?_
    refine n6 _ _ (weak_keep [3] _) ?_
    refine zk ⟨?_⟩
    refine v_seq ?_; intro Q34 n34 e34 r34
    refine v_seqR [3,57,58,59] ?_; intro K35 k35
    refine zFieldAddr ⟨?_⟩
    refine zLoad ⟨?_⟩
    refine zLen ⟨?_⟩
    refine zMove ⟨?_⟩
    refine k35 _ ?_
    refine zk ⟨?_⟩
    refine v_block ?_; intro Q36 n36 x36 e36 r36
    refine v_loop (fun i => ⟨[(3, .ptr 0 0 0), (57, .sl (fl.map (fun t : ByteArray × Int × Int × Int × Int => V.agg [V.str t.1, V.int .i64 t.2.1, V.int .i64 t.2.2.1, V.int .i64 t.2.2.2.1, V.int .i64 t.2.2.2.2]))), (58, .int .i64 fl.length), (59, .int .i64 (Nat.cast i))], [.box (.agg [.sl (fl.map (fun t : ByteArray × Int × Int × Int × Int => V.agg [V.str t.1, V.int .i64 t.2.1, V.int .i64 t.2.2.1, V.int .i64 t.2.2.2.1, V.int .i64 t.2.2.2.2])), .sl (ins.map (fun t : Int × Int × Bool × List ByteArray => V.agg [V.int .i64 t.1, V.int .i64 t.2.1, V.bool t.2.2.1, V.sl (t.2.2.2.map V.str)])), .sl (ws.map (fun t : Int × List Int => V.agg [V.int .i64 t.1, V.sl (t.2.map (V.int .i64))]))]) .shal], false, 111, 0⟩) (fun i => i ≤ fl.length ∧ (fl.drop i).all (fleetP ins) = fl.all (fleetP ins)) (fun i => fl.length - i) 0 ?_ ?_ ?_
    ·refine weak_bothS [3, 57, 58, 59] [1] ⟨?_⟩
     rfl
    ·exact ⟨Nat.zero_le _, rfl⟩
    ·rintro i hok37 Q37 n37 e37 r37
     obtain ⟨hi2, hR2⟩ := hok37
     refine v_seqR [3,57,58,59,60] ?_; intro K38 k38
     refine zBinOp ⟨?_⟩
     refine k38 _ ?_
     refine zk ⟨?_⟩
     refine v_seq ?_; intro Q39 n39 e39 r39
     refine v_condS _ rfl ?_ ?_
     ·intro hc5
      have hlt : i < fl.length := by omega
      obtain ⟨⟨x0, x1, x2, x3, x4⟩, hx⟩ : ∃ x : ByteArray × Int × Int × Int × Int, fl[i]? = some x := ⟨fl[i]'(by omega), List.getElem?_eq_getElem (by omega)⟩
      have hst := all_step (p := fleetP ins) hx
      have hfp : fleetP ins (x0, x1, x2, x3, x4) = !(busyA (x0, x1, x2, x3, x4) != decide (0 ≤ commF ins x0)) := rfl
      refine v_skip ?_
      refine n39 _ _ (weak_keep [3, 57, 58, 59] _) ?_
      refine zk ⟨?_⟩
      refine v_seq ?_; intro Q41 n41 e41 r41
      refine v_block ?_; intro Q42 n42 x42 e42 r42
      refine v_seqR [3,10,57,58,59] ?_; intro K43 k43
      have F := Fc.mk (fun f => getD_map (f := f) hx)
      refine zIndexAddr ⟨?_⟩
      refine zLoad ⟨?_⟩
      refine zAlloc ⟨?_⟩
      refine zStore ⟨?_⟩
      refine k43 _ ?_
      refine zk ⟨?_⟩
      refine v_seq ?_; intro Q44 n44 e44 r44
      refine v_draw (by kernel_rfl) ?_; intro K45 q45 k45
      show aAny _ _ _ _ 10 (Array.replicate 10 false) _
      refine zdFieldAddr q45 true 0 63 ?_
      refine zdLoad q45 true 1 64 ?_
      refine zdFieldAddr q45 true 3 66 ?_
      refine zdLoad q45 true 4 67 ?_
      refine zdFieldAddr q45 true 5 68 ?_
      refine zdLoad q45 true 6 69 ?_
      refine zoc 2 (roBusy_con x4) ⟨?_⟩
      refine zoc 7 (ixOf_con ins x0 hil hin) ⟨?_⟩
      refine zdBinOp q45 true 8 71 ?_
      refine zdBinOp q45 true 9 72 ?_
      refine aAny_done (by kernel_rfl) ?_
      refine k45 _ ?_
      refine n44 _ _ (weak_keep [3, 57, 58, 59, 72] _) ?_
      refine zk ⟨?_⟩
      refine v_condS _ rfl ?_ ?_
      ·intro hc6
       have hbad := ctl_f (n := n) (ss := ss) (ws := ws) (show fl.all (fleetP ins) = false by rw [← hR2, hst, hfp]; first | (rw [hc6]; rfl) | (simp [busyA] at hc6 ⊢; simp_all; done) | (simp_all [busyA]; done))
       refine v_seqR [4] ?_; intro K47 k47
       refine zAssign ⟨?_⟩
       refine k47 _ ?_
       refine zk ⟨?_⟩
       refine v_ret ?_
       refine r42 _ ?_
       refine r41 _ ?_
       refine r37 _ ?_
       refine r36 _ ?_
       refine r34 _ ?_
       refine r0 _ ?_
       refine zf ⟨?_⟩
       exact ret_pure rfl (by rw [hbad]) (.inl rfl)
      ·intro hc6
       have hgf : fleetP ins (x0, x1, x2, x3, x4) = true := by rw [hfp]; first | (rw [hc6]; rfl) | (simp [busyA] at hc6 ⊢; simp_all; done) | (simp_all [busyA]; done)
       refine v_skip ?_
       refine n42 _ ?_
       refine n41 _ _ (weak_keep [3, 57, 58, 59] _) ?_
       refine zk ⟨?_⟩
       refine v_region ?_; intro K48 k48
       refine zBinOpW ⟨?_⟩
       refine zMove ⟨?_⟩
       refine k48 _ ?_
       refine n37 _ (i + 1) ?_ ?_ ?_
       ·refine weak_bothS [3, 57, 58, 59] [0] ⟨?_⟩
        rfl
       ·exact ⟨by omega, by rw [← hR2, hst, hgf]; rfl⟩
       ·show _ < _; omega
     ·intro hc5
      have hF : fl.all (fleetP ins) = true := by rw [← hR2, all_end (by omega)]
      refine v_exit ?_
      refine e39 _ _ ?_
      refine e37 _ _ ?_
      refine x36 _ ?_
      refine n34 _ _ (weak_keep [3] _) ?_
      refine zk ⟨?_⟩
      refine v_seq ?_; intro Q49 n49 e49 r49
      refine v_seqR [3,75,76,77] ?_; intro K50 k50
      refine zFieldAddr ⟨?_⟩
      refine zLoad ⟨?_⟩
      refine zLen ⟨?_⟩
      refine zMove ⟨?_⟩
      refine k50 _ ?_
      refine zk ⟨?_⟩
      refine v_block ?_; intro Q51 n51 x51 e51 r51
      refine v_loop (fun i => ⟨[(3, .ptr 0 0 0), (75, .sl (ws.map (fun t : Int × List Int => V.agg [V.int .i64 t.1, V.sl (t.2.map (V.int .i64))]))), (76, .int .i64 ws.length), (77, .int .i64 (Nat.cast i))], [.box (.agg [.sl (fl.map (fun t : ByteArray × Int × Int × Int × Int => V.agg [V.str t.1, V.int .i64 t.2.1, V.int .i64 t.2.2.1, V.int .i64 t.2.2.2.1, V.int .i64 t.2.2.2.2])), .sl (ins.map (fun t : Int × Int × Bool × List ByteArray => V.agg [V.int .i64 t.1, V.int .i64 t.2.1, V.bool t.2.2.1, V.sl (t.2.2.2.map V.str)])), .sl (ws.map (fun t : Int × List Int => V.agg [V.int .i64 t.1, V.sl (t.2.map (V.int .i64))]))]) .shal], false, 111, 0⟩) (fun i => i ≤ ws.length ∧ ∀ j, j < i → wantP ins ws j = true) (fun i => ws.length - i) 0 ?_ ?_ ?_
      ·refine weak_bothS [3, 75, 76, 77] [0] ⟨?_⟩
       rfl
      ·exact ⟨Nat.zero_le _, fun j h => absurd h (Nat.not_lt_zero _)⟩
      ·rintro i hok52 Q52 n52 e52 r52
       obtain ⟨hi3, hR3⟩ := hok52
       refine v_seqR [3,75,76,77,78] ?_; intro K53 k53
       refine zBinOp ⟨?_⟩
       refine k53 _ ?_
       refine zk ⟨?_⟩
       refine v_seq ?_; intro Q54 n54 e54 r54
       refine v_condS _ rfl ?_ ?_
       ·intro hc7
        have hlt : i < ws.length := by omega
        obtain ⟨⟨x0, x1⟩, hx⟩ : ∃ x : Int × List Int, ws[i]? = some x := ⟨ws[i]'(by omega), List.getElem?_eq_getElem (by omega)⟩
        have hlx := hwn _ (List.mem_of_getElem? hx)
        simp only [] at hlx
        rcases Nat.eq_zero_or_pos i with h0 | h0
        ·skip
         have hi0 : ¬ ((0 : Int) < (i : Int)) := by omega
         have hwp : wantP ins ws i = (decide (0 ≤ openF ins x0) && realNeed x1) := by subst h0; exact wantP_zero hx
         refine v_skip ?_
         refine n54 _ _ (weak_keep [3, 75, 76, 77] _) ?_
         refine zk ⟨?_⟩
         refine v_seq ?_; intro Q56 n56 e56 r56
         refine v_block ?_; intro Q57 n57 x57 e57 r57
         refine v_seqR [3,11,12,75,76,77] ?_; intro K58 k58
         have F := Fc.mk (And.intro (fun f => getD_map (f := f) hx) (And.intro hi0 (And.intro @decide_false @Bool.and_false)))
         refine zMove ⟨?_⟩
         refine zIndexAddr ⟨?_⟩
         refine zLoad ⟨?_⟩
         refine zAlloc ⟨?_⟩
         refine zAssign ⟨?_⟩
         refine zStore ⟨?_⟩
         refine k58 _ ?_
         refine zk ⟨?_⟩
         refine v_seq ?_; intro Q59 n59 e59 r59
         refine v_draw (by kernel_rfl) ?_; intro K60 q60 k60
         show aAny _ _ _ _ 28 (Array.replicate 28 false) _
         refine zdFieldAddr q60 true 0 82 ?_
         refine zdLoad q60 true 1 83 ?_
         refine zdFieldAddr q60 true 2 84 ?_
         refine zdLoad q60 true 3 85 ?_
         refine zoc 4 (ixFind_con ins x0 hil) ⟨?_⟩
         refine zdBinOp q60 true 5 87 ?_
         refine zdMove q60 true 6 88 ?_
         refine zdgFieldAddr q60 true 7 89 ?_
         refine zdgLoad q60 true 8 90 ?_
         refine zogc 9 ((roNeed_con _ hlx)) ⟨?_⟩
         refine zdgUnOp q60 true 10 92 ?_
         refine zdPick q60 true 11 93 ?_
         refine zdMove q60 true 12 94 ?_
         refine zdgMove q60 true 13 95 ?_
         refine zdgBinOp q60 true 14 96 ?_
         refine zdgMove q60 true 15 97 ?_
         refine zdgFieldAddr q60 true 16 98 ?_
         refine zdgLoad q60 true 17 99 ?_
         refine zdgMove q60 true 18 100 ?_
         refine zdgBinOpW q60 true 19 101 ?_
         refine zdgIndexAddr q60 true 20 102 ?_
         refine zdgFieldAddr q60 true 21 103 ?_
         refine zdgLoad q60 true 22 104 ?_
         refine zdgFieldAddr q60 true 23 105 ?_
         refine zdgLoad q60 true 24 106 ?_
         refine zdgBinOp q60 true 25 107 ?_
         refine zdgPick q60 true 26 108 ?_
         refine zdPick q60 true 27 109 ?_
         refine aAny_done (by kernel_rfl) ?_
         refine k60 _ ?_
         refine n59 _ _ (weak_keep [3, 75, 76, 77, 109] _) ?_
         refine zk ⟨?_⟩
         refine v_condS _ rfl ?_ ?_
         ·intro hc8
          have hbw : wantP ins ws i = false := by
           rw [hwp]
           (try simp at hc8)
           first | (simp; done) | (simp [hc8]; done) | (simp; exact hc8) | (simp; intro q; exact hc8 q) | (rcases hc8 with h | h <;> first | (rw [decide_eq_false (show ¬ 0 ≤ openF ins x0 by omega)]; simp; done) | (rw [decide_eq_false (show ¬ 0 ≤ openF ins x0 by omega)]; rfl) | (simp [h]; done)) | (simp; intros; simp_all; omega) | (simp; intros; simp_all; done) | (rcases hc8 with h | h <;> simp [h]; done) | (simp_all; done)
          have hbad := ctl_w (n := n) (ss := ss) (fl := fl) hlt hbw
          refine v_seqR [4] ?_; intro K62 k62
          refine zAssign ⟨?_⟩
          refine k62 _ ?_
          refine zk ⟨?_⟩
          refine v_ret ?_
          refine r57 _ ?_
          refine r56 _ ?_
          refine r52 _ ?_
          refine r51 _ ?_
          refine r49 _ ?_
          refine r0 _ ?_
          refine zf ⟨?_⟩
          exact ret_pure rfl (by rw [hbad]) (.inl rfl)
         ·intro hc8
          have hgw : wantP ins ws i = true := by
           rw [hwp]
           (try simp at hc8)
           first | (simp [hc8]; done) | (simp; omega) | (simp_all; done) | (simp_all; omega)
          refine v_skip ?_
          refine n57 _ ?_
          refine n56 _ _ (weak_keep [3, 75, 76, 77] _) ?_
          refine zk ⟨?_⟩
          refine v_region ?_; intro K63 k63
          refine zBinOpW ⟨?_⟩
          refine zMove ⟨?_⟩
          refine k63 _ ?_
          refine n52 _ (i + 1) ?_ ?_ ?_
          ·refine weak_bothS [3, 75, 76, 77] [0] ⟨?_⟩
           rfl
          ·exact ⟨by omega, upto_step hR3 hgw⟩
          ·show _ < _; omega
        ·skip
         obtain ⟨⟨y0, y1⟩, hy⟩ : ∃ x : Int × List Int, ws[i - 1]? = some x := ⟨ws[i - 1]'(by omega), List.getElem?_eq_getElem (by omega)⟩
         have hi0 : (0 : Int) < i := by omega
         have hk : ((i : Int) - 1).toNat = i - 1 := by omega
         have hwp := wantP_succ (ins := ins) h0 hy hx
         refine v_skip ?_
         refine n54 _ _ (weak_keep [3, 75, 76, 77] _) ?_
         refine zk ⟨?_⟩
         refine v_seq ?_; intro Q64 n64 e64 r64
         refine v_block ?_; intro Q65 n65 x65 e65 r65
         refine v_seqR [3,11,12,75,76,77] ?_; intro K66 k66
         have F := Fc.mk (And.intro (fun f => getD_map (f := f) hx) (And.intro hi0 (And.intro hk (And.intro (fun f => getD_map (f := f) hy) (And.intro @decide_true @Bool.and_true)))))
         refine zMove ⟨?_⟩
         refine zIndexAddr ⟨?_⟩
         refine zLoad ⟨?_⟩
         refine zAlloc ⟨?_⟩
         refine zAssign ⟨?_⟩
         refine zStore ⟨?_⟩
         refine k66 _ ?_
         refine zk ⟨?_⟩
         refine v_seq ?_; intro Q67 n67 e67 r67
         refine v_draw (by kernel_rfl) ?_; intro K68 q68 k68
         show aAny _ _ _ _ 28 (Array.replicate 28 false) _
         refine zdFieldAddr q68 true 0 82 ?_
         refine zdLoad q68 true 1 83 ?_
         refine zdFieldAddr q68 true 2 84 ?_
         refine zdLoad q68 true 3 85 ?_
         refine zoc 4 (ixFind_con ins x0 hil) ⟨?_⟩
         refine zdBinOp q68 true 5 87 ?_
         refine zdMove q68 true 6 88 ?_
         refine zdgFieldAddr q68 true 7 89 ?_
         refine zdgLoad q68 true 8 90 ?_
         refine zogc 9 ((roNeed_con _ hlx)) ⟨?_⟩
         refine zdgUnOp q68 true 10 92 ?_
         refine zdPick q68 true 11 93 ?_
         refine zdMove q68 true 12 94 ?_
         refine zdgMove q68 true 13 95 ?_
         refine zdgBinOp q68 true 14 96 ?_
         refine zdgMove q68 true 15 97 ?_
         refine zdgFieldAddr q68 true 16 98 ?_
         refine zdgLoad q68 true 17 99 ?_
         refine zdgMove q68 true 18 100 ?_
         refine zdgBinOpW q68 true 19 101 ?_
         refine zdgIndexAddr q68 true 20 102 ?_
         refine zdgFieldAddr q68 true 21 103 ?_
         refine zdgLoad q68 true 22 104 ?_
         refine zdgFieldAddr q68 true 23 105 ?_
         refine zdgLoad q68 true 24 106 ?_
         refine zdgBinOp q68 true 25 107 ?_
         refine zdgPick q68 true 26 108 ?_
         refine zdPick q68 true 27 109 ?_
         refine aAny_done (by kernel_rfl) ?_
         refine k68 _ ?_
         refine n67 _ _ (weak_keep [3, 75, 76, 77, 109] _) ?_
         refine zk ⟨?_⟩
         refine v_condS _ rfl ?_ ?_
         ·intro hc8
          have hbw : wantP ins ws i = false := by
           rw [hwp]
           (try simp at hc8)
           first | (simp; done) | (simp [hc8]; done) | (simp; exact hc8) | (simp; intro q; exact hc8 q) | (rcases hc8 with h | h <;> first | (rw [decide_eq_false (show ¬ 0 ≤ openF ins x0 by omega)]; simp; done) | (rw [decide_eq_false (show ¬ 0 ≤ openF ins x0 by omega)]; rfl) | (simp [h]; done)) | (simp; intros; simp_all; omega) | (simp; intros; simp_all; done) | (rcases hc8 with h | h <;> simp [h]; done) | (simp_all; done)
          have hbad := ctl_w (n := n) (ss := ss) (fl := fl) hlt hbw
          refine v_seqR [4] ?_; intro K70 k70
          refine zAssign ⟨?_⟩
          refine k70 _ ?_
          refine zk ⟨?_⟩
          refine v_ret ?_
          refine r65 _ ?_
          refine r64 _ ?_
          refine r52 _ ?_
          refine r51 _ ?_
          refine r49 _ ?_
          refine r0 _ ?_
          refine zf ⟨?_⟩
          exact ret_pure rfl (by rw [hbad]) (.inl rfl)
         ·intro hc8
          have hgw : wantP ins ws i = true := by
           rw [hwp]
           (try simp at hc8)
           first | (simp [hc8]; done) | (simp; omega) | (simp_all; done) | (simp_all; omega)
          refine v_skip ?_
          refine n65 _ ?_
          refine n64 _ _ (weak_keep [3, 75, 76, 77] _) ?_
          refine zk ⟨?_⟩
          refine v_region ?_; intro K71 k71
          refine zBinOpW ⟨?_⟩
          refine zMove ⟨?_⟩
          refine k71 _ ?_
          refine n52 _ (i + 1) ?_ ?_ ?_
          ·refine weak_bothS [3, 75, 76, 77] [0] ⟨?_⟩
           rfl
          ·exact ⟨by omega, upto_step hR3 hgw⟩
          ·show _ < _; omega
       ·intro hc7
        refine v_exit ?_
        refine e54 _ _ ?_
        refine e52 _ _ ?_
        refine x51 _ ?_
        refine n49 _ _ (weak_keep [] _) ?_
        refine zk ⟨?_⟩
        refine v_seqR [4] ?_; intro K72 k72
        refine zAssign ⟨?_⟩
        refine k72 _ ?_
        refine zk ⟨?_⟩
        refine v_ret ?_
        refine r0 _ ?_
        refine zf ⟨?_⟩
        exact ret_pure rfl (by rw [ctl_yes hh hI hF (by omega) hR3]) (.inl rfl)
set_option maxHeartbeats 1000000 in
theorem eqControl_con (fl : List (ByteArray × Int × Int × Int × Int)) (ins : List (Int × Int × Bool × List ByteArray)) (ws : List (Int × List Int)) (hl : fl.length ≤ 1048576) (hil : ins.length ≤ 1048576) (hin : ∀ x ∈ ins, x.2.2.2.length ≤ 1048576) (hwl : ws.length ≤ 1048576) (hwn : ∀ x ∈ ws, x.2.length ≤ 1048576) : Con Try.prog 56 [.agg [.sl (fl.map (fun t : ByteArray × Int × Int × Int × Int => V.agg [V.str t.1, V.int .i64 t.2.1, V.int .i64 t.2.2.1, V.int .i64 t.2.2.2.1, V.int .i64 t.2.2.2.2])), .sl (ins.map (fun t : Int × Int × Bool × List ByteArray => V.agg [V.int .i64 t.1, V.int .i64 t.2.1, V.bool t.2.2.1, V.sl (t.2.2.2.map V.str)])), .sl (ws.map (fun t : Int × List Int => V.agg [V.int .i64 t.1, V.sl (t.2.map (V.int .i64))]))], .agg [.sl (fl.map (fun t : ByteArray × Int × Int × Int × Int => V.agg [V.str t.1, V.int .i64 t.2.1, V.int .i64 t.2.2.1, V.int .i64 t.2.2.2.1, V.int .i64 t.2.2.2.2])), .sl (ins.map (fun t : Int × Int × Bool × List ByteArray => V.agg [V.int .i64 t.1, V.int .i64 t.2.1, V.bool t.2.2.1, V.sl (t.2.2.2.map V.str)])), .sl (ws.map (fun t : Int × List Int => V.agg [V.int .i64 t.1, V.sl (t.2.map (V.int .i64))]))]] [] (.bool true) [] := by
 refine v_con [.tmp 4] [] Try.func56 rfl rfl rfl (by simp [Try.ntmps56]) ?_
 intro Q0 n0 r0
 simp only [Try.ntmps56, envFrom, Nat.reduceAdd]
 have T := Tys.mk (And.intro Ty.t3 (And.intro Ty.t4 (And.intro Ty.t9 (And.intro Ty.t26 (And.intro Ty.t74 (And.intro Ty.t84 (And.intro Ty.t85 (And.intro Ty.t87 (And.intro Ty.t93 (And.intro Ty.t141 (And.intro Ty.t192 Ty.t195)))))))))))
 have F := Fc.mk True.intro
 refine v_seqR [2,3] ?_; intro K1 k1
 refine zBox ⟨?_⟩
 refine zBox ⟨?_⟩
 refine zAssign ⟨?_⟩
 refine k1 _ ?_
 refine zk ⟨?_⟩
 refine v_seq ?_; intro Q2 n2 e2 r2
 refine v_seqR [2,3,10] ?_; intro K3 k3
 refine zFieldAddr ⟨?_⟩
 refine zLoad ⟨?_⟩
 refine zFieldAddr ⟨?_⟩
 refine zLoad ⟨?_⟩
 refine zc (eqApplianceS_con fl fl hl) ⟨?_⟩
 refine zUnOp ⟨?_⟩
 refine k3 _ ?_
 refine zk ⟨?_⟩
 refine v_cond _ rfl ?_ ?_
 ·intro hc0
  exfalso; simp at hc0
 ·intro hc0
  try simp only [zC, reduceCtorEq] at hc0
  refine v_skip ?_
  refine n2 _ _ (weak_keep [2, 3] _) ?_
  refine zk ⟨?_⟩
  refine v_seq ?_; intro Q5 n5 e5 r5
  refine v_seqR [2,3,16] ?_; intro K6 k6
  refine zFieldAddr ⟨?_⟩
  refine zLoad ⟨?_⟩
  refine zFieldAddr ⟨?_⟩
  refine zLoad ⟨?_⟩
  refine zc (eqIncidentS_con ins ins hil hin) ⟨?_⟩
  refine zUnOp ⟨?_⟩
  refine k6 _ ?_
  refine zk ⟨?_⟩
  refine v_cond _ rfl ?_ ?_
  ·intro hc1
   exfalso; simp at hc1
  ·intro hc1
   try simp only [zC, reduceCtorEq] at hc1
   refine v_skip ?_
   refine n5 _ _ (weak_keep [2, 3] _) ?_
   refine zk ⟨?_⟩
   refine v_seq ?_; intro Q8 n8 e8 r8
   refine v_seqR [22] ?_; intro K9 k9
   refine zFieldAddr ⟨?_⟩
   refine zLoad ⟨?_⟩
   refine zFieldAddr ⟨?_⟩
   refine zLoad ⟨?_⟩
   refine zc (eqWantS_con ws ws hwl hwn) ⟨?_⟩
   refine zUnOp ⟨?_⟩
   refine k9 _ ?_
   refine zk ⟨?_⟩
   refine v_cond _ rfl ?_ ?_
   ·intro hc2
    exfalso; simp at hc2
   ·intro hc2
    try simp only [zC, reduceCtorEq] at hc2
    refine v_skip ?_
    refine n8 _ _ (weak_keep [] _) ?_
    refine zk ⟨?_⟩
    refine v_seqR [4] ?_; intro K11 k11
    refine zAssign ⟨?_⟩
    refine k11 _ ?_
    refine zk ⟨?_⟩
    refine v_ret ?_
    refine r0 _ ?_
    refine zf ⟨?_⟩
    exact ret_pure rfl rfl (.inl rfl)
end Go.Proofs.Ytdgenniiidgimaa
