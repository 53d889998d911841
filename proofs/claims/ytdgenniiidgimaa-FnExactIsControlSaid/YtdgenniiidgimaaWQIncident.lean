/- What functions compute (QIncident). No condition. -/
import Derived.Test.YtdgenniiidgimaaTy
import Derived.Test.YtdgenniiidgimaaVmG
import Derived.Test.YtdgenniiidgimaaWSlSz
import Derived.Test.YtdgenniiidgimaaWStrs
import Derived.Test.YtdgenniiidgimaaWSzL
import Derived.Test.YtdgenniiidgimaaWBase
set_option linter.unusedSimpArgs false
set_option linter.unusedVariables false
set_option linter.defProp false
namespace Go.Proofs.Ytdgenniiidgimaa
open Go Go.Vm

def szIncident1 (n : Int) (t : Int × Int × Bool × List ByteArray) : Int := szSL n t.2.2.2
theorem szIncident1_le (n : Int) (t : Int × Int × Bool × List ByteArray) (hn : 0 ≤ n) : szIncident1 n t ≤ n := szSL_le hn
theorem szIncident_lens {n : Int} {l : List (Int × Int × Bool × List ByteArray)} (hn : 0 ≤ n) (h : 0 ≤ szLst szIncident1 n l) : ∀ t ∈ l, (t.2.2.2.length : Int) ≤ n :=
  szLst_le (f := szIncident1) (g := fun t => (t.2.2.2.length : Int)) (fun n x h0 h1 => ⟨szSL_len h1, szIncident1_le n x h0⟩) hn h

set_option maxHeartbeats 1000000 in
theorem szIncident_con (x0 : Int) (x1 : Int) (x2 : Bool) (x3 : List ByteArray) (n : Int) (hn : 0 ≤ n ∧ n ≤ 1048576) (hlx : x3.length ≤ 9223372036854775807) (hlxs : ∀ s ∈ x3, s.size ≤ 9223372036854775807) : Con Try.prog 181 [.agg [V.int .i64 x0, V.int .i64 x1, V.bool x2, V.sl (x3.map V.str)], .int .i64 n] [] (.int .i64 (szIncident1 n (x0, x1, x2, x3))) [] := by
 refine v_con [.tmp 4] [] Try.func181 rfl rfl rfl (by simp [Try.ntmps181]) ?_
 intro Q0 n0 r0
 simp only [Try.ntmps181, envFrom, Nat.reduceAdd]
 have T := Tys.mk (And.intro Ty.t3 (And.intro Ty.t4 (And.intro Ty.t9 (And.intro Ty.t93 Ty.t205))))
 have F := Fc.mk True.intro
 refine v_seq ?_; intro Q1 n1 e1 r1
 refine v_region ?_; intro K2 k2
 refine zBox ⟨?_⟩
 refine zAssign ⟨?_⟩
 refine k2 _ ?_
 refine n1 _ _ (weak_keep [1, 2] _) ?_
 refine zk ⟨?_⟩
 refine v_seq ?_; intro Q3 n3 e3 r3
 refine v_region ?_; intro K4 k4
 refine zFieldAddr ⟨?_⟩
 refine zLoad ⟨?_⟩
 refine zMove ⟨?_⟩
 refine zc ((szStringS_con n x3 hn hlx hlxs : Con _ _ _ _ (.int .i64 (szSL n x3)) _)) ⟨?_⟩
 refine zAssign ⟨?_⟩
 refine k4 _ ?_
 refine n3 _ _ (weak_keep [1] _) ?_
 refine zk ⟨?_⟩
 refine v_seq ?_; intro Q5 n5 e5 r5
 refine v_seq ?_; intro Q6 n6 e6 r6
 refine v_region ?_; intro K7 k7
 refine zMove ⟨?_⟩
 refine zBinOp ⟨?_⟩
 refine k7 _ ?_
 refine n6 _ _ (weak_keep [1, 10] _) ?_
 refine zk ⟨?_⟩
 refine v_condS _ rfl ?_ ?_
 ·intro hc0
  refine v_seq ?_; intro Q9 n9 e9 r9
  refine v_region ?_; intro K10 k10
  refine zAssign ⟨?_⟩
  refine k10 _ ?_
  refine n9 _ _ (weak_keep [4] _) ?_
  refine zk ⟨?_⟩
  refine v_ret ?_
  refine r5 _ ?_
  refine r0 _ ?_
  refine zf ⟨?_⟩
  exact ret_pure rfl (by rw [show szIncident1 n (x0, x1, x2, x3) = -1 from szSL_neg hc0]) (.inl rfl)
 ·intro hc0
  refine v_skip ?_
  refine n5 _ _ (weak_keep [1] _) ?_
  refine zk ⟨?_⟩
  refine v_seq ?_; intro Q11 n11 e11 r11
  refine v_region ?_; intro K12 k12
  refine zMove ⟨?_⟩
  refine zAssign ⟨?_⟩
  refine k12 _ ?_
  refine n11 _ _ (weak_keep [4] _) ?_
  refine zk ⟨?_⟩
  refine v_ret ?_
  refine r0 _ ?_
  refine zf ⟨?_⟩
  exact ret_pure rfl rfl (.inl rfl)
set_option maxHeartbeats 1000000 in
theorem szIncidentS_con (n : Int) (ll : List (Int × Int × Bool × List ByteArray)) (hn : 0 ≤ n ∧ n ≤ 1048576) (hl : ll.length ≤ 9223372036854775807) (hls : ∀ t ∈ ll, t.2.2.2.length ≤ 9223372036854775807 ∧ ∀ s ∈ t.2.2.2, s.size ≤ 9223372036854775807) : Con Try.prog 131 [.sl (ll.map (fun t : Int × Int × Bool × List ByteArray => V.agg [V.int .i64 t.1, V.int .i64 t.2.1, V.bool t.2.2.1, V.sl (t.2.2.2.map V.str)])), .int .i64 n] [] (.int .i64 (if n - ll.length < 0 then -1 else szLst szIncident1 (n - ll.length) ll)) [] := by
 refine v_con [.tmp 4] [] Try.func131 rfl rfl rfl (by simp [Try.ntmps131]) ?_
 intro Q0 n0 r0
 simp only [Try.ntmps131, envFrom, Nat.reduceAdd]
 have T := Tys.mk (And.intro Ty.t3 (And.intro Ty.t4 (And.intro Ty.t9 (And.intro Ty.t93 (And.intro Ty.t99 Ty.t205)))))
 have F := Fc.mk True.intro
 refine v_seq ?_; intro Q1 n1 e1 r1
 refine v_region ?_; intro K2 k2
 refine zAssign ⟨?_⟩
 refine k2 _ ?_
 refine n1 _ _ (weak_keep [0, 1] _) ?_
 refine zk ⟨?_⟩
 refine v_seq ?_; intro Q3 n3 e3 r3
 refine v_region ?_; intro K4 k4
 refine zMove ⟨?_⟩
 refine zMove ⟨?_⟩
 refine zLen ⟨?_⟩
 refine zBinOpW ⟨?_⟩
 refine zAssign ⟨?_⟩
 refine k4 _ ?_
 refine n3 _ _ (weak_keep [0, 1] _) ?_
 refine zk ⟨?_⟩
 refine v_seq ?_; intro Q5 n5 e5 r5
 refine v_seq ?_; intro Q6 n6 e6 r6
 refine v_region ?_; intro K7 k7
 refine zMove ⟨?_⟩
 refine zBinOp ⟨?_⟩
 refine k7 _ ?_
 refine n6 _ _ (weak_keep [0, 1, 11] _) ?_
 refine zk ⟨?_⟩
 refine v_condS _ rfl ?_ ?_
 ·intro hc0
  refine v_seq ?_; intro Q9 n9 e9 r9
  refine v_region ?_; intro K10 k10
  refine zAssign ⟨?_⟩
  refine k10 _ ?_
  refine n9 _ _ (weak_keep [4] _) ?_
  refine zk ⟨?_⟩
  refine v_ret ?_
  refine r5 _ ?_
  refine r0 _ ?_
  refine zf ⟨?_⟩
  exact ret_pure rfl (by rw [if_pos (by omega)]) (.inl rfl)
 ·intro hc0
  refine v_skip ?_
  refine n5 _ _ (weak_keep [0, 1] _) ?_
  refine zk ⟨?_⟩
  refine v_seq ?_; intro Q11 n11 e11 r11
  refine v_seq ?_; intro Q12 n12 e12 r12
  refine v_region ?_; intro K13 k13
  refine zAssign ⟨?_⟩
  refine k13 _ ?_
  refine n12 _ _ (weak_keep [0, 1, 5] _) ?_
  refine zk ⟨?_⟩
  refine v_block ?_; intro Q14 n14 x14 e14 r14
  refine v_loop (fun p => ⟨[(0, .sl (ll.map (fun t : Int × Int × Bool × List ByteArray => V.agg [V.int .i64 t.1, V.int .i64 t.2.1, V.bool t.2.2.1, V.sl (t.2.2.2.map V.str)]))), (1, .int .i64 p.2), (5, .int .i64 (Nat.cast p.1))], [], false, 27, 0⟩) (fun p => p.1 ≤ ll.length ∧ 0 ≤ p.2 ∧ p.2 ≤ 1048576 ∧ szLst szIncident1 p.2 (ll.drop p.1) = szLst szIncident1 (n - ll.length) ll) (fun p => ll.length - p.1) (0, n - ll.length) ?_ ?_ ?_
  ·refine weak_of [0, 1, 5] ?_
   simp only [keep_mk, keepE_nil, keepE_cons, look_cons, look_nil, Nat.reduceEqDiff, reduceIte]
   rfl
  ·exact ⟨Nat.zero_le _, by omega, by omega, by simp⟩
  ·rintro ⟨i, m⟩ hok15 Q15 n15 e15 r15
   obtain ⟨hi1, hm0, hm1, hR⟩ := hok15
   simp only [] at hi1 hm0 hm1 hR ⊢
   refine v_seq ?_; intro Q16 n16 e16 r16
   refine v_seq ?_; intro Q17 n17 e17 r17
   refine v_region ?_; intro K18 k18
   refine zMove ⟨?_⟩
   refine zMove ⟨?_⟩
   refine zLen ⟨?_⟩
   refine zBinOp ⟨?_⟩
   refine k18 _ ?_
   refine n17 _ _ (weak_keep [0, 1, 5, 15] _) ?_
   refine zk ⟨?_⟩
   refine v_condS _ rfl ?_ ?_
   ·intro hc1
    have hlt : i < ll.length := by omega
    obtain ⟨⟨x0, x1, x2, x3⟩, hx⟩ : ∃ x : Int × Int × Bool × List ByteArray, ll[i]? = some x := ⟨ll[i]'(by omega), List.getElem?_eq_getElem (by omega)⟩
    have hlx := hls _ (List.mem_of_getElem? hx)
    simp only [] at hlx
    have hstep : szLst szIncident1 m (ll.drop i) = if szIncident1 m (x0, x1, x2, x3) < 0 then -1 else szLst szIncident1 (szIncident1 m (x0, x1, x2, x3)) (ll.drop (i + 1)) := by rw [getElem_drop_cons hx, szLst]
    have hzle := szIncident1_le m (x0, x1, x2, x3) hm0
    refine v_skip ?_
    refine n16 _ _ (weak_keep [0, 1, 5] _) ?_
    refine zk ⟨?_⟩
    refine v_seq ?_; intro Q20 n20 e20 r20
    refine v_block ?_; intro Q21 n21 x21 e21 r21
    refine v_seq ?_; intro Q22 n22 e22 r22
    refine v_region ?_; intro K23 k23
    have F := Fc.mk (fun f => getD_map (f := f) hx)
    refine zMove ⟨?_⟩
    refine zMove ⟨?_⟩
    refine zIndexAddr ⟨?_⟩
    refine zLoad ⟨?_⟩
    refine zMove ⟨?_⟩
    refine zc (szIncident_con x0 x1 x2 x3 m ⟨hm0, hm1⟩ hlx.1 hlx.2) ⟨?_⟩
    refine zAssign ⟨?_⟩
    refine k23 _ ?_
    refine n22 _ _ (weak_keep [0, 1, 5] _) ?_
    refine zk ⟨?_⟩
    refine v_seq ?_; intro Q24 n24 e24 r24
    refine v_region ?_; intro K25 k25
    refine zMove ⟨?_⟩
    refine zBinOp ⟨?_⟩
    refine k25 _ ?_
    refine n24 _ _ (weak_keep [0, 1, 5, 25] _) ?_
    refine zk ⟨?_⟩
    refine v_condS _ rfl ?_ ?_
    ·intro hc2
     refine v_seq ?_; intro Q27 n27 e27 r27
     refine v_region ?_; intro K28 k28
     refine zAssign ⟨?_⟩
     refine k28 _ ?_
     refine n27 _ _ (weak_keep [4] _) ?_
     refine zk ⟨?_⟩
     refine v_ret ?_
     refine r21 _ ?_
     refine r20 _ ?_
     refine r15 _ ?_
     refine r14 _ ?_
     refine r11 _ ?_
     refine r0 _ ?_
     refine zf ⟨?_⟩
     exact ret_pure rfl (by rw [if_neg (by omega), ← hR, hstep, if_pos hc2]) (.inl rfl)
    ·intro hc2
     refine v_skip ?_
     refine n21 _ ?_
     refine n20 _ _ (weak_keep [0, 1, 5] _) ?_
     refine zk ⟨?_⟩
     refine v_region ?_; intro K29 k29
     refine zMove ⟨?_⟩
     refine zBinOpW ⟨?_⟩
     refine zAssign ⟨?_⟩
     refine k29 _ ?_
     refine n15 _ (i + 1, szIncident1 m (x0, x1, x2, x3)) ?_ ?_ ?_
     ·refine weak_of [0, 1, 5] ?_
      simp only [keep_mk, keepE_nil, keepE_cons, look_cons, look_nil, Nat.reduceEqDiff, reduceIte]
      rfl
     ·exact ⟨by simp only []; omega, by simp only []; omega, by simp only []; omega, by simp only []; rw [← hR, hstep, if_neg (by omega)]⟩
     ·show _ < _; simp only []; omega
   ·intro hc1
    refine v_exit ?_
    refine e16 _ _ ?_
    refine e15 _ _ ?_
    refine x14 _ ?_
    refine n11 _ _ (weak_keep [1] _) ?_
    refine zk ⟨?_⟩
    refine v_seq ?_; intro Q30 n30 e30 r30
    refine v_region ?_; intro K31 k31
    refine zMove ⟨?_⟩
    refine zAssign ⟨?_⟩
    refine k31 _ ?_
    refine n30 _ _ (weak_keep [4] _) ?_
    refine zk ⟨?_⟩
    refine v_ret ?_
    refine r0 _ ?_
    refine zf ⟨?_⟩
    exact ret_pure rfl (by rw [if_neg (by omega), ← hR, List.drop_of_length_le (by omega)]; rfl) (.inl rfl)
set_option maxHeartbeats 1000000 in
theorem toIncident_con (x0 : Int) (x1 : Int) (x2 : Bool) (x3 : List ByteArray) (hlx : x3.length ≤ 1048576) : Con Try.prog 188 [.agg [V.int .i64 x0, V.int .i64 x1, V.bool x2, V.sl (x3.map V.str)]] [] (.agg [V.int .i64 x0, V.int .i64 x1, V.bool x2, .ref 0]) [.arr (x3.map V.str) .flat] := by
 refine v_con [.cell 2 192] [] Try.func188 rfl rfl rfl (by simp [Try.ntmps188]) ?_
 intro Q0 n0 r0
 simp only [Try.ntmps188, envFrom, Nat.reduceAdd]
 have T := Tys.mk (And.intro Ty.t3 (And.intro Ty.t4 (And.intro Ty.t9 (And.intro Ty.t93 (And.intro Ty.t192 Ty.t205)))))
 have F := Fc.mk True.intro
 refine v_seq ?_; intro Q1 n1 e1 r1
 refine v_region ?_; intro K2 k2
 refine zBox ⟨?_⟩
 refine zAlloc ⟨?_⟩
 refine k2 _ ?_
 refine n1 _ _ (weak_keep [1, 2] _) ?_
 refine zk ⟨?_⟩
 refine v_seq ?_; intro Q3 n3 e3 r3
 refine v_region ?_; intro K4 k4
 refine zAlloc ⟨?_⟩
 refine k4 _ ?_
 refine n3 _ _ (weak_keep [1, 2, 3] _) ?_
 refine zk ⟨?_⟩
 refine v_seq ?_; intro Q5 n5 e5 r5
 refine v_region ?_; intro K6 k6
 refine zFieldAddr ⟨?_⟩
 refine zLoad ⟨?_⟩
 refine zFieldAddr ⟨?_⟩
 refine zStore ⟨?_⟩
 refine k6 _ ?_
 refine n5 _ _ (weak_keep [1, 2, 3] _) ?_
 refine zk ⟨?_⟩
 refine v_seq ?_; intro Q7 n7 e7 r7
 refine v_region ?_; intro K8 k8
 refine zFieldAddr ⟨?_⟩
 refine zLoad ⟨?_⟩
 refine zFieldAddr ⟨?_⟩
 refine zStore ⟨?_⟩
 refine k8 _ ?_
 refine n7 _ _ (weak_keep [1, 2, 3] _) ?_
 refine zk ⟨?_⟩
 refine v_seq ?_; intro Q9 n9 e9 r9
 refine v_region ?_; intro K10 k10
 refine zFieldAddr ⟨?_⟩
 refine zLoad ⟨?_⟩
 refine zFieldAddr ⟨?_⟩
 refine zStore ⟨?_⟩
 refine k10 _ ?_
 refine n9 _ _ (weak_keep [1, 2, 3] _) ?_
 refine zk ⟨?_⟩
 refine v_seq ?_; intro Q11 n11 e11 r11
 refine v_region ?_; intro K12 k12
 refine zFieldAddr ⟨?_⟩
 refine zLoad ⟨?_⟩
 refine zc (toStringS_con x3 hlx) ⟨?_⟩
 refine zFieldAddr ⟨?_⟩
 refine zStore ⟨?_⟩
 refine k12 _ ?_
 refine n11 _ _ (weak_keep [2, 3] _) ?_
 refine zk ⟨?_⟩
 refine v_seq ?_; intro Q13 n13 e13 r13
 refine v_region ?_; intro K14 k14
 refine zLoad ⟨?_⟩
 refine zStore ⟨?_⟩
 refine k14 _ ?_
 refine n13 _ _ (weak_keep [2] _) ?_
 refine zk ⟨?_⟩
 refine v_ret ?_
 refine r0 _ ?_
 refine zf ⟨?_⟩
 simp only [zE, zL, zO, zN, aStepM, optable, set_some, Nat.reduceEqDiff, reduceIte, Nat.reduceLT, implies_true, forall_const, reduceCtorEq, V.ofValue, V.ofScalar, V.un, V.gd, aLoad, row_mk, Blk.row, PartOK, Go.Vm.part, V.cells, V.noSl, V.noRef, Nat.reduceAdd, Nat.reduceLeDiff, Nat.reduceMul, Try.underlying3, Ty.c3, Ty.a3, Try.underlying4, Ty.c4, Ty.a4, Try.underlying93, Ty.c93, Ty.a93, Try.underlying192, Ty.c192, Ty.a192]
 exact ret_gen [5] rfl rfl (by decide) rfl (by simp) (by simp [Blk.kindIs]) rfl
set_option maxHeartbeats 1000000 in
theorem toIncidentS_con (l : List (Int × Int × Bool × List ByteArray)) (hl : l.length ≤ 1048576) (hls : ∀ t ∈ l, t.2.2.2.length ≤ 1048576) : Con Try.prog 134 [.sl (l.map (fun t : Int × Int × Bool × List ByteArray => V.agg [V.int .i64 t.1, V.int .i64 t.2.1, V.bool t.2.2.1, V.sl (t.2.2.2.map V.str)]))] [] (.ref 0) [.arr (l.map (fun t : Int × Int × Bool × List ByteArray => V.agg [V.int .i64 t.1, V.int .i64 t.2.1, V.bool t.2.2.1, V.sl (t.2.2.2.map V.str)])) (fillK l.length)] := by
 refine v_con [.tmp 2] [] Try.func134 rfl rfl rfl (by simp [Try.ntmps134]) ?_
 intro Q0 n0 r0
 simp only [Try.ntmps134, envFrom, Nat.reduceAdd]
 have T := Tys.mk (And.intro Ty.t3 (And.intro Ty.t4 (And.intro Ty.t9 (And.intro Ty.t84 (And.intro Ty.t93 (And.intro Ty.t99 (And.intro Ty.t192 Ty.t205)))))))
 have F := Fc.mk True.intro
 refine v_seq ?_; intro Q1 n1 e1 r1
 refine v_region ?_; intro K2 k2
 refine zAssign ⟨?_⟩
 refine k2 _ ?_
 refine n1 _ _ (weak_keep [0] _) ?_
 refine zk ⟨?_⟩
 refine v_seq ?_; intro Q3 n3 e3 r3
 refine v_region ?_; intro K4 k4
 refine zMove ⟨?_⟩
 refine zLen ⟨?_⟩
 refine zMakeSlice ⟨?_⟩
 refine zAssign ⟨?_⟩
 refine k4 _ ?_
 refine n3 _ _ (weak_keep [0, 3] _) ?_
 refine zk ⟨?_⟩
 refine v_seq ?_; intro Q5 n5 e5 r5
 refine v_seq ?_; intro Q6 n6 e6 r6
 refine v_region ?_; intro K7 k7
 refine zAssign ⟨?_⟩
 refine k7 _ ?_
 refine n6 _ _ (weak_keep [0, 3, 4] _) ?_
 refine zk ⟨?_⟩
 refine v_block ?_; intro Q8 n8 x8 e8 r8
 refine v_loop (fun i => ⟨[(0, .sl (l.map (fun t : Int × Int × Bool × List ByteArray => V.agg [V.int .i64 t.1, V.int .i64 t.2.1, V.bool t.2.2.1, V.sl (t.2.2.2.map V.str)]))), (3, .ref 0), (4, .int .i64 (Nat.cast i))], [.arr (fillTo (fun t : Int × Int × Bool × List ByteArray => V.agg [V.int .i64 t.1, V.int .i64 t.2.1, V.bool t.2.2.1, V.sl (t.2.2.2.map V.str)]) (V.agg [V.int .i64 0, V.int .i64 0, V.bool false, V.sl []]) l i) (fillK i)], false, 23, 0⟩) (fun i => i ≤ l.length) (fun i => l.length - i) 0 ?_ ?_ ?_
 ·refine weak_bothS [0, 3, 4] [1] ⟨?_⟩
  rw [fill_zero]; rfl
 ·exact Nat.zero_le _
 ·rintro i hok9 Q9 n9 e9 r9
  have hi1 : i ≤ l.length := hok9
  refine v_seq ?_; intro Q10 n10 e10 r10
  refine v_seq ?_; intro Q11 n11 e11 r11
  refine v_region ?_; intro K12 k12
  refine zMove ⟨?_⟩
  refine zMove ⟨?_⟩
  refine zLen ⟨?_⟩
  refine zBinOp ⟨?_⟩
  refine k12 _ ?_
  refine n11 _ _ (weak_keep [0, 3, 4, 11] _) ?_
  refine zk ⟨?_⟩
  refine v_condS _ rfl ?_ ?_
  ·intro hc0
   have hlt : i < l.length := by omega
   obtain ⟨⟨x0, x1, x2, x3⟩, hx⟩ : ∃ x : Int × Int × Bool × List ByteArray, l[i]? = some x := ⟨l[i]'(by omega), List.getElem?_eq_getElem (by omega)⟩
   have hlx := hls _ (List.mem_of_getElem? hx)
   simp only [] at hlx
   refine v_skip ?_
   refine n10 _ _ (weak_keep [0, 3, 4] _) ?_
   refine zk ⟨?_⟩
   refine v_seq ?_; intro Q14 n14 e14 r14
   refine v_block ?_; intro Q15 n15 x15 e15 r15
   refine v_region ?_; intro K16 k16
   have F := Fc.mk (And.intro (fun f => getD_map (f := f) hx) (And.intro (fun f z => fill_len (f := f) (z := z) hi1) (And.intro (fun f z => fill_get (f := f) (z := z) hlt) (fun f z => fill_set (f := f) (z := z) hx))))
   refine zMove ⟨?_⟩
   refine zMove ⟨?_⟩
   refine zMove ⟨?_⟩
   refine zMove ⟨?_⟩
   refine v_op ?_; intro K k
   simp only [zE, zL, zN, aStepM, optable, set_some, Nat.reduceEqDiff, reduceIte, Nat.reduceLT, implies_true, forall_const, reduceCtorEq, V.ofValue, V.ofScalar, V.un, V.gd, aExec, aop, List.mem_cons, List.not_mem_nil, or_false, forall_eq_or_imp, forall_eq, aIndexAddr, row_mk, Blk.row, Go.Vm.V.cells, List.forall_mem_map, List.length_map, Int.toNat_natCast, Int.reduceToNat, TypeDesc.slice.injEq, Nat.reduceAdd, Nat.reduceLeDiff, Nat.reduceMul, Try.underlying99, Ty.c99, Ty.a99, Try.underlying205, Ty.c205, Ty.a205, contentL, Value.oneCell', List.all_cons, List.all_nil, Bool.and_self, getD_map hx, fill_len hi1, fill_get hlt, fill_set hx]
   repeat (refine And.intro (by first | omega | (exact fill_all (fun _ => rfl) rfl) | (intros; omega) | (intros; simp_all; done) | (intros; simp_all; omega)) ?_)
   refine k _ ?_; clear k K
   refine zLoad ⟨?_⟩
   refine zc (toIncident_con x0 x1 x2 x3 hlx) ⟨?_⟩
   refine v_op ?_; intro K k
   simp only [zE, zL, zN, aStepM, optable, set_some, Nat.reduceEqDiff, reduceIte, Nat.reduceLT, implies_true, forall_const, reduceCtorEq, V.ofValue, V.ofScalar, V.un, V.gd, aExec, aop, List.mem_cons, List.not_mem_nil, or_false, forall_eq_or_imp, forall_eq, aIndexAddr, row_mk, Blk.row, Go.Vm.V.cells, List.forall_mem_map, List.length_map, Int.toNat_natCast, Int.reduceToNat, TypeDesc.slice.injEq, Nat.reduceAdd, Nat.reduceLeDiff, Nat.reduceMul, Try.underlying84, Ty.c84, Ty.a84, Try.underlying192, Ty.c192, Ty.a192, contentL, Value.oneCell', List.all_cons, List.all_nil, Bool.and_self, getD_map hx, fill_len hi1, fill_get hlt, fill_set hx]
   repeat (refine And.intro (by first | omega | (exact fill_all (fun _ => rfl) rfl) | (intros; omega) | (intros; simp_all; done) | (intros; simp_all; omega)) ?_)
   refine k _ ?_; clear k K
   refine v_op ?_; intro K k
   simp only [zE, zS, zJ, zL, zO, zN, aStepM, optable, set_some, Nat.reduceEqDiff, reduceIte, Nat.reduceLT, implies_true, forall_const, reduceCtorEq, V.ofValue, V.ofScalar, V.un, V.gd, aExec, aop, aStore, setCells, V.isVal, V.cells, kindOf, kindAll, V.noSl, V.noRef, gt_iff_lt, Nat.reduceAdd, Nat.reduceLeDiff, Nat.reduceMul, takeV, takeCell, takeCells, row_mk, Blk.row, killAll, Nat.reduceBEq, join_t, Try.underlying3, Ty.c3, Ty.a3, Try.underlying4, Ty.c4, Ty.a4, Try.underlying93, Ty.c93, Ty.a93, Try.underlying192, Ty.c192, Ty.a192, contentL, Value.oneCell', getD_map hx, fill_len hi1, fill_get hlt, fill_set hx]
   repeat (refine And.intro (by first | omega | (exact fill_all (fun _ => rfl) rfl) | (intros; omega) | (intros; simp_all; done) | (intros; simp_all; omega)) ?_)
   refine k _ ?_; clear k K
   refine k16 _ ?_
   refine n15 _ ?_
   refine n14 _ _ (weak_keep [0, 3, 4] _) ?_
   refine zk ⟨?_⟩
   refine v_region ?_; intro K17 k17
   refine zMove ⟨?_⟩
   refine zBinOpW ⟨?_⟩
   refine zAssign ⟨?_⟩
   refine k17 _ ?_
   refine n9 _ (i + 1) ?_ ?_ ?_
   ·refine weak_bothS [0, 3, 4] [0] ⟨?_⟩
    rfl
   ·exact hlt
   ·show _ < _; omega
  ·intro hc0
   refine v_exit ?_
   refine e10 _ _ ?_
   refine e9 _ _ ?_
   refine x8 _ ?_
   refine n5 _ _ (weak_keep [3] _) ?_
   refine zk ⟨?_⟩
   refine v_seq ?_; intro Q18 n18 e18 r18
   refine v_region ?_; intro K19 k19
   refine zMove ⟨?_⟩
   refine zAssign ⟨?_⟩
   refine k19 _ ?_
   refine n18 _ _ (weak_keep [2] _) ?_
   refine zk ⟨?_⟩
   refine v_ret ?_
   refine r0 _ ?_
   refine zf ⟨?_⟩
   have hend : l.length = i := by omega
   rw [← fill_end (f := (fun t : Int × Int × Bool × List ByteArray => V.agg [V.int .i64 t.1, V.int .i64 t.2.1, V.bool t.2.2.1, V.sl (t.2.2.2.map V.str)])) (z := (V.agg [V.int .i64 0, V.int .i64 0, V.bool false, V.sl []])) (show l.length ≤ i by omega), hend]
   exact ret_ref rfl (fillK_or _)
set_option maxHeartbeats 1000000 in
theorem eqIncident_con (x0 : Int) (x1 : Int) (x2 : Bool) (x3 : List ByteArray) (y0 : Int) (y1 : Int) (y2 : Bool) (y3 : List ByteArray) (hlx : x3.length ≤ 1048576) : Con Try.prog 170 [.agg [V.int .i64 x0, V.int .i64 x1, V.bool x2, V.sl (x3.map V.str)], .agg [V.int .i64 y0, V.int .i64 y1, V.bool y2, V.sl (y3.map V.str)]] [] (.bool (decide ((x0, x1, x2, x3) = (y0, y1, y2, y3)))) [] := by
 refine v_con [.tmp 4] [] Try.func170 rfl rfl rfl (by simp [Try.ntmps170]) ?_
 intro Q0 n0 r0
 simp only [Try.ntmps170, envFrom, Nat.reduceAdd]
 have T := Tys.mk (And.intro Ty.t3 (And.intro Ty.t4 (And.intro Ty.t9 (And.intro Ty.t93 Ty.t192))))
 have F := Fc.mk True.intro
 refine v_seq ?_; intro Q1 n1 e1 r1
 refine v_region ?_; intro K2 k2
 refine zBox ⟨?_⟩
 refine zBox ⟨?_⟩
 refine zAssign ⟨?_⟩
 refine k2 _ ?_
 refine n1 _ _ (weak_keep [2, 3] _) ?_
 refine zk ⟨?_⟩
 refine v_seq ?_; intro Q3 n3 e3 r3
 refine v_seq ?_; intro Q4 n4 e4 r4
 refine v_region ?_; intro K5 k5
 refine zFieldAddr ⟨?_⟩
 refine zLoad ⟨?_⟩
 refine zFieldAddr ⟨?_⟩
 refine zLoad ⟨?_⟩
 refine zBinOp ⟨?_⟩
 refine k5 _ ?_
 refine n4 _ _ (weak_keep [2, 3, 9] _) ?_
 refine zk ⟨?_⟩
 refine v_condS _ rfl ?_ ?_
 ·intro hc0
  refine v_seq ?_; intro Q7 n7 e7 r7
  refine v_region ?_; intro K8 k8
  refine zAssign ⟨?_⟩
  refine k8 _ ?_
  refine n7 _ _ (weak_keep [4] _) ?_
  refine zk ⟨?_⟩
  refine v_ret ?_
  refine r3 _ ?_
  refine r0 _ ?_
  refine zf ⟨?_⟩
  exact ret_pure rfl (by rw [decide_eq_false (by intro h; simp only [Prod.mk.injEq] at h; exact hc0 h.1)]) (.inl rfl)
 ·intro hc0
  refine v_skip ?_
  refine n3 _ _ (weak_keep [2, 3] _) ?_
  refine zk ⟨?_⟩
  refine v_seq ?_; intro Q9 n9 e9 r9
  refine v_seq ?_; intro Q10 n10 e10 r10
  refine v_region ?_; intro K11 k11
  refine zFieldAddr ⟨?_⟩
  refine zLoad ⟨?_⟩
  refine zFieldAddr ⟨?_⟩
  refine zLoad ⟨?_⟩
  refine zBinOp ⟨?_⟩
  refine k11 _ ?_
  refine n10 _ _ (weak_keep [2, 3, 14] _) ?_
  refine zk ⟨?_⟩
  refine v_condS _ rfl ?_ ?_
  ·intro hc1
   refine v_seq ?_; intro Q13 n13 e13 r13
   refine v_region ?_; intro K14 k14
   refine zAssign ⟨?_⟩
   refine k14 _ ?_
   refine n13 _ _ (weak_keep [4] _) ?_
   refine zk ⟨?_⟩
   refine v_ret ?_
   refine r9 _ ?_
   refine r0 _ ?_
   refine zf ⟨?_⟩
   exact ret_pure rfl (by rw [decide_eq_false (by intro h; simp only [Prod.mk.injEq] at h; exact hc1 h.2.1)]) (.inl rfl)
  ·intro hc1
   refine v_skip ?_
   refine n9 _ _ (weak_keep [2, 3] _) ?_
   refine zk ⟨?_⟩
   refine v_seq ?_; intro Q15 n15 e15 r15
   refine v_seq ?_; intro Q16 n16 e16 r16
   refine v_region ?_; intro K17 k17
   refine zFieldAddr ⟨?_⟩
   refine zLoad ⟨?_⟩
   refine zFieldAddr ⟨?_⟩
   refine zLoad ⟨?_⟩
   refine zBinOp ⟨?_⟩
   refine k17 _ ?_
   refine n16 _ _ (weak_keep [2, 3, 19] _) ?_
   refine zk ⟨?_⟩
   refine v_condS _ rfl ?_ ?_
   ·intro hc2
    refine v_seq ?_; intro Q19 n19 e19 r19
    refine v_region ?_; intro K20 k20
    refine zAssign ⟨?_⟩
    refine k20 _ ?_
    refine n19 _ _ (weak_keep [4] _) ?_
    refine zk ⟨?_⟩
    refine v_ret ?_
    refine r15 _ ?_
    refine r0 _ ?_
    refine zf ⟨?_⟩
    exact ret_pure rfl (by rw [decide_eq_false (by intro h; simp only [Prod.mk.injEq] at h; have hb := h.2.2.1; rw [hb] at hc2; simp at hc2)]) (.inl rfl)
   ·intro hc2
    refine v_skip ?_
    refine n15 _ _ (weak_keep [2, 3] _) ?_
    refine zk ⟨?_⟩
    refine v_seq ?_; intro Q21 n21 e21 r21
    refine v_seq ?_; intro Q22 n22 e22 r22
    refine v_region ?_; intro K23 k23
    refine zFieldAddr ⟨?_⟩
    refine zLoad ⟨?_⟩
    refine zFieldAddr ⟨?_⟩
    refine zLoad ⟨?_⟩
    refine zc (eqStringS_con x3 y3 hlx) ⟨?_⟩
    refine zUnOp ⟨?_⟩
    refine k23 _ ?_
    refine n22 _ _ (weak_keep [25] _) ?_
    refine zk ⟨?_⟩
    refine v_condS _ rfl ?_ ?_
    ·intro hc3
     refine v_seq ?_; intro Q25 n25 e25 r25
     refine v_region ?_; intro K26 k26
     refine zAssign ⟨?_⟩
     refine k26 _ ?_
     refine n25 _ _ (weak_keep [4] _) ?_
     refine zk ⟨?_⟩
     refine v_ret ?_
     refine r21 _ ?_
     refine r0 _ ?_
     refine zf ⟨?_⟩
     exact ret_pure rfl (by rw [decide_eq_false (by intro h; simp only [Prod.mk.injEq] at h; (try simp at hc3); exact hc3 h.2.2.2)]) (.inl rfl)
    ·intro hc3
     refine v_skip ?_
     refine n21 _ _ (weak_keep [] _) ?_
     refine zk ⟨?_⟩
     refine v_seq ?_; intro Q27 n27 e27 r27
     refine v_region ?_; intro K28 k28
     refine zAssign ⟨?_⟩
     refine k28 _ ?_
     refine n27 _ _ (weak_keep [4] _) ?_
     refine zk ⟨?_⟩
     refine v_ret ?_
     refine r0 _ ?_
     refine zf ⟨?_⟩
     exact ret_pure rfl (by rw [decide_eq_true (by (try simp at hc3); rw [hc0, hc1, (eq_of_beq hc2 : x2 = y2), hc3])]) (.inl rfl)
set_option maxHeartbeats 1000000 in
theorem eqIncidentS_con (a b : List (Int × Int × Bool × List ByteArray)) (ha : a.length ≤ 1048576) (has : ∀ t ∈ a, t.2.2.2.length ≤ 1048576) : Con Try.prog 118 [.sl (a.map (fun t : Int × Int × Bool × List ByteArray => V.agg [V.int .i64 t.1, V.int .i64 t.2.1, V.bool t.2.2.1, V.sl (t.2.2.2.map V.str)])), .sl (b.map (fun t : Int × Int × Bool × List ByteArray => V.agg [V.int .i64 t.1, V.int .i64 t.2.1, V.bool t.2.2.1, V.sl (t.2.2.2.map V.str)]))] [] (.bool (decide (a = b))) [] := by
 refine v_con [.tmp 4] [] Try.func118 rfl rfl rfl (by simp [Try.ntmps118]) ?_
 intro Q0 n0 r0
 simp only [Try.ntmps118, envFrom, Nat.reduceAdd]
 have T := Tys.mk (And.intro Ty.t3 (And.intro Ty.t4 (And.intro Ty.t9 (And.intro Ty.t84 (And.intro Ty.t93 Ty.t192)))))
 have F := Fc.mk True.intro
 refine v_seq ?_; intro Q1 n1 e1 r1
 refine v_region ?_; intro K2 k2
 refine zAssign ⟨?_⟩
 refine k2 _ ?_
 refine n1 _ _ (weak_keep [0, 1] _) ?_
 refine zk ⟨?_⟩
 refine v_seq ?_; intro Q3 n3 e3 r3
 refine v_seq ?_; intro Q4 n4 e4 r4
 refine v_region ?_; intro K5 k5
 refine zMove ⟨?_⟩
 refine zLen ⟨?_⟩
 refine zMove ⟨?_⟩
 refine zLen ⟨?_⟩
 refine zBinOp ⟨?_⟩
 refine k5 _ ?_
 refine n4 _ _ (weak_keep [0, 1, 10] _) ?_
 refine zk ⟨?_⟩
 refine v_condS _ rfl ?_ ?_
 ·intro hc0
  refine v_seq ?_; intro Q7 n7 e7 r7
  refine v_region ?_; intro K8 k8
  refine zAssign ⟨?_⟩
  refine k8 _ ?_
  refine n7 _ _ (weak_keep [4] _) ?_
  refine zk ⟨?_⟩
  refine v_ret ?_
  refine r3 _ ?_
  refine r0 _ ?_
  refine zf ⟨?_⟩
  exact ret_pure rfl (by rw [decide_eq_false (fun h => by subst h; simp at hc0)]) (.inl rfl)
 ·intro hc0
  have hab : a.length = b.length := by omega
  refine v_skip ?_
  refine n3 _ _ (weak_keep [0, 1] _) ?_
  refine zk ⟨?_⟩
  refine v_seq ?_; intro Q9 n9 e9 r9
  refine v_seq ?_; intro Q10 n10 e10 r10
  refine v_region ?_; intro K11 k11
  refine zAssign ⟨?_⟩
  refine k11 _ ?_
  refine n10 _ _ (weak_keep [0, 1, 5] _) ?_
  refine zk ⟨?_⟩
  refine v_block ?_; intro Q12 n12 x12 e12 r12
  refine v_loop (fun i => ⟨[(0, .sl (a.map (fun t : Int × Int × Bool × List ByteArray => V.agg [V.int .i64 t.1, V.int .i64 t.2.1, V.bool t.2.2.1, V.sl (t.2.2.2.map V.str)]))), (1, .sl (b.map (fun t : Int × Int × Bool × List ByteArray => V.agg [V.int .i64 t.1, V.int .i64 t.2.1, V.bool t.2.2.1, V.sl (t.2.2.2.map V.str)]))), (5, .int .i64 (Nat.cast i))], [], false, 27, 0⟩) (fun i => i ≤ a.length ∧ ((a = b) ↔ (a.drop i = b.drop i))) (fun i => a.length - i) 0 ?_ ?_ ?_
  ·refine weak_of [0, 1, 5] ?_
   simp only [keep_mk, keepE_nil, keepE_cons, look_cons, look_nil, Nat.reduceEqDiff, reduceIte]
   rfl
  ·exact ⟨Nat.zero_le _, by simp⟩
  ·rintro i hok13 Q13 n13 e13 r13
   obtain ⟨hi1, hR⟩ := hok13
   refine v_seq ?_; intro Q14 n14 e14 r14
   refine v_seq ?_; intro Q15 n15 e15 r15
   refine v_region ?_; intro K16 k16
   refine zMove ⟨?_⟩
   refine zMove ⟨?_⟩
   refine zLen ⟨?_⟩
   refine zBinOp ⟨?_⟩
   refine k16 _ ?_
   refine n15 _ _ (weak_keep [0, 1, 5, 14] _) ?_
   refine zk ⟨?_⟩
   refine v_condS _ rfl ?_ ?_
   ·intro hc1
    have hlt : i < a.length := by omega
    obtain ⟨⟨x0, x1, x2, x3⟩, hx⟩ : ∃ x : Int × Int × Bool × List ByteArray, a[i]? = some x := ⟨a[i]'(by omega), List.getElem?_eq_getElem (by omega)⟩
    obtain ⟨⟨y0, y1, y2, y3⟩, hy⟩ : ∃ x : Int × Int × Bool × List ByteArray, b[i]? = some x := ⟨b[i]'(by omega), List.getElem?_eq_getElem (by omega)⟩
    have hstep := eq_drop hab hx hy
    have hlx := has _ (List.mem_of_getElem? hx)
    simp only [] at hlx
    refine v_skip ?_
    refine n14 _ _ (weak_keep [0, 1, 5] _) ?_
    refine zk ⟨?_⟩
    refine v_seq ?_; intro Q18 n18 e18 r18
    refine v_block ?_; intro Q19 n19 x19 e19 r19
    refine v_seq ?_; intro Q20 n20 e20 r20
    refine v_draw (by kernel_rfl) ?_; intro K21 q21 k21
    show aAny _ _ _ _ 10 (Array.replicate 10 false) _
    have F := Fc.mk (And.intro (fun f => getD_map (f := f) hx) (fun f => getD_map (f := f) hy))
    refine zdMove q21 true 0 17 ?_
    refine zdMove q21 true 1 18 ?_
    refine zdIndexAddr q21 true 2 19 ?_
    refine zdLoad q21 true 3 20 ?_
    refine zdMove q21 true 4 21 ?_
    refine zdMove q21 true 5 22 ?_
    refine zdIndexAddr q21 true 6 23 ?_
    refine zdLoad q21 true 7 24 ?_
    refine zoc 8 (eqIncident_con x0 x1 x2 x3 y0 y1 y2 y3 hlx) ⟨?_⟩
    refine zdUnOp q21 true 9 26 ?_
    refine aAny_done (by kernel_rfl) ?_
    refine k21 _ ?_
    refine n20 _ _ (weak_keep [0, 1, 5, 26] _) ?_
    refine zk ⟨?_⟩
    refine v_condS _ rfl ?_ ?_
    ·intro hc2
     refine v_seq ?_; intro Q23 n23 e23 r23
     refine v_region ?_; intro K24 k24
     refine zAssign ⟨?_⟩
     refine k24 _ ?_
     refine n23 _ _ (weak_keep [4] _) ?_
     refine zk ⟨?_⟩
     refine v_ret ?_
     refine r19 _ ?_
     refine r18 _ ?_
     refine r13 _ ?_
     refine r12 _ ?_
     refine r9 _ ?_
     refine r0 _ ?_
     refine zf ⟨?_⟩
     exact ret_pure rfl (by rw [decide_eq_false (fun h => hc2 (hstep.1 (hR.1 h)).1)]) (.inl rfl)
    ·intro hc2
     refine v_skip ?_
     refine n19 _ ?_
     refine n18 _ _ (weak_keep [0, 1, 5] _) ?_
     refine zk ⟨?_⟩
     refine v_region ?_; intro K25 k25
     refine zMove ⟨?_⟩
     refine zBinOpW ⟨?_⟩
     refine zAssign ⟨?_⟩
     refine k25 _ ?_
     refine n13 _ (i + 1) ?_ ?_ ?_
     ·refine weak_of [0, 1, 5] ?_
      simp only [keep_mk, keepE_nil, keepE_cons, look_cons, look_nil, Nat.reduceEqDiff, reduceIte]
      rfl
     ·exact ⟨by omega, hR.trans (hstep.trans ⟨fun h => h.2, fun h => ⟨hc2, h⟩⟩)⟩
     ·show _ < _; omega
   ·intro hc1
    refine v_exit ?_
    refine e14 _ _ ?_
    refine e13 _ _ ?_
    refine x12 _ ?_
    refine n9 _ _ (weak_keep [] _) ?_
    refine zk ⟨?_⟩
    refine v_seq ?_; intro Q26 n26 e26 r26
    refine v_region ?_; intro K27 k27
    refine zAssign ⟨?_⟩
    refine k27 _ ?_
    refine n26 _ _ (weak_keep [4] _) ?_
    refine zk ⟨?_⟩
    refine v_ret ?_
    refine r0 _ ?_
    refine zf ⟨?_⟩
    exact ret_pure rfl (by rw [decide_eq_true (hR.2 (by rw [List.drop_of_length_le (by omega), List.drop_of_length_le (by omega)]))]) (.inl rfl)
end Go.Proofs.Ytdgenniiidgimaa
