/- What functions compute. No condition. -/
import Derived.Test.YtdgenniiidgimaaGreatUty
import Derived.Test.YtdgenniiidgimaaGreatUmG
import Derived.Test.YtdgenniiidgimaaGreatX15
import Derived.Test.YtdgenniiidgimaaGreatX4
import Derived.Test.YtdgenniiidgimaaGreatX11
set_option linter.unusedSimpArgs false
set_option linter.unusedVariables false
set_option linter.defProp false
namespace Go.Proofs.YtdgenniiidgimaaGreat
open Go Go.Vm

set_option maxRecDepth 100000 in
set_option maxHeartbeats 1000000 in
theorem implNeeds_con (n : Int) (ss : List (Int × Int × Int)) (fl : List (ByteArray × Int × Int × Int × Int)) (ins : List (Int × Int × Bool × List ByteArray)) (ws : List (Int × List Int)) (hs : ss.length ≤ 1048576) (hl : fl.length ≤ 1048576) (hls : ∀ t ∈ fl, t.1.size ≤ 9223372036854775807) (hil : ins.length ≤ 1048576) (hin : ∀ x ∈ ins, x.2.2.2.length ≤ 1048576) (his : ∀ x ∈ ins, ∀ s ∈ x.2.2.2, s.size ≤ 9223372036854775807) (hwl : ws.length ≤ 1048576) (hwn : ∀ x ∈ ws, x.2.length ≤ 1048576) : Con Tryz.prog 21 [.agg [.int .i64 n, .sl (ss.map (fun t : Int × Int × Int => V.agg [V.int .i64 t.1, V.int .i64 t.2.1, V.int .i64 t.2.2]))], .agg [.sl (fl.map (fun t : ByteArray × Int × Int × Int × Int => V.agg [V.str t.1, V.int .i64 t.2.1, V.int .i64 t.2.2.1, V.int .i64 t.2.2.2.1, V.int .i64 t.2.2.2.2])), .sl (ins.map (fun t : Int × Int × Bool × List ByteArray => V.agg [V.int .i64 t.1, V.int .i64 t.2.1, V.bool t.2.2.1, V.sl (t.2.2.2.map V.str)])), .sl (ws.map (fun t : Int × List Int => V.agg [V.int .i64 t.1, V.sl (t.2.map (V.int .i64))]))]] [] (.tup [.ref 0, .bool (ctlB n ss fl ins ws)]) [.arr ((orNil (ctlB n ss fl ins ws) (sumTo ws ws.length)).map (V.int .i64)) .flat] := by
 refine v_con [.tmp 4, .tmp 5] [] Tryz.func21 rfl rfl rfl (by simp [Tryz.ntmps21]) ?_
 intro Q0 n0 r0
 simp only [Tryz.ntmps21, envFrom, Nat.reduceAdd]
 have T := Tys.mk (And.intro Ty.t3 (And.intro Ty.t4 (And.intro Ty.t9 (And.intro Ty.t32 (And.intro Ty.t35 (And.intro Ty.t37 (And.intro Ty.t39 (And.intro Ty.t40 (And.intro Ty.t41 (And.intro Ty.t43 (And.intro Ty.t54 (And.intro Ty.t69 (And.intro Ty.t71 (And.intro Ty.t78 (And.intro Ty.t80 (And.intro Ty.t89 Ty.t106))))))))))))))))
 have F := Fc.mk True.intro
 refine v_seqR [2,3] ?_; intro K1 k1
 refine zBox ⟨?_⟩
 refine zBox ⟨?_⟩
 refine zAssign ⟨?_⟩
 refine zAssign ⟨?_⟩
 refine k1 _ ?_
 refine zk ⟨?_⟩
 refine v_seq ?_; intro Q2 n2 e2 r2
 refine v_seqR [3,16] ?_; intro K3 k3
 refine zc (isTown_con n ss hs) ⟨?_⟩
 refine zUnOp ⟨?_⟩
 refine zMove ⟨?_⟩
 refine zgc (isControl_con n ss fl ins ws hs hl hls hil hin his hwl hwn) ⟨?_⟩
 refine zgUnOp ⟨?_⟩
 refine zPick ⟨?_⟩
 refine k3 _ ?_
 refine zk ⟨?_⟩
 refine v_condS _ rfl ?_ ?_
 ·intro hc0
  have hB : (ctlB n ss fl ins ws) = false := by
   cases hq : (ctlB n ss fl ins ws) with
   |false => rfl
   |true => (have ht := ctl_town hq; simp [hq, ht] at hc0)
  refine v_seqR [4,5] ?_; intro K5 k5
  refine zAssign ⟨?_⟩
  refine zAssign ⟨?_⟩
  refine k5 _ ?_
  refine zk ⟨?_⟩
  refine v_ret ?_
  refine r2 _ ?_
  refine r0 _ ?_
  refine zf ⟨?_⟩
  rw [hB, orNil_f]
  exact ret_all rfl (by first | decide | simp [newIds, refsOf, refs2, refs1]) (by simp) rfl (by simp [newIds, refsOf, refs2, refs1]) (by simp [Blk.kindIs, fillK_fd]) rfl
 ·intro hc0
  have hB : (ctlB n ss fl ins ws) = true := by
   cases hq : (ctlB n ss fl ins ws) with
   |true => rfl
   |false => simp [hq] at hc0
  have hc := ctl_facts hB
  have hwd := want_need hc
  refine v_skip ?_
  refine n2 _ _ (weak_keep [3] _) ?_
  refine zk ⟨?_⟩
  refine v_seqR [3,6] ?_; intro K6 k6
  refine zMakeSlice ⟨?_⟩
  refine zAssign ⟨?_⟩
  refine k6 _ ?_
  refine zk ⟨?_⟩
  refine v_seq ?_; intro Q7 n7 e7 r7
  refine v_seqR [6,19,20,21] ?_; intro K8 k8
  refine zFieldAddr ⟨?_⟩
  refine zLoad ⟨?_⟩
  refine zLen ⟨?_⟩
  refine zMove ⟨?_⟩
  refine k8 _ ?_
  refine zk ⟨?_⟩
  refine v_block ?_; intro Q9 n9 x9 e9 r9
  refine v_loop (fun i => ⟨[(6, .ref 0), (19, .sl (ws.map (fun t : Int × List Int => V.agg [V.int .i64 t.1, V.sl (t.2.map (V.int .i64))]))), (20, .int .i64 ws.length), (21, .int .i64 (Nat.cast i))], [.arr ((sumTo ws i).map (V.int .i64)) .flat], false, 43, 0⟩) (fun i => i ≤ ws.length) (fun i => ws.length - i) 0 ?_ ?_ ?_
  ·refine weak_bothS [6, 19, 20, 21] [3] ⟨?_⟩
   rfl
  ·exact Nat.zero_le _
  ·rintro i hok10 Q10 n10 e10 r10
   have hi1 : i ≤ ws.length := hok10
   refine v_seqR [6,19,20,21,22] ?_; intro K11 k11
   refine zBinOp ⟨?_⟩
   refine k11 _ ?_
   refine zk ⟨?_⟩
   refine v_seq ?_; intro Q12 n12 e12 r12
   refine v_condS _ rfl ?_ ?_
   ·intro hc1
    have hlt : i < ws.length := by omega
    obtain ⟨⟨x0, x1⟩, hx⟩ : ∃ x : Int × List Int, ws[i]? = some x := ⟨ws[i]'(by omega), List.getElem?_eq_getElem (by omega)⟩
    have hw4 := hwd _ (List.mem_of_getElem? hx)
    simp only [] at hw4
    have h8 := hc.ws8
    have hst := sumTo_step hx
    simp only [] at hst
    have hsl := sumTo_len ws i
    refine v_skip ?_
    refine n12 _ _ (weak_keep [6, 19, 20, 21] _) ?_
    refine zk ⟨?_⟩
    refine v_seq ?_; intro Q14 n14 e14 r14
    refine v_block ?_; intro Q15 n15 x15 e15 r15
    refine v_seqR [6,8,19,20,21] ?_; intro K16 k16
    have F := Fc.mk (fun f => getD_map (f := f) hx)
    refine zIndexAddr ⟨?_⟩
    refine zLoad ⟨?_⟩
    refine zAlloc ⟨?_⟩
    refine zStore ⟨?_⟩
    refine k16 _ ?_
    refine zk ⟨?_⟩
    refine v_seqR [6,19,20,21,26,27,28] ?_; intro K17 k17
    refine zFieldAddr ⟨?_⟩
    refine zLoad ⟨?_⟩
    refine zLen ⟨?_⟩
    refine zMove ⟨?_⟩
    refine k17 _ ?_
    refine zk ⟨?_⟩
    refine v_block ?_; intro Q18 n18 x18 e18 r18
    refine v_loop (fun j => ⟨[(6, .ref 0), (19, .sl (ws.map (fun t : Int × List Int => V.agg [V.int .i64 t.1, V.sl (t.2.map (V.int .i64))]))), (20, .int .i64 ws.length), (21, .int .i64 (Nat.cast i)), (26, .sl (x1.map (V.int .i64))), (27, .int .i64 x1.length), (28, .int .i64 (Nat.cast j))], [.arr ((addL (sumTo ws i) (x1.take j)).map (V.int .i64)) .flat], false, 43, 0⟩) (fun j => j ≤ 4) (fun j => 4 - j) 0 ?_ ?_ ?_
    ·refine weak_bothS [6, 19, 20, 21, 26, 27, 28] [0] ⟨?_⟩
     rw [List.take_zero, addL_nil]; rfl
    ·exact Nat.zero_le _
    ·rintro j hok19 Q19 n19 e19 r19
     have hj1 : j ≤ 4 := hok19
     refine v_seqR [6,19,20,21,26,27,28,29] ?_; intro K20 k20
     refine zBinOp ⟨?_⟩
     refine k20 _ ?_
     refine zk ⟨?_⟩
     refine v_seq ?_; intro Q21 n21 e21 r21
     refine v_condS _ rfl ?_ ?_
     ·intro hc2
      have hlj : j < 4 := by omega
      obtain ⟨z, hz⟩ : ∃ z, x1[j]? = some z := ⟨_, List.getElem?_eq_getElem (by omega)⟩
      obtain ⟨v, hv⟩ : ∃ v, (sumTo ws i)[j]? = some v := ⟨_, List.getElem?_eq_getElem (by omega)⟩
      have hvb := sumTo_bound hwd i v (List.mem_of_getElem? hv)
      have hzb := hw4.2 z (List.mem_of_getElem? hz)
      obtain ⟨ha1, ha2⟩ := addL_step hv hz
      have hal : (addL (sumTo ws i) (x1.take j)).length = 4 := by rw [addL_len]; exact hsl
      have hsm : ((addL (sumTo ws i) (x1.take j)).map (V.int .i64)).set j (V.int .i64 (v + z)) = (addL (sumTo ws i) (x1.take (j + 1))).map (V.int .i64) := by rw [← ha2, List.map_set]
      refine v_skip ?_
      refine n21 _ _ (weak_keep [6, 19, 20, 21, 26, 27, 28] _) ?_
      refine zk ⟨?_⟩
      refine v_seq ?_; intro Q23 n23 e23 r23
      refine v_block ?_; intro Q24 n24 x24 e24 r24
      refine v_seqR [6,9,10,19,20,21,26,27,28] ?_; intro K25 k25
      have F := Fc.mk (And.intro (fun f => getD_map (f := f) hx) (And.intro (fun f => getD_map (f := f) hz) (And.intro (fun f => getD_map (f := f) ha1) (And.intro hal hsm))))
      refine zMove ⟨?_⟩
      refine zIndexAddr ⟨?_⟩
      refine zLoad ⟨?_⟩
      refine zAssign ⟨?_⟩
      refine zAssign ⟨?_⟩
      refine k25 _ ?_
      refine zk ⟨?_⟩
      refine v_region ?_; intro K26 k26
      refine zMove ⟨?_⟩
      refine zMove ⟨?_⟩
      refine zIndexAddr ⟨?_⟩
      refine zLoad ⟨?_⟩
      refine zMove ⟨?_⟩
      refine zBinOpW ⟨?_⟩
      refine zIndexAddr ⟨?_⟩
      refine zStore ⟨?_⟩
      refine k26 _ ?_
      refine n24 _ ?_
      refine n23 _ _ (weak_keep [6, 19, 20, 21, 26, 27, 28] _) ?_
      refine zk ⟨?_⟩
      refine v_region ?_; intro K27 k27
      refine zBinOpW ⟨?_⟩
      refine zMove ⟨?_⟩
      refine k27 _ ?_
      refine n19 _ (j + 1) ?_ ?_ ?_
      ·refine weak_bothS [6, 19, 20, 21, 26, 27, 28] [0] ⟨?_⟩
       rfl
      ·exact hlj
      ·show _ < _; omega
     ·intro hc2
      have hej : j = 4 := by omega
      refine v_exit ?_
      refine e21 _ _ ?_
      refine e19 _ _ ?_
      refine x18 _ ?_
      refine n15 _ ?_
      refine n14 _ _ (weak_keep [6, 19, 20, 21] _) ?_
      refine zk ⟨?_⟩
      refine v_region ?_; intro K28 k28
      refine zBinOpW ⟨?_⟩
      refine zMove ⟨?_⟩
      refine k28 _ ?_
      refine n10 _ (i + 1) ?_ ?_ ?_
      ·refine weak_bothS [6, 19, 20, 21] [0] ⟨?_⟩
       rw [hst, hej, List.take_of_length_le (by omega)]; rfl
      ·exact hlt
      ·show _ < _; omega
   ·intro hc1
    have hend : i = ws.length := by omega
    subst hend
    refine v_exit ?_
    refine e12 _ _ ?_
    refine e10 _ _ ?_
    refine x9 _ ?_
    refine n7 _ _ (weak_keep [6] _) ?_
    refine zk ⟨?_⟩
    refine v_seqR [4,5] ?_; intro K29 k29
    refine zMove ⟨?_⟩
    refine zAssign ⟨?_⟩
    refine zAssign ⟨?_⟩
    refine k29 _ ?_
    refine zk ⟨?_⟩
    refine v_ret ?_
    refine r0 _ ?_
    refine zf ⟨?_⟩
    rw [hB, orNil_t]
    exact ret_all rfl (by first | decide | simp [newIds, refsOf, refs2, refs1]) (by simp) rfl (by simp [newIds, refsOf, refs2, refs1]) (by simp [Blk.kindIs, fillK_fd]) rfl
set_option maxRecDepth 100000 in
set_option maxHeartbeats 1000000 in
theorem specNeeds_con (n : Int) (ss : List (Int × Int × Int)) (fl : List (ByteArray × Int × Int × Int × Int)) (ins : List (Int × Int × Bool × List ByteArray)) (ws : List (Int × List Int)) (hs : ss.length ≤ 1048576) (hl : fl.length ≤ 1048576) (hls : ∀ t ∈ fl, t.1.size ≤ 9223372036854775807) (hil : ins.length ≤ 1048576) (hin : ∀ x ∈ ins, x.2.2.2.length ≤ 1048576) (his : ∀ x ∈ ins, ∀ s ∈ x.2.2.2, s.size ≤ 9223372036854775807) (hwl : ws.length ≤ 1048576) (hwn : ∀ x ∈ ws, x.2.length ≤ 1048576) : Con Tryz.prog 20 [.agg [.int .i64 n, .sl (ss.map (fun t : Int × Int × Int => V.agg [V.int .i64 t.1, V.int .i64 t.2.1, V.int .i64 t.2.2]))], .agg [.sl (fl.map (fun t : ByteArray × Int × Int × Int × Int => V.agg [V.str t.1, V.int .i64 t.2.1, V.int .i64 t.2.2.1, V.int .i64 t.2.2.2.1, V.int .i64 t.2.2.2.2])), .sl (ins.map (fun t : Int × Int × Bool × List ByteArray => V.agg [V.int .i64 t.1, V.int .i64 t.2.1, V.bool t.2.2.1, V.sl (t.2.2.2.map V.str)])), .sl (ws.map (fun t : Int × List Int => V.agg [V.int .i64 t.1, V.sl (t.2.map (V.int .i64))]))]] [] (.tup [.ref 0, .bool (ctlB n ss fl ins ws)]) [.arr ((orNil (ctlB n ss fl ins ws) (sumTo ws ws.length)).map (V.int .i64)) .flat] := by
 refine v_con [.tmp 4, .tmp 5] [] Tryz.func20 rfl rfl rfl (by simp [Tryz.ntmps20]) ?_
 intro Q0 n0 r0
 simp only [Tryz.ntmps20, envFrom, Nat.reduceAdd]
 have T := Tys.mk (And.intro Ty.t3 (And.intro Ty.t4 (And.intro Ty.t9 (And.intro Ty.t32 (And.intro Ty.t35 (And.intro Ty.t37 (And.intro Ty.t39 (And.intro Ty.t40 (And.intro Ty.t41 (And.intro Ty.t43 (And.intro Ty.t54 (And.intro Ty.t69 (And.intro Ty.t71 (And.intro Ty.t89 Ty.t106))))))))))))))
 have F := Fc.mk True.intro
 refine v_seqR [2,3] ?_; intro K1 k1
 refine zBox ⟨?_⟩
 refine zBox ⟨?_⟩
 refine zAssign ⟨?_⟩
 refine zAssign ⟨?_⟩
 refine k1 _ ?_
 refine zk ⟨?_⟩
 refine v_seq ?_; intro Q2 n2 e2 r2
 refine v_seqR [3,14] ?_; intro K3 k3
 refine zLoad ⟨?_⟩
 refine zLoad ⟨?_⟩
 refine zc (roGood_con n ss fl ins ws hs hl hls hil hin his hwl hwn) ⟨?_⟩
 refine zUnOp ⟨?_⟩
 refine k3 _ ?_
 refine zk ⟨?_⟩
 refine v_condS _ rfl ?_ ?_
 ·intro hc0
  have hB : (ctlB n ss fl ins ws) = false := by
   cases hq : (ctlB n ss fl ins ws) with
   |false => rfl
   |true => simp [hq] at hc0
  refine v_seqR [4,5] ?_; intro K5 k5
  refine zAssign ⟨?_⟩
  refine zAssign ⟨?_⟩
  refine k5 _ ?_
  refine zk ⟨?_⟩
  refine v_ret ?_
  refine r2 _ ?_
  refine r0 _ ?_
  refine zf ⟨?_⟩
  rw [hB, orNil_f]
  exact ret_all rfl (by first | decide | simp [newIds, refsOf, refs2, refs1]) (by simp) rfl (by simp [newIds, refsOf, refs2, refs1]) (by simp [Blk.kindIs, fillK_fd]) rfl
 ·intro hc0
  have hB : (ctlB n ss fl ins ws) = true := by
   cases hq : (ctlB n ss fl ins ws) with
   |true => rfl
   |false => simp [hq] at hc0
  have hc := ctl_facts hB
  have hwd := want_need hc
  refine v_skip ?_
  refine n2 _ _ (weak_keep [3] _) ?_
  refine zk ⟨?_⟩
  refine v_seqR [3,6] ?_; intro K6 k6
  refine zMakeSlice ⟨?_⟩
  refine zAssign ⟨?_⟩
  refine k6 _ ?_
  refine zk ⟨?_⟩
  refine v_seq ?_; intro Q7 n7 e7 r7
  refine v_seqR [6,17,18,19] ?_; intro K8 k8
  refine zFieldAddr ⟨?_⟩
  refine zLoad ⟨?_⟩
  refine zLen ⟨?_⟩
  refine zMove ⟨?_⟩
  refine k8 _ ?_
  refine zk ⟨?_⟩
  refine v_block ?_; intro Q9 n9 x9 e9 r9
  refine v_loop (fun i => ⟨[(6, .ref 0), (17, .sl (ws.map (fun t : Int × List Int => V.agg [V.int .i64 t.1, V.sl (t.2.map (V.int .i64))]))), (18, .int .i64 ws.length), (19, .int .i64 (Nat.cast i))], [.arr ((sumTo ws i).map (V.int .i64)) .flat], false, 41, 0⟩) (fun i => i ≤ ws.length) (fun i => ws.length - i) 0 ?_ ?_ ?_
  ·refine weak_bothS [6, 17, 18, 19] [3] ⟨?_⟩
   rfl
  ·exact Nat.zero_le _
  ·rintro i hok10 Q10 n10 e10 r10
   have hi1 : i ≤ ws.length := hok10
   refine v_seqR [6,17,18,19,20] ?_; intro K11 k11
   refine zBinOp ⟨?_⟩
   refine k11 _ ?_
   refine zk ⟨?_⟩
   refine v_seq ?_; intro Q12 n12 e12 r12
   refine v_condS _ rfl ?_ ?_
   ·intro hc1
    have hlt : i < ws.length := by omega
    obtain ⟨⟨x0, x1⟩, hx⟩ : ∃ x : Int × List Int, ws[i]? = some x := ⟨ws[i]'(by omega), List.getElem?_eq_getElem (by omega)⟩
    have hw4 := hwd _ (List.mem_of_getElem? hx)
    simp only [] at hw4
    have h8 := hc.ws8
    have hst := sumTo_step hx
    simp only [] at hst
    have hsl := sumTo_len ws i
    refine v_skip ?_
    refine n12 _ _ (weak_keep [6, 17, 18, 19] _) ?_
    refine zk ⟨?_⟩
    refine v_seq ?_; intro Q14 n14 e14 r14
    refine v_block ?_; intro Q15 n15 x15 e15 r15
    refine v_seqR [6,8,17,18,19] ?_; intro K16 k16
    have F := Fc.mk (fun f => getD_map (f := f) hx)
    refine zIndexAddr ⟨?_⟩
    refine zLoad ⟨?_⟩
    refine zAlloc ⟨?_⟩
    refine zStore ⟨?_⟩
    refine k16 _ ?_
    refine zk ⟨?_⟩
    refine v_seqR [6,17,18,19,24,25,26] ?_; intro K17 k17
    refine zFieldAddr ⟨?_⟩
    refine zLoad ⟨?_⟩
    refine zLen ⟨?_⟩
    refine zMove ⟨?_⟩
    refine k17 _ ?_
    refine zk ⟨?_⟩
    refine v_block ?_; intro Q18 n18 x18 e18 r18
    refine v_loop (fun j => ⟨[(6, .ref 0), (17, .sl (ws.map (fun t : Int × List Int => V.agg [V.int .i64 t.1, V.sl (t.2.map (V.int .i64))]))), (18, .int .i64 ws.length), (19, .int .i64 (Nat.cast i)), (24, .sl (x1.map (V.int .i64))), (25, .int .i64 x1.length), (26, .int .i64 (Nat.cast j))], [.arr ((addL (sumTo ws i) (x1.take j)).map (V.int .i64)) .flat], false, 41, 0⟩) (fun j => j ≤ 4) (fun j => 4 - j) 0 ?_ ?_ ?_
    ·refine weak_bothS [6, 17, 18, 19, 24, 25, 26] [0] ⟨?_⟩
     rw [List.take_zero, addL_nil]; rfl
    ·exact Nat.zero_le _
    ·rintro j hok19 Q19 n19 e19 r19
     have hj1 : j ≤ 4 := hok19
     refine v_seqR [6,17,18,19,24,25,26,27] ?_; intro K20 k20
     refine zBinOp ⟨?_⟩
     refine k20 _ ?_
     refine zk ⟨?_⟩
     refine v_seq ?_; intro Q21 n21 e21 r21
     refine v_condS _ rfl ?_ ?_
     ·intro hc2
      have hlj : j < 4 := by omega
      obtain ⟨z, hz⟩ : ∃ z, x1[j]? = some z := ⟨_, List.getElem?_eq_getElem (by omega)⟩
      obtain ⟨v, hv⟩ : ∃ v, (sumTo ws i)[j]? = some v := ⟨_, List.getElem?_eq_getElem (by omega)⟩
      have hvb := sumTo_bound hwd i v (List.mem_of_getElem? hv)
      have hzb := hw4.2 z (List.mem_of_getElem? hz)
      obtain ⟨ha1, ha2⟩ := addL_step hv hz
      have hal : (addL (sumTo ws i) (x1.take j)).length = 4 := by rw [addL_len]; exact hsl
      have hsm : ((addL (sumTo ws i) (x1.take j)).map (V.int .i64)).set j (V.int .i64 (v + z)) = (addL (sumTo ws i) (x1.take (j + 1))).map (V.int .i64) := by rw [← ha2, List.map_set]
      refine v_skip ?_
      refine n21 _ _ (weak_keep [6, 17, 18, 19, 24, 25, 26] _) ?_
      refine zk ⟨?_⟩
      refine v_seq ?_; intro Q23 n23 e23 r23
      refine v_block ?_; intro Q24 n24 x24 e24 r24
      refine v_seqR [6,9,10,17,18,19,24,25,26] ?_; intro K25 k25
      have F := Fc.mk (And.intro (fun f => getD_map (f := f) hx) (And.intro (fun f => getD_map (f := f) hz) (And.intro (fun f => getD_map (f := f) ha1) (And.intro hal hsm))))
      refine zMove ⟨?_⟩
      refine zIndexAddr ⟨?_⟩
      refine zLoad ⟨?_⟩
      refine zAssign ⟨?_⟩
      refine zAssign ⟨?_⟩
      refine k25 _ ?_
      refine zk ⟨?_⟩
      refine v_region ?_; intro K26 k26
      refine zMove ⟨?_⟩
      refine zMove ⟨?_⟩
      refine zIndexAddr ⟨?_⟩
      refine zLoad ⟨?_⟩
      refine zMove ⟨?_⟩
      refine zBinOpW ⟨?_⟩
      refine zIndexAddr ⟨?_⟩
      refine zStore ⟨?_⟩
      refine k26 _ ?_
      refine n24 _ ?_
      refine n23 _ _ (weak_keep [6, 17, 18, 19, 24, 25, 26] _) ?_
      refine zk ⟨?_⟩
      refine v_region ?_; intro K27 k27
      refine zBinOpW ⟨?_⟩
      refine zMove ⟨?_⟩
      refine k27 _ ?_
      refine n19 _ (j + 1) ?_ ?_ ?_
      ·refine weak_bothS [6, 17, 18, 19, 24, 25, 26] [0] ⟨?_⟩
       rfl
      ·exact hlj
      ·show _ < _; omega
     ·intro hc2
      have hej : j = 4 := by omega
      refine v_exit ?_
      refine e21 _ _ ?_
      refine e19 _ _ ?_
      refine x18 _ ?_
      refine n15 _ ?_
      refine n14 _ _ (weak_keep [6, 17, 18, 19] _) ?_
      refine zk ⟨?_⟩
      refine v_region ?_; intro K28 k28
      refine zBinOpW ⟨?_⟩
      refine zMove ⟨?_⟩
      refine k28 _ ?_
      refine n10 _ (i + 1) ?_ ?_ ?_
      ·refine weak_bothS [6, 17, 18, 19] [0] ⟨?_⟩
       rw [hst, hej, List.take_of_length_le (by omega)]; rfl
      ·exact hlt
      ·show _ < _; omega
   ·intro hc1
    have hend : i = ws.length := by omega
    subst hend
    refine v_exit ?_
    refine e12 _ _ ?_
    refine e10 _ _ ?_
    refine x9 _ ?_
    refine n7 _ _ (weak_keep [6] _) ?_
    refine zk ⟨?_⟩
    refine v_seqR [4,5] ?_; intro K29 k29
    refine zMove ⟨?_⟩
    refine zAssign ⟨?_⟩
    refine zAssign ⟨?_⟩
    refine k29 _ ?_
    refine zk ⟨?_⟩
    refine v_ret ?_
    refine r0 _ ?_
    refine zf ⟨?_⟩
    rw [hB, orNil_t]
    exact ret_all rfl (by first | decide | simp [newIds, refsOf, refs2, refs1]) (by simp) rfl (by simp [newIds, refsOf, refs2, refs1]) (by simp [Blk.kindIs, fillK_fd]) rfl
end Go.Proofs.YtdgenniiidgimaaGreat
