/- What functions compute. No condition. -/
import Derived.Test.YtdgenniiidgimaaGreatUty
import Derived.Test.YtdgenniiidgimaaGreatUmG
import Derived.Test.YtdgenniiidgimaaGreatX15
import Derived.Test.YtdgenniiidgimaaGreatX4
import Derived.Test.YtdgenniiidgimaaGreatX11
import Derived.Test.YtdgenniiidgimaaGreatX5
set_option linter.unusedSimpArgs false
set_option linter.unusedVariables false
set_option linter.defProp false
namespace Go.Proofs.YtdgenniiidgimaaGreat
open Go Go.Vm

set_option maxRecDepth 100000 in
set_option maxHeartbeats 1000000 in
theorem implFree_con (n : Int) (ss : List (Int × Int × Int)) (fl : List (ByteArray × Int × Int × Int × Int)) (ins : List (Int × Int × Bool × List ByteArray)) (ws : List (Int × List Int)) (hs : ss.length ≤ 1048576) (hl : fl.length ≤ 1048576) (hls : ∀ t ∈ fl, t.1.size ≤ 9223372036854775807) (hil : ins.length ≤ 1048576) (hin : ∀ x ∈ ins, x.2.2.2.length ≤ 1048576) (his : ∀ x ∈ ins, ∀ s ∈ x.2.2.2, s.size ≤ 9223372036854775807) (hwl : ws.length ≤ 1048576) (hwn : ∀ x ∈ ws, x.2.length ≤ 1048576) : Con Tryz.prog 23 [.agg [.int .i64 n, .sl (ss.map (fun t : Int × Int × Int => V.agg [V.int .i64 t.1, V.int .i64 t.2.1, V.int .i64 t.2.2]))], .agg [.sl (fl.map (fun t : ByteArray × Int × Int × Int × Int => V.agg [V.str t.1, V.int .i64 t.2.1, V.int .i64 t.2.2.1, V.int .i64 t.2.2.2.1, V.int .i64 t.2.2.2.2])), .sl (ins.map (fun t : Int × Int × Bool × List ByteArray => V.agg [V.int .i64 t.1, V.int .i64 t.2.1, V.bool t.2.2.1, V.sl (t.2.2.2.map V.str)])), .sl (ws.map (fun t : Int × List Int => V.agg [V.int .i64 t.1, V.sl (t.2.map (V.int .i64))]))]] [] (.tup [.ref 0, .bool (ctlB n ss fl ins ws)]) [.arr ((orNil (ctlB n ss fl ins ws) (freeTo fl fl.length)).map V.str) .flat] := by
 refine v_con [.tmp 4, .tmp 5] [] Tryz.func23 rfl rfl rfl (by simp [Tryz.ntmps23]) ?_
 intro Q0 n0 r0
 simp only [Tryz.ntmps23, envFrom, Nat.reduceAdd]
 have T := Tys.mk (And.intro Ty.t3 (And.intro Ty.t4 (And.intro Ty.t9 (And.intro Ty.t32 (And.intro Ty.t35 (And.intro Ty.t37 (And.intro Ty.t39 (And.intro Ty.t40 (And.intro Ty.t41 (And.intro Ty.t43 (And.intro Ty.t54 (And.intro Ty.t69 (And.intro Ty.t71 (And.intro Ty.t78 (And.intro Ty.t80 (And.intro Ty.t89 Ty.t106))))))))))))))))
 have F := Fc.mk True.intro
 refine v_seqR [2,3] ?_; intro K1 k1
 refine zBox ⟨?_⟩
 refine zBox ⟨?_⟩
 refine zAssign ⟨?_⟩
 refine zAssign ⟨?_⟩
 refine k1 _ ?_
 refine zk ⟨?_⟩
 refine v_seq ?_; intro Q2 n2 e2 r2
 refine v_seqR [3,14] ?_; intro K3 k3
 refine zc (isTown_con n ss hs) ⟨?_⟩
 refine zUnOp ⟨?_⟩
 refine zMove ⟨?_⟩
 refine zgc (isControl_con n ss fl ins ws hs hl hls hil hin his hwl hwn) ⟨?_⟩
 refine zgUnOp ⟨?_⟩
 refine zPick ⟨?_⟩
 refine k3 _ ?_
 refine zk ⟨?_⟩
 refine v_condS _ rfl ?_ ?_
 ·intro hc0
  have hB : (ctlB n ss fl ins ws) = false := by
   cases hq : (ctlB n ss fl ins ws) with
   |false => rfl
   |true => (have ht := ctl_town hq; simp [hq, ht] at hc0)
  refine v_seqR [4,5] ?_; intro K5 k5
  refine zAssign ⟨?_⟩
  refine zAssign ⟨?_⟩
  refine k5 _ ?_
  refine zk ⟨?_⟩
  refine v_ret ?_
  refine r2 _ ?_
  refine r0 _ ?_
  refine zf ⟨?_⟩
  rw [hB, orNil_f]
  exact ret_all rfl (by first | decide | simp [newIds, refsOf, refs2, refs1]) (by simp) rfl (by simp [newIds, refsOf, refs2, refs1]) (by simp [Blk.kindIs, fillK_fd]) rfl
 ·intro hc0
  have hB : (ctlB n ss fl ins ws) = true := by
   cases hq : (ctlB n ss fl ins ws) with
   |true => rfl
   |false => simp [hq] at hc0
  have hc := ctl_facts hB
  refine v_skip ?_
  refine n2 _ _ (weak_keep [3] _) ?_
  refine zk ⟨?_⟩
  refine v_seqR [3,6] ?_; intro K6 k6
  refine zAssign ⟨?_⟩
  refine k6 _ ?_
  refine zk ⟨?_⟩
  refine v_seq ?_; intro Q7 n7 e7 r7
  refine v_seqR [6,16,17,18] ?_; intro K8 k8
  refine zFieldAddr ⟨?_⟩
  refine zLoad ⟨?_⟩
  refine zLen ⟨?_⟩
  refine zMove ⟨?_⟩
  refine k8 _ ?_
  refine zk ⟨?_⟩
  refine v_block ?_; intro Q9 n9 x9 e9 r9
  refine v_loop (fun i => ⟨[(6, .ref 0), (16, .sl (fl.map (fun t : ByteArray × Int × Int × Int × Int => V.agg [V.str t.1, V.int .i64 t.2.1, V.int .i64 t.2.2.1, V.int .i64 t.2.2.2.1, V.int .i64 t.2.2.2.2]))), (17, .int .i64 fl.length), (18, .int .i64 (Nat.cast i))], [.arr ((freeTo fl i).map V.str) .flat], false, 31, 0⟩) (fun i => i ≤ fl.length) (fun i => fl.length - i) 0 ?_ ?_ ?_
  ·refine weak_bothS [6, 16, 17, 18] [3] ⟨?_⟩
   rfl
  ·exact Nat.zero_le _
  ·rintro i hok10 Q10 n10 e10 r10
   have hi1 : i ≤ fl.length := hok10
   refine v_seqR [6,16,17,18,19] ?_; intro K11 k11
   refine zBinOp ⟨?_⟩
   refine k11 _ ?_
   refine zk ⟨?_⟩
   refine v_seq ?_; intro Q12 n12 e12 r12
   refine v_condS _ rfl ?_ ?_
   ·intro hc1
    have hlt : i < fl.length := by omega
    obtain ⟨⟨x0, x1, x2, x3, x4⟩, hx⟩ : ∃ x : ByteArray × Int × Int × Int × Int, fl[i]? = some x := ⟨fl[i]'(by omega), List.getElem?_eq_getElem (by omega)⟩
    have hkx := (hc.ds.hap _ (List.mem_of_getElem? hx)).1
    simp only [] at hkx
    have hfl := free_len fl i
    have h12 := hc.ds.hfl
    refine v_skip ?_
    refine n12 _ _ (weak_keep [6, 16, 17, 18] _) ?_
    refine zk ⟨?_⟩
    refine v_seq ?_; intro Q14 n14 e14 r14
    refine v_block ?_; intro Q15 n15 x15 e15 r15
    refine v_seqR [6,8,16,17,18] ?_; intro K16 k16
    have F := Fc.mk (fun f => getD_map (f := f) hx)
    refine zIndexAddr ⟨?_⟩
    refine zLoad ⟨?_⟩
    refine zAlloc ⟨?_⟩
    refine zStore ⟨?_⟩
    refine k16 _ ?_
    refine zk ⟨?_⟩
    refine v_seqR [6,8,16,17,18,23] ?_; intro K17 k17
    refine zLoad ⟨?_⟩
    refine zc (isAvailable_con x0 x1 x2 x3 x4 hkx) ⟨?_⟩
    refine k17 _ ?_
    refine zk ⟨?_⟩
    refine v_condS _ rfl ?_ ?_
    ·intro hc2
     have hst := free_yes hx hc2
     have hsn : (freeTo fl i).map V.str ++ [V.str x0] = (freeTo fl (i + 1)).map V.str := by rw [hst, List.map_append]; rfl
     refine v_region ?_; intro K19 k19
     refine zMove ⟨?_⟩
     refine zFieldAddr ⟨?_⟩
     refine zLoad ⟨?_⟩
     refine zBuildSlice ⟨?_⟩
     refine zAppend ⟨?_⟩
     refine zAssign ⟨?_⟩
     refine k19 _ ?_
     refine n15 _ ?_
     refine n14 _ _ (weak_keep [6, 16, 17, 18] _) ?_
     refine zk ⟨?_⟩
     refine v_region ?_; intro K20 k20
     refine zBinOpW ⟨?_⟩
     refine zMove ⟨?_⟩
     refine k20 _ ?_
     refine n10 _ (i + 1) ?_ ?_ ?_
     ·refine weak_bothS [6, 16, 17, 18] [3] ⟨?_⟩
      rw [← hsn]; rfl
     ·exact hlt
     ·show _ < _; omega
    ·intro hc2
     have hst := free_no hx hc2
     refine v_skip ?_
     refine n15 _ ?_
     refine n14 _ _ (weak_keep [6, 16, 17, 18] _) ?_
     refine zk ⟨?_⟩
     refine v_region ?_; intro K21 k21
     refine zBinOpW ⟨?_⟩
     refine zMove ⟨?_⟩
     refine k21 _ ?_
     refine n10 _ (i + 1) ?_ ?_ ?_
     ·refine weak_bothS [6, 16, 17, 18] [0] ⟨?_⟩
      rw [hst]; rfl
     ·exact hlt
     ·show _ < _; omega
   ·intro hc1
    have hend : i = fl.length := by omega
    subst hend
    refine v_exit ?_
    refine e12 _ _ ?_
    refine e10 _ _ ?_
    refine x9 _ ?_
    refine n7 _ _ (weak_keep [6] _) ?_
    refine zk ⟨?_⟩
    refine v_seqR [4,5] ?_; intro K22 k22
    refine zMove ⟨?_⟩
    refine zAssign ⟨?_⟩
    refine zAssign ⟨?_⟩
    refine k22 _ ?_
    refine zk ⟨?_⟩
    refine v_ret ?_
    refine r0 _ ?_
    refine zf ⟨?_⟩
    rw [hB, orNil_t]
    exact ret_all rfl (by first | decide | simp [newIds, refsOf, refs2, refs1]) (by simp) rfl (by simp [newIds, refsOf, refs2, refs1]) (by simp [Blk.kindIs, fillK_fd]) rfl
set_option maxRecDepth 100000 in
set_option maxHeartbeats 1000000 in
theorem specFree_con (n : Int) (ss : List (Int × Int × Int)) (fl : List (ByteArray × Int × Int × Int × Int)) (ins : List (Int × Int × Bool × List ByteArray)) (ws : List (Int × List Int)) (hs : ss.length ≤ 1048576) (hl : fl.length ≤ 1048576) (hls : ∀ t ∈ fl, t.1.size ≤ 9223372036854775807) (hil : ins.length ≤ 1048576) (hin : ∀ x ∈ ins, x.2.2.2.length ≤ 1048576) (his : ∀ x ∈ ins, ∀ s ∈ x.2.2.2, s.size ≤ 9223372036854775807) (hwl : ws.length ≤ 1048576) (hwn : ∀ x ∈ ws, x.2.length ≤ 1048576) : Con Tryz.prog 22 [.agg [.int .i64 n, .sl (ss.map (fun t : Int × Int × Int => V.agg [V.int .i64 t.1, V.int .i64 t.2.1, V.int .i64 t.2.2]))], .agg [.sl (fl.map (fun t : ByteArray × Int × Int × Int × Int => V.agg [V.str t.1, V.int .i64 t.2.1, V.int .i64 t.2.2.1, V.int .i64 t.2.2.2.1, V.int .i64 t.2.2.2.2])), .sl (ins.map (fun t : Int × Int × Bool × List ByteArray => V.agg [V.int .i64 t.1, V.int .i64 t.2.1, V.bool t.2.2.1, V.sl (t.2.2.2.map V.str)])), .sl (ws.map (fun t : Int × List Int => V.agg [V.int .i64 t.1, V.sl (t.2.map (V.int .i64))]))]] [] (.tup [.ref 0, .bool (ctlB n ss fl ins ws)]) [.arr ((orNil (ctlB n ss fl ins ws) (freeTo fl fl.length)).map V.str) .flat] := by
 refine v_con [.tmp 4, .tmp 5] [] Tryz.func22 rfl rfl rfl (by simp [Tryz.ntmps22]) ?_
 intro Q0 n0 r0
 simp only [Tryz.ntmps22, envFrom, Nat.reduceAdd]
 have T := Tys.mk (And.intro Ty.t3 (And.intro Ty.t4 (And.intro Ty.t9 (And.intro Ty.t32 (And.intro Ty.t35 (And.intro Ty.t37 (And.intro Ty.t39 (And.intro Ty.t40 (And.intro Ty.t41 (And.intro Ty.t43 (And.intro Ty.t54 (And.intro Ty.t69 (And.intro Ty.t71 (And.intro Ty.t89 Ty.t106))))))))))))))
 have F := Fc.mk True.intro
 refine v_seqR [2,3] ?_; intro K1 k1
 refine zBox ⟨?_⟩
 refine zBox ⟨?_⟩
 refine zAssign ⟨?_⟩
 refine zAssign ⟨?_⟩
 refine k1 _ ?_
 refine zk ⟨?_⟩
 refine v_seq ?_; intro Q2 n2 e2 r2
 refine v_seqR [3,12] ?_; intro K3 k3
 refine zLoad ⟨?_⟩
 refine zLoad ⟨?_⟩
 refine zc (roGood_con n ss fl ins ws hs hl hls hil hin his hwl hwn) ⟨?_⟩
 refine zUnOp ⟨?_⟩
 refine k3 _ ?_
 refine zk ⟨?_⟩
 refine v_condS _ rfl ?_ ?_
 ·intro hc0
  have hB : (ctlB n ss fl ins ws) = false := by
   cases hq : (ctlB n ss fl ins ws) with
   |false => rfl
   |true => simp [hq] at hc0
  refine v_seqR [4,5] ?_; intro K5 k5
  refine zAssign ⟨?_⟩
  refine zAssign ⟨?_⟩
  refine k5 _ ?_
  refine zk ⟨?_⟩
  refine v_ret ?_
  refine r2 _ ?_
  refine r0 _ ?_
  refine zf ⟨?_⟩
  rw [hB, orNil_f]
  exact ret_all rfl (by first | decide | simp [newIds, refsOf, refs2, refs1]) (by simp) rfl (by simp [newIds, refsOf, refs2, refs1]) (by simp [Blk.kindIs, fillK_fd]) rfl
 ·intro hc0
  have hB : (ctlB n ss fl ins ws) = true := by
   cases hq : (ctlB n ss fl ins ws) with
   |true => rfl
   |false => simp [hq] at hc0
  have hc := ctl_facts hB
  refine v_skip ?_
  refine n2 _ _ (weak_keep [3] _) ?_
  refine zk ⟨?_⟩
  refine v_seqR [3,6] ?_; intro K6 k6
  refine zAssign ⟨?_⟩
  refine k6 _ ?_
  refine zk ⟨?_⟩
  refine v_seq ?_; intro Q7 n7 e7 r7
  refine v_seqR [6,14,15,16] ?_; intro K8 k8
  refine zFieldAddr ⟨?_⟩
  refine zLoad ⟨?_⟩
  refine zLen ⟨?_⟩
  refine zMove ⟨?_⟩
  refine k8 _ ?_
  refine zk ⟨?_⟩
  refine v_block ?_; intro Q9 n9 x9 e9 r9
  refine v_loop (fun i => ⟨[(6, .ref 0), (14, .sl (fl.map (fun t : ByteArray × Int × Int × Int × Int => V.agg [V.str t.1, V.int .i64 t.2.1, V.int .i64 t.2.2.1, V.int .i64 t.2.2.2.1, V.int .i64 t.2.2.2.2]))), (15, .int .i64 fl.length), (16, .int .i64 (Nat.cast i))], [.arr ((freeTo fl i).map V.str) .flat], false, 29, 0⟩) (fun i => i ≤ fl.length) (fun i => fl.length - i) 0 ?_ ?_ ?_
  ·refine weak_bothS [6, 14, 15, 16] [3] ⟨?_⟩
   rfl
  ·exact Nat.zero_le _
  ·rintro i hok10 Q10 n10 e10 r10
   have hi1 : i ≤ fl.length := hok10
   refine v_seqR [6,14,15,16,17] ?_; intro K11 k11
   refine zBinOp ⟨?_⟩
   refine k11 _ ?_
   refine zk ⟨?_⟩
   refine v_seq ?_; intro Q12 n12 e12 r12
   refine v_condS _ rfl ?_ ?_
   ·intro hc1
    have hlt : i < fl.length := by omega
    obtain ⟨⟨x0, x1, x2, x3, x4⟩, hx⟩ : ∃ x : ByteArray × Int × Int × Int × Int, fl[i]? = some x := ⟨fl[i]'(by omega), List.getElem?_eq_getElem (by omega)⟩
    have hkx := (hc.ds.hap _ (List.mem_of_getElem? hx)).1
    simp only [] at hkx
    have hfl := free_len fl i
    have h12 := hc.ds.hfl
    refine v_skip ?_
    refine n12 _ _ (weak_keep [6, 14, 15, 16] _) ?_
    refine zk ⟨?_⟩
    refine v_seq ?_; intro Q14 n14 e14 r14
    refine v_block ?_; intro Q15 n15 x15 e15 r15
    refine v_seqR [6,8,14,15,16] ?_; intro K16 k16
    have F := Fc.mk (fun f => getD_map (f := f) hx)
    refine zIndexAddr ⟨?_⟩
    refine zLoad ⟨?_⟩
    refine zAlloc ⟨?_⟩
    refine zStore ⟨?_⟩
    refine k16 _ ?_
    refine zk ⟨?_⟩
    refine v_seqR [6,8,14,15,16,21] ?_; intro K17 k17
    refine zLoad ⟨?_⟩
    refine zc (apReady_con x0 x1 x2 x3 x4 hkx) ⟨?_⟩
    refine k17 _ ?_
    refine zk ⟨?_⟩
    refine v_condS _ rfl ?_ ?_
    ·intro hc2
     have hst := free_yes hx hc2
     have hsn : (freeTo fl i).map V.str ++ [V.str x0] = (freeTo fl (i + 1)).map V.str := by rw [hst, List.map_append]; rfl
     refine v_region ?_; intro K19 k19
     refine zMove ⟨?_⟩
     refine zFieldAddr ⟨?_⟩
     refine zLoad ⟨?_⟩
     refine zBuildSlice ⟨?_⟩
     refine zAppend ⟨?_⟩
     refine zAssign ⟨?_⟩
     refine k19 _ ?_
     refine n15 _ ?_
     refine n14 _ _ (weak_keep [6, 14, 15, 16] _) ?_
     refine zk ⟨?_⟩
     refine v_region ?_; intro K20 k20
     refine zBinOpW ⟨?_⟩
     refine zMove ⟨?_⟩
     refine k20 _ ?_
     refine n10 _ (i + 1) ?_ ?_ ?_
     ·refine weak_bothS [6, 14, 15, 16] [3] ⟨?_⟩
      rw [← hsn]; rfl
     ·exact hlt
     ·show _ < _; omega
    ·intro hc2
     have hst := free_no hx hc2
     refine v_skip ?_
     refine n15 _ ?_
     refine n14 _ _ (weak_keep [6, 14, 15, 16] _) ?_
     refine zk ⟨?_⟩
     refine v_region ?_; intro K21 k21
     refine zBinOpW ⟨?_⟩
     refine zMove ⟨?_⟩
     refine k21 _ ?_
     refine n10 _ (i + 1) ?_ ?_ ?_
     ·refine weak_bothS [6, 14, 15, 16] [0] ⟨?_⟩
      rw [hst]; rfl
     ·exact hlt
     ·show _ < _; omega
   ·intro hc1
    have hend : i = fl.length := by omega
    subst hend
    refine v_exit ?_
    refine e12 _ _ ?_
    refine e10 _ _ ?_
    refine x9 _ ?_
    refine n7 _ _ (weak_keep [6] _) ?_
    refine zk ⟨?_⟩
    refine v_seqR [4,5] ?_; intro K22 k22
    refine zMove ⟨?_⟩
    refine zAssign ⟨?_⟩
    refine zAssign ⟨?_⟩
    refine k22 _ ?_
    refine zk ⟨?_⟩
    refine v_ret ?_
    refine r0 _ ?_
    refine zf ⟨?_⟩
    rw [hB, orNil_t]
    exact ret_all rfl (by first | decide | simp [newIds, refsOf, refs2, refs1]) (by simp) rfl (by simp [newIds, refsOf, refs2, refs1]) (by simp [Blk.kindIs, fillK_fd]) rfl
end Go.Proofs.YtdgenniiidgimaaGreat
