/- What functions compute. No condition. -/
import Derived.Test.YtdgenniiidgimaaGreatUty
import Derived.Test.YtdgenniiidgimaaGreatUmG
import Derived.Test.YtdgenniiidgimaaGreatX15
import Derived.Test.YtdgenniiidgimaaGreatX7
import Derived.Test.YtdgenniiidgimaaGreatX6
import Derived.Test.YtdgenniiidgimaaGreatX8
set_option linter.unusedSimpArgs false
set_option linter.unusedVariables false
set_option linter.defProp false
namespace Go.Proofs.YtdgenniiidgimaaGreat
open Go Go.Vm

set_option maxHeartbeats 1000000 in
theorem cloneStr_con (l : List ByteArray) (hl : l.length ≤ 1048576) : Con Tryz.prog 129 [.sl (l.map V.str)] [] (.ref 0) [.arr (l.map V.str) .flat] := by
 have hns : (l.map V.str).all V.noSl = true := by rw [List.all_map, List.all_eq_true]; intro a _; rfl
 refine v_con [.tmp 2] [] Tryz.func129 rfl rfl rfl (by simp [Tryz.ntmps129]) ?_
 intro Q0 n0 r0
 simp only [Tryz.ntmps129, envFrom, Nat.reduceAdd]
 have T := Tys.mk (And.intro Ty.t9 Ty.t54)
 have F := Fc.mk True.intro
 refine v_seqR [0] ?_; intro K1 k1
 have F := Fc.mk hns
 refine zAssign ⟨?_⟩
 refine k1 _ ?_
 refine zk ⟨?_⟩
 refine v_seq ?_; intro Q2 n2 e2 r2
 refine v_seqR [0,4] ?_; intro K3 k3
 refine zMove ⟨?_⟩
 refine zNil ⟨?_⟩
 intro nb4 hnb4
 refine k3 _ ?_
 refine zk ⟨?_⟩
 refine v_condS _ rfl ?_ ?_
 ·intro hc0
  have hnil : l = [] := by cases l with | nil => rfl | cons a b => have := hnb4 (by simp); rw [hc0] at this; cases this
  refine v_seqR [2] ?_; intro K5 k5
  refine zAssign ⟨?_⟩
  refine k5 _ ?_
  refine zk ⟨?_⟩
  refine v_ret ?_
  refine r2 _ ?_
  refine r0 _ ?_
  refine zf ⟨?_⟩
  rw [hnil]; exact ret_refK rfl rfl rfl
 ·intro hc0
  refine v_skip ?_
  refine n2 _ _ (weak_keep [0] _) ?_
  refine zk ⟨?_⟩
  refine v_seqR [2] ?_; intro K6 k6
  refine zBuildSlice ⟨?_⟩
  refine zMove ⟨?_⟩
  refine zAppend ⟨?_⟩
  refine zAssign ⟨?_⟩
  refine k6 _ ?_
  refine zk ⟨?_⟩
  refine v_ret ?_
  refine r0 _ ?_
  refine zf ⟨?_⟩
  exact ret_refK rfl rfl (by simp)
set_option maxHeartbeats 1000000 in
theorem copyIncidents_con (l : List (Int × Int × Bool × List ByteArray)) (hl : l.length ≤ 1048576) (hls : ∀ t ∈ l, t.2.2.2.length ≤ 1048576) : Con Tryz.prog 116 [.sl (l.map (fun t : Int × Int × Bool × List ByteArray => V.agg [V.int .i64 t.1, V.int .i64 t.2.1, V.bool t.2.2.1, V.sl (t.2.2.2.map V.str)]))] [] (.ref 0) [.arr (l.map (fun t : Int × Int × Bool × List ByteArray => V.agg [V.int .i64 t.1, V.int .i64 t.2.1, V.bool t.2.2.1, V.sl (t.2.2.2.map V.str)])) (fillK l.length)] := by
 refine v_con [.tmp 2] [] Tryz.func116 rfl rfl rfl (by simp [Tryz.ntmps116]) ?_
 intro Q0 n0 r0
 simp only [Tryz.ntmps116, envFrom, Nat.reduceAdd]
 have T := Tys.mk (And.intro Ty.t3 (And.intro Ty.t4 (And.intro Ty.t9 (And.intro Ty.t40 (And.intro Ty.t54 Ty.t69)))))
 have F := Fc.mk True.intro
 refine v_seqR [0] ?_; intro K1 k1
 refine zAssign ⟨?_⟩
 refine k1 _ ?_
 refine zk ⟨?_⟩
 refine v_seqR [0,3] ?_; intro K2 k2
 refine zAssign ⟨?_⟩
 refine k2 _ ?_
 refine zk ⟨?_⟩
 refine v_seq ?_; intro Q3 n3 e3 r3
 refine v_seqR [3,6,7,8] ?_; intro K4 k4
 refine zMove ⟨?_⟩
 refine zLen ⟨?_⟩
 refine zMove ⟨?_⟩
 refine k4 _ ?_
 refine zk ⟨?_⟩
 refine v_block ?_; intro Q5 n5 x5 e5 r5
 refine v_loop (fun i => ⟨[(3, .ref 0), (6, .sl (l.map (fun t : Int × Int × Bool × List ByteArray => V.agg [V.int .i64 t.1, V.int .i64 t.2.1, V.bool t.2.2.1, V.sl (t.2.2.2.map V.str)]))), (7, .int .i64 l.length), (8, .int .i64 (Nat.cast i))], [.arr ((l.take i).map (fun t : Int × Int × Bool × List ByteArray => V.agg [V.int .i64 t.1, V.int .i64 t.2.1, V.bool t.2.2.1, V.sl (t.2.2.2.map V.str)])) (fillK i)], false, 22, 0⟩) (fun i => i ≤ l.length) (fun i => l.length - i) 0 ?_ ?_ ?_
 ·refine weak_bothS [3, 6, 7, 8] [1] ⟨?_⟩
  rfl
 ·exact Nat.zero_le _
 ·rintro i hok6 Q6 n6 e6 r6
  have hi1 : i ≤ l.length := hok6
  refine v_seqR [3,6,7,8,9] ?_; intro K7 k7
  refine zBinOp ⟨?_⟩
  refine k7 _ ?_
  refine zk ⟨?_⟩
  refine v_seq ?_; intro Q8 n8 e8 r8
  refine v_condS _ rfl ?_ ?_
  ·intro hc0
   have hlt : i < l.length := by omega
   obtain ⟨⟨x0, x1, x2, x3⟩, hx⟩ : ∃ x : Int × Int × Bool × List ByteArray, l[i]? = some x := ⟨l[i]'(by omega), List.getElem?_eq_getElem (by omega)⟩
   have hlx := hls _ (List.mem_of_getElem? hx)
   simp only [] at hlx
   have hsn : (l.take i).map (fun t : Int × Int × Bool × List ByteArray => V.agg [V.int .i64 t.1, V.int .i64 t.2.1, V.bool t.2.2.1, V.sl (t.2.2.2.map V.str)]) ++ [V.agg [V.int .i64 x0, V.int .i64 x1, V.bool x2, V.sl (x3.map V.str)]] = (l.take (i + 1)).map (fun t : Int × Int × Bool × List ByteArray => V.agg [V.int .i64 t.1, V.int .i64 t.2.1, V.bool t.2.2.1, V.sl (t.2.2.2.map V.str)]) := (take_map_step (f := (fun t : Int × Int × Bool × List ByteArray => V.agg [V.int .i64 t.1, V.int .i64 t.2.1, V.bool t.2.2.1, V.sl (t.2.2.2.map V.str)])) hx).symm
   have hti : (l.take i).length = i := by rw [List.length_take]; omega
   refine v_skip ?_
   refine n8 _ _ (weak_keep [3, 6, 7, 8] _) ?_
   refine zk ⟨?_⟩
   refine v_seq ?_; intro Q10 n10 e10 r10
   refine v_block ?_; intro Q11 n11 x11 e11 r11
   refine v_seqR [3,5,6,7,8] ?_; intro K12 k12
   have F := Fc.mk (And.intro (fun f => getD_map (f := f) hx) hti)
   refine zIndexAddr ⟨?_⟩
   refine zLoad ⟨?_⟩
   refine zAlloc ⟨?_⟩
   refine zStore ⟨?_⟩
   refine k12 _ ?_
   refine zk ⟨?_⟩
   refine v_seqR [3,5,6,7,8] ?_; intro K13 k13
   refine zFieldAddr ⟨?_⟩
   refine zLoad ⟨?_⟩
   refine zc (cloneStr_con x3 hlx) ⟨?_⟩
   refine zFieldAddr ⟨?_⟩
   refine zStore ⟨?_⟩
   refine k13 _ ?_
   refine zk ⟨?_⟩
   refine v_region ?_; intro K14 k14
   refine zMove ⟨?_⟩
   refine zLoad ⟨?_⟩
   refine zBuildSlice ⟨?_⟩
   refine zAppend ⟨?_⟩
   refine zAssign ⟨?_⟩
   refine k14 _ ?_
   refine n11 _ ?_
   refine n10 _ _ (weak_keep [3, 6, 7, 8] _) ?_
   refine zk ⟨?_⟩
   refine v_region ?_; intro K15 k15
   refine zBinOpW ⟨?_⟩
   refine zMove ⟨?_⟩
   refine k15 _ ?_
   refine n6 _ (i + 1) ?_ ?_ ?_
   ·refine weak_bothS [3, 6, 7, 8] [5] ⟨?_⟩
    rw [← hsn]; rfl
   ·exact hlt
   ·show _ < _; omega
  ·intro hc0
   have hend : i = l.length := by omega
   subst hend
   refine v_exit ?_
   refine e8 _ _ ?_
   refine e6 _ _ ?_
   refine x5 _ ?_
   refine n3 _ _ (weak_keep [3] _) ?_
   refine zk ⟨?_⟩
   refine v_seqR [2] ?_; intro K16 k16
   refine zMove ⟨?_⟩
   refine zAssign ⟨?_⟩
   refine k16 _ ?_
   refine zk ⟨?_⟩
   refine v_ret ?_
   refine r0 _ ?_
   refine zf ⟨?_⟩
   rw [List.take_length]
   exact ret_refK rfl (by unfold fillK; split <;> rfl) rfl
set_option maxHeartbeats 1000000 in
theorem ixOwn_con (l : List (Int × Int × Bool × List ByteArray)) (hl : l.length ≤ 1048576) (hls : ∀ t ∈ l, t.2.2.2.length ≤ 1048576) : Con Tryz.prog 113 [.sl (l.map (fun t : Int × Int × Bool × List ByteArray => V.agg [V.int .i64 t.1, V.int .i64 t.2.1, V.bool t.2.2.1, V.sl (t.2.2.2.map V.str)]))] [] (.ref 0) [.arr (l.map (fun t : Int × Int × Bool × List ByteArray => V.agg [V.int .i64 t.1, V.int .i64 t.2.1, V.bool t.2.2.1, V.sl (t.2.2.2.map V.str)])) (fillK l.length)] := by
 refine v_con [.tmp 2] [] Tryz.func113 rfl rfl rfl (by simp [Tryz.ntmps113]) ?_
 intro Q0 n0 r0
 simp only [Tryz.ntmps113, envFrom, Nat.reduceAdd]
 have T := Tys.mk (And.intro Ty.t3 (And.intro Ty.t4 (And.intro Ty.t9 (And.intro Ty.t40 (And.intro Ty.t54 Ty.t69)))))
 have F := Fc.mk True.intro
 refine v_seqR [0] ?_; intro K1 k1
 refine zAssign ⟨?_⟩
 refine k1 _ ?_
 refine zk ⟨?_⟩
 refine v_seqR [0,3] ?_; intro K2 k2
 refine zAssign ⟨?_⟩
 refine k2 _ ?_
 refine zk ⟨?_⟩
 refine v_seq ?_; intro Q3 n3 e3 r3
 refine v_seqR [3,6,7,8] ?_; intro K4 k4
 refine zMove ⟨?_⟩
 refine zLen ⟨?_⟩
 refine zMove ⟨?_⟩
 refine k4 _ ?_
 refine zk ⟨?_⟩
 refine v_block ?_; intro Q5 n5 x5 e5 r5
 refine v_loop (fun i => ⟨[(3, .ref 0), (6, .sl (l.map (fun t : Int × Int × Bool × List ByteArray => V.agg [V.int .i64 t.1, V.int .i64 t.2.1, V.bool t.2.2.1, V.sl (t.2.2.2.map V.str)]))), (7, .int .i64 l.length), (8, .int .i64 (Nat.cast i))], [.arr ((l.take i).map (fun t : Int × Int × Bool × List ByteArray => V.agg [V.int .i64 t.1, V.int .i64 t.2.1, V.bool t.2.2.1, V.sl (t.2.2.2.map V.str)])) (fillK i)], false, 23, 0⟩) (fun i => i ≤ l.length) (fun i => l.length - i) 0 ?_ ?_ ?_
 ·refine weak_bothS [3, 6, 7, 8] [1] ⟨?_⟩
  rfl
 ·exact Nat.zero_le _
 ·rintro i hok6 Q6 n6 e6 r6
  have hi1 : i ≤ l.length := hok6
  refine v_seqR [3,6,7,8,9] ?_; intro K7 k7
  refine zBinOp ⟨?_⟩
  refine k7 _ ?_
  refine zk ⟨?_⟩
  refine v_seq ?_; intro Q8 n8 e8 r8
  refine v_condS _ rfl ?_ ?_
  ·intro hc0
   have hlt : i < l.length := by omega
   obtain ⟨⟨x0, x1, x2, x3⟩, hx⟩ : ∃ x : Int × Int × Bool × List ByteArray, l[i]? = some x := ⟨l[i]'(by omega), List.getElem?_eq_getElem (by omega)⟩
   have hlx := hls _ (List.mem_of_getElem? hx)
   simp only [] at hlx
   have hsn : (l.take i).map (fun t : Int × Int × Bool × List ByteArray => V.agg [V.int .i64 t.1, V.int .i64 t.2.1, V.bool t.2.2.1, V.sl (t.2.2.2.map V.str)]) ++ [V.agg [V.int .i64 x0, V.int .i64 x1, V.bool x2, V.sl (x3.map V.str)]] = (l.take (i + 1)).map (fun t : Int × Int × Bool × List ByteArray => V.agg [V.int .i64 t.1, V.int .i64 t.2.1, V.bool t.2.2.1, V.sl (t.2.2.2.map V.str)]) := (take_map_step (f := (fun t : Int × Int × Bool × List ByteArray => V.agg [V.int .i64 t.1, V.int .i64 t.2.1, V.bool t.2.2.1, V.sl (t.2.2.2.map V.str)])) hx).symm
   have hti : (l.take i).length = i := by rw [List.length_take]; omega
   have hns : (x3.map V.str).all V.noSl = true := by rw [List.all_map, List.all_eq_true]; intro a _; rfl
   refine v_skip ?_
   refine n8 _ _ (weak_keep [3, 6, 7, 8] _) ?_
   refine zk ⟨?_⟩
   refine v_seq ?_; intro Q10 n10 e10 r10
   refine v_block ?_; intro Q11 n11 x11 e11 r11
   refine v_seqR [3,5,6,7,8] ?_; intro K12 k12
   have F := Fc.mk (And.intro (fun f => getD_map (f := f) hx) (And.intro hti hns))
   refine zIndexAddr ⟨?_⟩
   refine zLoad ⟨?_⟩
   refine zAlloc ⟨?_⟩
   refine zStore ⟨?_⟩
   refine k12 _ ?_
   refine zk ⟨?_⟩
   refine v_seqR [3,5,6,7,8] ?_; intro K13 k13
   refine zBuildSlice ⟨?_⟩
   refine zFieldAddr ⟨?_⟩
   refine zLoad ⟨?_⟩
   refine zAppend ⟨?_⟩
   refine zFieldAddr ⟨?_⟩
   refine zStore ⟨?_⟩
   refine k13 _ ?_
   refine zk ⟨?_⟩
   refine v_region ?_; intro K14 k14
   refine zMove ⟨?_⟩
   refine zLoad ⟨?_⟩
   refine zBuildSlice ⟨?_⟩
   refine zAppend ⟨?_⟩
   refine zAssign ⟨?_⟩
   refine k14 _ ?_
   refine n11 _ ?_
   refine n10 _ _ (weak_keep [3, 6, 7, 8] _) ?_
   refine zk ⟨?_⟩
   refine v_region ?_; intro K15 k15
   refine zBinOpW ⟨?_⟩
   refine zMove ⟨?_⟩
   refine k15 _ ?_
   refine n6 _ (i + 1) ?_ ?_ ?_
   ·refine weak_bothS [3, 6, 7, 8] [6] ⟨?_⟩
    rw [← hsn]; rfl
   ·exact hlt
   ·show _ < _; omega
  ·intro hc0
   have hend : i = l.length := by omega
   subst hend
   refine v_exit ?_
   refine e8 _ _ ?_
   refine e6 _ _ ?_
   refine x5 _ ?_
   refine n3 _ _ (weak_keep [3] _) ?_
   refine zk ⟨?_⟩
   refine v_seqR [2] ?_; intro K16 k16
   refine zMove ⟨?_⟩
   refine zAssign ⟨?_⟩
   refine k16 _ ?_
   refine zk ⟨?_⟩
   refine v_ret ?_
   refine r0 _ ?_
   refine zf ⟨?_⟩
   rw [List.take_length]
   exact ret_refK rfl (by unfold fillK; split <;> rfl) rfl
set_option maxHeartbeats 1000000 in
theorem roWants_con (l : List (Int × List Int)) (hl : l.length ≤ 1048576) (hls : ∀ t ∈ l, t.2.length ≤ 1048576) : Con Tryz.prog 114 [.sl (l.map (fun t : Int × List Int => V.agg [V.int .i64 t.1, V.sl (t.2.map (V.int .i64))]))] [] (.ref 0) [.arr (l.map (fun t : Int × List Int => V.agg [V.int .i64 t.1, V.sl (t.2.map (V.int .i64))])) (fillK l.length)] := by
 refine v_con [.tmp 2] [] Tryz.func114 rfl rfl rfl (by simp [Tryz.ntmps114]) ?_
 intro Q0 n0 r0
 simp only [Tryz.ntmps114, envFrom, Nat.reduceAdd]
 have T := Tys.mk (And.intro Ty.t3 (And.intro Ty.t32 (And.intro Ty.t41 Ty.t89)))
 have F := Fc.mk True.intro
 refine v_seqR [0] ?_; intro K1 k1
 refine zAssign ⟨?_⟩
 refine k1 _ ?_
 refine zk ⟨?_⟩
 refine v_seqR [0,3] ?_; intro K2 k2
 refine zAssign ⟨?_⟩
 refine k2 _ ?_
 refine zk ⟨?_⟩
 refine v_seq ?_; intro Q3 n3 e3 r3
 refine v_seqR [3,6,7,8] ?_; intro K4 k4
 refine zMove ⟨?_⟩
 refine zLen ⟨?_⟩
 refine zMove ⟨?_⟩
 refine k4 _ ?_
 refine zk ⟨?_⟩
 refine v_block ?_; intro Q5 n5 x5 e5 r5
 refine v_loop (fun i => ⟨[(3, .ref 0), (6, .sl (l.map (fun t : Int × List Int => V.agg [V.int .i64 t.1, V.sl (t.2.map (V.int .i64))]))), (7, .int .i64 l.length), (8, .int .i64 (Nat.cast i))], [.arr ((l.take i).map (fun t : Int × List Int => V.agg [V.int .i64 t.1, V.sl (t.2.map (V.int .i64))])) (fillK i)], false, 23, 0⟩) (fun i => i ≤ l.length) (fun i => l.length - i) 0 ?_ ?_ ?_
 ·refine weak_bothS [3, 6, 7, 8] [1] ⟨?_⟩
  rfl
 ·exact Nat.zero_le _
 ·rintro i hok6 Q6 n6 e6 r6
  have hi1 : i ≤ l.length := hok6
  refine v_seqR [3,6,7,8,9] ?_; intro K7 k7
  refine zBinOp ⟨?_⟩
  refine k7 _ ?_
  refine zk ⟨?_⟩
  refine v_seq ?_; intro Q8 n8 e8 r8
  refine v_condS _ rfl ?_ ?_
  ·intro hc0
   have hlt : i < l.length := by omega
   obtain ⟨⟨x0, x1⟩, hx⟩ : ∃ x : Int × List Int, l[i]? = some x := ⟨l[i]'(by omega), List.getElem?_eq_getElem (by omega)⟩
   have hlx := hls _ (List.mem_of_getElem? hx)
   simp only [] at hlx
   have hsn : (l.take i).map (fun t : Int × List Int => V.agg [V.int .i64 t.1, V.sl (t.2.map (V.int .i64))]) ++ [V.agg [V.int .i64 x0, V.sl (x1.map (V.int .i64))]] = (l.take (i + 1)).map (fun t : Int × List Int => V.agg [V.int .i64 t.1, V.sl (t.2.map (V.int .i64))]) := (take_map_step (f := (fun t : Int × List Int => V.agg [V.int .i64 t.1, V.sl (t.2.map (V.int .i64))])) hx).symm
   have hti : (l.take i).length = i := by rw [List.length_take]; omega
   refine v_skip ?_
   refine n8 _ _ (weak_keep [3, 6, 7, 8] _) ?_
   refine zk ⟨?_⟩
   refine v_seq ?_; intro Q10 n10 e10 r10
   refine v_block ?_; intro Q11 n11 x11 e11 r11
   refine v_seqR [3,5,6,7,8] ?_; intro K12 k12
   have F := Fc.mk (And.intro (fun f => getD_map (f := f) hx) hti)
   refine zIndexAddr ⟨?_⟩
   refine zLoad ⟨?_⟩
   refine zAlloc ⟨?_⟩
   refine zStore ⟨?_⟩
   refine k12 _ ?_
   refine zk ⟨?_⟩
   refine v_draw (by kernel_rfl) ?_; intro K13 q13 k13
   show aAny _ _ _ _ 10 (Array.replicate 10 false) _
   refine zdMove q13 true 0 12 ?_
   refine zdFieldAddr q13 true 1 13 ?_
   refine zdLoad q13 true 2 14 ?_
   refine zdFieldAddr q13 true 3 15 ?_
   refine zdLoad q13 true 4 16 ?_
   refine zoc 5 (l1Own_con x1 hlx) ⟨?_⟩
   refine zdBuild q13 true 6 18 ?_
   refine zoBuildSlice 7 ⟨?_⟩
   refine zoAppend 8 ⟨?_⟩
   refine zoAssign 9 ⟨?_⟩
   refine aAny_done (by kernel_rfl) ?_
   refine k13 _ ?_
   refine n11 _ ?_
   refine n10 _ _ (weak_keep [3, 6, 7, 8] _) ?_
   refine zk ⟨?_⟩
   refine v_region ?_; intro K14 k14
   refine zBinOpW ⟨?_⟩
   refine zMove ⟨?_⟩
   refine k14 _ ?_
   refine n6 _ (i + 1) ?_ ?_ ?_
   ·refine weak_bothS [3, 6, 7, 8] [5] ⟨?_⟩
    rw [← hsn]; rfl
   ·exact hlt
   ·show _ < _; omega
  ·intro hc0
   have hend : i = l.length := by omega
   subst hend
   refine v_exit ?_
   refine e8 _ _ ?_
   refine e6 _ _ ?_
   refine x5 _ ?_
   refine n3 _ _ (weak_keep [3] _) ?_
   refine zk ⟨?_⟩
   refine v_seqR [2] ?_; intro K15 k15
   refine zMove ⟨?_⟩
   refine zAssign ⟨?_⟩
   refine k15 _ ?_
   refine zk ⟨?_⟩
   refine v_ret ?_
   refine r0 _ ?_
   refine zf ⟨?_⟩
   rw [List.take_length]
   exact ret_refK rfl (by unfold fillK; split <;> rfl) rfl
set_option maxRecDepth 8000 in
set_option maxHeartbeats 1000000 in
theorem copyControl_con (fl : List (ByteArray × Int × Int × Int × Int)) (ins : List (Int × Int × Bool × List ByteArray)) (ws : List (Int × List Int)) (hl : fl.length ≤ 1048576) (hil : ins.length ≤ 1048576) (hin : ∀ x ∈ ins, x.2.2.2.length ≤ 1048576) (hwl : ws.length ≤ 1048576) (hwn : ∀ x ∈ ws, x.2.length ≤ 1048576) : Con Tryz.prog 93 [.pv [.agg [.sl (fl.map (fun t : ByteArray × Int × Int × Int × Int => V.agg [V.str t.1, V.int .i64 t.2.1, V.int .i64 t.2.2.1, V.int .i64 t.2.2.2.1, V.int .i64 t.2.2.2.2])), .sl (ins.map (fun t : Int × Int × Bool × List ByteArray => V.agg [V.int .i64 t.1, V.int .i64 t.2.1, V.bool t.2.2.1, V.sl (t.2.2.2.map V.str)])), .sl (ws.map (fun t : Int × List Int => V.agg [V.int .i64 t.1, V.sl (t.2.map (V.int .i64))]))]] 0 0] [] (.agg [.ref 0, .ref 1, .ref 2]) [.arr (fl.map (fun t : ByteArray × Int × Int × Int × Int => V.agg [V.str t.1, V.int .i64 t.2.1, V.int .i64 t.2.2.1, V.int .i64 t.2.2.2.1, V.int .i64 t.2.2.2.2])) .flat, .arr (ins.map (fun t : Int × Int × Bool × List ByteArray => V.agg [V.int .i64 t.1, V.int .i64 t.2.1, V.bool t.2.2.1, V.sl (t.2.2.2.map V.str)])) (fillK ins.length), .arr (ws.map (fun t : Int × List Int => V.agg [V.int .i64 t.1, V.sl (t.2.map (V.int .i64))])) (fillK ws.length)] := by
 refine v_con [.cell 2 43] [] Tryz.func93 rfl rfl rfl (by simp [Tryz.ntmps93]) ?_
 intro Q0 n0 r0
 simp only [Tryz.ntmps93, envFrom, Nat.reduceAdd]
 have T := Tys.mk (And.intro Ty.t3 (And.intro Ty.t4 (And.intro Ty.t9 (And.intro Ty.t32 (And.intro Ty.t39 (And.intro Ty.t40 (And.intro Ty.t41 (And.intro Ty.t43 (And.intro Ty.t54 (And.intro Ty.t69 (And.intro Ty.t71 Ty.t89)))))))))))
 have F := Fc.mk True.intro
 refine v_seqR [0,2] ?_; intro K1 k1
 refine zAlloc ⟨?_⟩
 refine k1 _ ?_
 refine zk ⟨?_⟩
 refine v_seq ?_; intro Q2 n2 e2 r2
 refine v_draw (by kernel_rfl) ?_; intro K3 q3 k3
 show aAny _ _ _ _ 13 (Array.replicate 13 false) _
 refine zdMove q3 true 0 6 ?_
 refine zdNilCheck q3 true 1 7 ?_
 refine zdFieldAddr q3 true 2 8 ?_
 refine zdLoadX q3 true 3 9 ?_
 refine zdMove q3 true 5 11 ?_
 refine zdNilCheck q3 true 6 12 ?_
 refine zdFieldAddr q3 true 7 13 ?_
 refine zdLoadX q3 true 8 14 ?_
 refine aAny_two 4 11 rfl rfl (by kernel_rfl) ?_ ?_
 ·refine zsc (cloneAppliance_con fl hl) ⟨?_⟩
  refine aAny_two 9 11 rfl rfl (by kernel_rfl) ?_ ?_
  ·refine zsc (copyIncidents_con ins hil hin) ⟨?_⟩
   refine zdBuild q3 true 10 16 ?_
   refine zoAlloc 11 ⟨?_⟩
   refine zoStore 12 ⟨?_⟩
   refine aAny_done (by kernel_rfl) ?_
   refine k3 _ ?_
   refine n2 _ _ (weak_keep [0, 2, 3] _) ?_
   refine zk ⟨?_⟩
   refine v_seq ?_; intro Q4 n4 e4 r4
   refine v_seqR [2,3,20,21,22] ?_; intro K5 k5
   refine zMove ⟨?_⟩
   refine zNilCheck ⟨?_⟩
   refine zFieldAddr ⟨?_⟩
   refine zLoad ⟨?_⟩
   refine zLen ⟨?_⟩
   refine zMove ⟨?_⟩
   refine k5 _ ?_
   refine zk ⟨?_⟩
   refine v_block ?_; intro Q6 n6 x6 e6 r6
   refine v_loop (fun i => ⟨[(2, .ptr 3 0 0), (3, .ptr 7 0 0), (20, .sl (ws.map (fun t : Int × List Int => V.agg [V.int .i64 t.1, V.sl (t.2.map (V.int .i64))]))), (21, .int .i64 ws.length), (22, .int .i64 (Nat.cast i))], [.arr [] .flat, .arr [] .flat, .arr [] .flat, .box (.agg [.ref 0, .ref 1, .ref 2]) .mix, .arr (fl.map (fun t : ByteArray × Int × Int × Int × Int => V.agg [V.str t.1, V.int .i64 t.2.1, V.int .i64 t.2.2.1, V.int .i64 t.2.2.2.1, V.int .i64 t.2.2.2.2])) .flat, .arr (ins.map (fun t : Int × Int × Bool × List ByteArray => V.agg [V.int .i64 t.1, V.int .i64 t.2.1, V.bool t.2.2.1, V.sl (t.2.2.2.map V.str)])) (fillK ins.length), .arr ((ws.take i).map (fun t : Int × List Int => V.agg [V.int .i64 t.1, V.sl (t.2.map (V.int .i64))])) (fillK i), .box (.agg [.ref 4, .ref 5, .ref 6]) .mix], false, 39, 0⟩) (fun i => i ≤ ws.length) (fun i => ws.length - i) 0 ?_ ?_ ?_
   ·refine weak_bothN [2, 3, 20, 21, 22] [0, 1, 2, 3, 4, 5, 10, 9] ⟨?_⟩
    rfl
   ·exact Nat.zero_le _
   ·rintro i hok7 Q7 n7 e7 r7
    have hi1 : i ≤ ws.length := hok7
    refine v_seqR [2,3,20,21,22,23] ?_; intro K8 k8
    refine zBinOp ⟨?_⟩
    refine k8 _ ?_
    refine zk ⟨?_⟩
    refine v_seq ?_; intro Q9 n9 e9 r9
    refine v_condS _ rfl ?_ ?_
    ·intro hc0
     have hlt : i < ws.length := by omega
     obtain ⟨⟨x0, x1⟩, hx⟩ : ∃ x : Int × List Int, ws[i]? = some x := ⟨ws[i]'(by omega), List.getElem?_eq_getElem (by omega)⟩
     have hlx := hwn _ (List.mem_of_getElem? hx)
     simp only [] at hlx
     have hsn : (ws.take i).map (fun t : Int × List Int => V.agg [V.int .i64 t.1, V.sl (t.2.map (V.int .i64))]) ++ [V.agg [V.int .i64 x0, V.sl (x1.map (V.int .i64))]] = (ws.take (i + 1)).map (fun t : Int × List Int => V.agg [V.int .i64 t.1, V.sl (t.2.map (V.int .i64))]) := (take_map_step (f := (fun t : Int × List Int => V.agg [V.int .i64 t.1, V.sl (t.2.map (V.int .i64))])) hx).symm
     have hti : (ws.take i).length = i := by rw [List.length_take]; omega
     refine v_skip ?_
     refine n9 _ _ (weak_keep [2, 3, 20, 21, 22] _) ?_
     refine zk ⟨?_⟩
     refine v_seq ?_; intro Q11 n11 e11 r11
     refine v_block ?_; intro Q12 n12 x12 e12 r12
     refine v_seqR [2,3,5,20,21,22] ?_; intro K13 k13
     have F := Fc.mk (And.intro (fun f => getD_map (f := f) hx) hti)
     refine zIndexAddr ⟨?_⟩
     refine zLoad ⟨?_⟩
     refine zAlloc ⟨?_⟩
     refine zStore ⟨?_⟩
     refine k13 _ ?_
     refine zk ⟨?_⟩
     refine v_draw (by kernel_rfl) ?_; intro K14 q14 k14
     show aAny _ _ _ _ 12 (Array.replicate 12 false) _
     refine zdFieldAddr q14 true 0 26 ?_
     refine zdLoadX q14 true 1 27 ?_
     refine zdFieldAddr q14 true 2 28 ?_
     refine zdLoadX q14 true 3 29 ?_
     refine zdFieldAddr q14 true 4 30 ?_
     refine zdLoadX q14 true 5 31 ?_
     refine zoc 6 (cloneInt_con x1 hlx) ⟨?_⟩
     refine zdBuild q14 true 7 33 ?_
     refine zoBuildSlice 8 ⟨?_⟩
     refine zoAppend 9 ⟨?_⟩
     refine zdFieldAddr q14 true 10 36 ?_
     refine zoStore 11 ⟨?_⟩
     refine aAny_done (by kernel_rfl) ?_
     refine k14 _ ?_
     refine n12 _ ?_
     refine n11 _ _ (weak_keep [2, 3, 20, 21, 22] _) ?_
     refine zk ⟨?_⟩
     refine v_region ?_; intro K15 k15
     refine zBinOpW ⟨?_⟩
     refine zMove ⟨?_⟩
     refine k15 _ ?_
     refine n7 _ (i + 1) ?_ ?_ ?_
     ·refine weak_bothN [2, 3, 20, 21, 22] [0, 1, 2, 3, 4, 5, 12, 7] ⟨?_⟩
      rw [← hsn]; rfl
     ·exact hlt
     ·show _ < _; omega
    ·intro hc0
     have hend : i = ws.length := by omega
     subst hend
     refine v_exit ?_
     refine e9 _ _ ?_
     refine e7 _ _ ?_
     refine x6 _ ?_
     refine n4 _ _ (weak_keep [2, 3] _) ?_
     refine zk ⟨?_⟩
     refine v_seqR [2] ?_; intro K16 k16
     refine zLoad ⟨?_⟩
     refine zStore ⟨?_⟩
     refine k16 _ ?_
     refine zk ⟨?_⟩
     refine v_ret ?_
     refine r0 _ ?_
     refine zf ⟨?_⟩
     simp only [zE, zL, zO, zN, aStepM, optable, set_some, Nat.reduceEqDiff, reduceIte, Nat.reduceLT, implies_true, forall_const, reduceCtorEq, V.ofValue, V.ofScalar, V.un, V.gd, aLoad, row_mk, Blk.row, PartOK, Go.Vm.part, V.cells, V.noSl, V.noRef, Nat.reduceAdd, Nat.reduceLeDiff, Nat.reduceMul, Tryz.underlying39, Ty.c39, Ty.a39, Tryz.underlying40, Ty.c40, Ty.a40, Tryz.underlying41, Ty.c41, Ty.a41, Tryz.underlying43, Ty.c43, Ty.a43]
     rw [List.take_length]
     exact ret_all rfl (by first | decide | simp [newIds, refsOf, refs2, refs1]) (by simp) rfl (by simp [newIds, refsOf, refs2, refs1]) (by simp [Blk.kindIs, fillK_fd]) rfl
  ·refine zsAlloc ⟨?_⟩
   refine zoc 9 (copyIncidents_con ins hil hin) ⟨?_⟩
   refine zdBuild q3 true 10 16 ?_
   refine zoStore 12 ⟨?_⟩
   refine aAny_done (by kernel_rfl) ?_
   refine k3 _ ?_
   refine n2 _ _ (weak_keep [0, 2, 3] _) ?_
   refine zk ⟨?_⟩
   refine v_seq ?_; intro Q17 n17 e17 r17
   refine v_seqR [2,3,20,21,22] ?_; intro K18 k18
   refine zMove ⟨?_⟩
   refine zNilCheck ⟨?_⟩
   refine zFieldAddr ⟨?_⟩
   refine zLoad ⟨?_⟩
   refine zLen ⟨?_⟩
   refine zMove ⟨?_⟩
   refine k18 _ ?_
   refine zk ⟨?_⟩
   refine v_block ?_; intro Q19 n19 x19 e19 r19
   refine v_loop (fun i => ⟨[(2, .ptr 3 0 0), (3, .ptr 7 0 0), (20, .sl (ws.map (fun t : Int × List Int => V.agg [V.int .i64 t.1, V.sl (t.2.map (V.int .i64))]))), (21, .int .i64 ws.length), (22, .int .i64 (Nat.cast i))], [.arr [] .flat, .arr [] .flat, .arr [] .flat, .box (.agg [.ref 0, .ref 1, .ref 2]) .mix, .arr (fl.map (fun t : ByteArray × Int × Int × Int × Int => V.agg [V.str t.1, V.int .i64 t.2.1, V.int .i64 t.2.2.1, V.int .i64 t.2.2.2.1, V.int .i64 t.2.2.2.2])) .flat, .arr (ins.map (fun t : Int × Int × Bool × List ByteArray => V.agg [V.int .i64 t.1, V.int .i64 t.2.1, V.bool t.2.2.1, V.sl (t.2.2.2.map V.str)])) (fillK ins.length), .arr ((ws.take i).map (fun t : Int × List Int => V.agg [V.int .i64 t.1, V.sl (t.2.map (V.int .i64))])) (fillK i), .box (.agg [.ref 4, .ref 5, .ref 6]) .mix], false, 39, 0⟩) (fun i => i ≤ ws.length) (fun i => ws.length - i) 0 ?_ ?_ ?_
   ·refine weak_bothN [2, 3, 20, 21, 22] [0, 1, 2, 3, 4, 9, 10, 8] ⟨?_⟩
    rfl
   ·exact Nat.zero_le _
   ·rintro i hok20 Q20 n20 e20 r20
    have hi1 : i ≤ ws.length := hok20
    refine v_seqR [2,3,20,21,22,23] ?_; intro K21 k21
    refine zBinOp ⟨?_⟩
    refine k21 _ ?_
    refine zk ⟨?_⟩
    refine v_seq ?_; intro Q22 n22 e22 r22
    refine v_condS _ rfl ?_ ?_
    ·intro hc0
     have hlt : i < ws.length := by omega
     obtain ⟨⟨x0, x1⟩, hx⟩ : ∃ x : Int × List Int, ws[i]? = some x := ⟨ws[i]'(by omega), List.getElem?_eq_getElem (by omega)⟩
     have hlx := hwn _ (List.mem_of_getElem? hx)
     simp only [] at hlx
     have hsn : (ws.take i).map (fun t : Int × List Int => V.agg [V.int .i64 t.1, V.sl (t.2.map (V.int .i64))]) ++ [V.agg [V.int .i64 x0, V.sl (x1.map (V.int .i64))]] = (ws.take (i + 1)).map (fun t : Int × List Int => V.agg [V.int .i64 t.1, V.sl (t.2.map (V.int .i64))]) := (take_map_step (f := (fun t : Int × List Int => V.agg [V.int .i64 t.1, V.sl (t.2.map (V.int .i64))])) hx).symm
     have hti : (ws.take i).length = i := by rw [List.length_take]; omega
     refine v_skip ?_
     refine n22 _ _ (weak_keep [2, 3, 20, 21, 22] _) ?_
     refine zk ⟨?_⟩
     refine v_seq ?_; intro Q24 n24 e24 r24
     refine v_block ?_; intro Q25 n25 x25 e25 r25
     refine v_seqR [2,3,5,20,21,22] ?_; intro K26 k26
     have F := Fc.mk (And.intro (fun f => getD_map (f := f) hx) hti)
     refine zIndexAddr ⟨?_⟩
     refine zLoad ⟨?_⟩
     refine zAlloc ⟨?_⟩
     refine zStore ⟨?_⟩
     refine k26 _ ?_
     refine zk ⟨?_⟩
     refine v_draw (by kernel_rfl) ?_; intro K27 q27 k27
     show aAny _ _ _ _ 12 (Array.replicate 12 false) _
     refine zdFieldAddr q27 true 0 26 ?_
     refine zdLoadX q27 true 1 27 ?_
     refine zdFieldAddr q27 true 2 28 ?_
     refine zdLoadX q27 true 3 29 ?_
     refine zdFieldAddr q27 true 4 30 ?_
     refine zdLoadX q27 true 5 31 ?_
     refine zoc 6 (cloneInt_con x1 hlx) ⟨?_⟩
     refine zdBuild q27 true 7 33 ?_
     refine zoBuildSlice 8 ⟨?_⟩
     refine zoAppend 9 ⟨?_⟩
     refine zdFieldAddr q27 true 10 36 ?_
     refine zoStore 11 ⟨?_⟩
     refine aAny_done (by kernel_rfl) ?_
     refine k27 _ ?_
     refine n25 _ ?_
     refine n24 _ _ (weak_keep [2, 3, 20, 21, 22] _) ?_
     refine zk ⟨?_⟩
     refine v_region ?_; intro K28 k28
     refine zBinOpW ⟨?_⟩
     refine zMove ⟨?_⟩
     refine k28 _ ?_
     refine n20 _ (i + 1) ?_ ?_ ?_
     ·refine weak_bothN [2, 3, 20, 21, 22] [0, 1, 2, 3, 4, 5, 12, 7] ⟨?_⟩
      rw [← hsn]; rfl
     ·exact hlt
     ·show _ < _; omega
    ·intro hc0
     have hend : i = ws.length := by omega
     subst hend
     refine v_exit ?_
     refine e22 _ _ ?_
     refine e20 _ _ ?_
     refine x19 _ ?_
     refine n17 _ _ (weak_keep [2, 3] _) ?_
     refine zk ⟨?_⟩
     refine v_seqR [2] ?_; intro K29 k29
     refine zLoad ⟨?_⟩
     refine zStore ⟨?_⟩
     refine k29 _ ?_
     refine zk ⟨?_⟩
     refine v_ret ?_
     refine r0 _ ?_
     refine zf ⟨?_⟩
     simp only [zE, zL, zO, zN, aStepM, optable, set_some, Nat.reduceEqDiff, reduceIte, Nat.reduceLT, implies_true, forall_const, reduceCtorEq, V.ofValue, V.ofScalar, V.un, V.gd, aLoad, row_mk, Blk.row, PartOK, Go.Vm.part, V.cells, V.noSl, V.noRef, Nat.reduceAdd, Nat.reduceLeDiff, Nat.reduceMul, Tryz.underlying39, Ty.c39, Ty.a39, Tryz.underlying40, Ty.c40, Ty.a40, Tryz.underlying41, Ty.c41, Ty.a41, Tryz.underlying43, Ty.c43, Ty.a43]
     rw [List.take_length]
     exact ret_all rfl (by first | decide | simp [newIds, refsOf, refs2, refs1]) (by simp) rfl (by simp [newIds, refsOf, refs2, refs1]) (by simp [Blk.kindIs, fillK_fd]) rfl
 ·refine zsAlloc ⟨?_⟩
  refine zoc 4 (cloneAppliance_con fl hl) ⟨?_⟩
  refine zoc 9 (copyIncidents_con ins hil hin) ⟨?_⟩
  refine zdBuild q3 true 10 16 ?_
  refine zoStore 12 ⟨?_⟩
  refine aAny_done (by kernel_rfl) ?_
  refine k3 _ ?_
  refine n2 _ _ (weak_keep [0, 2, 3] _) ?_
  refine zk ⟨?_⟩
  refine v_seq ?_; intro Q30 n30 e30 r30
  refine v_seqR [2,3,20,21,22] ?_; intro K31 k31
  refine zMove ⟨?_⟩
  refine zNilCheck ⟨?_⟩
  refine zFieldAddr ⟨?_⟩
  refine zLoad ⟨?_⟩
  refine zLen ⟨?_⟩
  refine zMove ⟨?_⟩
  refine k31 _ ?_
  refine zk ⟨?_⟩
  refine v_block ?_; intro Q32 n32 x32 e32 r32
  refine v_loop (fun i => ⟨[(2, .ptr 3 0 0), (3, .ptr 7 0 0), (20, .sl (ws.map (fun t : Int × List Int => V.agg [V.int .i64 t.1, V.sl (t.2.map (V.int .i64))]))), (21, .int .i64 ws.length), (22, .int .i64 (Nat.cast i))], [.arr [] .flat, .arr [] .flat, .arr [] .flat, .box (.agg [.ref 0, .ref 1, .ref 2]) .mix, .arr (fl.map (fun t : ByteArray × Int × Int × Int × Int => V.agg [V.str t.1, V.int .i64 t.2.1, V.int .i64 t.2.2.1, V.int .i64 t.2.2.2.1, V.int .i64 t.2.2.2.2])) .flat, .arr (ins.map (fun t : Int × Int × Bool × List ByteArray => V.agg [V.int .i64 t.1, V.int .i64 t.2.1, V.bool t.2.2.1, V.sl (t.2.2.2.map V.str)])) (fillK ins.length), .arr ((ws.take i).map (fun t : Int × List Int => V.agg [V.int .i64 t.1, V.sl (t.2.map (V.int .i64))])) (fillK i), .box (.agg [.ref 4, .ref 5, .ref 6]) .mix], false, 39, 0⟩) (fun i => i ≤ ws.length) (fun i => ws.length - i) 0 ?_ ?_ ?_
  ·refine weak_bothN [2, 3, 20, 21, 22] [0, 1, 2, 3, 8, 9, 10, 7] ⟨?_⟩
   rfl
  ·exact Nat.zero_le _
  ·rintro i hok33 Q33 n33 e33 r33
   have hi1 : i ≤ ws.length := hok33
   refine v_seqR [2,3,20,21,22,23] ?_; intro K34 k34
   refine zBinOp ⟨?_⟩
   refine k34 _ ?_
   refine zk ⟨?_⟩
   refine v_seq ?_; intro Q35 n35 e35 r35
   refine v_condS _ rfl ?_ ?_
   ·intro hc0
    have hlt : i < ws.length := by omega
    obtain ⟨⟨x0, x1⟩, hx⟩ : ∃ x : Int × List Int, ws[i]? = some x := ⟨ws[i]'(by omega), List.getElem?_eq_getElem (by omega)⟩
    have hlx := hwn _ (List.mem_of_getElem? hx)
    simp only [] at hlx
    have hsn : (ws.take i).map (fun t : Int × List Int => V.agg [V.int .i64 t.1, V.sl (t.2.map (V.int .i64))]) ++ [V.agg [V.int .i64 x0, V.sl (x1.map (V.int .i64))]] = (ws.take (i + 1)).map (fun t : Int × List Int => V.agg [V.int .i64 t.1, V.sl (t.2.map (V.int .i64))]) := (take_map_step (f := (fun t : Int × List Int => V.agg [V.int .i64 t.1, V.sl (t.2.map (V.int .i64))])) hx).symm
    have hti : (ws.take i).length = i := by rw [List.length_take]; omega
    refine v_skip ?_
    refine n35 _ _ (weak_keep [2, 3, 20, 21, 22] _) ?_
    refine zk ⟨?_⟩
    refine v_seq ?_; intro Q37 n37 e37 r37
    refine v_block ?_; intro Q38 n38 x38 e38 r38
    refine v_seqR [2,3,5,20,21,22] ?_; intro K39 k39
    have F := Fc.mk (And.intro (fun f => getD_map (f := f) hx) hti)
    refine zIndexAddr ⟨?_⟩
    refine zLoad ⟨?_⟩
    refine zAlloc ⟨?_⟩
    refine zStore ⟨?_⟩
    refine k39 _ ?_
    refine zk ⟨?_⟩
    refine v_draw (by kernel_rfl) ?_; intro K40 q40 k40
    show aAny _ _ _ _ 12 (Array.replicate 12 false) _
    refine zdFieldAddr q40 true 0 26 ?_
    refine zdLoadX q40 true 1 27 ?_
    refine zdFieldAddr q40 true 2 28 ?_
    refine zdLoadX q40 true 3 29 ?_
    refine zdFieldAddr q40 true 4 30 ?_
    refine zdLoadX q40 true 5 31 ?_
    refine zoc 6 (cloneInt_con x1 hlx) ⟨?_⟩
    refine zdBuild q40 true 7 33 ?_
    refine zoBuildSlice 8 ⟨?_⟩
    refine zoAppend 9 ⟨?_⟩
    refine zdFieldAddr q40 true 10 36 ?_
    refine zoStore 11 ⟨?_⟩
    refine aAny_done (by kernel_rfl) ?_
    refine k40 _ ?_
    refine n38 _ ?_
    refine n37 _ _ (weak_keep [2, 3, 20, 21, 22] _) ?_
    refine zk ⟨?_⟩
    refine v_region ?_; intro K41 k41
    refine zBinOpW ⟨?_⟩
    refine zMove ⟨?_⟩
    refine k41 _ ?_
    refine n33 _ (i + 1) ?_ ?_ ?_
    ·refine weak_bothN [2, 3, 20, 21, 22] [0, 1, 2, 3, 4, 5, 12, 7] ⟨?_⟩
     rw [← hsn]; rfl
    ·exact hlt
    ·show _ < _; omega
   ·intro hc0
    have hend : i = ws.length := by omega
    subst hend
    refine v_exit ?_
    refine e35 _ _ ?_
    refine e33 _ _ ?_
    refine x32 _ ?_
    refine n30 _ _ (weak_keep [2, 3] _) ?_
    refine zk ⟨?_⟩
    refine v_seqR [2] ?_; intro K42 k42
    refine zLoad ⟨?_⟩
    refine zStore ⟨?_⟩
    refine k42 _ ?_
    refine zk ⟨?_⟩
    refine v_ret ?_
    refine r0 _ ?_
    refine zf ⟨?_⟩
    simp only [zE, zL, zO, zN, aStepM, optable, set_some, Nat.reduceEqDiff, reduceIte, Nat.reduceLT, implies_true, forall_const, reduceCtorEq, V.ofValue, V.ofScalar, V.un, V.gd, aLoad, row_mk, Blk.row, PartOK, Go.Vm.part, V.cells, V.noSl, V.noRef, Nat.reduceAdd, Nat.reduceLeDiff, Nat.reduceMul, Tryz.underlying39, Ty.c39, Ty.a39, Tryz.underlying40, Ty.c40, Ty.a40, Tryz.underlying41, Ty.c41, Ty.a41, Tryz.underlying43, Ty.c43, Ty.a43]
    rw [List.take_length]
    exact ret_all rfl (by first | decide | simp [newIds, refsOf, refs2, refs1]) (by simp) rfl (by simp [newIds, refsOf, refs2, refs1]) (by simp [Blk.kindIs, fillK_fd]) rfl
set_option maxHeartbeats 1000000 in
theorem roOwn_con (fl : List (ByteArray × Int × Int × Int × Int)) (ins : List (Int × Int × Bool × List ByteArray)) (ws : List (Int × List Int)) (hl : fl.length ≤ 1048576) (hil : ins.length ≤ 1048576) (hin : ∀ x ∈ ins, x.2.2.2.length ≤ 1048576) (hwl : ws.length ≤ 1048576) (hwn : ∀ x ∈ ws, x.2.length ≤ 1048576) : Con Tryz.prog 91 [.agg [.sl (fl.map (fun t : ByteArray × Int × Int × Int × Int => V.agg [V.str t.1, V.int .i64 t.2.1, V.int .i64 t.2.2.1, V.int .i64 t.2.2.2.1, V.int .i64 t.2.2.2.2])), .sl (ins.map (fun t : Int × Int × Bool × List ByteArray => V.agg [V.int .i64 t.1, V.int .i64 t.2.1, V.bool t.2.2.1, V.sl (t.2.2.2.map V.str)])), .sl (ws.map (fun t : Int × List Int => V.agg [V.int .i64 t.1, V.sl (t.2.map (V.int .i64))]))]] [] (.agg [.ref 0, .ref 1, .ref 2]) [.arr (fl.map (fun t : ByteArray × Int × Int × Int × Int => V.agg [V.str t.1, V.int .i64 t.2.1, V.int .i64 t.2.2.1, V.int .i64 t.2.2.2.1, V.int .i64 t.2.2.2.2])) .flat, .arr (ins.map (fun t : Int × Int × Bool × List ByteArray => V.agg [V.int .i64 t.1, V.int .i64 t.2.1, V.bool t.2.2.1, V.sl (t.2.2.2.map V.str)])) (fillK ins.length), .arr (ws.map (fun t : Int × List Int => V.agg [V.int .i64 t.1, V.sl (t.2.map (V.int .i64))])) (fillK ws.length)] := by
 have hns : (fl.map (fun t : ByteArray × Int × Int × Int × Int => V.agg [V.str t.1, V.int .i64 t.2.1, V.int .i64 t.2.2.1, V.int .i64 t.2.2.2.1, V.int .i64 t.2.2.2.2])).all V.noSl = true := by rw [List.all_map, List.all_eq_true]; intro a _; rfl
 refine v_con [.cell 2 43] [] Tryz.func91 rfl rfl rfl (by simp [Tryz.ntmps91]) ?_
 intro Q0 n0 r0
 simp only [Tryz.ntmps91, envFrom, Nat.reduceAdd]
 have T := Tys.mk (And.intro Ty.t3 (And.intro Ty.t4 (And.intro Ty.t9 (And.intro Ty.t32 (And.intro Ty.t39 (And.intro Ty.t40 (And.intro Ty.t41 (And.intro Ty.t43 (And.intro Ty.t54 (And.intro Ty.t69 (And.intro Ty.t71 Ty.t89)))))))))))
 have F := Fc.mk True.intro
 refine v_seqR [1,2] ?_; intro K1 k1
 have F := Fc.mk hns
 refine zBox ⟨?_⟩
 refine zAlloc ⟨?_⟩
 refine k1 _ ?_
 refine zk ⟨?_⟩
 refine v_seq ?_; intro Q2 n2 e2 r2
 refine v_draw (by kernel_rfl) ?_; intro K3 q3 k3
 show aAny _ _ _ _ 12 (Array.replicate 12 false) _
 refine zdFieldAddr q3 true 1 4 ?_
 refine zdLoadX q3 true 2 5 ?_
 refine zdFieldAddr q3 false 4 7 ?_
 refine zdFieldAddr q3 false 7 10 ?_
 refine aAny_three 0 5 8 rfl rfl rfl (by kernel_rfl) ?_ ?_ ?_
 ·refine zsBuildSlice ⟨?_⟩
  refine aAny_three 3 5 8 rfl rfl rfl (by kernel_rfl) ?_ ?_ ?_
  ·refine zsAppend ⟨?_⟩
   refine zdLoadX q3 true 5 8 ?_
   refine zdLoadX q3 true 8 11 ?_
   refine zoc 6 (ixOwn_con ins hil hin) ⟨?_⟩
   refine zoc 9 (roWants_con ws hwl hwn) ⟨?_⟩
   refine zdBuild q3 true 10 13 ?_
   refine zoStore 11 ⟨?_⟩
   refine aAny_done (by kernel_rfl) ?_
   refine k3 _ ?_
   refine n2 _ _ (weak_keep [2] _) ?_
   refine zk ⟨?_⟩
   refine v_ret ?_
   refine r0 _ ?_
   refine zf ⟨?_⟩
   simp only [zE, zL, zO, zN, aStepM, optable, set_some, Nat.reduceEqDiff, reduceIte, Nat.reduceLT, implies_true, forall_const, reduceCtorEq, V.ofValue, V.ofScalar, V.un, V.gd, aLoad, row_mk, Blk.row, PartOK, Go.Vm.part, V.cells, V.noSl, V.noRef, Nat.reduceAdd, Nat.reduceLeDiff, Nat.reduceMul, Tryz.underlying39, Ty.c39, Ty.a39, Tryz.underlying40, Ty.c40, Ty.a40, Tryz.underlying41, Ty.c41, Ty.a41, Tryz.underlying43, Ty.c43, Ty.a43]
   exact ret_all rfl (by first | decide | simp [newIds, refsOf, refs2, refs1]) (by simp) rfl (by simp [newIds, refsOf, refs2, refs1]) (by simp [Blk.kindIs, fillK_fd]) rfl
  ·intro K k
   skip
   simp only [zE, zL, zO, zN, aStepM, optable, set_some, Nat.reduceEqDiff, reduceIte, Nat.reduceLT, implies_true, forall_const, reduceCtorEq, V.ofValue, V.ofScalar, V.un, V.gd, aExec, aop, aLoad, row_mk, Blk.row, PartOK, Go.Vm.part, V.cells, V.noSl, V.noRef, Nat.reduceAdd, Nat.reduceLeDiff, Nat.reduceMul, Tryz.underlying40, Ty.c40, Ty.a40, Tryz.underlying69, Ty.c69, Ty.a69, hns]
   repeat (refine And.intro (by first | omega | (intros; omega) | (intros; simp_all; done) | (intros; simp_all; omega)) ?_)
   refine k _ ?_; clear k K
   refine aAny_two 3 8 rfl rfl (by kernel_rfl) ?_ ?_
   ·refine zsAppend ⟨?_⟩
    refine zdLoadX q3 true 8 11 ?_
    refine zoc 6 (ixOwn_con ins hil hin) ⟨?_⟩
    refine zoc 9 (roWants_con ws hwl hwn) ⟨?_⟩
    refine zdBuild q3 true 10 13 ?_
    refine zoStore 11 ⟨?_⟩
    refine aAny_done (by kernel_rfl) ?_
    refine k3 _ ?_
    refine n2 _ _ (weak_keep [2] _) ?_
    refine zk ⟨?_⟩
    refine v_ret ?_
    refine r0 _ ?_
    refine zf ⟨?_⟩
    simp only [zE, zL, zO, zN, aStepM, optable, set_some, Nat.reduceEqDiff, reduceIte, Nat.reduceLT, implies_true, forall_const, reduceCtorEq, V.ofValue, V.ofScalar, V.un, V.gd, aLoad, row_mk, Blk.row, PartOK, Go.Vm.part, V.cells, V.noSl, V.noRef, Nat.reduceAdd, Nat.reduceLeDiff, Nat.reduceMul, Tryz.underlying39, Ty.c39, Ty.a39, Tryz.underlying40, Ty.c40, Ty.a40, Tryz.underlying41, Ty.c41, Ty.a41, Tryz.underlying43, Ty.c43, Ty.a43]
    exact ret_all rfl (by first | decide | simp [newIds, refsOf, refs2, refs1]) (by simp) rfl (by simp [newIds, refsOf, refs2, refs1]) (by simp [Blk.kindIs, fillK_fd]) rfl
   ·intro K k
    skip
    simp only [zE, zL, zO, zN, aStepM, optable, set_some, Nat.reduceEqDiff, reduceIte, Nat.reduceLT, implies_true, forall_const, reduceCtorEq, V.ofValue, V.ofScalar, V.un, V.gd, aExec, aop, aLoad, row_mk, Blk.row, PartOK, Go.Vm.part, V.cells, V.noSl, V.noRef, Nat.reduceAdd, Nat.reduceLeDiff, Nat.reduceMul, Tryz.underlying41, Ty.c41, Ty.a41, Tryz.underlying89, Ty.c89, Ty.a89, hns]
    repeat (refine And.intro (by first | omega | (intros; omega) | (intros; simp_all; done) | (intros; simp_all; omega)) ?_)
    refine k _ ?_; clear k K
    refine zoAppend 3 ⟨?_⟩
    refine zoc 6 (ixOwn_con ins hil hin) ⟨?_⟩
    refine zoc 9 (roWants_con ws hwl hwn) ⟨?_⟩
    refine zdBuild q3 true 10 13 ?_
    refine zoStore 11 ⟨?_⟩
    refine aAny_done (by kernel_rfl) ?_
    refine k3 _ ?_
    refine n2 _ _ (weak_keep [2] _) ?_
    refine zk ⟨?_⟩
    refine v_ret ?_
    refine r0 _ ?_
    refine zf ⟨?_⟩
    simp only [zE, zL, zO, zN, aStepM, optable, set_some, Nat.reduceEqDiff, reduceIte, Nat.reduceLT, implies_true, forall_const, reduceCtorEq, V.ofValue, V.ofScalar, V.un, V.gd, aLoad, row_mk, Blk.row, PartOK, Go.Vm.part, V.cells, V.noSl, V.noRef, Nat.reduceAdd, Nat.reduceLeDiff, Nat.reduceMul, Tryz.underlying39, Ty.c39, Ty.a39, Tryz.underlying40, Ty.c40, Ty.a40, Tryz.underlying41, Ty.c41, Ty.a41, Tryz.underlying43, Ty.c43, Ty.a43]
    exact ret_all rfl (by first | decide | simp [newIds, refsOf, refs2, refs1]) (by simp) rfl (by simp [newIds, refsOf, refs2, refs1]) (by simp [Blk.kindIs, fillK_fd]) rfl
  ·intro K k
   skip
   simp only [zE, zL, zO, zN, aStepM, optable, set_some, Nat.reduceEqDiff, reduceIte, Nat.reduceLT, implies_true, forall_const, reduceCtorEq, V.ofValue, V.ofScalar, V.un, V.gd, aExec, aop, aLoad, row_mk, Blk.row, PartOK, Go.Vm.part, V.cells, V.noSl, V.noRef, Nat.reduceAdd, Nat.reduceLeDiff, Nat.reduceMul, Tryz.underlying41, Ty.c41, Ty.a41, Tryz.underlying89, Ty.c89, Ty.a89, hns]
   repeat (refine And.intro (by first | omega | (intros; omega) | (intros; simp_all; done) | (intros; simp_all; omega)) ?_)
   refine k _ ?_; clear k K
   refine aAny_two 3 5 rfl rfl (by kernel_rfl) ?_ ?_
   ·refine zsAppend ⟨?_⟩
    refine zdLoadX q3 true 5 8 ?_
    refine zoc 6 (ixOwn_con ins hil hin) ⟨?_⟩
    refine zoc 9 (roWants_con ws hwl hwn) ⟨?_⟩
    refine zdBuild q3 true 10 13 ?_
    refine zoStore 11 ⟨?_⟩
    refine aAny_done (by kernel_rfl) ?_
    refine k3 _ ?_
    refine n2 _ _ (weak_keep [2] _) ?_
    refine zk ⟨?_⟩
    refine v_ret ?_
    refine r0 _ ?_
    refine zf ⟨?_⟩
    simp only [zE, zL, zO, zN, aStepM, optable, set_some, Nat.reduceEqDiff, reduceIte, Nat.reduceLT, implies_true, forall_const, reduceCtorEq, V.ofValue, V.ofScalar, V.un, V.gd, aLoad, row_mk, Blk.row, PartOK, Go.Vm.part, V.cells, V.noSl, V.noRef, Nat.reduceAdd, Nat.reduceLeDiff, Nat.reduceMul, Tryz.underlying39, Ty.c39, Ty.a39, Tryz.underlying40, Ty.c40, Ty.a40, Tryz.underlying41, Ty.c41, Ty.a41, Tryz.underlying43, Ty.c43, Ty.a43]
    exact ret_all rfl (by first | decide | simp [newIds, refsOf, refs2, refs1]) (by simp) rfl (by simp [newIds, refsOf, refs2, refs1]) (by simp [Blk.kindIs, fillK_fd]) rfl
   ·intro K k
    skip
    simp only [zE, zL, zO, zN, aStepM, optable, set_some, Nat.reduceEqDiff, reduceIte, Nat.reduceLT, implies_true, forall_const, reduceCtorEq, V.ofValue, V.ofScalar, V.un, V.gd, aExec, aop, aLoad, row_mk, Blk.row, PartOK, Go.Vm.part, V.cells, V.noSl, V.noRef, Nat.reduceAdd, Nat.reduceLeDiff, Nat.reduceMul, Tryz.underlying40, Ty.c40, Ty.a40, Tryz.underlying69, Ty.c69, Ty.a69, hns]
    repeat (refine And.intro (by first | omega | (intros; omega) | (intros; simp_all; done) | (intros; simp_all; omega)) ?_)
    refine k _ ?_; clear k K
    refine zoAppend 3 ⟨?_⟩
    refine zoc 6 (ixOwn_con ins hil hin) ⟨?_⟩
    refine zoc 9 (roWants_con ws hwl hwn) ⟨?_⟩
    refine zdBuild q3 true 10 13 ?_
    refine zoStore 11 ⟨?_⟩
    refine aAny_done (by kernel_rfl) ?_
    refine k3 _ ?_
    refine n2 _ _ (weak_keep [2] _) ?_
    refine zk ⟨?_⟩
    refine v_ret ?_
    refine r0 _ ?_
    refine zf ⟨?_⟩
    simp only [zE, zL, zO, zN, aStepM, optable, set_some, Nat.reduceEqDiff, reduceIte, Nat.reduceLT, implies_true, forall_const, reduceCtorEq, V.ofValue, V.ofScalar, V.un, V.gd, aLoad, row_mk, Blk.row, PartOK, Go.Vm.part, V.cells, V.noSl, V.noRef, Nat.reduceAdd, Nat.reduceLeDiff, Nat.reduceMul, Tryz.underlying39, Ty.c39, Ty.a39, Tryz.underlying40, Ty.c40, Ty.a40, Tryz.underlying41, Ty.c41, Ty.a41, Tryz.underlying43, Ty.c43, Ty.a43]
    exact ret_all rfl (by first | decide | simp [newIds, refsOf, refs2, refs1]) (by simp) rfl (by simp [newIds, refsOf, refs2, refs1]) (by simp [Blk.kindIs, fillK_fd]) rfl
 ·intro K k
  skip
  simp only [zE, zL, zO, zN, aStepM, optable, set_some, Nat.reduceEqDiff, reduceIte, Nat.reduceLT, implies_true, forall_const, reduceCtorEq, V.ofValue, V.ofScalar, V.un, V.gd, aExec, aop, aLoad, row_mk, Blk.row, PartOK, Go.Vm.part, V.cells, V.noSl, V.noRef, Nat.reduceAdd, Nat.reduceLeDiff, Nat.reduceMul, Tryz.underlying40, Ty.c40, Ty.a40, Tryz.underlying69, Ty.c69, Ty.a69, hns]
  repeat (refine And.intro (by first | omega | (intros; omega) | (intros; simp_all; done) | (intros; simp_all; omega)) ?_)
  refine k _ ?_; clear k K
  refine aAny_two 0 8 rfl rfl (by kernel_rfl) ?_ ?_
  ·refine zsBuildSlice ⟨?_⟩
   refine aAny_two 3 8 rfl rfl (by kernel_rfl) ?_ ?_
   ·refine zsAppend ⟨?_⟩
    refine zdLoadX q3 true 8 11 ?_
    refine zoc 6 (ixOwn_con ins hil hin) ⟨?_⟩
    refine zoc 9 (roWants_con ws hwl hwn) ⟨?_⟩
    refine zdBuild q3 true 10 13 ?_
    refine zoStore 11 ⟨?_⟩
    refine aAny_done (by kernel_rfl) ?_
    refine k3 _ ?_
    refine n2 _ _ (weak_keep [2] _) ?_
    refine zk ⟨?_⟩
    refine v_ret ?_
    refine r0 _ ?_
    refine zf ⟨?_⟩
    simp only [zE, zL, zO, zN, aStepM, optable, set_some, Nat.reduceEqDiff, reduceIte, Nat.reduceLT, implies_true, forall_const, reduceCtorEq, V.ofValue, V.ofScalar, V.un, V.gd, aLoad, row_mk, Blk.row, PartOK, Go.Vm.part, V.cells, V.noSl, V.noRef, Nat.reduceAdd, Nat.reduceLeDiff, Nat.reduceMul, Tryz.underlying39, Ty.c39, Ty.a39, Tryz.underlying40, Ty.c40, Ty.a40, Tryz.underlying41, Ty.c41, Ty.a41, Tryz.underlying43, Ty.c43, Ty.a43]
    exact ret_all rfl (by first | decide | simp [newIds, refsOf, refs2, refs1]) (by simp) rfl (by simp [newIds, refsOf, refs2, refs1]) (by simp [Blk.kindIs, fillK_fd]) rfl
   ·intro K k
    skip
    simp only [zE, zL, zO, zN, aStepM, optable, set_some, Nat.reduceEqDiff, reduceIte, Nat.reduceLT, implies_true, forall_const, reduceCtorEq, V.ofValue, V.ofScalar, V.un, V.gd, aExec, aop, aLoad, row_mk, Blk.row, PartOK, Go.Vm.part, V.cells, V.noSl, V.noRef, Nat.reduceAdd, Nat.reduceLeDiff, Nat.reduceMul, Tryz.underlying41, Ty.c41, Ty.a41, Tryz.underlying89, Ty.c89, Ty.a89, hns]
    repeat (refine And.intro (by first | omega | (intros; omega) | (intros; simp_all; done) | (intros; simp_all; omega)) ?_)
    refine k _ ?_; clear k K
    refine zoAppend 3 ⟨?_⟩
    refine zoc 6 (ixOwn_con ins hil hin) ⟨?_⟩
    refine zoc 9 (roWants_con ws hwl hwn) ⟨?_⟩
    refine zdBuild q3 true 10 13 ?_
    refine zoStore 11 ⟨?_⟩
    refine aAny_done (by kernel_rfl) ?_
    refine k3 _ ?_
    refine n2 _ _ (weak_keep [2] _) ?_
    refine zk ⟨?_⟩
    refine v_ret ?_
    refine r0 _ ?_
    refine zf ⟨?_⟩
    simp only [zE, zL, zO, zN, aStepM, optable, set_some, Nat.reduceEqDiff, reduceIte, Nat.reduceLT, implies_true, forall_const, reduceCtorEq, V.ofValue, V.ofScalar, V.un, V.gd, aLoad, row_mk, Blk.row, PartOK, Go.Vm.part, V.cells, V.noSl, V.noRef, Nat.reduceAdd, Nat.reduceLeDiff, Nat.reduceMul, Tryz.underlying39, Ty.c39, Ty.a39, Tryz.underlying40, Ty.c40, Ty.a40, Tryz.underlying41, Ty.c41, Ty.a41, Tryz.underlying43, Ty.c43, Ty.a43]
    exact ret_all rfl (by first | decide | simp [newIds, refsOf, refs2, refs1]) (by simp) rfl (by simp [newIds, refsOf, refs2, refs1]) (by simp [Blk.kindIs, fillK_fd]) rfl
  ·intro K k
   skip
   simp only [zE, zL, zO, zN, aStepM, optable, set_some, Nat.reduceEqDiff, reduceIte, Nat.reduceLT, implies_true, forall_const, reduceCtorEq, V.ofValue, V.ofScalar, V.un, V.gd, aExec, aop, aLoad, row_mk, Blk.row, PartOK, Go.Vm.part, V.cells, V.noSl, V.noRef, Nat.reduceAdd, Nat.reduceLeDiff, Nat.reduceMul, Tryz.underlying41, Ty.c41, Ty.a41, Tryz.underlying89, Ty.c89, Ty.a89, hns]
   repeat (refine And.intro (by first | omega | (intros; omega) | (intros; simp_all; done) | (intros; simp_all; omega)) ?_)
   refine k _ ?_; clear k K
   refine zoBuildSlice 0 ⟨?_⟩
   refine zoAppend 3 ⟨?_⟩
   refine zoc 6 (ixOwn_con ins hil hin) ⟨?_⟩
   refine zoc 9 (roWants_con ws hwl hwn) ⟨?_⟩
   refine zdBuild q3 true 10 13 ?_
   refine zoStore 11 ⟨?_⟩
   refine aAny_done (by kernel_rfl) ?_
   refine k3 _ ?_
   refine n2 _ _ (weak_keep [2] _) ?_
   refine zk ⟨?_⟩
   refine v_ret ?_
   refine r0 _ ?_
   refine zf ⟨?_⟩
   simp only [zE, zL, zO, zN, aStepM, optable, set_some, Nat.reduceEqDiff, reduceIte, Nat.reduceLT, implies_true, forall_const, reduceCtorEq, V.ofValue, V.ofScalar, V.un, V.gd, aLoad, row_mk, Blk.row, PartOK, Go.Vm.part, V.cells, V.noSl, V.noRef, Nat.reduceAdd, Nat.reduceLeDiff, Nat.reduceMul, Tryz.underlying39, Ty.c39, Ty.a39, Tryz.underlying40, Ty.c40, Ty.a40, Tryz.underlying41, Ty.c41, Ty.a41, Tryz.underlying43, Ty.c43, Ty.a43]
   exact ret_all rfl (by first | decide | simp [newIds, refsOf, refs2, refs1]) (by simp) rfl (by simp [newIds, refsOf, refs2, refs1]) (by simp [Blk.kindIs, fillK_fd]) rfl
 ·intro K k
  skip
  simp only [zE, zL, zO, zN, aStepM, optable, set_some, Nat.reduceEqDiff, reduceIte, Nat.reduceLT, implies_true, forall_const, reduceCtorEq, V.ofValue, V.ofScalar, V.un, V.gd, aExec, aop, aLoad, row_mk, Blk.row, PartOK, Go.Vm.part, V.cells, V.noSl, V.noRef, Nat.reduceAdd, Nat.reduceLeDiff, Nat.reduceMul, Tryz.underlying41, Ty.c41, Ty.a41, Tryz.underlying89, Ty.c89, Ty.a89, hns]
  repeat (refine And.intro (by first | omega | (intros; omega) | (intros; simp_all; done) | (intros; simp_all; omega)) ?_)
  refine k _ ?_; clear k K
  refine aAny_two 0 5 rfl rfl (by kernel_rfl) ?_ ?_
  ·refine zsBuildSlice ⟨?_⟩
   refine aAny_two 3 5 rfl rfl (by kernel_rfl) ?_ ?_
   ·refine zsAppend ⟨?_⟩
    refine zdLoadX q3 true 5 8 ?_
    refine zoc 6 (ixOwn_con ins hil hin) ⟨?_⟩
    refine zoc 9 (roWants_con ws hwl hwn) ⟨?_⟩
    refine zdBuild q3 true 10 13 ?_
    refine zoStore 11 ⟨?_⟩
    refine aAny_done (by kernel_rfl) ?_
    refine k3 _ ?_
    refine n2 _ _ (weak_keep [2] _) ?_
    refine zk ⟨?_⟩
    refine v_ret ?_
    refine r0 _ ?_
    refine zf ⟨?_⟩
    simp only [zE, zL, zO, zN, aStepM, optable, set_some, Nat.reduceEqDiff, reduceIte, Nat.reduceLT, implies_true, forall_const, reduceCtorEq, V.ofValue, V.ofScalar, V.un, V.gd, aLoad, row_mk, Blk.row, PartOK, Go.Vm.part, V.cells, V.noSl, V.noRef, Nat.reduceAdd, Nat.reduceLeDiff, Nat.reduceMul, Tryz.underlying39, Ty.c39, Ty.a39, Tryz.underlying40, Ty.c40, Ty.a40, Tryz.underlying41, Ty.c41, Ty.a41, Tryz.underlying43, Ty.c43, Ty.a43]
    exact ret_all rfl (by first | decide | simp [newIds, refsOf, refs2, refs1]) (by simp) rfl (by simp [newIds, refsOf, refs2, refs1]) (by simp [Blk.kindIs, fillK_fd]) rfl
   ·intro K k
    skip
    simp only [zE, zL, zO, zN, aStepM, optable, set_some, Nat.reduceEqDiff, reduceIte, Nat.reduceLT, implies_true, forall_const, reduceCtorEq, V.ofValue, V.ofScalar, V.un, V.gd, aExec, aop, aLoad, row_mk, Blk.row, PartOK, Go.Vm.part, V.cells, V.noSl, V.noRef, Nat.reduceAdd, Nat.reduceLeDiff, Nat.reduceMul, Tryz.underlying40, Ty.c40, Ty.a40, Tryz.underlying69, Ty.c69, Ty.a69, hns]
    repeat (refine And.intro (by first | omega | (intros; omega) | (intros; simp_all; done) | (intros; simp_all; omega)) ?_)
    refine k _ ?_; clear k K
    refine zoAppend 3 ⟨?_⟩
    refine zoc 6 (ixOwn_con ins hil hin) ⟨?_⟩
    refine zoc 9 (roWants_con ws hwl hwn) ⟨?_⟩
    refine zdBuild q3 true 10 13 ?_
    refine zoStore 11 ⟨?_⟩
    refine aAny_done (by kernel_rfl) ?_
    refine k3 _ ?_
    refine n2 _ _ (weak_keep [2] _) ?_
    refine zk ⟨?_⟩
    refine v_ret ?_
    refine r0 _ ?_
    refine zf ⟨?_⟩
    simp only [zE, zL, zO, zN, aStepM, optable, set_some, Nat.reduceEqDiff, reduceIte, Nat.reduceLT, implies_true, forall_const, reduceCtorEq, V.ofValue, V.ofScalar, V.un, V.gd, aLoad, row_mk, Blk.row, PartOK, Go.Vm.part, V.cells, V.noSl, V.noRef, Nat.reduceAdd, Nat.reduceLeDiff, Nat.reduceMul, Tryz.underlying39, Ty.c39, Ty.a39, Tryz.underlying40, Ty.c40, Ty.a40, Tryz.underlying41, Ty.c41, Ty.a41, Tryz.underlying43, Ty.c43, Ty.a43]
    exact ret_all rfl (by first | decide | simp [newIds, refsOf, refs2, refs1]) (by simp) rfl (by simp [newIds, refsOf, refs2, refs1]) (by simp [Blk.kindIs, fillK_fd]) rfl
  ·intro K k
   skip
   simp only [zE, zL, zO, zN, aStepM, optable, set_some, Nat.reduceEqDiff, reduceIte, Nat.reduceLT, implies_true, forall_const, reduceCtorEq, V.ofValue, V.ofScalar, V.un, V.gd, aExec, aop, aLoad, row_mk, Blk.row, PartOK, Go.Vm.part, V.cells, V.noSl, V.noRef, Nat.reduceAdd, Nat.reduceLeDiff, Nat.reduceMul, Tryz.underlying40, Ty.c40, Ty.a40, Tryz.underlying69, Ty.c69, Ty.a69, hns]
   repeat (refine And.intro (by first | omega | (intros; omega) | (intros; simp_all; done) | (intros; simp_all; omega)) ?_)
   refine k _ ?_; clear k K
   refine zoBuildSlice 0 ⟨?_⟩
   refine zoAppend 3 ⟨?_⟩
   refine zoc 6 (ixOwn_con ins hil hin) ⟨?_⟩
   refine zoc 9 (roWants_con ws hwl hwn) ⟨?_⟩
   refine zdBuild q3 true 10 13 ?_
   refine zoStore 11 ⟨?_⟩
   refine aAny_done (by kernel_rfl) ?_
   refine k3 _ ?_
   refine n2 _ _ (weak_keep [2] _) ?_
   refine zk ⟨?_⟩
   refine v_ret ?_
   refine r0 _ ?_
   refine zf ⟨?_⟩
   simp only [zE, zL, zO, zN, aStepM, optable, set_some, Nat.reduceEqDiff, reduceIte, Nat.reduceLT, implies_true, forall_const, reduceCtorEq, V.ofValue, V.ofScalar, V.un, V.gd, aLoad, row_mk, Blk.row, PartOK, Go.Vm.part, V.cells, V.noSl, V.noRef, Nat.reduceAdd, Nat.reduceLeDiff, Nat.reduceMul, Tryz.underlying39, Ty.c39, Ty.a39, Tryz.underlying40, Ty.c40, Ty.a40, Tryz.underlying41, Ty.c41, Ty.a41, Tryz.underlying43, Ty.c43, Ty.a43]
   exact ret_all rfl (by first | decide | simp [newIds, refsOf, refs2, refs1]) (by simp) rfl (by simp [newIds, refsOf, refs2, refs1]) (by simp [Blk.kindIs, fillK_fd]) rfl
set_option maxHeartbeats 1000000 in
theorem apWith_con (fl : List (ByteArray × Int × Int × Int × Int)) (k : Nat) (x0 : ByteArray) (x1 : Int) (x2 : Int) (x3 : Int) (x4 : Int) (hl : fl.length ≤ 1048576) (hk : k < fl.length) : Con Tryz.prog 92 [.sl (fl.map (fun t : ByteArray × Int × Int × Int × Int => V.agg [V.str t.1, V.int .i64 t.2.1, V.int .i64 t.2.2.1, V.int .i64 t.2.2.2.1, V.int .i64 t.2.2.2.2])), .int .i64 k, .agg [V.str x0, V.int .i64 x1, V.int .i64 x2, V.int .i64 x3, V.int .i64 x4]] [] (.ref 0) [.arr ((fl.set k (x0, x1, x2, x3, x4)).map (fun t : ByteArray × Int × Int × Int × Int => V.agg [V.str t.1, V.int .i64 t.2.1, V.int .i64 t.2.2.1, V.int .i64 t.2.2.2.1, V.int .i64 t.2.2.2.2])) .flat] := by
 have hns : (fl.map (fun t : ByteArray × Int × Int × Int × Int => V.agg [V.str t.1, V.int .i64 t.2.1, V.int .i64 t.2.2.1, V.int .i64 t.2.2.2.1, V.int .i64 t.2.2.2.2])).all V.noSl = true := by rw [List.all_map, List.all_eq_true]; intro a _; rfl
 obtain ⟨y, hy⟩ : ∃ y, fl[k]? = some y := ⟨_, List.getElem?_eq_getElem hk⟩
 have hsm : (fl.map (fun t : ByteArray × Int × Int × Int × Int => V.agg [V.str t.1, V.int .i64 t.2.1, V.int .i64 t.2.2.1, V.int .i64 t.2.2.2.1, V.int .i64 t.2.2.2.2])).set k (V.agg [V.str x0, V.int .i64 x1, V.int .i64 x2, V.int .i64 x3, V.int .i64 x4]) = (fl.set k (x0, x1, x2, x3, x4)).map (fun t : ByteArray × Int × Int × Int × Int => V.agg [V.str t.1, V.int .i64 t.2.1, V.int .i64 t.2.2.1, V.int .i64 t.2.2.2.1, V.int .i64 t.2.2.2.2]) := by have q := List.map_set (f := (fun t : ByteArray × Int × Int × Int × Int => V.agg [V.str t.1, V.int .i64 t.2.1, V.int .i64 t.2.2.1, V.int .i64 t.2.2.2.1, V.int .i64 t.2.2.2.2])) (l := fl) (i := k) (a := (x0, x1, x2, x3, x4)); exact q.symm
 refine v_con [.tmp 6] [] Tryz.func92 rfl rfl rfl (by simp [Tryz.ntmps92]) ?_
 intro Q0 n0 r0
 simp only [Tryz.ntmps92, envFrom, Nat.reduceAdd]
 have T := Tys.mk (And.intro Ty.t3 (And.intro Ty.t9 (And.intro Ty.t39 Ty.t71)))
 have F := Fc.mk True.intro
 refine v_seqR [0,1,5] ?_; intro K1 k1
 have F := Fc.mk (And.intro hns (And.intro (fun f => getD_map (f := f) hy) hsm))
 refine zBox ⟨?_⟩
 refine zAssign ⟨?_⟩
 refine k1 _ ?_
 refine zk ⟨?_⟩
 refine v_seqR [1,5,7] ?_; intro K2 k2
 refine zBuildSlice ⟨?_⟩
 refine zMove ⟨?_⟩
 refine zAppend ⟨?_⟩
 refine zAssign ⟨?_⟩
 refine k2 _ ?_
 refine zk ⟨?_⟩
 refine v_seqR [7] ?_; intro K3 k3
 refine zMove ⟨?_⟩
 refine zMove ⟨?_⟩
 refine zLoad ⟨?_⟩
 refine zIndexAddr ⟨?_⟩
 refine zStore ⟨?_⟩
 refine k3 _ ?_
 refine zk ⟨?_⟩
 refine v_seqR [6] ?_; intro K4 k4
 refine zMove ⟨?_⟩
 refine zAssign ⟨?_⟩
 refine k4 _ ?_
 refine zk ⟨?_⟩
 refine v_ret ?_
 refine r0 _ ?_
 refine zf ⟨?_⟩
 exact ret_refK rfl rfl rfl
end Go.Proofs.YtdgenniiidgimaaGreat
