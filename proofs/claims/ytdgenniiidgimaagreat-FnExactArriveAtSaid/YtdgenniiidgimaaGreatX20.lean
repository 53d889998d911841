/- What functions compute. No condition. -/
import Derived.Test.YtdgenniiidgimaaGreatUty
import Derived.Test.YtdgenniiidgimaaGreatUmG
import Derived.Test.YtdgenniiidgimaaGreatX15
import Derived.Test.YtdgenniiidgimaaGreatX1
import Derived.Test.YtdgenniiidgimaaGreatX6
import Derived.Test.YtdgenniiidgimaaGreatX9
import Derived.Test.YtdgenniiidgimaaGreatX16
import Derived.Test.YtdgenniiidgimaaGreatX4
import Derived.Test.YtdgenniiidgimaaGreatX11
set_option linter.unusedSimpArgs false
set_option linter.unusedVariables false
set_option linter.defProp false
namespace Go.Proofs.YtdgenniiidgimaaGreat
open Go Go.Vm

theorem fillK_0 : fillK 0 = .flat := rfl
def arvB (n : Int) (ss : List (Int × Int × Int)) (fl : List (ByteArray × Int × Int × Int × Int)) (ins : List (Int × Int × Bool × List ByteArray)) (ws : List (Int × List Int)) (s : ByteArray) : Bool := ctlB n ss fl ins ws && arrB fl s

set_option maxRecDepth 100000 in
set_option maxHeartbeats 1000000 in
theorem arriveAt_con (n : Int) (ss : List (Int × Int × Int)) (fl : List (ByteArray × Int × Int × Int × Int)) (ins : List (Int × Int × Bool × List ByteArray)) (ws : List (Int × List Int)) (s : ByteArray) (hl : fl.length ≤ 1048576) (hil : ins.length ≤ 1048576) (hin : ∀ x ∈ ins, x.2.2.2.length ≤ 1048576) (hwl : ws.length ≤ 1048576) (hwn : ∀ x ∈ ws, x.2.length ≤ 1048576) (hB : (ctlB n ss fl ins ws) = true) : Con Tryz.prog 57 [.pv [.agg [.sl (fl.map (fun t : ByteArray × Int × Int × Int × Int => V.agg [V.str t.1, V.int .i64 t.2.1, V.int .i64 t.2.2.1, V.int .i64 t.2.2.2.1, V.int .i64 t.2.2.2.2])), .sl (ins.map (fun t : Int × Int × Bool × List ByteArray => V.agg [V.int .i64 t.1, V.int .i64 t.2.1, V.bool t.2.2.1, V.sl (t.2.2.2.map V.str)])), .sl (ws.map (fun t : Int × List Int => V.agg [V.int .i64 t.1, V.sl (t.2.map (V.int .i64))]))]] 0 0, .str s] [] (.tup [.agg [.ref 0, .ref 1, .ref 2], .bool (arrB fl s)]) [.arr ((orNil (arrB fl s) (arrF fl ins s)).map (fun t : ByteArray × Int × Int × Int × Int => V.agg [V.str t.1, V.int .i64 t.2.1, V.int .i64 t.2.2.1, V.int .i64 t.2.2.2.1, V.int .i64 t.2.2.2.2])) .flat, .arr ((orNil (arrB fl s) ins).map (fun t : Int × Int × Bool × List ByteArray => V.agg [V.int .i64 t.1, V.int .i64 t.2.1, V.bool t.2.2.1, V.sl (t.2.2.2.map V.str)])) (fillK (orNil (arrB fl s) ins).length), .arr ((orNil (arrB fl s) ws).map (fun t : Int × List Int => V.agg [V.int .i64 t.1, V.sl (t.2.map (V.int .i64))])) (fillK (orNil (arrB fl s) ws).length)] := by
 refine v_con [.cell 4 43, .tmp 5] [] Tryz.func57 rfl rfl rfl (by simp [Tryz.ntmps57]) ?_
 intro Q0 n0 r0
 simp only [Tryz.ntmps57, envFrom, Nat.reduceAdd]
 have T := Tys.mk (And.intro Ty.t3 (And.intro Ty.t4 (And.intro Ty.t9 (And.intro Ty.t32 (And.intro Ty.t39 (And.intro Ty.t40 (And.intro Ty.t41 (And.intro Ty.t43 (And.intro Ty.t54 (And.intro Ty.t69 (And.intro Ty.t71 (And.intro Ty.t80 Ty.t89))))))))))))
 have F := Fc.mk True.intro
 rcases findA_cases fl s with hf | ⟨k, ⟨a0, a1, a2, a3, a4⟩, ha3, ha1, ha2⟩
 ·skip
  have hneg : decide (findA fl s < (0 : Int)) = true := by rw [hf]; rfl
  have hA : (arrB fl s) = false := by rw [arrB, decide_eq_false (by omega)]; rfl
  refine v_seqR [0,1,4] ?_; intro K1 k1
  have F := Fc.mk hneg
  refine zAlloc ⟨?_⟩
  refine zAssign ⟨?_⟩
  refine k1 _ ?_
  refine zk ⟨?_⟩
  refine v_seqR [0,1,4,6] ?_; intro K2 k2
  refine zMove ⟨?_⟩
  refine zNilCheck ⟨?_⟩
  refine zFieldAddr ⟨?_⟩
  refine zLoad ⟨?_⟩
  refine zMove ⟨?_⟩
  refine zc (findAppliance_con fl s hl) ⟨?_⟩
  refine zAssign ⟨?_⟩
  refine k2 _ ?_
  refine zk ⟨?_⟩
  refine v_seq ?_; intro Q3 n3 e3 r3
  refine v_seqR [0,1,4,6,26] ?_; intro K4 k4
  refine zMove ⟨?_⟩
  refine zBinOp ⟨?_⟩
  refine zMove ⟨?_⟩
  refine zgMove ⟨?_⟩
  refine zgNilCheck ⟨?_⟩
  refine zgFieldAddr ⟨?_⟩
  refine zgLoad ⟨?_⟩
  refine zgMove ⟨?_⟩
  refine zgIndexAddr ⟨?_⟩
  refine zgFieldAddr ⟨?_⟩
  refine zgLoad ⟨?_⟩
  refine zgBinOp ⟨?_⟩
  refine zPick ⟨?_⟩
  refine k4 _ ?_
  refine zk ⟨?_⟩
  refine v_cond _ rfl ?_ ?_
  ·intro hc0
   try simp only [zC, reduceCtorEq] at hc0
   have hA : (arrB fl s) = false := by
    first
    |exact hA
    |(cases hq : (arrB fl s) with
     |false => rfl
     |true => (exfalso; rw [arrB, hsa] at hq; simp at hq hc0; exact hc0 hq.2))
   refine v_seqR [4,5] ?_; intro K6 k6
   refine zBuild ⟨?_⟩
   refine zStore ⟨?_⟩
   refine zAssign ⟨?_⟩
   refine k6 _ ?_
   refine zk ⟨?_⟩
   refine v_ret ?_
   refine r3 _ ?_
   refine r0 _ ?_
   refine zf ⟨?_⟩
   simp only [zE, zL, zO, zN, aStepM, optable, set_some, Nat.reduceEqDiff, reduceIte, Nat.reduceLT, implies_true, forall_const, reduceCtorEq, V.ofValue, V.ofScalar, V.un, V.gd, aLoad, row_mk, Blk.row, PartOK, Go.Vm.part, V.cells, V.noSl, V.noRef, Nat.reduceAdd, Nat.reduceLeDiff, Nat.reduceMul, Tryz.underlying39, Ty.c39, Ty.a39, Tryz.underlying40, Ty.c40, Ty.a40, Tryz.underlying41, Ty.c41, Ty.a41, Tryz.underlying43, Ty.c43, Ty.a43]
   simp only [hA, orNil_f, List.map_nil, List.length_nil, fillK_0]
   exact ret_all rfl (by first | decide | simp [newIds, refsOf, refs2, refs1]) (by simp) rfl (by simp [newIds, refsOf, refs2, refs1]) (by simp [Blk.kindIs, fillK_fd]) rfl
  ·intro hc0
   exfalso; simp at hc0
 ·skip
  have hc := ctl_facts hB
  simp only [] at ha2
  have hsa := stA_at ha3 ha1
  simp only [] at hsa
  have hkl : k < fl.length := (List.getElem?_eq_some_iff.1 ha1).1
  have hk0 : decide ((k : Int) < (0 : Int)) = false := decide_eq_false (by omega)
  refine v_seqR [0,1,4] ?_; intro K7 k7
  have F := Fc.mk (And.intro ha3 (And.intro @Int.toNat_natCast (And.intro hk0 (fun f => getD_map (f := f) ha1))))
  refine zAlloc ⟨?_⟩
  refine zAssign ⟨?_⟩
  refine k7 _ ?_
  refine zk ⟨?_⟩
  refine v_seqR [0,1,4,6] ?_; intro K8 k8
  refine zMove ⟨?_⟩
  refine zNilCheck ⟨?_⟩
  refine zFieldAddr ⟨?_⟩
  refine zLoad ⟨?_⟩
  refine zMove ⟨?_⟩
  refine zc (findAppliance_con fl s hl) ⟨?_⟩
  refine zAssign ⟨?_⟩
  refine k8 _ ?_
  refine zk ⟨?_⟩
  refine v_seq ?_; intro Q9 n9 e9 r9
  refine v_seqR [0,1,4,6,26] ?_; intro K10 k10
  refine zMove ⟨?_⟩
  refine zBinOp ⟨?_⟩
  refine zMove ⟨?_⟩
  refine zgMove ⟨?_⟩
  refine zgNilCheck ⟨?_⟩
  refine zgFieldAddr ⟨?_⟩
  refine zgLoad ⟨?_⟩
  refine zgMove ⟨?_⟩
  refine zgIndexAddr ⟨?_⟩
  refine zgFieldAddr ⟨?_⟩
  refine zgLoad ⟨?_⟩
  refine zgBinOp ⟨?_⟩
  refine zPick ⟨?_⟩
  refine k10 _ ?_
  refine zk ⟨?_⟩
  refine v_condS _ rfl ?_ ?_
  ·intro hc0
   have hA : (arrB fl s) = false := by
    first
    |exact hA
    |(cases hq : (arrB fl s) with
     |false => rfl
     |true => (exfalso; rw [arrB, hsa] at hq; simp at hq hc0; exact hc0 hq.2))
   refine v_seqR [4,5] ?_; intro K12 k12
   refine zBuild ⟨?_⟩
   refine zStore ⟨?_⟩
   refine zAssign ⟨?_⟩
   refine k12 _ ?_
   refine zk ⟨?_⟩
   refine v_ret ?_
   refine r9 _ ?_
   refine r0 _ ?_
   refine zf ⟨?_⟩
   simp only [zE, zL, zO, zN, aStepM, optable, set_some, Nat.reduceEqDiff, reduceIte, Nat.reduceLT, implies_true, forall_const, reduceCtorEq, V.ofValue, V.ofScalar, V.un, V.gd, aLoad, row_mk, Blk.row, PartOK, Go.Vm.part, V.cells, V.noSl, V.noRef, Nat.reduceAdd, Nat.reduceLeDiff, Nat.reduceMul, Tryz.underlying39, Ty.c39, Ty.a39, Tryz.underlying40, Ty.c40, Ty.a40, Tryz.underlying41, Ty.c41, Ty.a41, Tryz.underlying43, Ty.c43, Ty.a43]
   simp only [hA, orNil_f, List.map_nil, List.length_nil, fillK_0]
   exact ret_all rfl (by first | decide | simp [newIds, refsOf, refs2, refs1]) (by simp) rfl (by simp [newIds, refsOf, refs2, refs1]) (by simp [Blk.kindIs, fillK_fd]) rfl
  ·intro hc0
   have hst2 : a4 = 2 := by simpa using hc0
   have hcm := arr_comm hc ha1 ha2 hst2
   obtain ⟨m, ⟨x0, x1, x2, x3⟩, hm1, _, hm3⟩ := commF_at hcm
   have hml : m < ins.length := (List.getElem?_eq_some_iff.1 hm1).1
   have hA : (arrB fl s) = true := by rw [arrB, hsa, hst2, ha3, decide_eq_true (show (0 : Int) ≤ (k : Int) by omega)]; rfl
   have hAF := arrF_at ha3 ha1 hm3 hm1
   simp only [] at hAF
   have hsm1 : (fl.map (fun t : ByteArray × Int × Int × Int × Int => V.agg [V.str t.1, V.int .i64 t.2.1, V.int .i64 t.2.2.1, V.int .i64 t.2.2.2.1, V.int .i64 t.2.2.2.2])).set k (V.agg [V.str a0, V.int .i64 a1, V.int .i64 a2, V.int .i64 a3, V.int .i64 3]) = (fl.set k (a0, a1, a2, a3, 3)).map (fun t : ByteArray × Int × Int × Int × Int => V.agg [V.str t.1, V.int .i64 t.2.1, V.int .i64 t.2.2.1, V.int .i64 t.2.2.2.1, V.int .i64 t.2.2.2.2]) := by have q := List.map_set (f := (fun t : ByteArray × Int × Int × Int × Int => V.agg [V.str t.1, V.int .i64 t.2.1, V.int .i64 t.2.2.1, V.int .i64 t.2.2.2.1, V.int .i64 t.2.2.2.2])) (l := fl) (i := k) (a := (a0, a1, a2, a3, 3)); exact q.symm
   have hg1 : (fl.set k (a0, a1, a2, a3, 3))[k]? = some (a0, a1, a2, a3, 3) := List.getElem?_set_self hkl
   have hl1 : (fl.set k (a0, a1, a2, a3, 3)).length = fl.length := List.length_set
   have hsm2 : ((fl.set k (a0, a1, a2, a3, 3)).map (fun t : ByteArray × Int × Int × Int × Int => V.agg [V.str t.1, V.int .i64 t.2.1, V.int .i64 t.2.2.1, V.int .i64 t.2.2.2.1, V.int .i64 t.2.2.2.2])).set k (V.agg [V.str a0, V.int .i64 a1, V.int .i64 x1, V.int .i64 a3, V.int .i64 3]) = (fl.set k (a0, a1, x1, a3, 3)).map (fun t : ByteArray × Int × Int × Int × Int => V.agg [V.str t.1, V.int .i64 t.2.1, V.int .i64 t.2.2.1, V.int .i64 t.2.2.2.1, V.int .i64 t.2.2.2.2]) := by have q := List.map_set (f := (fun t : ByteArray × Int × Int × Int × Int => V.agg [V.str t.1, V.int .i64 t.2.1, V.int .i64 t.2.2.1, V.int .i64 t.2.2.2.1, V.int .i64 t.2.2.2.2])) (l := fl.set k (a0, a1, a2, a3, 3)) (i := k) (a := (a0, a1, x1, a3, 3)); rw [List.set_set] at q; exact q.symm
   refine v_skip ?_
   refine n9 _ _ (weak_keep [0, 1, 4, 6] _) ?_
   refine zk ⟨?_⟩
   refine v_seqR [0,1,4,6,7] ?_; intro K13 k13
   have F := Fc.mk (And.intro ha3 (And.intro @Int.toNat_natCast (And.intro hk0 (And.intro (fun f => getD_map (f := f) ha1) (And.intro hm3 (And.intro (fun f => getD_map (f := f) hm1) (And.intro hsm1 (And.intro (fun f => getD_map (f := f) hg1) (And.intro hl1 hsm2)))))))))
   refine zMove ⟨?_⟩
   refine zc (copyControl_con fl ins ws hl hil hin hwl hwn) ⟨?_⟩
   refine zAlloc ⟨?_⟩
   refine zStore ⟨?_⟩
   refine k13 _ ?_
   refine zk ⟨?_⟩
   refine v_seqR [0,1,4,6,7] ?_; intro K14 k14
   refine zFieldAddr ⟨?_⟩
   refine zLoad ⟨?_⟩
   refine zMove ⟨?_⟩
   refine zIndexAddr ⟨?_⟩
   refine zFieldAddr ⟨?_⟩
   refine zStore ⟨?_⟩
   refine k14 _ ?_
   refine zk ⟨?_⟩
   refine v_seq ?_; intro Q15 n15 e15 r15
   refine v_draw (by kernel_rfl) ?_; intro K16 q16 k16
   show aAny _ _ _ _ 19 (Array.replicate 19 false) _
   refine zdFieldAddr q16 true 0 35 ?_
   refine zdLoadX q16 true 1 36 ?_
   refine zdMove q16 true 2 37 ?_
   refine zdMove q16 true 3 38 ?_
   refine zdNilCheck q16 true 4 39 ?_
   refine zdFieldAddr q16 true 5 40 ?_
   refine zdLoadX q16 true 6 41 ?_
   refine zdMove q16 true 7 42 ?_
   refine zdNilCheck q16 true 8 43 ?_
   refine zdFieldAddr q16 true 9 44 ?_
   refine zdLoadX q16 true 10 45 ?_
   refine zdMove q16 true 11 46 ?_
   refine zoc 12 (committedAt_con ins s hil hin) ⟨?_⟩
   refine zdIndexAddr q16 true 13 48 ?_
   refine zdFieldAddr q16 true 14 49 ?_
   refine zdLoadX q16 true 15 50 ?_
   refine zdIndexAddr q16 true 16 51 ?_
   refine zdFieldAddr q16 true 17 52 ?_
   refine zoStore 18 ⟨?_⟩
   refine aAny_done (by kernel_rfl) ?_
   refine k16 _ ?_
   refine n15 _ _ (weak_keep [4, 7] _) ?_
   refine zk ⟨?_⟩
   refine v_seqR [4,5] ?_; intro K17 k17
   refine zLoad ⟨?_⟩
   refine zStore ⟨?_⟩
   refine zAssign ⟨?_⟩
   refine k17 _ ?_
   refine zk ⟨?_⟩
   refine v_ret ?_
   refine r0 _ ?_
   refine zf ⟨?_⟩
   simp only [zE, zL, zO, zN, aStepM, optable, set_some, Nat.reduceEqDiff, reduceIte, Nat.reduceLT, implies_true, forall_const, reduceCtorEq, V.ofValue, V.ofScalar, V.un, V.gd, aLoad, row_mk, Blk.row, PartOK, Go.Vm.part, V.cells, V.noSl, V.noRef, Nat.reduceAdd, Nat.reduceLeDiff, Nat.reduceMul, Tryz.underlying39, Ty.c39, Ty.a39, Tryz.underlying40, Ty.c40, Ty.a40, Tryz.underlying41, Ty.c41, Ty.a41, Tryz.underlying43, Ty.c43, Ty.a43]
   simp only [hA, orNil_t]
   rw [hAF]
   exact ret_all rfl (by first | decide | simp [newIds, refsOf, refs2, refs1]) (by simp) rfl (by simp [newIds, refsOf, refs2, refs1]) (by simp [Blk.kindIs, fillK_fd]) rfl
set_option maxRecDepth 100000 in
set_option maxHeartbeats 1000000 in
theorem roArrive_con (n : Int) (ss : List (Int × Int × Int)) (fl : List (ByteArray × Int × Int × Int × Int)) (ins : List (Int × Int × Bool × List ByteArray)) (ws : List (Int × List Int)) (s : ByteArray) (hl : fl.length ≤ 1048576) (hil : ins.length ≤ 1048576) (hin : ∀ x ∈ ins, x.2.2.2.length ≤ 1048576) (hwl : ws.length ≤ 1048576) (hwn : ∀ x ∈ ws, x.2.length ≤ 1048576) (hB : (ctlB n ss fl ins ws) = true) : Con Tryz.prog 56 [.agg [.sl (fl.map (fun t : ByteArray × Int × Int × Int × Int => V.agg [V.str t.1, V.int .i64 t.2.1, V.int .i64 t.2.2.1, V.int .i64 t.2.2.2.1, V.int .i64 t.2.2.2.2])), .sl (ins.map (fun t : Int × Int × Bool × List ByteArray => V.agg [V.int .i64 t.1, V.int .i64 t.2.1, V.bool t.2.2.1, V.sl (t.2.2.2.map V.str)])), .sl (ws.map (fun t : Int × List Int => V.agg [V.int .i64 t.1, V.sl (t.2.map (V.int .i64))]))], .str s] [] (.tup [.agg [.ref 0, .ref 1, .ref 2], .bool (arrB fl s)]) [.arr ((orNil (arrB fl s) (arrF fl ins s)).map (fun t : ByteArray × Int × Int × Int × Int => V.agg [V.str t.1, V.int .i64 t.2.1, V.int .i64 t.2.2.1, V.int .i64 t.2.2.2.1, V.int .i64 t.2.2.2.2])) .flat, .arr ((orNil (arrB fl s) ins).map (fun t : Int × Int × Bool × List ByteArray => V.agg [V.int .i64 t.1, V.int .i64 t.2.1, V.bool t.2.2.1, V.sl (t.2.2.2.map V.str)])) (fillK (orNil (arrB fl s) ins).length), .arr ((orNil (arrB fl s) ws).map (fun t : Int × List Int => V.agg [V.int .i64 t.1, V.sl (t.2.map (V.int .i64))])) (fillK (orNil (arrB fl s) ws).length)] := by
 refine v_con [.cell 4 43, .tmp 5] [] Tryz.func56 rfl rfl rfl (by simp [Tryz.ntmps56]) ?_
 intro Q0 n0 r0
 simp only [Tryz.ntmps56, envFrom, Nat.reduceAdd]
 have T := Tys.mk (And.intro Ty.t3 (And.intro Ty.t4 (And.intro Ty.t9 (And.intro Ty.t32 (And.intro Ty.t39 (And.intro Ty.t40 (And.intro Ty.t41 (And.intro Ty.t43 (And.intro Ty.t54 (And.intro Ty.t69 (And.intro Ty.t71 Ty.t89)))))))))))
 have F := Fc.mk True.intro
 rcases findA_cases fl s with hf | ⟨k, ⟨a0, a1, a2, a3, a4⟩, ha3, ha1, ha2⟩
 ·skip
  have hneg : decide (findA fl s < (0 : Int)) = true := by rw [hf]; rfl
  have hA : (arrB fl s) = false := by rw [arrB, decide_eq_false (by omega)]; rfl
  refine v_seqR [1,2,4] ?_; intro K1 k1
  have F := Fc.mk hneg
  refine zBox ⟨?_⟩
  refine zAlloc ⟨?_⟩
  refine zAssign ⟨?_⟩
  refine k1 _ ?_
  refine zk ⟨?_⟩
  refine v_seqR [1,2,4,6] ?_; intro K2 k2
  refine zFieldAddr ⟨?_⟩
  refine zLoad ⟨?_⟩
  refine zMove ⟨?_⟩
  refine zc (apFind_con fl s hl) ⟨?_⟩
  refine zAssign ⟨?_⟩
  refine k2 _ ?_
  refine zk ⟨?_⟩
  refine v_seq ?_; intro Q3 n3 e3 r3
  refine v_seqR [1,2,4,6,23] ?_; intro K4 k4
  refine zMove ⟨?_⟩
  refine zBinOp ⟨?_⟩
  refine zMove ⟨?_⟩
  refine zgFieldAddr ⟨?_⟩
  refine zgLoad ⟨?_⟩
  refine zgMove ⟨?_⟩
  refine zgIndexAddr ⟨?_⟩
  refine zgFieldAddr ⟨?_⟩
  refine zgLoad ⟨?_⟩
  refine zgBinOp ⟨?_⟩
  refine zPick ⟨?_⟩
  refine k4 _ ?_
  refine zk ⟨?_⟩
  refine v_cond _ rfl ?_ ?_
  ·intro hc0
   try simp only [zC, reduceCtorEq] at hc0
   have hA : (arrB fl s) = false := by
    first
    |exact hA
    |(cases hq : (arrB fl s) with
     |false => rfl
     |true => (exfalso; rw [arrB, hsa] at hq; simp at hq hc0; exact hc0 hq.2))
   refine v_seqR [4,5] ?_; intro K6 k6
   refine zBuild ⟨?_⟩
   refine zStore ⟨?_⟩
   refine zAssign ⟨?_⟩
   refine k6 _ ?_
   refine zk ⟨?_⟩
   refine v_ret ?_
   refine r3 _ ?_
   refine r0 _ ?_
   refine zf ⟨?_⟩
   simp only [zE, zL, zO, zN, aStepM, optable, set_some, Nat.reduceEqDiff, reduceIte, Nat.reduceLT, implies_true, forall_const, reduceCtorEq, V.ofValue, V.ofScalar, V.un, V.gd, aLoad, row_mk, Blk.row, PartOK, Go.Vm.part, V.cells, V.noSl, V.noRef, Nat.reduceAdd, Nat.reduceLeDiff, Nat.reduceMul, Tryz.underlying39, Ty.c39, Ty.a39, Tryz.underlying40, Ty.c40, Ty.a40, Tryz.underlying41, Ty.c41, Ty.a41, Tryz.underlying43, Ty.c43, Ty.a43]
   simp only [hA, orNil_f, List.map_nil, List.length_nil, fillK_0]
   exact ret_all rfl (by first | decide | simp [newIds, refsOf, refs2, refs1]) (by simp) rfl (by simp [newIds, refsOf, refs2, refs1]) (by simp [Blk.kindIs, fillK_fd]) rfl
  ·intro hc0
   exfalso; simp at hc0
 ·skip
  have hc := ctl_facts hB
  simp only [] at ha2
  have hsa := stA_at ha3 ha1
  simp only [] at hsa
  have hkl : k < fl.length := (List.getElem?_eq_some_iff.1 ha1).1
  have hk0 : decide ((k : Int) < (0 : Int)) = false := decide_eq_false (by omega)
  refine v_seqR [1,2,4] ?_; intro K7 k7
  have F := Fc.mk (And.intro ha3 (And.intro @Int.toNat_natCast (And.intro hk0 (fun f => getD_map (f := f) ha1))))
  refine zBox ⟨?_⟩
  refine zAlloc ⟨?_⟩
  refine zAssign ⟨?_⟩
  refine k7 _ ?_
  refine zk ⟨?_⟩
  refine v_seqR [1,2,4,6] ?_; intro K8 k8
  refine zFieldAddr ⟨?_⟩
  refine zLoad ⟨?_⟩
  refine zMove ⟨?_⟩
  refine zc (apFind_con fl s hl) ⟨?_⟩
  refine zAssign ⟨?_⟩
  refine k8 _ ?_
  refine zk ⟨?_⟩
  refine v_seq ?_; intro Q9 n9 e9 r9
  refine v_seqR [1,2,4,6,23] ?_; intro K10 k10
  refine zMove ⟨?_⟩
  refine zBinOp ⟨?_⟩
  refine zMove ⟨?_⟩
  refine zgFieldAddr ⟨?_⟩
  refine zgLoad ⟨?_⟩
  refine zgMove ⟨?_⟩
  refine zgIndexAddr ⟨?_⟩
  refine zgFieldAddr ⟨?_⟩
  refine zgLoad ⟨?_⟩
  refine zgBinOp ⟨?_⟩
  refine zPick ⟨?_⟩
  refine k10 _ ?_
  refine zk ⟨?_⟩
  refine v_condS _ rfl ?_ ?_
  ·intro hc0
   have hA : (arrB fl s) = false := by
    first
    |exact hA
    |(cases hq : (arrB fl s) with
     |false => rfl
     |true => (exfalso; rw [arrB, hsa] at hq; simp at hq hc0; exact hc0 hq.2))
   refine v_seqR [4,5] ?_; intro K12 k12
   refine zBuild ⟨?_⟩
   refine zStore ⟨?_⟩
   refine zAssign ⟨?_⟩
   refine k12 _ ?_
   refine zk ⟨?_⟩
   refine v_ret ?_
   refine r9 _ ?_
   refine r0 _ ?_
   refine zf ⟨?_⟩
   simp only [zE, zL, zO, zN, aStepM, optable, set_some, Nat.reduceEqDiff, reduceIte, Nat.reduceLT, implies_true, forall_const, reduceCtorEq, V.ofValue, V.ofScalar, V.un, V.gd, aLoad, row_mk, Blk.row, PartOK, Go.Vm.part, V.cells, V.noSl, V.noRef, Nat.reduceAdd, Nat.reduceLeDiff, Nat.reduceMul, Tryz.underlying39, Ty.c39, Ty.a39, Tryz.underlying40, Ty.c40, Ty.a40, Tryz.underlying41, Ty.c41, Ty.a41, Tryz.underlying43, Ty.c43, Ty.a43]
   simp only [hA, orNil_f, List.map_nil, List.length_nil, fillK_0]
   exact ret_all rfl (by first | decide | simp [newIds, refsOf, refs2, refs1]) (by simp) rfl (by simp [newIds, refsOf, refs2, refs1]) (by simp [Blk.kindIs, fillK_fd]) rfl
  ·intro hc0
   have hst2 : a4 = 2 := by simpa using hc0
   have hcm := arr_comm hc ha1 ha2 hst2
   obtain ⟨m, ⟨x0, x1, x2, x3⟩, hm1, _, hm3⟩ := commF_at hcm
   have hml : m < ins.length := (List.getElem?_eq_some_iff.1 hm1).1
   have hA : (arrB fl s) = true := by rw [arrB, hsa, hst2, ha3, decide_eq_true (show (0 : Int) ≤ (k : Int) by omega)]; rfl
   have hAF := arrF_at ha3 ha1 hm3 hm1
   simp only [] at hAF
   have hsm1 : (fl.map (fun t : ByteArray × Int × Int × Int × Int => V.agg [V.str t.1, V.int .i64 t.2.1, V.int .i64 t.2.2.1, V.int .i64 t.2.2.2.1, V.int .i64 t.2.2.2.2])).set k (V.agg [V.str a0, V.int .i64 a1, V.int .i64 a2, V.int .i64 a3, V.int .i64 3]) = (fl.set k (a0, a1, a2, a3, 3)).map (fun t : ByteArray × Int × Int × Int × Int => V.agg [V.str t.1, V.int .i64 t.2.1, V.int .i64 t.2.2.1, V.int .i64 t.2.2.2.1, V.int .i64 t.2.2.2.2]) := by have q := List.map_set (f := (fun t : ByteArray × Int × Int × Int × Int => V.agg [V.str t.1, V.int .i64 t.2.1, V.int .i64 t.2.2.1, V.int .i64 t.2.2.2.1, V.int .i64 t.2.2.2.2])) (l := fl) (i := k) (a := (a0, a1, a2, a3, 3)); exact q.symm
   have hg1 : (fl.set k (a0, a1, a2, a3, 3))[k]? = some (a0, a1, a2, a3, 3) := List.getElem?_set_self hkl
   have hl1 : (fl.set k (a0, a1, a2, a3, 3)).length = fl.length := List.length_set
   have hsm2 : ((fl.set k (a0, a1, a2, a3, 3)).map (fun t : ByteArray × Int × Int × Int × Int => V.agg [V.str t.1, V.int .i64 t.2.1, V.int .i64 t.2.2.1, V.int .i64 t.2.2.2.1, V.int .i64 t.2.2.2.2])).set k (V.agg [V.str a0, V.int .i64 a1, V.int .i64 x1, V.int .i64 a3, V.int .i64 3]) = (fl.set k (a0, a1, x1, a3, 3)).map (fun t : ByteArray × Int × Int × Int × Int => V.agg [V.str t.1, V.int .i64 t.2.1, V.int .i64 t.2.2.1, V.int .i64 t.2.2.2.1, V.int .i64 t.2.2.2.2]) := by have q := List.map_set (f := (fun t : ByteArray × Int × Int × Int × Int => V.agg [V.str t.1, V.int .i64 t.2.1, V.int .i64 t.2.2.1, V.int .i64 t.2.2.2.1, V.int .i64 t.2.2.2.2])) (l := fl.set k (a0, a1, a2, a3, 3)) (i := k) (a := (a0, a1, x1, a3, 3)); rw [List.set_set] at q; exact q.symm
   refine v_skip ?_
   refine n9 _ _ (weak_keep [1, 2, 4, 6] _) ?_
   refine zk ⟨?_⟩
   refine v_seqR [1,2,4,6,7] ?_; intro K13 k13
   have F := Fc.mk (And.intro ha3 (And.intro @Int.toNat_natCast (And.intro hk0 (And.intro (fun f => getD_map (f := f) ha1) (And.intro hm3 (And.intro (fun f => getD_map (f := f) hm1) (And.intro hsm1 (And.intro (fun f => getD_map (f := f) hg1) (And.intro hl1 hsm2)))))))))
   refine zLoad ⟨?_⟩
   refine zc (roOwn_con fl ins ws hl hil hin hwl hwn) ⟨?_⟩
   refine zAlloc ⟨?_⟩
   refine zStore ⟨?_⟩
   refine k13 _ ?_
   refine zk ⟨?_⟩
   refine v_seqR [1,2,4,6,7,8] ?_; intro K14 k14
   refine zFieldAddr ⟨?_⟩
   refine zLoad ⟨?_⟩
   refine zMove ⟨?_⟩
   refine zIndexAddr ⟨?_⟩
   refine zLoad ⟨?_⟩
   refine zAlloc ⟨?_⟩
   refine zStore ⟨?_⟩
   refine k14 _ ?_
   refine zk ⟨?_⟩
   refine v_seqR [1,2,4,6,7,8] ?_; intro K15 k15
   refine zFieldAddr ⟨?_⟩
   refine zStore ⟨?_⟩
   refine k15 _ ?_
   refine zk ⟨?_⟩
   refine v_seq ?_; intro Q16 n16 e16 r16
   refine v_draw (by kernel_rfl) ?_; intro K17 q17 k17
   show aAny _ _ _ _ 11 (Array.replicate 11 false) _
   refine zdFieldAddr q17 true 0 33 ?_
   refine zdLoadX q17 true 1 34 ?_
   refine zdFieldAddr q17 true 2 35 ?_
   refine zdLoadX q17 true 3 36 ?_
   refine zdMove q17 true 4 37 ?_
   refine zoc 5 (ixOf_con ins s hil hin) ⟨?_⟩
   refine zdIndexAddr q17 true 6 39 ?_
   refine zdFieldAddr q17 true 7 40 ?_
   refine zdLoadX q17 true 8 41 ?_
   refine zdFieldAddr q17 true 9 42 ?_
   refine zoStore 10 ⟨?_⟩
   refine aAny_done (by kernel_rfl) ?_
   refine k17 _ ?_
   refine n16 _ _ (weak_keep [2, 4, 6, 7, 8] _) ?_
   refine zk ⟨?_⟩
   refine v_seqR [4,7] ?_; intro K18 k18
   refine zFieldAddr ⟨?_⟩
   refine zLoad ⟨?_⟩
   refine zMove ⟨?_⟩
   refine zLoad ⟨?_⟩
   refine zc (apWith_con fl k a0 a1 x1 a3 3 hl hkl) ⟨?_⟩
   refine zFieldAddr ⟨?_⟩
   refine zStore ⟨?_⟩
   refine k18 _ ?_
   refine zk ⟨?_⟩
   refine v_seqR [4,5] ?_; intro K19 k19
   refine zLoad ⟨?_⟩
   refine zStore ⟨?_⟩
   refine zAssign ⟨?_⟩
   refine k19 _ ?_
   refine zk ⟨?_⟩
   refine v_ret ?_
   refine r0 _ ?_
   refine zf ⟨?_⟩
   simp only [zE, zL, zO, zN, aStepM, optable, set_some, Nat.reduceEqDiff, reduceIte, Nat.reduceLT, implies_true, forall_const, reduceCtorEq, V.ofValue, V.ofScalar, V.un, V.gd, aLoad, row_mk, Blk.row, PartOK, Go.Vm.part, V.cells, V.noSl, V.noRef, Nat.reduceAdd, Nat.reduceLeDiff, Nat.reduceMul, Tryz.underlying39, Ty.c39, Ty.a39, Tryz.underlying40, Ty.c40, Ty.a40, Tryz.underlying41, Ty.c41, Ty.a41, Tryz.underlying43, Ty.c43, Ty.a43]
   simp only [hA, orNil_t]
   rw [hAF]
   exact ret_all rfl (by first | decide | simp [newIds, refsOf, refs2, refs1]) (by simp) rfl (by simp [newIds, refsOf, refs2, refs1]) (by simp [Blk.kindIs, fillK_fd]) rfl
set_option maxRecDepth 100000 in
set_option maxHeartbeats 1000000 in
theorem implArrive_con (n : Int) (ss : List (Int × Int × Int)) (fl : List (ByteArray × Int × Int × Int × Int)) (ins : List (Int × Int × Bool × List ByteArray)) (ws : List (Int × List Int)) (s : ByteArray) (hs : ss.length ≤ 1048576) (hl : fl.length ≤ 1048576) (hls : ∀ t ∈ fl, t.1.size ≤ 9223372036854775807) (hil : ins.length ≤ 1048576) (hin : ∀ x ∈ ins, x.2.2.2.length ≤ 1048576) (his : ∀ x ∈ ins, ∀ s ∈ x.2.2.2, s.size ≤ 9223372036854775807) (hwl : ws.length ≤ 1048576) (hwn : ∀ x ∈ ws, x.2.length ≤ 1048576) : Con Tryz.prog 28 [.agg [.int .i64 n, .sl (ss.map (fun t : Int × Int × Int => V.agg [V.int .i64 t.1, V.int .i64 t.2.1, V.int .i64 t.2.2]))], .agg [.sl (fl.map (fun t : ByteArray × Int × Int × Int × Int => V.agg [V.str t.1, V.int .i64 t.2.1, V.int .i64 t.2.2.1, V.int .i64 t.2.2.2.1, V.int .i64 t.2.2.2.2])), .sl (ins.map (fun t : Int × Int × Bool × List ByteArray => V.agg [V.int .i64 t.1, V.int .i64 t.2.1, V.bool t.2.2.1, V.sl (t.2.2.2.map V.str)])), .sl (ws.map (fun t : Int × List Int => V.agg [V.int .i64 t.1, V.sl (t.2.map (V.int .i64))]))], .str s] [] (.tup [.agg [.ref 0, .ref 1, .ref 2], .bool (arvB n ss fl ins ws s)]) [.arr ((orNil (arvB n ss fl ins ws s) (arrF fl ins s)).map (fun t : ByteArray × Int × Int × Int × Int => V.agg [V.str t.1, V.int .i64 t.2.1, V.int .i64 t.2.2.1, V.int .i64 t.2.2.2.1, V.int .i64 t.2.2.2.2])) .flat, .arr ((orNil (arvB n ss fl ins ws s) ins).map (fun t : Int × Int × Bool × List ByteArray => V.agg [V.int .i64 t.1, V.int .i64 t.2.1, V.bool t.2.2.1, V.sl (t.2.2.2.map V.str)])) (fillK (orNil (arvB n ss fl ins ws s) ins).length), .arr ((orNil (arvB n ss fl ins ws s) ws).map (fun t : Int × List Int => V.agg [V.int .i64 t.1, V.sl (t.2.map (V.int .i64))])) (fillK (orNil (arvB n ss fl ins ws s) ws).length)] := by
 refine v_con [.cell 6 43, .tmp 7] [] Tryz.func28 rfl rfl rfl (by simp [Tryz.ntmps28]) ?_
 intro Q0 n0 r0
 simp only [Tryz.ntmps28, envFrom, Nat.reduceAdd]
 have T := Tys.mk (And.intro Ty.t3 (And.intro Ty.t4 (And.intro Ty.t9 (And.intro Ty.t32 (And.intro Ty.t35 (And.intro Ty.t37 (And.intro Ty.t39 (And.intro Ty.t40 (And.intro Ty.t41 (And.intro Ty.t43 (And.intro Ty.t54 (And.intro Ty.t69 (And.intro Ty.t71 (And.intro Ty.t78 (And.intro Ty.t80 (And.intro Ty.t89 Ty.t106))))))))))))))))
 have F := Fc.mk True.intro
 refine v_seqR [2,3,4,6] ?_; intro K1 k1
 refine zBox ⟨?_⟩
 refine zBox ⟨?_⟩
 refine zAlloc ⟨?_⟩
 refine zAssign ⟨?_⟩
 refine k1 _ ?_
 refine zk ⟨?_⟩
 refine v_seq ?_; intro Q2 n2 e2 r2
 refine v_seqR [2,4,6,13] ?_; intro K3 k3
 refine zc (isTown_con n ss hs) ⟨?_⟩
 refine zUnOp ⟨?_⟩
 refine zMove ⟨?_⟩
 refine zgc (isControl_con n ss fl ins ws hs hl hls hil hin his hwl hwn) ⟨?_⟩
 refine zgUnOp ⟨?_⟩
 refine zPick ⟨?_⟩
 refine k3 _ ?_
 refine zk ⟨?_⟩
 refine v_condS _ rfl ?_ ?_
 ·intro hc0
  have hB : (ctlB n ss fl ins ws) = false := by
   cases hq : (ctlB n ss fl ins ws) with
   |false => rfl
   |true => (have ht := ctl_town hq; simp [hq, ht] at hc0)
  have hV : (arvB n ss fl ins ws s) = false := by rw [arvB, hB]; rfl
  refine v_seqR [6,7] ?_; intro K5 k5
  refine zBuild ⟨?_⟩
  refine zStore ⟨?_⟩
  refine zAssign ⟨?_⟩
  refine k5 _ ?_
  refine zk ⟨?_⟩
  refine v_ret ?_
  refine r2 _ ?_
  refine r0 _ ?_
  refine zf ⟨?_⟩
  simp only [zE, zL, zO, zN, aStepM, optable, set_some, Nat.reduceEqDiff, reduceIte, Nat.reduceLT, implies_true, forall_const, reduceCtorEq, V.ofValue, V.ofScalar, V.un, V.gd, aLoad, row_mk, Blk.row, PartOK, Go.Vm.part, V.cells, V.noSl, V.noRef, Nat.reduceAdd, Nat.reduceLeDiff, Nat.reduceMul, Tryz.underlying39, Ty.c39, Ty.a39, Tryz.underlying40, Ty.c40, Ty.a40, Tryz.underlying41, Ty.c41, Ty.a41, Tryz.underlying43, Ty.c43, Ty.a43]
  simp only [hV, orNil_f, List.map_nil, List.length_nil, fillK_0]
  exact ret_all rfl (by first | decide | simp [newIds, refsOf, refs2, refs1]) (by simp) rfl (by simp [newIds, refsOf, refs2, refs1]) (by simp [Blk.kindIs, fillK_fd]) rfl
 ·intro hc0
  have hB : (ctlB n ss fl ins ws) = true := by
   cases hq : (ctlB n ss fl ins ws) with
   |true => rfl
   |false => simp [hq] at hc0
  have hc := ctl_facts hB
  have hV : (arvB n ss fl ins ws s) = (arrB fl s) := by rw [arvB, hB]; rfl
  refine v_skip ?_
  refine n2 _ _ (weak_keep [2, 4, 6] _) ?_
  refine zk ⟨?_⟩
  refine v_seqR [6,7] ?_; intro K6 k6
  refine zMove ⟨?_⟩
  refine zc (arriveAt_con n ss fl ins ws s hl hil hin hwl hwn hB) ⟨?_⟩
  refine zExtract ⟨?_⟩
  refine zExtract ⟨?_⟩
  refine zStore ⟨?_⟩
  refine zAssign ⟨?_⟩
  refine k6 _ ?_
  refine zk ⟨?_⟩
  refine v_ret ?_
  refine r0 _ ?_
  refine zf ⟨?_⟩
  simp only [zE, zL, zO, zN, aStepM, optable, set_some, Nat.reduceEqDiff, reduceIte, Nat.reduceLT, implies_true, forall_const, reduceCtorEq, V.ofValue, V.ofScalar, V.un, V.gd, aLoad, row_mk, Blk.row, PartOK, Go.Vm.part, V.cells, V.noSl, V.noRef, Nat.reduceAdd, Nat.reduceLeDiff, Nat.reduceMul, Tryz.underlying39, Ty.c39, Ty.a39, Tryz.underlying40, Ty.c40, Ty.a40, Tryz.underlying41, Ty.c41, Ty.a41, Tryz.underlying43, Ty.c43, Ty.a43]
  rw [hV]
  exact ret_all rfl (by first | decide | simp [newIds, refsOf, refs2, refs1]) (by simp) rfl (by simp [newIds, refsOf, refs2, refs1]) (by simp [Blk.kindIs, fillK_fd]) rfl
set_option maxRecDepth 100000 in
set_option maxHeartbeats 1000000 in
theorem specArrive_con (n : Int) (ss : List (Int × Int × Int)) (fl : List (ByteArray × Int × Int × Int × Int)) (ins : List (Int × Int × Bool × List ByteArray)) (ws : List (Int × List Int)) (s : ByteArray) (hs : ss.length ≤ 1048576) (hl : fl.length ≤ 1048576) (hls : ∀ t ∈ fl, t.1.size ≤ 9223372036854775807) (hil : ins.length ≤ 1048576) (hin : ∀ x ∈ ins, x.2.2.2.length ≤ 1048576) (his : ∀ x ∈ ins, ∀ s ∈ x.2.2.2, s.size ≤ 9223372036854775807) (hwl : ws.length ≤ 1048576) (hwn : ∀ x ∈ ws, x.2.length ≤ 1048576) : Con Tryz.prog 27 [.agg [.int .i64 n, .sl (ss.map (fun t : Int × Int × Int => V.agg [V.int .i64 t.1, V.int .i64 t.2.1, V.int .i64 t.2.2]))], .agg [.sl (fl.map (fun t : ByteArray × Int × Int × Int × Int => V.agg [V.str t.1, V.int .i64 t.2.1, V.int .i64 t.2.2.1, V.int .i64 t.2.2.2.1, V.int .i64 t.2.2.2.2])), .sl (ins.map (fun t : Int × Int × Bool × List ByteArray => V.agg [V.int .i64 t.1, V.int .i64 t.2.1, V.bool t.2.2.1, V.sl (t.2.2.2.map V.str)])), .sl (ws.map (fun t : Int × List Int => V.agg [V.int .i64 t.1, V.sl (t.2.map (V.int .i64))]))], .str s] [] (.tup [.agg [.ref 0, .ref 1, .ref 2], .bool (arvB n ss fl ins ws s)]) [.arr ((orNil (arvB n ss fl ins ws s) (arrF fl ins s)).map (fun t : ByteArray × Int × Int × Int × Int => V.agg [V.str t.1, V.int .i64 t.2.1, V.int .i64 t.2.2.1, V.int .i64 t.2.2.2.1, V.int .i64 t.2.2.2.2])) .flat, .arr ((orNil (arvB n ss fl ins ws s) ins).map (fun t : Int × Int × Bool × List ByteArray => V.agg [V.int .i64 t.1, V.int .i64 t.2.1, V.bool t.2.2.1, V.sl (t.2.2.2.map V.str)])) (fillK (orNil (arvB n ss fl ins ws s) ins).length), .arr ((orNil (arvB n ss fl ins ws s) ws).map (fun t : Int × List Int => V.agg [V.int .i64 t.1, V.sl (t.2.map (V.int .i64))])) (fillK (orNil (arvB n ss fl ins ws s) ws).length)] := by
 refine v_con [.cell 6 43, .tmp 7] [] Tryz.func27 rfl rfl rfl (by simp [Tryz.ntmps27]) ?_
 intro Q0 n0 r0
 simp only [Tryz.ntmps27, envFrom, Nat.reduceAdd]
 have T := Tys.mk (And.intro Ty.t3 (And.intro Ty.t4 (And.intro Ty.t9 (And.intro Ty.t32 (And.intro Ty.t35 (And.intro Ty.t37 (And.intro Ty.t39 (And.intro Ty.t40 (And.intro Ty.t41 (And.intro Ty.t43 (And.intro Ty.t54 (And.intro Ty.t69 (And.intro Ty.t71 (And.intro Ty.t89 Ty.t106))))))))))))))
 have F := Fc.mk True.intro
 refine v_seqR [2,3,4,6] ?_; intro K1 k1
 refine zBox ⟨?_⟩
 refine zBox ⟨?_⟩
 refine zAlloc ⟨?_⟩
 refine zAssign ⟨?_⟩
 refine k1 _ ?_
 refine zk ⟨?_⟩
 refine v_seq ?_; intro Q2 n2 e2 r2
 refine v_seqR [2,4,6,11] ?_; intro K3 k3
 refine zLoad ⟨?_⟩
 refine zLoad ⟨?_⟩
 refine zc (roGood_con n ss fl ins ws hs hl hls hil hin his hwl hwn) ⟨?_⟩
 refine zUnOp ⟨?_⟩
 refine k3 _ ?_
 refine zk ⟨?_⟩
 refine v_condS _ rfl ?_ ?_
 ·intro hc0
  have hB : (ctlB n ss fl ins ws) = false := by
   cases hq : (ctlB n ss fl ins ws) with
   |false => rfl
   |true => simp [hq] at hc0
  have hV : (arvB n ss fl ins ws s) = false := by rw [arvB, hB]; rfl
  refine v_seqR [6,7] ?_; intro K5 k5
  refine zBuild ⟨?_⟩
  refine zStore ⟨?_⟩
  refine zAssign ⟨?_⟩
  refine k5 _ ?_
  refine zk ⟨?_⟩
  refine v_ret ?_
  refine r2 _ ?_
  refine r0 _ ?_
  refine zf ⟨?_⟩
  simp only [zE, zL, zO, zN, aStepM, optable, set_some, Nat.reduceEqDiff, reduceIte, Nat.reduceLT, implies_true, forall_const, reduceCtorEq, V.ofValue, V.ofScalar, V.un, V.gd, aLoad, row_mk, Blk.row, PartOK, Go.Vm.part, V.cells, V.noSl, V.noRef, Nat.reduceAdd, Nat.reduceLeDiff, Nat.reduceMul, Tryz.underlying39, Ty.c39, Ty.a39, Tryz.underlying40, Ty.c40, Ty.a40, Tryz.underlying41, Ty.c41, Ty.a41, Tryz.underlying43, Ty.c43, Ty.a43]
  simp only [hV, orNil_f, List.map_nil, List.length_nil, fillK_0]
  exact ret_all rfl (by first | decide | simp [newIds, refsOf, refs2, refs1]) (by simp) rfl (by simp [newIds, refsOf, refs2, refs1]) (by simp [Blk.kindIs, fillK_fd]) rfl
 ·intro hc0
  have hB : (ctlB n ss fl ins ws) = true := by
   cases hq : (ctlB n ss fl ins ws) with
   |true => rfl
   |false => simp [hq] at hc0
  have hc := ctl_facts hB
  have hV : (arvB n ss fl ins ws s) = (arrB fl s) := by rw [arvB, hB]; rfl
  refine v_skip ?_
  refine n2 _ _ (weak_keep [2, 4, 6] _) ?_
  refine zk ⟨?_⟩
  refine v_seqR [6,7] ?_; intro K6 k6
  refine zLoad ⟨?_⟩
  refine zMove ⟨?_⟩
  refine zc (roArrive_con n ss fl ins ws s hl hil hin hwl hwn hB) ⟨?_⟩
  refine zExtract ⟨?_⟩
  refine zExtract ⟨?_⟩
  refine zStore ⟨?_⟩
  refine zAssign ⟨?_⟩
  refine k6 _ ?_
  refine zk ⟨?_⟩
  refine v_ret ?_
  refine r0 _ ?_
  refine zf ⟨?_⟩
  simp only [zE, zL, zO, zN, aStepM, optable, set_some, Nat.reduceEqDiff, reduceIte, Nat.reduceLT, implies_true, forall_const, reduceCtorEq, V.ofValue, V.ofScalar, V.un, V.gd, aLoad, row_mk, Blk.row, PartOK, Go.Vm.part, V.cells, V.noSl, V.noRef, Nat.reduceAdd, Nat.reduceLeDiff, Nat.reduceMul, Tryz.underlying39, Ty.c39, Ty.a39, Tryz.underlying40, Ty.c40, Ty.a40, Tryz.underlying41, Ty.c41, Ty.a41, Tryz.underlying43, Ty.c43, Ty.a43]
  rw [hV]
  exact ret_all rfl (by first | decide | simp [newIds, refsOf, refs2, refs1]) (by simp) rfl (by simp [newIds, refsOf, refs2, refs1]) (by simp [Blk.kindIs, fillK_fd]) rfl
end Go.Proofs.YtdgenniiidgimaaGreat
