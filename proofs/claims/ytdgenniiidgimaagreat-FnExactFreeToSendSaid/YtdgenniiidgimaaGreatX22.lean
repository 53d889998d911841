/- What functions compute. No condition. -/
import Derived.Test.YtdgenniiidgimaaGreatUty
import Derived.Test.YtdgenniiidgimaaGreatUmG
import Derived.Test.YtdgenniiidgimaaGreatX12
import Derived.Test.YtdgenniiidgimaaGreatX15
import Derived.Test.YtdgenniiidgimaaGreatX14
import Derived.Test.YtdgenniiidgimaaGreatX13
import Derived.Test.YtdgenniiidgimaaGreatX2
import Derived.Test.YtdgenniiidgimaaGreatX4
import Derived.Test.YtdgenniiidgimaaGreatX17
set_option linter.unusedSimpArgs false
set_option linter.unusedVariables false
set_option linter.defProp false
namespace Go.Proofs.YtdgenniiidgimaaGreat
open Go Go.Vm

set_option maxHeartbeats 6000000 in
theorem lawFreeToSend_con (nss : Int) (ss : List (Int × Int × Int)) (flc : List (ByteArray × Int × Int × Int × Int)) (inc : List (Int × Int × Bool × List ByteArray)) (wsc : List (Int × List Int)) (hss : ss.length ≤ 9223372036854775807) (hfc : flc.length ≤ 9223372036854775807) (hfsc : ∀ t ∈ flc, t.1.size ≤ 9223372036854775807) (hic : inc.length ≤ 9223372036854775807) (hisc : ∀ t ∈ inc, t.2.2.2.length ≤ 9223372036854775807 ∧ ∀ s ∈ t.2.2.2, s.size ≤ 9223372036854775807) (hwc : wsc.length ≤ 9223372036854775807) (hwsc : ∀ t ∈ wsc, t.2.length ≤ 9223372036854775807) : Con Tryz.prog 5 [.agg [.int .i64 nss, .sl (ss.map (fun t : Int × Int × Int => V.agg [V.int .i64 t.1, V.int .i64 t.2.1, V.int .i64 t.2.2]))], .agg [.sl (flc.map (fun t : ByteArray × Int × Int × Int × Int => V.agg [V.str t.1, V.int .i64 t.2.1, V.int .i64 t.2.2.1, V.int .i64 t.2.2.2.1, V.int .i64 t.2.2.2.2])), .sl (inc.map (fun t : Int × Int × Bool × List ByteArray => V.agg [V.int .i64 t.1, V.int .i64 t.2.1, V.bool t.2.2.1, V.sl (t.2.2.2.map V.str)])), .sl (wsc.map (fun t : Int × List Int => V.agg [V.int .i64 t.1, V.sl (t.2.map (V.int .i64))]))]] [] (.bool true) [] := by
 refine v_con [.tmp 4] [(16, [0]), (17, [0]), (25, [0])] Tryz.func5 rfl rfl rfl (by simp [Tryz.ntmps5]) ?_
 intro Q0 n0 r0
 simp only [Tryz.ntmps5, envFrom, Nat.reduceAdd]
 have T := Tys.mk (And.intro Ty.t3 (And.intro Ty.t4 (And.intro Ty.t9 (And.intro Ty.t22 (And.intro Ty.t24 (And.intro Ty.t25 (And.intro Ty.t26 (And.intro Ty.t27 (And.intro Ty.t29 (And.intro Ty.t32 (And.intro Ty.t35 (And.intro Ty.t37 (And.intro Ty.t39 (And.intro Ty.t40 (And.intro Ty.t41 (And.intro Ty.t43 (And.intro Ty.t54 (And.intro Ty.t69 (And.intro Ty.t71 (And.intro Ty.t89 (And.intro Ty.t95 (And.intro Ty.t97 (And.intro Ty.t99 (And.intro Ty.t106 Ty.t108))))))))))))))))))))))))
 have F := Fc.mk True.intro
 refine v_seqR [2,3] ?_; intro K1 k1
 refine zBox ⟨?_⟩
 refine zBox ⟨?_⟩
 refine zAssign ⟨?_⟩
 refine k1 _ ?_
 refine zk ⟨?_⟩
 refine v_seqR [2,3,5] ?_; intro K2 k2
 refine zAssign ⟨?_⟩
 refine k2 _ ?_
 refine zk ⟨?_⟩
 refine v_seqR [2,3,5] ?_; intro K3 k3
 refine zLoad ⟨?_⟩
 refine zMove ⟨?_⟩
 refine zc (szTown_con nss ss (1048576 : Int) (⟨by omega, by omega⟩ : (0 : Int) ≤ 1048576 ∧ (1048576 : Int) ≤ 1048576) hss) ⟨?_⟩
 refine zAssign ⟨?_⟩
 refine k3 _ ?_
 refine zk ⟨?_⟩
 refine v_seq ?_; intro Q4 n4 e4 r4
 refine v_seqR [2,3,5,21] ?_; intro K5 k5
 refine zMove ⟨?_⟩
 refine zBinOp ⟨?_⟩
 refine k5 _ ?_
 refine zk ⟨?_⟩
 refine v_condS _ rfl ?_ ?_
 ·intro hc0
  refine v_seqR [4] ?_; intro K7 k7
  refine zAssign ⟨?_⟩
  refine k7 _ ?_
  refine zk ⟨?_⟩
  refine v_ret ?_
  refine r4 _ ?_
  refine r0 _ ?_
  refine zf ⟨?_⟩
  exact ret_pure rfl rfl (.inl rfl)
 ·intro hc0
  obtain ⟨bss, q1⟩ := szIf (⟨by omega, by omega⟩ : (0 : Int) ≤ 1048576 ∧ (1048576 : Int) ≤ 1048576).2 hc0
  refine v_skip ?_
  refine n4 _ _ (weak_keep [2, 3, 5] _) ?_
  refine zk ⟨?_⟩
  refine v_seqR [2,3,5] ?_; intro K8 k8
  refine zLoad ⟨?_⟩
  refine zMove ⟨?_⟩
  refine zc (szControl_con (if (1048576 : Int) - (ss.length : Int) < 0 then -1 else (1048576 : Int) - (ss.length : Int)) flc inc wsc q1 hfc hfsc hic hisc hwc hwsc) ⟨?_⟩
  refine zAssign ⟨?_⟩
  refine k8 _ ?_
  refine zk ⟨?_⟩
  refine v_seq ?_; intro Q9 n9 e9 r9
  refine v_seqR [2,3,26] ?_; intro K10 k10
  refine zMove ⟨?_⟩
  refine zBinOp ⟨?_⟩
  refine k10 _ ?_
  refine zk ⟨?_⟩
  refine v_condS _ rfl ?_ ?_
  ·intro hc1
   refine v_seqR [4] ?_; intro K12 k12
   refine zAssign ⟨?_⟩
   refine k12 _ ?_
   refine zk ⟨?_⟩
   refine v_ret ?_
   refine r9 _ ?_
   refine r0 _ ?_
   refine zf ⟨?_⟩
   exact ret_pure rfl rfl (.inl rfl)
  ·intro hc1
   obtain ⟨bfc, bic, binc, bwc, bwnc, q2⟩ := szIfC q1.1 q1.2 hc1
   have tic := totIncident_le binc
   have twc := totWant_le bwnc
   have pic := totIncident_pos inc
   have pwc := totWant_pos wsc
   have hT : (orNil (ctlB nss ss flc inc wsc) (freeTo flc flc.length)).length ≤ 1048576 := orNil_len (Nat.le_trans (free_len2 _ _) bfc)
   have c1 := toTown_con nss ss bss
   have c2 := toControl_con flc inc wsc bfc bic binc bwc bwnc
   have c3 := specFree_con nss ss flc inc wsc bss bfc hfsc bic binc (fun x h => (hisc x h).2) bwc bwnc
   have c4 := implFree_con nss ss flc inc wsc bss bfc hfsc bic binc (fun x h => (hisc x h).2) bwc bwnc
   have c5 := eqStringS_con (orNil (ctlB nss ss flc inc wsc) (freeTo flc flc.length)) (orNil (ctlB nss ss flc inc wsc) (freeTo flc flc.length)) hT
   have c6 := eqTown_con nss ss bss
   have c7 := eqControl_con flc inc wsc bfc bic binc bwc bwnc
   have c8 := markTown_con nss ss (1) bss (by omega)
   have c9 := markControl_con flc inc wsc (1 + 3 * ss.length) bfc bic binc bwc bwnc (by omega)
   have c10 := markStringS_con (orNil (ctlB nss ss flc inc wsc) (freeTo flc flc.length)) (1) hT (by omega)
   have c11 := heldStringS_con (1) (orNil (ctlB nss ss flc inc wsc) (freeTo flc flc.length)).length hT (by omega)
   generalize (markStreet (1) ss.length).map (fun t : Int × Int × Int => V.agg [V.int .i64 t.1, V.int .i64 t.2.1, V.int .i64 t.2.2]) = L1 at c1 c2 c3 c4 c5 c6 c7 c8 c9 c10 c11 ⊢
   generalize (markAppliance (1 + 3 * ss.length) flc.length).map (fun t : ByteArray × Int × Int × Int × Int => V.agg [V.str t.1, V.int .i64 t.2.1, V.int .i64 t.2.2.1, V.int .i64 t.2.2.2.1, V.int .i64 t.2.2.2.2]) = L2 at c1 c2 c3 c4 c5 c6 c7 c8 c9 c10 c11 ⊢
   generalize (markIncidents ((1 + 3 * ss.length) + 5 * flc.length) inc).map (fun t : Int × Int × Bool × List ByteArray => V.agg [V.int .i64 t.1, V.int .i64 t.2.1, V.bool t.2.2.1, V.sl (t.2.2.2.map V.str)]) = L3 at c1 c2 c3 c4 c5 c6 c7 c8 c9 c10 c11 ⊢
   generalize (markWants (((1 + 3 * ss.length) + 5 * flc.length) + totIncident inc) wsc).map (fun t : Int × List Int => V.agg [V.int .i64 t.1, V.sl (t.2.map (V.int .i64))]) = L4 at c1 c2 c3 c4 c5 c6 c7 c8 c9 c10 c11 ⊢
   generalize (markStr (1) (orNil (ctlB nss ss flc inc wsc) (freeTo flc flc.length)).length).map V.str = L5 at c1 c2 c3 c4 c5 c6 c7 c8 c9 c10 c11 ⊢
   generalize ss.map (fun t : Int × Int × Int => V.agg [V.int .i64 t.1, V.int .i64 t.2.1, V.int .i64 t.2.2]) = L6 at c1 c2 c3 c4 c5 c6 c7 c8 c9 c10 c11 ⊢
   generalize flc.map (fun t : ByteArray × Int × Int × Int × Int => V.agg [V.str t.1, V.int .i64 t.2.1, V.int .i64 t.2.2.1, V.int .i64 t.2.2.2.1, V.int .i64 t.2.2.2.2]) = L7 at c1 c2 c3 c4 c5 c6 c7 c8 c9 c10 c11 ⊢
   generalize inc.map (fun t : Int × Int × Bool × List ByteArray => V.agg [V.int .i64 t.1, V.int .i64 t.2.1, V.bool t.2.2.1, V.sl (t.2.2.2.map V.str)]) = L8 at c1 c2 c3 c4 c5 c6 c7 c8 c9 c10 c11 ⊢
   generalize wsc.map (fun t : Int × List Int => V.agg [V.int .i64 t.1, V.sl (t.2.map (V.int .i64))]) = L9 at c1 c2 c3 c4 c5 c6 c7 c8 c9 c10 c11 ⊢
   generalize (orNil (ctlB nss ss flc inc wsc) (freeTo flc flc.length)).map V.str = L10 at c1 c2 c3 c4 c5 c6 c7 c8 c9 c10 c11 ⊢
   refine v_skip ?_
   refine n9 _ _ (weak_keep [2, 3] _) ?_
   refine zk ⟨?_⟩
   refine v_seq ?_; intro Q13 n13 e13 r13
   refine v_draw (by kernel_rfl) ?_; intro K14 q14 k14
   show aAny _ _ _ _ 10 (Array.replicate 10 false) _
   refine zdLoadX q14 true 0 28 ?_
   refine zdLoadX q14 true 2 30 ?_
   refine zoc 1 (c1) ⟨?_⟩
   refine zoc 3 (c2) ⟨?_⟩
   refine zoc 4 (c3) ⟨?_⟩
   refine zdMove q14 true 5 27 ?_
   refine zdExtract q14 true 6 33 ?_
   refine zdExtract q14 true 7 34 ?_
   refine zoAssign 8 ⟨?_⟩
   refine zoAssign 9 ⟨?_⟩
   refine aAny_done (by kernel_rfl) ?_
   refine k14 _ ?_
   refine n13 _ _ (weak_keep [2, 3, 6, 7] _) ?_
   refine zk ⟨?_⟩
   refine v_seqR [2,3,6,7,8] ?_; intro K15 k15
   refine zLoad ⟨?_⟩
   refine zc (c1) ⟨?_⟩
   refine zAlloc ⟨?_⟩
   refine zStore ⟨?_⟩
   refine k15 _ ?_
   refine zk ⟨?_⟩
   refine v_seqR [2,3,6,7,8,9] ?_; intro K16 k16
   refine zLoad ⟨?_⟩
   refine zc (c2) ⟨?_⟩
   refine zAlloc ⟨?_⟩
   refine zStore ⟨?_⟩
   refine k16 _ ?_
   refine zk ⟨?_⟩
   refine v_seqR [2,3,6,7,8,9,10,11] ?_; intro K17 k17
   refine zLoad ⟨?_⟩
   refine zLoad ⟨?_⟩
   refine zc (c4) ⟨?_⟩
   refine zMove ⟨?_⟩
   refine zExtract ⟨?_⟩
   refine zExtract ⟨?_⟩
   refine zAssign ⟨?_⟩
   refine zAssign ⟨?_⟩
   refine k17 _ ?_
   refine zk ⟨?_⟩
   refine v_seq ?_; intro Q18 n18 e18 r18
   refine v_seqR [2,3,6,7,8,9,10,11,53] ?_; intro K19 k19
   refine zMove ⟨?_⟩
   refine zMove ⟨?_⟩
   refine zc (c5) ⟨?_⟩
   refine zUnOp ⟨?_⟩
   refine zMove ⟨?_⟩
   refine zgMove ⟨?_⟩
   refine zgMove ⟨?_⟩
   refine zgBinOp ⟨?_⟩
   refine zPick ⟨?_⟩
   refine k19 _ ?_
   refine zk ⟨?_⟩
   refine v_cond _ rfl ?_ ?_
   ·intro hc2
    exfalso; first | (simp at hc2; done) | (simp at hc2; omega)
   ·intro hc2
    try simp only [zC, reduceCtorEq] at hc2
    refine v_skip ?_
    refine n18 _ _ (weak_keep [2, 3, 6, 7, 8, 9, 10, 11] _) ?_
    refine zk ⟨?_⟩
    refine v_seq ?_; intro Q21 n21 e21 r21
    refine v_seq ?_; intro Q22 n22 e22 r22
    refine v_draw (by kernel_rfl) ?_; intro K23 q23 k23
    show aAny _ _ _ _ 5 (Array.replicate 5 false) _
    refine zdLoadX q23 true 0 54 ?_
    refine zdLoadX q23 true 1 55 ?_
    refine zoc 2 (c1) ⟨?_⟩
    refine zoc 3 (c6) ⟨?_⟩
    refine zdUnOp q23 true 4 58 ?_
    refine aAny_done (by kernel_rfl) ?_
    refine k23 _ ?_
    refine n22 _ _ (weak_keep [2, 3, 6, 7, 8, 9, 10, 11, 58] _) ?_
    refine zk ⟨?_⟩
    refine v_cond _ rfl ?_ ?_
    ·intro hc3
     exfalso; first | (simp at hc3; done) | (simp at hc3; omega)
    ·intro hc3
     try simp only [zC, reduceCtorEq] at hc3
     refine v_skip ?_
     refine n21 _ _ (weak_keep [2, 3, 6, 7, 8, 9, 10, 11] _) ?_
     refine zk ⟨?_⟩
     refine v_seq ?_; intro Q25 n25 e25 r25
     refine v_seq ?_; intro Q26 n26 e26 r26
     refine v_draw (by kernel_rfl) ?_; intro K27 q27 k27
     show aAny _ _ _ _ 5 (Array.replicate 5 false) _
     refine zdLoadX q27 true 0 59 ?_
     refine zdLoadX q27 true 1 60 ?_
     refine zoc 2 (c2) ⟨?_⟩
     refine zoc 3 (c7) ⟨?_⟩
     refine zdUnOp q27 true 4 63 ?_
     refine aAny_done (by kernel_rfl) ?_
     refine k27 _ ?_
     refine n26 _ _ (weak_keep [2, 3, 6, 7, 8, 9, 10, 11, 63] _) ?_
     refine zk ⟨?_⟩
     refine v_cond _ rfl ?_ ?_
     ·intro hc4
      exfalso; first | (simp at hc4; done) | (simp at hc4; omega)
     ·intro hc4
      try simp only [zC, reduceCtorEq] at hc4
      refine v_skip ?_
      refine n25 _ _ (weak_keep [2, 3, 6, 7, 8, 9, 10, 11] _) ?_
      refine zk ⟨?_⟩
      refine v_seqR [2,3,6,7,8,9,10,11,12] ?_; intro K29 k29
      refine zAssign ⟨?_⟩
      refine k29 _ ?_
      refine zk ⟨?_⟩
      refine v_seqR [2,3,6,7,9,10,11,12] ?_; intro K30 k30
      refine zLoad ⟨?_⟩
      refine zMove ⟨?_⟩
      refine zcl (c8) ⟨?_⟩
      refine zAssign ⟨?_⟩
      refine k30 _ ?_
      refine zk ⟨?_⟩
      refine v_seqR [2,3,6,7,10,11,12] ?_; intro K31 k31
      refine zLoad ⟨?_⟩
      refine zMove ⟨?_⟩
      refine zcl3 (c9) ⟨?_⟩
      refine zAssign ⟨?_⟩
      refine k31 _ ?_
      refine zk ⟨?_⟩
      refine v_seq ?_; intro Q32 n32 e32 r32
      refine v_seqR [2,3,6,7,10,82] ?_; intro K33 k33
      refine zMove ⟨?_⟩
      refine zBinOp ⟨?_⟩
      refine zMove ⟨?_⟩
      refine zgMove ⟨?_⟩
      refine zgMove ⟨?_⟩
      refine zgc (c5) ⟨?_⟩
      refine zgUnOp ⟨?_⟩
      refine zPick ⟨?_⟩
      refine zMove ⟨?_⟩
      refine zgMove ⟨?_⟩
      refine zgMove ⟨?_⟩
      refine zgBinOp ⟨?_⟩
      refine zPick ⟨?_⟩
      refine k33 _ ?_
      refine zk ⟨?_⟩
      refine v_cond _ rfl ?_ ?_
      ·intro hc5
       exfalso; first | (simp at hc5; done) | (simp at hc5; omega)
      ·intro hc5
       try simp only [zC, reduceCtorEq] at hc5
       refine v_skip ?_
       refine n32 _ _ (weak_keep [2, 3, 6, 7, 10] _) ?_
       refine zk ⟨?_⟩
       refine v_seqR [2,3,6,7,10,13] ?_; intro K35 k35
       refine zAssign ⟨?_⟩
       refine k35 _ ?_
       refine zk ⟨?_⟩
       refine v_seqR [2,3,6,7,10,13] ?_; intro K36 k36
       refine zMove ⟨?_⟩
       refine zMove ⟨?_⟩
       refine zcl (c10) ⟨?_⟩
       refine zAssign ⟨?_⟩
       refine k36 _ ?_
       refine zk ⟨?_⟩
       refine v_seqR [2,3,6,7,10,13,14] ?_; intro K37 k37
       refine zAssign ⟨?_⟩
       refine k37 _ ?_
       refine zk ⟨?_⟩
       refine v_seqR [2,3,6,7,10,13,14] ?_; intro K38 k38
       refine zMove ⟨?_⟩
       refine zMove ⟨?_⟩
       refine zc (c11) ⟨?_⟩
       refine zAssign ⟨?_⟩
       refine k38 _ ?_
       refine zk ⟨?_⟩
       refine v_seq ?_; intro Q39 n39 e39 r39
       refine v_seqR [2,3,6,7,10,13,14,90] ?_; intro K40 k40
       refine zMove ⟨?_⟩
       refine zBinOp ⟨?_⟩
       refine k40 _ ?_
       refine zk ⟨?_⟩
       refine v_cond _ rfl ?_ ?_
       ·intro hc6
        exfalso; first | (simp at hc6; done) | (simp at hc6; omega)
       ·intro hc6
        try simp only [zC, reduceCtorEq] at hc6
        refine v_skip ?_
        refine n39 _ _ (weak_keep [2, 3, 6, 7, 10, 13, 14] _) ?_
        refine zk ⟨?_⟩
        refine v_seq ?_; intro Q42 n42 e42 r42
        refine v_seqR [2,3,6,7,10,13,93] ?_; intro K43 k43
        refine zMove ⟨?_⟩
        refine zMove ⟨?_⟩
        refine zBinOp ⟨?_⟩
        refine k43 _ ?_
        refine zk ⟨?_⟩
        refine v_cond _ rfl ?_ ?_
        ·intro hc7
         exfalso; first | (simp at hc7; done) | (simp at hc7; omega)
        ·intro hc7
         try simp only [zC, reduceCtorEq] at hc7
         refine v_skip ?_
         refine n42 _ _ (weak_keep [2, 3, 6, 7, 10, 13] _) ?_
         refine zk ⟨?_⟩
         refine v_seq ?_; intro Q45 n45 e45 r45
         refine v_draw (by kernel_rfl) ?_; intro K46 q46 k46
         show aAny _ _ _ _ 10 (Array.replicate 10 false) _
         refine zdLoadX q46 true 0 95 ?_
         refine zdLoadX q46 true 2 97 ?_
         refine zoc 1 (c1) ⟨?_⟩
         refine zoc 3 (c2) ⟨?_⟩
         refine zoc 4 (c4) ⟨?_⟩
         refine zdMove q46 true 5 94 ?_
         refine zdExtract q46 true 6 100 ?_
         refine zdExtract q46 true 7 101 ?_
         refine zoAssign 8 ⟨?_⟩
         refine zoAssign 9 ⟨?_⟩
         refine aAny_done (by kernel_rfl) ?_
         refine k46 _ ?_
         refine n45 _ _ (weak_keep [6, 7, 10, 13, 15, 16] _) ?_
         refine zk ⟨?_⟩
         refine v_seq ?_; intro Q47 n47 e47 r47
         refine v_seqR [10,13,110] ?_; intro K48 k48
         refine zMove ⟨?_⟩
         refine zMove ⟨?_⟩
         refine zc (c5) ⟨?_⟩
         refine zUnOp ⟨?_⟩
         refine zMove ⟨?_⟩
         refine zgMove ⟨?_⟩
         refine zgMove ⟨?_⟩
         refine zgBinOp ⟨?_⟩
         refine zPick ⟨?_⟩
         refine k48 _ ?_
         refine zk ⟨?_⟩
         refine v_cond _ rfl ?_ ?_
         ·intro hc8
          exfalso; first | (simp at hc8; done) | (simp at hc8; omega)
         ·intro hc8
          try simp only [zC, reduceCtorEq] at hc8
          refine v_skip ?_
          refine n47 _ _ (weak_keep [10, 13] _) ?_
          refine zk ⟨?_⟩
          refine v_seqR [10,13,14] ?_; intro K50 k50
          refine zAssign ⟨?_⟩
          refine k50 _ ?_
          refine zk ⟨?_⟩
          refine v_seqR [13,14] ?_; intro K51 k51
          refine zMove ⟨?_⟩
          refine zMove ⟨?_⟩
          refine zc (c11) ⟨?_⟩
          refine zAssign ⟨?_⟩
          refine k51 _ ?_
          refine zk ⟨?_⟩
          refine v_seq ?_; intro Q52 n52 e52 r52
          refine v_seqR [13,14,115] ?_; intro K53 k53
          refine zMove ⟨?_⟩
          refine zBinOp ⟨?_⟩
          refine k53 _ ?_
          refine zk ⟨?_⟩
          refine v_cond _ rfl ?_ ?_
          ·intro hc9
           exfalso; first | (simp at hc9; done) | (simp at hc9; omega)
          ·intro hc9
           try simp only [zC, reduceCtorEq] at hc9
           refine v_skip ?_
           refine n52 _ _ (weak_keep [13, 14] _) ?_
           refine zk ⟨?_⟩
           refine v_seq ?_; intro Q55 n55 e55 r55
           refine v_seqR [118] ?_; intro K56 k56
           refine zMove ⟨?_⟩
           refine zMove ⟨?_⟩
           refine zBinOp ⟨?_⟩
           refine k56 _ ?_
           refine zk ⟨?_⟩
           refine v_cond _ rfl ?_ ?_
           ·intro hc10
            exfalso; first | (simp at hc10; done) | (simp at hc10; omega)
           ·intro hc10
            try simp only [zC, reduceCtorEq] at hc10
            refine v_skip ?_
            refine n55 _ _ (weak_keep [] _) ?_
            refine zk ⟨?_⟩
            refine v_seqR [4] ?_; intro K58 k58
            refine zAssign ⟨?_⟩
            refine k58 _ ?_
            refine zk ⟨?_⟩
            refine v_ret ?_
            refine r0 _ ?_
            refine zf ⟨?_⟩
            exact ret_pure rfl rfl (.inl rfl)
theorem statesL_len {fl : List (ByteArray × Int × Int × Int × Int)} {ins : List (Int × Int × Bool × List ByteArray)} {m : Int} {n : Nat} (h : ∀ x ∈ ins, x.2.2.2.length ≤ n) : (statesL fl ins m).length ≤ n := by
  rw [statesL, List.length_map, namesAt]
  split
  · rename_i x hx; exact h x (List.mem_of_getElem? hx)
  · exact Nat.zero_le _

end Go.Proofs.YtdgenniiidgimaaGreat
