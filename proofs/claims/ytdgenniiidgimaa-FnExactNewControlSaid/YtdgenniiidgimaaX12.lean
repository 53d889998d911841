/- What functions compute. No condition. -/
import Derived.Test.YtdgenniiidgimaaUty
import Derived.Test.YtdgenniiidgimaaUmG
import Derived.Test.YtdgenniiidgimaaX10
import Derived.Test.YtdgenniiidgimaaX9
import Derived.Test.YtdgenniiidgimaaX2
import Derived.Test.YtdgenniiidgimaaX4
import Derived.Test.YtdgenniiidgimaaX3
import Derived.Test.YtdgenniiidgimaaX7
import Derived.Test.YtdgenniiidgimaaX8
import Derived.Test.YtdgenniiidgimaaX11
set_option linter.unusedSimpArgs false
set_option linter.unusedVariables false
set_option linter.defProp false
namespace Go.Proofs.Ytdgenniiidgimaa
open Go Go.Vm

set_option maxHeartbeats 6000000 in
theorem lawNewControl_con (nss : Int) (ss : List (Int × Int × Int)) (fl : List (ByteArray × Int × Int × Int × Int)) (hss : ss.length ≤ 9223372036854775807) (hfl : fl.length ≤ 9223372036854775807) (hsfl : ∀ t ∈ fl, t.1.size ≤ 9223372036854775807) : Con Try.prog 6 [.agg [.int .i64 nss, .sl (ss.map (fun t : Int × Int × Int => V.agg [V.int .i64 t.1, V.int .i64 t.2.1, V.int .i64 t.2.2]))], .sl (fl.map (fun t : ByteArray × Int × Int × Int × Int => V.agg [V.str t.1, V.int .i64 t.2.1, V.int .i64 t.2.2.1, V.int .i64 t.2.2.2.1, V.int .i64 t.2.2.2.2]))] [] (.bool true) [] := by
 refine v_con [.tmp 4] [(50, [0]), (51, [0]), (57, [0])] Try.func6 rfl rfl rfl (by simp [Try.ntmps6]) ?_
 intro Q0 n0 r0
 simp only [Try.ntmps6, envFrom, Nat.reduceAdd]
 have T := Tys.mk (And.intro Ty.t3 (And.intro Ty.t4 (And.intro Ty.t9 (And.intro Ty.t26 (And.intro Ty.t61 (And.intro Ty.t63 (And.intro Ty.t64 (And.intro Ty.t70 (And.intro Ty.t72 (And.intro Ty.t74 (And.intro Ty.t84 (And.intro Ty.t85 (And.intro Ty.t87 (And.intro Ty.t93 (And.intro Ty.t133 (And.intro Ty.t141 (And.intro Ty.t182 (And.intro Ty.t184 (And.intro Ty.t192 Ty.t195)))))))))))))))))))
 have F := Fc.mk True.intro
 refine v_seqR [1,2] ?_; intro K1 k1
 refine zBox ⟨?_⟩
 refine zAssign ⟨?_⟩
 refine k1 _ ?_
 refine zk ⟨?_⟩
 refine v_seqR [1,2,5] ?_; intro K2 k2
 refine zAssign ⟨?_⟩
 refine k2 _ ?_
 refine zk ⟨?_⟩
 refine v_seqR [1,2,5] ?_; intro K3 k3
 refine zLoad ⟨?_⟩
 refine zMove ⟨?_⟩
 refine zc (szTown_con nss ss (1048576 : Int) (⟨by omega, by omega⟩ : (0 : Int) ≤ 1048576 ∧ (1048576 : Int) ≤ 1048576) hss) ⟨?_⟩
 refine zAssign ⟨?_⟩
 refine k3 _ ?_
 refine zk ⟨?_⟩
 refine v_seq ?_; intro Q4 n4 e4 r4
 refine v_seqR [1,2,5,21] ?_; intro K5 k5
 refine zMove ⟨?_⟩
 refine zBinOp ⟨?_⟩
 refine k5 _ ?_
 refine zk ⟨?_⟩
 refine v_condS _ rfl ?_ ?_
 ·intro hc0
  refine v_seqR [4] ?_; intro K7 k7
  refine zAssign ⟨?_⟩
  refine k7 _ ?_
  refine zk ⟨?_⟩
  refine v_ret ?_
  refine r4 _ ?_
  refine r0 _ ?_
  refine zf ⟨?_⟩
  exact ret_pure rfl rfl (.inl rfl)
 ·intro hc0
  obtain ⟨bss, q1⟩ := szIf (⟨by omega, by omega⟩ : (0 : Int) ≤ 1048576 ∧ (1048576 : Int) ≤ 1048576).2 hc0
  refine v_skip ?_
  refine n4 _ _ (weak_keep [1, 2, 5] _) ?_
  refine zk ⟨?_⟩
  refine v_seqR [1,2,5] ?_; intro K8 k8
  refine zMove ⟨?_⟩
  refine zMove ⟨?_⟩
  refine zc (szApplianceS_con (if (1048576 : Int) - (ss.length : Int) < 0 then -1 else (1048576 : Int) - (ss.length : Int)) fl q1 hfl hsfl) ⟨?_⟩
  refine zAssign ⟨?_⟩
  refine k8 _ ?_
  refine zk ⟨?_⟩
  refine v_seq ?_; intro Q9 n9 e9 r9
  refine v_seqR [1,2,26] ?_; intro K10 k10
  refine zMove ⟨?_⟩
  refine zBinOp ⟨?_⟩
  refine k10 _ ?_
  refine zk ⟨?_⟩
  refine v_condS _ rfl ?_ ?_
  ·intro hc1
   refine v_seqR [4] ?_; intro K12 k12
   refine zAssign ⟨?_⟩
   refine k12 _ ?_
   refine zk ⟨?_⟩
   refine v_ret ?_
   refine r9 _ ?_
   refine r0 _ ?_
   refine zf ⟨?_⟩
   exact ret_pure rfl rfl (.inl rfl)
  ·intro hc1
   obtain ⟨bfl, q2⟩ := szIfL (f := szAppliance1) szAppliance1_le q1.1 q1.2 hc1
   have tn1 : totIncident [] = 0 := rfl
   have tn2 : totWant [] = 0 := rfl
   have c1 := toTown_con nss ss bss
   have c2 := toApplianceS_con fl bfl
   have c3 := specNew_con nss ss fl bss bfl hsfl
   have c4 := implNew_con nss ss fl bss bfl hsfl
   have c5 := eqControl_con (orNil (ctlB nss ss fl [] []) fl) [] [] (orNil_len bfl) (Nat.zero_le _) (by simp) (Nat.zero_le _) (by simp)
   have c6 := eqTown_con nss ss bss
   have c7 := eqApplianceS_con fl fl bfl
   have c8 := markTown_con nss ss (1) bss (by omega)
   have c9 := markApplianceS_con fl (1 + 3 * ss.length) bfl (by omega)
   have c10 := markControl_con (orNil (ctlB nss ss fl [] []) fl) [] [] (1) (orNil_len bfl) (Nat.zero_le _) (by simp) (Nat.zero_le _) (by simp) (by omega)
   have c11 := heldControl_con (orNil (ctlB nss ss fl [] []) fl) [] [] (1) (orNil_len bfl) (Nat.zero_le _) (by simp) (Nat.zero_le _) (by simp) (by omega)
   generalize (markStreet (1) ss.length).map (fun t : Int × Int × Int => V.agg [V.int .i64 t.1, V.int .i64 t.2.1, V.int .i64 t.2.2]) = L1 at c1 c2 c3 c4 c5 c6 c7 c8 c9 c10 c11 ⊢
   generalize (markAppliance (1 + 3 * ss.length) fl.length).map (fun t : ByteArray × Int × Int × Int × Int => V.agg [V.str t.1, V.int .i64 t.2.1, V.int .i64 t.2.2.1, V.int .i64 t.2.2.2.1, V.int .i64 t.2.2.2.2]) = L2 at c1 c2 c3 c4 c5 c6 c7 c8 c9 c10 c11 ⊢
   generalize (markAppliance (1) (orNil (ctlB nss ss fl [] []) fl).length).map (fun t : ByteArray × Int × Int × Int × Int => V.agg [V.str t.1, V.int .i64 t.2.1, V.int .i64 t.2.2.1, V.int .i64 t.2.2.2.1, V.int .i64 t.2.2.2.2]) = L3 at c1 c2 c3 c4 c5 c6 c7 c8 c9 c10 c11 ⊢
   generalize ss.map (fun t : Int × Int × Int => V.agg [V.int .i64 t.1, V.int .i64 t.2.1, V.int .i64 t.2.2]) = L4 at c1 c2 c3 c4 c5 c6 c7 c8 c9 c10 c11 ⊢
   generalize fl.map (fun t : ByteArray × Int × Int × Int × Int => V.agg [V.str t.1, V.int .i64 t.2.1, V.int .i64 t.2.2.1, V.int .i64 t.2.2.2.1, V.int .i64 t.2.2.2.2]) = L5 at c1 c2 c3 c4 c5 c6 c7 c8 c9 c10 c11 ⊢
   generalize (orNil (ctlB nss ss fl [] []) fl).map (fun t : ByteArray × Int × Int × Int × Int => V.agg [V.str t.1, V.int .i64 t.2.1, V.int .i64 t.2.2.1, V.int .i64 t.2.2.2.1, V.int .i64 t.2.2.2.2]) = L6 at c1 c2 c3 c4 c5 c6 c7 c8 c9 c10 c11 ⊢
   refine v_skip ?_
   refine n9 _ _ (weak_keep [1, 2] _) ?_
   refine zk ⟨?_⟩
   refine v_seqR [1,2,6,7] ?_; intro K13 k13
   refine zLoad ⟨?_⟩
   refine zc (c1) ⟨?_⟩
   refine zMove ⟨?_⟩
   refine zc (c2) ⟨?_⟩
   refine zc (c3) ⟨?_⟩
   refine zMove ⟨?_⟩
   refine zExtract ⟨?_⟩
   refine zExtract ⟨?_⟩
   refine zAlloc ⟨?_⟩
   refine zStore ⟨?_⟩
   refine zAssign ⟨?_⟩
   refine k13 _ ?_
   refine zk ⟨?_⟩
   refine v_seqR [1,2,6,7,8] ?_; intro K14 k14
   refine zLoad ⟨?_⟩
   refine zc (c1) ⟨?_⟩
   refine zAlloc ⟨?_⟩
   refine zStore ⟨?_⟩
   refine k14 _ ?_
   refine zk ⟨?_⟩
   refine v_seqR [1,2,6,7,8,9] ?_; intro K15 k15
   refine zMove ⟨?_⟩
   refine zc (c2) ⟨?_⟩
   refine zAssign ⟨?_⟩
   refine k15 _ ?_
   refine zk ⟨?_⟩
   refine v_seqR [1,2,6,7,8,9,10,11] ?_; intro K16 k16
   refine zLoad ⟨?_⟩
   refine zMove ⟨?_⟩
   refine zc (c4) ⟨?_⟩
   refine zMove ⟨?_⟩
   refine zExtract ⟨?_⟩
   refine zExtract ⟨?_⟩
   refine zAlloc ⟨?_⟩
   refine zStore ⟨?_⟩
   refine zAssign ⟨?_⟩
   refine k16 _ ?_
   refine zk ⟨?_⟩
   refine v_seq ?_; intro Q17 n17 e17 r17
   refine v_seqR [1,2,6,7,8,9,10,11,53] ?_; intro K18 k18
   refine zLoad ⟨?_⟩
   refine zLoad ⟨?_⟩
   refine zc (c5) ⟨?_⟩
   refine zUnOp ⟨?_⟩
   refine zMove ⟨?_⟩
   refine zgMove ⟨?_⟩
   refine zgMove ⟨?_⟩
   refine zgBinOp ⟨?_⟩
   refine zPick ⟨?_⟩
   refine k18 _ ?_
   refine zk ⟨?_⟩
   refine v_cond _ rfl ?_ ?_
   ·intro hc2
    exfalso; first | (simp at hc2; done) | (simp at hc2; omega)
   ·intro hc2
    try simp only [zC, reduceCtorEq] at hc2
    refine v_skip ?_
    refine n17 _ _ (weak_keep [1, 2, 6, 7, 8, 9, 10, 11] _) ?_
    refine zk ⟨?_⟩
    refine v_seq ?_; intro Q20 n20 e20 r20
    refine v_seq ?_; intro Q21 n21 e21 r21
    refine v_draw (by kernel_rfl) ?_; intro K22 q22 k22
    show aAny _ _ _ _ 5 (Array.replicate 5 false) _
    refine zdLoadX q22 true 0 54 ?_
    refine zdLoadX q22 true 1 55 ?_
    refine zoc 2 (c1) ⟨?_⟩
    refine zoc 3 (c6) ⟨?_⟩
    refine zdUnOp q22 true 4 58 ?_
    refine aAny_done (by kernel_rfl) ?_
    refine k22 _ ?_
    refine n21 _ _ (weak_keep [1, 2, 6, 7, 8, 9, 10, 11, 58] _) ?_
    refine zk ⟨?_⟩
    refine v_cond _ rfl ?_ ?_
    ·intro hc3
     exfalso; first | (simp at hc3; done) | (simp at hc3; omega)
    ·intro hc3
     try simp only [zC, reduceCtorEq] at hc3
     refine v_skip ?_
     refine n20 _ _ (weak_keep [1, 2, 6, 7, 8, 9, 10, 11] _) ?_
     refine zk ⟨?_⟩
     refine v_seq ?_; intro Q24 n24 e24 r24
     refine v_seqR [1,2,6,7,8,9,10,11,63] ?_; intro K25 k25
     refine zMove ⟨?_⟩
     refine zMove ⟨?_⟩
     refine zc (c2) ⟨?_⟩
     refine zc (c7) ⟨?_⟩
     refine zUnOp ⟨?_⟩
     refine k25 _ ?_
     refine zk ⟨?_⟩
     refine v_cond _ rfl ?_ ?_
     ·intro hc4
      exfalso; first | (simp at hc4; done) | (simp at hc4; omega)
     ·intro hc4
      try simp only [zC, reduceCtorEq] at hc4
      refine v_skip ?_
      refine n24 _ _ (weak_keep [1, 2, 6, 7, 8, 9, 10, 11] _) ?_
      refine zk ⟨?_⟩
      refine v_seqR [1,2,6,7,8,9,10,11,12] ?_; intro K27 k27
      refine zAssign ⟨?_⟩
      refine k27 _ ?_
      refine zk ⟨?_⟩
      refine v_seqR [1,2,6,7,9,10,11,12] ?_; intro K28 k28
      refine zLoad ⟨?_⟩
      refine zMove ⟨?_⟩
      refine zcl (c8) ⟨?_⟩
      refine zAssign ⟨?_⟩
      refine k28 _ ?_
      refine zk ⟨?_⟩
      refine v_seqR [1,2,6,7,10,11,12] ?_; intro K29 k29
      refine zMove ⟨?_⟩
      refine zMove ⟨?_⟩
      refine zcl (c9) ⟨?_⟩
      refine zAssign ⟨?_⟩
      refine k29 _ ?_
      refine zk ⟨?_⟩
      refine v_seq ?_; intro Q30 n30 e30 r30
      refine v_seqR [1,2,6,7,10,82] ?_; intro K31 k31
      refine zMove ⟨?_⟩
      refine zBinOp ⟨?_⟩
      refine zMove ⟨?_⟩
      refine zgLoad ⟨?_⟩
      refine zgLoad ⟨?_⟩
      refine zgc (c5) ⟨?_⟩
      refine zgUnOp ⟨?_⟩
      refine zPick ⟨?_⟩
      refine zMove ⟨?_⟩
      refine zgMove ⟨?_⟩
      refine zgMove ⟨?_⟩
      refine zgBinOp ⟨?_⟩
      refine zPick ⟨?_⟩
      refine k31 _ ?_
      refine zk ⟨?_⟩
      refine v_cond _ rfl ?_ ?_
      ·intro hc5
       exfalso; first | (simp at hc5; done) | (simp at hc5; omega)
      ·intro hc5
       try simp only [zC, reduceCtorEq] at hc5
       refine v_skip ?_
       refine n30 _ _ (weak_keep [1, 2, 6, 7, 10] _) ?_
       refine zk ⟨?_⟩
       refine v_seqR [1,2,6,7,10,13] ?_; intro K33 k33
       refine zAssign ⟨?_⟩
       refine k33 _ ?_
       refine zk ⟨?_⟩
       refine v_seqR [1,2,6,7,10,13] ?_; intro K34 k34
       refine zLoad ⟨?_⟩
       refine zMove ⟨?_⟩
       refine zcl3 (c10) ⟨?_⟩
       refine zAssign ⟨?_⟩
       refine k34 _ ?_
       refine zk ⟨?_⟩
       refine v_seqR [1,2,6,7,10,13,14] ?_; intro K35 k35
       refine zAssign ⟨?_⟩
       refine k35 _ ?_
       refine zk ⟨?_⟩
       refine v_seqR [1,2,6,7,10,13,14] ?_; intro K36 k36
       refine zLoad ⟨?_⟩
       refine zMove ⟨?_⟩
       refine zc (c11) ⟨?_⟩
       refine zAssign ⟨?_⟩
       refine k36 _ ?_
       refine zk ⟨?_⟩
       refine v_seq ?_; intro Q37 n37 e37 r37
       refine v_seqR [1,2,6,7,10,13,14,90] ?_; intro K38 k38
       refine zMove ⟨?_⟩
       refine zBinOp ⟨?_⟩
       refine k38 _ ?_
       refine zk ⟨?_⟩
       refine v_cond _ rfl ?_ ?_
       ·intro hc6
        exfalso; first | (simp at hc6; done) | (simp at hc6; omega)
       ·intro hc6
        try simp only [zC, reduceCtorEq] at hc6
        refine v_skip ?_
        refine n37 _ _ (weak_keep [1, 2, 6, 7, 10, 13, 14] _) ?_
        refine zk ⟨?_⟩
        refine v_seq ?_; intro Q40 n40 e40 r40
        refine v_seqR [1,2,6,7,10,13,93] ?_; intro K41 k41
        refine zMove ⟨?_⟩
        refine zMove ⟨?_⟩
        refine zBinOp ⟨?_⟩
        refine k41 _ ?_
        refine zk ⟨?_⟩
        refine v_cond _ rfl ?_ ?_
        ·intro hc7
         exfalso; first | (simp at hc7; done) | (simp at hc7; omega)
        ·intro hc7
         try simp only [zC, reduceCtorEq] at hc7
         refine v_skip ?_
         refine n40 _ _ (weak_keep [1, 2, 6, 7, 10, 13] _) ?_
         refine zk ⟨?_⟩
         refine v_seqR [6,7,10,13,15,16] ?_; intro K43 k43
         refine zLoad ⟨?_⟩
         refine zc (c1) ⟨?_⟩
         refine zMove ⟨?_⟩
         refine zc (c2) ⟨?_⟩
         refine zc (c4) ⟨?_⟩
         refine zMove ⟨?_⟩
         refine zExtract ⟨?_⟩
         refine zExtract ⟨?_⟩
         refine zAlloc ⟨?_⟩
         refine zStore ⟨?_⟩
         refine zAssign ⟨?_⟩
         refine k43 _ ?_
         refine zk ⟨?_⟩
         refine v_seq ?_; intro Q44 n44 e44 r44
         refine v_seqR [10,13,110] ?_; intro K45 k45
         refine zLoad ⟨?_⟩
         refine zLoad ⟨?_⟩
         refine zc (c5) ⟨?_⟩
         refine zUnOp ⟨?_⟩
         refine zMove ⟨?_⟩
         refine zgMove ⟨?_⟩
         refine zgMove ⟨?_⟩
         refine zgBinOp ⟨?_⟩
         refine zPick ⟨?_⟩
         refine k45 _ ?_
         refine zk ⟨?_⟩
         refine v_cond _ rfl ?_ ?_
         ·intro hc8
          exfalso; first | (simp at hc8; done) | (simp at hc8; omega)
         ·intro hc8
          try simp only [zC, reduceCtorEq] at hc8
          refine v_skip ?_
          refine n44 _ _ (weak_keep [10, 13] _) ?_
          refine zk ⟨?_⟩
          refine v_seqR [10,13,14] ?_; intro K47 k47
          refine zAssign ⟨?_⟩
          refine k47 _ ?_
          refine zk ⟨?_⟩
          refine v_seqR [13,14] ?_; intro K48 k48
          refine zLoad ⟨?_⟩
          refine zMove ⟨?_⟩
          refine zc (c11) ⟨?_⟩
          refine zAssign ⟨?_⟩
          refine k48 _ ?_
          refine zk ⟨?_⟩
          refine v_seq ?_; intro Q49 n49 e49 r49
          refine v_seqR [13,14,115] ?_; intro K50 k50
          refine zMove ⟨?_⟩
          refine zBinOp ⟨?_⟩
          refine k50 _ ?_
          refine zk ⟨?_⟩
          refine v_cond _ rfl ?_ ?_
          ·intro hc9
           exfalso; first | (simp at hc9; done) | (simp at hc9; omega)
          ·intro hc9
           try simp only [zC, reduceCtorEq] at hc9
           refine v_skip ?_
           refine n49 _ _ (weak_keep [13, 14] _) ?_
           refine zk ⟨?_⟩
           refine v_seq ?_; intro Q52 n52 e52 r52
           refine v_seqR [118] ?_; intro K53 k53
           refine zMove ⟨?_⟩
           refine zMove ⟨?_⟩
           refine zBinOp ⟨?_⟩
           refine k53 _ ?_
           refine zk ⟨?_⟩
           refine v_cond _ rfl ?_ ?_
           ·intro hc10
            exfalso; first | (simp at hc10; done) | (simp at hc10; omega)
           ·intro hc10
            try simp only [zC, reduceCtorEq] at hc10
            refine v_skip ?_
            refine n52 _ _ (weak_keep [] _) ?_
            refine zk ⟨?_⟩
            refine v_seqR [4] ?_; intro K55 k55
            refine zAssign ⟨?_⟩
            refine k55 _ ?_
            refine zk ⟨?_⟩
            refine v_ret ?_
            refine r0 _ ?_
            refine zf ⟨?_⟩
            exact ret_pure rfl rfl (.inl rfl)
end Go.Proofs.Ytdgenniiidgimaa
