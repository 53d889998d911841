/- What functions compute (LawExtraSeconds). No condition. -/
import Derived.Test.YtdgenniiidgimaaTy
import Derived.Test.YtdgenniiidgimaaVmG
import Derived.Test.YtdgenniiidgimaaWLawK
import Derived.Test.YtdgenniiidgimaaWTown2
import Derived.Test.YtdgenniiidgimaaWZAppliance
import Derived.Test.YtdgenniiidgimaaWInts
import Derived.Test.YtdgenniiidgimaaWStrs
import Derived.Test.YtdgenniiidgimaaWTAppliance
import Derived.Test.YtdgenniiidgimaaWCopies
import Derived.Test.YtdgenniiidgimaaWEAppliance
import Derived.Test.YtdgenniiidgimaaWMarks
import Derived.Test.YtdgenniiidgimaaWExtra
set_option linter.unusedSimpArgs false
set_option linter.unusedVariables false
set_option linter.defProp false
namespace Go.Proofs.Ytdgenniiidgimaa
open Go Go.Vm

set_option maxHeartbeats 6000000 in
theorem lawExtraSeconds_con (nss : Int) (ss : List (Int × Int × Int)) (fl : List (ByteArray × Int × Int × Int × Int)) (node : Int) (need : List Int) (names : List ByteArray) (hss : ss.length ≤ 9223372036854775807) (hfl : fl.length ≤ 9223372036854775807) (hsfl : ∀ t ∈ fl, t.1.size ≤ 9223372036854775807) (hneed : need.length ≤ 9223372036854775807) (hnames : names.length ≤ 9223372036854775807) (hsnames : ∀ s ∈ names, s.size ≤ 9223372036854775807) : Con Try.prog 9 [.agg [.int .i64 nss, .sl (ss.map (fun t : Int × Int × Int => V.agg [V.int .i64 t.1, V.int .i64 t.2.1, V.int .i64 t.2.2]))], .sl (fl.map (fun t : ByteArray × Int × Int × Int × Int => V.agg [V.str t.1, V.int .i64 t.2.1, V.int .i64 t.2.2.1, V.int .i64 t.2.2.2.1, V.int .i64 t.2.2.2.2])), .int .i64 node, .sl (need.map (V.int .i64)), .sl (names.map V.str)] [] (.bool true) [] := by
 refine v_con [.tmp 10] [] Try.func9 rfl rfl rfl (by simp [Try.ntmps9]) ?_
 intro Q0 n0 r0
 simp only [Try.ntmps9, envFrom, Nat.reduceAdd]
 have T := Tys.mk (And.intro Ty.t3 (And.intro Ty.t4 (And.intro Ty.t9 (And.intro Ty.t26 (And.intro Ty.t61 (And.intro Ty.t63 (And.intro Ty.t64 (And.intro Ty.t70 (And.intro Ty.t72 (And.intro Ty.t74 (And.intro Ty.t93 (And.intro Ty.t133 (And.intro Ty.t141 (And.intro Ty.t182 Ty.t184))))))))))))))
 have F := Fc.mk True.intro
 refine v_seq ?_; intro Q1 n1 e1 r1
 refine v_region ?_; intro K2 k2
 refine zBox ⟨?_⟩
 refine zAssign ⟨?_⟩
 refine k2 _ ?_
 refine n1 _ _ (weak_keep [1, 2, 3, 4, 5] _) ?_
 refine zk ⟨?_⟩
 refine v_seq ?_; intro Q3 n3 e3 r3
 refine v_seq ?_; intro Q4 n4 e4 r4
 refine v_region ?_; intro K5 k5
 refine zMove ⟨?_⟩
 refine zLen ⟨?_⟩
 refine zBinOp ⟨?_⟩
 refine k5 _ ?_
 refine n4 _ _ (weak_keep [1, 2, 3, 4, 5, 22] _) ?_
 refine zk ⟨?_⟩
 refine v_condS _ rfl ?_ ?_
 ·intro hc0
  refine v_seq ?_; intro Q7 n7 e7 r7
  refine v_region ?_; intro K8 k8
  refine zAssign ⟨?_⟩
  refine k8 _ ?_
  refine n7 _ _ (weak_keep [10] _) ?_
  refine zk ⟨?_⟩
  refine v_ret ?_
  refine r3 _ ?_
  refine r0 _ ?_
  refine zf ⟨?_⟩
  exact ret_pure rfl rfl (.inl rfl)
 ·intro hc0
  have bneed : need.length ≤ 1048576 := by omega
  refine v_skip ?_
  refine n3 _ _ (weak_keep [1, 2, 3, 4, 5] _) ?_
  refine zk ⟨?_⟩
  refine v_seq ?_; intro Q9 n9 e9 r9
  refine v_region ?_; intro K10 k10
  refine zAssign ⟨?_⟩
  refine k10 _ ?_
  refine n9 _ _ (weak_keep [1, 2, 3, 4, 5, 11] _) ?_
  refine zk ⟨?_⟩
  refine v_seq ?_; intro Q11 n11 e11 r11
  refine v_region ?_; intro K12 k12
  refine zLoad ⟨?_⟩
  refine zMove ⟨?_⟩
  refine zc (szTown_con nss ss (1048576 : Int) (⟨by omega, by omega⟩ : (0 : Int) ≤ 1048576 ∧ (1048576 : Int) ≤ 1048576) hss) ⟨?_⟩
  refine zAssign ⟨?_⟩
  refine k12 _ ?_
  refine n11 _ _ (weak_keep [1, 2, 3, 4, 5, 11] _) ?_
  refine zk ⟨?_⟩
  refine v_seq ?_; intro Q13 n13 e13 r13
  refine v_seq ?_; intro Q14 n14 e14 r14
  refine v_region ?_; intro K15 k15
  refine zMove ⟨?_⟩
  refine zBinOp ⟨?_⟩
  refine k15 _ ?_
  refine n14 _ _ (weak_keep [1, 2, 3, 4, 5, 11, 27] _) ?_
  refine zk ⟨?_⟩
  refine v_condS _ rfl ?_ ?_
  ·intro hc1
   refine v_seq ?_; intro Q17 n17 e17 r17
   refine v_region ?_; intro K18 k18
   refine zAssign ⟨?_⟩
   refine k18 _ ?_
   refine n17 _ _ (weak_keep [10] _) ?_
   refine zk ⟨?_⟩
   refine v_ret ?_
   refine r13 _ ?_
   refine r0 _ ?_
   refine zf ⟨?_⟩
   exact ret_pure rfl rfl (.inl rfl)
  ·intro hc1
   obtain ⟨bss, q1⟩ := szIf (⟨by omega, by omega⟩ : (0 : Int) ≤ 1048576 ∧ (1048576 : Int) ≤ 1048576).2 hc1
   refine v_skip ?_
   refine n13 _ _ (weak_keep [1, 2, 3, 4, 5, 11] _) ?_
   refine zk ⟨?_⟩
   refine v_seq ?_; intro Q19 n19 e19 r19
   refine v_region ?_; intro K20 k20
   refine zMove ⟨?_⟩
   refine zMove ⟨?_⟩
   refine zc (szApplianceS_con (if (1048576 : Int) - (ss.length : Int) < 0 then -1 else (1048576 : Int) - (ss.length : Int)) fl q1 hfl hsfl) ⟨?_⟩
   refine zAssign ⟨?_⟩
   refine k20 _ ?_
   refine n19 _ _ (weak_keep [1, 2, 3, 4, 5, 11] _) ?_
   refine zk ⟨?_⟩
   refine v_seq ?_; intro Q21 n21 e21 r21
   refine v_seq ?_; intro Q22 n22 e22 r22
   refine v_region ?_; intro K23 k23
   refine zMove ⟨?_⟩
   refine zBinOp ⟨?_⟩
   refine k23 _ ?_
   refine n22 _ _ (weak_keep [1, 2, 3, 4, 5, 11, 32] _) ?_
   refine zk ⟨?_⟩
   refine v_condS _ rfl ?_ ?_
   ·intro hc2
    refine v_seq ?_; intro Q25 n25 e25 r25
    refine v_region ?_; intro K26 k26
    refine zAssign ⟨?_⟩
    refine k26 _ ?_
    refine n25 _ _ (weak_keep [10] _) ?_
    refine zk ⟨?_⟩
    refine v_ret ?_
    refine r21 _ ?_
    refine r0 _ ?_
    refine zf ⟨?_⟩
    exact ret_pure rfl rfl (.inl rfl)
   ·intro hc2
    obtain ⟨bfl, q2⟩ := szIfL (f := szAppliance1) szAppliance1_le q1.1 q1.2 hc2
    refine v_skip ?_
    refine n21 _ _ (weak_keep [1, 2, 3, 4, 5, 11] _) ?_
    refine zk ⟨?_⟩
    refine v_seq ?_; intro Q27 n27 e27 r27
    refine v_region ?_; intro K28 k28
    refine zMove ⟨?_⟩
    refine zMove ⟨?_⟩
    refine zc (szStringS_con (if (if (1048576 : Int) - (ss.length : Int) < 0 then -1 else (1048576 : Int) - (ss.length : Int)) - (fl.length : Int) < 0 then -1 else szLst szAppliance1 ((if (1048576 : Int) - (ss.length : Int) < 0 then -1 else (1048576 : Int) - (ss.length : Int)) - (fl.length : Int)) fl) names q2 hnames hsnames) ⟨?_⟩
    refine zAssign ⟨?_⟩
    refine k28 _ ?_
    refine n27 _ _ (weak_keep [1, 2, 3, 4, 5, 11] _) ?_
    refine zk ⟨?_⟩
    refine v_seq ?_; intro Q29 n29 e29 r29
    refine v_seq ?_; intro Q30 n30 e30 r30
    refine v_region ?_; intro K31 k31
    refine zMove ⟨?_⟩
    refine zBinOp ⟨?_⟩
    refine k31 _ ?_
    refine n30 _ _ (weak_keep [1, 2, 3, 4, 5, 37] _) ?_
    refine zk ⟨?_⟩
    refine v_condS _ rfl ?_ ?_
    ·intro hc3
     refine v_seq ?_; intro Q33 n33 e33 r33
     refine v_region ?_; intro K34 k34
     refine zAssign ⟨?_⟩
     refine k34 _ ?_
     refine n33 _ _ (weak_keep [10] _) ?_
     refine zk ⟨?_⟩
     refine v_ret ?_
     refine r29 _ ?_
     refine r0 _ ?_
     refine zf ⟨?_⟩
     exact ret_pure rfl rfl (.inl rfl)
    ·intro hc3
     obtain ⟨bnames, q3⟩ := szIfL (f := szStr1) szStr1_le q2.1 q2.2 hc3
     refine v_skip ?_
     refine n29 _ _ (weak_keep [1, 2, 3, 4, 5] _) ?_
     refine zk ⟨?_⟩
     refine v_seq ?_; intro Q35 n35 e35 r35
     refine v_region ?_; intro K36 k36
     refine zLoad ⟨?_⟩
     refine zc (toTown_con nss ss bss) ⟨?_⟩
     refine zMove ⟨?_⟩
     refine zc (toApplianceS_con fl bfl) ⟨?_⟩
     refine zMove ⟨?_⟩
     refine zMove ⟨?_⟩
     refine zc (toIntS_con need bneed) ⟨?_⟩
     refine zMove ⟨?_⟩
     refine zc (toStringS_con names bnames) ⟨?_⟩
     refine zc (specExtra_con nss ss fl node need names bss bfl hsfl bneed bnames) ⟨?_⟩
     refine zMove ⟨?_⟩
     refine zExtract ⟨?_⟩
     refine zExtract ⟨?_⟩
     refine zAssign ⟨?_⟩
     refine zAssign ⟨?_⟩
     refine k36 _ ?_
     refine n35 _ _ (weak_keep [1, 2, 3, 4, 5, 12, 13] _) ?_
     refine zk ⟨?_⟩
     refine v_seq ?_; intro Q37 n37 e37 r37
     refine v_region ?_; intro K38 k38
     refine zLoad ⟨?_⟩
     refine zc (toTown_con nss ss bss) ⟨?_⟩
     refine zAlloc ⟨?_⟩
     refine zStore ⟨?_⟩
     refine k38 _ ?_
     refine n37 _ _ (weak_keep [1, 2, 3, 4, 5, 12, 13, 14] _) ?_
     refine zk ⟨?_⟩
     refine v_seq ?_; intro Q39 n39 e39 r39
     refine v_region ?_; intro K40 k40
     refine zMove ⟨?_⟩
     refine zc (toApplianceS_con fl bfl) ⟨?_⟩
     refine zAssign ⟨?_⟩
     refine k40 _ ?_
     refine n39 _ _ (weak_keep [1, 2, 3, 4, 5, 12, 13, 14, 15] _) ?_
     refine zk ⟨?_⟩
     refine v_seq ?_; intro Q41 n41 e41 r41
     refine v_region ?_; intro K42 k42
     refine zMove ⟨?_⟩
     refine zc (toIntS_con need bneed) ⟨?_⟩
     refine zAssign ⟨?_⟩
     refine k42 _ ?_
     refine n41 _ _ (weak_keep [1, 2, 3, 4, 5, 12, 13, 14, 15, 16] _) ?_
     refine zk ⟨?_⟩
     refine v_seq ?_; intro Q43 n43 e43 r43
     refine v_region ?_; intro K44 k44
     refine zMove ⟨?_⟩
     refine zc (toStringS_con names bnames) ⟨?_⟩
     refine zAssign ⟨?_⟩
     refine k44 _ ?_
     refine n43 _ _ (weak_keep [1, 2, 3, 4, 5, 12, 13, 14, 15, 16, 17] _) ?_
     refine zk ⟨?_⟩
     refine v_seq ?_; intro Q45 n45 e45 r45
     refine v_region ?_; intro K46 k46
     refine zLoad ⟨?_⟩
     refine zMove ⟨?_⟩
     refine zMove ⟨?_⟩
     refine zMove ⟨?_⟩
     refine zMove ⟨?_⟩
     refine zc (implExtra_con nss ss fl node need names bss bfl hsfl bneed bnames) ⟨?_⟩
     refine zMove ⟨?_⟩
     refine zExtract ⟨?_⟩
     refine zExtract ⟨?_⟩
     refine zAssign ⟨?_⟩
     refine zAssign ⟨?_⟩
     refine k46 _ ?_
     refine n45 _ _ (weak_keep [1, 3, 4, 5, 12, 13, 14, 15, 16, 17, 18, 19] _) ?_
     refine zk ⟨?_⟩
     refine v_seq ?_; intro Q47 n47 e47 r47
     refine v_seq ?_; intro Q48 n48 e48 r48
     refine v_region ?_; intro K49 k49
     refine zMove ⟨?_⟩
     refine zMove ⟨?_⟩
     refine zBinOp ⟨?_⟩
     refine zMove ⟨?_⟩
     refine zgMove ⟨?_⟩
     refine zgMove ⟨?_⟩
     refine zgBinOp ⟨?_⟩
     refine zPick ⟨?_⟩
     refine k49 _ ?_
     refine n48 _ _ (weak_keep [1, 3, 4, 5, 14, 15, 16, 17, 75] _) ?_
     refine zk ⟨?_⟩
     refine v_cond _ rfl ?_ ?_
     ·intro hc4
      exfalso; first | (simp at hc4; done) | (simp at hc4; omega)
     ·intro hc4
      try simp only [zC, reduceCtorEq] at hc4
      refine v_skip ?_
      refine n47 _ _ (weak_keep [1, 3, 4, 5, 14, 15, 16, 17] _) ?_
      refine zk ⟨?_⟩
      refine v_seq ?_; intro Q51 n51 e51 r51
      refine v_seq ?_; intro Q52 n52 e52 r52
      refine v_draw (by kernel_rfl) ?_; intro K53 q53 k53
      show aAny _ _ _ _ 5 (Array.replicate 5 false) _
      refine zdLoadX q53 true 0 76 ?_
      refine zdLoadX q53 true 1 77 ?_
      refine zoc 2 (toTown_con nss ss bss) ⟨?_⟩
      refine zoc 3 (eqTown_con nss ss bss) ⟨?_⟩
      refine zdUnOp q53 true 4 80 ?_
      refine aAny_done (by kernel_rfl) ?_
      refine k53 _ ?_
      refine n52 _ _ (weak_keep [1, 3, 4, 15, 16, 17, 80] _) ?_
      refine zk ⟨?_⟩
      refine v_cond _ rfl ?_ ?_
      ·intro hc5
       exfalso; first | (simp at hc5; done) | (simp at hc5; omega)
      ·intro hc5
       try simp only [zC, reduceCtorEq] at hc5
       refine v_skip ?_
       refine n51 _ _ (weak_keep [1, 3, 4, 15, 16, 17] _) ?_
       refine zk ⟨?_⟩
       refine v_seq ?_; intro Q55 n55 e55 r55
       refine v_seq ?_; intro Q56 n56 e56 r56
       refine v_region ?_; intro K57 k57
       refine zMove ⟨?_⟩
       refine zMove ⟨?_⟩
       refine zc (toApplianceS_con fl bfl) ⟨?_⟩
       refine zc (eqApplianceS_con fl fl bfl) ⟨?_⟩
       refine zUnOp ⟨?_⟩
       refine k57 _ ?_
       refine n56 _ _ (weak_keep [3, 4, 16, 17, 85] _) ?_
       refine zk ⟨?_⟩
       refine v_cond _ rfl ?_ ?_
       ·intro hc6
        exfalso; first | (simp at hc6; done) | (simp at hc6; omega)
       ·intro hc6
        try simp only [zC, reduceCtorEq] at hc6
        refine v_skip ?_
        refine n55 _ _ (weak_keep [3, 4, 16, 17] _) ?_
        refine zk ⟨?_⟩
        refine v_seq ?_; intro Q59 n59 e59 r59
        refine v_seq ?_; intro Q60 n60 e60 r60
        refine v_region ?_; intro K61 k61
        refine zMove ⟨?_⟩
        refine zMove ⟨?_⟩
        refine zc (toIntS_con need bneed) ⟨?_⟩
        refine zc (eqIntS_con need need bneed) ⟨?_⟩
        refine zUnOp ⟨?_⟩
        refine k61 _ ?_
        refine n60 _ _ (weak_keep [4, 17, 90] _) ?_
        refine zk ⟨?_⟩
        refine v_cond _ rfl ?_ ?_
        ·intro hc7
         exfalso; first | (simp at hc7; done) | (simp at hc7; omega)
        ·intro hc7
         try simp only [zC, reduceCtorEq] at hc7
         refine v_skip ?_
         refine n59 _ _ (weak_keep [4, 17] _) ?_
         refine zk ⟨?_⟩
         refine v_seq ?_; intro Q63 n63 e63 r63
         refine v_seq ?_; intro Q64 n64 e64 r64
         refine v_region ?_; intro K65 k65
         refine zMove ⟨?_⟩
         refine zMove ⟨?_⟩
         refine zc (toStringS_con names bnames) ⟨?_⟩
         refine zc (eqStringS_con names names bnames) ⟨?_⟩
         refine zUnOp ⟨?_⟩
         refine k65 _ ?_
         refine n64 _ _ (weak_keep [95] _) ?_
         refine zk ⟨?_⟩
         refine v_cond _ rfl ?_ ?_
         ·intro hc8
          exfalso; first | (simp at hc8; done) | (simp at hc8; omega)
         ·intro hc8
          try simp only [zC, reduceCtorEq] at hc8
          refine v_skip ?_
          refine n63 _ _ (weak_keep [] _) ?_
          refine zk ⟨?_⟩
          refine v_seq ?_; intro Q67 n67 e67 r67
          refine v_region ?_; intro K68 k68
          refine zAssign ⟨?_⟩
          refine k68 _ ?_
          refine n67 _ _ (weak_keep [10] _) ?_
          refine zk ⟨?_⟩
          refine v_ret ?_
          refine r0 _ ?_
          refine zf ⟨?_⟩
          exact ret_pure rfl rfl (.inl rfl)
end Go.Proofs.Ytdgenniiidgimaa
