/- What functions compute (LawRankOfChoice). No condition. -/
import Derived.Test.YtdgenniiidgimaaTy
import Derived.Test.YtdgenniiidgimaaVmG
import Derived.Test.YtdgenniiidgimaaWLawK
import Derived.Test.YtdgenniiidgimaaWTown2
import Derived.Test.YtdgenniiidgimaaWZAppliance
import Derived.Test.YtdgenniiidgimaaWStrs
import Derived.Test.YtdgenniiidgimaaWTAppliance
import Derived.Test.YtdgenniiidgimaaWEAppliance
import Derived.Test.YtdgenniiidgimaaWRank
set_option linter.unusedSimpArgs false
set_option linter.unusedVariables false
set_option linter.defProp false
namespace Go.Proofs.Ytdgenniiidgimaa
open Go Go.Vm

set_option maxHeartbeats 6000000 in
theorem lawRankOfChoice_con (nss : Int) (ss : List (Int × Int × Int)) (fl : List (ByteArray × Int × Int × Int × Int)) (node : Int) (names : List ByteArray) (hss : ss.length ≤ 9223372036854775807) (hfl : fl.length ≤ 9223372036854775807) (hsfl : ∀ t ∈ fl, t.1.size ≤ 9223372036854775807) (hnames : names.length ≤ 9223372036854775807) (hsnames : ∀ s ∈ names, s.size ≤ 9223372036854775807) : Con Try.prog 7 [.agg [.int .i64 nss, .sl (ss.map (fun t : Int × Int × Int => V.agg [V.int .i64 t.1, V.int .i64 t.2.1, V.int .i64 t.2.2]))], .sl (fl.map (fun t : ByteArray × Int × Int × Int × Int => V.agg [V.str t.1, V.int .i64 t.2.1, V.int .i64 t.2.2.1, V.int .i64 t.2.2.2.1, V.int .i64 t.2.2.2.2])), .int .i64 node, .sl (names.map V.str)] [] (.bool true) [] := by
 refine v_con [.tmp 8] [] Try.func7 rfl rfl rfl (by simp [Try.ntmps7]) ?_
 intro Q0 n0 r0
 simp only [Try.ntmps7, envFrom, Nat.reduceAdd]
 have T := Tys.mk (And.intro Ty.t3 (And.intro Ty.t4 (And.intro Ty.t9 (And.intro Ty.t61 (And.intro Ty.t63 (And.intro Ty.t64 (And.intro Ty.t70 (And.intro Ty.t72 (And.intro Ty.t74 (And.intro Ty.t93 (And.intro Ty.t133 (And.intro Ty.t141 (And.intro Ty.t182 Ty.t184)))))))))))))
 have F := Fc.mk True.intro
 refine v_seq ?_; intro Q1 n1 e1 r1
 refine v_region ?_; intro K2 k2
 refine zBox ⟨?_⟩
 refine zAssign ⟨?_⟩
 refine k2 _ ?_
 refine n1 _ _ (weak_keep [1, 2, 3, 4] _) ?_
 refine zk ⟨?_⟩
 refine v_seq ?_; intro Q3 n3 e3 r3
 refine v_region ?_; intro K4 k4
 refine zAssign ⟨?_⟩
 refine k4 _ ?_
 refine n3 _ _ (weak_keep [1, 2, 3, 4, 9] _) ?_
 refine zk ⟨?_⟩
 refine v_seq ?_; intro Q5 n5 e5 r5
 refine v_region ?_; intro K6 k6
 refine zLoad ⟨?_⟩
 refine zMove ⟨?_⟩
 refine zc (szTown_con nss ss (1048576 : Int) (⟨by omega, by omega⟩ : (0 : Int) ≤ 1048576 ∧ (1048576 : Int) ≤ 1048576) hss) ⟨?_⟩
 refine zAssign ⟨?_⟩
 refine k6 _ ?_
 refine n5 _ _ (weak_keep [1, 2, 3, 4, 9] _) ?_
 refine zk ⟨?_⟩
 refine v_seq ?_; intro Q7 n7 e7 r7
 refine v_seq ?_; intro Q8 n8 e8 r8
 refine v_region ?_; intro K9 k9
 refine zMove ⟨?_⟩
 refine zBinOp ⟨?_⟩
 refine k9 _ ?_
 refine n8 _ _ (weak_keep [1, 2, 3, 4, 9, 21] _) ?_
 refine zk ⟨?_⟩
 refine v_condS _ rfl ?_ ?_
 ·intro hc0
  refine v_seq ?_; intro Q11 n11 e11 r11
  refine v_region ?_; intro K12 k12
  refine zAssign ⟨?_⟩
  refine k12 _ ?_
  refine n11 _ _ (weak_keep [8] _) ?_
  refine zk ⟨?_⟩
  refine v_ret ?_
  refine r7 _ ?_
  refine r0 _ ?_
  refine zf ⟨?_⟩
  exact ret_pure rfl rfl (.inl rfl)
 ·intro hc0
  obtain ⟨bss, q1⟩ := szIf (⟨by omega, by omega⟩ : (0 : Int) ≤ 1048576 ∧ (1048576 : Int) ≤ 1048576).2 hc0
  refine v_skip ?_
  refine n7 _ _ (weak_keep [1, 2, 3, 4, 9] _) ?_
  refine zk ⟨?_⟩
  refine v_seq ?_; intro Q13 n13 e13 r13
  refine v_region ?_; intro K14 k14
  refine zMove ⟨?_⟩
  refine zMove ⟨?_⟩
  refine zc (szApplianceS_con (if (1048576 : Int) - (ss.length : Int) < 0 then -1 else (1048576 : Int) - (ss.length : Int)) fl q1 hfl hsfl) ⟨?_⟩
  refine zAssign ⟨?_⟩
  refine k14 _ ?_
  refine n13 _ _ (weak_keep [1, 2, 3, 4, 9] _) ?_
  refine zk ⟨?_⟩
  refine v_seq ?_; intro Q15 n15 e15 r15
  refine v_seq ?_; intro Q16 n16 e16 r16
  refine v_region ?_; intro K17 k17
  refine zMove ⟨?_⟩
  refine zBinOp ⟨?_⟩
  refine k17 _ ?_
  refine n16 _ _ (weak_keep [1, 2, 3, 4, 9, 26] _) ?_
  refine zk ⟨?_⟩
  refine v_condS _ rfl ?_ ?_
  ·intro hc1
   refine v_seq ?_; intro Q19 n19 e19 r19
   refine v_region ?_; intro K20 k20
   refine zAssign ⟨?_⟩
   refine k20 _ ?_
   refine n19 _ _ (weak_keep [8] _) ?_
   refine zk ⟨?_⟩
   refine v_ret ?_
   refine r15 _ ?_
   refine r0 _ ?_
   refine zf ⟨?_⟩
   exact ret_pure rfl rfl (.inl rfl)
  ·intro hc1
   obtain ⟨bfl, q2⟩ := szIfL (f := szAppliance1) szAppliance1_le q1.1 q1.2 hc1
   refine v_skip ?_
   refine n15 _ _ (weak_keep [1, 2, 3, 4, 9] _) ?_
   refine zk ⟨?_⟩
   refine v_seq ?_; intro Q21 n21 e21 r21
   refine v_region ?_; intro K22 k22
   refine zMove ⟨?_⟩
   refine zMove ⟨?_⟩
   refine zc (szStringS_con (if (if (1048576 : Int) - (ss.length : Int) < 0 then -1 else (1048576 : Int) - (ss.length : Int)) - (fl.length : Int) < 0 then -1 else szLst szAppliance1 ((if (1048576 : Int) - (ss.length : Int) < 0 then -1 else (1048576 : Int) - (ss.length : Int)) - (fl.length : Int)) fl) names q2 hnames hsnames) ⟨?_⟩
   refine zAssign ⟨?_⟩
   refine k22 _ ?_
   refine n21 _ _ (weak_keep [1, 2, 3, 4, 9] _) ?_
   refine zk ⟨?_⟩
   refine v_seq ?_; intro Q23 n23 e23 r23
   refine v_seq ?_; intro Q24 n24 e24 r24
   refine v_region ?_; intro K25 k25
   refine zMove ⟨?_⟩
   refine zBinOp ⟨?_⟩
   refine k25 _ ?_
   refine n24 _ _ (weak_keep [1, 2, 3, 4, 31] _) ?_
   refine zk ⟨?_⟩
   refine v_condS _ rfl ?_ ?_
   ·intro hc2
    refine v_seq ?_; intro Q27 n27 e27 r27
    refine v_region ?_; intro K28 k28
    refine zAssign ⟨?_⟩
    refine k28 _ ?_
    refine n27 _ _ (weak_keep [8] _) ?_
    refine zk ⟨?_⟩
    refine v_ret ?_
    refine r23 _ ?_
    refine r0 _ ?_
    refine zf ⟨?_⟩
    exact ret_pure rfl rfl (.inl rfl)
   ·intro hc2
    obtain ⟨bnames, q3⟩ := szIfL (f := szStr1) szStr1_le q2.1 q2.2 hc2
    refine v_skip ?_
    refine n23 _ _ (weak_keep [1, 2, 3, 4] _) ?_
    refine zk ⟨?_⟩
    refine v_seq ?_; intro Q29 n29 e29 r29
    refine v_region ?_; intro K30 k30
    refine zLoad ⟨?_⟩
    refine zc (toTown_con nss ss bss) ⟨?_⟩
    refine zMove ⟨?_⟩
    refine zc (toApplianceS_con fl bfl) ⟨?_⟩
    refine zMove ⟨?_⟩
    refine zMove ⟨?_⟩
    refine zc (toStringS_con names bnames) ⟨?_⟩
    refine zc (specRank_con nss ss fl node names bss bfl hsfl bnames) ⟨?_⟩
    refine zMove ⟨?_⟩
    refine zExtract ⟨?_⟩
    refine zExtract ⟨?_⟩
    refine zAssign ⟨?_⟩
    refine zAssign ⟨?_⟩
    refine k30 _ ?_
    refine n29 _ _ (weak_keep [1, 2, 3, 4, 10, 11] _) ?_
    refine zk ⟨?_⟩
    refine v_seq ?_; intro Q31 n31 e31 r31
    refine v_region ?_; intro K32 k32
    refine zLoad ⟨?_⟩
    refine zc (toTown_con nss ss bss) ⟨?_⟩
    refine zAlloc ⟨?_⟩
    refine zStore ⟨?_⟩
    refine k32 _ ?_
    refine n31 _ _ (weak_keep [1, 2, 3, 4, 10, 11, 12] _) ?_
    refine zk ⟨?_⟩
    refine v_seq ?_; intro Q33 n33 e33 r33
    refine v_region ?_; intro K34 k34
    refine zMove ⟨?_⟩
    refine zc (toApplianceS_con fl bfl) ⟨?_⟩
    refine zAssign ⟨?_⟩
    refine k34 _ ?_
    refine n33 _ _ (weak_keep [1, 2, 3, 4, 10, 11, 12, 13] _) ?_
    refine zk ⟨?_⟩
    refine v_seq ?_; intro Q35 n35 e35 r35
    refine v_region ?_; intro K36 k36
    refine zMove ⟨?_⟩
    refine zc (toStringS_con names bnames) ⟨?_⟩
    refine zAssign ⟨?_⟩
    refine k36 _ ?_
    refine n35 _ _ (weak_keep [1, 2, 3, 4, 10, 11, 12, 13, 14] _) ?_
    refine zk ⟨?_⟩
    refine v_seq ?_; intro Q37 n37 e37 r37
    refine v_region ?_; intro K38 k38
    refine zLoad ⟨?_⟩
    refine zMove ⟨?_⟩
    refine zMove ⟨?_⟩
    refine zMove ⟨?_⟩
    refine zc (implRank_con nss ss fl node names bss bfl hsfl bnames) ⟨?_⟩
    refine zMove ⟨?_⟩
    refine zExtract ⟨?_⟩
    refine zExtract ⟨?_⟩
    refine zAssign ⟨?_⟩
    refine zAssign ⟨?_⟩
    refine k38 _ ?_
    refine n37 _ _ (weak_keep [1, 3, 4, 10, 11, 12, 13, 14, 15, 16] _) ?_
    refine zk ⟨?_⟩
    refine v_seq ?_; intro Q39 n39 e39 r39
    refine v_seq ?_; intro Q40 n40 e40 r40
    refine v_region ?_; intro K41 k41
    refine zMove ⟨?_⟩
    refine zMove ⟨?_⟩
    refine zBinOp ⟨?_⟩
    refine zMove ⟨?_⟩
    refine zgMove ⟨?_⟩
    refine zgMove ⟨?_⟩
    refine zgBinOp ⟨?_⟩
    refine zPick ⟨?_⟩
    refine k41 _ ?_
    refine n40 _ _ (weak_keep [1, 3, 4, 12, 13, 14, 64] _) ?_
    refine zk ⟨?_⟩
    refine v_cond _ rfl ?_ ?_
    ·intro hc3
     exfalso; first | (simp at hc3; done) | (simp at hc3; omega)
    ·intro hc3
     try simp only [zC, reduceCtorEq] at hc3
     refine v_skip ?_
     refine n39 _ _ (weak_keep [1, 3, 4, 12, 13, 14] _) ?_
     refine zk ⟨?_⟩
     refine v_seq ?_; intro Q43 n43 e43 r43
     refine v_seq ?_; intro Q44 n44 e44 r44
     refine v_draw (by kernel_rfl) ?_; intro K45 q45 k45
     show aAny _ _ _ _ 5 (Array.replicate 5 false) _
     refine zdLoadX q45 true 0 65 ?_
     refine zdLoadX q45 true 1 66 ?_
     refine zoc 2 (toTown_con nss ss bss) ⟨?_⟩
     refine zoc 3 (eqTown_con nss ss bss) ⟨?_⟩
     refine zdUnOp q45 true 4 69 ?_
     refine aAny_done (by kernel_rfl) ?_
     refine k45 _ ?_
     refine n44 _ _ (weak_keep [1, 3, 13, 14, 69] _) ?_
     refine zk ⟨?_⟩
     refine v_cond _ rfl ?_ ?_
     ·intro hc4
      exfalso; first | (simp at hc4; done) | (simp at hc4; omega)
     ·intro hc4
      try simp only [zC, reduceCtorEq] at hc4
      refine v_skip ?_
      refine n43 _ _ (weak_keep [1, 3, 13, 14] _) ?_
      refine zk ⟨?_⟩
      refine v_seq ?_; intro Q47 n47 e47 r47
      refine v_seq ?_; intro Q48 n48 e48 r48
      refine v_region ?_; intro K49 k49
      refine zMove ⟨?_⟩
      refine zMove ⟨?_⟩
      refine zc (toApplianceS_con fl bfl) ⟨?_⟩
      refine zc (eqApplianceS_con fl fl bfl) ⟨?_⟩
      refine zUnOp ⟨?_⟩
      refine k49 _ ?_
      refine n48 _ _ (weak_keep [3, 14, 74] _) ?_
      refine zk ⟨?_⟩
      refine v_cond _ rfl ?_ ?_
      ·intro hc5
       exfalso; first | (simp at hc5; done) | (simp at hc5; omega)
      ·intro hc5
       try simp only [zC, reduceCtorEq] at hc5
       refine v_skip ?_
       refine n47 _ _ (weak_keep [3, 14] _) ?_
       refine zk ⟨?_⟩
       refine v_seq ?_; intro Q51 n51 e51 r51
       refine v_seq ?_; intro Q52 n52 e52 r52
       refine v_region ?_; intro K53 k53
       refine zMove ⟨?_⟩
       refine zMove ⟨?_⟩
       refine zc (toStringS_con names bnames) ⟨?_⟩
       refine zc (eqStringS_con names names bnames) ⟨?_⟩
       refine zUnOp ⟨?_⟩
       refine k53 _ ?_
       refine n52 _ _ (weak_keep [79] _) ?_
       refine zk ⟨?_⟩
       refine v_cond _ rfl ?_ ?_
       ·intro hc6
        exfalso; first | (simp at hc6; done) | (simp at hc6; omega)
       ·intro hc6
        try simp only [zC, reduceCtorEq] at hc6
        refine v_skip ?_
        refine n51 _ _ (weak_keep [] _) ?_
        refine zk ⟨?_⟩
        refine v_seq ?_; intro Q55 n55 e55 r55
        refine v_region ?_; intro K56 k56
        refine zAssign ⟨?_⟩
        refine k56 _ ?_
        refine n55 _ _ (weak_keep [8] _) ?_
        refine zk ⟨?_⟩
        refine v_ret ?_
        refine r0 _ ?_
        refine zf ⟨?_⟩
        exact ret_pure rfl rfl (.inl rfl)
end Go.Proofs.Ytdgenniiidgimaa
