/- What functions compute (LawNoisyDetectors). No condition. -/
import Derived.Test.YtdgenniiidgimaaTy
import Derived.Test.YtdgenniiidgimaaVmG
import Derived.Test.YtdgenniiidgimaaWAl5
import Derived.Test.YtdgenniiidgimaaWLawK
import Derived.Test.YtdgenniiidgimaaWZDetector
import Derived.Test.YtdgenniiidgimaaWZSignal
import Derived.Test.YtdgenniiidgimaaWTDetector
import Derived.Test.YtdgenniiidgimaaWTSignal
import Derived.Test.YtdgenniiidgimaaWEDetector
import Derived.Test.YtdgenniiidgimaaWESignal
import Derived.Test.YtdgenniiidgimaaWInts
import Derived.Test.YtdgenniiidgimaaWMarkDetector
import Derived.Test.YtdgenniiidgimaaWMarkSignal
import Derived.Test.YtdgenniiidgimaaWMarks
set_option linter.unusedSimpArgs false
set_option linter.unusedVariables false
set_option linter.defProp false
namespace Go.Proofs.Ytdgenniiidgimaa
open Go Go.Vm

set_option maxHeartbeats 6000000 in
theorem lawNoisyDetectors_con (l : List (Int × Int × Int × Bool)) (s : List (Int × Int)) (within : Int) (most : Int) (hl : l.length ≤ 9223372036854775807) (hs : s.length ≤ 9223372036854775807) : Con Try.prog 3 [.sl (l.map (fun t : Int × Int × Int × Bool => V.agg [V.int .i64 t.1, V.int .i64 t.2.1, V.int .i64 t.2.2.1, V.bool t.2.2.2])), .sl (s.map (fun t : Int × Int => V.agg [V.int .i64 t.1, V.int .i64 t.2])), .int .i64 within, .int .i64 most] [] (.bool true) [] := by
 refine v_con [.tmp 8] [(19, [0]), (20, [0]), (21, [0])] Try.func3 rfl rfl rfl (by simp [Try.ntmps3]) ?_
 intro Q0 n0 r0
 simp only [Try.ntmps3, envFrom, Nat.reduceAdd]
 have T := Tys.mk (And.intro Ty.t3 (And.intro Ty.t4 (And.intro Ty.t22 (And.intro Ty.t23 (And.intro Ty.t26 (And.intro Ty.t29 (And.intro Ty.t31 (And.intro Ty.t57 (And.intro Ty.t59 (And.intro Ty.t113 Ty.t115))))))))))
 have F := Fc.mk True.intro
 refine v_seq ?_; intro Q1 n1 e1 r1
 refine v_region ?_; intro K2 k2
 refine zAssign ⟨?_⟩
 refine k2 _ ?_
 refine n1 _ _ (weak_keep [0, 1, 2, 3] _) ?_
 refine zk ⟨?_⟩
 refine v_seq ?_; intro Q3 n3 e3 r3
 refine v_region ?_; intro K4 k4
 refine zAssign ⟨?_⟩
 refine k4 _ ?_
 refine n3 _ _ (weak_keep [0, 1, 2, 3, 9] _) ?_
 refine zk ⟨?_⟩
 refine v_seq ?_; intro Q5 n5 e5 r5
 refine v_region ?_; intro K6 k6
 refine zMove ⟨?_⟩
 refine zMove ⟨?_⟩
 refine zc (szDetectorS_con (1048576 : Int) l (⟨by omega, by omega⟩ : (0 : Int) ≤ 1048576 ∧ (1048576 : Int) ≤ 1048576) hl) ⟨?_⟩
 refine zAssign ⟨?_⟩
 refine k6 _ ?_
 refine n5 _ _ (weak_keep [0, 1, 2, 3, 9] _) ?_
 refine zk ⟨?_⟩
 refine v_seq ?_; intro Q7 n7 e7 r7
 refine v_seq ?_; intro Q8 n8 e8 r8
 refine v_region ?_; intro K9 k9
 refine zMove ⟨?_⟩
 refine zBinOp ⟨?_⟩
 refine k9 _ ?_
 refine n8 _ _ (weak_keep [0, 1, 2, 3, 9, 25] _) ?_
 refine zk ⟨?_⟩
 refine v_condS _ rfl ?_ ?_
 ·intro hc0
  refine v_seq ?_; intro Q11 n11 e11 r11
  refine v_region ?_; intro K12 k12
  refine zAssign ⟨?_⟩
  refine k12 _ ?_
  refine n11 _ _ (weak_keep [8] _) ?_
  refine zk ⟨?_⟩
  refine v_ret ?_
  refine r7 _ ?_
  refine r0 _ ?_
  refine zf ⟨?_⟩
  exact ret_pure rfl rfl (.inl rfl)
 ·intro hc0
  obtain ⟨bl, q1⟩ := szIf (⟨by omega, by omega⟩ : (0 : Int) ≤ 1048576 ∧ (1048576 : Int) ≤ 1048576).2 hc0
  refine v_skip ?_
  refine n7 _ _ (weak_keep [0, 1, 2, 3, 9] _) ?_
  refine zk ⟨?_⟩
  refine v_seq ?_; intro Q13 n13 e13 r13
  refine v_region ?_; intro K14 k14
  refine zMove ⟨?_⟩
  refine zMove ⟨?_⟩
  refine zc (szSignalS_con (if (1048576 : Int) - (l.length : Int) < 0 then -1 else (1048576 : Int) - (l.length : Int)) s q1 hs) ⟨?_⟩
  refine zAssign ⟨?_⟩
  refine k14 _ ?_
  refine n13 _ _ (weak_keep [0, 1, 2, 3, 9] _) ?_
  refine zk ⟨?_⟩
  refine v_seq ?_; intro Q15 n15 e15 r15
  refine v_seq ?_; intro Q16 n16 e16 r16
  refine v_region ?_; intro K17 k17
  refine zMove ⟨?_⟩
  refine zBinOp ⟨?_⟩
  refine k17 _ ?_
  refine n16 _ _ (weak_keep [0, 1, 2, 3, 30] _) ?_
  refine zk ⟨?_⟩
  refine v_condS _ rfl ?_ ?_
  ·intro hc1
   refine v_seq ?_; intro Q19 n19 e19 r19
   refine v_region ?_; intro K20 k20
   refine zAssign ⟨?_⟩
   refine k20 _ ?_
   refine n19 _ _ (weak_keep [8] _) ?_
   refine zk ⟨?_⟩
   refine v_ret ?_
   refine r15 _ ?_
   refine r0 _ ?_
   refine zf ⟨?_⟩
   exact ret_pure rfl rfl (.inl rfl)
  ·intro hc1
   obtain ⟨bs, q2⟩ := szIf q1.2 hc1
   have hT : (noisyR l s within most).length ≤ 1048576 := Nat.le_trans (noisyR_len l s within most) bl
   refine v_skip ?_
   refine n15 _ _ (weak_keep [0, 1, 2, 3] _) ?_
   refine zk ⟨?_⟩
   refine v_seq ?_; intro Q21 n21 e21 r21
   refine v_region ?_; intro K22 k22
   refine zMove ⟨?_⟩
   refine zc (toDetectorS_con l bl) ⟨?_⟩
   refine zMove ⟨?_⟩
   refine zc (toSignalS_con s bs) ⟨?_⟩
   refine zMove ⟨?_⟩
   refine zMove ⟨?_⟩
   refine zc (specNoisy_con l s within most bl bs) ⟨?_⟩
   refine zMove ⟨?_⟩
   refine zExtract ⟨?_⟩
   refine zExtract ⟨?_⟩
   refine zAssign ⟨?_⟩
   refine zAssign ⟨?_⟩
   refine k22 _ ?_
   refine n21 _ _ (weak_keep [0, 1, 2, 3, 10, 11] _) ?_
   refine zk ⟨?_⟩
   refine v_seq ?_; intro Q23 n23 e23 r23
   refine v_region ?_; intro K24 k24
   refine zMove ⟨?_⟩
   refine zc (toDetectorS_con l bl) ⟨?_⟩
   refine zAssign ⟨?_⟩
   refine k24 _ ?_
   refine n23 _ _ (weak_keep [0, 1, 2, 3, 10, 11, 12] _) ?_
   refine zk ⟨?_⟩
   refine v_seq ?_; intro Q25 n25 e25 r25
   refine v_region ?_; intro K26 k26
   refine zMove ⟨?_⟩
   refine zc (toSignalS_con s bs) ⟨?_⟩
   refine zAssign ⟨?_⟩
   refine k26 _ ?_
   refine n25 _ _ (weak_keep [0, 1, 2, 3, 10, 11, 12, 13] _) ?_
   refine zk ⟨?_⟩
   refine v_seq ?_; intro Q27 n27 e27 r27
   refine v_region ?_; intro K28 k28
   refine zMove ⟨?_⟩
   refine zMove ⟨?_⟩
   refine zMove ⟨?_⟩
   refine zMove ⟨?_⟩
   refine zc (implNoisy_con l s within most bl bs) ⟨?_⟩
   refine zMove ⟨?_⟩
   refine zExtract ⟨?_⟩
   refine zExtract ⟨?_⟩
   refine zAssign ⟨?_⟩
   refine zAssign ⟨?_⟩
   refine k28 _ ?_
   refine n27 _ _ (weak_keep [0, 1, 2, 3, 10, 11, 12, 13, 14, 15] _) ?_
   refine zk ⟨?_⟩
   refine v_seq ?_; intro Q29 n29 e29 r29
   refine v_seq ?_; intro Q30 n30 e30 r30
   refine v_region ?_; intro K31 k31
   refine zMove ⟨?_⟩
   refine zMove ⟨?_⟩
   refine zc (eqIntS_con (noisyR l s within most) (noisyR l s within most) hT) ⟨?_⟩
   refine zUnOp ⟨?_⟩
   refine zMove ⟨?_⟩
   refine zgMove ⟨?_⟩
   refine zgMove ⟨?_⟩
   refine zgBinOp ⟨?_⟩
   refine zPick ⟨?_⟩
   refine k31 _ ?_
   refine n30 _ _ (weak_keep [0, 1, 2, 3, 10, 11, 12, 13, 14, 15, 61] _) ?_
   refine zk ⟨?_⟩
   refine v_cond _ rfl ?_ ?_
   ·intro hc2
    exfalso; first | (simp at hc2; done) | (simp at hc2; omega)
   ·intro hc2
    try simp only [zC, reduceCtorEq] at hc2
    refine v_skip ?_
    refine n29 _ _ (weak_keep [0, 1, 2, 3, 10, 11, 12, 13, 14, 15] _) ?_
    refine zk ⟨?_⟩
    refine v_seq ?_; intro Q33 n33 e33 r33
    refine v_seq ?_; intro Q34 n34 e34 r34
    refine v_region ?_; intro K35 k35
    refine zMove ⟨?_⟩
    refine zMove ⟨?_⟩
    refine zc (toDetectorS_con l bl) ⟨?_⟩
    refine zc (eqDetectorS_con l l bl) ⟨?_⟩
    refine zUnOp ⟨?_⟩
    refine k35 _ ?_
    apply n34
    ·refine weak_trans (weak_keep [0, 1, 2, 3, 10, 11, 12, 13, 14, 15, 66] _) (weak_comp [2, 3, 4, 5] (by decide) (by simp) ?_ ?_)
     ·simp [keep_mk, keepE_nil, keepE_cons, look_cons, V.only, V.onlyL, idx] <;> (first | rfl | decide)
     ·simp [keep_mk, Blk.kindIs, fillK_mix]
    simp only [keep_mk, keepE_nil, keepE_cons, look_cons, look_nil, Nat.reduceEqDiff, reduceIte, St.comp, List.map_cons, List.map_nil, V.ren, V.renL, idx, List.getD_cons_zero, List.getD_cons_succ, Nat.reduceBEq, cond_true, cond_false, Option.map_some, Option.getD_some, Nat.reduceAdd, beq_dec, decide_true, decide_false]
    skip
    refine v_cond _ rfl ?_ ?_
    ·intro hc3
     exfalso; first | (simp at hc3; done) | (simp at hc3; omega)
    ·intro hc3
     try simp only [zC, reduceCtorEq] at hc3
     refine v_skip ?_
     refine n33 _ _ (weak_keep [0, 1, 2, 3, 10, 11, 12, 13, 14, 15] _) ?_
     refine zk ⟨?_⟩
     refine v_seq ?_; intro Q37 n37 e37 r37
     refine v_seq ?_; intro Q38 n38 e38 r38
     refine v_region ?_; intro K39 k39
     refine zMove ⟨?_⟩
     refine zMove ⟨?_⟩
     refine zc (toSignalS_con s bs) ⟨?_⟩
     refine zc (eqSignalS_con s s bs) ⟨?_⟩
     refine zUnOp ⟨?_⟩
     refine k39 _ ?_
     refine n38 _ _ (weak_keep [0, 1, 2, 3, 10, 11, 12, 13, 14, 15, 71] _) ?_
     refine zk ⟨?_⟩
     refine v_cond _ rfl ?_ ?_
     ·intro hc4
      exfalso; first | (simp at hc4; done) | (simp at hc4; omega)
     ·intro hc4
      try simp only [zC, reduceCtorEq] at hc4
      refine v_skip ?_
      refine n37 _ _ (weak_keep [0, 1, 2, 3, 10, 11, 12, 13, 14, 15] _) ?_
      refine zk ⟨?_⟩
      refine v_seq ?_; intro Q41 n41 e41 r41
      refine v_region ?_; intro K42 k42
      refine zAssign ⟨?_⟩
      refine k42 _ ?_
      refine n41 _ _ (weak_keep [0, 1, 2, 3, 10, 11, 12, 13, 14, 15, 16] _) ?_
      refine zk ⟨?_⟩
      refine v_seq ?_; intro Q43 n43 e43 r43
      refine v_region ?_; intro K44 k44
      refine zMove ⟨?_⟩
      refine zMove ⟨?_⟩
      refine zcl (markDetectorS_con l (1) bl (by omega)) ⟨?_⟩
      refine zAssign ⟨?_⟩
      refine k44 _ ?_
      refine n43 _ _ (weak_keep [0, 1, 2, 3, 10, 11, 13, 14, 15, 16] _) ?_
      refine zk ⟨?_⟩
      refine v_seq ?_; intro Q45 n45 e45 r45
      refine v_region ?_; intro K46 k46
      refine zMove ⟨?_⟩
      refine zMove ⟨?_⟩
      refine zcl (markSignalS_con s (1 + 4 * l.length) bs (by omega)) ⟨?_⟩
      refine zAssign ⟨?_⟩
      refine k46 _ ?_
      apply n45
      ·refine weak_trans (weak_keep [0, 1, 2, 3, 10, 11, 14, 15, 16] _) (weak_comp [0, 3] (by decide) (by simp) ?_ ?_)
       ·simp [keep_mk, keepE_nil, keepE_cons, look_cons, V.only, V.onlyL, idx] <;> (first | rfl | decide)
       ·simp [keep_mk, Blk.kindIs, fillK_mix]
      simp only [keep_mk, keepE_nil, keepE_cons, look_cons, look_nil, Nat.reduceEqDiff, reduceIte, St.comp, List.map_cons, List.map_nil, V.ren, V.renL, idx, List.getD_cons_zero, List.getD_cons_succ, Nat.reduceBEq, cond_true, cond_false, Option.map_some, Option.getD_some, Nat.reduceAdd, beq_dec, decide_true, decide_false]
      skip
      refine v_seq ?_; intro Q47 n47 e47 r47
      refine v_seq ?_; intro Q48 n48 e48 r48
      refine v_region ?_; intro K49 k49
      refine zMove ⟨?_⟩
      refine zBinOp ⟨?_⟩
      refine zMove ⟨?_⟩
      refine zgMove ⟨?_⟩
      refine zgMove ⟨?_⟩
      refine zgc (eqIntS_con (noisyR l s within most) (noisyR l s within most) hT) ⟨?_⟩
      refine zgUnOp ⟨?_⟩
      refine zPick ⟨?_⟩
      refine zMove ⟨?_⟩
      refine zgMove ⟨?_⟩
      refine zgMove ⟨?_⟩
      refine zgBinOp ⟨?_⟩
      refine zPick ⟨?_⟩
      refine k49 _ ?_
      refine n48 _ _ (weak_keep [0, 1, 2, 3, 10, 11, 14, 90] _) ?_
      refine zk ⟨?_⟩
      refine v_cond _ rfl ?_ ?_
      ·intro hc5
       exfalso; first | (simp at hc5; done) | (simp at hc5; omega)
      ·intro hc5
       try simp only [zC, reduceCtorEq] at hc5
       refine v_skip ?_
       refine n47 _ _ (weak_keep [0, 1, 2, 3, 10, 11, 14] _) ?_
       refine zk ⟨?_⟩
       refine v_seq ?_; intro Q51 n51 e51 r51
       refine v_region ?_; intro K52 k52
       refine zAssign ⟨?_⟩
       refine k52 _ ?_
       refine n51 _ _ (weak_keep [0, 1, 2, 3, 10, 11, 14, 17] _) ?_
       refine zk ⟨?_⟩
       refine v_seq ?_; intro Q53 n53 e53 r53
       refine v_region ?_; intro K54 k54
       refine zMove ⟨?_⟩
       refine zMove ⟨?_⟩
       refine zcl (markIntS_con (noisyR l s within most) (1) hT (by omega)) ⟨?_⟩
       refine zAssign ⟨?_⟩
       refine k54 _ ?_
       refine n53 _ _ (weak_keep [0, 1, 2, 3, 10, 11, 14, 17] _) ?_
       refine zk ⟨?_⟩
       refine v_seq ?_; intro Q55 n55 e55 r55
       refine v_region ?_; intro K56 k56
       refine zAssign ⟨?_⟩
       refine k56 _ ?_
       refine n55 _ _ (weak_keep [0, 1, 2, 3, 10, 11, 14, 17, 18] _) ?_
       refine zk ⟨?_⟩
       refine v_seq ?_; intro Q57 n57 e57 r57
       refine v_region ?_; intro K58 k58
       refine zMove ⟨?_⟩
       refine zMove ⟨?_⟩
       refine zc (heldIntS_con (1) (noisyR l s within most).length hT (by omega)) ⟨?_⟩
       refine zAssign ⟨?_⟩
       refine k58 _ ?_
       refine n57 _ _ (weak_keep [0, 1, 2, 3, 10, 11, 14, 17, 18] _) ?_
       refine zk ⟨?_⟩
       refine v_seq ?_; intro Q59 n59 e59 r59
       refine v_seq ?_; intro Q60 n60 e60 r60
       refine v_region ?_; intro K61 k61
       refine zMove ⟨?_⟩
       refine zBinOp ⟨?_⟩
       refine k61 _ ?_
       refine n60 _ _ (weak_keep [0, 1, 2, 3, 10, 11, 14, 17, 18, 98] _) ?_
       refine zk ⟨?_⟩
       refine v_cond _ rfl ?_ ?_
       ·intro hc6
        exfalso; first | (simp at hc6; done) | (simp at hc6; omega)
       ·intro hc6
        try simp only [zC, reduceCtorEq] at hc6
        refine v_skip ?_
        refine n59 _ _ (weak_keep [0, 1, 2, 3, 10, 11, 14, 17, 18] _) ?_
        refine zk ⟨?_⟩
        refine v_seq ?_; intro Q63 n63 e63 r63
        refine v_seq ?_; intro Q64 n64 e64 r64
        refine v_region ?_; intro K65 k65
        refine zMove ⟨?_⟩
        refine zMove ⟨?_⟩
        refine zBinOp ⟨?_⟩
        refine k65 _ ?_
        refine n64 _ _ (weak_keep [0, 1, 2, 3, 10, 11, 14, 17, 101] _) ?_
        refine zk ⟨?_⟩
        refine v_cond _ rfl ?_ ?_
        ·intro hc7
         exfalso; first | (simp at hc7; done) | (simp at hc7; omega)
        ·intro hc7
         try simp only [zC, reduceCtorEq] at hc7
         refine v_skip ?_
         refine n63 _ _ (weak_keep [0, 1, 2, 3, 10, 11, 14, 17] _) ?_
         refine zk ⟨?_⟩
         refine v_seq ?_; intro Q67 n67 e67 r67
         refine v_region ?_; intro K68 k68
         refine zMove ⟨?_⟩
         refine zc (toDetectorS_con l bl) ⟨?_⟩
         refine zMove ⟨?_⟩
         refine zc (toSignalS_con s bs) ⟨?_⟩
         refine zMove ⟨?_⟩
         refine zMove ⟨?_⟩
         refine zc (implNoisy_con l s within most bl bs) ⟨?_⟩
         refine zMove ⟨?_⟩
         refine zExtract ⟨?_⟩
         refine zExtract ⟨?_⟩
         refine zAssign ⟨?_⟩
         refine zAssign ⟨?_⟩
         refine k68 _ ?_
         refine n67 _ _ (weak_keep [10, 11, 14, 17, 19, 20] _) ?_
         refine zk ⟨?_⟩
         refine v_seq ?_; intro Q69 n69 e69 r69
         refine v_seq ?_; intro Q70 n70 e70 r70
         refine v_region ?_; intro K71 k71
         refine zMove ⟨?_⟩
         refine zMove ⟨?_⟩
         refine zc (eqIntS_con (noisyR l s within most) (noisyR l s within most) hT) ⟨?_⟩
         refine zUnOp ⟨?_⟩
         refine zMove ⟨?_⟩
         refine zgMove ⟨?_⟩
         refine zgMove ⟨?_⟩
         refine zgBinOp ⟨?_⟩
         refine zPick ⟨?_⟩
         refine k71 _ ?_
         apply n70
         ·refine weak_trans (weak_keep [14, 17, 120] _) (weak_comp [1] (by decide) (by simp) ?_ ?_)
          ·simp [keep_mk, keepE_nil, keepE_cons, look_cons, V.only, V.onlyL, idx] <;> (first | rfl | decide)
          ·simp [keep_mk, Blk.kindIs, fillK_mix]
         simp only [keep_mk, keepE_nil, keepE_cons, look_cons, look_nil, Nat.reduceEqDiff, reduceIte, St.comp, List.map_cons, List.map_nil, V.ren, V.renL, idx, List.getD_cons_zero, List.getD_cons_succ, Nat.reduceBEq, cond_true, cond_false, Option.map_some, Option.getD_some, Nat.reduceAdd, beq_dec, decide_true, decide_false]
         skip
         refine v_cond _ rfl ?_ ?_
         ·intro hc8
          exfalso; first | (simp at hc8; done) | (simp at hc8; omega)
         ·intro hc8
          try simp only [zC, reduceCtorEq] at hc8
          refine v_skip ?_
          refine n69 _ _ (weak_keep [14, 17] _) ?_
          refine zk ⟨?_⟩
          refine v_seq ?_; intro Q73 n73 e73 r73
          refine v_region ?_; intro K74 k74
          refine zAssign ⟨?_⟩
          refine k74 _ ?_
          refine n73 _ _ (weak_keep [14, 17, 18] _) ?_
          refine zk ⟨?_⟩
          refine v_seq ?_; intro Q75 n75 e75 r75
          refine v_region ?_; intro K76 k76
          refine zMove ⟨?_⟩
          refine zMove ⟨?_⟩
          refine zc (heldIntS_con (1) (noisyR l s within most).length hT (by omega)) ⟨?_⟩
          refine zAssign ⟨?_⟩
          refine k76 _ ?_
          refine n75 _ _ (weak_keep [17, 18] _) ?_
          refine zk ⟨?_⟩
          refine v_seq ?_; intro Q77 n77 e77 r77
          refine v_seq ?_; intro Q78 n78 e78 r78
          refine v_region ?_; intro K79 k79
          refine zMove ⟨?_⟩
          refine zBinOp ⟨?_⟩
          refine k79 _ ?_
          refine n78 _ _ (weak_keep [17, 18, 125] _) ?_
          refine zk ⟨?_⟩
          refine v_cond _ rfl ?_ ?_
          ·intro hc9
           exfalso; first | (simp at hc9; done) | (simp at hc9; omega)
          ·intro hc9
           try simp only [zC, reduceCtorEq] at hc9
           refine v_skip ?_
           refine n77 _ _ (weak_keep [17, 18] _) ?_
           refine zk ⟨?_⟩
           refine v_seq ?_; intro Q81 n81 e81 r81
           refine v_seq ?_; intro Q82 n82 e82 r82
           refine v_region ?_; intro K83 k83
           refine zMove ⟨?_⟩
           refine zMove ⟨?_⟩
           refine zBinOp ⟨?_⟩
           refine k83 _ ?_
           refine n82 _ _ (weak_keep [128] _) ?_
           refine zk ⟨?_⟩
           refine v_cond _ rfl ?_ ?_
           ·intro hc10
            exfalso; first | (simp at hc10; done) | (simp at hc10; omega)
           ·intro hc10
            try simp only [zC, reduceCtorEq] at hc10
            refine v_skip ?_
            refine n81 _ _ (weak_keep [] _) ?_
            refine zk ⟨?_⟩
            refine v_seq ?_; intro Q85 n85 e85 r85
            refine v_region ?_; intro K86 k86
            refine zAssign ⟨?_⟩
            refine k86 _ ?_
            refine n85 _ _ (weak_keep [8] _) ?_
            refine zk ⟨?_⟩
            refine v_ret ?_
            refine r0 _ ?_
            refine zf ⟨?_⟩
            exact ret_pure rfl rfl (.inl rfl)
end Go.Proofs.Ytdgenniiidgimaa
