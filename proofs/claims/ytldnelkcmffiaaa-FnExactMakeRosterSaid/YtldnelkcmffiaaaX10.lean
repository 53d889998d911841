/- What functions compute. No condition. -/
import Derived.Test.YtldnelkcmffiaaaUty
import Derived.Test.YtldnelkcmffiaaaUmG
import Derived.Test.YtldnelkcmffiaaaX3
import Derived.Test.YtldnelkcmffiaaaX8
import Derived.Test.YtldnelkcmffiaaaX4
import Derived.Test.YtldnelkcmffiaaaX1
import Derived.Test.YtldnelkcmffiaaaX2
import Derived.Test.YtldnelkcmffiaaaX5
set_option linter.unusedSimpArgs false
set_option linter.unusedVariables false
set_option linter.defProp false
namespace Go.Proofs.Ytldnelkcmffiaaa
open Go Go.Vm

set_option maxHeartbeats 6000000 in
theorem lawMakeRoster_con (needs : List Int) (ad bd cd : Int) (hneeds : needs.length ≤ 9223372036854775807) : Con Try.prog 6 [.sl (needs.map (V.int .i64)), .agg [.int .i64 ad, .int .i64 bd, .int .i64 cd]] [] (.bool true) [] := by
 refine v_con [.tmp 4] [(26, [0]), (18, [0])] Try.func6 rfl rfl rfl (by simp [Try.ntmps6]) ?_
 intro Q0 n0 r0
 simp only [Try.ntmps6, envFrom, Nat.reduceAdd]
 have T := Tys.mk (And.intro Ty.t3 (And.intro Ty.t4 (And.intro Ty.t30 (And.intro Ty.t32 (And.intro Ty.t37 Ty.t41)))))
 have F := Fc.mk True.intro
 refine v_seq ?_; intro Q1 n1 e1 r1
 refine v_region ?_; intro K2 k2
 refine zBox ⟨?_⟩
 refine zAssign ⟨?_⟩
 refine k2 _ ?_
 refine n1 _ _ (weak_keep [0, 3] _) ?_
 refine zk ⟨?_⟩
 refine v_seq ?_; intro Q3 n3 e3 r3
 refine v_seq ?_; intro Q4 n4 e4 r4
 refine v_region ?_; intro K5 k5
 refine zMove ⟨?_⟩
 refine zLen ⟨?_⟩
 refine zBinOp ⟨?_⟩
 refine k5 _ ?_
 refine n4 _ _ (weak_keep [0, 3, 17] _) ?_
 refine zk ⟨?_⟩
 refine v_condS _ rfl ?_ ?_
 ·intro hc0
  refine v_seq ?_; intro Q7 n7 e7 r7
  refine v_region ?_; intro K8 k8
  refine zAssign ⟨?_⟩
  refine k8 _ ?_
  refine n7 _ _ (weak_keep [4] _) ?_
  refine zk ⟨?_⟩
  refine v_ret ?_
  refine r3 _ ?_
  refine r0 _ ?_
  refine zf ⟨?_⟩
  exact ret_pure rfl rfl (.inl rfl)
 ·intro hc0
  have bneeds : needs.length ≤ 1048576 := by omega
  have hT1 : (mkR2 ad bd cd needs).length ≤ 1048576 := Nat.le_trans (mkR2_facts ad bd cd needs).1 bneeds
  have hT9 := (mkR2_facts ad bd cd needs).2
  have hT2 : ∀ l ∈ (mkR2 ad bd cd needs), l.length ≤ 1048576 := fun l h => Nat.le_trans (hT9 l h) (by omega)
  have hTt := totSS_le9 hT9
  have hTp := totSS_pos (mkR2 ad bd cd needs)
  have c1 := toIntS_con needs bneeds
  have c2 := toDuty_con ad bd cd
  have c3 := specMakeRoster_con needs ad bd cd bneeds
  have c4 := implMakeRoster_con needs ad bd cd bneeds
  have c5 := eqIntSS_con (mkR2 ad bd cd needs) (mkR2 ad bd cd needs) hT1 hT2
  have c6 := eqIntS_con needs needs bneeds
  have c7 := markIntS_con needs (1) bneeds (by omega)
  have c8 := markIntSS_con (mkR2 ad bd cd needs) (1) (fillK (mkR2 ad bd cd needs).length) (fillK_or _) hT1 hT2 ⟨by omega, by omega⟩
  have c9 := heldIntSS_con (mkR2 ad bd cd needs) (1) hT1 hT2 ⟨by omega, by omega⟩
  generalize (markRow (1) needs.length).map (V.int .i64) = L1 at c1 c2 c3 c4 c5 c6 c7 c8 c9 ⊢
  generalize (markSS (1) (mkR2 ad bd cd needs)).map (fun l : List Int => V.sl (l.map (V.int .i64))) = L2 at c1 c2 c3 c4 c5 c6 c7 c8 c9 ⊢
  generalize needs.map (V.int .i64) = L3 at c1 c2 c3 c4 c5 c6 c7 c8 c9 ⊢
  generalize (mkR2 ad bd cd needs).map (fun l : List Int => V.sl (l.map (V.int .i64))) = L4 at c1 c2 c3 c4 c5 c6 c7 c8 c9 ⊢
  refine v_skip ?_
  refine n3 _ _ (weak_keep [0, 3] _) ?_
  refine zk ⟨?_⟩
  refine v_seq ?_; intro Q9 n9 e9 r9
  refine v_draw (by kernel_rfl) ?_; intro K10 q10 k10
  show aAny _ _ _ _ 10 (Array.replicate 10 false) _
  refine zdMove q10 true 0 19 ?_
  refine zdLoadX q10 true 2 21 ?_
  refine zoc 1 (c1) ⟨?_⟩
  refine zoc 3 (c2) ⟨?_⟩
  refine zoc 4 (c3) ⟨?_⟩
  refine zdMove q10 true 5 18 ?_
  refine zdExtract q10 true 6 24 ?_
  refine zdExtract q10 true 7 25 ?_
  refine zoAssign 8 ⟨?_⟩
  refine zoAssign 9 ⟨?_⟩
  refine aAny_done (by kernel_rfl) ?_
  refine k10 _ ?_
  refine n9 _ _ (weak_keep [0, 3, 5, 6] _) ?_
  refine zk ⟨?_⟩
  refine v_seq ?_; intro Q11 n11 e11 r11
  refine v_region ?_; intro K12 k12
  refine zMove ⟨?_⟩
  refine zc (c1) ⟨?_⟩
  refine zAssign ⟨?_⟩
  refine k12 _ ?_
  refine n11 _ _ (weak_keep [0, 3, 5, 6, 7] _) ?_
  refine zk ⟨?_⟩
  refine v_seq ?_; intro Q13 n13 e13 r13
  refine v_region ?_; intro K14 k14
  refine zMove ⟨?_⟩
  refine zLoad ⟨?_⟩
  refine zc (c2) ⟨?_⟩
  refine zc (c4) ⟨?_⟩
  refine zMove ⟨?_⟩
  refine zExtract ⟨?_⟩
  refine zExtract ⟨?_⟩
  refine zAssign ⟨?_⟩
  refine zAssign ⟨?_⟩
  refine k14 _ ?_
  refine n13 _ _ (weak_keep [0, 3, 5, 6, 7, 8, 9] _) ?_
  refine zk ⟨?_⟩
  refine v_seq ?_; intro Q15 n15 e15 r15
  refine v_seq ?_; intro Q16 n16 e16 r16
  refine v_region ?_; intro K17 k17
  refine zMove ⟨?_⟩
  refine zMove ⟨?_⟩
  refine zc (c5) ⟨?_⟩
  refine zUnOp ⟨?_⟩
  refine zMove ⟨?_⟩
  refine zgMove ⟨?_⟩
  refine zgMove ⟨?_⟩
  refine zgBinOp ⟨?_⟩
  refine zPick ⟨?_⟩
  refine k17 _ ?_
  refine n16 _ _ (weak_keep [0, 3, 5, 6, 7, 8, 9, 43] _) ?_
  refine zk ⟨?_⟩
  refine v_cond _ rfl ?_ ?_
  ·intro hc1
   exfalso; first | (simp at hc1; done) | (simp at hc1; omega)
  ·intro hc1
   try simp only [zC, reduceCtorEq] at hc1
   refine v_skip ?_
   refine n15 _ _ (weak_keep [0, 3, 5, 6, 7, 8, 9] _) ?_
   refine zk ⟨?_⟩
   refine v_seq ?_; intro Q19 n19 e19 r19
   refine v_seq ?_; intro Q20 n20 e20 r20
   refine v_region ?_; intro K21 k21
   refine zMove ⟨?_⟩
   refine zMove ⟨?_⟩
   refine zc (c1) ⟨?_⟩
   refine zc (c6) ⟨?_⟩
   refine zUnOp ⟨?_⟩
   refine k21 _ ?_
   refine n20 _ _ (weak_keep [0, 3, 5, 6, 7, 8, 9, 48] _) ?_
   refine zk ⟨?_⟩
   refine v_cond _ rfl ?_ ?_
   ·intro hc2
    exfalso; first | (simp at hc2; done) | (simp at hc2; omega)
   ·intro hc2
    try simp only [zC, reduceCtorEq] at hc2
    refine v_skip ?_
    refine n19 _ _ (weak_keep [0, 3, 5, 6, 7, 8, 9] _) ?_
    refine zk ⟨?_⟩
    refine v_seq ?_; intro Q23 n23 e23 r23
    refine v_region ?_; intro K24 k24
    refine zAssign ⟨?_⟩
    refine k24 _ ?_
    refine n23 _ _ (weak_keep [0, 3, 5, 6, 7, 8, 9, 10] _) ?_
    refine zk ⟨?_⟩
    refine v_seq ?_; intro Q25 n25 e25 r25
    refine v_region ?_; intro K26 k26
    refine zMove ⟨?_⟩
    refine zMove ⟨?_⟩
    refine zcl (c7) ⟨?_⟩
    refine zAssign ⟨?_⟩
    refine k26 _ ?_
    refine n25 _ _ (weak_keep [0, 3, 5, 6, 8, 9, 10] _) ?_
    refine zk ⟨?_⟩
    refine v_seq ?_; intro Q27 n27 e27 r27
    refine v_seq ?_; intro Q28 n28 e28 r28
    refine v_region ?_; intro K29 k29
    refine zMove ⟨?_⟩
    refine zBinOp ⟨?_⟩
    refine zMove ⟨?_⟩
    refine zgMove ⟨?_⟩
    refine zgMove ⟨?_⟩
    refine zgc (c5) ⟨?_⟩
    refine zgUnOp ⟨?_⟩
    refine zPick ⟨?_⟩
    refine zMove ⟨?_⟩
    refine zgMove ⟨?_⟩
    refine zgMove ⟨?_⟩
    refine zgBinOp ⟨?_⟩
    refine zPick ⟨?_⟩
    refine k29 _ ?_
    refine n28 _ _ (weak_keep [0, 3, 5, 6, 8, 64] _) ?_
    refine zk ⟨?_⟩
    refine v_cond _ rfl ?_ ?_
    ·intro hc3
     exfalso; first | (simp at hc3; done) | (simp at hc3; omega)
    ·intro hc3
     try simp only [zC, reduceCtorEq] at hc3
     refine v_skip ?_
     refine n27 _ _ (weak_keep [0, 3, 5, 6, 8] _) ?_
     refine zk ⟨?_⟩
     refine v_seq ?_; intro Q31 n31 e31 r31
     refine v_region ?_; intro K32 k32
     refine zAssign ⟨?_⟩
     refine k32 _ ?_
     refine n31 _ _ (weak_keep [0, 3, 5, 6, 8, 11] _) ?_
     refine zk ⟨?_⟩
     refine v_seq ?_; intro Q33 n33 e33 r33
     refine v_region ?_; intro K34 k34
     refine zMove ⟨?_⟩
     refine zMove ⟨?_⟩
     refine zcl (c8) ⟨?_⟩
     refine zAssign ⟨?_⟩
     refine k34 _ ?_
     refine n33 _ _ (weak_keep [0, 3, 5, 6, 8, 11] _) ?_
     refine zk ⟨?_⟩
     refine v_seq ?_; intro Q35 n35 e35 r35
     refine v_region ?_; intro K36 k36
     refine zAssign ⟨?_⟩
     refine k36 _ ?_
     refine n35 _ _ (weak_keep [0, 3, 5, 6, 8, 11, 12] _) ?_
     refine zk ⟨?_⟩
     refine v_seq ?_; intro Q37 n37 e37 r37
     refine v_region ?_; intro K38 k38
     refine zMove ⟨?_⟩
     refine zMove ⟨?_⟩
     refine zc (c9) ⟨?_⟩
     refine zAssign ⟨?_⟩
     refine k38 _ ?_
     refine n37 _ _ (weak_keep [0, 3, 5, 6, 8, 11, 12] _) ?_
     refine zk ⟨?_⟩
     refine v_seq ?_; intro Q39 n39 e39 r39
     refine v_seq ?_; intro Q40 n40 e40 r40
     refine v_region ?_; intro K41 k41
     refine zMove ⟨?_⟩
     refine zBinOp ⟨?_⟩
     refine k41 _ ?_
     refine n40 _ _ (weak_keep [0, 3, 5, 6, 8, 11, 12, 72] _) ?_
     refine zk ⟨?_⟩
     refine v_cond _ rfl ?_ ?_
     ·intro hc4
      exfalso; first | (simp at hc4; done) | (simp at hc4; omega)
     ·intro hc4
      try simp only [zC, reduceCtorEq] at hc4
      refine v_skip ?_
      refine n39 _ _ (weak_keep [0, 3, 5, 6, 8, 11, 12] _) ?_
      refine zk ⟨?_⟩
      refine v_seq ?_; intro Q43 n43 e43 r43
      refine v_seq ?_; intro Q44 n44 e44 r44
      refine v_region ?_; intro K45 k45
      refine zMove ⟨?_⟩
      refine zMove ⟨?_⟩
      refine zBinOp ⟨?_⟩
      refine k45 _ ?_
      refine n44 _ _ (weak_keep [0, 3, 5, 6, 8, 11, 75] _) ?_
      refine zk ⟨?_⟩
      refine v_cond _ rfl ?_ ?_
      ·intro hc5
       exfalso; first | (simp at hc5; done) | (simp at hc5; omega)
      ·intro hc5
       try simp only [zC, reduceCtorEq] at hc5
       refine v_skip ?_
       refine n43 _ _ (weak_keep [0, 3, 5, 6, 8, 11] _) ?_
       refine zk ⟨?_⟩
       refine v_seq ?_; intro Q47 n47 e47 r47
       refine v_draw (by kernel_rfl) ?_; intro K48 q48 k48
       show aAny _ _ _ _ 10 (Array.replicate 10 false) _
       refine zdMove q48 true 0 77 ?_
       refine zdLoadX q48 true 2 79 ?_
       refine zoc 1 (c1) ⟨?_⟩
       refine zoc 3 (c2) ⟨?_⟩
       refine zoc 4 (c4) ⟨?_⟩
       refine zdMove q48 true 5 76 ?_
       refine zdExtract q48 true 6 82 ?_
       refine zdExtract q48 true 7 83 ?_
       refine zoAssign 8 ⟨?_⟩
       refine zoAssign 9 ⟨?_⟩
       refine aAny_done (by kernel_rfl) ?_
       refine k48 _ ?_
       refine n47 _ _ (weak_keep [5, 6, 8, 11, 13, 14] _) ?_
       refine zk ⟨?_⟩
       refine v_seq ?_; intro Q49 n49 e49 r49
       refine v_seq ?_; intro Q50 n50 e50 r50
       refine v_region ?_; intro K51 k51
       refine zMove ⟨?_⟩
       refine zMove ⟨?_⟩
       refine zc (c5) ⟨?_⟩
       refine zUnOp ⟨?_⟩
       refine zMove ⟨?_⟩
       refine zgMove ⟨?_⟩
       refine zgMove ⟨?_⟩
       refine zgBinOp ⟨?_⟩
       refine zPick ⟨?_⟩
       refine k51 _ ?_
       refine n50 _ _ (weak_keep [8, 11, 92] _) ?_
       refine zk ⟨?_⟩
       refine v_cond _ rfl ?_ ?_
       ·intro hc6
        exfalso; first | (simp at hc6; done) | (simp at hc6; omega)
       ·intro hc6
        try simp only [zC, reduceCtorEq] at hc6
        refine v_skip ?_
        refine n49 _ _ (weak_keep [8, 11] _) ?_
        refine zk ⟨?_⟩
        refine v_seq ?_; intro Q53 n53 e53 r53
        refine v_region ?_; intro K54 k54
        refine zAssign ⟨?_⟩
        refine k54 _ ?_
        refine n53 _ _ (weak_keep [8, 11, 12] _) ?_
        refine zk ⟨?_⟩
        refine v_seq ?_; intro Q55 n55 e55 r55
        refine v_region ?_; intro K56 k56
        refine zMove ⟨?_⟩
        refine zMove ⟨?_⟩
        refine zc (c9) ⟨?_⟩
        refine zAssign ⟨?_⟩
        refine k56 _ ?_
        apply n55
        ·refine weak_trans (weak_keep [11, 12] _) (weak_comp [] (by decide) (by simp) ?_ ?_)
         ·simp [keep_mk, keepE_nil, keepE_cons, look_cons, V.only, V.onlyL, idx] <;> (first | rfl | decide)
         ·simp [keep_mk, Blk.kindIs, fillK_mix]
        simp only [keep_mk, keepE_nil, keepE_cons, look_cons, look_nil, Nat.reduceEqDiff, reduceIte, St.comp, List.map_cons, List.map_nil, V.ren, V.renL, idx, List.getD_cons_zero, List.getD_cons_succ, Nat.reduceBEq, cond_true, cond_false, Option.map_some, Option.getD_some, Nat.reduceAdd, beq_dec, decide_true, decide_false]
        skip
        refine v_seq ?_; intro Q57 n57 e57 r57
        refine v_seq ?_; intro Q58 n58 e58 r58
        refine v_region ?_; intro K59 k59
        refine zMove ⟨?_⟩
        refine zBinOp ⟨?_⟩
        refine k59 _ ?_
        refine n58 _ _ (weak_keep [11, 12, 97] _) ?_
        refine zk ⟨?_⟩
        refine v_cond _ rfl ?_ ?_
        ·intro hc7
         exfalso; first | (simp at hc7; done) | (simp at hc7; omega)
        ·intro hc7
         try simp only [zC, reduceCtorEq] at hc7
         refine v_skip ?_
         refine n57 _ _ (weak_keep [11, 12] _) ?_
         refine zk ⟨?_⟩
         refine v_seq ?_; intro Q61 n61 e61 r61
         refine v_seq ?_; intro Q62 n62 e62 r62
         refine v_region ?_; intro K63 k63
         refine zMove ⟨?_⟩
         refine zMove ⟨?_⟩
         refine zBinOp ⟨?_⟩
         refine k63 _ ?_
         refine n62 _ _ (weak_keep [100] _) ?_
         refine zk ⟨?_⟩
         refine v_cond _ rfl ?_ ?_
         ·intro hc8
          exfalso; first | (simp at hc8; done) | (simp at hc8; omega)
         ·intro hc8
          try simp only [zC, reduceCtorEq] at hc8
          refine v_skip ?_
          refine n61 _ _ (weak_keep [] _) ?_
          refine zk ⟨?_⟩
          refine v_seq ?_; intro Q65 n65 e65 r65
          refine v_region ?_; intro K66 k66
          refine zAssign ⟨?_⟩
          refine k66 _ ?_
          refine n65 _ _ (weak_keep [4] _) ?_
          refine zk ⟨?_⟩
          refine v_ret ?_
          refine r0 _ ?_
          refine zf ⟨?_⟩
          exact ret_pure rfl rfl (.inl rfl)
end Go.Proofs.Ytldnelkcmffiaaa
