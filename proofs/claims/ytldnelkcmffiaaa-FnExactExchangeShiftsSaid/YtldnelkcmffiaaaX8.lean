/- What functions compute. No condition. -/
import Derived.Test.YtldnelkcmffiaaaUty
import Derived.Test.YtldnelkcmffiaaaUmG
import Derived.Test.YtldnelkcmffiaaaX1
import Derived.Test.YtldnelkcmffiaaaX7
import Derived.Test.YtldnelkcmffiaaaX3
import Derived.Test.YtldnelkcmffiaaaX4
set_option linter.unusedSimpArgs false
set_option linter.unusedVariables false
set_option linter.defProp false
namespace Go.Proofs.Ytldnelkcmffiaaa
open Go Go.Vm

set_option maxHeartbeats 6000000 in
theorem lawExchangeShifts_con (ll : List (List Int)) (ad bd cd : Int) (sa : Int) (sb : Int) (x : Int) (y : Int) (hll : ll.length ≤ 9223372036854775807) (hsll : ∀ l ∈ ll, l.length ≤ 9223372036854775807) : Con Try.prog 4 [.sl (ll.map fun l => V.sl (l.map (V.int .i64))), .agg [.int .i64 ad, .int .i64 bd, .int .i64 cd], .int .i64 sa, .int .i64 sb, .int .i64 x, .int .i64 y] [] (.bool true) [] := by
 refine v_con [.tmp 12] [(18, [0])] Try.func4 rfl rfl rfl (by simp [Try.ntmps4]) ?_
 intro Q0 n0 r0
 simp only [Try.ntmps4, envFrom, Nat.reduceAdd]
 have T := Tys.mk (And.intro Ty.t3 (And.intro Ty.t4 (And.intro Ty.t30 (And.intro Ty.t32 (And.intro Ty.t37 Ty.t41)))))
 have F := Fc.mk True.intro
 refine v_seq ?_; intro Q1 n1 e1 r1
 refine v_region ?_; intro K2 k2
 refine zBox ⟨?_⟩
 refine zAssign ⟨?_⟩
 refine k2 _ ?_
 refine n1 _ _ (weak_keep [0, 2, 3, 4, 5, 7] _) ?_
 refine zk ⟨?_⟩
 refine v_seq ?_; intro Q3 n3 e3 r3
 refine v_region ?_; intro K4 k4
 refine zAssign ⟨?_⟩
 refine k4 _ ?_
 refine n3 _ _ (weak_keep [0, 2, 3, 4, 5, 7, 13] _) ?_
 refine zk ⟨?_⟩
 refine v_seq ?_; intro Q5 n5 e5 r5
 refine v_region ?_; intro K6 k6
 refine zMove ⟨?_⟩
 refine zMove ⟨?_⟩
 refine zc (szIntSS_con (1048576 : Int) ll (⟨by omega, by omega⟩ : (0 : Int) ≤ 1048576 ∧ (1048576 : Int) ≤ 1048576) hll hsll) ⟨?_⟩
 refine zAssign ⟨?_⟩
 refine k6 _ ?_
 refine n5 _ _ (weak_keep [0, 2, 3, 4, 5, 7, 13] _) ?_
 refine zk ⟨?_⟩
 refine v_seq ?_; intro Q7 n7 e7 r7
 refine v_seq ?_; intro Q8 n8 e8 r8
 refine v_region ?_; intro K9 k9
 refine zMove ⟨?_⟩
 refine zBinOp ⟨?_⟩
 refine k9 _ ?_
 refine n8 _ _ (weak_keep [0, 2, 3, 4, 5, 7, 28] _) ?_
 refine zk ⟨?_⟩
 refine v_condS _ rfl ?_ ?_
 ·intro hc0
  refine v_seq ?_; intro Q11 n11 e11 r11
  refine v_region ?_; intro K12 k12
  refine zAssign ⟨?_⟩
  refine k12 _ ?_
  refine n11 _ _ (weak_keep [12] _) ?_
  refine zk ⟨?_⟩
  refine v_ret ?_
  refine r7 _ ?_
  refine r0 _ ?_
  refine zf ⟨?_⟩
  exact ret_pure rfl rfl (.inl rfl)
 ·intro hc0
  obtain ⟨bll, sll, tll, q1⟩ := szIfSS (⟨by omega, by omega⟩ : (0 : Int) ≤ 1048576 ∧ (1048576 : Int) ≤ 1048576).1 (⟨by omega, by omega⟩ : (0 : Int) ≤ 1048576 ∧ (1048576 : Int) ≤ 1048576).2 hc0
  have tpll := totSS_pos ll
  obtain ⟨hT1, hT2⟩ := exT_facts (a := ad) (b := bd) (c := cd) (sa := sa) (sb := sb) (x := x) (y := y) bll sll
  have hTt := totSS_leN hT2
  have hTp := totSS_pos (orNil (exOK ll ad bd cd sa sb x y) (exL ll sa sb x y))
  have c1 := toIntSS_con ll bll sll
  have c2 := toDuty_con ad bd cd
  have c3 := specExch_con ll ad bd cd sa sb x y bll sll
  have c4 := implExch_con ll ad bd cd sa sb x y bll sll
  have c5 := eqIntSS_con (orNil (exOK ll ad bd cd sa sb x y) (exL ll sa sb x y)) (orNil (exOK ll ad bd cd sa sb x y) (exL ll sa sb x y)) hT1 hT2
  have c6 := eqIntSS_con ll ll bll sll
  have c7 := markIntSS_con ll (1) (fillK ll.length) (fillK_or _) bll sll ⟨by omega, by omega⟩
  have c8 := markIntSS_con (orNil (exOK ll ad bd cd sa sb x y) (exL ll sa sb x y)) (1) (fillK (orNil (exOK ll ad bd cd sa sb x y) (exL ll sa sb x y)).length) (fillK_or _) hT1 hT2 ⟨by omega, by omega⟩
  have c9 := heldIntSS_con (orNil (exOK ll ad bd cd sa sb x y) (exL ll sa sb x y)) (1) hT1 hT2 ⟨by omega, by omega⟩
  generalize (markSS (1) ll).map (fun l : List Int => V.sl (l.map (V.int .i64))) = L1 at c1 c2 c3 c4 c5 c6 c7 c8 c9 ⊢
  generalize (markSS (1) (orNil (exOK ll ad bd cd sa sb x y) (exL ll sa sb x y))).map (fun l : List Int => V.sl (l.map (V.int .i64))) = L2 at c1 c2 c3 c4 c5 c6 c7 c8 c9 ⊢
  generalize ll.map (fun l : List Int => V.sl (l.map (V.int .i64))) = L3 at c1 c2 c3 c4 c5 c6 c7 c8 c9 ⊢
  generalize (orNil (exOK ll ad bd cd sa sb x y) (exL ll sa sb x y)).map (fun l : List Int => V.sl (l.map (V.int .i64))) = L4 at c1 c2 c3 c4 c5 c6 c7 c8 c9 ⊢
  refine v_skip ?_
  refine n7 _ _ (weak_keep [0, 2, 3, 4, 5, 7] _) ?_
  refine zk ⟨?_⟩
  refine v_seq ?_; intro Q13 n13 e13 r13
  refine v_draw (by kernel_rfl) ?_; intro K14 q14 k14
  show aAny _ _ _ _ 14 (Array.replicate 14 false) _
  refine zdMove q14 true 0 30 ?_
  refine zdLoadX q14 true 2 32 ?_
  refine zdMove q14 true 4 34 ?_
  refine zdMove q14 true 5 35 ?_
  refine zdMove q14 true 6 36 ?_
  refine zdMove q14 true 7 37 ?_
  refine zoc 1 (c1) ⟨?_⟩
  refine zoc 3 (c2) ⟨?_⟩
  refine zoc 8 (c3) ⟨?_⟩
  refine zdMove q14 true 9 29 ?_
  refine zdExtract q14 true 10 39 ?_
  refine zdExtract q14 true 11 40 ?_
  refine zoAssign 12 ⟨?_⟩
  refine zoAssign 13 ⟨?_⟩
  refine aAny_done (by kernel_rfl) ?_
  refine k14 _ ?_
  refine n13 _ _ (weak_keep [0, 2, 3, 4, 5, 7, 14, 15] _) ?_
  refine zk ⟨?_⟩
  refine v_seq ?_; intro Q15 n15 e15 r15
  refine v_region ?_; intro K16 k16
  refine zMove ⟨?_⟩
  refine zc (c1) ⟨?_⟩
  refine zAssign ⟨?_⟩
  refine k16 _ ?_
  refine n15 _ _ (weak_keep [0, 2, 3, 4, 5, 7, 14, 15, 16] _) ?_
  refine zk ⟨?_⟩
  refine v_seq ?_; intro Q17 n17 e17 r17
  refine v_region ?_; intro K18 k18
  refine zMove ⟨?_⟩
  refine zLoad ⟨?_⟩
  refine zc (c2) ⟨?_⟩
  refine zMove ⟨?_⟩
  refine zMove ⟨?_⟩
  refine zMove ⟨?_⟩
  refine zMove ⟨?_⟩
  refine zc (c4) ⟨?_⟩
  refine zMove ⟨?_⟩
  refine zExtract ⟨?_⟩
  refine zExtract ⟨?_⟩
  refine zAssign ⟨?_⟩
  refine zAssign ⟨?_⟩
  refine k18 _ ?_
  refine n17 _ _ (weak_keep [0, 2, 3, 4, 5, 7, 14, 15, 16, 17, 18] _) ?_
  refine zk ⟨?_⟩
  refine v_seq ?_; intro Q19 n19 e19 r19
  refine v_seq ?_; intro Q20 n20 e20 r20
  refine v_region ?_; intro K21 k21
  refine zMove ⟨?_⟩
  refine zMove ⟨?_⟩
  refine zc (c5) ⟨?_⟩
  refine zUnOp ⟨?_⟩
  refine zMove ⟨?_⟩
  refine zgMove ⟨?_⟩
  refine zgMove ⟨?_⟩
  refine zgBinOp ⟨?_⟩
  refine zPick ⟨?_⟩
  refine k21 _ ?_
  refine n20 _ _ (weak_keep [0, 2, 3, 4, 5, 7, 14, 15, 16, 17, 18, 62] _) ?_
  refine zk ⟨?_⟩
  refine v_cond _ rfl ?_ ?_
  ·intro hc1
   exfalso; first | (simp at hc1; done) | (simp at hc1; omega)
  ·intro hc1
   try simp only [zC, reduceCtorEq] at hc1
   refine v_skip ?_
   refine n19 _ _ (weak_keep [0, 2, 3, 4, 5, 7, 14, 15, 16, 17, 18] _) ?_
   refine zk ⟨?_⟩
   refine v_seq ?_; intro Q23 n23 e23 r23
   refine v_seq ?_; intro Q24 n24 e24 r24
   refine v_region ?_; intro K25 k25
   refine zMove ⟨?_⟩
   refine zMove ⟨?_⟩
   refine zc (c1) ⟨?_⟩
   refine zc (c6) ⟨?_⟩
   refine zUnOp ⟨?_⟩
   refine k25 _ ?_
   refine n24 _ _ (weak_keep [0, 2, 3, 4, 5, 7, 14, 15, 16, 17, 18, 67] _) ?_
   refine zk ⟨?_⟩
   refine v_cond _ rfl ?_ ?_
   ·intro hc2
    exfalso; first | (simp at hc2; done) | (simp at hc2; omega)
   ·intro hc2
    try simp only [zC, reduceCtorEq] at hc2
    refine v_skip ?_
    refine n23 _ _ (weak_keep [0, 2, 3, 4, 5, 7, 14, 15, 16, 17, 18] _) ?_
    refine zk ⟨?_⟩
    refine v_seq ?_; intro Q27 n27 e27 r27
    refine v_region ?_; intro K28 k28
    refine zAssign ⟨?_⟩
    refine k28 _ ?_
    refine n27 _ _ (weak_keep [0, 2, 3, 4, 5, 7, 14, 15, 16, 17, 18, 19] _) ?_
    refine zk ⟨?_⟩
    refine v_seq ?_; intro Q29 n29 e29 r29
    refine v_region ?_; intro K30 k30
    refine zMove ⟨?_⟩
    refine zMove ⟨?_⟩
    refine zcl (c7) ⟨?_⟩
    refine zAssign ⟨?_⟩
    refine k30 _ ?_
    refine n29 _ _ (weak_keep [0, 2, 3, 4, 5, 7, 14, 15, 17, 18, 19] _) ?_
    refine zk ⟨?_⟩
    refine v_seq ?_; intro Q31 n31 e31 r31
    refine v_seq ?_; intro Q32 n32 e32 r32
    refine v_region ?_; intro K33 k33
    refine zMove ⟨?_⟩
    refine zBinOp ⟨?_⟩
    refine zMove ⟨?_⟩
    refine zgMove ⟨?_⟩
    refine zgMove ⟨?_⟩
    refine zgc (c5) ⟨?_⟩
    refine zgUnOp ⟨?_⟩
    refine zPick ⟨?_⟩
    refine zMove ⟨?_⟩
    refine zgMove ⟨?_⟩
    refine zgMove ⟨?_⟩
    refine zgBinOp ⟨?_⟩
    refine zPick ⟨?_⟩
    refine k33 _ ?_
    refine n32 _ _ (weak_keep [0, 2, 3, 4, 5, 7, 14, 15, 17, 83] _) ?_
    refine zk ⟨?_⟩
    refine v_cond _ rfl ?_ ?_
    ·intro hc3
     exfalso; first | (simp at hc3; done) | (simp at hc3; omega)
    ·intro hc3
     try simp only [zC, reduceCtorEq] at hc3
     refine v_skip ?_
     refine n31 _ _ (weak_keep [0, 2, 3, 4, 5, 7, 14, 15, 17] _) ?_
     refine zk ⟨?_⟩
     refine v_seq ?_; intro Q35 n35 e35 r35
     refine v_region ?_; intro K36 k36
     refine zAssign ⟨?_⟩
     refine k36 _ ?_
     refine n35 _ _ (weak_keep [0, 2, 3, 4, 5, 7, 14, 15, 17, 20] _) ?_
     refine zk ⟨?_⟩
     refine v_seq ?_; intro Q37 n37 e37 r37
     refine v_region ?_; intro K38 k38
     refine zMove ⟨?_⟩
     refine zMove ⟨?_⟩
     refine zcl (c8) ⟨?_⟩
     refine zAssign ⟨?_⟩
     refine k38 _ ?_
     refine n37 _ _ (weak_keep [0, 2, 3, 4, 5, 7, 14, 15, 17, 20] _) ?_
     refine zk ⟨?_⟩
     refine v_seq ?_; intro Q39 n39 e39 r39
     refine v_region ?_; intro K40 k40
     refine zAssign ⟨?_⟩
     refine k40 _ ?_
     refine n39 _ _ (weak_keep [0, 2, 3, 4, 5, 7, 14, 15, 17, 20, 21] _) ?_
     refine zk ⟨?_⟩
     refine v_seq ?_; intro Q41 n41 e41 r41
     refine v_region ?_; intro K42 k42
     refine zMove ⟨?_⟩
     refine zMove ⟨?_⟩
     refine zc (c9) ⟨?_⟩
     refine zAssign ⟨?_⟩
     refine k42 _ ?_
     refine n41 _ _ (weak_keep [0, 2, 3, 4, 5, 7, 14, 15, 17, 20, 21] _) ?_
     refine zk ⟨?_⟩
     refine v_seq ?_; intro Q43 n43 e43 r43
     refine v_seq ?_; intro Q44 n44 e44 r44
     refine v_region ?_; intro K45 k45
     refine zMove ⟨?_⟩
     refine zBinOp ⟨?_⟩
     refine k45 _ ?_
     refine n44 _ _ (weak_keep [0, 2, 3, 4, 5, 7, 14, 15, 17, 20, 21, 91] _) ?_
     refine zk ⟨?_⟩
     refine v_cond _ rfl ?_ ?_
     ·intro hc4
      exfalso; first | (simp at hc4; done) | (simp at hc4; omega)
     ·intro hc4
      try simp only [zC, reduceCtorEq] at hc4
      refine v_skip ?_
      refine n43 _ _ (weak_keep [0, 2, 3, 4, 5, 7, 14, 15, 17, 20, 21] _) ?_
      refine zk ⟨?_⟩
      refine v_seq ?_; intro Q47 n47 e47 r47
      refine v_seq ?_; intro Q48 n48 e48 r48
      refine v_region ?_; intro K49 k49
      refine zMove ⟨?_⟩
      refine zMove ⟨?_⟩
      refine zBinOp ⟨?_⟩
      refine k49 _ ?_
      refine n48 _ _ (weak_keep [0, 2, 3, 4, 5, 7, 14, 15, 17, 20, 94] _) ?_
      refine zk ⟨?_⟩
      refine v_cond _ rfl ?_ ?_
      ·intro hc5
       exfalso; first | (simp at hc5; done) | (simp at hc5; omega)
      ·intro hc5
       try simp only [zC, reduceCtorEq] at hc5
       refine v_skip ?_
       refine n47 _ _ (weak_keep [0, 2, 3, 4, 5, 7, 14, 15, 17, 20] _) ?_
       refine zk ⟨?_⟩
       refine v_seq ?_; intro Q51 n51 e51 r51
       refine v_draw (by kernel_rfl) ?_; intro K52 q52 k52
       show aAny _ _ _ _ 14 (Array.replicate 14 false) _
       refine zdMove q52 true 0 96 ?_
       refine zdLoadX q52 true 2 98 ?_
       refine zdMove q52 true 4 100 ?_
       refine zdMove q52 true 5 101 ?_
       refine zdMove q52 true 6 102 ?_
       refine zdMove q52 true 7 103 ?_
       refine zoc 1 (c1) ⟨?_⟩
       refine zoc 3 (c2) ⟨?_⟩
       refine zoc 8 (c4) ⟨?_⟩
       refine zdMove q52 true 9 95 ?_
       refine zdExtract q52 true 10 105 ?_
       refine zdExtract q52 true 11 106 ?_
       refine zoAssign 12 ⟨?_⟩
       refine zoAssign 13 ⟨?_⟩
       refine aAny_done (by kernel_rfl) ?_
       refine k52 _ ?_
       refine n51 _ _ (weak_keep [14, 15, 17, 20, 22, 23] _) ?_
       refine zk ⟨?_⟩
       refine v_seq ?_; intro Q53 n53 e53 r53
       refine v_seq ?_; intro Q54 n54 e54 r54
       refine v_region ?_; intro K55 k55
       refine zMove ⟨?_⟩
       refine zMove ⟨?_⟩
       refine zc (c5) ⟨?_⟩
       refine zUnOp ⟨?_⟩
       refine zMove ⟨?_⟩
       refine zgMove ⟨?_⟩
       refine zgMove ⟨?_⟩
       refine zgBinOp ⟨?_⟩
       refine zPick ⟨?_⟩
       refine k55 _ ?_
       refine n54 _ _ (weak_keep [17, 20, 115] _) ?_
       refine zk ⟨?_⟩
       refine v_cond _ rfl ?_ ?_
       ·intro hc6
        exfalso; first | (simp at hc6; done) | (simp at hc6; omega)
       ·intro hc6
        try simp only [zC, reduceCtorEq] at hc6
        refine v_skip ?_
        refine n53 _ _ (weak_keep [17, 20] _) ?_
        refine zk ⟨?_⟩
        refine v_seq ?_; intro Q57 n57 e57 r57
        refine v_region ?_; intro K58 k58
        refine zAssign ⟨?_⟩
        refine k58 _ ?_
        refine n57 _ _ (weak_keep [17, 20, 21] _) ?_
        refine zk ⟨?_⟩
        refine v_seq ?_; intro Q59 n59 e59 r59
        refine v_region ?_; intro K60 k60
        refine zMove ⟨?_⟩
        refine zMove ⟨?_⟩
        refine zc (c9) ⟨?_⟩
        refine zAssign ⟨?_⟩
        refine k60 _ ?_
        apply n59
        ·refine weak_trans (weak_keep [20, 21] _) (weak_comp [] (by decide) (by simp) ?_ ?_)
         ·simp [keep_mk, keepE_nil, keepE_cons, look_cons, V.only, V.onlyL, idx] <;> (first | rfl | decide)
         ·simp [keep_mk, Blk.kindIs, fillK_mix]
        simp only [keep_mk, keepE_nil, keepE_cons, look_cons, look_nil, Nat.reduceEqDiff, reduceIte, St.comp, List.map_cons, List.map_nil, V.ren, V.renL, idx, List.getD_cons_zero, List.getD_cons_succ, Nat.reduceBEq, cond_true, cond_false, Option.map_some, Option.getD_some, Nat.reduceAdd, beq_dec, decide_true, decide_false]
        skip
        refine v_seq ?_; intro Q61 n61 e61 r61
        refine v_seq ?_; intro Q62 n62 e62 r62
        refine v_region ?_; intro K63 k63
        refine zMove ⟨?_⟩
        refine zBinOp ⟨?_⟩
        refine k63 _ ?_
        refine n62 _ _ (weak_keep [20, 21, 120] _) ?_
        refine zk ⟨?_⟩
        refine v_cond _ rfl ?_ ?_
        ·intro hc7
         exfalso; first | (simp at hc7; done) | (simp at hc7; omega)
        ·intro hc7
         try simp only [zC, reduceCtorEq] at hc7
         refine v_skip ?_
         refine n61 _ _ (weak_keep [20, 21] _) ?_
         refine zk ⟨?_⟩
         refine v_seq ?_; intro Q65 n65 e65 r65
         refine v_seq ?_; intro Q66 n66 e66 r66
         refine v_region ?_; intro K67 k67
         refine zMove ⟨?_⟩
         refine zMove ⟨?_⟩
         refine zBinOp ⟨?_⟩
         refine k67 _ ?_
         refine n66 _ _ (weak_keep [123] _) ?_
         refine zk ⟨?_⟩
         refine v_cond _ rfl ?_ ?_
         ·intro hc8
          exfalso; first | (simp at hc8; done) | (simp at hc8; omega)
         ·intro hc8
          try simp only [zC, reduceCtorEq] at hc8
          refine v_skip ?_
          refine n65 _ _ (weak_keep [] _) ?_
          refine zk ⟨?_⟩
          refine v_seq ?_; intro Q69 n69 e69 r69
          refine v_region ?_; intro K70 k70
          refine zAssign ⟨?_⟩
          refine k70 _ ?_
          refine n69 _ _ (weak_keep [12] _) ?_
          refine zk ⟨?_⟩
          refine v_ret ?_
          refine r0 _ ?_
          refine zf ⟨?_⟩
          exact ret_pure rfl rfl (.inl rfl)
end Go.Proofs.Ytldnelkcmffiaaa
