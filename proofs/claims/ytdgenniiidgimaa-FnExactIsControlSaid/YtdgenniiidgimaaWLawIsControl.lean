/- What functions compute (LawIsControl). No condition. -/
import Derived.Test.YtdgenniiidgimaaTy
import Derived.Test.YtdgenniiidgimaaVmG
import Derived.Test.YtdgenniiidgimaaWCtlZ
import Derived.Test.YtdgenniiidgimaaWLawK
import Derived.Test.YtdgenniiidgimaaWTown2
import Derived.Test.YtdgenniiidgimaaWCtlS
import Derived.Test.YtdgenniiidgimaaWCtlI
set_option linter.unusedSimpArgs false
set_option linter.unusedVariables false
set_option linter.defProp false
namespace Go.Proofs.Ytdgenniiidgimaa
open Go Go.Vm

set_option maxHeartbeats 6000000 in
theorem lawIsControl_con (nss : Int) (ss : List (Int × Int × Int)) (flc : List (ByteArray × Int × Int × Int × Int)) (inc : List (Int × Int × Bool × List ByteArray)) (wsc : List (Int × List Int)) (hss : ss.length ≤ 9223372036854775807) (hfc : flc.length ≤ 9223372036854775807) (hfsc : ∀ t ∈ flc, t.1.size ≤ 9223372036854775807) (hic : inc.length ≤ 9223372036854775807) (hisc : ∀ t ∈ inc, t.2.2.2.length ≤ 9223372036854775807 ∧ ∀ s ∈ t.2.2.2, s.size ≤ 9223372036854775807) (hwc : wsc.length ≤ 9223372036854775807) (hwsc : ∀ t ∈ wsc, t.2.length ≤ 9223372036854775807) : Con Try.prog 8 [.agg [.int .i64 nss, .sl (ss.map (fun t : Int × Int × Int => V.agg [V.int .i64 t.1, V.int .i64 t.2.1, V.int .i64 t.2.2]))], .agg [.sl (flc.map (fun t : ByteArray × Int × Int × Int × Int => V.agg [V.str t.1, V.int .i64 t.2.1, V.int .i64 t.2.2.1, V.int .i64 t.2.2.2.1, V.int .i64 t.2.2.2.2])), .sl (inc.map (fun t : Int × Int × Bool × List ByteArray => V.agg [V.int .i64 t.1, V.int .i64 t.2.1, V.bool t.2.2.1, V.sl (t.2.2.2.map V.str)])), .sl (wsc.map (fun t : Int × List Int => V.agg [V.int .i64 t.1, V.sl (t.2.map (V.int .i64))]))]] [] (.bool true) [] := by
 refine v_con [.tmp 4] [] Try.func8 rfl rfl rfl (by simp [Try.ntmps8]) ?_
 intro Q0 n0 r0
 simp only [Try.ntmps8, envFrom, Nat.reduceAdd]
 have T := Tys.mk (And.intro Ty.t3 (And.intro Ty.t4 (And.intro Ty.t9 (And.intro Ty.t26 (And.intro Ty.t61 (And.intro Ty.t63 (And.intro Ty.t64 (And.intro Ty.t70 (And.intro Ty.t72 (And.intro Ty.t74 (And.intro Ty.t84 (And.intro Ty.t85 (And.intro Ty.t87 (And.intro Ty.t93 (And.intro Ty.t99 (And.intro Ty.t100 (And.intro Ty.t102 (And.intro Ty.t133 (And.intro Ty.t141 (And.intro Ty.t182 (And.intro Ty.t184 (And.intro Ty.t192 (And.intro Ty.t195 (And.intro Ty.t205 Ty.t207))))))))))))))))))))))))
 have F := Fc.mk True.intro
 refine v_seq ?_; intro Q1 n1 e1 r1
 refine v_region ?_; intro K2 k2
 refine zBox ⟨?_⟩
 refine zBox ⟨?_⟩
 refine zAssign ⟨?_⟩
 refine k2 _ ?_
 refine n1 _ _ (weak_keep [2, 3] _) ?_
 refine zk ⟨?_⟩
 refine v_seq ?_; intro Q3 n3 e3 r3
 refine v_region ?_; intro K4 k4
 refine zAssign ⟨?_⟩
 refine k4 _ ?_
 refine n3 _ _ (weak_keep [2, 3, 5] _) ?_
 refine zk ⟨?_⟩
 refine v_seq ?_; intro Q5 n5 e5 r5
 refine v_region ?_; intro K6 k6
 refine zLoad ⟨?_⟩
 refine zMove ⟨?_⟩
 refine zc (szTown_con nss ss (1048576 : Int) (⟨by omega, by omega⟩ : (0 : Int) ≤ 1048576 ∧ (1048576 : Int) ≤ 1048576) hss) ⟨?_⟩
 refine zAssign ⟨?_⟩
 refine k6 _ ?_
 refine n5 _ _ (weak_keep [2, 3, 5] _) ?_
 refine zk ⟨?_⟩
 refine v_seq ?_; intro Q7 n7 e7 r7
 refine v_seq ?_; intro Q8 n8 e8 r8
 refine v_region ?_; intro K9 k9
 refine zMove ⟨?_⟩
 refine zBinOp ⟨?_⟩
 refine k9 _ ?_
 refine n8 _ _ (weak_keep [2, 3, 5, 14] _) ?_
 refine zk ⟨?_⟩
 refine v_condS _ rfl ?_ ?_
 ·intro hc0
  refine v_seq ?_; intro Q11 n11 e11 r11
  refine v_region ?_; intro K12 k12
  refine zAssign ⟨?_⟩
  refine k12 _ ?_
  refine n11 _ _ (weak_keep [4] _) ?_
  refine zk ⟨?_⟩
  refine v_ret ?_
  refine r7 _ ?_
  refine r0 _ ?_
  refine zf ⟨?_⟩
  exact ret_pure rfl rfl (.inl rfl)
 ·intro hc0
  obtain ⟨bss, q1⟩ := szIf (⟨by omega, by omega⟩ : (0 : Int) ≤ 1048576 ∧ (1048576 : Int) ≤ 1048576).2 hc0
  refine v_skip ?_
  refine n7 _ _ (weak_keep [2, 3, 5] _) ?_
  refine zk ⟨?_⟩
  refine v_seq ?_; intro Q13 n13 e13 r13
  refine v_region ?_; intro K14 k14
  refine zLoad ⟨?_⟩
  refine zMove ⟨?_⟩
  refine zc (szControl_con (if (1048576 : Int) - (ss.length : Int) < 0 then -1 else (1048576 : Int) - (ss.length : Int)) flc inc wsc q1 hfc hfsc hic hisc hwc hwsc) ⟨?_⟩
  refine zAssign ⟨?_⟩
  refine k14 _ ?_
  refine n13 _ _ (weak_keep [2, 3, 5] _) ?_
  refine zk ⟨?_⟩
  refine v_seq ?_; intro Q15 n15 e15 r15
  refine v_seq ?_; intro Q16 n16 e16 r16
  refine v_region ?_; intro K17 k17
  refine zMove ⟨?_⟩
  refine zBinOp ⟨?_⟩
  refine k17 _ ?_
  refine n16 _ _ (weak_keep [2, 3, 19] _) ?_
  refine zk ⟨?_⟩
  refine v_condS _ rfl ?_ ?_
  ·intro hc1
   refine v_seq ?_; intro Q19 n19 e19 r19
   refine v_region ?_; intro K20 k20
   refine zAssign ⟨?_⟩
   refine k20 _ ?_
   refine n19 _ _ (weak_keep [4] _) ?_
   refine zk ⟨?_⟩
   refine v_ret ?_
   refine r15 _ ?_
   refine r0 _ ?_
   refine zf ⟨?_⟩
   exact ret_pure rfl rfl (.inl rfl)
  ·intro hc1
   obtain ⟨bfc, bic, binc, bwc, bwnc, q2⟩ := szIfC q1.1 q1.2 hc1
   refine v_skip ?_
   refine n15 _ _ (weak_keep [2, 3] _) ?_
   refine zk ⟨?_⟩
   refine v_seq ?_; intro Q21 n21 e21 r21
   refine v_draw (by kernel_rfl) ?_; intro K22 q22 k22
   show aAny _ _ _ _ 6 (Array.replicate 6 false) _
   refine zdLoadX q22 true 0 20 ?_
   refine zdLoadX q22 true 2 22 ?_
   refine zoc 1 (toTown_con nss ss bss) ⟨?_⟩
   refine zoc 3 (toControl_con flc inc wsc bfc bic binc bwc bwnc) ⟨?_⟩
   refine zoc 4 (specIsControl_con nss ss flc inc wsc bss bfc hfsc bic binc (fun x h => (hisc x h).2) bwc bwnc) ⟨?_⟩
   refine zoAssign 5 ⟨?_⟩
   refine aAny_done (by kernel_rfl) ?_
   refine k22 _ ?_
   refine n21 _ _ (weak_keep [2, 3, 6] _) ?_
   refine zk ⟨?_⟩
   refine v_seq ?_; intro Q23 n23 e23 r23
   refine v_region ?_; intro K24 k24
   refine zLoad ⟨?_⟩
   refine zc (toTown_con nss ss bss) ⟨?_⟩
   refine zAlloc ⟨?_⟩
   refine zStore ⟨?_⟩
   refine k24 _ ?_
   refine n23 _ _ (weak_keep [2, 3, 6, 7] _) ?_
   refine zk ⟨?_⟩
   refine v_seq ?_; intro Q25 n25 e25 r25
   refine v_region ?_; intro K26 k26
   refine zLoad ⟨?_⟩
   refine zc (toControl_con flc inc wsc bfc bic binc bwc bwnc) ⟨?_⟩
   refine zAlloc ⟨?_⟩
   refine zStore ⟨?_⟩
   refine k26 _ ?_
   refine n25 _ _ (weak_keep [2, 3, 6, 7, 8] _) ?_
   refine zk ⟨?_⟩
   refine v_seq ?_; intro Q27 n27 e27 r27
   refine v_region ?_; intro K28 k28
   refine zLoad ⟨?_⟩
   refine zLoad ⟨?_⟩
   refine zc (implIsControl_con nss ss flc inc wsc bss bfc hfsc bic binc (fun x h => (hisc x h).2) bwc bwnc) ⟨?_⟩
   refine zAssign ⟨?_⟩
   refine k28 _ ?_
   refine n27 _ _ (weak_keep [2, 3, 6, 7, 8, 9] _) ?_
   refine zk ⟨?_⟩
   refine v_seq ?_; intro Q29 n29 e29 r29
   refine v_seq ?_; intro Q30 n30 e30 r30
   refine v_region ?_; intro K31 k31
   refine zMove ⟨?_⟩
   refine zMove ⟨?_⟩
   refine zBinOp ⟨?_⟩
   refine k31 _ ?_
   refine n30 _ _ (weak_keep [2, 3, 7, 8, 34] _) ?_
   refine zk ⟨?_⟩
   refine v_cond _ rfl ?_ ?_
   ·intro hc2
    exfalso; first | (simp at hc2; done) | (simp at hc2; omega)
   ·intro hc2
    try simp only [zC, reduceCtorEq] at hc2
    refine v_skip ?_
    refine n29 _ _ (weak_keep [2, 3, 7, 8] _) ?_
    refine zk ⟨?_⟩
    refine v_seq ?_; intro Q33 n33 e33 r33
    refine v_seq ?_; intro Q34 n34 e34 r34
    refine v_draw (by kernel_rfl) ?_; intro K35 q35 k35
    show aAny _ _ _ _ 5 (Array.replicate 5 false) _
    refine zdLoadX q35 true 0 35 ?_
    refine zdLoadX q35 true 1 36 ?_
    refine zoc 2 (toTown_con nss ss bss) ⟨?_⟩
    refine zoc 3 (eqTown_con nss ss bss) ⟨?_⟩
    refine zdUnOp q35 true 4 39 ?_
    refine aAny_done (by kernel_rfl) ?_
    refine k35 _ ?_
    refine n34 _ _ (weak_keep [3, 8, 39] _) ?_
    refine zk ⟨?_⟩
    refine v_cond _ rfl ?_ ?_
    ·intro hc3
     exfalso; first | (simp at hc3; done) | (simp at hc3; omega)
    ·intro hc3
     try simp only [zC, reduceCtorEq] at hc3
     refine v_skip ?_
     refine n33 _ _ (weak_keep [3, 8] _) ?_
     refine zk ⟨?_⟩
     refine v_seq ?_; intro Q37 n37 e37 r37
     refine v_seq ?_; intro Q38 n38 e38 r38
     refine v_draw (by kernel_rfl) ?_; intro K39 q39 k39
     show aAny _ _ _ _ 5 (Array.replicate 5 false) _
     refine zdLoadX q39 true 0 40 ?_
     refine zdLoadX q39 true 1 41 ?_
     refine zoc 2 (toControl_con flc inc wsc bfc bic binc bwc bwnc) ⟨?_⟩
     refine zoc 3 (eqControl_con flc inc wsc bfc bic binc bwc bwnc) ⟨?_⟩
     refine zdUnOp q39 true 4 44 ?_
     refine aAny_done (by kernel_rfl) ?_
     refine k39 _ ?_
     refine n38 _ _ (weak_keep [44] _) ?_
     refine zk ⟨?_⟩
     refine v_cond _ rfl ?_ ?_
     ·intro hc4
      exfalso; first | (simp at hc4; done) | (simp at hc4; omega)
     ·intro hc4
      try simp only [zC, reduceCtorEq] at hc4
      refine v_skip ?_
      refine n37 _ _ (weak_keep [] _) ?_
      refine zk ⟨?_⟩
      refine v_seq ?_; intro Q41 n41 e41 r41
      refine v_region ?_; intro K42 k42
      refine zAssign ⟨?_⟩
      refine k42 _ ?_
      refine n41 _ _ (weak_keep [4] _) ?_
      refine zk ⟨?_⟩
      refine v_ret ?_
      refine r0 _ ?_
      refine zf ⟨?_⟩
      exact ret_pure rfl rfl (.inl rfl)
end Go.Proofs.Ytdgenniiidgimaa
