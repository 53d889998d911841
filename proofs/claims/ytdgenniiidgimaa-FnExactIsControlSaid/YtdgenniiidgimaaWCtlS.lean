/- What functions compute (CtlS). No condition. -/
import Derived.Test.YtdgenniiidgimaaTy
import Derived.Test.YtdgenniiidgimaaVmG
import Derived.Test.YtdgenniiidgimaaWCtl
import Derived.Test.YtdgenniiidgimaaWDisp
import Derived.Test.YtdgenniiidgimaaWIncs
import Derived.Test.YtdgenniiidgimaaWInc
set_option linter.unusedSimpArgs false
set_option linter.unusedVariables false
set_option linter.defProp false
namespace Go.Proofs.Ytdgenniiidgimaa
open Go Go.Vm

set_option maxRecDepth 8000 in
set_option maxHeartbeats 4000000 in
theorem roGood_con (n : Int) (ss : List (Int × Int × Int)) (fl : List (ByteArray × Int × Int × Int × Int)) (ins : List (Int × Int × Bool × List ByteArray)) (ws : List (Int × List Int)) (hs : ss.length ≤ 1048576) (hl : fl.length ≤ 1048576) (hls : ∀ t ∈ fl, t.1.size ≤ 9223372036854775807) (hil : ins.length ≤ 1048576) (hin : ∀ x ∈ ins, x.2.2.2.length ≤ 1048576) (his : ∀ x ∈ ins, ∀ s ∈ x.2.2.2, s.size ≤ 9223372036854775807) (hwl : ws.length ≤ 1048576) (hwn : ∀ x ∈ ws, x.2.length ≤ 1048576) : Con Try.prog 133 [.agg [.int .i64 n, .sl (ss.map (fun t : Int × Int × Int => V.agg [V.int .i64 t.1, V.int .i64 t.2.1, V.int .i64 t.2.2]))], .agg [.sl (fl.map (fun t : ByteArray × Int × Int × Int × Int => V.agg [V.str t.1, V.int .i64 t.2.1, V.int .i64 t.2.2.1, V.int .i64 t.2.2.2.1, V.int .i64 t.2.2.2.2])), .sl (ins.map (fun t : Int × Int × Bool × List ByteArray => V.agg [V.int .i64 t.1, V.int .i64 t.2.1, V.bool t.2.2.1, V.sl (t.2.2.2.map V.str)])), .sl (ws.map (fun t : Int × List Int => V.agg [V.int .i64 t.1, V.sl (t.2.map (V.int .i64))]))]] [] (.bool (ctlB n ss fl ins ws)) [] := by
 refine v_con [.tmp 4] [] Try.func133 rfl rfl rfl (by simp [Try.ntmps133]) ?_
 intro Q0 n0 r0
 simp only [Try.ntmps133, envFrom, Nat.reduceAdd]
 have T := Tys.mk (And.intro Ty.t3 (And.intro Ty.t4 (And.intro Ty.t9 (And.intro Ty.t26 (And.intro Ty.t70 (And.intro Ty.t72 (And.intro Ty.t74 (And.intro Ty.t84 (And.intro Ty.t85 (And.intro Ty.t87 (And.intro Ty.t93 (And.intro Ty.t141 (And.intro Ty.t182 (And.intro Ty.t192 Ty.t195))))))))))))))
 have F := Fc.mk True.intro
 refine v_seq ?_; intro Q1 n1 e1 r1
 refine v_region ?_; intro K2 k2
 refine zBox ⟨?_⟩
 refine zBox ⟨?_⟩
 refine zAssign ⟨?_⟩
 refine k2 _ ?_
 refine n1 _ _ (weak_keep [2, 3] _) ?_
 refine zk ⟨?_⟩
 refine v_seq ?_; intro Q3 n3 e3 r3
 refine v_seq ?_; intro Q4 n4 e4 r4
 refine v_region ?_; intro K5 k5
 refine zLoad ⟨?_⟩
 refine zFieldAddr ⟨?_⟩
 refine zLoad ⟨?_⟩
 refine zc (dsGood_con n ss fl hs hl hls) ⟨?_⟩
 refine zUnOp ⟨?_⟩
 refine zMove ⟨?_⟩
 refine zgFieldAddr ⟨?_⟩
 refine zgLoad ⟨?_⟩
 refine zgc (ixGood_con ins hil hin his) ⟨?_⟩
 refine zgUnOp ⟨?_⟩
 refine zPick ⟨?_⟩
 refine zMove ⟨?_⟩
 refine zgFieldAddr ⟨?_⟩
 refine zgLoad ⟨?_⟩
 refine zgLen ⟨?_⟩
 refine zgBinOp ⟨?_⟩
 refine zPick ⟨?_⟩
 refine k5 _ ?_
 refine n4 _ _ (weak_keep [2, 3, 29] _) ?_
 refine zk ⟨?_⟩
 refine v_condS _ rfl ?_ ?_
 ·intro hc0
  have hh : ctlH n ss fl ins ws = false := by cases hq : ctlH n ss fl ins ws with | false => rfl | true => (exfalso; simp [ctlH] at hq; (try simp at hc0); simp_all; first | done | omega)
  have hbad := ctl_h hh
  refine v_seq ?_; intro Q7 n7 e7 r7
  refine v_region ?_; intro K8 k8
  refine zAssign ⟨?_⟩
  refine k8 _ ?_
  refine n7 _ _ (weak_keep [4] _) ?_
  refine zk ⟨?_⟩
  refine v_ret ?_
  refine r3 _ ?_
  refine r0 _ ?_
  refine zf ⟨?_⟩
  exact ret_pure rfl (by rw [hbad]) (.inl rfl)
 ·intro hc0
  have hh : ctlH n ss fl ins ws = true := by simp [ctlH]; (try simp at hc0); first | (simp_all; done) | (simp_all; omega)
  obtain ⟨hd, hnd⟩ := ctlh_facts hh
  have hfl12 := hd.hfl
  have hn14 := hd.hn
  refine v_skip ?_
  refine n3 _ _ (weak_keep [2, 3] _) ?_
  refine zk ⟨?_⟩
  refine v_seq ?_; intro Q9 n9 e9 r9
  refine v_seq ?_; intro Q10 n10 e10 r10
  refine v_region ?_; intro K11 k11
  refine zFieldAddr ⟨?_⟩
  refine zLoad ⟨?_⟩
  refine zLen ⟨?_⟩
  refine zMove ⟨?_⟩
  refine k11 _ ?_
  refine n10 _ _ (weak_keep [2, 3, 31, 32, 33] _) ?_
  refine zk ⟨?_⟩
  refine v_block ?_; intro Q12 n12 x12 e12 r12
  refine v_loop (fun i => ⟨[(2, .ptr 0 0 0), (3, .ptr 1 0 0), (31, .sl (ins.map (fun t : Int × Int × Bool × List ByteArray => V.agg [V.int .i64 t.1, V.int .i64 t.2.1, V.bool t.2.2.1, V.sl (t.2.2.2.map V.str)]))), (32, .int .i64 ins.length), (33, .int .i64 (Nat.cast i))], [.box (.agg [.int .i64 n, .sl (ss.map (fun t : Int × Int × Int => V.agg [V.int .i64 t.1, V.int .i64 t.2.1, V.int .i64 t.2.2]))]) .shal, .box (.agg [.sl (fl.map (fun t : ByteArray × Int × Int × Int × Int => V.agg [V.str t.1, V.int .i64 t.2.1, V.int .i64 t.2.2.1, V.int .i64 t.2.2.2.1, V.int .i64 t.2.2.2.2])), .sl (ins.map (fun t : Int × Int × Bool × List ByteArray => V.agg [V.int .i64 t.1, V.int .i64 t.2.1, V.bool t.2.2.1, V.sl (t.2.2.2.map V.str)])), .sl (ws.map (fun t : Int × List Int => V.agg [V.int .i64 t.1, V.sl (t.2.map (V.int .i64))]))]) .shal], false, 111, 0⟩) (fun i => i ≤ ins.length ∧ (ins.drop i).all (inP n fl) = ins.all (inP n fl)) (fun i => ins.length - i) 0 ?_ ?_ ?_
  ·refine weak_bothS [2, 3, 31, 32, 33] [0, 1] ⟨?_⟩
   rfl
  ·exact ⟨Nat.zero_le _, rfl⟩
  ·rintro i hok13 Q13 n13 e13 r13
   obtain ⟨hi1, hR⟩ := hok13
   refine v_seq ?_; intro Q14 n14 e14 r14
   refine v_region ?_; intro K15 k15
   refine zBinOp ⟨?_⟩
   refine k15 _ ?_
   refine n14 _ _ (weak_keep [2, 3, 31, 32, 33, 34] _) ?_
   refine zk ⟨?_⟩
   refine v_seq ?_; intro Q16 n16 e16 r16
   refine v_condS _ rfl ?_ ?_
   ·intro hc1
    have hlt : i < ins.length := by omega
    obtain ⟨⟨x0, x1, x2, x3⟩, hx⟩ : ∃ x : Int × Int × Bool × List ByteArray, ins[i]? = some x := ⟨ins[i]'(by omega), List.getElem?_eq_getElem (by omega)⟩
    have hlx := hin _ (List.mem_of_getElem? hx)
    have hnx := hnd _ (List.mem_of_getElem? hx)
    simp only [] at hlx hnx
    have hst := all_step (p := inP n fl) hx
    have hip : inP n fl (x0, x1, x2, x3) = (hasB n x1 && x3.all (fun s => decide (0 ≤ findA fl s))) := rfl
    have hhb := has_facts (x := x1) hn14
    refine v_skip ?_
    refine n16 _ _ (weak_keep [2, 3, 31, 32, 33] _) ?_
    refine zk ⟨?_⟩
    refine v_seq ?_; intro Q18 n18 e18 r18
    refine v_block ?_; intro Q19 n19 x19 e19 r19
    refine v_seq ?_; intro Q20 n20 e20 r20
    refine v_region ?_; intro K21 k21
    have F := Fc.mk (fun f => getD_map (f := f) hx)
    refine zIndexAddr ⟨?_⟩
    refine zLoad ⟨?_⟩
    refine zAlloc ⟨?_⟩
    refine zStore ⟨?_⟩
    refine k21 _ ?_
    refine n20 _ _ (weak_keep [2, 3, 6, 31, 32, 33] _) ?_
    refine zk ⟨?_⟩
    refine v_seq ?_; intro Q22 n22 e22 r22
    refine v_seq ?_; intro Q23 n23 e23 r23
    refine v_region ?_; intro K24 k24
    refine zFieldAddr ⟨?_⟩
    refine zLoad ⟨?_⟩
    refine zFieldAddr ⟨?_⟩
    refine zLoad ⟨?_⟩
    refine zBinOp ⟨?_⟩
    refine k24 _ ?_
    refine n23 _ _ (weak_keep [2, 3, 6, 31, 32, 33, 41] _) ?_
    refine zk ⟨?_⟩
    refine v_condS _ rfl ?_ ?_
    ·intro hc2
     have hh0 : hasB n x1 = false := by first | (simpa using hc2) | (rw [hhb, decide_eq_false (show ¬ x1 < n by (try simp at hc2); omega)]; simp)
     have hbad := ctl_i (ss := ss) (ws := ws) (show ins.all (inP n fl) = false by rw [← hR, hst, hip, hh0]; rfl)
     refine v_seq ?_; intro Q26 n26 e26 r26
     refine v_region ?_; intro K27 k27
     refine zAssign ⟨?_⟩
     refine k27 _ ?_
     refine n26 _ _ (weak_keep [4] _) ?_
     refine zk ⟨?_⟩
     refine v_ret ?_
     refine r22 _ ?_
     refine r19 _ ?_
     refine r18 _ ?_
     refine r13 _ ?_
     refine r12 _ ?_
     refine r9 _ ?_
     refine r0 _ ?_
     refine zf ⟨?_⟩
     exact ret_pure rfl (by rw [hbad]) (.inl rfl)
    ·intro hc2
     have hh1 : hasB n x1 = true := by first | (simpa using hc2) | (rw [hhb, decide_eq_true hnx, decide_eq_true (show x1 < n by (try simp at hc2); omega)]; rfl)
     refine v_skip ?_
     refine n22 _ _ (weak_keep [2, 3, 6, 31, 32, 33] _) ?_
     refine zk ⟨?_⟩
     refine v_seq ?_; intro Q28 n28 e28 r28
     refine v_region ?_; intro K29 k29
     refine zFieldAddr ⟨?_⟩
     refine zLoad ⟨?_⟩
     refine zLen ⟨?_⟩
     refine zMove ⟨?_⟩
     refine k29 _ ?_
     refine n28 _ _ (weak_keep [2, 3, 31, 32, 33, 43, 44, 45] _) ?_
     refine zk ⟨?_⟩
     refine v_block ?_; intro Q30 n30 x30 e30 r30
     refine v_loop (fun j => ⟨[(2, .ptr 0 0 0), (3, .ptr 1 0 0), (31, .sl (ins.map (fun t : Int × Int × Bool × List ByteArray => V.agg [V.int .i64 t.1, V.int .i64 t.2.1, V.bool t.2.2.1, V.sl (t.2.2.2.map V.str)]))), (32, .int .i64 ins.length), (33, .int .i64 (Nat.cast i)), (43, .sl (x3.map V.str)), (44, .int .i64 x3.length), (45, .int .i64 (Nat.cast j))], [.box (.agg [.int .i64 n, .sl (ss.map (fun t : Int × Int × Int => V.agg [V.int .i64 t.1, V.int .i64 t.2.1, V.int .i64 t.2.2]))]) .shal, .box (.agg [.sl (fl.map (fun t : ByteArray × Int × Int × Int × Int => V.agg [V.str t.1, V.int .i64 t.2.1, V.int .i64 t.2.2.1, V.int .i64 t.2.2.2.1, V.int .i64 t.2.2.2.2])), .sl (ins.map (fun t : Int × Int × Bool × List ByteArray => V.agg [V.int .i64 t.1, V.int .i64 t.2.1, V.bool t.2.2.1, V.sl (t.2.2.2.map V.str)])), .sl (ws.map (fun t : Int × List Int => V.agg [V.int .i64 t.1, V.sl (t.2.map (V.int .i64))]))]) .shal], false, 111, 0⟩) (fun j => j ≤ x3.length ∧ (x3.drop j).all (fun s => decide (0 ≤ findA fl s)) = x3.all (fun s => decide (0 ≤ findA fl s))) (fun j => x3.length - j) 0 ?_ ?_ ?_
     ·refine weak_bothS [2, 3, 31, 32, 33, 43, 44, 45] [0, 1] ⟨?_⟩
      rfl
     ·exact ⟨Nat.zero_le _, rfl⟩
     ·rintro j hok31 Q31 n31 e31 r31
      obtain ⟨hj1, hR1⟩ := hok31
      refine v_seq ?_; intro Q32 n32 e32 r32
      refine v_region ?_; intro K33 k33
      refine zBinOp ⟨?_⟩
      refine k33 _ ?_
      refine n32 _ _ (weak_keep [2, 3, 31, 32, 33, 43, 44, 45, 46] _) ?_
      refine zk ⟨?_⟩
      refine v_seq ?_; intro Q34 n34 e34 r34
      refine v_condS _ rfl ?_ ?_
      ·intro hc3
       have hlj : j < x3.length := by omega
       obtain ⟨s, hs1⟩ : ∃ s, x3[j]? = some s := ⟨_, List.getElem?_eq_getElem hlj⟩
       have hst1 := all_step (p := (fun s => decide (0 ≤ findA fl s))) hs1
       refine v_skip ?_
       refine n34 _ _ (weak_keep [2, 3, 31, 32, 33, 43, 44, 45] _) ?_
       refine zk ⟨?_⟩
       refine v_seq ?_; intro Q36 n36 e36 r36
       refine v_block ?_; intro Q37 n37 x37 e37 r37
       refine v_seq ?_; intro Q38 n38 e38 r38
       refine v_region ?_; intro K39 k39
       have F := Fc.mk (And.intro (fun f => getD_map (f := f) hx) (fun f => getD_map (f := f) hs1))
       refine zIndexAddr ⟨?_⟩
       refine zLoad ⟨?_⟩
       refine zAssign ⟨?_⟩
       refine k39 _ ?_
       refine n38 _ _ (weak_keep [2, 3, 8, 31, 32, 33, 43, 44, 45] _) ?_
       refine zk ⟨?_⟩
       refine v_seq ?_; intro Q40 n40 e40 r40
       refine v_region ?_; intro K41 k41
       refine zFieldAddr ⟨?_⟩
       refine zLoad ⟨?_⟩
       refine zMove ⟨?_⟩
       refine zc (apFind_con fl s hl) ⟨?_⟩
       refine zBinOp ⟨?_⟩
       refine k41 _ ?_
       refine n40 _ _ (weak_keep [2, 3, 31, 32, 33, 43, 44, 45, 53] _) ?_
       refine zk ⟨?_⟩
       refine v_condS _ rfl ?_ ?_
       ·intro hc4
        have hbad := ctl_i (ss := ss) (ws := ws) (show ins.all (inP n fl) = false by rw [← hR, hst, hip, show x3.all (fun s => decide (0 ≤ findA fl s)) = false by rw [← hR1, hst1, decide_eq_false (show ¬ 0 ≤ findA fl s by (try simp at hc4); omega)]; rfl]; simp)
        refine v_seq ?_; intro Q43 n43 e43 r43
        refine v_region ?_; intro K44 k44
        refine zAssign ⟨?_⟩
        refine k44 _ ?_
        refine n43 _ _ (weak_keep [4] _) ?_
        refine zk ⟨?_⟩
        refine v_ret ?_
        refine r37 _ ?_
        refine r36 _ ?_
        refine r31 _ ?_
        refine r30 _ ?_
        refine r19 _ ?_
        refine r18 _ ?_
        refine r13 _ ?_
        refine r12 _ ?_
        refine r9 _ ?_
        refine r0 _ ?_
        refine zf ⟨?_⟩
        exact ret_pure rfl (by rw [hbad]) (.inl rfl)
       ·intro hc4
        have hfs : 0 ≤ findA fl s := by (try simp at hc4); omega
        refine v_skip ?_
        refine n37 _ ?_
        refine n36 _ _ (weak_keep [2, 3, 31, 32, 33, 43, 44, 45] _) ?_
        refine zk ⟨?_⟩
        refine v_region ?_; intro K45 k45
        refine zBinOpW ⟨?_⟩
        refine zMove ⟨?_⟩
        refine k45 _ ?_
        refine n31 _ (j + 1) ?_ ?_ ?_
        ·refine weak_bothS [2, 3, 31, 32, 33, 43, 44, 45] [0, 1] ⟨?_⟩
         rfl
        ·exact ⟨by omega, by rw [← hR1, hst1, decide_eq_true hfs]; rfl⟩
        ·show _ < _; omega
      ·intro hc3
       have hall : x3.all (fun s => decide (0 ≤ findA fl s)) = true := by rw [← hR1, all_end (by omega)]
       refine v_exit ?_
       refine e34 _ _ ?_
       refine e31 _ _ ?_
       refine x30 _ ?_
       refine n19 _ ?_
       refine n18 _ _ (weak_keep [2, 3, 31, 32, 33] _) ?_
       refine zk ⟨?_⟩
       refine v_region ?_; intro K46 k46
       refine zBinOpW ⟨?_⟩
       refine zMove ⟨?_⟩
       refine k46 _ ?_
       refine n13 _ (i + 1) ?_ ?_ ?_
       ·refine weak_bothS [2, 3, 31, 32, 33] [0, 1] ⟨?_⟩
        rfl
       ·exact ⟨by omega, by rw [← hR, hst, hip, hh1, hall]; rfl⟩
       ·show _ < _; omega
   ·intro hc1
    have hI : ins.all (inP n fl) = true := by rw [← hR, all_end (by omega)]
    refine v_exit ?_
    refine e16 _ _ ?_
    refine e13 _ _ ?_
    refine x12 _ ?_
    refine n9 _ _ (weak_keep [3] _) ?_
    refine zk ⟨?_⟩
    refine v_seq ?_; intro Q47 n47 e47 r47
    refine v_seq ?_; intro Q48 n48 e48 r48
    refine v_region ?_; intro K49 k49
    refine zFieldAddr ⟨?_⟩
    refine zLoad ⟨?_⟩
    refine zLen ⟨?_⟩
    refine zMove ⟨?_⟩
    refine k49 _ ?_
    refine n48 _ _ (weak_keep [3, 57, 58, 59] _) ?_
    refine zk ⟨?_⟩
    refine v_block ?_; intro Q50 n50 x50 e50 r50
    refine v_loop (fun i => ⟨[(3, .ptr 0 0 0), (57, .sl (fl.map (fun t : ByteArray × Int × Int × Int × Int => V.agg [V.str t.1, V.int .i64 t.2.1, V.int .i64 t.2.2.1, V.int .i64 t.2.2.2.1, V.int .i64 t.2.2.2.2]))), (58, .int .i64 fl.length), (59, .int .i64 (Nat.cast i))], [.box (.agg [.sl (fl.map (fun t : ByteArray × Int × Int × Int × Int => V.agg [V.str t.1, V.int .i64 t.2.1, V.int .i64 t.2.2.1, V.int .i64 t.2.2.2.1, V.int .i64 t.2.2.2.2])), .sl (ins.map (fun t : Int × Int × Bool × List ByteArray => V.agg [V.int .i64 t.1, V.int .i64 t.2.1, V.bool t.2.2.1, V.sl (t.2.2.2.map V.str)])), .sl (ws.map (fun t : Int × List Int => V.agg [V.int .i64 t.1, V.sl (t.2.map (V.int .i64))]))]) .shal], false, 111, 0⟩) (fun i => i ≤ fl.length ∧ (fl.drop i).all (fleetP ins) = fl.all (fleetP ins)) (fun i => fl.length - i) 0 ?_ ?_ ?_
    ·refine weak_bothS [3, 57, 58, 59] [1] ⟨?_⟩
     rfl
    ·exact ⟨Nat.zero_le _, rfl⟩
    ·rintro i hok51 Q51 n51 e51 r51
     obtain ⟨hi2, hR2⟩ := hok51
     refine v_seq ?_; intro Q52 n52 e52 r52
     refine v_region ?_; intro K53 k53
     refine zBinOp ⟨?_⟩
     refine k53 _ ?_
     refine n52 _ _ (weak_keep [3, 57, 58, 59, 60] _) ?_
     refine zk ⟨?_⟩
     refine v_seq ?_; intro Q54 n54 e54 r54
     refine v_condS _ rfl ?_ ?_
     ·intro hc5
      have hlt : i < fl.length := by omega
      obtain ⟨⟨x0, x1, x2, x3, x4⟩, hx⟩ : ∃ x : ByteArray × Int × Int × Int × Int, fl[i]? = some x := ⟨fl[i]'(by omega), List.getElem?_eq_getElem (by omega)⟩
      have hst := all_step (p := fleetP ins) hx
      have hfp : fleetP ins (x0, x1, x2, x3, x4) = !(busyA (x0, x1, x2, x3, x4) != decide (0 ≤ commF ins x0)) := rfl
      refine v_skip ?_
      refine n54 _ _ (weak_keep [3, 57, 58, 59] _) ?_
      refine zk ⟨?_⟩
      refine v_seq ?_; intro Q56 n56 e56 r56
      refine v_block ?_; intro Q57 n57 x57 e57 r57
      refine v_seq ?_; intro Q58 n58 e58 r58
      refine v_region ?_; intro K59 k59
      have F := Fc.mk (fun f => getD_map (f := f) hx)
      refine zIndexAddr ⟨?_⟩
      refine zLoad ⟨?_⟩
      refine zAlloc ⟨?_⟩
      refine zStore ⟨?_⟩
      refine k59 _ ?_
      refine n58 _ _ (weak_keep [3, 10, 57, 58, 59] _) ?_
      refine zk ⟨?_⟩
      refine v_seq ?_; intro Q60 n60 e60 r60
      refine v_draw (by kernel_rfl) ?_; intro K61 q61 k61
      show aAny _ _ _ _ 10 (Array.replicate 10 false) _
      refine zdFieldAddr q61 true 0 63 ?_
      refine zdLoad q61 true 1 64 ?_
      refine zdFieldAddr q61 true 3 66 ?_
      refine zdLoad q61 true 4 67 ?_
      refine zdFieldAddr q61 true 5 68 ?_
      refine zdLoad q61 true 6 69 ?_
      refine zoc 2 (roBusy_con x4) ⟨?_⟩
      refine zoc 7 (ixOf_con ins x0 hil hin) ⟨?_⟩
      refine zdBinOp q61 true 8 71 ?_
      refine zdBinOp q61 true 9 72 ?_
      refine aAny_done (by kernel_rfl) ?_
      refine k61 _ ?_
      refine n60 _ _ (weak_keep [3, 57, 58, 59, 72] _) ?_
      refine zk ⟨?_⟩
      refine v_condS _ rfl ?_ ?_
      ·intro hc6
       have hbad := ctl_f (n := n) (ss := ss) (ws := ws) (show fl.all (fleetP ins) = false by rw [← hR2, hst, hfp]; first | (rw [hc6]; rfl) | (simp [busyA] at hc6 ⊢; simp_all; done) | (simp_all [busyA]; done))
       refine v_seq ?_; intro Q63 n63 e63 r63
       refine v_region ?_; intro K64 k64
       refine zAssign ⟨?_⟩
       refine k64 _ ?_
       refine n63 _ _ (weak_keep [4] _) ?_
       refine zk ⟨?_⟩
       refine v_ret ?_
       refine r57 _ ?_
       refine r56 _ ?_
       refine r51 _ ?_
       refine r50 _ ?_
       refine r47 _ ?_
       refine r0 _ ?_
       refine zf ⟨?_⟩
       exact ret_pure rfl (by rw [hbad]) (.inl rfl)
      ·intro hc6
       have hgf : fleetP ins (x0, x1, x2, x3, x4) = true := by rw [hfp]; first | (rw [hc6]; rfl) | (simp [busyA] at hc6 ⊢; simp_all; done) | (simp_all [busyA]; done)
       refine v_skip ?_
       refine n57 _ ?_
       refine n56 _ _ (weak_keep [3, 57, 58, 59] _) ?_
       refine zk ⟨?_⟩
       refine v_region ?_; intro K65 k65
       refine zBinOpW ⟨?_⟩
       refine zMove ⟨?_⟩
       refine k65 _ ?_
       refine n51 _ (i + 1) ?_ ?_ ?_
       ·refine weak_bothS [3, 57, 58, 59] [0] ⟨?_⟩
        rfl
       ·exact ⟨by omega, by rw [← hR2, hst, hgf]; rfl⟩
       ·show _ < _; omega
     ·intro hc5
      have hF : fl.all (fleetP ins) = true := by rw [← hR2, all_end (by omega)]
      refine v_exit ?_
      refine e54 _ _ ?_
      refine e51 _ _ ?_
      refine x50 _ ?_
      refine n47 _ _ (weak_keep [3] _) ?_
      refine zk ⟨?_⟩
      refine v_seq ?_; intro Q66 n66 e66 r66
      refine v_seq ?_; intro Q67 n67 e67 r67
      refine v_region ?_; intro K68 k68
      refine zFieldAddr ⟨?_⟩
      refine zLoad ⟨?_⟩
      refine zLen ⟨?_⟩
      refine zMove ⟨?_⟩
      refine k68 _ ?_
      refine n67 _ _ (weak_keep [3, 75, 76, 77] _) ?_
      refine zk ⟨?_⟩
      refine v_block ?_; intro Q69 n69 x69 e69 r69
      refine v_loop (fun i => ⟨[(3, .ptr 0 0 0), (75, .sl (ws.map (fun t : Int × List Int => V.agg [V.int .i64 t.1, V.sl (t.2.map (V.int .i64))]))), (76, .int .i64 ws.length), (77, .int .i64 (Nat.cast i))], [.box (.agg [.sl (fl.map (fun t : ByteArray × Int × Int × Int × Int => V.agg [V.str t.1, V.int .i64 t.2.1, V.int .i64 t.2.2.1, V.int .i64 t.2.2.2.1, V.int .i64 t.2.2.2.2])), .sl (ins.map (fun t : Int × Int × Bool × List ByteArray => V.agg [V.int .i64 t.1, V.int .i64 t.2.1, V.bool t.2.2.1, V.sl (t.2.2.2.map V.str)])), .sl (ws.map (fun t : Int × List Int => V.agg [V.int .i64 t.1, V.sl (t.2.map (V.int .i64))]))]) .shal], false, 111, 0⟩) (fun i => i ≤ ws.length ∧ ∀ j, j < i → wantP ins ws j = true) (fun i => ws.length - i) 0 ?_ ?_ ?_
      ·refine weak_bothS [3, 75, 76, 77] [0] ⟨?_⟩
       rfl
      ·exact ⟨Nat.zero_le _, fun j h => absurd h (Nat.not_lt_zero _)⟩
      ·rintro i hok70 Q70 n70 e70 r70
       obtain ⟨hi3, hR3⟩ := hok70
       refine v_seq ?_; intro Q71 n71 e71 r71
       refine v_region ?_; intro K72 k72
       refine zBinOp ⟨?_⟩
       refine k72 _ ?_
       refine n71 _ _ (weak_keep [3, 75, 76, 77, 78] _) ?_
       refine zk ⟨?_⟩
       refine v_seq ?_; intro Q73 n73 e73 r73
       refine v_condS _ rfl ?_ ?_
       ·intro hc7
        have hlt : i < ws.length := by omega
        obtain ⟨⟨x0, x1⟩, hx⟩ : ∃ x : Int × List Int, ws[i]? = some x := ⟨ws[i]'(by omega), List.getElem?_eq_getElem (by omega)⟩
        have hlx := hwn _ (List.mem_of_getElem? hx)
        simp only [] at hlx
        rcases Nat.eq_zero_or_pos i with h0 | h0
        ·skip
         have hi0 : ¬ ((0 : Int) < (i : Int)) := by omega
         have hwp : wantP ins ws i = (decide (0 ≤ openF ins x0) && realNeed x1) := by subst h0; exact wantP_zero hx
         refine v_skip ?_
         refine n73 _ _ (weak_keep [3, 75, 76, 77] _) ?_
         refine zk ⟨?_⟩
         refine v_seq ?_; intro Q75 n75 e75 r75
         refine v_block ?_; intro Q76 n76 x76 e76 r76
         refine v_seq ?_; intro Q77 n77 e77 r77
         refine v_region ?_; intro K78 k78
         have F := Fc.mk (And.intro (fun f => getD_map (f := f) hx) (And.intro hi0 (And.intro @decide_false @Bool.and_false)))
         refine zMove ⟨?_⟩
         refine zIndexAddr ⟨?_⟩
         refine zLoad ⟨?_⟩
         refine zAlloc ⟨?_⟩
         refine zAssign ⟨?_⟩
         refine zStore ⟨?_⟩
         refine k78 _ ?_
         refine n77 _ _ (weak_keep [3, 11, 12, 75, 76, 77] _) ?_
         refine zk ⟨?_⟩
         refine v_seq ?_; intro Q79 n79 e79 r79
         refine v_draw (by kernel_rfl) ?_; intro K80 q80 k80
         show aAny _ _ _ _ 28 (Array.replicate 28 false) _
         refine zdFieldAddr q80 true 0 82 ?_
         refine zdLoad q80 true 1 83 ?_
         refine zdFieldAddr q80 true 2 84 ?_
         refine zdLoad q80 true 3 85 ?_
         refine zoc 4 (ixFind_con ins x0 hil) ⟨?_⟩
         refine zdBinOp q80 true 5 87 ?_
         refine zdMove q80 true 6 88 ?_
         refine zdgFieldAddr q80 true 7 89 ?_
         refine zdgLoad q80 true 8 90 ?_
         refine zogc 9 ((roNeed_con _ hlx)) ⟨?_⟩
         refine zdgUnOp q80 true 10 92 ?_
         refine zdPick q80 true 11 93 ?_
         refine zdMove q80 true 12 94 ?_
         refine zdgMove q80 true 13 95 ?_
         refine zdgBinOp q80 true 14 96 ?_
         refine zdgMove q80 true 15 97 ?_
         refine zdgFieldAddr q80 true 16 98 ?_
         refine zdgLoad q80 true 17 99 ?_
         refine zdgMove q80 true 18 100 ?_
         refine zdgBinOpW q80 true 19 101 ?_
         refine zdgIndexAddr q80 true 20 102 ?_
         refine zdgFieldAddr q80 true 21 103 ?_
         refine zdgLoad q80 true 22 104 ?_
         refine zdgFieldAddr q80 true 23 105 ?_
         refine zdgLoad q80 true 24 106 ?_
         refine zdgBinOp q80 true 25 107 ?_
         refine zdgPick q80 true 26 108 ?_
         refine zdPick q80 true 27 109 ?_
         refine aAny_done (by kernel_rfl) ?_
         refine k80 _ ?_
         refine n79 _ _ (weak_keep [3, 75, 76, 77, 109] _) ?_
         refine zk ⟨?_⟩
         refine v_condS _ rfl ?_ ?_
         ·intro hc8
          have hbw : wantP ins ws i = false := by
           rw [hwp]
           (try simp at hc8)
           first | (simp; done) | (simp [hc8]; done) | (simp; exact hc8) | (simp; intro q; exact hc8 q) | (rcases hc8 with h | h <;> first | (rw [decide_eq_false (show ¬ 0 ≤ openF ins x0 by omega)]; simp; done) | (rw [decide_eq_false (show ¬ 0 ≤ openF ins x0 by omega)]; rfl) | (simp [h]; done)) | (simp; intros; simp_all; omega) | (simp; intros; simp_all; done) | (rcases hc8 with h | h <;> simp [h]; done) | (simp_all; done)
          have hbad := ctl_w (n := n) (ss := ss) (fl := fl) hlt hbw
          refine v_seq ?_; intro Q82 n82 e82 r82
          refine v_region ?_; intro K83 k83
          refine zAssign ⟨?_⟩
          refine k83 _ ?_
          refine n82 _ _ (weak_keep [4] _) ?_
          refine zk ⟨?_⟩
          refine v_ret ?_
          refine r76 _ ?_
          refine r75 _ ?_
          refine r70 _ ?_
          refine r69 _ ?_
          refine r66 _ ?_
          refine r0 _ ?_
          refine zf ⟨?_⟩
          exact ret_pure rfl (by rw [hbad]) (.inl rfl)
         ·intro hc8
          have hgw : wantP ins ws i = true := by
           rw [hwp]
           (try simp at hc8)
           first | (simp [hc8]; done) | (simp; omega) | (simp_all; done) | (simp_all; omega)
          refine v_skip ?_
          refine n76 _ ?_
          refine n75 _ _ (weak_keep [3, 75, 76, 77] _) ?_
          refine zk ⟨?_⟩
          refine v_region ?_; intro K84 k84
          refine zBinOpW ⟨?_⟩
          refine zMove ⟨?_⟩
          refine k84 _ ?_
          refine n70 _ (i + 1) ?_ ?_ ?_
          ·refine weak_bothS [3, 75, 76, 77] [0] ⟨?_⟩
           rfl
          ·exact ⟨by omega, upto_step hR3 hgw⟩
          ·show _ < _; omega
        ·skip
         obtain ⟨⟨y0, y1⟩, hy⟩ : ∃ x : Int × List Int, ws[i - 1]? = some x := ⟨ws[i - 1]'(by omega), List.getElem?_eq_getElem (by omega)⟩
         have hi0 : (0 : Int) < i := by omega
         have hk : ((i : Int) - 1).toNat = i - 1 := by omega
         have hwp := wantP_succ (ins := ins) h0 hy hx
         refine v_skip ?_
         refine n73 _ _ (weak_keep [3, 75, 76, 77] _) ?_
         refine zk ⟨?_⟩
         refine v_seq ?_; intro Q85 n85 e85 r85
         refine v_block ?_; intro Q86 n86 x86 e86 r86
         refine v_seq ?_; intro Q87 n87 e87 r87
         refine v_region ?_; intro K88 k88
         have F := Fc.mk (And.intro (fun f => getD_map (f := f) hx) (And.intro hi0 (And.intro hk (And.intro (fun f => getD_map (f := f) hy) (And.intro @decide_true @Bool.and_true)))))
         refine zMove ⟨?_⟩
         refine zIndexAddr ⟨?_⟩
         refine zLoad ⟨?_⟩
         refine zAlloc ⟨?_⟩
         refine zAssign ⟨?_⟩
         refine zStore ⟨?_⟩
         refine k88 _ ?_
         refine n87 _ _ (weak_keep [3, 11, 12, 75, 76, 77] _) ?_
         refine zk ⟨?_⟩
         refine v_seq ?_; intro Q89 n89 e89 r89
         refine v_draw (by kernel_rfl) ?_; intro K90 q90 k90
         show aAny _ _ _ _ 28 (Array.replicate 28 false) _
         refine zdFieldAddr q90 true 0 82 ?_
         refine zdLoad q90 true 1 83 ?_
         refine zdFieldAddr q90 true 2 84 ?_
         refine zdLoad q90 true 3 85 ?_
         refine zoc 4 (ixFind_con ins x0 hil) ⟨?_⟩
         refine zdBinOp q90 true 5 87 ?_
         refine zdMove q90 true 6 88 ?_
         refine zdgFieldAddr q90 true 7 89 ?_
         refine zdgLoad q90 true 8 90 ?_
         refine zogc 9 ((roNeed_con _ hlx)) ⟨?_⟩
         refine zdgUnOp q90 true 10 92 ?_
         refine zdPick q90 true 11 93 ?_
         refine zdMove q90 true 12 94 ?_
         refine zdgMove q90 true 13 95 ?_
         refine zdgBinOp q90 true 14 96 ?_
         refine zdgMove q90 true 15 97 ?_
         refine zdgFieldAddr q90 true 16 98 ?_
         refine zdgLoad q90 true 17 99 ?_
         refine zdgMove q90 true 18 100 ?_
         refine zdgBinOpW q90 true 19 101 ?_
         refine zdgIndexAddr q90 true 20 102 ?_
         refine zdgFieldAddr q90 true 21 103 ?_
         refine zdgLoad q90 true 22 104 ?_
         refine zdgFieldAddr q90 true 23 105 ?_
         refine zdgLoad q90 true 24 106 ?_
         refine zdgBinOp q90 true 25 107 ?_
         refine zdgPick q90 true 26 108 ?_
         refine zdPick q90 true 27 109 ?_
         refine aAny_done (by kernel_rfl) ?_
         refine k90 _ ?_
         refine n89 _ _ (weak_keep [3, 75, 76, 77, 109] _) ?_
         refine zk ⟨?_⟩
         refine v_condS _ rfl ?_ ?_
         ·intro hc8
          have hbw : wantP ins ws i = false := by
           rw [hwp]
           (try simp at hc8)
           first | (simp; done) | (simp [hc8]; done) | (simp; exact hc8) | (simp; intro q; exact hc8 q) | (rcases hc8 with h | h <;> first | (rw [decide_eq_false (show ¬ 0 ≤ openF ins x0 by omega)]; simp; done) | (rw [decide_eq_false (show ¬ 0 ≤ openF ins x0 by omega)]; rfl) | (simp [h]; done)) | (simp; intros; simp_all; omega) | (simp; intros; simp_all; done) | (rcases hc8 with h | h <;> simp [h]; done) | (simp_all; done)
          have hbad := ctl_w (n := n) (ss := ss) (fl := fl) hlt hbw
          refine v_seq ?_; intro Q92 n92 e92 r92
          refine v_region ?_; intro K93 k93
          refine zAssign ⟨?_⟩
          refine k93 _ ?_
          refine n92 _ _ (weak_keep [4] _) ?_
          refine zk ⟨?_⟩
          refine v_ret ?_
          refine r86 _ ?_
          refine r85 _ ?_
          refine r70 _ ?_
          refine r69 _ ?_
          refine r66 _ ?_
          refine r0 _ ?_
          refine zf ⟨?_⟩
          exact ret_pure rfl (by rw [hbad]) (.inl rfl)
         ·intro hc8
          have hgw : wantP ins ws i = true := by
           rw [hwp]
           (try simp at hc8)
           first | (simp [hc8]; done) | (simp; omega) | (simp_all; done) | (simp_all; omega)
          refine v_skip ?_
          refine n86 _ ?_
          refine n85 _ _ (weak_keep [3, 75, 76, 77] _) ?_
          refine zk ⟨?_⟩
          refine v_region ?_; intro K94 k94
          refine zBinOpW ⟨?_⟩
          refine zMove ⟨?_⟩
          refine k94 _ ?_
          refine n70 _ (i + 1) ?_ ?_ ?_
          ·refine weak_bothS [3, 75, 76, 77] [0] ⟨?_⟩
           rfl
          ·exact ⟨by omega, upto_step hR3 hgw⟩
          ·show _ < _; omega
       ·intro hc7
        refine v_exit ?_
        refine e73 _ _ ?_
        refine e70 _ _ ?_
        refine x69 _ ?_
        refine n66 _ _ (weak_keep [] _) ?_
        refine zk ⟨?_⟩
        refine v_seq ?_; intro Q95 n95 e95 r95
        refine v_region ?_; intro K96 k96
        refine zAssign ⟨?_⟩
        refine k96 _ ?_
        refine n95 _ _ (weak_keep [4] _) ?_
        refine zk ⟨?_⟩
        refine v_ret ?_
        refine r0 _ ?_
        refine zf ⟨?_⟩
        exact ret_pure rfl (by rw [ctl_yes hh hI hF (by omega) hR3]) (.inl rfl)
set_option maxHeartbeats 1000000 in
theorem specIsControl_con (n : Int) (ss : List (Int × Int × Int)) (fl : List (ByteArray × Int × Int × Int × Int)) (ins : List (Int × Int × Bool × List ByteArray)) (ws : List (Int × List Int)) (hs : ss.length ≤ 1048576) (hl : fl.length ≤ 1048576) (hls : ∀ t ∈ fl, t.1.size ≤ 9223372036854775807) (hil : ins.length ≤ 1048576) (hin : ∀ x ∈ ins, x.2.2.2.length ≤ 1048576) (his : ∀ x ∈ ins, ∀ s ∈ x.2.2.2, s.size ≤ 9223372036854775807) (hwl : ws.length ≤ 1048576) (hwn : ∀ x ∈ ws, x.2.length ≤ 1048576) : Con Try.prog 65 [.agg [.int .i64 n, .sl (ss.map (fun t : Int × Int × Int => V.agg [V.int .i64 t.1, V.int .i64 t.2.1, V.int .i64 t.2.2]))], .agg [.sl (fl.map (fun t : ByteArray × Int × Int × Int × Int => V.agg [V.str t.1, V.int .i64 t.2.1, V.int .i64 t.2.2.1, V.int .i64 t.2.2.2.1, V.int .i64 t.2.2.2.2])), .sl (ins.map (fun t : Int × Int × Bool × List ByteArray => V.agg [V.int .i64 t.1, V.int .i64 t.2.1, V.bool t.2.2.1, V.sl (t.2.2.2.map V.str)])), .sl (ws.map (fun t : Int × List Int => V.agg [V.int .i64 t.1, V.sl (t.2.map (V.int .i64))]))]] [] (.bool (ctlB n ss fl ins ws)) [] := by
 refine v_con [.tmp 4] [] Try.func65 rfl rfl rfl (by simp [Try.ntmps65]) ?_
 intro Q0 n0 r0
 simp only [Try.ntmps65, envFrom, Nat.reduceAdd]
 have T := Tys.mk (And.intro Ty.t3 (And.intro Ty.t4 (And.intro Ty.t9 (And.intro Ty.t26 (And.intro Ty.t70 (And.intro Ty.t72 (And.intro Ty.t74 (And.intro Ty.t84 (And.intro Ty.t85 (And.intro Ty.t87 (And.intro Ty.t93 (And.intro Ty.t141 (And.intro Ty.t182 (And.intro Ty.t192 Ty.t195))))))))))))))
 have F := Fc.mk True.intro
 refine v_seq ?_; intro Q1 n1 e1 r1
 refine v_region ?_; intro K2 k2
 refine zBox ⟨?_⟩
 refine zBox ⟨?_⟩
 refine zAssign ⟨?_⟩
 refine k2 _ ?_
 refine n1 _ _ (weak_keep [2, 3] _) ?_
 refine zk ⟨?_⟩
 refine v_seq ?_; intro Q3 n3 e3 r3
 refine v_region ?_; intro K4 k4
 refine zLoad ⟨?_⟩
 refine zLoad ⟨?_⟩
 refine zc (roGood_con n ss fl ins ws hs hl hls hil hin his hwl hwn) ⟨?_⟩
 refine zAssign ⟨?_⟩
 refine k4 _ ?_
 refine n3 _ _ (weak_keep [4] _) ?_
 refine zk ⟨?_⟩
 refine v_ret ?_
 refine r0 _ ?_
 refine zf ⟨?_⟩
 exact ret_pure rfl rfl (.inl rfl)
end Go.Proofs.Ytdgenniiidgimaa
