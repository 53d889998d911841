/- What functions compute. No condition. -/
import Derived.Test.YtdgenniiidgimaaGreatUty
import Derived.Test.YtdgenniiidgimaaGreatUmG
import Derived.Test.YtdgenniiidgimaaGreatX15
import Derived.Test.YtdgenniiidgimaaGreatX4
import Derived.Test.YtdgenniiidgimaaGreatX11
import Derived.Test.YtdgenniiidgimaaGreatX9
import Derived.Test.YtdgenniiidgimaaGreatX6
set_option linter.unusedSimpArgs false
set_option linter.unusedVariables false
set_option linter.defProp false
namespace Go.Proofs.YtdgenniiidgimaaGreat
open Go Go.Vm

set_option maxRecDepth 100000 in
set_option maxHeartbeats 1000000 in
theorem implStates_con (n : Int) (ss : List (Int × Int × Int)) (fl : List (ByteArray × Int × Int × Int × Int)) (ins : List (Int × Int × Bool × List ByteArray)) (ws : List (Int × List Int)) (m : Int) (hs : ss.length ≤ 1048576) (hl : fl.length ≤ 1048576) (hls : ∀ t ∈ fl, t.1.size ≤ 9223372036854775807) (hil : ins.length ≤ 1048576) (hin : ∀ x ∈ ins, x.2.2.2.length ≤ 1048576) (his : ∀ x ∈ ins, ∀ s ∈ x.2.2.2, s.size ≤ 9223372036854775807) (hwl : ws.length ≤ 1048576) (hwn : ∀ x ∈ ws, x.2.length ≤ 1048576) : Con Tryz.prog 12 [.agg [.int .i64 n, .sl (ss.map (fun t : Int × Int × Int => V.agg [V.int .i64 t.1, V.int .i64 t.2.1, V.int .i64 t.2.2]))], .agg [.sl (fl.map (fun t : ByteArray × Int × Int × Int × Int => V.agg [V.str t.1, V.int .i64 t.2.1, V.int .i64 t.2.2.1, V.int .i64 t.2.2.2.1, V.int .i64 t.2.2.2.2])), .sl (ins.map (fun t : Int × Int × Bool × List ByteArray => V.agg [V.int .i64 t.1, V.int .i64 t.2.1, V.bool t.2.2.1, V.sl (t.2.2.2.map V.str)])), .sl (ws.map (fun t : Int × List Int => V.agg [V.int .i64 t.1, V.sl (t.2.map (V.int .i64))]))], .int .i64 m] [] (.tup [.ref 0, .bool (atB n ss fl ins ws m)]) [.arr ((orNil (atB n ss fl ins ws m) (statesL fl ins m)).map (V.int .i64)) .flat] := by
 refine v_con [.tmp 6, .tmp 7] [] Tryz.func12 rfl rfl rfl (by simp [Tryz.ntmps12]) ?_
 intro Q0 n0 r0
 simp only [Tryz.ntmps12, envFrom, Nat.reduceAdd]
 have T := Tys.mk (And.intro Ty.t3 (And.intro Ty.t4 (And.intro Ty.t9 (And.intro Ty.t32 (And.intro Ty.t35 (And.intro Ty.t37 (And.intro Ty.t39 (And.intro Ty.t40 (And.intro Ty.t41 (And.intro Ty.t43 (And.intro Ty.t54 (And.intro Ty.t69 (And.intro Ty.t71 (And.intro Ty.t78 (And.intro Ty.t80 (And.intro Ty.t89 Ty.t106))))))))))))))))
 have F := Fc.mk True.intro
 refine v_seqR [2,3,4] ?_; intro K1 k1
 refine zBox ⟨?_⟩
 refine zBox ⟨?_⟩
 refine zAssign ⟨?_⟩
 refine zAssign ⟨?_⟩
 refine k1 _ ?_
 refine zk ⟨?_⟩
 refine v_seq ?_; intro Q2 n2 e2 r2
 refine v_seqR [2,4,23] ?_; intro K3 k3
 refine zc (isTown_con n ss hs) ⟨?_⟩
 refine zUnOp ⟨?_⟩
 refine zMove ⟨?_⟩
 refine zgc (isControl_con n ss fl ins ws hs hl hls hil hin his hwl hwn) ⟨?_⟩
 refine zgUnOp ⟨?_⟩
 refine zPick ⟨?_⟩
 refine zMove ⟨?_⟩
 refine zgFieldAddr ⟨?_⟩
 refine zgLoad ⟨?_⟩
 refine zgMove ⟨?_⟩
 refine zgc (openAt_con ins m hil) ⟨?_⟩
 refine zgBinOp ⟨?_⟩
 refine zPick ⟨?_⟩
 refine k3 _ ?_
 refine zk ⟨?_⟩
 refine v_condS _ rfl ?_ ?_
 ·intro hc0
  have hB : (atB n ss fl ins ws m) = false := by
   rw [atB]
   cases hq : (ctlB n ss fl ins ws) with
   |false => rfl
   |true => (have ht := ctl_town hq; simp [hq, ht] at hc0; simp; omega)
  refine v_seqR [6,7] ?_; intro K5 k5
  refine zAssign ⟨?_⟩
  refine zAssign ⟨?_⟩
  refine k5 _ ?_
  refine zk ⟨?_⟩
  refine v_ret ?_
  refine r2 _ ?_
  refine r0 _ ?_
  refine zf ⟨?_⟩
  rw [hB, orNil_f]
  exact ret_all rfl (by first | decide | simp [newIds, refsOf, refs2, refs1]) (by simp) rfl (by simp [newIds, refsOf, refs2, refs1]) (by simp [Blk.kindIs, fillK_fd]) rfl
 ·intro hc0
  have hB : (atB n ss fl ins ws m) = true := by
   rw [atB]
   cases hq : (ctlB n ss fl ins ws) with
   |false => simp [hq] at hc0
   |true => (have ht := ctl_town hq; simp [hq, ht] at hc0; simp; omega)
  have hB2 := hB
  rw [atB, Bool.and_eq_true, decide_eq_true_eq] at hB2
  have hc := ctl_facts hB2.1
  obtain ⟨k, t, hk1, hk2, hk3⟩ := openF_at hB2.2
  obtain ⟨t0, t1, t2, t3⟩ := t
  have hkl : k < ins.length := (List.getElem?_eq_some_iff.1 hk1).1
  have hna := namesAt_at hk3 hk1
  simp only [] at hna
  have hnl := hin _ (List.mem_of_getElem? hk1)
  simp only [] at hnl
  have hnm := hc.names _ (List.mem_of_getElem? hk1)
  simp only [] at hnm
  refine v_skip ?_
  refine n2 _ _ (weak_keep [2, 4] _) ?_
  refine zk ⟨?_⟩
  refine v_seqR [2,4,8] ?_; intro K6 k6
  have F := Fc.mk (And.intro hk3 (And.intro @Int.toNat_natCast (fun f => getD_map (f := f) hk1)))
  refine zAssign ⟨?_⟩
  refine k6 _ ?_
  refine zk ⟨?_⟩
  refine v_seq ?_; intro Q7 n7 e7 r7
  refine v_seq ?_; intro Q8 n8 e8 r8
  refine v_draw (by kernel_rfl) ?_; intro K9 q9 k9
  show aAny _ _ _ _ 11 (Array.replicate 11 false) _
  refine zdFieldAddr q9 true 0 24 ?_
  refine zdLoad q9 true 1 25 ?_
  refine zdFieldAddr q9 true 2 26 ?_
  refine zdLoad q9 true 3 27 ?_
  refine zdMove q9 true 4 28 ?_
  refine zdMove q9 true 10 34 ?_
  refine zoc 5 (openAt_con ins m hil) ⟨?_⟩
  refine zdIndexAddr q9 true 6 30 ?_
  refine zdFieldAddr q9 true 7 31 ?_
  refine zdLoad q9 true 8 32 ?_
  refine zdLen q9 true 9 33 ?_
  refine aAny_done (by kernel_rfl) ?_
  refine k9 _ ?_
  refine n8 _ _ (weak_keep [4, 8, 32, 33, 34] _) ?_
  refine zk ⟨?_⟩
  refine v_block ?_; intro Q10 n10 x10 e10 r10
  refine v_loop (fun i => ⟨[(4, .ptr 1 0 0), (8, .ref 0), (32, .sl (t3.map V.str)), (33, .int .i64 t3.length), (34, .int .i64 (Nat.cast i))], [.arr (((t3.take i).map (stA fl)).map (V.int .i64)) .flat, .box (.agg [.sl (fl.map (fun t : ByteArray × Int × Int × Int × Int => V.agg [V.str t.1, V.int .i64 t.2.1, V.int .i64 t.2.2.1, V.int .i64 t.2.2.2.1, V.int .i64 t.2.2.2.2])), .sl (ins.map (fun t : Int × Int × Bool × List ByteArray => V.agg [V.int .i64 t.1, V.int .i64 t.2.1, V.bool t.2.2.1, V.sl (t.2.2.2.map V.str)])), .sl (ws.map (fun t : Int × List Int => V.agg [V.int .i64 t.1, V.sl (t.2.map (V.int .i64))]))]) .shal], false, 52, 0⟩) (fun i => i ≤ t3.length) (fun i => t3.length - i) 0 ?_ ?_ ?_
  ·refine weak_bothS [4, 8, 32, 33, 34] [3, 1] ⟨?_⟩
   rfl
  ·exact Nat.zero_le _
  ·rintro i hok11 Q11 n11 e11 r11
   have hi1 : i ≤ t3.length := hok11
   refine v_seqR [4,8,32,33,34,35] ?_; intro K12 k12
   refine zBinOp ⟨?_⟩
   refine k12 _ ?_
   refine zk ⟨?_⟩
   refine v_seq ?_; intro Q13 n13 e13 r13
   refine v_condS _ rfl ?_ ?_
   ·intro hc1
    have hlt : i < t3.length := by omega
    obtain ⟨s, hx⟩ : ∃ s, t3[i]? = some s := ⟨_, List.getElem?_eq_getElem hlt⟩
    obtain ⟨q, y, hy1, hy2, hy3⟩ := findA_at (hnm s (List.mem_of_getElem? hx))
    obtain ⟨y0, y1, y2, y3, y4⟩ := y
    have hql : q < fl.length := (List.getElem?_eq_some_iff.1 hy1).1
    have hst := stA_at hy3 hy1
    simp only [] at hst
    have hsn : ((t3.take i).map (stA fl)).map (V.int .i64) ++ [V.int .i64 y4] = ((t3.take (i + 1)).map (stA fl)).map (V.int .i64) := by rw [take_map_step hx, hst, List.map_append]; rfl
    have hti : (t3.take i).length = i := by rw [List.length_take]; omega
    refine v_skip ?_
    refine n13 _ _ (weak_keep [4, 8, 32, 33, 34] _) ?_
    refine zk ⟨?_⟩
    refine v_seq ?_; intro Q15 n15 e15 r15
    refine v_block ?_; intro Q16 n16 x16 e16 r16
    refine v_seqR [4,8,10,32,33,34] ?_; intro K17 k17
    have F := Fc.mk (And.intro hk3 (And.intro @Int.toNat_natCast (And.intro (fun f => getD_map (f := f) hk1) (And.intro (fun f => getD_map (f := f) hx) (And.intro hy3 (And.intro (fun f => getD_map (f := f) hy1) hti))))))
    refine zIndexAddr ⟨?_⟩
    refine zLoad ⟨?_⟩
    refine zAssign ⟨?_⟩
    refine k17 _ ?_
    refine zk ⟨?_⟩
    refine v_draw (by kernel_rfl) ?_; intro K18 q18 k18
    show aAny _ _ _ _ 13 (Array.replicate 13 false) _
    refine zdMove q18 true 0 38 ?_
    refine zdFieldAddr q18 true 1 39 ?_
    refine zdLoad q18 true 2 40 ?_
    refine zdFieldAddr q18 true 3 41 ?_
    refine zdLoad q18 true 4 42 ?_
    refine zdMove q18 true 5 43 ?_
    refine zoc 6 (findAppliance_con fl s hl) ⟨?_⟩
    refine zdIndexAddr q18 true 7 45 ?_
    refine zdFieldAddr q18 true 8 46 ?_
    refine zdLoad q18 true 9 47 ?_
    refine zoBuildSlice 10 ⟨?_⟩
    refine zoAppend 11 ⟨?_⟩
    refine zoAssign 12 ⟨?_⟩
    refine aAny_done (by kernel_rfl) ?_
    refine k18 _ ?_
    refine n16 _ ?_
    refine n15 _ _ (weak_keep [4, 8, 32, 33, 34] _) ?_
    refine zk ⟨?_⟩
    refine v_region ?_; intro K19 k19
    refine zBinOpW ⟨?_⟩
    refine zMove ⟨?_⟩
    refine k19 _ ?_
    refine n11 _ (i + 1) ?_ ?_ ?_
    ·refine weak_bothS [4, 8, 32, 33, 34] [3, 1] ⟨?_⟩
     rw [← hsn]; rfl
    ·exact hlt
    ·show _ < _; omega
   ·intro hc1
    have hend : i = t3.length := by omega
    subst hend
    refine v_exit ?_
    refine e13 _ _ ?_
    refine e11 _ _ ?_
    refine x10 _ ?_
    refine n7 _ _ (weak_keep [8] _) ?_
    refine zk ⟨?_⟩
    refine v_seqR [6,7] ?_; intro K20 k20
    refine zMove ⟨?_⟩
    refine zAssign ⟨?_⟩
    refine zAssign ⟨?_⟩
    refine k20 _ ?_
    refine zk ⟨?_⟩
    refine v_ret ?_
    refine r0 _ ?_
    refine zf ⟨?_⟩
    rw [hB, orNil_t, statesL, hna]
    rw [List.take_length]
    exact ret_all rfl (by first | decide | simp [newIds, refsOf, refs2, refs1]) (by simp) rfl (by simp [newIds, refsOf, refs2, refs1]) (by simp [Blk.kindIs, fillK_fd]) rfl
set_option maxRecDepth 100000 in
set_option maxHeartbeats 1000000 in
theorem specStates_con (n : Int) (ss : List (Int × Int × Int)) (fl : List (ByteArray × Int × Int × Int × Int)) (ins : List (Int × Int × Bool × List ByteArray)) (ws : List (Int × List Int)) (m : Int) (hs : ss.length ≤ 1048576) (hl : fl.length ≤ 1048576) (hls : ∀ t ∈ fl, t.1.size ≤ 9223372036854775807) (hil : ins.length ≤ 1048576) (hin : ∀ x ∈ ins, x.2.2.2.length ≤ 1048576) (his : ∀ x ∈ ins, ∀ s ∈ x.2.2.2, s.size ≤ 9223372036854775807) (hwl : ws.length ≤ 1048576) (hwn : ∀ x ∈ ws, x.2.length ≤ 1048576) : Con Tryz.prog 9 [.agg [.int .i64 n, .sl (ss.map (fun t : Int × Int × Int => V.agg [V.int .i64 t.1, V.int .i64 t.2.1, V.int .i64 t.2.2]))], .agg [.sl (fl.map (fun t : ByteArray × Int × Int × Int × Int => V.agg [V.str t.1, V.int .i64 t.2.1, V.int .i64 t.2.2.1, V.int .i64 t.2.2.2.1, V.int .i64 t.2.2.2.2])), .sl (ins.map (fun t : Int × Int × Bool × List ByteArray => V.agg [V.int .i64 t.1, V.int .i64 t.2.1, V.bool t.2.2.1, V.sl (t.2.2.2.map V.str)])), .sl (ws.map (fun t : Int × List Int => V.agg [V.int .i64 t.1, V.sl (t.2.map (V.int .i64))]))], .int .i64 m] [] (.tup [.ref 0, .bool (atB n ss fl ins ws m)]) [.arr ((orNil (atB n ss fl ins ws m) (statesL fl ins m)).map (V.int .i64)) .flat] := by
 refine v_con [.tmp 6, .tmp 7] [] Tryz.func9 rfl rfl rfl (by simp [Tryz.ntmps9]) ?_
 intro Q0 n0 r0
 simp only [Tryz.ntmps9, envFrom, Nat.reduceAdd]
 have T := Tys.mk (And.intro Ty.t3 (And.intro Ty.t4 (And.intro Ty.t9 (And.intro Ty.t32 (And.intro Ty.t35 (And.intro Ty.t37 (And.intro Ty.t39 (And.intro Ty.t40 (And.intro Ty.t41 (And.intro Ty.t43 (And.intro Ty.t54 (And.intro Ty.t69 (And.intro Ty.t71 (And.intro Ty.t89 Ty.t106))))))))))))))
 have F := Fc.mk True.intro
 refine v_seqR [2,3,4] ?_; intro K1 k1
 refine zBox ⟨?_⟩
 refine zBox ⟨?_⟩
 refine zAssign ⟨?_⟩
 refine zAssign ⟨?_⟩
 refine k1 _ ?_
 refine zk ⟨?_⟩
 refine v_seq ?_; intro Q2 n2 e2 r2
 refine v_seqR [2,4,21] ?_; intro K3 k3
 refine zLoad ⟨?_⟩
 refine zLoad ⟨?_⟩
 refine zc (roGood_con n ss fl ins ws hs hl hls hil hin his hwl hwn) ⟨?_⟩
 refine zUnOp ⟨?_⟩
 refine zMove ⟨?_⟩
 refine zgFieldAddr ⟨?_⟩
 refine zgLoad ⟨?_⟩
 refine zgMove ⟨?_⟩
 refine zgc (ixFind_con ins m hil) ⟨?_⟩
 refine zgBinOp ⟨?_⟩
 refine zPick ⟨?_⟩
 refine k3 _ ?_
 refine zk ⟨?_⟩
 refine v_condS _ rfl ?_ ?_
 ·intro hc0
  have hB : (atB n ss fl ins ws m) = false := by
   rw [atB]
   cases hq : (ctlB n ss fl ins ws) with
   |false => rfl
   |true => (have ht := ctl_town hq; simp [hq, ht] at hc0; simp; omega)
  refine v_seqR [6,7] ?_; intro K5 k5
  refine zAssign ⟨?_⟩
  refine zAssign ⟨?_⟩
  refine k5 _ ?_
  refine zk ⟨?_⟩
  refine v_ret ?_
  refine r2 _ ?_
  refine r0 _ ?_
  refine zf ⟨?_⟩
  rw [hB, orNil_f]
  exact ret_all rfl (by first | decide | simp [newIds, refsOf, refs2, refs1]) (by simp) rfl (by simp [newIds, refsOf, refs2, refs1]) (by simp [Blk.kindIs, fillK_fd]) rfl
 ·intro hc0
  have hB : (atB n ss fl ins ws m) = true := by
   rw [atB]
   cases hq : (ctlB n ss fl ins ws) with
   |false => simp [hq] at hc0
   |true => (have ht := ctl_town hq; simp [hq, ht] at hc0; simp; omega)
  have hB2 := hB
  rw [atB, Bool.and_eq_true, decide_eq_true_eq] at hB2
  have hc := ctl_facts hB2.1
  obtain ⟨k, t, hk1, hk2, hk3⟩ := openF_at hB2.2
  obtain ⟨t0, t1, t2, t3⟩ := t
  have hkl : k < ins.length := (List.getElem?_eq_some_iff.1 hk1).1
  have hna := namesAt_at hk3 hk1
  simp only [] at hna
  have hnl := hin _ (List.mem_of_getElem? hk1)
  simp only [] at hnl
  have hnm := hc.names _ (List.mem_of_getElem? hk1)
  simp only [] at hnm
  refine v_skip ?_
  refine n2 _ _ (weak_keep [2, 4] _) ?_
  refine zk ⟨?_⟩
  refine v_seqR [2,4,8] ?_; intro K6 k6
  have F := Fc.mk (And.intro hk3 (And.intro @Int.toNat_natCast (fun f => getD_map (f := f) hk1)))
  refine zAssign ⟨?_⟩
  refine k6 _ ?_
  refine zk ⟨?_⟩
  refine v_seq ?_; intro Q7 n7 e7 r7
  refine v_seq ?_; intro Q8 n8 e8 r8
  refine v_draw (by kernel_rfl) ?_; intro K9 q9 k9
  show aAny _ _ _ _ 11 (Array.replicate 11 false) _
  refine zdFieldAddr q9 true 0 22 ?_
  refine zdLoad q9 true 1 23 ?_
  refine zdFieldAddr q9 true 2 24 ?_
  refine zdLoad q9 true 3 25 ?_
  refine zdMove q9 true 4 26 ?_
  refine zdMove q9 true 10 32 ?_
  refine zoc 5 (ixFind_con ins m hil) ⟨?_⟩
  refine zdIndexAddr q9 true 6 28 ?_
  refine zdFieldAddr q9 true 7 29 ?_
  refine zdLoad q9 true 8 30 ?_
  refine zdLen q9 true 9 31 ?_
  refine aAny_done (by kernel_rfl) ?_
  refine k9 _ ?_
  refine n8 _ _ (weak_keep [4, 8, 30, 31, 32] _) ?_
  refine zk ⟨?_⟩
  refine v_block ?_; intro Q10 n10 x10 e10 r10
  refine v_loop (fun i => ⟨[(4, .ptr 1 0 0), (8, .ref 0), (30, .sl (t3.map V.str)), (31, .int .i64 t3.length), (32, .int .i64 (Nat.cast i))], [.arr (((t3.take i).map (stA fl)).map (V.int .i64)) .flat, .box (.agg [.sl (fl.map (fun t : ByteArray × Int × Int × Int × Int => V.agg [V.str t.1, V.int .i64 t.2.1, V.int .i64 t.2.2.1, V.int .i64 t.2.2.2.1, V.int .i64 t.2.2.2.2])), .sl (ins.map (fun t : Int × Int × Bool × List ByteArray => V.agg [V.int .i64 t.1, V.int .i64 t.2.1, V.bool t.2.2.1, V.sl (t.2.2.2.map V.str)])), .sl (ws.map (fun t : Int × List Int => V.agg [V.int .i64 t.1, V.sl (t.2.map (V.int .i64))]))]) .shal], false, 50, 0⟩) (fun i => i ≤ t3.length) (fun i => t3.length - i) 0 ?_ ?_ ?_
  ·refine weak_bothS [4, 8, 30, 31, 32] [3, 1] ⟨?_⟩
   rfl
  ·exact Nat.zero_le _
  ·rintro i hok11 Q11 n11 e11 r11
   have hi1 : i ≤ t3.length := hok11
   refine v_seqR [4,8,30,31,32,33] ?_; intro K12 k12
   refine zBinOp ⟨?_⟩
   refine k12 _ ?_
   refine zk ⟨?_⟩
   refine v_seq ?_; intro Q13 n13 e13 r13
   refine v_condS _ rfl ?_ ?_
   ·intro hc1
    have hlt : i < t3.length := by omega
    obtain ⟨s, hx⟩ : ∃ s, t3[i]? = some s := ⟨_, List.getElem?_eq_getElem hlt⟩
    obtain ⟨q, y, hy1, hy2, hy3⟩ := findA_at (hnm s (List.mem_of_getElem? hx))
    obtain ⟨y0, y1, y2, y3, y4⟩ := y
    have hql : q < fl.length := (List.getElem?_eq_some_iff.1 hy1).1
    have hst := stA_at hy3 hy1
    simp only [] at hst
    have hsn : ((t3.take i).map (stA fl)).map (V.int .i64) ++ [V.int .i64 y4] = ((t3.take (i + 1)).map (stA fl)).map (V.int .i64) := by rw [take_map_step hx, hst, List.map_append]; rfl
    have hti : (t3.take i).length = i := by rw [List.length_take]; omega
    refine v_skip ?_
    refine n13 _ _ (weak_keep [4, 8, 30, 31, 32] _) ?_
    refine zk ⟨?_⟩
    refine v_seq ?_; intro Q15 n15 e15 r15
    refine v_block ?_; intro Q16 n16 x16 e16 r16
    refine v_seqR [4,8,10,30,31,32] ?_; intro K17 k17
    have F := Fc.mk (And.intro hk3 (And.intro @Int.toNat_natCast (And.intro (fun f => getD_map (f := f) hk1) (And.intro (fun f => getD_map (f := f) hx) (And.intro hy3 (And.intro (fun f => getD_map (f := f) hy1) hti))))))
    refine zIndexAddr ⟨?_⟩
    refine zLoad ⟨?_⟩
    refine zAssign ⟨?_⟩
    refine k17 _ ?_
    refine zk ⟨?_⟩
    refine v_draw (by kernel_rfl) ?_; intro K18 q18 k18
    show aAny _ _ _ _ 13 (Array.replicate 13 false) _
    refine zdMove q18 true 0 36 ?_
    refine zdFieldAddr q18 true 1 37 ?_
    refine zdLoad q18 true 2 38 ?_
    refine zdFieldAddr q18 true 3 39 ?_
    refine zdLoad q18 true 4 40 ?_
    refine zdMove q18 true 5 41 ?_
    refine zoc 6 (apFind_con fl s hl) ⟨?_⟩
    refine zdIndexAddr q18 true 7 43 ?_
    refine zdFieldAddr q18 true 8 44 ?_
    refine zdLoad q18 true 9 45 ?_
    refine zoBuildSlice 10 ⟨?_⟩
    refine zoAppend 11 ⟨?_⟩
    refine zoAssign 12 ⟨?_⟩
    refine aAny_done (by kernel_rfl) ?_
    refine k18 _ ?_
    refine n16 _ ?_
    refine n15 _ _ (weak_keep [4, 8, 30, 31, 32] _) ?_
    refine zk ⟨?_⟩
    refine v_region ?_; intro K19 k19
    refine zBinOpW ⟨?_⟩
    refine zMove ⟨?_⟩
    refine k19 _ ?_
    refine n11 _ (i + 1) ?_ ?_ ?_
    ·refine weak_bothS [4, 8, 30, 31, 32] [3, 1] ⟨?_⟩
     rw [← hsn]; rfl
    ·exact hlt
    ·show _ < _; omega
   ·intro hc1
    have hend : i = t3.length := by omega
    subst hend
    refine v_exit ?_
    refine e13 _ _ ?_
    refine e11 _ _ ?_
    refine x10 _ ?_
    refine n7 _ _ (weak_keep [8] _) ?_
    refine zk ⟨?_⟩
    refine v_seqR [6,7] ?_; intro K20 k20
    refine zMove ⟨?_⟩
    refine zAssign ⟨?_⟩
    refine zAssign ⟨?_⟩
    refine k20 _ ?_
    refine zk ⟨?_⟩
    refine v_ret ?_
    refine r0 _ ?_
    refine zf ⟨?_⟩
    rw [hB, orNil_t, statesL, hna]
    rw [List.take_length]
    exact ret_all rfl (by first | decide | simp [newIds, refsOf, refs2, refs1]) (by simp) rfl (by simp [newIds, refsOf, refs2, refs1]) (by simp [Blk.kindIs, fillK_fd]) rfl
end Go.Proofs.YtdgenniiidgimaaGreat
