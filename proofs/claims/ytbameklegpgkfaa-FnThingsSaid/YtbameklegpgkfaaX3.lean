/- What functions compute. No condition. -/
import Derived.Test.YtbameklegpgkfaaUty
import Derived.Test.YtbameklegpgkfaaUmG
import Derived.Test.YtbameklegpgkfaaX1
import Derived.Test.YtbameklegpgkfaaX2
set_option linter.unusedSimpArgs false
set_option linter.unusedVariables false
set_option linter.defProp false
namespace Go.Proofs.Ytbameklegpgkfaa
open Go Go.Vm

set_option maxHeartbeats 1000000 in
theorem implSpare_con (w t : List (ByteArray × Int × Int)) (hwl : w.length ≤ 1048576) (htl : t.length ≤ 1048576) (hws : ∀ x ∈ w, x.1.size ≤ 9223372036854775807) (hts : ∀ x ∈ t, x.1.size ≤ 9223372036854775807) : Con Try.prog 8 [.sl (w.map (fun t : ByteArray × Int × Int => V.agg [V.str t.1, V.int .i64 t.2.1, V.int .i64 t.2.2])), .sl (t.map (fun t : ByteArray × Int × Int => V.agg [V.str t.1, V.int .i64 t.2.1, V.int .i64 t.2.2]))] [] (.tup [.ref 0, .bool (thsB w && thsB t)]) [.arr ((spareR w t).map (fun t : ByteArray × Int × Int => V.agg [V.str t.1, V.int .i64 t.2.1, V.int .i64 t.2.2])) .flat] := by
 refine v_con [.tmp 4, .tmp 5] [] Try.func8 rfl rfl rfl (by simp [Try.ntmps8]) ?_
 intro Q0 n0 r0
 simp only [Try.ntmps8, envFrom, Nat.reduceAdd]
 have T := Tys.mk (And.intro Ty.t3 (And.intro Ty.t4 (And.intro Ty.t9 (And.intro Ty.t23 Ty.t38))))
 have F := Fc.mk True.intro
 refine v_seqR [0,1] ?_; intro K1 k1
 refine zAssign ⟨?_⟩
 refine zAssign ⟨?_⟩
 refine k1 _ ?_
 refine zk ⟨?_⟩
 refine v_seq ?_; intro Q2 n2 e2 r2
 refine v_seqR [0,1,17] ?_; intro K3 k3
 refine zMove ⟨?_⟩
 refine zc (areThings_con w hwl hws) ⟨?_⟩
 refine zUnOp ⟨?_⟩
 refine zMove ⟨?_⟩
 refine zgMove ⟨?_⟩
 refine zgc (areThings_con t htl hts) ⟨?_⟩
 refine zgUnOp ⟨?_⟩
 refine zPick ⟨?_⟩
 refine k3 _ ?_
 refine zk ⟨?_⟩
 refine v_condS _ rfl ?_ ?_
 ·intro hc0
  have hB : (thsB w && thsB t) = false := by
   cases h1 : thsB w <;> cases h2 : thsB t <;> first | rfl | (exfalso; simp [h1, h2] at hc0)
  have hmR : missR w t = [] := by rw [missR, hB]; rfl
  have hsR : spareR w t = [] := by rw [spareR, hB]; rfl
  refine v_seqR [4,5] ?_; intro K5 k5
  refine zAssign ⟨?_⟩
  refine zAssign ⟨?_⟩
  refine k5 _ ?_
  refine zk ⟨?_⟩
  refine v_ret ?_
  refine r2 _ ?_
  refine r0 _ ?_
  refine zf ⟨?_⟩
  rw [hsR, hB]
  exact ret_ref_tup rfl rfl rfl (.inl rfl)
 ·intro hc0
  have hB : (thsB w && thsB t) = true := by
   cases h1 : thsB w <;> cases h2 : thsB t <;> first | rfl | (exfalso; simp [h1, h2] at hc0)
  have hB2 := hB
  rw [Bool.and_eq_true] at hB2
  have hwk := (ths_iff w).1 hB2.1
  have htk := (ths_iff t).1 hB2.2
  have hwb : ∀ x ∈ w, 1 ≤ x.2.1 ∧ x.2.1 ≤ 99 := fun x h => (hwk.ok x h).2.1
  have htb : ∀ x ∈ t, 1 ≤ x.2.1 ∧ x.2.1 ≤ 99 := fun x h => (htk.ok x h).2.1
  have hmR : missR w t = missL w t := by rw [missR, if_pos hB]
  have hsR : spareR w t = spareL w t := by rw [spareR, if_pos hB]
  refine v_skip ?_
  refine n2 _ _ (weak_keep [0, 1] _) ?_
  refine zk ⟨?_⟩
  refine v_seqR [0,1,6] ?_; intro K6 k6
  refine zAssign ⟨?_⟩
  refine k6 _ ?_
  refine zk ⟨?_⟩
  refine v_seq ?_; intro Q7 n7 e7 r7
  refine v_seqR [0,6,18,19,20] ?_; intro K8 k8
  refine zMove ⟨?_⟩
  refine zLen ⟨?_⟩
  refine zMove ⟨?_⟩
  refine k8 _ ?_
  refine zk ⟨?_⟩
  refine v_block ?_; intro Q9 n9 x9 e9 r9
  refine v_loop (fun i => ⟨[(0, .sl (w.map (fun t : ByteArray × Int × Int => V.agg [V.str t.1, V.int .i64 t.2.1, V.int .i64 t.2.2]))), (6, .ref 0), (18, .sl (t.map (fun t : ByteArray × Int × Int => V.agg [V.str t.1, V.int .i64 t.2.1, V.int .i64 t.2.2]))), (19, .int .i64 t.length), (20, .int .i64 (Nat.cast i))], [.arr ((spareL w (t.take i)).map (fun t : ByteArray × Int × Int => V.agg [V.str t.1, V.int .i64 t.2.1, V.int .i64 t.2.2])) .flat], false, 44, 0⟩) (fun i => i ≤ t.length) (fun i => t.length - i) 0 ?_ ?_ ?_
  ·refine weak_bothS [0, 6, 18, 19, 20] [1] ⟨?_⟩
   rfl
  ·exact Nat.zero_le _
  ·rintro i hok10 Q10 n10 e10 r10
   have hi1 : i ≤ t.length := hok10
   refine v_seqR [0,6,18,19,20,21] ?_; intro K11 k11
   refine zBinOp ⟨?_⟩
   refine k11 _ ?_
   refine zk ⟨?_⟩
   refine v_seq ?_; intro Q12 n12 e12 r12
   refine v_condS _ rfl ?_ ?_
   ·intro hc1
    have hlt : i < t.length := by omega
    obtain ⟨⟨x0, x1, x2⟩, hx⟩ : ∃ x : ByteArray × Int × Int, t[i]? = some x := ⟨t[i]'(by omega), List.getElem?_eq_getElem (by omega)⟩
    have hxb := htb _ (List.mem_of_getElem? hx)
    have hcb := cnt_bound hwb x0
    simp only [] at hxb
    have hlen := spareL_len w (t.take i)
    rw [List.length_take] at hlen
    refine v_skip ?_
    refine n12 _ _ (weak_keep [0, 6, 18, 19, 20] _) ?_
    refine zk ⟨?_⟩
    refine v_seq ?_; intro Q14 n14 e14 r14
    refine v_block ?_; intro Q15 n15 x15 e15 r15
    refine v_seqR [0,6,8,18,19,20] ?_; intro K16 k16
    have F := Fc.mk (fun f => getD_map (f := f) hx)
    refine zIndexAddr ⟨?_⟩
    refine zLoad ⟨?_⟩
    refine zAlloc ⟨?_⟩
    refine zStore ⟨?_⟩
    refine k16 _ ?_
    refine zk ⟨?_⟩
    refine v_seq ?_; intro Q17 n17 e17 r17
    refine v_draw (by kernel_rfl) ?_; intro K18 q18 k18
    show aAny _ _ _ _ 8 (Array.replicate 8 false) _
    refine zdFieldAddr q18 true 0 24 ?_
    refine zdLoad q18 true 1 25 ?_
    refine zdMove q18 true 2 26 ?_
    refine zdFieldAddr q18 true 3 27 ?_
    refine zdLoad q18 true 4 28 ?_
    refine zoc 5 (countOf_con w x0 hwl) ⟨?_⟩
    refine zdBinOpW q18 true 6 30 ?_
    refine zoAssign 7 ⟨?_⟩
    refine aAny_done (by kernel_rfl) ?_
    refine k18 _ ?_
    refine n17 _ _ (weak_keep [0, 6, 8, 9, 18, 19, 20] _) ?_
    refine zk ⟨?_⟩
    refine v_seqR [0,6,8,9,18,19,20,32] ?_; intro K19 k19
    refine zMove ⟨?_⟩
    refine zBinOp ⟨?_⟩
    refine k19 _ ?_
    refine zk ⟨?_⟩
    refine v_condS _ rfl ?_ ?_
    ·intro hc2
     have hst : spareF w (x0, x1, x2) = [(x0, x1 - cntOf w x0, x2)] := by unfold spareF; rw [if_pos (by first | omega | (have h := hc2; simp at h ⊢; omega))]
     have hsm : (spareL w (t.take i)).map (fun t : ByteArray × Int × Int => V.agg [V.str t.1, V.int .i64 t.2.1, V.int .i64 t.2.2]) ++ [V.agg [V.str x0, V.int .i64 (x1 - cntOf w x0), V.int .i64 x2]] = (spareL w (t.take (i + 1))).map (fun t : ByteArray × Int × Int => V.agg [V.str t.1, V.int .i64 t.2.1, V.int .i64 t.2.2]) := by unfold spareL; rw [flatMap_step hx, hst, List.map_append]; rfl
     refine v_region ?_; intro K21 k21
     refine zMove ⟨?_⟩
     refine zFieldAddr ⟨?_⟩
     refine zLoad ⟨?_⟩
     refine zMove ⟨?_⟩
     refine zFieldAddr ⟨?_⟩
     refine zLoad ⟨?_⟩
     refine zBuild ⟨?_⟩
     refine zBuildSlice ⟨?_⟩
     refine zAppend ⟨?_⟩
     refine zAssign ⟨?_⟩
     refine k21 _ ?_
     refine n15 _ ?_
     refine n14 _ _ (weak_keep [0, 6, 18, 19, 20] _) ?_
     refine zk ⟨?_⟩
     refine v_region ?_; intro K22 k22
     refine zBinOpW ⟨?_⟩
     refine zMove ⟨?_⟩
     refine k22 _ ?_
     refine n10 _ (i + 1) ?_ ?_ ?_
     ·refine weak_bothS [0, 6, 18, 19, 20] [3] ⟨?_⟩
      rw [← hsm]; rfl
     ·exact hlt
     ·show _ < _; omega
    ·intro hc2
     have hst : spareF w (x0, x1, x2) = [] := by unfold spareF; rw [if_neg (by first | omega | (have h := hc2; simp at h ⊢; omega))]
     have hsm : spareL w (t.take i) = spareL w (t.take (i + 1)) := by unfold spareL; rw [flatMap_step hx, hst, List.append_nil]
     refine v_skip ?_
     refine n15 _ ?_
     refine n14 _ _ (weak_keep [0, 6, 18, 19, 20] _) ?_
     refine zk ⟨?_⟩
     refine v_region ?_; intro K23 k23
     refine zBinOpW ⟨?_⟩
     refine zMove ⟨?_⟩
     refine k23 _ ?_
     refine n10 _ (i + 1) ?_ ?_ ?_
     ·refine weak_bothS [0, 6, 18, 19, 20] [0] ⟨?_⟩
      rw [← hsm]; rfl
     ·exact hlt
     ·show _ < _; omega
   ·intro hc1
    refine v_exit ?_
    refine e12 _ _ ?_
    refine e10 _ _ ?_
    refine x9 _ ?_
    refine n7 _ _ (weak_keep [6] _) ?_
    refine zk ⟨?_⟩
    refine v_seqR [4,5] ?_; intro K24 k24
    refine zMove ⟨?_⟩
    refine zAssign ⟨?_⟩
    refine zAssign ⟨?_⟩
    refine k24 _ ?_
    refine zk ⟨?_⟩
    refine v_ret ?_
    refine r0 _ ?_
    refine zf ⟨?_⟩
    have hend : t.take i = t := List.take_of_length_le (by omega)
    rw [hend, hsR, hB]
    exact ret_ref_tup rfl rfl rfl (.inl rfl)
set_option maxHeartbeats 1000000 in
theorem specSpare_con (w t : List (ByteArray × Int × Int)) (hwl : w.length ≤ 1048576) (htl : t.length ≤ 1048576) (hws : ∀ x ∈ w, x.1.size ≤ 9223372036854775807) (hts : ∀ x ∈ t, x.1.size ≤ 9223372036854775807) : Con Try.prog 9 [.sl (w.map (fun t : ByteArray × Int × Int => V.agg [V.str t.1, V.int .i64 t.2.1, V.int .i64 t.2.2])), .sl (t.map (fun t : ByteArray × Int × Int => V.agg [V.str t.1, V.int .i64 t.2.1, V.int .i64 t.2.2]))] [] (.tup [.ref 0, .bool (thsB w && thsB t)]) [.arr ((spareR w t).map (fun t : ByteArray × Int × Int => V.agg [V.str t.1, V.int .i64 t.2.1, V.int .i64 t.2.2])) .flat] := by
 refine v_con [.tmp 4, .tmp 5] [] Try.func9 rfl rfl rfl (by simp [Try.ntmps9]) ?_
 intro Q0 n0 r0
 simp only [Try.ntmps9, envFrom, Nat.reduceAdd]
 have T := Tys.mk (And.intro Ty.t3 (And.intro Ty.t4 (And.intro Ty.t9 (And.intro Ty.t23 Ty.t38))))
 have F := Fc.mk True.intro
 refine v_seqR [0,1] ?_; intro K1 k1
 refine zAssign ⟨?_⟩
 refine zAssign ⟨?_⟩
 refine k1 _ ?_
 refine zk ⟨?_⟩
 refine v_seq ?_; intro Q2 n2 e2 r2
 refine v_seqR [0,1,17] ?_; intro K3 k3
 refine zMove ⟨?_⟩
 refine zc (eqGood_con w hwl hws) ⟨?_⟩
 refine zUnOp ⟨?_⟩
 refine zMove ⟨?_⟩
 refine zgMove ⟨?_⟩
 refine zgc (eqGood_con t htl hts) ⟨?_⟩
 refine zgUnOp ⟨?_⟩
 refine zPick ⟨?_⟩
 refine k3 _ ?_
 refine zk ⟨?_⟩
 refine v_condS _ rfl ?_ ?_
 ·intro hc0
  have hB : (thsB w && thsB t) = false := by
   cases h1 : thsB w <;> cases h2 : thsB t <;> first | rfl | (exfalso; simp [h1, h2] at hc0)
  have hmR : missR w t = [] := by rw [missR, hB]; rfl
  have hsR : spareR w t = [] := by rw [spareR, hB]; rfl
  refine v_seqR [4,5] ?_; intro K5 k5
  refine zAssign ⟨?_⟩
  refine zAssign ⟨?_⟩
  refine k5 _ ?_
  refine zk ⟨?_⟩
  refine v_ret ?_
  refine r2 _ ?_
  refine r0 _ ?_
  refine zf ⟨?_⟩
  rw [hsR, hB]
  exact ret_ref_tup rfl rfl rfl (.inl rfl)
 ·intro hc0
  have hB : (thsB w && thsB t) = true := by
   cases h1 : thsB w <;> cases h2 : thsB t <;> first | rfl | (exfalso; simp [h1, h2] at hc0)
  have hB2 := hB
  rw [Bool.and_eq_true] at hB2
  have hwk := (ths_iff w).1 hB2.1
  have htk := (ths_iff t).1 hB2.2
  have hwb : ∀ x ∈ w, 1 ≤ x.2.1 ∧ x.2.1 ≤ 99 := fun x h => (hwk.ok x h).2.1
  have htb : ∀ x ∈ t, 1 ≤ x.2.1 ∧ x.2.1 ≤ 99 := fun x h => (htk.ok x h).2.1
  have hmR : missR w t = missL w t := by rw [missR, if_pos hB]
  have hsR : spareR w t = spareL w t := by rw [spareR, if_pos hB]
  refine v_skip ?_
  refine n2 _ _ (weak_keep [0, 1] _) ?_
  refine zk ⟨?_⟩
  refine v_seqR [0,1,6] ?_; intro K6 k6
  refine zAssign ⟨?_⟩
  refine k6 _ ?_
  refine zk ⟨?_⟩
  refine v_seq ?_; intro Q7 n7 e7 r7
  refine v_seqR [0,6,18,19,20] ?_; intro K8 k8
  refine zMove ⟨?_⟩
  refine zLen ⟨?_⟩
  refine zMove ⟨?_⟩
  refine k8 _ ?_
  refine zk ⟨?_⟩
  refine v_block ?_; intro Q9 n9 x9 e9 r9
  refine v_loop (fun i => ⟨[(0, .sl (w.map (fun t : ByteArray × Int × Int => V.agg [V.str t.1, V.int .i64 t.2.1, V.int .i64 t.2.2]))), (6, .ref 0), (18, .sl (t.map (fun t : ByteArray × Int × Int => V.agg [V.str t.1, V.int .i64 t.2.1, V.int .i64 t.2.2]))), (19, .int .i64 t.length), (20, .int .i64 (Nat.cast i))], [.arr ((spareL w (t.take i)).map (fun t : ByteArray × Int × Int => V.agg [V.str t.1, V.int .i64 t.2.1, V.int .i64 t.2.2])) .flat], false, 44, 0⟩) (fun i => i ≤ t.length) (fun i => t.length - i) 0 ?_ ?_ ?_
  ·refine weak_bothS [0, 6, 18, 19, 20] [1] ⟨?_⟩
   rfl
  ·exact Nat.zero_le _
  ·rintro i hok10 Q10 n10 e10 r10
   have hi1 : i ≤ t.length := hok10
   refine v_seqR [0,6,18,19,20,21] ?_; intro K11 k11
   refine zBinOp ⟨?_⟩
   refine k11 _ ?_
   refine zk ⟨?_⟩
   refine v_seq ?_; intro Q12 n12 e12 r12
   refine v_condS _ rfl ?_ ?_
   ·intro hc1
    have hlt : i < t.length := by omega
    obtain ⟨⟨x0, x1, x2⟩, hx⟩ : ∃ x : ByteArray × Int × Int, t[i]? = some x := ⟨t[i]'(by omega), List.getElem?_eq_getElem (by omega)⟩
    have hxb := htb _ (List.mem_of_getElem? hx)
    have hcb := cnt_bound hwb x0
    simp only [] at hxb
    have hlen := spareL_len w (t.take i)
    rw [List.length_take] at hlen
    refine v_skip ?_
    refine n12 _ _ (weak_keep [0, 6, 18, 19, 20] _) ?_
    refine zk ⟨?_⟩
    refine v_seq ?_; intro Q14 n14 e14 r14
    refine v_block ?_; intro Q15 n15 x15 e15 r15
    refine v_seqR [0,6,8,18,19,20] ?_; intro K16 k16
    have F := Fc.mk (fun f => getD_map (f := f) hx)
    refine zIndexAddr ⟨?_⟩
    refine zLoad ⟨?_⟩
    refine zAlloc ⟨?_⟩
    refine zStore ⟨?_⟩
    refine k16 _ ?_
    refine zk ⟨?_⟩
    refine v_seq ?_; intro Q17 n17 e17 r17
    refine v_draw (by kernel_rfl) ?_; intro K18 q18 k18
    show aAny _ _ _ _ 8 (Array.replicate 8 false) _
    refine zdFieldAddr q18 true 0 24 ?_
    refine zdLoad q18 true 1 25 ?_
    refine zdMove q18 true 2 26 ?_
    refine zdFieldAddr q18 true 3 27 ?_
    refine zdLoad q18 true 4 28 ?_
    refine zoc 5 (eqHas_con w x0 hwl hwk.srt) ⟨?_⟩
    refine zdBinOpW q18 true 6 30 ?_
    refine zoAssign 7 ⟨?_⟩
    refine aAny_done (by kernel_rfl) ?_
    refine k18 _ ?_
    refine n17 _ _ (weak_keep [0, 6, 8, 9, 18, 19, 20] _) ?_
    refine zk ⟨?_⟩
    refine v_seqR [0,6,8,9,18,19,20,32] ?_; intro K19 k19
    refine zMove ⟨?_⟩
    refine zBinOp ⟨?_⟩
    refine k19 _ ?_
    refine zk ⟨?_⟩
    refine v_condS _ rfl ?_ ?_
    ·intro hc2
     have hst : spareF w (x0, x1, x2) = [(x0, x1 - cntOf w x0, x2)] := by unfold spareF; rw [if_pos (by first | omega | (have h := hc2; simp at h ⊢; omega))]
     have hsm : (spareL w (t.take i)).map (fun t : ByteArray × Int × Int => V.agg [V.str t.1, V.int .i64 t.2.1, V.int .i64 t.2.2]) ++ [V.agg [V.str x0, V.int .i64 (x1 - cntOf w x0), V.int .i64 x2]] = (spareL w (t.take (i + 1))).map (fun t : ByteArray × Int × Int => V.agg [V.str t.1, V.int .i64 t.2.1, V.int .i64 t.2.2]) := by unfold spareL; rw [flatMap_step hx, hst, List.map_append]; rfl
     refine v_region ?_; intro K21 k21
     refine zMove ⟨?_⟩
     refine zFieldAddr ⟨?_⟩
     refine zLoad ⟨?_⟩
     refine zMove ⟨?_⟩
     refine zFieldAddr ⟨?_⟩
     refine zLoad ⟨?_⟩
     refine zBuild ⟨?_⟩
     refine zBuildSlice ⟨?_⟩
     refine zAppend ⟨?_⟩
     refine zAssign ⟨?_⟩
     refine k21 _ ?_
     refine n15 _ ?_
     refine n14 _ _ (weak_keep [0, 6, 18, 19, 20] _) ?_
     refine zk ⟨?_⟩
     refine v_region ?_; intro K22 k22
     refine zBinOpW ⟨?_⟩
     refine zMove ⟨?_⟩
     refine k22 _ ?_
     refine n10 _ (i + 1) ?_ ?_ ?_
     ·refine weak_bothS [0, 6, 18, 19, 20] [3] ⟨?_⟩
      rw [← hsm]; rfl
     ·exact hlt
     ·show _ < _; omega
    ·intro hc2
     have hst : spareF w (x0, x1, x2) = [] := by unfold spareF; rw [if_neg (by first | omega | (have h := hc2; simp at h ⊢; omega))]
     have hsm : spareL w (t.take i) = spareL w (t.take (i + 1)) := by unfold spareL; rw [flatMap_step hx, hst, List.append_nil]
     refine v_skip ?_
     refine n15 _ ?_
     refine n14 _ _ (weak_keep [0, 6, 18, 19, 20] _) ?_
     refine zk ⟨?_⟩
     refine v_region ?_; intro K23 k23
     refine zBinOpW ⟨?_⟩
     refine zMove ⟨?_⟩
     refine k23 _ ?_
     refine n10 _ (i + 1) ?_ ?_ ?_
     ·refine weak_bothS [0, 6, 18, 19, 20] [0] ⟨?_⟩
      rw [← hsm]; rfl
     ·exact hlt
     ·show _ < _; omega
   ·intro hc1
    refine v_exit ?_
    refine e12 _ _ ?_
    refine e10 _ _ ?_
    refine x9 _ ?_
    refine n7 _ _ (weak_keep [6] _) ?_
    refine zk ⟨?_⟩
    refine v_seqR [4,5] ?_; intro K24 k24
    refine zMove ⟨?_⟩
    refine zAssign ⟨?_⟩
    refine zAssign ⟨?_⟩
    refine k24 _ ?_
    refine zk ⟨?_⟩
    refine v_ret ?_
    refine r0 _ ?_
    refine zf ⟨?_⟩
    have hend : t.take i = t := List.take_of_length_le (by omega)
    rw [hend, hsR, hB]
    exact ret_ref_tup rfl rfl rfl (.inl rfl)
set_option maxHeartbeats 1000000 in
theorem jnName_con (s : ByteArray) (hs : s.size ≤ 9223372036854775807) : Con Try.prog 94 [.str s] [] (.bool (nameB s)) [] := by
 refine v_con [.tmp 2] [] Try.func94 rfl rfl rfl (by simp [Try.ntmps94]) ?_
 intro Q0 n0 r0
 simp only [Try.ntmps94, envFrom, Nat.reduceAdd]
 have T := Tys.mk (And.intro Ty.t3 (And.intro Ty.t4 (And.intro Ty.t5 Ty.t9)))
 have F := Fc.mk True.intro
 refine v_seqR [0] ?_; intro K1 k1
 refine zAssign ⟨?_⟩
 refine k1 _ ?_
 refine zk ⟨?_⟩
 refine v_seq ?_; intro Q2 n2 e2 r2
 refine v_seqR [0,3] ?_; intro K3 k3
 refine zAssign ⟨?_⟩
 refine k3 _ ?_
 refine zk ⟨?_⟩
 refine v_block ?_; intro Q4 n4 x4 e4 r4
 refine v_loop (fun i => ⟨[(0, .str s), (3, .int .i64 (Nat.cast i))], [], false, 40, 0⟩) (fun i => i ≤ s.size ∧ ∀ j, j < i → okAt s j = true) (fun i => s.size - i) 0 ?_ ?_ ?_
 ·refine weak_of [0, 3] ?_
  simp only [keep_mk, keepE_nil, keepE_cons, look_cons, look_nil, Nat.reduceEqDiff, reduceIte]
  rfl
 ·exact ⟨Nat.zero_le _, fun j h => absurd h (Nat.not_lt_zero _)⟩
 ·rintro i hok5 Q5 n5 e5 r5
  obtain ⟨hi1, hR⟩ := hok5
  refine v_seq ?_; intro Q6 n6 e6 r6
  refine v_seqR [0,3,7] ?_; intro K7 k7
  refine zMove ⟨?_⟩
  refine zMove ⟨?_⟩
  refine zLen ⟨?_⟩
  refine zBinOp ⟨?_⟩
  refine k7 _ ?_
  refine zk ⟨?_⟩
  refine v_condS _ rfl ?_ ?_
  ·intro hc0
   have hlt : i < s.size := by omega
   refine v_skip ?_
   refine n6 _ _ (weak_keep [0, 3] _) ?_
   refine zk ⟨?_⟩
   refine v_seq ?_; intro Q9 n9 e9 r9
   refine v_block ?_; intro Q10 n10 x10 e10 r10
   refine v_seqR [0,3,36] ?_; intro K11 k11
   refine zMove ⟨?_⟩
   refine zMove ⟨?_⟩
   refine zIndex ⟨?_⟩
   refine zBinOp ⟨?_⟩
   refine zMove ⟨?_⟩
   refine zgMove ⟨?_⟩
   refine zgMove ⟨?_⟩
   refine zgIndex ⟨?_⟩
   refine zgBinOp ⟨?_⟩
   refine zPick ⟨?_⟩
   refine zUnOp ⟨?_⟩
   refine zMove ⟨?_⟩
   refine zgMove ⟨?_⟩
   refine zgBinOp ⟨?_⟩
   refine zgMove ⟨?_⟩
   refine zgMove ⟨?_⟩
   refine zgMove ⟨?_⟩
   refine zgIndex ⟨?_⟩
   refine zgBinOp ⟨?_⟩
   refine zgPick ⟨?_⟩
   refine zgMove ⟨?_⟩
   refine zgMove ⟨?_⟩
   refine zgMove ⟨?_⟩
   refine zgIndex ⟨?_⟩
   refine zgBinOp ⟨?_⟩
   refine zgPick ⟨?_⟩
   refine zPick ⟨?_⟩
   refine k11 _ ?_
   refine zk ⟨?_⟩
   refine v_condS _ rfl ?_ ?_
   ·intro hc1
    have hbad : okAt s i = false := by simp only [okAt, Bool.or_eq_false_iff, Bool.and_eq_false_imp, decide_eq_true_eq, decide_eq_false_iff_not, Bool.not_eq_false', Bool.and_eq_true]; omega
    refine v_seqR [2] ?_; intro K13 k13
    refine zAssign ⟨?_⟩
    refine k13 _ ?_
    refine zk ⟨?_⟩
    refine v_ret ?_
    refine r10 _ ?_
    refine r9 _ ?_
    refine r5 _ ?_
    refine r4 _ ?_
    refine r2 _ ?_
    refine r0 _ ?_
    refine zf ⟨?_⟩
    exact ret_pure rfl (by rw [name_bad hlt hbad]) (.inl rfl)
   ·intro hc1
    have hgood : okAt s i = true := by simp only [okAt, Bool.or_eq_true, Bool.and_eq_true, decide_eq_true_eq, Bool.not_eq_true', decide_eq_false_iff_not]; omega
    refine v_skip ?_
    refine n10 _ ?_
    refine n9 _ _ (weak_keep [0, 3] _) ?_
    refine zk ⟨?_⟩
    refine v_region ?_; intro K14 k14
    refine zMove ⟨?_⟩
    refine zBinOpW ⟨?_⟩
    refine zAssign ⟨?_⟩
    refine k14 _ ?_
    refine n5 _ (i + 1) ?_ ?_ ?_
    ·refine weak_of [0, 3] ?_
     simp only [keep_mk, keepE_nil, keepE_cons, look_cons, look_nil, Nat.reduceEqDiff, reduceIte]
     rfl
    ·exact ⟨by omega, ok_step hR hgood⟩
    ·show _ < _; omega
  ·intro hc0
   refine v_exit ?_
   refine e6 _ _ ?_
   refine e5 _ _ ?_
   refine x4 _ ?_
   refine n2 _ _ (weak_keep [0] _) ?_
   refine zk ⟨?_⟩
   refine v_seqR [2] ?_; intro K15 k15
   refine zMove ⟨?_⟩
   refine zLen ⟨?_⟩
   refine zc (l1In_con _ _ _) ⟨?_⟩
   refine zAssign ⟨?_⟩
   refine k15 _ ?_
   refine zk ⟨?_⟩
   refine v_ret ?_
   refine r0 _ ?_
   refine zf ⟨?_⟩
   exact ret_pure rfl (by rw [name_good (by omega) hR]) (.inl rfl)
set_option maxHeartbeats 1000000 in
theorem isLoad_con (a : ByteArray) (l : List (ByteArray × Int × Int)) (ha : a.size ≤ 9223372036854775807) (hl : l.length ≤ 1048576) (hls : ∀ t ∈ l, t.1.size ≤ 9223372036854775807) : Con Try.prog 48 [.agg [.str a, .sl (l.map (fun t : ByteArray × Int × Int => V.agg [V.str t.1, V.int .i64 t.2.1, V.int .i64 t.2.2]))]] [] (.bool (nameB a && thsB l)) [] := by
 refine v_con [.tmp 2] [] Try.func48 rfl rfl rfl (by simp [Try.ntmps48]) ?_
 intro Q0 n0 r0
 simp only [Try.ntmps48, envFrom, Nat.reduceAdd]
 have T := Tys.mk (And.intro Ty.t3 (And.intro Ty.t4 (And.intro Ty.t9 (And.intro Ty.t23 (And.intro Ty.t29 Ty.t38)))))
 have F := Fc.mk True.intro
 refine v_seqR [1] ?_; intro K1 k1
 refine zBox ⟨?_⟩
 refine zAssign ⟨?_⟩
 refine k1 _ ?_
 refine zk ⟨?_⟩
 refine v_seqR [2] ?_; intro K2 k2
 refine zFieldAddr ⟨?_⟩
 refine zLoad ⟨?_⟩
 refine zc (isName_con a ha) ⟨?_⟩
 refine zMove ⟨?_⟩
 refine zgFieldAddr ⟨?_⟩
 refine zgLoad ⟨?_⟩
 refine zgc (areThings_con l hl hls) ⟨?_⟩
 refine zPick ⟨?_⟩
 refine zAssign ⟨?_⟩
 refine k2 _ ?_
 refine zk ⟨?_⟩
 refine v_ret ?_
 refine r0 _ ?_
 refine zf ⟨?_⟩
 exact ret_pure rfl (by first | rfl | simp) (.inl rfl)
set_option maxHeartbeats 1000000 in
theorem eqLoad_con (a : ByteArray) (l : List (ByteArray × Int × Int)) (ha : a.size ≤ 9223372036854775807) (hl : l.length ≤ 1048576) (hls : ∀ t ∈ l, t.1.size ≤ 9223372036854775807) : Con Try.prog 52 [.agg [.str a, .sl (l.map (fun t : ByteArray × Int × Int => V.agg [V.str t.1, V.int .i64 t.2.1, V.int .i64 t.2.2]))]] [] (.bool (nameB a && thsB l)) [] := by
 refine v_con [.tmp 2] [] Try.func52 rfl rfl rfl (by simp [Try.ntmps52]) ?_
 intro Q0 n0 r0
 simp only [Try.ntmps52, envFrom, Nat.reduceAdd]
 have T := Tys.mk (And.intro Ty.t3 (And.intro Ty.t4 (And.intro Ty.t9 (And.intro Ty.t23 (And.intro Ty.t29 Ty.t38)))))
 have F := Fc.mk True.intro
 refine v_seqR [1] ?_; intro K1 k1
 refine zBox ⟨?_⟩
 refine zAssign ⟨?_⟩
 refine k1 _ ?_
 refine zk ⟨?_⟩
 refine v_seqR [2] ?_; intro K2 k2
 refine zFieldAddr ⟨?_⟩
 refine zLoad ⟨?_⟩
 refine zc (jnName_con a ha) ⟨?_⟩
 refine zMove ⟨?_⟩
 refine zgFieldAddr ⟨?_⟩
 refine zgLoad ⟨?_⟩
 refine zgc (eqGood_con l hl hls) ⟨?_⟩
 refine zPick ⟨?_⟩
 refine zAssign ⟨?_⟩
 refine k2 _ ?_
 refine zk ⟨?_⟩
 refine v_ret ?_
 refine r0 _ ?_
 refine zf ⟨?_⟩
 exact ret_pure rfl (by first | rfl | simp) (.inl rfl)
set_option maxHeartbeats 1000000 in
theorem implIsLoad_con (a : ByteArray) (l : List (ByteArray × Int × Int)) (ha : a.size ≤ 9223372036854775807) (hl : l.length ≤ 1048576) (hls : ∀ t ∈ l, t.1.size ≤ 9223372036854775807) : Con Try.prog 18 [.agg [.str a, .sl (l.map (fun t : ByteArray × Int × Int => V.agg [V.str t.1, V.int .i64 t.2.1, V.int .i64 t.2.2]))]] [] (.bool (nameB a && thsB l)) [] := by
 refine v_con [.tmp 2] [] Try.func18 rfl rfl rfl (by simp [Try.ntmps18]) ?_
 intro Q0 n0 r0
 simp only [Try.ntmps18, envFrom, Nat.reduceAdd]
 have T := Tys.mk (And.intro Ty.t3 (And.intro Ty.t4 (And.intro Ty.t9 (And.intro Ty.t23 (And.intro Ty.t29 Ty.t38)))))
 have F := Fc.mk True.intro
 refine v_seqR [1] ?_; intro K1 k1
 refine zBox ⟨?_⟩
 refine zAssign ⟨?_⟩
 refine k1 _ ?_
 refine zk ⟨?_⟩
 refine v_seqR [2] ?_; intro K2 k2
 refine zLoad ⟨?_⟩
 refine zc (isLoad_con a l ha hl hls) ⟨?_⟩
 refine zAssign ⟨?_⟩
 refine k2 _ ?_
 refine zk ⟨?_⟩
 refine v_ret ?_
 refine r0 _ ?_
 refine zf ⟨?_⟩
 exact ret_pure rfl rfl (.inl rfl)
set_option maxHeartbeats 1000000 in
theorem copyLoad_con (a : ByteArray) (l : List (ByteArray × Int × Int)) (hl : l.length ≤ 1048576) : Con Try.prog 88 [.agg [.str a, .sl (l.map (fun t : ByteArray × Int × Int => V.agg [V.str t.1, V.int .i64 t.2.1, V.int .i64 t.2.2]))]] [] (.agg [.str a, .ref 0]) [.arr (l.map (fun t : ByteArray × Int × Int => V.agg [V.str t.1, V.int .i64 t.2.1, V.int .i64 t.2.2])) .flat] := by
 refine v_con [.cell 2 29] [] Try.func88 rfl rfl rfl (by simp [Try.ntmps88]) ?_
 intro Q0 n0 r0
 simp only [Try.ntmps88, envFrom, Nat.reduceAdd]
 have T := Tys.mk (And.intro Ty.t3 (And.intro Ty.t9 (And.intro Ty.t23 (And.intro Ty.t29 Ty.t38))))
 have F := Fc.mk True.intro
 refine v_seqR [1,2] ?_; intro K1 k1
 refine zBox ⟨?_⟩
 refine zAlloc ⟨?_⟩
 refine k1 _ ?_
 refine zk ⟨?_⟩
 refine v_seq ?_; intro Q2 n2 e2 r2
 refine v_draw (by kernel_rfl) ?_; intro K3 q3 k3
 show aAny _ _ _ _ 7 (Array.replicate 7 false) _
 refine zdFieldAddr q3 true 0 3 ?_
 refine zdLoad q3 true 1 4 ?_
 refine zdFieldAddr q3 true 2 5 ?_
 refine zdLoad q3 true 3 6 ?_
 refine zoc 4 (cloneThing_con l hl) ⟨?_⟩
 refine zdBuild q3 true 5 8 ?_
 refine zoStore 6 ⟨?_⟩
 refine aAny_done (by kernel_rfl) ?_
 refine k3 _ ?_
 refine n2 _ _ (weak_keep [2] _) ?_
 refine zk ⟨?_⟩
 refine v_ret ?_
 refine r0 _ ?_
 refine zf ⟨?_⟩
 simp only [zE, zL, zO, zN, aStepM, optable, set_some, Nat.reduceEqDiff, reduceIte, Nat.reduceLT, implies_true, forall_const, reduceCtorEq, V.ofValue, V.ofScalar, V.un, V.gd, aLoad, row_mk, Blk.row, PartOK, Go.Vm.part, V.cells, V.noSl, V.noRef, Nat.reduceAdd, Nat.reduceLeDiff, Nat.reduceMul, Try.underlying9, Ty.c9, Ty.a9, Try.underlying23, Ty.c23, Ty.a23, Try.underlying29, Ty.c29, Ty.a29]
 exact ret_all rfl (by first | decide | simp [newIds, refsOf, refs2, refs1]) (by simp) rfl (by simp [newIds, refsOf, refs2, refs1]) (by simp [Blk.kindIs, fillK_fd]) rfl
end Go.Proofs.Ytbameklegpgkfaa
