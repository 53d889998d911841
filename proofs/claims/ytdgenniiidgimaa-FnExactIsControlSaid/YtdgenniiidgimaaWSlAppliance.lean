/- What functions compute (SlAppliance). No condition. -/
import Derived.Test.YtdgenniiidgimaaTy
import Derived.Test.YtdgenniiidgimaaVmG
import Derived.Test.YtdgenniiidgimaaWLem
set_option linter.unusedSimpArgs false
set_option linter.unusedVariables false
set_option linter.defProp false
namespace Go.Proofs.Ytdgenniiidgimaa
open Go Go.Vm

set_option maxHeartbeats 1000000 in
theorem indexFuncAppliance_con (l : List (ByteArray × Int × Int × Int × Int)) (g : Nat) (caps : List V) (p : ByteArray × Int × Int × Int × Int → Bool) (hl : l.length ≤ 1048576) (hc : Caps caps) (hg : ∀ x0 x1 x2 x3 x4, (x0, x1, x2, x3, x4) ∈ l → Con Try.prog g (V.agg [V.str x0, V.int .i64 x1, V.int .i64 x2, V.int .i64 x3, V.int .i64 x4] :: caps) [] (.bool (p (x0, x1, x2, x3, x4))) []) : Con Try.prog 169 [.sl (l.map (fun t : ByteArray × Int × Int × Int × Int => V.agg [V.str t.1, V.int .i64 t.2.1, V.int .i64 t.2.2.1, V.int .i64 t.2.2.2.1, V.int .i64 t.2.2.2.2])), .fn g caps] [] (.int .i64 (firstP p 0 l)) [] := by
 refine v_con [.tmp 4] [] Try.func169 rfl rfl rfl (by simp [Try.ntmps169]) ?_
 intro Q0 n0 r0
 simp only [Try.ntmps169, envFrom, Nat.reduceAdd]
 have T := Tys.mk (And.intro Ty.t3 (And.intro Ty.t4 (And.intro Ty.t9 (And.intro Ty.t74 Ty.t141))))
 have F := Fc.mk True.intro
 refine v_seq ?_; intro Q1 n1 e1 r1
 refine v_region ?_; intro K2 k2
 refine zAssign ⟨?_⟩
 refine k2 _ ?_
 refine n1 _ _ (weak_keep [0, 1] _) ?_
 refine zk ⟨?_⟩
 refine v_seq ?_; intro Q3 n3 e3 r3
 refine v_seq ?_; intro Q4 n4 e4 r4
 refine v_region ?_; intro K5 k5
 refine zMove ⟨?_⟩
 refine zLen ⟨?_⟩
 refine zMove ⟨?_⟩
 refine k5 _ ?_
 refine n4 _ _ (weak_keep [0, 1, 7, 8] _) ?_
 refine zk ⟨?_⟩
 refine v_block ?_; intro Q6 n6 x6 e6 r6
 refine v_loop (fun i => ⟨[(0, .sl (l.map (fun t : ByteArray × Int × Int × Int × Int => V.agg [V.str t.1, V.int .i64 t.2.1, V.int .i64 t.2.2.1, V.int .i64 t.2.2.2.1, V.int .i64 t.2.2.2.2]))), (1, .fn g caps), (7, .int .i64 l.length), (8, .int .i64 (Nat.cast i))], [], false, 19, 0⟩) (fun i => i ≤ l.length ∧ firstP p i (l.drop i) = firstP p 0 l) (fun i => l.length - i) 0 ?_ ?_ ?_
 ·refine weak_of [0, 1, 7, 8] ?_
  simp only [keep_mk, keepE_nil, keepE_cons, look_cons, look_nil, Nat.reduceEqDiff, reduceIte]
  rfl
 ·exact ⟨Nat.zero_le _, rfl⟩
 ·rintro i hok7 Q7 n7 e7 r7
  obtain ⟨hi1, hR⟩ := hok7
  refine v_seq ?_; intro Q8 n8 e8 r8
  refine v_region ?_; intro K9 k9
  refine zBinOp ⟨?_⟩
  refine k9 _ ?_
  refine n8 _ _ (weak_keep [0, 1, 7, 8, 9] _) ?_
  refine zk ⟨?_⟩
  refine v_seq ?_; intro Q10 n10 e10 r10
  refine v_condS _ rfl ?_ ?_
  ·intro hc0
   have hlt : i < l.length := by omega
   obtain ⟨⟨x0, x1, x2, x3, x4⟩, hx⟩ : ∃ x : ByteArray × Int × Int × Int × Int, l[i]? = some x := ⟨l[i]'(by omega), List.getElem?_eq_getElem (by omega)⟩
   have hst := first_step (p := p) hx
   refine v_skip ?_
   refine n10 _ _ (weak_keep [0, 1, 7, 8] _) ?_
   refine zk ⟨?_⟩
   refine v_seq ?_; intro Q12 n12 e12 r12
   refine v_block ?_; intro Q13 n13 x13 e13 r13
   refine v_seq ?_; intro Q14 n14 e14 r14
   refine v_region ?_; intro K15 k15
   have F := Fc.mk (fun f => getD_map (f := f) hx)
   refine zMove ⟨?_⟩
   refine zAssign ⟨?_⟩
   refine k15 _ ?_
   refine n14 _ _ (weak_keep [0, 1, 5, 7, 8] _) ?_
   refine zk ⟨?_⟩
   refine v_seq ?_; intro Q16 n16 e16 r16
   refine v_region ?_; intro K17 k17
   refine zMove ⟨?_⟩
   refine zMove ⟨?_⟩
   refine zMove ⟨?_⟩
   refine zIndexAddr ⟨?_⟩
   refine zLoad ⟨?_⟩
   refine zcc (hg x0 x1 x2 x3 x4 (List.mem_of_getElem? hx)) ⟨?_⟩
   refine k17 _ ?_
   refine n16 _ _ (weak_keep [0, 1, 5, 7, 8, 16] _) ?_
   refine zk ⟨?_⟩
   refine v_condS _ rfl ?_ ?_
   ·intro hc1
    refine v_seq ?_; intro Q19 n19 e19 r19
    refine v_region ?_; intro K20 k20
    refine zMove ⟨?_⟩
    refine zAssign ⟨?_⟩
    refine k20 _ ?_
    refine n19 _ _ (weak_keep [4] _) ?_
    refine zk ⟨?_⟩
    refine v_ret ?_
    refine r13 _ ?_
    refine r12 _ ?_
    refine r7 _ ?_
    refine r6 _ ?_
    refine r3 _ ?_
    refine r0 _ ?_
    refine zf ⟨?_⟩
    exact ret_pure rfl (by rw [← hR, hst, if_pos hc1]) (.inl rfl)
   ·intro hc1
    refine v_skip ?_
    refine n13 _ ?_
    refine n12 _ _ (weak_keep [0, 1, 7, 8] _) ?_
    refine zk ⟨?_⟩
    refine v_region ?_; intro K21 k21
    refine zBinOpW ⟨?_⟩
    refine zMove ⟨?_⟩
    refine k21 _ ?_
    refine n7 _ (i + 1) ?_ ?_ ?_
    ·refine weak_bothC [0, 1, 7, 8] [] ⟨?_⟩
     rfl
    ·exact ⟨by omega, by rw [← hR, hst, if_neg (by simp [hc1])]⟩
    ·show _ < _; omega
  ·intro hc0
   refine v_exit ?_
   refine e10 _ _ ?_
   refine e7 _ _ ?_
   refine x6 _ ?_
   refine n3 _ _ (weak_keep [] _) ?_
   refine zk ⟨?_⟩
   refine v_seq ?_; intro Q22 n22 e22 r22
   refine v_region ?_; intro K23 k23
   refine zAssign ⟨?_⟩
   refine k23 _ ?_
   refine n22 _ _ (weak_keep [4] _) ?_
   refine zk ⟨?_⟩
   refine v_ret ?_
   refine r0 _ ?_
   refine zf ⟨?_⟩
   exact ret_pure rfl (by rw [← hR, first_end (by omega)]) (.inl rfl)
set_option maxHeartbeats 1000000 in
theorem containsFuncAppliance_con (l : List (ByteArray × Int × Int × Int × Int)) (g : Nat) (caps : List V) (p : ByteArray × Int × Int × Int × Int → Bool) (hl : l.length ≤ 1048576) (hc : Caps caps) (hg : ∀ x0 x1 x2 x3 x4, (x0, x1, x2, x3, x4) ∈ l → Con Try.prog g (V.agg [V.str x0, V.int .i64 x1, V.int .i64 x2, V.int .i64 x3, V.int .i64 x4] :: caps) [] (.bool (p (x0, x1, x2, x3, x4))) []) : Con Try.prog 115 [.sl (l.map (fun t : ByteArray × Int × Int × Int × Int => V.agg [V.str t.1, V.int .i64 t.2.1, V.int .i64 t.2.2.1, V.int .i64 t.2.2.2.1, V.int .i64 t.2.2.2.2])), .fn g caps] [] (.bool (l.any p)) [] := by
 refine v_con [.tmp 4] [] Try.func115 rfl rfl rfl (by simp [Try.ntmps115]) ?_
 intro Q0 n0 r0
 simp only [Try.ntmps115, envFrom, Nat.reduceAdd]
 have T := Tys.mk (And.intro Ty.t3 (And.intro Ty.t9 (And.intro Ty.t74 Ty.t141)))
 have F := Fc.mk True.intro
 refine v_seq ?_; intro Q1 n1 e1 r1
 refine v_region ?_; intro K2 k2
 refine zAssign ⟨?_⟩
 refine k2 _ ?_
 refine n1 _ _ (weak_keep [0, 1] _) ?_
 refine zk ⟨?_⟩
 refine v_seq ?_; intro Q3 n3 e3 r3
 refine v_region ?_; intro K4 k4
 refine zMove ⟨?_⟩
 refine zMove ⟨?_⟩
 refine zcc (indexFuncAppliance_con l g caps p hl hc hg) ⟨?_⟩
 refine zBinOp ⟨?_⟩
 refine zAssign ⟨?_⟩
 refine k4 _ ?_
 refine n3 _ _ (weak_keep [4] _) ?_
 refine zk ⟨?_⟩
 refine v_ret ?_
 refine r0 _ ?_
 refine zf ⟨?_⟩
 exact ret_pure rfl (by rw [first_any]) (.inl rfl)
end Go.Proofs.Ytdgenniiidgimaa
