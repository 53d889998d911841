/- What functions compute (Need). No condition. -/
import Derived.Test.YtdgenniiidgimaaTy
import Derived.Test.YtdgenniiidgimaaVmG
import Derived.Test.YtdgenniiidgimaaWRising
import Derived.Test.YtdgenniiidgimaaWDisp
import Derived.Test.YtdgenniiidgimaaWBase
import Derived.Test.YtdgenniiidgimaaWNeeds
set_option linter.unusedSimpArgs false
set_option linter.unusedVariables false
set_option linter.defProp false
namespace Go.Proofs.Ytdgenniiidgimaa
open Go Go.Vm

def need4 (l : List Int) : Bool := decide ((l.length : Int) = 4) && l.all (fun x : Int => inR x 0 6)
theorem need4_facts {l : List Int} (h : need4 l = true) : l.length = 4 ∧ ∀ x ∈ l, 0 ≤ x ∧ x ≤ 6 := by
  simp only [need4, Bool.and_eq_true, decide_eq_true_eq, List.all_eq_true, inR] at h
  exact ⟨by omega, h.2⟩

set_option maxHeartbeats 1000000 in
theorem isNeed_con (l : List Int) (hl : l.length ≤ 1048576) : Con Try.prog 105 [.sl (l.map (V.int .i64))] [] (.bool (need4 l)) [] := by
 refine v_con [.tmp 2] [] Try.func105 rfl rfl rfl (by simp [Try.ntmps105]) ?_
 intro Q0 n0 r0
 simp only [Try.ntmps105, envFrom, Nat.reduceAdd]
 have T := Tys.mk (And.intro Ty.t3 (And.intro Ty.t4 Ty.t26))
 have F := Fc.mk True.intro
 refine v_seq ?_; intro Q1 n1 e1 r1
 refine v_region ?_; intro K2 k2
 refine zAssign ⟨?_⟩
 refine k2 _ ?_
 refine n1 _ _ (weak_keep [0] _) ?_
 refine zk ⟨?_⟩
 refine v_seq ?_; intro Q3 n3 e3 r3
 refine v_seq ?_; intro Q4 n4 e4 r4
 refine v_region ?_; intro K5 k5
 refine zMove ⟨?_⟩
 refine zLen ⟨?_⟩
 refine zMove ⟨?_⟩
 refine k5 _ ?_
 refine n4 _ _ (weak_keep [0, 5, 6, 7] _) ?_
 refine zk ⟨?_⟩
 refine v_block ?_; intro Q6 n6 x6 e6 r6
 refine v_loop (fun i => ⟨[(0, .sl (l.map (V.int .i64))), (5, .sl (l.map (V.int .i64))), (6, .int .i64 l.length), (7, .int .i64 (Nat.cast i))], [], false, 18, 0⟩) (fun i => i ≤ l.length ∧ (l.drop i).all (fun x : Int => inR x 0 6) = l.all (fun x : Int => inR x 0 6)) (fun i => l.length - i) 0 ?_ ?_ ?_
 ·refine weak_of [0, 5, 6, 7] ?_
  simp only [keep_mk, keepE_nil, keepE_cons, look_cons, look_nil, Nat.reduceEqDiff, reduceIte]
  rfl
 ·exact ⟨Nat.zero_le _, rfl⟩
 ·rintro i hok7 Q7 n7 e7 r7
  obtain ⟨hi1, hR⟩ := hok7
  refine v_seq ?_; intro Q8 n8 e8 r8
  refine v_region ?_; intro K9 k9
  refine zBinOp ⟨?_⟩
  refine k9 _ ?_
  refine n8 _ _ (weak_keep [0, 5, 6, 7, 8] _) ?_
  refine zk ⟨?_⟩
  refine v_seq ?_; intro Q10 n10 e10 r10
  refine v_condS _ rfl ?_ ?_
  ·intro hc0
   have hlt : i < l.length := by omega
   obtain ⟨x, hx⟩ : ∃ x, l[i]? = some x := ⟨_, List.getElem?_eq_getElem hlt⟩
   have hst := all_step (p := (fun x : Int => inR x 0 6)) hx
   refine v_skip ?_
   refine n10 _ _ (weak_keep [0, 5, 6, 7] _) ?_
   refine zk ⟨?_⟩
   refine v_seq ?_; intro Q12 n12 e12 r12
   refine v_block ?_; intro Q13 n13 x13 e13 r13
   refine v_seq ?_; intro Q14 n14 e14 r14
   refine v_region ?_; intro K15 k15
   have F := Fc.mk (fun f => getD_map (f := f) hx)
   refine zIndexAddr ⟨?_⟩
   refine zLoad ⟨?_⟩
   refine zAssign ⟨?_⟩
   refine k15 _ ?_
   refine n14 _ _ (weak_keep [0, 4, 5, 6, 7] _) ?_
   refine zk ⟨?_⟩
   refine v_seq ?_; intro Q16 n16 e16 r16
   refine v_region ?_; intro K17 k17
   refine zMove ⟨?_⟩
   refine zc (inside_con _ _ _) ⟨?_⟩
   refine zUnOp ⟨?_⟩
   refine k17 _ ?_
   refine n16 _ _ (weak_keep [0, 5, 6, 7, 13] _) ?_
   refine zk ⟨?_⟩
   refine v_condS _ rfl ?_ ?_
   ·intro hc1
    refine v_seq ?_; intro Q19 n19 e19 r19
    refine v_region ?_; intro K20 k20
    refine zAssign ⟨?_⟩
    refine k20 _ ?_
    refine n19 _ _ (weak_keep [2] _) ?_
    refine zk ⟨?_⟩
    refine v_ret ?_
    refine r13 _ ?_
    refine r12 _ ?_
    refine r7 _ ?_
    refine r6 _ ?_
    refine r3 _ ?_
    refine r0 _ ?_
    refine zf ⟨?_⟩
    exact ret_pure rfl (by rw [need4, ← hR, hst]; (try simp at hc1); simp [inR]; intros; omega) (.inl rfl)
   ·intro hc1
    refine v_skip ?_
    refine n13 _ ?_
    refine n12 _ _ (weak_keep [0, 5, 6, 7] _) ?_
    refine zk ⟨?_⟩
    refine v_region ?_; intro K21 k21
    refine zBinOpW ⟨?_⟩
    refine zMove ⟨?_⟩
    refine k21 _ ?_
    refine n7 _ (i + 1) ?_ ?_ ?_
    ·refine weak_bothS [0, 5, 6, 7] [] ⟨?_⟩
     rfl
    ·exact ⟨by omega, by rw [← hR, hst]; (try simp at hc1); simp [inR]; intros; omega⟩
    ·show _ < _; omega
  ·intro hc0
   refine v_exit ?_
   refine e10 _ _ ?_
   refine e7 _ _ ?_
   refine x6 _ ?_
   refine n3 _ _ (weak_keep [0] _) ?_
   refine zk ⟨?_⟩
   refine v_seq ?_; intro Q22 n22 e22 r22
   refine v_region ?_; intro K23 k23
   refine zMove ⟨?_⟩
   refine zLen ⟨?_⟩
   refine zBinOp ⟨?_⟩
   refine zAssign ⟨?_⟩
   refine k23 _ ?_
   refine n22 _ _ (weak_keep [2] _) ?_
   refine zk ⟨?_⟩
   refine v_ret ?_
   refine r0 _ ?_
   refine zf ⟨?_⟩
   exact ret_pure rfl (by rw [need4, ← hR, all_end (by omega)]; simp) (.inl rfl)
set_option maxHeartbeats 1000000 in
theorem tbNeed_con (l : List Int) (hl : l.length ≤ 1048576) : Con Try.prog 97 [.sl (l.map (V.int .i64))] [] (.bool (need4 l)) [] := by
 refine v_con [.tmp 2] [] Try.func97 rfl rfl rfl (by simp [Try.ntmps97]) ?_
 intro Q0 n0 r0
 simp only [Try.ntmps97, envFrom, Nat.reduceAdd]
 have T := Tys.mk (And.intro Ty.t3 (And.intro Ty.t4 Ty.t26))
 have F := Fc.mk True.intro
 refine v_seq ?_; intro Q1 n1 e1 r1
 refine v_region ?_; intro K2 k2
 refine zAssign ⟨?_⟩
 refine k2 _ ?_
 refine n1 _ _ (weak_keep [0] _) ?_
 refine zk ⟨?_⟩
 refine v_seq ?_; intro Q3 n3 e3 r3
 refine v_region ?_; intro K4 k4
 refine zMove ⟨?_⟩
 refine zLen ⟨?_⟩
 refine zBinOp ⟨?_⟩
 refine zMove ⟨?_⟩
 refine zgMove ⟨?_⟩
 refine zgc (l1All_con l 0 6 hl) ⟨?_⟩
 refine zPick ⟨?_⟩
 refine zAssign ⟨?_⟩
 refine k4 _ ?_
 refine n3 _ _ (weak_keep [2] _) ?_
 refine zk ⟨?_⟩
 refine v_ret ?_
 refine r0 _ ?_
 refine zf ⟨?_⟩
 exact ret_pure rfl (by simp [need4, inR]) (.inl rfl)
end Go.Proofs.Ytdgenniiidgimaa
